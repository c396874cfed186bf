import PyProof.Rows.All
import Wide.All
import OpenK.AllK
import Wide.FinOn
import PySem.Syntax
import PySem.Eval
import PyProof.AssignAttr
import PyProof.TupleIter
import PyProof.CallRoads
import PyProof.Cells
import PyProof.PlainList
import PyProof.CompFree
import PyProof.DictKinds
import PyProof.MeetsDictList
import PyProof.DictRoads
import PyProof.DictStraight
import PyProof.DictTable
import PyProof.StationsW
import PyProof.RangeFor
import PyProof.Rows.TupIn
import PyProof.ZipIter
import PyProof.WalksPairs
import PyProof.Rows.Top
import PyProof.SeqI3
import PyProof.RulesDelMore
import PyProof.TypeOfCall
import OpenK.KCall
import OpenK.KMake
import OpenK.KCls
import OpenK.KWalk
import KE.KxBytes
import KE.BytesMake
import OpenK.KRaise
import KE.BytesMulAny
import KE.KBytesCut
import Lean
import PySem.Challenge.RW_sx_r123_2
set_option Elab.async false
set_option bootstrap.genMatcherCode false
set_option genSizeOf false
set_option linter.all false
set_option genInjectivity false
namespace Mine
set_option tactic.hygienic false
open PySem

/-! pure data, and a small syntax of our own -/
set_option genInjectivity true in
inductive D where
  | none
  | bool (b : Bool)
  | int (i : Int)
  | str (k : Nat)
  | bytes (l : List Nat)
  | tuple (ds : List D)
  | list (ds : List D)
  deriving Inhabited

inductive Ty where
  | bool | bytes

inductive E where
  | none | tt (b : Bool) | int (i : Int) | str (k : Nat) | byt (l : List Nat)
  | var (x : Nat) | glob (g : Nat)
  | bin (op : Operator) (l r : E)
  | not (e : E) | neg (e : E)
  | and (es : List E) | or (es : List E)
  | ifx (c a b : E)
  | cmp (op : CmpOp) (l r : E)
  | cmp2 (o p : CmpOp) (a b c : E)
  | isty (pos : Bool) (e : E) (t : Ty)
  | tup (es : List E) | lst (es : List E)
  | idx (e i : E)
  | slc (e lo hi : E)
  | dget (kvs : List (Nat × Int)) (k : E)
  | call (f : Nat) (args : List E)
  | len (e : E) | bytesOf (e : E) | maxOf (e : E) | join (sep : List Nat) (e : E)
  | comp (elt : E) (xs : List Nat) (one : Bool) (it : E) (ifs : List E) (cap : List Nat)
  | range (a b : E) | zip (a b : E)
  | newRecv
  | hin (pos : Bool) (self : Nat) (x : E)

inductive S where
  | asg (x : Nat) (e : E)
  | own (x : Nat) (e : E)
  | asgs (xs : List Nat) (es : List (Bool × E))
  | asgT (xs : List Nat) (e : E)
  | app (x : Nat) (e : E)
  | frz (x : Nat)
  | expr (e : E)
  | ret (e : E)
  | ifs (c : E) (a b : List S)
  | whl (c : E) (b : List S)
  | for (xs : List Nat) (one : Bool) (it : E) (b : List S)
  | raise
  | try (b : List S) (x : Nat) (e : E)
  | ifh (r : Nat) (arg right : E) (more : Option E) (b : List S)
  | hset (self x : Nat)
  | hdel (self x : Nat)

set_option genInjectivity true in
/-- what a name of a frame holds -/
inductive LV where
  | v (d : D)
  | own (ds : List D)
  | brw (ds : List D)
  | rcv (held : List Int)

noncomputable abbrev Loc := List (Nat × LV)
noncomputable def Loc.get : Loc → Nat → Option LV
  | [], _ => .none
  | (y, l) :: r, x => match Nat.beq y x with
    | true => some l
    | false => Loc.get r x
noncomputable def Loc.set : Loc → Nat → LV → Loc
  | [], x, l => [(x, l)]
  | (y, l') :: r, x, l => match Nat.beq y x with
    | true => (y, l) :: r
    | false => (y, l') :: Loc.set r x l

noncomputable def br (b : Bool) (P Q : Prop) : Prop := match b with
  | true => P
  | false => Q
noncomputable def opt {α : Type} (o : Option α) (K : α → Prop) : Prop := match o with
  | some a => K a
  | none => False

noncomputable def eqAll (f : D → D → Option Bool) : List D → List D → Option Bool
  | [], ys => match ys with
    | [] => some true
    | _ :: _ => some false
  | x :: xs, ys => match ys with
    | [] => some false
    | y :: ys => match f x y, eqAll f xs ys with
      | some a, some b => some (a && b)
      | _, _ => .none
/-- Python's ==, of alike data; none where it is not served (what is unlike, what is too deep) -/
noncomputable def eqF (f : D → D → Option Bool) (a b : D) : Option Bool := match a with
  | .none => (match b with
    | .none => some true
    | _ => .none)
  | .bool x => (match b with
    | .bool y => some (x == y)
    | .int y => some (decide ((if x then 1 else 0) = y))
    | _ => .none)
  | .int x => (match b with
    | .int y => some (decide (x = y))
    | .bool y => some (decide (x = (if y then 1 else 0)))
    | _ => .none)
  | .str x => (match b with
    | .str y => some (Nat.beq x y)
    | _ => .none)
  | .bytes x => (match b with
    | .bytes y => some (x == y)
    | _ => .none)
  | .tuple x => (match b with
    | .tuple y => eqAll f x y
    | _ => .none)
  | .list x => (match b with
    | .list y => eqAll f x y
    | _ => .none)
noncomputable def D.eqN : Nat → D → D → Option Bool
  | 0 => fun _ _ => .none
  | n + 1 => eqF (D.eqN n)
noncomputable def D.eq (a b : D) : Option Bool := D.eqN 9 a b
noncomputable def D.anyEq (d : D) : List D → Option Bool
  | [] => some false
  | x :: r => match D.eq x d, D.anyEq d r with
    | some a, some b => some (a || b)
    | _, _ => .none

noncomputable def D.tr : D → Option Bool
  | .none => some false
  | .bool b => some b
  | .int i => some (decide (i ≠ 0))
  | .str _ => .none
  | .bytes l => some (!l.isEmpty)
  | .tuple l => some (!l.isEmpty)
  | .list l => some (!l.isEmpty)

/-- a size that the model bears -/
noncomputable def fits (n : Nat) : Bool := Nat.ble n 1048576
noncomputable def small (a : Int) : Bool := Nat.ble a.natAbs 4294967296
noncomputable def gd {α : Type} (b : Bool) (a : α) : Option α := match b with
  | true => some a
  | false => none
noncomputable def intOp {α : Type} (f : Int → Int → Option α) (a b : D) : Option α := match a with
  | .int i => (match b with
    | .int j => f i j
    | _ => .none)
  | _ => .none
noncomputable def natOp (f : Nat → Nat → Option D) (i j : Int) : Option D := match i with
  | .ofNat a => (match j with
    | .ofNat b => f a b
    | .negSucc _ => .none)
  | .negSucc _ => .none
noncomputable def posOp (f : Nat → Option D) (j : Int) : Option D := match j with
  | .ofNat n => (match n with
    | 0 => .none
    | m + 1 => f m)
  | .negSucc _ => .none
noncomputable def addD (a b : D) : Option D := match a with
  | .int i => (match b with
    | .int j => some (.int (i + j))
    | _ => .none)
  | .bytes x => (match b with
    | .bytes y => gd (fits (x.length + y.length)) (.bytes (x ++ y))
    | _ => .none)
  | .list x => (match b with
    | .list y => gd (fits (x.length + y.length)) (.list (x ++ y))
    | _ => .none)
  | _ => .none
noncomputable def repB (l : List Nat) (j : Int) : Option D := match j with
  | .ofNat n => gd (Nat.beq l.length 1 && fits n) (.bytes (List.replicate n (l.headD 0)))
  | .negSucc _ => .none
noncomputable def mulD (a b : D) : Option D := match a with
  | .int i => (match b with
    | .int j => gd (small j || small i) (.int (i * j))
    | _ => .none)
  | .bytes l => (match b with
    | .int j => repB l j
    | _ => .none)
  | _ => .none
noncomputable def binop (op : Operator) (a b : D) : Option D := match op with
  | .Add => addD a b
  | .Sub => intOp (fun i j => some (.int (i - j))) a b
  | .Mult => mulD a b
  | .FloorDiv => intOp (fun i j => posOp (fun n => gd (Nat.ble n 1000000000) (.int (i / (n + 1 : Nat)))) j) a b
  | .Mod => intOp (fun i j => posOp (fun n => some (.int (i % (n + 1 : Nat)))) j) a b
  | .RShift => intOp (natOp fun a b => some (.int (a / 2 ^ b : Nat))) a b
  | .LShift => intOp (natOp fun a b => gd (small a && Nat.ble b 64) (.int (a * 2 ^ b : Nat))) a b
  | .BitAnd => intOp (natOp fun a b => some (.int (a &&& b : Nat))) a b
  | _ => .none

noncomputable def at? {α : Type} (l : List α) : Int → Option α
  | .ofNat k => l[k]?
  | .negSucc k => if k < l.length then l[l.length - 1 - k]? else none
noncomputable def D.idx : D → D → Option D
  | .bytes l, .int i => (at? l i).map fun b => .int (b : Nat)
  | .tuple l, .int i => at? l i
  | .list l, .int i => at? l i
  | _, _ => .none
noncomputable def place (n : Nat) : Int → Nat
  | .ofNat k => min k n
  | .negSucc k => n - (k + 1)
noncomputable def cutL {α : Type} (l : List α) (lo hi : Option Int) : List α :=
  (l.take (hi.elim l.length (place l.length))).drop (lo.elim 0 (place l.length))
noncomputable def D.bound : D → Option (Option Int)
  | .none => some .none
  | .int i => some (some i)
  | _ => .none
noncomputable def D.cut (d lo hi : D) : Option D :=
  match lo.bound, hi.bound with
  | some a, some b => match d with
    | .bytes l => some (.bytes (cutL l a b))
    | .list l => some (.list (cutL l a b))
    | _ => .none
  | _, _ => .none
noncomputable def isNo : D → Bool
  | .none => true
  | _ => false
noncomputable def D.isIt (a b : D) : Option Bool := match b with
  | .none => some (isNo a)
  | .bool y => (match a with
    | .bool x => some (x == y)
    | _ => .none)
  | _ => .none
noncomputable def D.isIn (d l : D) : Option Bool := match l with
  | .tuple l => D.anyEq d l
  | .list l => D.anyEq d l
  | _ => .none
noncomputable def cmp (op : CmpOp) (a b : D) : Option Bool := match op with
  | .Eq => D.eq a b
  | .NotEq => (D.eq a b).map (!·)
  | .Lt => intOp (fun a b => some (decide (a < b))) a b
  | .LtE => intOp (fun a b => some (decide (a ≤ b))) a b
  | .Gt => intOp (fun a b => some (decide (a > b))) a b
  | .GtE => intOp (fun a b => some (decide (a ≥ b))) a b
  | .Is => D.isIt a b
  | .IsNot => (D.isIt a b).map (!·)
  | .In => D.isIn a b
  | .NotIn => (D.isIn a b).map (!·)
noncomputable def D.isTy : D → Ty → Bool
  | .bool _, .bool => true
  | .bytes _, .bytes => true
  | _, _ => false
noncomputable def D.len : D → Option D
  | .bytes l => some (.int (l.length : Nat))
  | .tuple l => some (.int (l.length : Nat))
  | .list l => some (.int (l.length : Nat))
  | _ => .none
noncomputable def byteOf : D → Option Nat
  | .int (.ofNat n) => if n < 256 then some n else .none
  | _ => .none
noncomputable def bytesOfL : List D → Option (List Nat)
  | [] => some []
  | d :: r => match byteOf d, bytesOfL r with
    | some n, some l => some (n :: l)
    | _, _ => .none
noncomputable def D.bytesOf : D → Option D
  | .list l => (bytesOfL l).map .bytes
  | _ => .none
noncomputable def joinL (sep : List Nat) : List D → Option (List Nat)
  | [] => some []
  | [.bytes a] => some a
  | .bytes a :: r => (joinL sep r).map fun b => a ++ sep ++ b
  | _ => .none
noncomputable def D.join (sep : List Nat) : D → Option D
  | .list l => match joinL sep l with
    | some b => gd (fits b.length) (.bytes b)
    | .none => .none
  | _ => .none
noncomputable def maxL : Int → List D → Option Int
  | m, [] => some m
  | m, .int i :: r => maxL (if m < i then i else m) r
  | _, _ => .none
noncomputable def D.max : D → Option D
  | .list (.int i :: r) => (maxL i r).map .int
  | _ => .none
noncomputable def dgetL : List (Nat × Int) → Nat → Option D
  | [], _ => .none
  | (k, v) :: r, x => match Nat.beq k x with
    | true => some (.int v)
    | false => dgetL r x
noncomputable def rangeL (a : Int) : Nat → List D
  | 0 => []
  | n + 1 => .int a :: rangeL (a + 1) n
noncomputable def zipL : List D → List D → List D
  | a :: r, b :: q => .tuple [a, b] :: zipL r q
  | _, _ => []
noncomputable def D.items : D → Option (List D)
  | .list l => some l
  | .tuple l => some l
  | _ => .none
/-- the names of a target take an item -/
noncomputable def Loc.bind (ρ : Loc) (xs : List Nat) (one : Bool) (d : D) : Option Loc := match one with
  | true => (match xs with
    | [x] => some (ρ.set x (.v d))
    | _ => .none)
  | false => (match d with
    | .tuple ds => if xs.length = ds.length then some ((xs.zip ds).foldl (fun ρ p => ρ.set p.1 (.v p.2)) ρ) else .none
    | _ => .none)
noncomputable def Loc.only (ρ : Loc) : List Nat → Loc
  | [] => []
  | x :: r => match ρ.get x with
    | some (.v d) => (x, .v d) :: Loc.only ρ r
    | _ => Loc.only ρ r

/-- a contract: what must hold of a call's end -/
noncomputable abbrev Spec := List LV → (D → Prop) → Prop → Prop
noncomputable abbrev Phi := Nat → Spec

noncomputable def compGo (step : D → (Option D → Prop) → Prop) : List D → List D → (List D → Prop) → Prop
  | [], acc, K => K acc
  | d :: r, acc, K => step d fun o => match o with
    | some y => compGo step r (acc ++ [y]) K
    | none => compGo step r acc K

section
variable (Φ : Phi) (G : Nat → D)
mutual
noncomputable def xE : Nat → E → Loc → (D → Prop) → Prop → Prop
  | 0, _, _, _, _ => False
  | n + 1, e, ρ, K, X => match e with
    | .none => K .none
    | .tt b => K (.bool b)
    | .int i => K (.int i)
    | .str k => K (.str k)
    | .byt l => K (.bytes l)
    | .var x => match ρ.get x with
      | some (.v d) => K d
      | _ => False
    | .glob g => K (G g)
    | .bin op l r => xE n l ρ (fun a => xE n r ρ (fun b => opt (binop op a b) K) X) X
    | .not e => xE n e ρ (fun a => opt a.tr fun b => K (.bool (!b))) X
    | .neg e => xE n e ρ (fun a => match a with | .int i => K (.int (-i)) | _ => False) X
    | .and es => xAnd n es ρ K X
    | .or es => xOr n es ρ K X
    | .ifx c a b => xE n c ρ (fun d => opt d.tr fun t => br t (xE n a ρ K X) (xE n b ρ K X)) X
    | .cmp op l r => xE n l ρ (fun a => xE n r ρ (fun b => opt (cmp op a b) fun t => K (.bool t)) X) X
    | .cmp2 o p a b c => xE n a ρ (fun x => xE n b ρ (fun y => opt (cmp o x y) fun t => br t (xE n c ρ (fun z => opt (cmp p y z) fun t => K (.bool t)) X) (K (.bool false))) X) X
    | .isty pos e t => xE n e ρ (fun a => K (.bool (a.isTy t == pos))) X
    | .tup es => xEs n es ρ (fun ds => K (.tuple ds)) X
    | .lst es => xEs n es ρ (fun ds => K (.list ds)) X
    | .idx e i => xE n e ρ (fun a => xE n i ρ (fun b => opt (a.idx b) K) X) X
    | .slc e lo hi => xE n e ρ (fun a => xE n lo ρ (fun b => xE n hi ρ (fun c => opt (a.cut b c) K) X) X) X
    | .dget kvs k => xE n k ρ (fun a => match a with | .str x => opt (dgetL kvs x) K | _ => False) X
    | .call f args => xAs n args ρ (fun ls => Φ f ls K X) X
    | .len e => xE n e ρ (fun a => opt a.len K) X
    | .bytesOf e => xE n e ρ (fun a => opt a.bytesOf K) X
    | .maxOf e => xE n e ρ (fun a => opt a.max K) X
    | .join sep e => xE n e ρ (fun a => opt (a.join sep) K) X
    | .comp elt xs one it ifs cap => (fun J : List D → Prop => match it with
        | .var x => (match ρ.get x with
          | some (.v d) => opt d.items J
          | some (.own ds) => J ds
          | some (.brw ds) => J ds
          | _ => False)
        | .range a b => xE n a ρ (fun x => xE n b ρ (fun y => match x, y with
          | .int i, .int j => (small i && small j && fits (j - i).toNat) = true ∧ J (rangeL i (j - i).toNat)
          | _, _ => False) X) X
        | .zip a b => xE n a ρ (fun x => xE n b ρ (fun y => match x, y with
          | .list i, .list j => J (zipL i j)
          | _, _ => False) X) X
        | e => xE n e ρ (fun d => opt d.items J) X)
      (fun items => compGo (fun d C => opt ((ρ.only cap).bind xs one d) fun σ => match ifs with
        | [] => xE n elt σ (fun y => C (some y)) False
        | c :: _ => xE n c σ (fun t => opt t.tr fun t => br t (xE n elt σ (fun y => C (some y)) False) (C .none)) False) items [] fun ds => K (.list ds))
    | .range _ _ => False
    | .zip _ _ => False
    | .newRecv => False
    | .hin pos self x => xE n x ρ (fun a => match a, ρ.get self with | .int i, some (.rcv held) => K (.bool (held.contains i == pos)) | _, _ => False) X
noncomputable def xAnd : Nat → List E → Loc → (D → Prop) → Prop → Prop
  | 0, _, _, _, _ => False
  | n + 1, es, ρ, K, X => match es with
    | [] => K (.bool true)
    | [e] => xE n e ρ K X
    | e :: r => xE n e ρ (fun a => opt a.tr fun t => br t (xAnd n r ρ K X) (K a)) X
noncomputable def xOr : Nat → List E → Loc → (D → Prop) → Prop → Prop
  | 0, _, _, _, _ => False
  | n + 1, es, ρ, K, X => match es with
    | [] => K (.bool false)
    | [e] => xE n e ρ K X
    | e :: r => xE n e ρ (fun a => opt a.tr fun t => br t (K a) (xOr n r ρ K X)) X
noncomputable def xEs : Nat → List E → Loc → (List D → Prop) → Prop → Prop
  | 0, _, _, _, _ => False
  | n + 1, es, ρ, K, X => match es with
    | [] => K []
    | e :: r => xE n e ρ (fun a => xEs n r ρ (fun ds => K (a :: ds)) X) X
noncomputable def xAs : Nat → List E → Loc → (List LV → Prop) → Prop → Prop
  | 0, _, _, _, _ => False
  | n + 1, es, ρ, K, X => match es with
    | [] => K []
    | e :: r => xA n e ρ (fun a => xAs n r ρ (fun ds => K (a :: ds)) X) X
noncomputable def xA : Nat → E → Loc → (LV → Prop) → Prop → Prop
  | 0, _, _, _, _ => False
  | n + 1, e, ρ, K, X => match e with
    | .var x => match ρ.get x with
      | some (.v d) => K (.v d)
      | some (.own ds) => K (.brw ds)
      | some (.brw ds) => K (.brw ds)
      | _ => False
    | e => xE n e ρ (fun d => K (.v d)) X
end
noncomputable def xLV (n : Nat) (own : Bool) (e : E) (ρ : Loc) (K : LV → Prop) (X : Prop) : Prop :=
  match own, e with
  | true, .lst es => xEs Φ G n es ρ (fun ds => K (.own ds)) X
  | _, .newRecv => K (.rcv [])
  | _, e => xE Φ G n e ρ (fun d => K (.v d)) X
noncomputable def xLVs (n : Nat) : List (Bool × E) → Loc → (List LV → Prop) → Prop → Prop
  | [], _, K, _ => K []
  | (o, e) :: r, ρ, K, X => xLV Φ G n o e ρ (fun l => xLVs n r ρ (fun ls => K (l :: ls)) X) X
end
noncomputable def wl (C : Loc → (Bool → Prop) → Prop) (B : Loc → (Loc → Prop) → Prop) (K : Loc → Prop) : Nat → Loc → Prop
  | 0, _ => False
  | k + 1, ρ => C ρ fun t => br t (B ρ (wl C B K k)) (K ρ)
noncomputable def fl (T : Loc → D → Option Loc) (B : Loc → (Loc → Prop) → Prop) (K : Loc → Prop) : List D → Loc → Prop
  | [], ρ => K ρ
  | d :: r, ρ => opt (T ρ d) fun σ => B σ (fl T B K r)
/-- what a handler's constant is -/
noncomputable def hdl (e : E) (K : D → Prop) : Prop := match e with
  | .str k => K (.str k)
  | .byt l => K (.bytes l)
  | _ => False
/-- what the receiver's method gives: the events, the ids held then -/
noncomputable abbrev HSpec := D → List Int → (D → List Int → Prop) → Prop
section
variable (Φ : Phi) (G : Nat → D) (H : HSpec)
mutual
noncomputable def xS : Nat → S → Loc → (Loc → Prop) → (D → Loc → Prop) → (Loc → Prop) → Prop
  | 0, _, _, _, _, _ => False
  | n + 1, s, ρ, K, R, X => match s with
    | .asg x e => xLV Φ G n false e ρ (fun l => K (ρ.set x l)) (X ρ)
    | .own x e => xLV Φ G n true e ρ (fun l => K (ρ.set x l)) (X ρ)
    | .asgs xs es => xLVs Φ G n es ρ (fun ls => K ((xs.zip ls).foldl (fun ρ p => ρ.set p.1 p.2) ρ)) (X ρ)
    | .asgT xs e => xE Φ G n e ρ (fun d => opt (ρ.bind xs false d) K) (X ρ)
    | .app x e => match ρ.get x with
      | some (.own ds) => xE Φ G n e ρ (fun d => fits (ds.length + 1) = true ∧ K (ρ.set x (.own (ds ++ [d])))) (X ρ)
      | _ => False
    | .frz x => match ρ.get x with | some (.own ds) => K (ρ.set x (.v (.list ds))) | _ => False
    | .expr e => xE Φ G n e ρ (fun _ => K ρ) (X ρ)
    | .ret e => xE Φ G n e ρ (fun d => R d ρ) (X ρ)
    | .ifs c a b => xE Φ G n c ρ (fun d => opt d.tr fun t => br t (xSs n a ρ K R X) (xSs n b ρ K R X)) (X ρ)
    | .whl c b => ∃ k, wl (fun σ C => xE Φ G n c σ (fun d => opt d.tr C) (X σ)) (fun σ C => xSs n b σ C R X) K k ρ
    | .for xs one it b => xE Φ G n it ρ (fun d => opt d.items fun items => fl (fun σ d => σ.bind xs one d) (fun σ C => xSs n b σ C R X) K items ρ) (X ρ)
    | .raise => X ρ
    | .try b x e => xSs n b ρ K R (fun σ => hdl e fun d => K (σ.set x (.v d)))
    | .ifh r arg right more b => match ρ.get r with
      | some (.rcv held) => xE Φ G n arg ρ (fun d => H d held fun ev held' => (fun σ => xE Φ G n right σ (fun w => opt (D.eq ev w) fun t => br t
            (match more with | .none => K σ | some c => xE Φ G n c σ (fun d => opt d.tr fun t => br t (xSs n b σ K R X) (K σ)) (X σ))
            (xSs n b σ K R X)) (X σ)) (ρ.set r (.rcv held'))) (X ρ)
      | _ => False
    | .hset self x => match ρ.get self, ρ.get x with
      | some (.rcv held), some (.v (.int i)) => fits held.length = true ∧ K (ρ.set self (.rcv (if held.contains i then held else held ++ [i])))
      | _, _ => False
    | .hdel self x => match ρ.get self, ρ.get x with
      | some (.rcv held), some (.v (.int i)) => fits held.length = true ∧ held.contains i = true ∧ K (ρ.set self (.rcv (held.filter fun j => j != i)))
      | _, _ => False
noncomputable def xSs : Nat → List S → Loc → (Loc → Prop) → (D → Loc → Prop) → (Loc → Prop) → Prop
  | 0, _, _, _, _, _ => False
  | n + 1, ss, ρ, K, R, X => match ss with
    | [] => K ρ
    | s :: r => xS n s ρ (fun σ => xSs n r σ K R X) R X
end
/-- a def's body over its arguments -/
noncomputable def xF (n : Nat) (ps : List Nat) (body : List S) (args : List LV) (K : D → Prop) (X : Prop) : Prop :=
  ps.length = args.length ∧ xSs Φ G H n body (ps.zip args) (fun _ => K .none) (fun d _ => K d) (fun _ => X)
end
noncomputable def cstep (Φ : Phi) (G : Nat → D) (n : Nat) (ρ : Loc) (cap xs : List Nat) (one : Bool) (elt : E) (ifs : List E) (d : D) (C : Option D → Prop) : Prop :=
  opt ((ρ.only cap).bind xs one d) fun σ => match ifs with
    | [] => xE Φ G n elt σ (fun y => C (some y)) False
    | c :: _ => xE Φ G n c σ (fun t => opt t.tr fun t => br t (xE Φ G n elt σ (fun y => C (some y)) False) (C .none)) False
noncomputable def xSrc (Φ : Phi) (G : Nat → D) (n : Nat) (it : E) (ρ : Loc) (J : List D → Prop) (X : Prop) : Prop := match it with
  | .var x => (match ρ.get x with
    | some (.v d) => opt d.items J
    | some (.own ds) => J ds
    | some (.brw ds) => J ds
    | _ => False)
  | .range a b => xE Φ G n a ρ (fun x => xE Φ G n b ρ (fun y => match x, y with
    | .int i, .int j => (small i && small j && fits (j - i).toNat) = true ∧ J (rangeL i (j - i).toNat)
    | _, _ => False) X) X
  | .zip a b => xE Φ G n a ρ (fun x => xE Φ G n b ρ (fun y => match x, y with
    | .list i, .list j => J (zipL i j)
    | _, _ => False) X) X
  | e => xE Φ G n e ρ (fun d => opt d.items J) X
theorem xE_comp {Φ : Phi} {G : Nat → D} {n : Nat} {elt it : E} {xs cap : List Nat} {one : Bool} {ifs : List E} {ρ : Loc} {K : D → Prop} {X : Prop} :
    xE Φ G (n + 1) (.comp elt xs one it ifs cap) ρ K X = xSrc Φ G n it ρ (fun items => compGo (cstep Φ G n ρ cap xs one elt ifs) items [] fun ds => K (.list ds)) X := by
  cases it <;> rfl
/-! taking apart, the goal named once -/
theorem ex2 {α1 α2 : Type} {p : α1 → α2 → Prop} {G : Prop} (h : ∃ x1 x2, p x1 x2) (k : ∀ x1 x2, p x1 x2 → G) : G := h.elim fun x1 h => h.elim fun x2 h => k x1 x2 h
theorem ex3 {α1 α2 α3 : Type} {p : α1 → α2 → α3 → Prop} {G : Prop} (h : ∃ x1 x2 x3, p x1 x2 x3) (k : ∀ x1 x2 x3, p x1 x2 x3 → G) : G := h.elim fun x1 h => h.elim fun x2 h => h.elim fun x3 h => k x1 x2 x3 h
theorem ex4 {α1 α2 α3 α4 : Type} {p : α1 → α2 → α3 → α4 → Prop} {G : Prop} (h : ∃ x1 x2 x3 x4, p x1 x2 x3 x4) (k : ∀ x1 x2 x3 x4, p x1 x2 x3 x4 → G) : G := h.elim fun x1 h => h.elim fun x2 h => h.elim fun x3 h => h.elim fun x4 h => k x1 x2 x3 x4 h
theorem ex5 {α1 α2 α3 α4 α5 : Type} {p : α1 → α2 → α3 → α4 → α5 → Prop} {G : Prop} (h : ∃ x1 x2 x3 x4 x5, p x1 x2 x3 x4 x5) (k : ∀ x1 x2 x3 x4 x5, p x1 x2 x3 x4 x5 → G) : G := h.elim fun x1 h => h.elim fun x2 h => h.elim fun x3 h => h.elim fun x4 h => h.elim fun x5 h => k x1 x2 x3 x4 x5 h
theorem ex6 {α1 α2 α3 α4 α5 α6 : Type} {p : α1 → α2 → α3 → α4 → α5 → α6 → Prop} {G : Prop} (h : ∃ x1 x2 x3 x4 x5 x6, p x1 x2 x3 x4 x5 x6) (k : ∀ x1 x2 x3 x4 x5 x6, p x1 x2 x3 x4 x5 x6 → G) : G := h.elim fun x1 h => h.elim fun x2 h => h.elim fun x3 h => h.elim fun x4 h => h.elim fun x5 h => h.elim fun x6 h => k x1 x2 x3 x4 x5 x6 h
theorem ad3 {A1 A2 A3 G : Prop} (h : A1 ∧ A2 ∧ A3) (k : A1 → A2 → A3 → G) : G := k h.1 h.2.1 h.2.2
theorem ad4 {A1 A2 A3 A4 G : Prop} (h : A1 ∧ A2 ∧ A3 ∧ A4) (k : A1 → A2 → A3 → A4 → G) : G := k h.1 h.2.1 h.2.2.1 h.2.2.2
theorem ad5 {A1 A2 A3 A4 A5 G : Prop} (h : A1 ∧ A2 ∧ A3 ∧ A4 ∧ A5) (k : A1 → A2 → A3 → A4 → A5 → G) : G := k h.1 h.2.1 h.2.2.1 h.2.2.2.1 h.2.2.2.2
theorem ad6 {A1 A2 A3 A4 A5 A6 G : Prop} (h : A1 ∧ A2 ∧ A3 ∧ A4 ∧ A5 ∧ A6) (k : A1 → A2 → A3 → A4 → A5 → A6 → G) : G := k h.1 h.2.1 h.2.2.1 h.2.2.2.1 h.2.2.2.2.1 h.2.2.2.2.2
theorem ad7 {A1 A2 A3 A4 A5 A6 A7 G : Prop} (h : A1 ∧ A2 ∧ A3 ∧ A4 ∧ A5 ∧ A6 ∧ A7) (k : A1 → A2 → A3 → A4 → A5 → A6 → A7 → G) : G := k h.1 h.2.1 h.2.2.1 h.2.2.2.1 h.2.2.2.2.1 h.2.2.2.2.2.1 h.2.2.2.2.2.2
theorem ad8 {A1 A2 A3 A4 A5 A6 A7 A8 G : Prop} (h : A1 ∧ A2 ∧ A3 ∧ A4 ∧ A5 ∧ A6 ∧ A7 ∧ A8) (k : A1 → A2 → A3 → A4 → A5 → A6 → A7 → A8 → G) : G := k h.1 h.2.1 h.2.2.1 h.2.2.2.1 h.2.2.2.2.1 h.2.2.2.2.2.1 h.2.2.2.2.2.2.1 h.2.2.2.2.2.2.2
theorem ad9 {A1 A2 A3 A4 A5 A6 A7 A8 A9 G : Prop} (h : A1 ∧ A2 ∧ A3 ∧ A4 ∧ A5 ∧ A6 ∧ A7 ∧ A8 ∧ A9) (k : A1 → A2 → A3 → A4 → A5 → A6 → A7 → A8 → A9 → G) : G := k h.1 h.2.1 h.2.2.1 h.2.2.2.1 h.2.2.2.2.1 h.2.2.2.2.2.1 h.2.2.2.2.2.2.1 h.2.2.2.2.2.2.2.1 h.2.2.2.2.2.2.2.2
theorem ad10 {A1 A2 A3 A4 A5 A6 A7 A8 A9 A10 G : Prop} (h : A1 ∧ A2 ∧ A3 ∧ A4 ∧ A5 ∧ A6 ∧ A7 ∧ A8 ∧ A9 ∧ A10) (k : A1 → A2 → A3 → A4 → A5 → A6 → A7 → A8 → A9 → A10 → G) : G := k h.1 h.2.1 h.2.2.1 h.2.2.2.1 h.2.2.2.2.1 h.2.2.2.2.2.1 h.2.2.2.2.2.2.1 h.2.2.2.2.2.2.2.1 h.2.2.2.2.2.2.2.2.1 h.2.2.2.2.2.2.2.2.2
theorem fits_of {n : Nat} (h : n ≤ 1048576) : fits n = true := Nat.ble_eq_true_of_le h
end Mine
set_option Elab.async false
set_option genInjectivity false
namespace Mine
set_option tactic.hygienic false
open PySem
/-! the text's syntax is that of E/S: decided by computation. An expression is laid flat first -/
structure EV where
  tag : Nat
  a : Expr
  b : Expr
  c : Expr
  es : List Expr
  s : Str
  k : Const
  bop : Operator
  uop : UnaryOp
  lop : BoolOp
  cops : List CmpOp
  kws : List Keyword
  keys : List (Option Expr)
  gens : List Comprehension
  sc : Scope
  o1 : Option Expr
  o2 : Option Expr
  o3 : Option Expr
  n : Nat
  pos : Pos
noncomputable def ev0 (e : Expr) : EV := ⟨0, e, e, e, [], ⟨#[]⟩, .none, .Add, .Not, .And, [], [], [], [], ⟨.module, [], false, false, []⟩, none, none, none, 0, ⟨0, 0, 0, 0⟩⟩
noncomputable def ev (e : Expr) : EV := match e with
  | .BoolOp o es p => { ev0 e with tag := 1, lop := o, es := es, pos := p }
  | .BinOp l o r p => { ev0 e with tag := 2, a := l, bop := o, b := r, pos := p }
  | .UnaryOp o x p => { ev0 e with tag := 3, uop := o, a := x, pos := p }
  | .IfExp t x y p => { ev0 e with tag := 4, a := t, b := x, c := y, pos := p }
  | .Dict ks vs p => { ev0 e with tag := 5, keys := ks, es := vs, pos := p }
  | .ListComp x g sc p => { ev0 e with tag := 6, a := x, gens := g, sc := sc, pos := p }
  | .Compare l os rs p => { ev0 e with tag := 7, a := l, cops := os, es := rs, pos := p }
  | .Call f as ks p => { ev0 e with tag := 8, a := f, es := as, kws := ks, pos := p }
  | .Constant k n p => { ev0 e with tag := 9, k := k, n := n, pos := p }
  | .Attribute x s p => { ev0 e with tag := 10, a := x, s := s, pos := p }
  | .Subscript x i p => { ev0 e with tag := 11, a := x, b := i, pos := p }
  | .Name x p => { ev0 e with tag := 12, s := x, pos := p }
  | .List es p => { ev0 e with tag := 13, es := es, pos := p }
  | .Tuple es n p => { ev0 e with tag := 14, es := es, n := n, pos := p }
  | .Slice lo hi st p => { ev0 e with tag := 15, o1 := lo, o2 := hi, o3 := st, pos := p }
  | _ => ev0 e
noncomputable def back (v : EV) : Expr := match v.tag with
  | 1 => .BoolOp v.lop v.es v.pos
  | 2 => .BinOp v.a v.bop v.b v.pos
  | 3 => .UnaryOp v.uop v.a v.pos
  | 4 => .IfExp v.a v.b v.c v.pos
  | 5 => .Dict v.keys v.es v.pos
  | 6 => .ListComp v.a v.gens v.sc v.pos
  | 7 => .Compare v.a v.cops v.es v.pos
  | 8 => .Call v.a v.es v.kws v.pos
  | 9 => .Constant v.k v.n v.pos
  | 10 => .Attribute v.a v.s v.pos
  | 11 => .Subscript v.a v.b v.pos
  | 12 => .Name v.s v.pos
  | 13 => .List v.es v.pos
  | 14 => .Tuple v.es v.n v.pos
  | 15 => .Slice v.o1 v.o2 v.o3 v.pos
  | _ => v.a
theorem back_ev (e : Expr) : back (ev e) = e := by cases e <;> rfl
noncomputable def T (t : Nat) (e : Expr) : Bool := Nat.beq (ev e).tag t
theorem ev_of {e : Expr} {t : Nat} (h : T t e = true) : e = back { ev e with tag := t } := by
  rw [← Nat.eq_of_beq_eq_true h]; exact (back_ev e).symm
theorem w_bool {e : Expr} (h : T 1 e = true) : e = .BoolOp (ev e).lop (ev e).es (ev e).pos := ev_of h
theorem w_bin {e : Expr} (h : T 2 e = true) : e = .BinOp (ev e).a (ev e).bop (ev e).b (ev e).pos := ev_of h
theorem w_un {e : Expr} (h : T 3 e = true) : e = .UnaryOp (ev e).uop (ev e).a (ev e).pos := ev_of h
theorem w_ifx {e : Expr} (h : T 4 e = true) : e = .IfExp (ev e).a (ev e).b (ev e).c (ev e).pos := ev_of h
theorem w_dict {e : Expr} (h : T 5 e = true) : e = .Dict (ev e).keys (ev e).es (ev e).pos := ev_of h
theorem w_lc {e : Expr} (h : T 6 e = true) : e = .ListComp (ev e).a (ev e).gens (ev e).sc (ev e).pos := ev_of h
theorem w_cmp {e : Expr} (h : T 7 e = true) : e = .Compare (ev e).a (ev e).cops (ev e).es (ev e).pos := ev_of h
theorem w_call {e : Expr} (h : T 8 e = true) : e = .Call (ev e).a (ev e).es (ev e).kws (ev e).pos := ev_of h
theorem w_con {e : Expr} (h : T 9 e = true) : e = .Constant (ev e).k (ev e).n (ev e).pos := ev_of h
theorem w_attr {e : Expr} (h : T 10 e = true) : e = .Attribute (ev e).a (ev e).s (ev e).pos := ev_of h
theorem w_sub {e : Expr} (h : T 11 e = true) : e = .Subscript (ev e).a (ev e).b (ev e).pos := ev_of h
theorem w_name {e : Expr} (h : T 12 e = true) : e = .Name (ev e).s (ev e).pos := ev_of h
theorem w_list {e : Expr} (h : T 13 e = true) : e = .List (ev e).es (ev e).pos := ev_of h
theorem w_tup {e : Expr} (h : T 14 e = true) : e = .Tuple (ev e).es (ev e).n (ev e).pos := ev_of h
theorem w_slice {e : Expr} (h : T 15 e = true) : e = .Slice (ev e).o1 (ev e).o2 (ev e).o3 (ev e).pos := ev_of h
theorem nm_of {e : Expr} {x : Str} (h : T 12 e = true) (q : (x == (ev e).s) = true) : e = .Name x (ev e).pos := by rw [eq_of_beq q]; exact w_name h
/-- a constant, laid flat -/
structure KV where
  tag : Nat
  b : Bool
  i : Int
  s : Str
  l : List UInt8
  k : Const
noncomputable def kv (k : Const) : KV := match k with
  | .none => ⟨1, false, 0, ⟨#[]⟩, [], k⟩
  | .bool b => ⟨2, b, 0, ⟨#[]⟩, [], k⟩
  | .int i => ⟨3, false, i, ⟨#[]⟩, [], k⟩
  | .str s => ⟨4, false, 0, s, [], k⟩
  | .bytes l => ⟨5, false, 0, ⟨#[]⟩, l, k⟩
  | _ => ⟨0, false, 0, ⟨#[]⟩, [], k⟩
noncomputable def kback (v : KV) : Const := match v.tag with
  | 1 => .none
  | 2 => .bool v.b
  | 3 => .int v.i
  | 4 => .str v.s
  | 5 => .bytes v.l
  | _ => v.k
theorem kback_kv (k : Const) : kback (kv k) = k := by cases k <;> rfl
noncomputable def C (t : Nat) (e : Expr) : Bool := T 9 e && Nat.beq (kv (ev e).k).tag t
noncomputable def ck (e : Expr) : KV := kv (ev e).k
theorem an {a b : Bool} (h : (a && b) = true) : a = true ∧ b = true := by
  cases a with
  | true => exact ⟨rfl, h⟩
  | false => cases h
theorem C_of {e : Expr} {t : Nat} (h : C t e = true) : e = .Constant (kback { ck e with tag := t }) (ev e).n (ev e).pos := by
  have k : (ev e).k = kback { ck e with tag := t } := by rw [← Nat.eq_of_beq_eq_true (an h).2]; exact (kback_kv _).symm
  rw [← k]; exact ev_of (an h).1
theorem k_none {e : Expr} (h : C 1 e = true) : e = .Constant .none (ev e).n (ev e).pos := C_of h
theorem k_bool {e : Expr} (h : C 2 e = true) : e = .Constant (.bool (ck e).b) (ev e).n (ev e).pos := C_of h
theorem k_int {e : Expr} (h : C 3 e = true) : e = .Constant (.int (ck e).i) (ev e).n (ev e).pos := C_of h
theorem k_str {e : Expr} (h : C 4 e = true) : e = .Constant (.str (ck e).s) (ev e).n (ev e).pos := C_of h
theorem k_byt {e : Expr} (h : C 5 e = true) : e = .Constant (.bytes (ck e).l) (ev e).n (ev e).pos := C_of h
theorem not_t {b : Bool} (h : (!b) = true) : b = false := by cases b with | true => cases h | false => rfl
theorem no_of {α : Type} {l : List α} (h : Nat.beq l.length 0 = true) : l = [] := by
  cases l with
  | nil => rfl
  | cons _ _ => cases h
theorem one_of {α : Type} {l : List α} (d : α) (h : Nat.beq l.length 1 = true) : l = [l.headD d] := by
  cases l with
  | nil => cases h
  | cons x r => rw [no_of (l := r) h]; rfl
theorem two_of {α : Type} {l : List α} (d : α) (h : Nat.beq l.length 2 = true) : l = [l.headD d, l.tail.headD d] := by
  cases l with
  | nil => cases h
  | cons x r => rw [one_of (l := r) d h]; rfl
/-- a call of a name with one argument -/
noncomputable def cName (e : Expr) : Str := (ev (ev e).a).s
noncomputable def cArg (e : Expr) : Expr := (ev e).es.headD e
noncomputable def cArg2 (e : Expr) : Expr := (ev e).es.tail.headD e
noncomputable def callN (n : Nat) (e : Expr) : Bool := T 8 e && (T 12 (ev e).a && (Nat.beq (ev e).es.length n && Nat.beq (ev e).kws.length 0))
theorem callN_of {n : Nat} {e : Expr} (h : callN n e = true) : e = .Call (.Name (cName e) (ev (ev e).a).pos) (ev e).es [] (ev e).pos ∧ Nat.beq (ev e).es.length n = true := by
  obtain ⟨h1, h⟩ := an h; obtain ⟨h2, h⟩ := an h
  have a := ev_of h1
  have b : (ev e).a = .Name (cName e) (ev (ev e).a).pos := ev_of h2
  refine ⟨?_, (an h).1⟩
  rw [← b, ← no_of (an h).2]; exact a
theorem call1_of {e : Expr} (h : callN 1 e = true) : e = .Call (.Name (cName e) (ev (ev e).a).pos) [cArg e] [] (ev e).pos := by
  obtain ⟨h1, h2⟩ := callN_of h
  have := one_of e h2
  unfold cArg; rw [← this]; exact h1
theorem call2_of {e : Expr} (h : callN 2 e = true) : e = .Call (.Name (cName e) (ev (ev e).a).pos) [cArg e, cArg2 e] [] (ev e).pos := by
  obtain ⟨h1, h2⟩ := callN_of h
  have := two_of e h2
  unfold cArg cArg2; rw [← this]; exact h1
/-- a call of a method with one argument -/
noncomputable def meth1 (e : Expr) : Bool := T 8 e && (T 10 (ev e).a && (Nat.beq (ev e).es.length 1 && Nat.beq (ev e).kws.length 0))
theorem meth1_of {e : Expr} (h : meth1 e = true) : e = .Call (.Attribute (ev (ev e).a).a (cName e) (ev (ev e).a).pos) [cArg e] [] (ev e).pos := by
  obtain ⟨h1, h⟩ := an h; obtain ⟨h2, h⟩ := an h
  have a := ev_of h1
  have b : (ev e).a = .Attribute (ev (ev e).a).a (cName e) (ev (ev e).a).pos := ev_of h2
  unfold cArg
  rw [← b, ← no_of (an h).2, ← one_of e (an h).1]; exact a

structure Nms where
  st : Nat → Str
  nm : Nat → Str
  fnm : Nat → Str
  gnm : Nat → Str
  nn : Nat
noncomputable def isLoc (sc : Scope) (x : Str) : Bool := (sc.names.lookup x == some .local || sc.names.lookup x == some .cell) && !(x == ("__debug__" : Str))
noncomputable def isGlob (sc : Scope) (x : Str) : Bool := sc.names.lookup x == some .globalImplicit && !(x == ("__debug__" : Str))
noncomputable def relab (sc scope : Scope) : Scope :=
  { scope with names := scope.names.map fun (n, k) => if (k == .free && sc.kind == .function && sc.names.lookup n == some .cell) then (n, .cell) else (n, k) }
/-- a comprehension's scope is of the form that is served -/
noncomputable def compScope (sc scope : Scope) : Bool :=
  scope.kind == .function && scope.names.all (fun x => x.2 != .cell && (x.2 != .local || scope.names.lookup x.1 == some .local) && (x.2 != .free || sc.names.lookup x.1 == some .cell))
noncomputable def chkTarget (N : Nms) (sc : Scope) (xs : List Nat) (one : Bool) (e : Expr) : Bool :=
  match one with
  | true => T 12 e && (Nat.beq xs.length 1 && (N.nm (xs.headD 0) == (ev e).s && sc.names.lookup (ev e).s == some .local))
  | false => T 14 e && (Nat.beq xs.length (ev e).es.length && (xs.zip (ev e).es).all fun p => T 12 p.2 && (N.nm p.1 == (ev p.2).s && sc.names.lookup (ev p.2).s == some .local))
noncomputable def distinctN : List Nat → Bool
  | [] => true
  | x :: r => !(r.contains x) && distinctN r
noncomputable def tyN : Ty → Str
  | .bool => "bool"
  | .bytes => "bytes"
noncomputable def isNoE : E → Bool
  | .none => true
  | _ => false
noncomputable def isZip : E → Bool
  | .zip _ _ => true
  | _ => false
variable (N : Nms)
noncomputable def kvOk (p : (Nat × Int) × (Option Expr × Expr)) : Bool := match p.2.1 with
  | none => false
  | some k => C 4 k && (C 3 p.2.2 && (N.st p.1.1 == (ck k).s && (Nat.blt p.1.1 32 && p.1.2 == (ck p.2.2).i)))
noncomputable def chkLx (c : Expr → E → Bool) : List Expr → List E → Bool
  | es, [] => es.isEmpty
  | es, t :: ts => match es with
    | [] => false
    | e :: es => c e t && chkLx c es ts
noncomputable def chkOx (c : Expr → E → Bool) (e : Option Expr) (t : E) : Bool := match e with
  | none => isNoE t
  | some e => c e t
noncomputable def twoOk (one : Bool) (xs : List Nat) : Bool := match one with
  | true => true
  | false => Nat.beq xs.length 2 && !(N.nm (xs.headD 0) == N.nm (xs.tail.headD 0))
noncomputable def gen0 (v : EV) : Comprehension := v.gens.headD ⟨v.a, v.a, [], 0⟩
noncomputable def isOp (pos : Bool) : CmpOp := match pos with | true => .Is | false => .IsNot
noncomputable def inOp (pos : Bool) : CmpOp := match pos with | true => .In | false => .NotIn
/-- what each clause asks of the flat form -/
noncomputable def cl (c : Scope → Expr → E → Bool) (sc : Scope) (t : E) : Nat × (Expr → EV → Bool) := match t with
    | .none => (9, fun e v => Nat.beq (kv v.k).tag 1)
    | .tt b => (9, fun e v => Nat.beq (kv v.k).tag 2 && b == (kv v.k).b)
    | .int i => (9, fun e v => Nat.beq (kv v.k).tag 3 && i == (kv v.k).i)
    | .str k => (9, fun e v => Nat.beq (kv v.k).tag 4 && (N.st k == (kv v.k).s && Nat.blt k 32))
    | .byt l => (9, fun e v => Nat.beq (kv v.k).tag 5 && (l == (kv v.k).l.map UInt8.toNat && fits l.length))
    | .var x => (12, fun e v => N.nm x == v.s && isLoc sc v.s)
    | .glob g => (12, fun e v => N.gnm g == v.s && isGlob sc v.s)
    | .bin op l r => (2, fun e v => op == v.bop && (c sc v.a l && c sc v.b r))
    | .not x => (3, fun e v => v.uop == .Not && c sc v.a x)
    | .neg x => (3, fun e v => v.uop == .USub && c sc v.a x)
    | .and es => (1, fun e v => v.lop == .And && (!es.isEmpty && chkLx (c sc) v.es es))
    | .or es => (1, fun e v => v.lop == .Or && (!es.isEmpty && chkLx (c sc) v.es es))
    | .ifx t a b => (4, fun e v => c sc v.a t && (c sc v.b a && c sc v.c b))
    | .isty pos x t => (7, fun e v => Nat.beq v.cops.length 1 && (Nat.beq v.es.length 1 && (callN 1 v.a && (T 12 (v.es.headD v.a) && (cName v.a == ("type" : Str) && (isGlob sc (cName v.a) && ((ev (v.es.headD v.a)).s == tyN t && (isGlob sc (ev (v.es.headD v.a)).s && (c sc (cArg v.a) x && v.cops.headD .Eq == isOp pos)))))))))
    | .hin pos self x => (7, fun e v => Nat.beq v.cops.length 1 && (Nat.beq v.es.length 1 && (T 10 (v.es.headD v.a) && (T 12 (ev (v.es.headD v.a)).a && (N.nm self == cName (v.es.headD v.a) && (isLoc sc (cName (v.es.headD v.a)) && ((ev (v.es.headD v.a)).s == ("_held" : Str) && (c sc v.a x && v.cops.headD .Eq == inOp pos))))))))
    | .cmp op l r => (7, fun e v => Nat.beq v.cops.length 1 && (Nat.beq v.es.length 1 && (v.cops.headD .Eq == op && (c sc v.a l && c sc (v.es.headD v.a) r))))
    | .cmp2 o p a b d => (7, fun e v => Nat.beq v.cops.length 2 && (Nat.beq v.es.length 2 && (v.cops.headD .Eq == o && (v.cops.tail.headD .Eq == p && (c sc v.a a && (c sc (v.es.headD v.a) b && c sc (v.es.tail.headD v.a) d))))))
    | .tup es => (14, fun e v => fits es.length && chkLx (c sc) v.es es)
    | .lst es => (13, fun e v => fits es.length && chkLx (c sc) v.es es)
    | .dget kvs k => (11, fun e v => T 5 v.a && (c sc v.b k && (distinctN (kvs.map (·.1)) && (Nat.ble kvs.length 15 && (!kvs.isEmpty && (kvs.length == (ev v.a).keys.length && (kvs.length == (ev v.a).es.length && (kvs.zip ((ev v.a).keys.zip (ev v.a).es)).all (kvOk N))))))))
    | .slc x lo hi => (11, fun e v => T 15 v.b && ((ev v.b).o3.isNone && (c sc v.a x && (chkOx (c sc) (ev v.b).o1 lo && chkOx (c sc) (ev v.b).o2 hi))))
    | .idx x i => (11, fun e v => c sc v.a x && c sc v.b i)
    | .call f args => (8, fun e v => T 12 v.a && (Nat.beq v.kws.length 0 && (N.fnm f == (ev v.a).s && (isGlob sc (ev v.a).s && (chkLx (c sc) v.es args && Nat.ble args.length 30)))))
    | .len x => (8, fun e v => callN 1 e && (cName e == ("len" : Str) && (isGlob sc ("len" : Str) && c sc (cArg e) x)))
    | .bytesOf x => (8, fun e v => callN 1 e && (cName e == ("bytes" : Str) && (isGlob sc ("bytes" : Str) && c sc (cArg e) x)))
    | .maxOf x => (8, fun e v => callN 1 e && (cName e == ("max" : Str) && (isGlob sc ("max" : Str) && c sc (cArg e) x)))
    | .join sep x => (8, fun e v => meth1 e && (C 5 (ev v.a).a && ((ev v.a).s == ("join" : Str) && ((ev v.a).pos.endLine == v.pos.line && (sep == (ck (ev v.a).a).l.map UInt8.toNat && (fits sep.length && c sc (cArg e) x))))))
    | .comp elt xs one it ifs cap => (6, fun e v => Nat.beq v.gens.length 1 && ((gen0 v).is_async == 0 && (compScope sc v.sc && ((one == false || !isZip it) && (chkTarget N (relab sc v.sc) xs one (gen0 v).target && (xs.all (Nat.blt · N.nn) && (twoOk N one xs && (c sc (gen0 v).iter it && (Nat.ble ifs.length 1 && (chkLx (c (relab sc v.sc)) (gen0 v).ifs ifs && (c (relab sc v.sc) v.a elt &&
            cap.all (fun x => v.sc.names.lookup (N.nm x) == some .free && xs.all fun y => !(N.nm x == N.nm y)))))))))))))
    | .range a b => (8, fun e v => callN 2 e && (cName e == ("range" : Str) && (isGlob sc ("range" : Str) && (c sc (cArg e) a && c sc (cArg2 e) b))))
    | .zip a b => (8, fun e v => callN 2 e && (cName e == ("zip" : Str) && (isGlob sc ("zip" : Str) && (c sc (cArg e) a && c sc (cArg2 e) b))))
    | .newRecv => (8, fun _ _ => false)
noncomputable def chkE : Nat → Scope → Expr → E → Bool
  | 0, _, _, _ => false
  | n + 1, sc, e, t => Nat.beq (ev e).tag (cl N (chkE n) sc t).1 && (cl N (chkE n) sc t).2 e (ev e)
noncomputable def chkL (n : Nat) (sc : Scope) (es : List Expr) (ts : List E) : Bool := chkLx (chkE N n sc) es ts
noncomputable def chkO (n : Nat) (sc : Scope) (e : Option Expr) (t : E) : Bool := chkOx (chkE N n sc) e t

section
variable {N} {m : Nat} {sc : Scope} {e : Expr}
theorem c_of {t : E} (h : chkE N m sc e t = true) : ∃ n, T (cl N (chkE N n) sc t).1 e = true ∧ (cl N (chkE N n) sc t).2 e (ev e) = true := by
  cases m with
  | zero => cases h
  | succ n => exact ⟨n, an h⟩
theorem cl_tag (c : Scope → Expr → E → Bool) (t : E) : Nat.blt 0 (cl N c sc t).1 = true ∧ Nat.blt (cl N c sc t).1 15 = true := by cases t <;> exact ⟨rfl, rfl⟩
theorem chk_tag {t : E} (h : chkE N m sc e t = true) : Nat.blt 0 (ev e).tag = true ∧ Nat.blt (ev e).tag 15 = true := by
  obtain ⟨n, h1, _⟩ := c_of h
  rw [Nat.eq_of_beq_eq_true h1]; exact cl_tag _ t
/-- a clause's constant -/
theorem k_of {t : Nat} {X : Bool} (h1 : T 9 e = true) (h2 : (Nat.beq (kv (ev e).k).tag t && X) = true) : C t e = true ∧ X = true :=
  ⟨by show (T 9 e && _) = true; rw [h1]; exact (an h2).1, (an h2).2⟩
theorem el {α : Type} {P : α → Prop} {a b : α} (h : a = b) (p : P b) : P a := by subst h; exact p
variable {P : Expr → Prop}
@[elab_as_elim] theorem c_none (h : chkE N m sc e .none = true) (k : ∀ n p, P (.Constant .none n p)) : P e := by
  obtain ⟨_, h1, h2⟩ := c_of h
  exact el (k_none (by show (T 9 e && _) = true; rw [show T 9 e = true from h1]; exact h2)) (k _ _)
@[elab_as_elim] theorem c_tt {b : Bool} (h : chkE N m sc e (.tt b) = true) (k : ∀ n p, P (.Constant (.bool b) n p)) : P e := by
  obtain ⟨_, h1, h2⟩ := c_of h
  obtain ⟨a, q⟩ := k_of h1 h2
  refine el (k_bool a) ?_
  rw [show (ck e).b = b from (eq_of_beq q).symm]; exact k _ _
@[elab_as_elim] theorem c_int {i : Int} (h : chkE N m sc e (.int i) = true) (k : ∀ n p, P (.Constant (.int i) n p)) : P e := by
  obtain ⟨_, h1, h2⟩ := c_of h
  obtain ⟨a, q⟩ := k_of h1 h2
  refine el (k_int a) ?_
  rw [show (ck e).i = i from (eq_of_beq q).symm]; exact k _ _
@[elab_as_elim] theorem c_str {i : Nat} (h : chkE N m sc e (.str i) = true) (k : ∀ n p, i < 32 → P (.Constant (.str (N.st i)) n p)) : P e := by
  obtain ⟨_, h1, h2⟩ := c_of h
  obtain ⟨a, q⟩ := k_of h1 h2
  refine el (k_str a) ?_
  rw [show (ck e).s = N.st i from (eq_of_beq (an q).1).symm]; exact k _ _ (Nat.le_of_ble_eq_true (an q).2)
@[elab_as_elim] theorem c_byt {l : List Nat} (h : chkE N m sc e (.byt l) = true) (k : ∀ b n p, l = b.map UInt8.toNat → fits l.length = true → P (.Constant (.bytes b) n p)) : P e := by
  obtain ⟨_, h1, h2⟩ := c_of h
  obtain ⟨a, q⟩ := k_of h1 h2
  exact el (k_byt a) (k _ _ _ (eq_of_beq (an q).1) (an q).2)
@[elab_as_elim] theorem c_var {x : Nat} (h : chkE N m sc e (.var x) = true) (k : ∀ p, isLoc sc (N.nm x) = true → P (.Name (N.nm x) p)) : P e := by
  obtain ⟨_, h1, h2⟩ := c_of h
  obtain ⟨a, q⟩ := an h2
  exact el (nm_of h1 a) (k _ (by rw [eq_of_beq a]; exact q))
@[elab_as_elim] theorem c_glob {x : Nat} (h : chkE N m sc e (.glob x) = true) (k : ∀ p, isGlob sc (N.gnm x) = true → P (.Name (N.gnm x) p)) : P e := by
  obtain ⟨_, h1, h2⟩ := c_of h
  obtain ⟨a, q⟩ := an h2
  exact el (nm_of h1 a) (k _ (by rw [eq_of_beq a]; exact q))
@[elab_as_elim] theorem c_bin {op : Operator} {l r : E} (h : chkE N m sc e (.bin op l r) = true) (k : ∀ n l' r' p, chkE N n sc l' l = true → chkE N n sc r' r = true → P (.BinOp l' op r' p)) : P e := by
  obtain ⟨n, h1, h2⟩ := c_of h
  obtain ⟨a, q⟩ := an h2
  refine el (w_bin h1) ?_
  rw [← eq_of_beq a]; exact k n _ _ _ (an q).1 (an q).2
@[elab_as_elim] theorem c_not {x : E} (h : chkE N m sc e (.not x) = true) (k : ∀ n x' p, chkE N n sc x' x = true → P (.UnaryOp .Not x' p)) : P e := by
  obtain ⟨n, h1, h2⟩ := c_of h
  refine el (w_un h1) ?_
  rw [eq_of_beq (an h2).1]; exact k n _ _ (an h2).2
@[elab_as_elim] theorem c_neg {x : E} (h : chkE N m sc e (.neg x) = true) (k : ∀ n x' p, chkE N n sc x' x = true → P (.UnaryOp .USub x' p)) : P e := by
  obtain ⟨n, h1, h2⟩ := c_of h
  refine el (w_un h1) ?_
  rw [eq_of_beq (an h2).1]; exact k n _ _ (an h2).2
theorem ne_nil {α : Type} {l : List α} (h : (!l.isEmpty) = true) : l ≠ [] := by rintro rfl; cases h
@[elab_as_elim] theorem c_and {es : List E} (h : chkE N m sc e (.and es) = true) (k : ∀ n es' p, es ≠ [] → chkL N n sc es' es = true → P (.BoolOp .And es' p)) : P e := by
  obtain ⟨n, h1, h2⟩ := c_of h
  obtain ⟨a, b⟩ := an h2
  refine el (w_bool h1) ?_
  rw [eq_of_beq a]; exact k n _ _ (ne_nil (an b).1) (an b).2
@[elab_as_elim] theorem c_or {es : List E} (h : chkE N m sc e (.or es) = true) (k : ∀ n es' p, es ≠ [] → chkL N n sc es' es = true → P (.BoolOp .Or es' p)) : P e := by
  obtain ⟨n, h1, h2⟩ := c_of h
  obtain ⟨a, b⟩ := an h2
  refine el (w_bool h1) ?_
  rw [eq_of_beq a]; exact k n _ _ (ne_nil (an b).1) (an b).2
@[elab_as_elim] theorem c_ifx {c a b : E} (h : chkE N m sc e (.ifx c a b) = true) (k : ∀ n c' a' b' p, chkE N n sc c' c = true → chkE N n sc a' a = true → chkE N n sc b' b = true → P (.IfExp c' a' b' p)) : P e := by
  obtain ⟨n, h1, h2⟩ := c_of h
  exact el (w_ifx h1) (k n _ _ _ _ (an h2).1 (an (an h2).2).1 (an (an h2).2).2)
theorem cmp_of {op : CmpOp} {X : Bool} (h1 : T 7 e = true) (h : (Nat.beq (ev e).cops.length 1 && (Nat.beq (ev e).es.length 1 && X)) = true) (h3 : X = true → ((ev e).cops.headD .Eq == op) = true) : e = .Compare (ev e).a [op] [(ev e).es.headD (ev e).a] (ev e).pos ∧ X = true := by
  obtain ⟨a, b⟩ := an h; obtain ⟨b, c⟩ := an b
  refine ⟨?_, c⟩
  rw [← eq_of_beq (h3 c), ← one_of CmpOp.Eq a, ← one_of (ev e).a b]; exact w_cmp h1
@[elab_as_elim] theorem c_cmp {op : CmpOp} {l r : E} (h : chkE N m sc e (.cmp op l r) = true) (k : ∀ n l' r' p, chkE N n sc l' l = true → chkE N n sc r' r = true → P (.Compare l' [op] [r'] p)) : P e := by
  obtain ⟨n, h1, h2⟩ := c_of h
  obtain ⟨a, b⟩ := cmp_of h1 h2 fun x => (an x).1
  exact el a (k n _ _ _ (an (an b).2).1 (an (an b).2).2)
@[elab_as_elim] theorem c_cmp2 {o p : CmpOp} {a b c : E} (h : chkE N m sc e (.cmp2 o p a b c) = true) (k : ∀ n a' b' c' q, chkE N n sc a' a = true → chkE N n sc b' b = true → chkE N n sc c' c = true → P (.Compare a' [o, p] [b', c'] q)) : P e := by
  obtain ⟨n, h1, h2⟩ := c_of h
  obtain ⟨a, b⟩ := an h2; obtain ⟨b, c⟩ := an b; obtain ⟨o1, c⟩ := an c; obtain ⟨p1, c⟩ := an c
  refine el (w_cmp h1) ?_
  rw [two_of CmpOp.Eq a, two_of (ev e).a b, eq_of_beq o1, eq_of_beq p1]
  exact k n _ _ _ _ (an c).1 (an (an c).2).1 (an (an c).2).2
@[elab_as_elim] theorem c_isty {pos : Bool} {x : E} {t : Ty} (h : chkE N m sc e (.isty pos x t) = true) (k : ∀ n x' np cp tp p, isGlob sc ("type" : Str) = true → isGlob sc (tyN t) = true → chkE N n sc x' x = true → P (.Compare (.Call (.Name "type" np) [x'] [] cp) [isOp pos] [.Name (tyN t) tp] p)) : P e := by
  obtain ⟨n, h1, h2⟩ := c_of h
  obtain ⟨a, b⟩ := cmp_of (op := isOp pos) h1 h2 fun x => (an (an (an (an (an (an (an x).2).2).2).2).2).2).2
  obtain ⟨b1, b⟩ := an b; obtain ⟨b2, b⟩ := an b; obtain ⟨b3, b⟩ := an b; obtain ⟨b4, b⟩ := an b; obtain ⟨b5, b⟩ := an b; obtain ⟨b6, b⟩ := an b
  have q1 := call1_of b1
  have q2 := w_name b2
  rw [eq_of_beq b3] at q1 b4; rw [eq_of_beq b5] at q2 b6
  refine el a ?_
  rw [q2, q1]; exact k n _ _ _ _ _ b4 b6 (an b).1
theorem at_of {r : Expr} (h1 : T 10 r = true) (h2 : T 12 (ev r).a = true) : r = .Attribute (.Name (cName r) (ev (ev r).a).pos) (ev r).s (ev r).pos := by
  have q : (ev r).a = .Name (cName r) (ev (ev r).a).pos := w_name h2
  rw [← q]; exact w_attr h1
@[elab_as_elim] theorem c_hin {pos : Bool} {self : Nat} {x : E} (h : chkE N m sc e (.hin pos self x) = true) (k : ∀ n x' np ap p, isLoc sc (N.nm self) = true → chkE N n sc x' x = true → P (.Compare x' [inOp pos] [.Attribute (.Name (N.nm self) np) "_held" ap] p)) : P e := by
  obtain ⟨n, h1, h2⟩ := c_of h
  obtain ⟨a, b⟩ := cmp_of (op := inOp pos) h1 h2 fun x => (an (an (an (an (an (an x).2).2).2).2).2).2
  obtain ⟨b1, b⟩ := an b; obtain ⟨b2, b⟩ := an b; obtain ⟨b3, b⟩ := an b; obtain ⟨b4, b⟩ := an b; obtain ⟨b5, b⟩ := an b
  have q1 := at_of b1 b2
  rw [← eq_of_beq b3, eq_of_beq b5] at q1
  rw [← eq_of_beq b3] at b4
  refine el a ?_
  rw [q1]; exact k n _ _ _ _ b4 (an b).1
@[elab_as_elim] theorem c_tup {es : List E} (h : chkE N m sc e (.tup es) = true) (k : ∀ n es' q p, fits es.length = true → chkL N n sc es' es = true → P (.Tuple es' q p)) : P e := by
  obtain ⟨n, h1, h2⟩ := c_of h
  exact el (w_tup h1) (k n _ _ _ (an h2).1 (an h2).2)
@[elab_as_elim] theorem c_lst {es : List E} (h : chkE N m sc e (.lst es) = true) (k : ∀ n es' p, fits es.length = true → chkL N n sc es' es = true → P (.List es' p)) : P e := by
  obtain ⟨n, h1, h2⟩ := c_of h
  exact el (w_list h1) (k n _ _ (an h2).1 (an h2).2)
@[elab_as_elim] theorem c_dget {kvs : List (Nat × Int)} {d : E} (h : chkE N m sc e (.dget kvs d) = true) (k : ∀ n ks vs dp k' p, chkE N n sc k' d = true → distinctN (kvs.map (·.1)) = true → kvs.length ≤ 15 → kvs ≠ [] → kvs.length = ks.length → kvs.length = vs.length → (kvs.zip (ks.zip vs)).all (kvOk N) = true → P (.Subscript (.Dict ks vs dp) k' p)) : P e := by
  obtain ⟨n, h1, h2⟩ := c_of h
  obtain ⟨b1, b⟩ := an h2; obtain ⟨b2, b⟩ := an b; obtain ⟨b3, b⟩ := an b; obtain ⟨b4, b⟩ := an b; obtain ⟨b5, b⟩ := an b; obtain ⟨b6, b⟩ := an b; obtain ⟨b7, b⟩ := an b
  refine el (w_sub h1) ?_
  rw [w_dict b1]; exact k n _ _ _ _ _ b2 b3 (Nat.le_of_ble_eq_true b4) (ne_nil b5) (eq_of_beq b6) (eq_of_beq b7) b
theorem nil_of {α : Type} {o : Option α} (h : o.isNone = true) : o = none := by
  cases o with
  | none => rfl
  | some _ => cases h
@[elab_as_elim] theorem c_slc {x lo hi : E} (h : chkE N m sc e (.slc x lo hi) = true) (k : ∀ n x' lo' hi' sp p, chkE N n sc x' x = true → chkO N n sc lo' lo = true → chkO N n sc hi' hi = true → P (.Subscript x' (.Slice lo' hi' none sp) p)) : P e := by
  obtain ⟨n, h1, h2⟩ := c_of h
  obtain ⟨b1, b⟩ := an h2; obtain ⟨b2, b⟩ := an b; obtain ⟨b3, b⟩ := an b
  have q1 := w_slice b1
  rw [nil_of b2] at q1
  refine el (w_sub h1) ?_
  rw [q1]; exact k n _ _ _ _ _ b3 (an b).1 (an b).2
@[elab_as_elim] theorem c_idx {x i : E} (h : chkE N m sc e (.idx x i) = true) (k : ∀ n x' i' p, chkE N n sc x' x = true → chkE N n sc i' i = true → P (.Subscript x' i' p)) : P e := by
  obtain ⟨n, h1, h2⟩ := c_of h
  exact el (w_sub h1) (k n _ _ _ (an h2).1 (an h2).2)
@[elab_as_elim] theorem c_call {f : Nat} {args : List E} (h : chkE N m sc e (.call f args) = true) (k : ∀ n np args' p, isGlob sc (N.fnm f) = true → chkL N n sc args' args = true → P (.Call (.Name (N.fnm f) np) args' [] p)) : P e := by
  obtain ⟨n, h1, h2⟩ := c_of h
  obtain ⟨b1, b⟩ := an h2; obtain ⟨b2, b⟩ := an b; obtain ⟨b3, b⟩ := an b; obtain ⟨b4, b⟩ := an b
  have q1 := nm_of b1 b3
  rw [← eq_of_beq b3] at b4
  refine el (w_call h1) ?_
  rw [q1, no_of b2]; exact k n _ _ _ b4 (an b).1
@[elab_as_elim] theorem nm1_of {c : Str} {x : E} {n : Nat} (h2 : (callN 1 e && (cName e == c && (isGlob sc c && chkE N n sc (cArg e) x))) = true) (k : ∀ n np x' p, isGlob sc c = true → chkE N n sc x' x = true → P (.Call (.Name c np) [x'] [] p)) : P e := by
  obtain ⟨b1, b⟩ := an h2; obtain ⟨b2, b⟩ := an b
  have q1 := call1_of b1
  rw [eq_of_beq b2] at q1
  exact el q1 (k n _ _ _ (an b).1 (an b).2)
@[elab_as_elim] theorem c_len {x : E} (h : chkE N m sc e (.len x) = true) (k : ∀ n np x' p, isGlob sc ("len" : Str) = true → chkE N n sc x' x = true → P (.Call (.Name "len" np) [x'] [] p)) : P e := let ⟨_, _, h2⟩ := c_of h; nm1_of h2 k
@[elab_as_elim] theorem c_bytesOf {x : E} (h : chkE N m sc e (.bytesOf x) = true) (k : ∀ n np x' p, isGlob sc ("bytes" : Str) = true → chkE N n sc x' x = true → P (.Call (.Name "bytes" np) [x'] [] p)) : P e := let ⟨_, _, h2⟩ := c_of h; nm1_of h2 k
@[elab_as_elim] theorem c_maxOf {x : E} (h : chkE N m sc e (.maxOf x) = true) (k : ∀ n np x' p, isGlob sc ("max" : Str) = true → chkE N n sc x' x = true → P (.Call (.Name "max" np) [x'] [] p)) : P e := let ⟨_, _, h2⟩ := c_of h; nm1_of h2 k
@[elab_as_elim] theorem nm2_of {c : Str} {x y : E} {n : Nat} (h2 : (callN 2 e && (cName e == c && (isGlob sc c && (chkE N n sc (cArg e) x && chkE N n sc (cArg2 e) y)))) = true) (k : ∀ n np x' y' p, isGlob sc c = true → chkE N n sc x' x = true → chkE N n sc y' y = true → P (.Call (.Name c np) [x', y'] [] p)) : P e := by
  obtain ⟨b1, b⟩ := an h2; obtain ⟨b2, b⟩ := an b
  have q1 := call2_of b1
  rw [eq_of_beq b2] at q1
  exact el q1 (k n _ _ _ _ (an b).1 (an (an b).2).1 (an (an b).2).2)
@[elab_as_elim] theorem c_range {x y : E} (h : chkE N m sc e (.range x y) = true) (k : ∀ n np x' y' p, isGlob sc ("range" : Str) = true → chkE N n sc x' x = true → chkE N n sc y' y = true → P (.Call (.Name "range" np) [x', y'] [] p)) : P e := let ⟨_, _, h2⟩ := c_of h; nm2_of h2 k
@[elab_as_elim] theorem c_zip {x y : E} (h : chkE N m sc e (.zip x y) = true) (k : ∀ n np x' y' p, isGlob sc ("zip" : Str) = true → chkE N n sc x' x = true → chkE N n sc y' y = true → P (.Call (.Name "zip" np) [x', y'] [] p)) : P e := let ⟨_, _, h2⟩ := c_of h; nm2_of h2 k
@[elab_as_elim] theorem c_join {sep : List Nat} {x : E} (h : chkE N m sc e (.join sep x) = true) (k : ∀ n b q kp ap x' p, ap.endLine = p.line → sep = b.map UInt8.toNat → chkE N n sc x' x = true → P (.Call (.Attribute (.Constant (.bytes b) q kp) "join" ap) [x'] [] p)) : P e := by
  obtain ⟨n, h1, h2⟩ := c_of h
  obtain ⟨b1, b⟩ := an h2; obtain ⟨b2, b⟩ := an b; obtain ⟨b3, b⟩ := an b; obtain ⟨b4, b⟩ := an b; obtain ⟨b5, b⟩ := an b
  have q1 := meth1_of b1
  have q2 := k_byt b2
  rw [q2, show cName e = "join" from eq_of_beq b3] at q1
  exact el q1 (k n _ _ _ _ _ _ (eq_of_beq b4) (eq_of_beq b5) (an b).2)
@[elab_as_elim] theorem c_comp {elt it : E} {xs cap : List Nat} {one : Bool} {ifs : List E} (h : chkE N m sc e (.comp elt xs one it ifs cap) = true) (k : ∀ n elt' t' it' ifs' scope p, compScope sc scope = true → (one == false || !isZip it) = true → chkTarget N (relab sc scope) xs one t' = true → xs.all (Nat.blt · N.nn) = true → twoOk N one xs = true → chkE N n sc it' it = true → ifs.length ≤ 1 → chkL N n (relab sc scope) ifs' ifs = true → chkE N n (relab sc scope) elt' elt = true → cap.all (fun x => scope.names.lookup (N.nm x) == some .free && xs.all fun y => !(N.nm x == N.nm y)) = true → P (.ListComp elt' [⟨t', it', ifs', 0⟩] scope p)) : P e := by
  obtain ⟨n, h1, h2⟩ := c_of h
  obtain ⟨b1, b⟩ := an h2; obtain ⟨b2, b⟩ := an b; obtain ⟨b3, b⟩ := an b; obtain ⟨b4, b⟩ := an b; obtain ⟨b5, b⟩ := an b; obtain ⟨b6, b⟩ := an b; obtain ⟨b7, b⟩ := an b; obtain ⟨b8, b⟩ := an b; obtain ⟨b9, b⟩ := an b; obtain ⟨b10, b⟩ := an b
  have q : (ev e).gens = [gen0 (ev e)] := one_of _ b1
  have z : gen0 (ev e) = ⟨(gen0 (ev e)).target, (gen0 (ev e)).iter, (gen0 (ev e)).ifs, 0⟩ := by
    rw [← eq_of_beq b2]; cases gen0 (ev e); rfl
  refine el (w_lc h1) ?_
  rw [q, z]
  exact k n _ _ _ _ _ _ b3 b4 b5 b6 b7 b8 (Nat.le_of_ble_eq_true b9) b10 (an b).1 (an b).2
theorem l_nil {es : List Expr} (h : chkL N m sc es [] = true) : es = [] := by
  cases es with
  | nil => rfl
  | cons _ _ => cases h
@[elab_as_elim] theorem l_cons {P : List Expr → Prop} {es : List Expr} {t : E} {ts : List E} (h : chkL N m sc es (t :: ts) = true) (k : ∀ e es', chkE N m sc e t = true → chkL N m sc es' ts = true → P (e :: es')) : P es := by
  cases es with
  | nil => cases h
  | cons e es => exact k e es (an h).1 (an h).2
@[elab_as_elim] theorem o_of {P : Option Expr → E → Prop} {o : Option Expr} {t : E} (h : chkO N m sc o t = true) (k1 : P none .none) (k2 : ∀ e, chkE N m sc e t = true → P (some e) t) : P o t := by
  cases o with
  | none => cases t with
    | none => exact k1
    | _ => exact (Bool.false_ne_true h).elim
  | some e => exact k2 e h
theorem kv_of {x : Nat × Int} {o : Option Expr} {v : Expr} (h : kvOk N (x, (o, v)) = true) : ∃ a b c d, o = some (.Constant (.str (N.st x.1)) a b) ∧ v = .Constant (.int x.2) c d ∧ x.1 < 32 := by
  cases o with
  | none => cases h
  | some k =>
    obtain ⟨b1, b⟩ := an h; obtain ⟨b2, b⟩ := an b; obtain ⟨b3, b⟩ := an b
    exact ⟨_, _, _, _, congrArg some ((k_str b1).trans (by rw [← eq_of_beq b3])), (k_int b2).trans (by rw [← eq_of_beq (an b).2]), Nat.le_of_ble_eq_true (an b).1⟩
@[elab_as_elim] theorem t_one {P : List Nat → Expr → Prop} {xs : List Nat} (h : chkTarget N sc xs true e = true) (k : ∀ x p, sc.names.lookup (N.nm x) = some .local → P [x] (.Name (N.nm x) p)) : P xs e := by
  obtain ⟨b1, b⟩ := an h; obtain ⟨b2, b⟩ := an b
  rw [nm_of b1 (an b).1, one_of 0 b2]
  exact k _ _ (by rw [eq_of_beq (an b).1]; exact eq_of_beq (an b).2)
@[elab_as_elim] theorem t_tup {xs : List Nat} (h : chkTarget N sc xs false e = true) (k : ∀ es q p, xs.length = es.length → (∀ q ∈ xs.zip es, ∃ p, q.2 = .Name (N.nm q.1) p ∧ sc.names.lookup (N.nm q.1) = some .local) → P (.Tuple es q p)) : P e := by
  obtain ⟨b1, b⟩ := an h; obtain ⟨b2, b⟩ := an b
  refine el (w_tup b1) (k _ _ _ (Nat.eq_of_beq_eq_true b2) fun q hq => ?_)
  obtain ⟨c1, c⟩ := an (List.all_eq_true.mp b q hq)
  have z := eq_of_beq (an c).1
  exact ⟨_, nm_of c1 (an c).1, by rw [z]; exact eq_of_beq (an c).2⟩
end
end Mine
set_option Elab.async false
namespace Mine
set_option tactic.hygienic false
open PySem

/-! ## data in the heap -/
mutual
inductive Den (st : Nat → Str) (O : Addr → Prop) (h : Heap) : Value → D → Prop
  | none : Den st O h .none .none
  | bool (b : Bool) : Den st O h (.bool b) (.bool b)
  | int (i : Int) (t : Tok) : Den st O h (.int i t) (.int i)
  | str (k : Nat) (x : Str) (t : Tok) : st k = x → k < 32 → Den st O h (.str x t) (.str k)
  | bytes (b : Array UInt8) (t : Tok) (l : List Nat) : b.toList.map UInt8.toNat = l → fits l.length = true → Den st O h (.bytes b t) (.bytes l)
  | tuple {a : Addr} {vs : List Value} {ds : List D} : ¬ O a → h.IsTuple a vs.toArray → Dens st O h vs ds → fits ds.length = true → Den st O h (.ref a) (.tuple ds)
  | list {a : Addr} {vs : List Value} {ds : List D} : ¬ O a → h.IsList a vs.toArray → Dens st O h vs ds → fits ds.length = true → Den st O h (.ref a) (.list ds)
inductive Dens (st : Nat → Str) (O : Addr → Prop) (h : Heap) : List Value → List D → Prop
  | nil : Dens st O h [] []
  | cons {v : Value} {vs : List Value} {d : D} {ds : List D} : Den st O h v d → Dens st O h vs ds → Dens st O h (v :: vs) (d :: ds)
end

section
variable {st : Nat → Str} {O O' : Addr → Prop} {h h' : Heap}
mutual
theorem Den.to (k : ∀ a o, ¬ O a → h.get? a = some o → ¬ O' a ∧ h'.get? a = some o) : ∀ {v : Value} {d : D}, Den st O h v d → Den st O' h' v d
  | _, _, .none => .none
  | _, _, .bool b => .bool b
  | _, _, .int i t => .int i t
  | _, _, .str j x t e z => .str j x t e z
  | _, _, .bytes b t l e z => .bytes b t l e z
  | _, _, .tuple ha ht r z => by
    obtain ⟨o, ho, q⟩ := ht
    exact .tuple (k _ _ ha ho).1 ⟨o, (k _ _ ha ho).2, q⟩ (Dens.to k r) z
  | _, _, .list ha ht r z => by
    obtain ⟨o, ho, q⟩ := ht
    exact .list (k _ _ ha ho).1 ⟨o, (k _ _ ha ho).2, q⟩ (Dens.to k r) z
theorem Dens.to (k : ∀ a o, ¬ O a → h.get? a = some o → ¬ O' a ∧ h'.get? a = some o) : ∀ {vs : List Value} {ds : List D}, Dens st O h vs ds → Dens st O' h' vs ds
  | _, _, .nil => .nil
  | _, _, .cons x r => .cons (Den.to k x) (Dens.to k r)
end
theorem Den.none_inv {v : Value} (x : Den st O h v .none) : v = .none := by cases x; rfl
theorem Den.bool_inv {v : Value} {b : Bool} (x : Den st O h v (.bool b)) : v = .bool b := by cases x; rfl
theorem Den.int_inv {v : Value} {i : Int} (x : Den st O h v (.int i)) : ∃ t, v = .int i t := by cases x; exact ⟨_, rfl⟩
theorem Den.str_inv {v : Value} {k : Nat} (x : Den st O h v (.str k)) : ∃ y t, v = .str y t ∧ st k = y ∧ k < 32 := by cases x; exact ⟨_, _, rfl, ‹_›, ‹_›⟩
theorem Den.bytes_inv {v : Value} {l : List Nat} (x : Den st O h v (.bytes l)) : ∃ b t, v = .bytes b t ∧ b.toList.map UInt8.toNat = l ∧ fits l.length = true := by cases x; exact ⟨_, _, rfl, ‹_›, ‹_›⟩
theorem Den.tuple_inv {v : Value} {ds : List D} (x : Den st O h v (.tuple ds)) : ∃ a vs, v = .ref a ∧ ¬ O a ∧ h.IsTuple a vs.toArray ∧ Dens st O h vs ds ∧ fits ds.length = true := by cases x; exact ⟨_, _, rfl, ‹_›, ‹_›, ‹_›, ‹_›⟩
theorem Den.list_inv {v : Value} {ds : List D} (x : Den st O h v (.list ds)) : ∃ a vs, v = .ref a ∧ ¬ O a ∧ h.IsList a vs.toArray ∧ Dens st O h vs ds ∧ fits ds.length = true := by cases x; exact ⟨_, _, rfl, ‹_›, ‹_›, ‹_›, ‹_›⟩
theorem Dens.length {vs : List Value} {ds : List D} (x : Dens st O h vs ds) : vs.length = ds.length := by
  induction vs generalizing ds with
  | nil => cases x; rfl
  | cons v vs ih => cases x with | cons _ r => simp [ih r]
theorem Dens.append {vs ws : List Value} {ds es : List D} (x : Dens st O h vs ds) (y : Dens st O h ws es) : Dens st O h (vs ++ ws) (ds ++ es) := by
  induction vs generalizing ds with
  | nil => cases x; exact y
  | cons v vs ih => cases x with | cons z r => exact .cons z (ih r)
theorem Dens.get {vs : List Value} {ds : List D} (x : Dens st O h vs ds) {k : Nat} {d : D} (hk : ds[k]? = some d) : ∃ v, vs[k]? = some v ∧ Den st O h v d := by
  induction vs generalizing ds k with
  | nil => cases x; simp at hk
  | cons v vs ih =>
    cases x with
    | cons z r =>
      cases k with
      | zero => simp at hk; subst hk; exact ⟨v, rfl, z⟩
      | succ k => simpa using ih r (by simpa using hk)
theorem Dens.take {vs : List Value} {ds : List D} (x : Dens st O h vs ds) (k : Nat) : Dens st O h (vs.take k) (ds.take k) := by
  induction vs generalizing ds k with
  | nil => cases x; simpa using Dens.nil
  | cons v vs ih =>
    cases x with
    | cons z r =>
      cases k with
      | zero => exact .nil
      | succ k => exact .cons z (ih r k)
theorem Dens.drop {vs : List Value} {ds : List D} (x : Dens st O h vs ds) (k : Nat) : Dens st O h (vs.drop k) (ds.drop k) := by
  induction vs generalizing ds k with
  | nil => cases x; simpa using Dens.nil
  | cons v vs ih =>
    cases x with
    | cons z r =>
      cases k with
      | zero => exact .cons z r
      | succ k => exact ih r k
end

/-! ## how a heap goes on: all stays but the frames' slots -/
structure Ev (fs : List Addr) (h h' : Heap) : Prop where
  keep : ∀ b o, b ∉ fs → h.get? b = some o → h'.get? b = some o
  slot : ∀ b o, b ∈ fs → h.get? b = some o → ∃ sl, h'.get? b = some { o with slots := sl }
section
variable {fs : List Addr} {h h₁ h₂ h' : Heap}
theorem Ev.refl : Ev fs h h := ⟨fun _ _ _ e => e, fun _ o _ e => ⟨o.slots, e⟩⟩
theorem Ev.of (k : ∀ b o, h.get? b = some o → h'.get? b = some o) : Ev fs h h' := ⟨fun b o _ e => k b o e, fun b o _ e => ⟨o.slots, k b o e⟩⟩
theorem Ev.trans (x : Ev fs h h₁) (y : Ev fs h₁ h₂) : Ev fs h h₂ :=
  ⟨fun b o hb e => y.keep b o hb (x.keep b o hb e), fun b o hb e => by
    obtain ⟨sl, e1⟩ := x.slot b o hb e
    obtain ⟨sl2, e2⟩ := y.slot b _ hb e1
    exact ⟨sl2, e2⟩⟩
theorem Ev.some (x : Ev fs h h') {b : Addr} {o : Obj} (e : h.get? b = some o) : ∃ sl, h'.get? b = some { o with slots := sl } := by
  by_cases hb : b ∈ fs
  · exact x.slot b o hb e
  · exact ⟨o.slots, x.keep b o hb e⟩
theorem Ev.ns (x : Ev fs h h') {a : Addr} {m : Str → Option Value} (n : h.Ns a m) : h'.Ns a m := by
  obtain ⟨o, es, ep, ho, hd, r⟩ := n
  obtain ⟨sl, e⟩ := x.some ho
  exact ⟨_, es, ep, e, hd, r⟩
theorem Ev.cell (x : Ev fs h h') {c : Addr} {v : Option Value} (n : h.IsCell c v) : h'.IsCell c v := by
  obtain ⟨o, ho, hd⟩ := n
  obtain ⟨sl, e⟩ := x.some ho
  exact ⟨_, e, hd⟩
theorem Ev.isList (x : Ev fs h h') {a : Addr} {vs : Array Value} (n : h.IsList a vs) : h'.IsList a vs := by
  obtain ⟨o, ho, hc, n, hd⟩ := n
  obtain ⟨sl, e⟩ := x.some ho
  exact ⟨_, e, hc, n, hd⟩
theorem Ev.upTo (x : Ev fs h h') : h.UpToSlots h' := fun _ _ e _ => x.some e
theorem Ev.push (x : Ev fs h h') (o : Obj) : Ev fs h (h'.push o) := x.trans (Ev.of fun _ _ e => Heap.get?_push_of_some o e)
end
section
variable {st : Nat → Str} {O : Addr → Prop} {fs : List Addr} {h h' : Heap}
theorem Den.ev (x : Ev fs h h') (hs : ∀ a ∈ fs, O a) {v : Value} {d : D} (y : Den st O h v d) : Den st O h' v d :=
  y.to fun a o ha e => ⟨ha, x.keep a o (fun hm => ha (hs a hm)) e⟩
theorem Dens.ev (x : Ev fs h h') (hs : ∀ a ∈ fs, O a) {v : List Value} {d : List D} (y : Dens st O h v d) : Dens st O h' v d :=
  y.to fun a o ha e => ⟨ha, x.keep a o (fun hm => ha (hs a hm)) e⟩
end
end Mine
set_option Elab.async false
namespace Mine
set_option tactic.hygienic false
open PySem

/-- what is fixed for one call of the law -/
structure Wd extends Nms where
  prog : Program
  w : World
  G : Nat → D
  Hb : Heap
  mg : Str → Option Value
  mb : Str → Option Value
  rcv : Heap → List Addr → Value → List Int → Prop

noncomputable abbrev fsOf (l : List Env) : List Addr := l.filterMap (·.frame)

structure Stn (W : Wd) (A : Around) (l : List Env) (O : Addr → Prop) (h : Heap) : Prop where
  frames : A.frames = some l
  handled : A.handled = none
  stays : W.Hb.StaysIn h
  funs : h.FunFrames W.Hb l
  sub : ∀ a ∈ fsOf l, O a
  fresh : ∀ a, O a → W.Hb.get? a = none ∧ ∃ o, h.get? a = some o

section
variable {W : Wd} {A : Around} {l : List Env} {O : Addr → Prop} {h h' : Heap}
theorem Stn.ev (x : Stn W A l O h) (e : Ev (fsOf l) h h') : Stn W A l O h' where
  frames := x.frames
  handled := x.handled
  stays := fun b o hb => e.keep b o (fun hm => by rw [(x.funs.mem hm).1] at hb; cases hb) (x.stays b o hb)
  funs := x.funs.of_keeps fun b o hb _ => let ⟨_, q⟩ := e.some hb; ⟨_, q, rfl⟩
  sub := x.sub
  fresh := fun a ha => ⟨(x.fresh a ha).1, let ⟨_, ho⟩ := (x.fresh a ha).2; let ⟨_, q⟩ := e.some ho; ⟨_, q⟩⟩
theorem Stn.new (x : Stn W A l O h) {a : Addr} (ha : h.get? a = none) : ¬ O a := fun hO => by
  obtain ⟨_, ho⟩ := (x.fresh a hO).2
  rw [ha] at ho; cases ho
theorem size_none (h : Heap) : h.get? h.objs.size = none := by
  cases q : h.get? h.objs.size with
  | none => rfl
  | some o => exact absurd (Heap.lt_size q) (Nat.lt_irrefl _)
theorem Stn.size (x : Stn W A l O h) : ¬ O h.objs.size := x.new (size_none h)
end

/-- a name of the frame reads so -/
noncomputable def Rd (env : Env) (h : Heap) (x : Str) (v : Value) : Prop :=
  (env.kindOf x = some .local ∧ ∃ m, h.Ns env.locals m ∧ m x = some v) ∨
  (env.kindOf x = some .cell ∧ ∃ c, env.cells.lookup x = some c ∧ h.IsCell c (some v))
theorem Rd.ev {env : Env} {h h' : Heap} {x : Str} {v : Value} {fs : List Addr} (e : Ev fs h h') : Rd env h x v → Rd env h' x v
  | .inl ⟨k, m, n, q⟩ => .inl ⟨k, m, e.ns n, q⟩
  | .inr ⟨k, c, q, n⟩ => .inr ⟨k, c, q, e.cell n⟩

noncomputable def IsOwn (h : Heap) (a : Addr) (vs : List Value) : Prop := ∃ o n, h.get? a = some o ∧ o.cls = .type "list" ∧ o.dict = none ∧ o.data = .seq vs.toArray n
theorem IsOwn.isList {h : Heap} {a : Addr} {vs : List Value} : IsOwn h a vs → h.IsList a vs.toArray := fun ⟨o, n, h1, h2, _, h3⟩ => ⟨o, h1, h2, n, h3⟩
theorem IsOwn.to {h h' : Heap} {a : Addr} {vs : List Value} (k : ∀ o, h.get? a = some o → ∃ sl, h'.get? a = some { o with slots := sl }) : IsOwn h a vs → IsOwn h' a vs := fun ⟨_, n, h1, h2, h3, h4⟩ => let ⟨_, q⟩ := k _ h1; ⟨_, n, q, h2, h3, h4⟩
noncomputable def LVOk (W : Wd) (O : Addr → Prop) (h : Heap) (F : List Addr) (v : Value) : LV → Prop
  | .v d => Den W.st O h v d
  | .own ds => ∃ a vs, F = [a] ∧ v = .ref a ∧ O a ∧ IsOwn h a vs ∧ Dens W.st O h vs ds ∧ fits ds.length = true
  | .brw ds => ∃ a vs, F = [a] ∧ v = .ref a ∧ O a ∧ h.IsList a vs.toArray ∧ Dens W.st O h vs ds ∧ fits ds.length = true
  | .rcv held => W.rcv h F v held

noncomputable def builtIns : List (Str × Value) := [("len", .builtin "len"), ("bytes", .type "bytes"), ("max", .builtin "max"), ("type", .type "type"), ("bool", .type "bool"), ("range", .type "range"), ("zip", .type "zip"), ("ValueError", .type "ValueError")]
structure WOk (W : Wd) : Prop where
  bi : ∀ p ∈ builtIns, W.mg p.1 = none ∧ W.mb p.1 = some p.2
  g : W.Hb.Ns mainGlobals W.mg
  b : W.Hb.Ns builtinsNs W.mb
  nolimit : W.Hb.NoLimit
  inj : ∀ j k, j < 32 → k < 32 → W.st j = W.st k → j = k
  nmInj : ∀ x y, x < W.nn → y < W.nn → W.nm x = W.nm y → x = y
  rcvTo : ∀ {h h' : Heap} {F : List Addr} {v : Value} {held : List Int}, (∀ a o, a ∈ F → h.get? a = some o → h'.get? a = some o) → W.Hb.StaysIn h' → W.rcv h F v held → W.rcv h' F v held
  glob : ∀ g, ∃ v, W.mg (W.gnm g) = some v ∧ Den W.st (fun _ => False) W.Hb v (W.G g)
  fn : ∀ f, ∃ a o fd, W.mg (W.fnm f) = some (.ref a) ∧ W.Hb.get? a = some o ∧ o.data = .func fd
  hin : ∀ {A : Around} {l : List Env} {O : Addr → Prop} {s : Shared} {F : List Addr} {v : Value} {held : List Int} {i : Int} {t : Tok} {pos : Bool} {Q : Value → Shared → Prop} {Ex : Value → Shared → Prop}, Stn W A l O s.heap → A.units < 9000 → W.rcv s.heap F v held →
    (∀ tk, Q (.bool (held.contains i == pos)) { s with toks := tk }) → wpAny (model W.prog W.w) A (getAttr v ("_held" : Str) true) (fun r s₁ => wpAny (model W.prog W.w) A (compareOp (inOp pos) (.int i t) r) Q Ex s₁) Ex s

theorem WOk.rcvEv {W : Wd} (ok : WOk W) {fs : List Addr} {h h' : Heap} {F : List Addr} {v : Value} {held : List Int} (e : Ev fs h h') (hF : ∀ a ∈ F, a ∉ fs) (st : W.Hb.StaysIn h') (x : W.rcv h F v held) : W.rcv h' F v held :=
  ok.rcvTo (fun a o ha q => e.keep a o (hF a ha) q) st x
theorem LVOk.map {W : Wd} (ok : WOk W) {O O' : Addr → Prop} {h h' : Heap} {F : List Addr} {v : Value} (den : ∀ a o, ¬ O a → h.get? a = some o → ¬ O' a ∧ h'.get? a = some o) (sub : ∀ a, O a → O' a)
    (own : ∀ a o, F = [a] → h.get? a = some o → ∃ sl, h'.get? a = some { o with slots := sl }) (rc : ∀ held, W.rcv h F v held → W.rcv h' F v held) {lv : LV} (x : LVOk W O h F v lv) : LVOk W O' h' F v lv := by
  cases lv with
  | v d => exact Den.to den x
  | own ds =>
    obtain ⟨a, vs, q1, q2, q3, q4, q5, q6⟩ := x
    exact ⟨a, vs, q1, q2, sub a q3, q4.to fun o ho => own a o q1 ho, q5.to den, q6⟩
  | brw ds =>
    obtain ⟨a, vs, q1, q2, q3, ⟨o, ho, hc, n, hd⟩, q5, q6⟩ := x
    obtain ⟨sl, z⟩ := own a o q1 ho
    exact ⟨a, vs, q1, q2, sub a q3, ⟨_, z, hc, n, hd⟩, q5.to den, q6⟩
  | rcv _ => exact rc _ x
theorem LVOk.ev {W : Wd} (ok : WOk W) {O : Addr → Prop} {h h' : Heap} {F : List Addr} {v : Value} {fs : List Addr} (hs : ∀ a ∈ fs, O a) (e : Ev fs h h') (hF : ∀ a ∈ F, a ∉ fs) (st : W.Hb.StaysIn h') {lv : LV} (x : LVOk W O h F v lv) : LVOk W O h' F v lv :=
  x.map ok (fun a o ha q => ⟨ha, e.keep a o (fun hm => ha (hs a hm)) q⟩) (fun _ q => q) (fun _ _ _ q => e.some q) (fun _ q => ok.rcvEv e hF st q)

structure Rel (W : Wd) (env : Env) (l : List Env) (O : Addr → Prop) (h : Heap) (fp : Nat → List Addr) (ρ : Loc) : Prop where
  get : ∀ x lv, ρ.get x = some lv → ∃ v, Rd env h (W.nm x) v ∧ LVOk W O h (fp x) v lv
  off : ∀ x a, a ∈ fp x → O a ∧ a ∉ fsOf l
  bnd : ∀ x lv, ρ.get x = some lv → x < W.nn
theorem Rel.ev {W : Wd} (ok : WOk W) {env : Env} {l : List Env} {O : Addr → Prop} {h h' : Heap} {fp : Nat → List Addr} {ρ : Loc} (hs : ∀ a ∈ fsOf l, O a) (e : Ev (fsOf l) h h') (st : W.Hb.StaysIn h') (x : Rel W env l O h fp ρ) : Rel W env l O h' fp ρ :=
  ⟨fun y lv q => let ⟨v, r, k⟩ := x.get y lv q; ⟨v, r.ev e, k.ev ok hs e (fun a ha => (x.off y a ha).2) st⟩, x.off, x.bnd⟩

structure EnvOk (env : Env) : Prop where
  kind : env.scope.kind = .function
  globals : env.globals = mainGlobals
  builtins : env.builtins = builtinsNs
  cells : ∀ x, env.kindOf x = some .cell → ∃ c, env.cells.lookup x = some c

theorem Den.glob {W : Wd} {A : Around} {l : List Env} {O : Addr → Prop} {h : Heap} (S : Stn W A l O h) {v : Value} {d : D} (x : Den W.st (fun _ => False) W.Hb v d) : Den W.st O h v d :=
  x.to fun a o _ e => ⟨fun ha => (by rw [(S.fresh a ha).1] at e; cases e), S.stays a o e⟩

/-- an exception has come out of a call -/
noncomputable def Flew (W : Wd) (l : List Env) (h h' : Heap) (e : Value) : Prop :=
  ∃ a B a0, e = .ref a ∧ Heap.FlyingW B l a (.type "ValueError") a0 h' ∧ (∀ b o, b ∉ fsOf l → h.get? b = some o → B.get? b = some o) ∧ Ev (fsOf l) h h' ∧ W.Hb.StaysIn B
theorem Flew.pre {W : Wd} {l : List Env} {h h₁ h' : Heap} {e : Value} (x : Ev (fsOf l) h h₁) (y : Flew W l h₁ h' e) : Flew W l h h' e := by
  obtain ⟨a, B, a0, q1, q2, q3, q4, q5⟩ := y
  exact ⟨a, B, a0, q1, q2, fun b o hb e => q3 b o hb (x.keep b o hb e), x.trans q4, q5⟩

structure Room (A : Around) (k : Nat) : Prop where
  depth : A.depth + k < 600
  units : A.units + 10 * k < 9000

/-- the place of an expression: its frame, what the names hold -/
structure Here (W : Wd) (k : Nat) (A : Around) (l : List Env) (env : Env) (O : Addr → Prop) (fp : Nat → List Addr) (h : Heap) (ρ : Loc) : Prop where
  eok : EnvOk env
  stn : Stn W A l O h
  room : Room A k
  rel : Rel W env l O h fp ρ
theorem Here.ev {W : Wd} (ok : WOk W) {k : Nat} {A : Around} {l : List Env} {env : Env} {O : Addr → Prop} {fp : Nat → List Addr} {h h' : Heap} {ρ : Loc} (x : Here W k A l env O fp h ρ) (e : Ev (fsOf l) h h') : Here W k A l env O fp h' ρ :=
  ⟨x.eok, x.stn.ev e, x.room, x.rel.ev ok x.stn.sub e (x.stn.ev e).stays⟩

noncomputable abbrev QK (W : Wd) (l : List Env) (O : Addr → Prop) (s : Shared) (K : D → Prop) (Q : Value → Shared → Prop) : Prop :=
  ∀ d v h' tk, K d → Ev (fsOf l) s.heap h' → Den W.st O h' v d → Q v { s with heap := h', toks := tk }
noncomputable abbrev XK (W : Wd) (l : List Env) (s : Shared) (X : Prop) (Ex : Value → Shared → Prop) : Prop :=
  ∀ er h' tk, X → Flew W l s.heap h' er → Ex er { s with heap := h', toks := tk }
/-- an expression comes to a value that K takes, or raises where X stands -/
noncomputable def Evals (W : Wd) (A : Around) (l : List Env) (O : Addr → Prop) (t : Sem Value) (K : D → Prop) (X : Prop) (s : Shared) : Prop :=
  ∀ Q Ex, QK W l O s K Q → XK W l s X Ex → wpAny (model W.prog W.w) A t Q Ex s

noncomputable def ArgOk (W : Wd) (O : Addr → Prop) (h : Heap) (v : Value) : LV → Prop
  | .v d => Den W.st O h v d
  | .brw ds => ∃ a vs, v = .ref a ∧ O a ∧ h.IsList a vs.toArray ∧ Dens W.st O h vs ds ∧ fits ds.length = true
  | _ => False
inductive ArgsOk (W : Wd) (O : Addr → Prop) (l : List Env) (h : Heap) : List Value → List LV → Prop
  | nil : ArgsOk W O l h [] []
  | cons {v : Value} {vs : List Value} {x : LV} {xs : List LV} : ArgOk W O h v x → (∀ a ds, x = .brw ds → v = .ref a → a ∉ fsOf l) → ArgsOk W O l h vs xs → ArgsOk W O l h (v :: vs) (x :: xs)
noncomputable def CallOk (W : Wd) (l : List Env) (O : Addr → Prop) (s : Shared) (K : D → Prop) (X : Prop) (r : Result) (s' : Shared) : Prop :=
  match r with
  | .ok (.ret v) => ∃ d h' tk, s' = { s with heap := h', toks := tk } ∧ K d ∧ Ev (fsOf l) s.heap h' ∧ Den W.st O h' v d
  | .ok _ => False
  | .error e => X ∧ ∃ h' tk, s' = { s with heap := h', toks := tk } ∧ Flew W l s.heap h' e
/-- a contract holds of the text's def -/
noncomputable def FnOk (W : Wd) (Φ : Phi) (k f : Nat) : Prop :=
  ∀ a, W.mg (W.fnm f) = some (.ref a) → ∀ A l O s args vs K X, Stn W A l O s.heap → Room A k → ArgsOk W O l s.heap vs args → Φ f args K X → codeAny (model W.prog W.w) A (.call (.ref a) ⟨vs, []⟩) (CallOk W l O s K X) s
noncomputable def PhiOk (W : Wd) (Φ : Phi) (k : Nat) : Prop := ∀ f, FnOk W Φ k f
end Mine
set_option Elab.async false
namespace Mine
set_option tactic.hygienic false
open PySem PyProof.Rows

noncomputable abbrev VK (W : Wd) (O : Addr → Prop) (fs : List Addr) (s : Shared) (d : D) (Q : Value → Shared → Prop) : Prop :=
  ∀ v h' tk, Ev fs s.heap h' → Den W.st O h' v d → Q v { s with heap := h', toks := tk }

theorem gd_some {α : Type} {b : Bool} {a x : α} (h : gd b a = some x) : b = true ∧ a = x := by
  cases b
  · cases h
  · cases h; exact ⟨rfl, rfl⟩
theorem fits_le {n : Nat} (h : fits n = true) : n ≤ 1048576 := Nat.le_of_ble_eq_true h
theorem small_le {a : Int} (h : small a = true) : a.natAbs ≤ 4294967296 := Nat.le_of_ble_eq_true h

section
variable {W : Wd} {A : Around} {l : List Env} {O : Addr → Prop} {s : Shared} {Ex : Value → Shared → Prop} {Q : Value → Shared → Prop}

theorem push_ev {fs : List Addr} {h : Heap} (o : Obj) : Ev fs h (h.push o) := Ev.refl.push o

theorem newTuple_ok (S : Stn W A l O s.heap) {vs : List Value} {ds : List D} (hd : Dens W.st O s.heap vs ds) (hz : fits ds.length = true) (hq : VK W O (fsOf l) s (.tuple ds) Q) :
    wpAny (model W.prog W.w) A (newTuple vs) Q Ex s := by
  have hl := fits_le hz
  refine wpAny_newObj_type (hq _ _ s.toks (push_ev _) (.tuple S.size ⟨_, Heap.get?_push_size _ rfl, rfl, _, rfl⟩ (hd.ev (push_ev _) S.sub) hz)) ?_
  show vs.toArray.size ≤ sizeLine
  rw [List.size_toArray, hd.length, sizeLine_eq]; (first | lia | omega)
theorem newList_ok (S : Stn W A l O s.heap) {vs : List Value} {ds : List D} (hd : Dens W.st O s.heap vs ds) (hz : fits ds.length = true) (hq : VK W O (fsOf l) s (.list ds) Q) :
    wpAny (model W.prog W.w) A (newList vs) Q Ex s := by
  have hl := fits_le hz
  refine wpAny_newObj_type (hq _ _ s.toks (push_ev _) (.list S.size ⟨_, Heap.get?_push_size _ rfl, rfl, _, rfl⟩ (hd.ev (push_ev _) S.sub) hz)) ?_
  show vs.toArray.size ≤ sizeLine
  rw [List.size_toArray, hd.length, sizeLine_eq]; (first | lia | omega)

/-- a value of the heap as it is -/
theorem VK.here {d : D} {v : Value} {tk : Nat} (hq : VK W O (fsOf l) s d Q) (hv : Den W.st O s.heap v d) : Q v { s with toks := tk } := hq v s.heap tk Ev.refl hv

theorem add_list_ok (S : Stn W A l O s.heap) {va vb : Value} {a b : List D} (ha : Den W.st O s.heap va (.list a)) (hb : Den W.st O s.heap vb (.list b)) (hz : fits (a.length + b.length) = true) (hq : VK W O (fsOf l) s (.list (a ++ b)) Q) :
    wpAny (model W.prog W.w) A (binaryOp .Add va vb) Q Ex s := by
  have hz' := fits_le hz
  cases ha with
  | @list x vs _ hx hl da za =>
    cases hb with
    | @list y ws _ hy hm db zb =>
      obtain ⟨⟨cls, dd, data, sl⟩, ho, hc, n, hd⟩ := id hl
      obtain ⟨⟨cls2, dd2, data2, sl2⟩, ho2, hc2, n2, hd2⟩ := id hm
      simp only at hc hd hc2 hd2
      subst hc hd hc2 hd2
      have e : vs.toArray ++ ws.toArray = (vs ++ ws).toArray := by simp
      refine concat_meets ⟨_, ho, rfl⟩ ⟨_, ho2, rfl⟩ noFill_list_add seq_list_add PySem.F.slot_list_add PySem.F.entry_list_add (PySem.F.args_list_add_2 _ _) (list_addW x y vs.toArray ws.toArray n n2 dd dd2 sl sl2 (by simp only [List.size_toArray, da.length, db.length, sizeLine_eq]; (first | lia | omega))) ⟨ho, ho2, ?_⟩
      rw [e]
      exact hq _ _ _ (push_ev _) (.list S.size ⟨_, Heap.get?_push_size _ rfl, rfl, _, rfl⟩ ((da.ev (push_ev _) S.sub).append (db.ev (push_ev _) S.sub)) (by rw [List.length_append]; exact hz))
end
end Mine
set_option Elab.async false
namespace Mine
set_option tactic.hygienic false
open PySem PyProof.Rows
section
variable {W : Wd} {A : Around} {l : List Env} {O : Addr → Prop} {s : Shared} {Ex : Value → Shared → Prop} {Q : Value → Shared → Prop}

theorem mulOk {a b : Int} (h : (small b || small a) = true) : IntMulOk a b := by
  rcases Bool.or_eq_true_iff.mp h with h | h
  · exact .of_right (intBits_le (by have := small_le h; (first | lia | omega)))
  · exact .of_left (intBits_le (by have := small_le h; (first | lia | omega)))
theorem bitAnd_nat (a b : Nat) : Builtin.bitAnd (a : Int) (b : Int) = ((a &&& b : Nat) : Int) := by
  unfold Builtin.bitAnd
  rw [decide_eq_true (Int.natCast_nonneg a), decide_eq_true (Int.natCast_nonneg b)]
  simp
theorem bitOr_nat (a b : Nat) : Builtin.bitOr (a : Int) (b : Int) = ((a ||| b : Nat) : Int) := by
  unfold Builtin.bitOr Builtin.bitAnd
  have h1 : ∀ n : Nat, ¬ 0 ≤ Builtin.bitNot (n : Int) := fun n => by unfold Builtin.bitNot; (first | lia | omega)
  have h2 : ∀ x : Int, Builtin.bitNot (Builtin.bitNot x) = x := fun x => by unfold Builtin.bitNot; (first | lia | omega)
  rw [decide_eq_false (h1 a), decide_eq_false (h1 b)]
  simp only [h2, Int.toNat_natCast]
theorem fdiv_nat (a : Int) (n : Nat) : a.fdiv ((n + 1 : Nat) : Int) = a / ((n + 1 : Nat) : Int) := Int.fdiv_eq_ediv_of_nonneg a (by (first | lia | omega))
theorem fmod_nat (a : Int) (n : Nat) : a.fmod ((n + 1 : Nat) : Int) = a % ((n + 1 : Nat) : Int) := Int.fmod_eq_emod_of_nonneg a (by (first | lia | omega))

theorem bin_int_ok {op : Operator} {a b : Int} {t u : Tok} {d : D} (e : binop op (.int a) (.int b) = some d) (hq : VK W O (fsOf l) s d Q) :
    wpAny (model W.prog W.w) A (binaryOp op (.int a t) (.int b u)) Q Ex s := by
  cases op with
  | Add => cases e; exact add_int (hq.here (.int _ _))
  | Sub => cases e; exact PyProof.Rows.sub_int (hq.here (.int _ _))
  | Mult =>
    obtain ⟨g, rfl⟩ := gd_some e
    exact PyProof.Rows.mul_int (hq.here (.int _ _)) (mulOk g)
  | FloorDiv =>
    cases b with
    | negSucc n => cases e
    | ofNat n =>
      cases n with
      | zero => cases e
      | succ n =>
        obtain ⟨g, rfl⟩ := gd_some e
        have gl := Nat.le_of_ble_eq_true g
        refine PyProof.Rows.floordiv_int (by simp only [Int.ofNat_eq_natCast]; (first | lia | omega)) ?_ (.inl (PyProof.noPylong_small (by simp only [Int.ofNat_eq_natCast]; (first | lia | omega))))
        rw [Int.ofNat_eq_natCast, fdiv_nat]
        exact hq.here (.int _ _)
  | Mod =>
    cases b with
    | negSucc n => cases e
    | ofNat n =>
      cases n with
      | zero => cases e
      | succ n =>
        cases e
        refine PyProof.Rows.mod_int (by simp only [Int.ofNat_eq_natCast]; (first | lia | omega)) ?_
        rw [Int.ofNat_eq_natCast, fmod_nat]
        exact hq.here (.int _ _)
  | RShift =>
    cases a with
    | negSucc n => cases e
    | ofNat x => cases b with
      | negSucc n => cases e
      | ofNat y =>
        cases e
        refine PyProof.Rows.rshift_int (by simp only [Int.ofNat_eq_natCast]; (first | lia | omega)) ?_
        have : Int.fdiv (Int.ofNat x) (2 ^ (Int.ofNat y).toNat) = ((x / 2 ^ y : Nat) : Int) := by
          have e2 : (2 ^ (Int.ofNat y).toNat : Int) = ((2 ^ y : Nat) : Int) := by simp [Int.natCast_pow]
          rw [e2, Int.fdiv_eq_ediv_of_nonneg _ (Int.natCast_nonneg _), Int.ofNat_eq_natCast, ← Int.natCast_ediv]
        rw [this]
        exact hq.here (.int _ _)
  | LShift =>
    cases a with
    | negSucc n => cases e
    | ofNat x => cases b with
      | negSucc n => cases e
      | ofNat y =>
        obtain ⟨g, rfl⟩ := gd_some e
        obtain ⟨g1, g2⟩ := Bool.and_eq_true_iff.mp g
        have k1 := small_le g1
        have k2 := Nat.le_of_ble_eq_true g2
        refine PyProof.Rows.lshift_int_small (by simp only [Int.ofNat_eq_natCast]; (first | lia | omega)) (by simp only [Int.ofNat_eq_natCast]; (first | lia | omega)) (by simp only [Int.ofNat_eq_natCast]; (first | lia | omega)) ?_
        have : Int.ofNat x * 2 ^ (Int.ofNat y).toNat = ((x * 2 ^ y : Nat) : Int) := by simp [Int.natCast_mul, Int.natCast_pow]
        rw [this]
        exact hq.here (.int _ _)
  | BitAnd =>
    cases a with
    | negSucc n => cases e
    | ofNat x => cases b with
      | negSucc n => cases e
      | ofNat y =>
        cases e
        refine PyProof.Rows.and_int ?_
        rw [Int.ofNat_eq_natCast, Int.ofNat_eq_natCast, bitAnd_nat]
        exact hq.here (.int _ _)
  | BitOr => cases e
  | _ => cases e
end
end Mine
set_option Elab.async false
namespace Mine
set_option tactic.hygienic false
open PySem PyProof.Rows

theorem at_idx {α : Type} {l : List α} {i : Int} {x : α} (h : at? l i = some x) : ∃ j, seqIndex? i l.length = some j ∧ l[j]? = some x ∧ -(l.length : Int) ≤ i ∧ i < l.length := by
  cases i with
  | ofNat k =>
    have h' : l[k]? = some x := h
    have hk : k < l.length := (List.getElem?_eq_some_iff.mp h').1
    refine ⟨k, ?_, h', by simp only [Int.ofNat_eq_natCast]; (first | lia | omega), by simp only [Int.ofNat_eq_natCast]; (first | lia | omega)⟩
    simp [seqIndex?, Int.ofNat_eq_natCast]
    (first | lia | omega)
  | negSucc k =>
    simp only [at?] at h
    split at h
    · rename_i hk
      refine ⟨l.length - 1 - k, ?_, h, by (first | lia | omega), by (first | lia | omega)⟩
      have h1 : (Int.negSucc k : Int) < 0 := by (first | lia | omega)
      have h2 : 0 ≤ (Int.negSucc k : Int) + l.length := by (first | lia | omega)
      have h3 : (Int.negSucc k : Int) + l.length < l.length := by (first | lia | omega)
      simp only [seqIndex?, if_pos h1, decide_eq_true h2, decide_eq_true h3, Bool.and_self, if_true]
      congr 1
      (first | lia | omega)
    · cases h

section
variable {W : Wd} {A : Around} {l : List Env} {O : Addr → Prop} {s : Shared} {Ex : Value → Shared → Prop} {Q : Value → Shared → Prop}

theorem truthy_ok {v : Value} {d : D} {b : Bool} {Q : Bool → Shared → Prop} (hv : Den W.st O s.heap v d) (e : d.tr = some b) (hq : ∀ tk, Q b { s with toks := tk }) :
    wpAny (model W.prog W.w) A (truthy v) Q Ex s := by
  cases hv with
  | none => cases e; exact truthy_none (hq _)
  | bool c => cases e; exact wpAny_truthy_bool (hq s.toks)
  | int i t =>
    cases e
    refine PySem.P.truthy_int ?_
    have : (i != 0) = decide (i ≠ 0) := by rw [Bool.eq_iff_iff]; simp
    rw [this]; exact hq s.toks
  | str k x t _ _ => cases e
  | bytes b t m hb hz =>
    cases e
    have := fits_le hz
    have hs : b.size = m.length := by rw [← hb]; simp
    refine PySem.W.truthy_bytes (by (first | lia | omega)) ?_
    have : ((b.size : Int) != 0) = !m.isEmpty := by
      rw [hs]; cases m <;> simp; (first | lia | omega)
    rw [this]; exact hq _
  | @tuple a vs ds ha ht hd hz =>
    cases e
    have := fits_le hz
    refine truthy_tuple ht (by have := hd.length; simp only [List.size_toArray]; (first | lia | omega)) ?_
    have : (!vs.toArray.isEmpty) = !ds.isEmpty := by
      have := hd.length
      cases vs <;> cases ds <;> simp_all
    rw [this]; exact hq _
  | @list a vs ds ha ht hd hz =>
    cases e
    have := fits_le hz
    refine wpAny_truthy_list ht (by have := hd.length; simp only [List.size_toArray]; (first | lia | omega)) ?_
    have : (!vs.toArray.isEmpty) = !ds.isEmpty := by
      have := hd.length
      cases vs <;> cases ds <;> simp_all
    rw [this]; exact hq _

theorem len_ok {v : Value} {a d : D} (hv : Den W.st O s.heap v a) (e : a.len = some d) (hq : VK W O (fsOf l) s d Q) : wpAny (model W.prog W.w) A (call (.builtin "len") [v]) Q Ex s := by
  cases hv with
  | bytes b t m hb hz =>
    cases e
    have := fits_le hz
    have hs : b.size = m.length := by rw [← hb]; simp
    refine PySem.W.len_bytes (by (first | lia | omega)) ?_
    rw [hs]; exact hq.here (.int _ _)
  | @tuple a vs ds ha ht hd hz =>
    cases e
    have := fits_le hz
    refine PyProof.Rows.len_tuple ht (by have := hd.length; simp only [List.size_toArray]; (first | lia | omega)) ?_
    rw [List.size_toArray, hd.length]; exact hq.here (.int _ _)
  | @list a vs ds ha ht hd hz =>
    cases e
    have := fits_le hz
    refine PyProof.Rows.len_list ht (by have := hd.length; simp only [List.size_toArray]; (first | lia | omega)) ?_
    rw [List.size_toArray, hd.length]; exact hq.here (.int _ _)
  | _ => cases e

theorem byte_get {b : Array UInt8} {m : List Nat} (hb : b.toList.map UInt8.toNat = m) {j : Nat} {x : Nat} (h : m[j]? = some x) : ∃ c : UInt8, b[j]? = some c ∧ c.toNat = x := by
  subst hb
  rw [List.getElem?_map] at h
  cases q : b.toList[j]? with
  | none => rw [q] at h; cases h
  | some c => rw [q] at h; cases h; exact ⟨c, by simpa using q, rfl⟩

theorem item_ok {v : Value} {a d : D} {i : Int} {u : Tok} (hv : Den W.st O s.heap v a) (e : a.idx (.int i) = some d) (hq : VK W O (fsOf l) s d Q) : wpAny (model W.prog W.w) A (getItem v (.int i u)) Q Ex s := by
  cases hv with
  | bytes b t m hb hz =>
    have hz' := fits_le hz
    have hs : b.size = m.length := by rw [← hb]; simp
    simp only [D.idx, Option.map_eq_some_iff] at e
    obtain ⟨x, e1, e2⟩ := e
    subst e2
    obtain ⟨j, hj, hx, h1, h2⟩ := at_idx e1
    obtain ⟨c, hc, hcx⟩ := byte_get hb hx
    refine PySem.getItem_gives (PySem.W.typeIs_bytes s _ t) (by decide) PySem.W.FB.slot_bytes_getitem PySem.W.FB.entry_bytes_getitem (PySem.W.FB.args_bytes_getitem_2 _ _) (PySem.W.gives_bytes_getitem _ i t u c ?_ ?_) ?_
    · simp only [PySem.Builtin.Bytes.fitsIndex, Bool.and_eq_true, decide_eq_true_eq]; (first | lia | omega)
    · rw [hs, hj]; exact hc
    · rw [hcx]; exact hq.here (.int _ _)
  | @tuple a vs ds ha ht hd hz =>
    have hz' := fits_le hz
    have hl := hd.length
    obtain ⟨j, hj, hx, h1, h2⟩ := at_idx (show at? ds i = some d from e)
    obtain ⟨y, hy, hyd⟩ := hd.get hx
    exact getItem_tuple ht (by (first | lia | omega)) (by (first | lia | omega)) (by rw [List.size_toArray, hl]; exact hj) (by simpa using hy) (hq.here (tk := s.toks) hyd)
  | @list a vs ds ha ht hd hz =>
    have hz' := fits_le hz
    have hl := hd.length
    obtain ⟨j, hj, hx, h1, h2⟩ := at_idx (show at? ds i = some d from e)
    obtain ⟨y, hy, hyd⟩ := hd.get hx
    by_cases hi : i < 0
    · refine wpAny_getItem_list_neg ht hi (by simp only [List.size_toArray]; (first | lia | omega)) (by (first | lia | omega)) ?_ (hq.here (tk := s.toks) hyd)
      have : (i + (vs.toArray.size : Int)).toNat = j := by
        simp only [seqIndex?, if_pos hi] at hj
        split at hj
        · cases hj; simp only [List.size_toArray, hl]
        · cases hj
      rw [this]; simpa using hy
    · refine wpAny_getItem_list ht (by (first | lia | omega)) (by (first | lia | omega)) ?_ (hq.here (tk := s.toks) hyd)
      have : i.toNat = j := by
        simp only [seqIndex?, if_neg hi] at hj
        split at hj
        · cases hj; rfl
        · cases hj
      rw [this]; simpa using hy
  | _ => cases e

theorem sub_plain {slice : Expr} (hs : ∀ lo hi st p, slice ≠ .Slice lo hi st p) (v w : Value) : subscripted slice false v w = operate [v, w] (getItem v w) := by
  cases slice with
  | Slice lo hi st p => exact absurd rfl (hs lo hi st p)
  | _ => rfl
theorem tail_ok {value slice : Expr} {v : Value} {a d : D} {i : Int} {u : Tok} (hv : Den W.st O s.heap v a) (e : a.idx (.int i) = some d) (hq : VK W O (fsOf l) s d Q) (hs : ∀ lo hi st p, slice ≠ .Slice lo hi st p) :
    wpAny (model W.prog W.w) A (subscriptTail value slice v (.int i u)) Q Ex s := by
  have hg := item_ok (A := A) (Ex := Ex) (u := u) hv e hq
  have hs' := sub_plain hs v (.int i u)
  cases hv with
  | bytes b t m hb hz => exact tail_any (PySem.W.typeIs_bytes _ _ _) PySem.W.FB.slot_bytes_getitem.lookup hg hs'
  | tuple ha ht hd hz => exact tail_any (IsTup.typeIs ht) slot_tuple_getitem.lookup hg hs'
  | list ha ht hd hz => exact tail_any ht.typeIs slot_list_getitem.lookup hg hs'
  | _ => cases e
end
end Mine
set_option Elab.async false
namespace Mine
set_option tactic.hygienic false
open PySem PyProof.Rows PySem.SeqAt PySem.MeetsSeq

theorem bytes_inj {b c : Array UInt8} (h : b.toList.map UInt8.toNat = c.toList.map UInt8.toNat) : b = c := by
  apply Array.toList_inj.mp
  exact (List.map_inj_right fun x y e => UInt8.toNat.inj e).mp h
theorem bytes_beq {b c : Array UInt8} {m n : List Nat} (hb : b.toList.map UInt8.toNat = m) (hc : c.toList.map UInt8.toNat = n) : (b.toList == c.toList) = (m == n) := by
  rw [Bool.eq_iff_iff, beq_iff_eq, beq_iff_eq]
  constructor
  · intro h; rw [← hb, ← hc, h]
  · intro h; rw [bytes_inj (hb.trans (h.trans hc.symm))]

theorem tup_uniq {h : Heap} {a : Addr} {vs ws : List Value} (x : h.IsTuple a vs.toArray) (y : h.IsTuple a ws.toArray) : vs = ws := by
  obtain ⟨o, ho, _, n, hd⟩ := x
  obtain ⟨o', ho', _, n', hd'⟩ := y
  rw [ho] at ho'; cases ho'
  rw [hd] at hd'
  injection hd' with q
  injection q
theorem lst_uniq {h : Heap} {a : Addr} {vs ws : List Value} (x : h.IsList a vs.toArray) (y : h.IsList a ws.toArray) : vs = ws := by
  obtain ⟨o, ho, _, n, hd⟩ := x
  obtain ⟨o', ho', _, n', hd'⟩ := y
  rw [ho] at ho'; cases ho'
  rw [hd] at hd'
  injection hd' with q
  injection q
theorem tup_lst {h : Heap} {a : Addr} {vs ws : Array Value} (x : h.IsTuple a vs) (y : h.IsList a ws) : False := by
  obtain ⟨o, ho, hc, _⟩ := x
  obtain ⟨o', ho', hc', _⟩ := y
  rw [ho] at ho'; cases ho'
  rw [hc] at hc'; exact absurd hc' (by simp)
mutual
theorem Den.uniq {st : Nat → Str} (inj : ∀ j k, j < 32 → k < 32 → st j = st k → j = k) {O O' : Addr → Prop} {h : Heap} : ∀ {v : Value} {d d' : D}, Den st O h v d → Den st O' h v d' → d = d'
  | _, _, _, .none, y => by cases y; rfl
  | _, _, _, .bool _, y => by cases y; rfl
  | _, _, _, .int _ _, y => by cases y; rfl
  | _, _, _, .str k _ _ e z, y => by
    cases y with
    | str j _ _ e' z' => rw [inj k j z z' (e.trans e'.symm)]
  | _, _, _, .bytes _ _ _ e _, y => by
    cases y with
    | bytes _ _ _ e' _ => rw [← e, e']
  | _, _, _, .tuple _ ht r _, y => by
    cases y with
    | tuple _ h' r' _ => cases tup_uniq ht h'; exact congrArg D.tuple (Dens.uniq inj r r')
    | list _ h' r' _ => exact (tup_lst ht h').elim
  | _, _, _, .list _ ht r _, y => by
    cases y with
    | list _ h' r' _ => cases lst_uniq ht h'; exact congrArg D.list (Dens.uniq inj r r')
    | tuple _ h' r' _ => exact (tup_lst h' ht).elim
theorem Dens.uniq {st : Nat → Str} (inj : ∀ j k, j < 32 → k < 32 → st j = st k → j = k) {O O' : Addr → Prop} {h : Heap} : ∀ {v : List Value} {d d' : List D}, Dens st O h v d → Dens st O' h v d' → d = d'
  | _, _, _, .nil, y => by cases y; rfl
  | _, _, _, .cons x r, y => by
    cases y with
    | cons x' r' => rw [Den.uniq inj x x', Dens.uniq inj r r']
end
theorem eqAll_refl {f : D → D → Option Bool} (hf : ∀ d r, f d d = some r → r = true) : ∀ (l : List D) (r : Bool), eqAll f l l = some r → r = true
  | [], _, e => by cases e; rfl
  | d :: l, r, e => by
    simp only [eqAll] at e
    cases hx : f d d with
    | none => rw [hx] at e; cases e
    | some a =>
      cases hr : eqAll f l l with
      | none => rw [hx, hr] at e; cases e
      | some b => rw [hx, hr] at e; cases e; rw [hf d a hx, eqAll_refl hf l b hr]; rfl
theorem no_some {α : Type} {a : α} {P : Prop} (h : none = some a) : P := nomatch h
noncomputable def EqV (f : D → D → Option Bool) (a b : D) (r : Bool) : Prop := (a = .none ∧ b = .none ∧ r = true) ∨ (∃ x y, a = .bool x ∧ b = .bool y ∧ r = (x == y)) ∨ (∃ x y, a = .int x ∧ b = .int y ∧ r = decide (x = y)) ∨ (∃ x y, a = .str x ∧ b = .str y ∧ r = Nat.beq x y) ∨
    (∃ x y, a = .bytes x ∧ b = .bytes y ∧ r = (x == y)) ∨ (∃ x y, a = .tuple x ∧ b = .tuple y ∧ eqAll f x y = some r) ∨ (∃ x y, a = .list x ∧ b = .list y ∧ eqAll f x y = some r) ∨ (∃ x y, a = .bool x ∧ b = .int y ∧ r = decide ((if x then 1 else 0) = y)) ∨ ∃ x y, a = .int x ∧ b = .bool y ∧ r = decide (x = (if y then 1 else 0))
theorem eqF_of {f : D → D → Option Bool} {a b : D} {r : Bool} (h : eqF f a b = some r) : EqV f a b r := by
  cases a with
  | none => cases b with
    | none => exact .inl ⟨rfl, rfl, (Option.some.inj h).symm⟩
    | _ => exact no_some h
  | bool x => cases b with
    | bool y => exact .inr (.inl ⟨x, y, rfl, rfl, (Option.some.inj h).symm⟩)
    | int y => exact .inr (.inr (.inr (.inr (.inr (.inr (.inr (.inl ⟨x, y, rfl, rfl, (Option.some.inj h).symm⟩)))))))
    | _ => exact no_some h
  | int x => cases b with
    | int y => exact .inr (.inr (.inl ⟨x, y, rfl, rfl, (Option.some.inj h).symm⟩))
    | bool y => exact .inr (.inr (.inr (.inr (.inr (.inr (.inr (.inr ⟨x, y, rfl, rfl, (Option.some.inj h).symm⟩)))))))
    | _ => exact no_some h
  | str x => cases b with
    | str y => exact .inr (.inr (.inr (.inl ⟨x, y, rfl, rfl, (Option.some.inj h).symm⟩)))
    | _ => exact no_some h
  | bytes x => cases b with
    | bytes y => exact .inr (.inr (.inr (.inr (.inl ⟨x, y, rfl, rfl, (Option.some.inj h).symm⟩))))
    | _ => exact no_some h
  | tuple x => cases b with
    | tuple y => exact .inr (.inr (.inr (.inr (.inr (.inl ⟨x, y, rfl, rfl, h⟩)))))
    | _ => exact no_some h
  | list x => cases b with
    | list y => exact .inr (.inr (.inr (.inr (.inr (.inr (.inl ⟨x, y, rfl, rfl, h⟩))))))
    | _ => exact no_some h
theorem D.eqN_refl : ∀ (n : Nat) (d : D) (r : Bool), D.eqN n d d = some r → r = true
  | 0, _, _, e => by cases e
  | n + 1, d, r, e => by
    rcases eqF_of e with ⟨_, _, q⟩ | ⟨x, y, rfl, q, z⟩ | ⟨x, y, rfl, q, z⟩ | ⟨x, y, rfl, q, z⟩ | ⟨x, y, rfl, q, z⟩ | ⟨x, y, rfl, q, z⟩ | ⟨x, y, rfl, q, z⟩ | ⟨x, y, rfl, q, z⟩ | ⟨x, y, rfl, q, z⟩
    · exact q
    · cases q; rw [z]; exact beq_self_eq_true _
    · cases q; rw [z]; exact decide_eq_true rfl
    · cases q; rw [z]; exact Nat.beq_refl _
    · cases q; rw [z]; exact beq_self_eq_true _
    · cases q; exact eqAll_refl (D.eqN_refl n) _ _ z
    · cases q; exact eqAll_refl (D.eqN_refl n) _ _ z
    · cases q
    · cases q
noncomputable def pairE (f : D → D → Option Bool) (xs ys : List D) (j : Nat) : Bool := (f (xs.getD j .none) (ys.getD j .none)).getD false
theorem eqs_at {f : D → D → Option Bool} : ∀ {xs ys : List D} {r : Bool}, eqAll f xs ys = some r →
    ((List.range (min xs.length ys.length)).all (pairE f xs ys) && xs.length == ys.length) = r ∧ ∀ j, j < xs.length → j < ys.length → f (xs.getD j .none) (ys.getD j .none) = some (pairE f xs ys j)
  | [], [], r, h => by cases h; exact ⟨rfl, fun j h => absurd h (Nat.not_lt_zero _)⟩
  | [], _ :: _, r, h => by cases h; exact ⟨by simp, fun j h => absurd h (Nat.not_lt_zero _)⟩
  | _ :: _, [], r, h => by cases h; exact ⟨by simp, fun j _ h => absurd h (Nat.not_lt_zero _)⟩
  | x :: xs, y :: ys, r, h => by
    simp only [eqAll] at h
    cases hx : f x y with
    | none => rw [hx] at h; cases h
    | some a =>
      cases hr : eqAll f xs ys with
      | none => rw [hx, hr] at h; cases h
      | some b =>
        rw [hx, hr] at h
        cases h
        obtain ⟨i1, i2⟩ := eqs_at hr
        have e0 : pairE f (x :: xs) (y :: ys) 0 = a := by simp [pairE, hx]
        constructor
        · have e1 : min (x :: xs).length (y :: ys).length = min xs.length ys.length + 1 := by simp only [List.length_cons]; (first | lia | omega)
          have e2 : ((x :: xs).length == (y :: ys).length) = (xs.length == ys.length) := by simp
          have e3 : (List.range (min xs.length ys.length + 1)).all (pairE f (x :: xs) (y :: ys)) = (a && (List.range (min xs.length ys.length)).all (pairE f xs ys)) := by
            rw [List.range_succ_eq_map, List.all_cons, e0, List.all_map]
            rfl
          rw [e1, e2, e3, ← i1, Bool.and_assoc]
        · intro j h1 h2
          cases j with
          | zero => rw [e0]; exact hx
          | succ j => exact i2 j (Nat.lt_of_succ_lt_succ h1) (Nat.lt_of_succ_lt_succ h2)
theorem Dens.at {st : Nat → Str} {O : Addr → Prop} {h : Heap} {vs : List Value} {ds : List D} (x : Dens st O h vs ds) {j : Nat} (hj : j < vs.length) : Den st O h vs[j] (ds.getD j .none) := by
  have hl := x.length
  have hd : ds[j]? = some (ds.getD j .none) := by simp [List.getD_eq_getElem?_getD, List.getElem?_eq_getElem (by (first | lia | omega) : j < ds.length)]
  obtain ⟨v, h1, h2⟩ := x.get hd
  rw [List.getElem?_eq_getElem hj] at h1
  cases h1
  exact h2

section
variable {st : Nat → Str} {O : Addr → Prop}
theorem str_eqv (inj : ∀ j k, j < 32 → k < 32 → st j = st k → j = k) {j k : Nat} {x y : Str} (hx : st j = x) (hy : st k = y) (zj : j < 32) (zk : k < 32) : (x == y) = Nat.beq j k := by
  rw [Bool.eq_iff_iff, beq_iff_eq, Nat.beq_eq]
  constructor
  · intro h; exact inj j k zj zk (hx.trans (h.trans hy.symm))
  · intro h; subst h; rw [← hx, ← hy]
theorem int_beq (a b : Int) : (a == b) = decide (a = b) := by
  rw [Bool.eq_iff_iff]; simp
theorem RcAt.bytes_bytes {A : Around} {s : Shared} (b c : Array UInt8) (t u : Tok) : RcAt A s (.bytes b t) (.bytes c u) (b.toList == c.toList) := fun prog w E Q h =>
  richCompare_gives (PySem.W.typeIs_bytes s b t) (PySem.W.typeIs_bytes s c u) PySem.W.FB.slot_bytes_eq PySem.W.FB.entry_bytes_eq (PySem.W.FB.args_bytes_eq_2 _ _) (PySem.W.gives_bytes_eq b c t u) (by simp [Made.takes]) h
/-- what richCompare says, eqBool says -/
theorem eqOfRc {A : Around} {s : Shared} {a b : Value} {r : Bool} (x : RcAt A s a b r) (hs : a = b → r = true) (hf : ∀ f t, a ≠ .float f t) : EqAt A s a b r := fun prog w E Q h => by
  unfold eqBool
  refine wpAny_holding ?_
  refine wpAny_ite_split (fun hab => ?_) (fun _ => ?_)
  · refine wpAny_bind (wpAny_rule (wpAny_pure ?_))
    rw [hs (eq_of_beq hab)] at h
    exact h
  · cases a with
    | float f t => exact absurd rfl (hf f t)
    | _ => exact wpAny_bind (x prog w E _ (wpAny_truthy_bool h))
theorem Den.nf {h : Heap} {v : Value} {d : D} (x : Den st O h v d) (f : UInt64) (t : Tok) : v ≠ .float f t := by rintro rfl; cases x
theorem RcNeAt.bytes_bytes {A : Around} {s : Shared} (b c : Array UInt8) (t u : Tok) : RcNeAt A s (.bytes b t) (.bytes c u) (!(b.toList == c.toList)) := fun prog w E Q h =>
  richCompare_gives (PySem.W.typeIs_bytes s b t) (PySem.W.typeIs_bytes s c u) PySem.W.FB.slot_bytes_ne PySem.W.FB.entry_bytes_ne (PySem.W.FB.args_bytes_ne_2 _ _) (PySem.W.gives_bytes_ne b c t u) (by simp [Made.takes]) h

/-- the items of two sequences -/
theorem seqs_at {n : Nat} {r : Bool} {A : Around} {s : Shared} {vs us : List Value} {xs ys : List D} (ih : ∀ {da db : D} {r : Bool} {A : Around} {a b : Value}, Den st O s.heap a da → Den st O s.heap b db → D.eqN n da db = some r → A.units + n < cLine → EqAt A s a b r)
    (da : Dens st O s.heap vs xs) (db : Dens st O s.heap us ys) (e : eqAll (D.eqN n) xs ys = some r) (hu : A.units + (n + 1) < cLine) :
    (∀ j (j1 : j < vs.toArray.size) (j2 : j < us.toArray.size), EqAt A.in1 s vs.toArray[j] us.toArray[j] (pairE (D.eqN n) xs ys j)) ∧ ((List.range (min vs.toArray.size us.toArray.size)).all (pairE (D.eqN n) xs ys) && vs.toArray.size == us.toArray.size) = r := by
  obtain ⟨i1, i2⟩ := eqs_at e
  have n1 : vs.toArray.size = xs.length := da.length
  have n2 : us.toArray.size = ys.length := db.length
  refine ⟨fun j j1 j2 => ?_, by rw [n1, n2]; exact i1⟩
  have := ih (A := A.in1) (da.at (j := j) j1) (db.at (j := j) j2) (i2 j (n1 ▸ j1) (n2 ▸ j2)) (by rw [Around.in1_units]; (first | lia | omega))
  simpa using this
theorem lists_eq {m k : Nat} {f : Nat → Bool} {r : Bool} (h : ((List.range (min m k)).all f && m == k) = r) : (m = k → (List.range m).all f = r) ∧ (m ≠ k → (m != k) = true ∧ r = false) := by
  constructor
  · rintro rfl; rw [Nat.min_self, beq_self_eq_true, Bool.and_true] at h; exact h
  · intro q; exact ⟨bne_iff_ne.mpr q, by rw [← h, beq_eq_false_iff_ne.mpr q, Bool.and_false]⟩
theorem rcAt_den (inj : ∀ j k, j < 32 → k < 32 → st j = st k → j = k) : ∀ {n : Nat} {da db : D} {r : Bool} {A : Around} {s : Shared} {a b : Value}, Den st O s.heap a da → Den st O s.heap b db → D.eqN n da db = some r → A.units + n < cLine → RcAt A s a b r
  | 0, _, _, _, _, _, _, _, _, _, e, _ => by cases e
  | n + 1, da, db, r, A, s, a, b, ra, rb, e, hu => by
    have hu' : A.units < cLine := Nat.lt_of_le_of_lt (Nat.le_add_right _ _) hu
    have ih : ∀ {da db : D} {r : Bool} {A : Around} {a b : Value}, Den st O s.heap a da → Den st O s.heap b db → D.eqN n da db = some r → A.units + n < cLine → EqAt A s a b r := fun {da db r A a b} x y e hu =>
      eqOfRc (rcAt_den inj x y e hu) (fun q => by subst q; cases Den.uniq inj x y; exact D.eqN_refl n _ _ e) x.nf
    rcases eqF_of e with ⟨rfl, rfl, rfl⟩ | ⟨x, y, rfl, rfl, rfl⟩ | ⟨x, y, rfl, rfl, rfl⟩ | ⟨x, y, rfl, rfl, rfl⟩ | ⟨x, y, rfl, rfl, rfl⟩ | ⟨x, y, rfl, rfl, e⟩ | ⟨x, y, rfl, rfl, e⟩ | ⟨x, y, rfl, rfl, rfl⟩ | ⟨x, y, rfl, rfl, rfl⟩
    · cases ra.none_inv; cases rb.none_inv; exact RcAt.none_none
    · cases ra.bool_inv; cases rb.bool_inv; exact RcAt.bool_bool x y
    · obtain ⟨t, rfl⟩ := ra.int_inv; obtain ⟨u, rfl⟩ := rb.int_inv; rw [← int_beq]; exact RcAt.int_int x t y u
    · obtain ⟨w, t, rfl, hw, zw⟩ := ra.str_inv; obtain ⟨z, u, rfl, hy, zy⟩ := rb.str_inv; rw [← str_eqv inj hw hy zw zy]; exact RcAt.str_str w t z u
    · obtain ⟨w, t, rfl, hw, _⟩ := ra.bytes_inv; obtain ⟨z, u, rfl, hy, _⟩ := rb.bytes_inv; rw [← bytes_beq hw hy]; exact RcAt.bytes_bytes w z t u
    · obtain ⟨_, vs, rfl, _, h1, d1, _⟩ := ra.tuple_inv; obtain ⟨_, us, rfl, _, h2, d2, _⟩ := rb.tuple_inv
      obtain ⟨he, hr⟩ := seqs_at ih d1 d2 e hu
      rw [← hr]; exact RcAt.tuples h1 h2 hu' he
    · obtain ⟨_, vs, rfl, _, h1, d1, _⟩ := ra.list_inv; obtain ⟨_, us, rfl, _, h2, d2, _⟩ := rb.list_inv
      obtain ⟨he, hr⟩ := seqs_at ih d1 d2 e hu
      obtain ⟨q1, q2⟩ := lists_eq hr
      by_cases hsz : vs.toArray.size = us.toArray.size
      · rw [← q1 hsz]; exact RcAt.lists h1 h2 hsz hu' he
      · rw [(q2 hsz).2]; exact RcAt.lists_lengths h1 h2 (q2 hsz).1 hu'
    · cases ra.bool_inv; obtain ⟨u, rfl⟩ := rb.int_inv; rw [← int_beq]; exact RcAt.bool_int x y u
    · obtain ⟨t, rfl⟩ := ra.int_inv; cases rb.bool_inv; rw [← int_beq]; exact RcAt.int_bool x t y
theorem eqAt_den (inj : ∀ j k, j < 32 → k < 32 → st j = st k → j = k) {n : Nat} {s : Shared} {da db : D} {r : Bool} {A : Around} {a b : Value} (x : Den st O s.heap a da) (y : Den st O s.heap b db) (e : D.eqN n da db = some r) (hu : A.units + n < cLine) : EqAt A s a b r :=
  eqOfRc (rcAt_den inj x y e hu) (fun q => by subst q; cases Den.uniq inj x y; exact D.eqN_refl n _ _ e) x.nf
theorem rcNeAt_den (inj : ∀ j k, j < 32 → k < 32 → st j = st k → j = k) {n : Nat} {da db : D} {r : Bool} {A : Around} {s : Shared} {a b : Value} (ra : Den st O s.heap a da) (rb : Den st O s.heap b db) (e : D.eqN (n + 1) da db = some r) (hu : A.units + (n + 1) < cLine) : RcNeAt A s a b (!r) := by
    have hu' : A.units < cLine := Nat.lt_of_le_of_lt (Nat.le_add_right _ _) hu
    rcases eqF_of e with ⟨rfl, rfl, rfl⟩ | ⟨x, y, rfl, rfl, rfl⟩ | ⟨x, y, rfl, rfl, rfl⟩ | ⟨x, y, rfl, rfl, rfl⟩ | ⟨x, y, rfl, rfl, rfl⟩ | ⟨x, y, rfl, rfl, e⟩ | ⟨x, y, rfl, rfl, e⟩ | ⟨x, y, rfl, rfl, rfl⟩ | ⟨x, y, rfl, rfl, rfl⟩
    · cases ra.none_inv; cases rb.none_inv; exact RcNeAt.none_none
    · cases ra.bool_inv; cases rb.bool_inv; exact RcNeAt.bool_bool x y
    · obtain ⟨t, rfl⟩ := ra.int_inv; obtain ⟨u, rfl⟩ := rb.int_inv; rw [← int_beq]; exact RcNeAt.int_int x t y u
    · obtain ⟨w, t, rfl, hw, zw⟩ := ra.str_inv; obtain ⟨z, u, rfl, hy, zy⟩ := rb.str_inv; rw [← str_eqv inj hw hy zw zy]; exact RcNeAt.str_str w t z u
    · obtain ⟨w, t, rfl, hw, _⟩ := ra.bytes_inv; obtain ⟨z, u, rfl, hy, _⟩ := rb.bytes_inv; rw [← bytes_beq hw hy]; exact RcNeAt.bytes_bytes w z t u
    · obtain ⟨_, vs, rfl, _, h1, d1, _⟩ := ra.tuple_inv; obtain ⟨_, us, rfl, _, h2, d2, _⟩ := rb.tuple_inv
      obtain ⟨he, hr⟩ := seqs_at (eqAt_den inj) d1 d2 e hu
      rw [← hr]; exact RcNeAt.tuples h1 h2 hu' he
    · obtain ⟨_, vs, rfl, _, h1, d1, _⟩ := ra.list_inv; obtain ⟨_, us, rfl, _, h2, d2, _⟩ := rb.list_inv
      obtain ⟨he, hr⟩ := seqs_at (eqAt_den inj) d1 d2 e hu
      obtain ⟨q1, q2⟩ := lists_eq hr
      by_cases hsz : vs.toArray.size = us.toArray.size
      · rw [← q1 hsz]; exact RcNeAt.lists h1 h2 hsz hu' he
      · rw [(q2 hsz).2]; exact RcNeAt.lists_lengths h1 h2 (q2 hsz).1 hu'
    · cases ra.bool_inv; obtain ⟨u, rfl⟩ := rb.int_inv; rw [← int_beq]; exact RcNeAt.bool_int x y u
    · obtain ⟨t, rfl⟩ := ra.int_inv; cases rb.bool_inv; rw [← int_beq]; exact RcNeAt.int_bool x t y
end
end Mine

set_option Elab.async false
namespace Mine
set_option tactic.hygienic false
open PySem PyProof.Rows PySem.SeqAt PySem.MeetsSeq
section
variable {W : Wd} {A : Around} {l : List Env} {O : Addr → Prop} {s : Shared} {Ex : Value → Shared → Prop} {Q : Value → Shared → Prop}

open Classical in
/-- whether an item is equal to d, by what it denotes -/
noncomputable def byDen (W : Wd) (O : Addr → Prop) (h : Heap) (d : D) (y : Value) : Bool := decide (∃ dy, Den W.st O h y dy ∧ D.eq dy d = some true)
open Classical in
theorem byDen_eq (ok : WOk W) {h : Heap} {d dy : D} {y : Value} {r : Bool} (hy : Den W.st O h y dy) (e : D.eq dy d = some r) : byDen W O h d y = r := by
  unfold byDen
  cases r with
  | true => exact decide_eq_true ⟨dy, hy, e⟩
  | false =>
    refine decide_eq_false ?_
    rintro ⟨dz, hz, ez⟩
    rw [Den.uniq ok.inj hz hy, e] at ez
    cases ez
theorem anyEq_at (ok : WOk W) {h : Heap} {d : D} : ∀ {vs : List Value} {ds : List D} {r : Bool}, Dens W.st O h vs ds → D.anyEq d ds = some r → vs.any (byDen W O h d) = r ∧ ∀ y ∈ vs, ∃ dy, Den W.st O h y dy ∧ D.eq dy d = some (byDen W O h d y)
  | _, _, _, .nil, e => by cases e; exact ⟨rfl, fun _ h => (nomatch h)⟩
  | _, _, _, .cons (d := x) (ds := xs) hx hr, e => by
    simp only [D.anyEq] at e
    cases q : D.eq x d with
    | none => rw [q] at e; cases e
    | some a =>
      cases p : D.anyEq d xs with
      | none => rw [q, p] at e; cases e
      | some b =>
        rw [q, p] at e
        cases e
        obtain ⟨i1, i2⟩ := anyEq_at ok hr p
        have e1 := byDen_eq ok hx q
        refine ⟨by rw [List.any_cons, e1, i1], fun y hy => ?_⟩
        rcases List.mem_cons.mp hy with rfl | hy
        · exact ⟨x, hx, by rw [e1]; exact q⟩
        · exact i2 y hy

theorem intOp_of {α : Type} {f : Int → Int → Option α} {a b : D} {d : α} (h : intOp f a b = some d) : ∃ i j, a = .int i ∧ b = .int j ∧ f i j = some d := by
  cases a with
  | int i => cases b with
    | int j => exact ⟨i, j, rfl, rfl, h⟩
    | _ => cases h
  | _ => cases h
theorem isIt_of (ok : WOk W) {a b : D} {va vb : Value} {r : Bool} (ha : Den W.st O s.heap va a) (hb : Den W.st O s.heap vb b) (e : D.isIt a b = some r) : isSame va vb = pure r := by
  cases b with
  | none =>
    cases hb.none_inv
    cases e
    cases ha <;> rfl
  | bool y =>
    cases a with
    | bool x => cases ha.bool_inv; cases hb.bool_inv; cases e; cases x <;> cases y <;> rfl
    | _ => cases e
  | _ => cases e
theorem isIn_of (ok : WOk W) {a b : D} {va vb : Value} {r : Bool} (ha : Den W.st O s.heap va a) (hb : Den W.st O s.heap vb b) (hu : A.units + 64 < cLine) (e : D.isIn a b = some r) : ∃ t vs, vb = .ref t ∧ (s.heap.IsTuple t vs ∨ s.heap.IsList t vs) ∧ vs.toList.any (byDen W O s.heap a) = r ∧ ∀ y ∈ vs.toList, EqAt A.in1 s y va (byDen W O s.heap a y) := by
  have go : ∀ {vs : List Value} {ds : List D}, Dens W.st O s.heap vs ds → D.anyEq a ds = some r → vs.any (byDen W O s.heap a) = r ∧ ∀ y ∈ vs, EqAt A.in1 s y va (byDen W O s.heap a y) := fun hd e => by
    obtain ⟨i1, i2⟩ := anyEq_at ok hd e
    refine ⟨i1, fun y hy => ?_⟩
    obtain ⟨dy, h1, h2⟩ := i2 y hy
    exact eqAt_den ok.inj h1 ha h2 (by rw [Around.in1_units]; (first | lia | omega))
  cases b with
  | tuple l => obtain ⟨t, vs, rfl, _, h1, hd, _⟩ := hb.tuple_inv; exact ⟨t, _, rfl, .inl h1, go hd e⟩
  | list l => obtain ⟨t, vs, rfl, _, h1, hd, _⟩ := hb.list_inv; exact ⟨t, _, rfl, .inr h1, go hd e⟩
  | _ => cases e
theorem cmp_ok (ok : WOk W) {op : CmpOp} {va vb : Value} {a b : D} {r : Bool} (ha : Den W.st O s.heap va a) (hb : Den W.st O s.heap vb b) (hu : A.units + 64 < cLine) (e : cmp op a b = some r)
    (hq : Q (.bool r) s) : wpAny (model W.prog W.w) A (compareOp op va vb) Q Ex s := by
  have hu9 : A.units + 9 < cLine := Nat.lt_of_le_of_lt (Nat.add_le_add_left (by decide) _) hu
  cases op with
  | Eq => exact rcAt_den ok.inj ha hb e hu9 _ _ _ _ hq
  | NotEq =>
    obtain ⟨q, e1, rfl⟩ := Option.map_eq_some_iff.mp e
    exact rcNeAt_den ok.inj ha hb e1 hu9 _ _ _ _ hq
  | Lt => obtain ⟨i, j, rfl, rfl, e⟩ := intOp_of e; obtain ⟨_, rfl⟩ := ha.int_inv; obtain ⟨_, rfl⟩ := hb.int_inv; cases e; exact PyProof.Rows.lt_int hq
  | LtE => obtain ⟨i, j, rfl, rfl, e⟩ := intOp_of e; obtain ⟨_, rfl⟩ := ha.int_inv; obtain ⟨_, rfl⟩ := hb.int_inv; cases e; exact PyProof.Rows.le_int hq
  | Gt => obtain ⟨i, j, rfl, rfl, e⟩ := intOp_of e; obtain ⟨_, rfl⟩ := ha.int_inv; obtain ⟨_, rfl⟩ := hb.int_inv; cases e; exact PyProof.Rows.gt_int hq
  | GtE => obtain ⟨i, j, rfl, rfl, e⟩ := intOp_of e; obtain ⟨_, rfl⟩ := ha.int_inv; obtain ⟨_, rfl⟩ := hb.int_inv; cases e; exact PyProof.Rows.ge_int hq
  | Is =>
    show wpAny _ _ (do return .bool (← isSame va vb)) Q Ex s
    rw [isIt_of ok ha hb e]
    exact wpAny_bind (wpAny_pure (wpAny_pure hq))
  | IsNot =>
    obtain ⟨q, e1, rfl⟩ := Option.map_eq_some_iff.mp e
    show wpAny _ _ (do return .bool (!(← isSame va vb))) Q Ex s
    rw [isIt_of ok ha hb e1]
    exact wpAny_bind (wpAny_pure (wpAny_pure hq))
  | In =>
    obtain ⟨t, vs, rfl, ht, rfl, hi⟩ := isIn_of ok ha hb hu e
    rcases ht with ht | ht
    · exact in_tupleAt (byDen W O s.heap a) ht (fun y hy => hi y (by simpa using hy)) (by simpa using hq)
    · exact in_listAt (byDen W O s.heap a) ht (fun y hy => hi y (by simpa using hy)) (by simpa using hq)
  | NotIn =>
    obtain ⟨q, e1, rfl⟩ := Option.map_eq_some_iff.mp e
    obtain ⟨t, vs, rfl, ht, rfl, hi⟩ := isIn_of ok ha hb hu e1
    rcases ht with ht | ht
    · exact notIn_tupleAt (byDen W O s.heap a) ht (fun y hy => hi y (by simpa using hy)) (by simpa using hq)
    · exact notIn_listAt (byDen W O s.heap a) ht (fun y hy => hi y (by simpa using hy)) (by simpa using hq)
end
end Mine
set_option Elab.async false
set_option maxRecDepth 100000
namespace Mine
set_option tactic.hygienic false
open PySem PyProof.Rows

theorem place_clip (n : Nat) (i : Int) : clipAt n i = place n i := by
  cases i with
  | ofNat k => exact clipAt_nat n k
  | negSucc k =>
    have : (Int.negSucc k : Int) = -((k + 1 : Nat) : Int) := rfl
    rw [this, clipAt_neg n (k + 1) (by (first | lia | omega))]
    rfl
theorem cut_run {α : Type} (l : List α) (lo hi : Option Int) : cutL l lo hi = (l.drop (lo.elim 0 (clipAt l.length))).take (hi.elim l.length (clipAt l.length) - lo.elim 0 (clipAt l.length)) := by
  unfold cutL
  rw [List.drop_take]
  cases lo <;> cases hi <;> simp [place_clip]
theorem cutL_map {α β : Type} (f : α → β) (l : List α) (lo hi : Option Int) : cutL (l.map f) lo hi = (cutL l lo hi).map f := by
  unfold cutL
  rw [List.map_drop, List.map_take, List.length_map]
theorem cutL_length {α : Type} (l : List α) (lo hi : Option Int) : (cutL l lo hi).length ≤ l.length := by
  unfold cutL
  rw [List.length_drop, List.length_take]; (first | lia | omega)
theorem Dens.cut {st : Nat → Str} {O : Addr → Prop} {h : Heap} {vs : List Value} {ds : List D} (x : Dens st O h vs ds) (lo hi : Option Int) : Dens st O h (cutL vs lo hi) (cutL ds lo hi) := by
  unfold cutL
  rw [x.length]
  exact (x.take _).drop _
theorem fits_cut {α : Type} {l : List α} (h : fits l.length = true) (lo hi : Option Int) : fits (cutL l lo hi).length = true :=
  fits_of (Nat.le_trans (cutL_length l lo hi) (fits_le h))
end Mine
set_option Elab.async false
set_option maxRecDepth 100000
namespace Mine
open PySem PyProof.Rows
theorem map_nat_size {b : Array UInt8} {m : List Nat} (hb : b.toList.map UInt8.toNat = m) : b.size = m.length := by rw [← hb]; simp
section
variable {W : Wd} {A : Around} {l : List Env} {O : Addr → Prop} {s : Shared} {Ex : Value → Shared → Prop} {Q : Value → Shared → Prop}

noncomputable def AddV (a b d : D) : Prop := (∃ i j, a = .int i ∧ b = .int j) ∨ (∃ x y, a = .bytes x ∧ b = .bytes y ∧ fits (x.length + y.length) = true ∧ d = .bytes (x ++ y)) ∨
    ∃ x y, a = .list x ∧ b = .list y ∧ fits (x.length + y.length) = true ∧ d = .list (x ++ y)
theorem addD_of {a b d : D} (h : addD a b = some d) : AddV a b d := by
  cases a with
  | int i => cases b with
    | int j => exact .inl ⟨i, j, rfl, rfl⟩
    | _ => exact no_some h
  | bytes i => cases b with
    | bytes j => obtain ⟨g, rfl⟩ := gd_some h; exact .inr (.inl ⟨i, j, rfl, rfl, g, rfl⟩)
    | _ => exact no_some h
  | list i => cases b with
    | list j => obtain ⟨g, rfl⟩ := gd_some h; exact .inr (.inr ⟨i, j, rfl, rfl, g, rfl⟩)
    | _ => exact no_some h
  | _ => exact no_some h
noncomputable def MulV (a b d : D) : Prop := (∃ i j, a = .int i ∧ b = .int j) ∨ ∃ x n, a = .bytes [x] ∧ b = .int (n : Nat) ∧ fits n = true ∧ d = .bytes (List.replicate n x)
theorem mulD_of {a b d : D} (h : mulD a b = some d) : MulV a b d := by
  cases a with
  | int i => cases b with
    | int j => exact .inl ⟨i, j, rfl, rfl⟩
    | _ => exact no_some h
  | bytes l => cases b with
    | int j => cases j with
      | ofNat n =>
        obtain ⟨g, rfl⟩ := gd_some h
        exact .inr ⟨_, n, congrArg D.bytes (one_of 0 (an g).1), rfl, (an g).2, rfl⟩
      | negSucc n => exact no_some h
    | _ => exact no_some h
  | _ => exact no_some h
theorem bin_ints {op : Operator} {va vb : Value} {a b d : D} (ha : Den W.st O s.heap va a) (hb : Den W.st O s.heap vb b) (e : binop op a b = some d) (hq : VK W O (fsOf l) s d Q) (h : ∃ i j, a = .int i ∧ b = .int j) :
    wpAny (model W.prog W.w) A (binaryOp op va vb) Q Ex s := by
  obtain ⟨i, j, rfl, rfl⟩ := h
  obtain ⟨_, rfl⟩ := ha.int_inv
  obtain ⟨_, rfl⟩ := hb.int_inv
  exact bin_int_ok e hq
theorem ints_of {α : Type} {f : Int → Int → Option α} {a b : D} {d : α} (h : intOp f a b = some d) : ∃ i j, a = .int i ∧ b = .int j := let ⟨i, j, h1, h2, _⟩ := intOp_of h; ⟨i, j, h1, h2⟩
theorem binop_ok (S : Stn W A l O s.heap) {op : Operator} {va vb : Value} {a b d : D} (ha : Den W.st O s.heap va a) (hb : Den W.st O s.heap vb b) (e : binop op a b = some d) (hq : VK W O (fsOf l) s d Q) :
    wpAny (model W.prog W.w) A (binaryOp op va vb) Q Ex s := by
  cases op with
  | Add =>
    rcases addD_of e with h | ⟨x, y, rfl, rfl, g, rfl⟩ | ⟨x, y, rfl, rfl, g, rfl⟩
    · exact bin_ints ha hb e hq h
    · obtain ⟨p, t, rfl, hp, _⟩ := ha.bytes_inv
      obtain ⟨q, u, rfl, hq', _⟩ := hb.bytes_inv
      have gl := fits_le g
      exact PySem.W.KBy.add_bytes (by rw [map_nat_size hp, map_nat_size hq']; (first | lia | omega)) fun t' k => hq _ _ _ Ev.refl (.bytes _ _ _ (by rw [Array.toList_append, List.map_append, hp, hq']) (by rw [List.length_append]; exact g))
    · exact add_list_ok S ha hb g hq
  | Mult =>
    rcases mulD_of e with h | ⟨x, n, rfl, rfl, g, rfl⟩
    · exact bin_ints ha hb e hq h
    · obtain ⟨p, t, rfl, hp, _⟩ := ha.bytes_inv
      obtain ⟨_, rfl⟩ := hb.int_inv
      have gl := fits_le g
      obtain ⟨c, hpc, rfl⟩ : ∃ c : UInt8, p = [c].toArray ∧ c.toNat = x := by
        obtain ⟨pl⟩ := p
        match pl, hp with
        | [c], hp => exact ⟨c, rfl, List.singleton_inj.mp hp⟩
      subst hpc
      refine PySem.W.bytes_mul_any (by simp) (by (first | lia | omega)) (by (first | lia | omega)) (by simp) fun t' k => hq _ _ _ Ev.refl (.bytes _ _ _ ?_ (by rw [List.length_replicate]; exact g))
      simp [List.flatten_replicate_singleton]
  | MatMult => cases e
  | Div => cases e
  | Pow => cases e
  | BitXor => cases e
  | BitOr => cases e
  | _ => exact bin_ints ha hb e hq (ints_of e)

theorem part_of {v : Value} {b : D} {p : Option Int} (hv : Den W.st O s.heap v b) (e : b.bound = some p) : IsPart v p := by
  cases hv <;> first | (cases e; exact .none) | (cases e; exact .int _ _) | cases e

theorem cut_ok (S : Stn W A l O s.heap) {value : Expr} {lo hi : Option Expr} {p : Pos} {v vl vu : Value} {a b c d : D} {sl : Addr} (hv : Den W.st O s.heap v a) (hl : Den W.st O s.heap vl b) (hu : Den W.st O s.heap vu c) (hsl : s.heap.IsSliceOf sl vl vu .none)
    (e : a.cut b c = some d) (hq : VK W O (fsOf l) s d Q) : wpAny (model W.prog W.w) A (subscriptTail value (.Slice lo hi none p) v (.ref sl)) Q Ex s := by
  unfold D.cut at e
  split at e
  · rename_i x y e1 e2
    have pl := part_of hl e1
    have pu := part_of hu e2
    cases hv with
    | bytes r t m hb hz =>
      cases e
      have hz' := fits_le hz
      have hs := map_nat_size hb
      refine tail_any (PySem.W.typeIs_bytes _ _ _) PySem.W.FB.slot_bytes_getitem.lookup (getItem_meets (PySem.W.typeIs_bytes _ _ _) (by decide) PySem.W.FB.slot_bytes_getitem PySem.W.FB.entry_bytes_getitem (PySem.W.FB.args_bytes_getitem_2 _ _) (PySem.W.KBc.meets_slice2 r t _ pl pu)
        ⟨hsl, Nat.le_trans (PySem.W.KBc.size_picked_le r x y) (by rw [hs, sizeLine_eq]; (first | lia | omega)), fun t' k => ?_⟩) rfl
      refine hq _ _ _ Ev.refl (.bytes _ _ _ ?_ (fits_cut hz x y))
      rw [PySem.W.KBc.picked_eq, ← hb, cutL_map, cut_run]
      simp
    | @list t vs ds ha ht hd hz =>
      cases e
      have hz' := fits_le hz
      have hn := hd.length
      refine tail_any ht.typeIs slot_list_getitem.lookup (wpAny_getItem_list_slice ht hsl pl pu .none (by simp) ?_ (by simp only [List.size_toArray, sizeLine_eq]; (first | lia | omega))) rfl
      have : slicePick vs.toArray x y none = (cutL vs x y).toArray := by
        rw [slicePick_plain, cut_run]; simp
      rw [this]
      exact hq _ _ s.toks (push_ev _) (.list S.size ⟨_, Heap.get?_push_size _ rfl, rfl, _, rfl⟩ ((hd.cut x y).ev (push_ev _) S.sub) (fits_cut hz x y))
    | _ => cases e
  · cases e

theorem byteOf_of {d : D} {n : Nat} (h : byteOf d = some n) : d = .int (n : Nat) ∧ n < 256 := by
  cases d with
  | int i => cases i with
    | ofNat m =>
      replace h : (if m < 256 then some m else none) = some n := h
      by_cases hm : m < 256
      · rw [if_pos hm] at h; cases h; exact ⟨rfl, hm⟩
      · rw [if_neg hm] at h; cases h
    | negSucc m => exact no_some h
  | _ => exact no_some h
theorem bytesOf_ints {vs : List Value} {ds : List D} {h : Heap} (hd : Dens W.st O h vs ds) : ∀ {m : List Nat}, bytesOfL ds = some m → IntsAre vs (m.map Int.ofNat) ∧ (∀ x ∈ m, x < 256) ∧ m.length = ds.length := by
  induction vs generalizing ds with
  | nil => cases hd; intro m e; cases e; exact ⟨.nil, fun _ h => (nomatch h), rfl⟩
  | cons v vs ih =>
    cases hd with
    | @cons _ _ d ds x r =>
      intro m e
      replace e : (match byteOf d, bytesOfL ds with | some n, some l => some (n :: l) | _, _ => none) = some m := e
      cases h1 : byteOf d with
      | none => rw [h1] at e; cases e
      | some n =>
        cases h2 : bytesOfL ds with
        | none => rw [h1, h2] at e; cases e
        | some k =>
          rw [h1, h2] at e
          cases e
          obtain ⟨i1, i2, i3⟩ := ih r h2
          obtain ⟨rfl, hn⟩ := byteOf_of h1
          obtain ⟨t, rfl⟩ := x.int_inv
          exact ⟨.cons _ _ i1, fun y hy => (List.mem_cons.mp hy).elim (fun e => e ▸ hn) (i2 y), congrArg Nat.succ i3⟩

theorem bytesOf_ok (S : Stn W A l O s.heap) {v : Value} {a d : D} (hv : Den W.st O s.heap v a) (e : a.bytesOf = some d) (hq : VK W O (fsOf l) s d Q) : wpAny (model W.prog W.w) A (call (.type "bytes") [v]) Q Ex s := by
  cases hv with
  | @list t vs ds ha ht hd hz =>
    have hz' := fits_le hz
    simp only [D.bytesOf, Option.map_eq_some_iff] at e
    obtain ⟨m, e1, rfl⟩ := e
    obtain ⟨i1, i2, i3⟩ := bytesOf_ints hd e1
    refine PySem.call_bytes_ints ht i1 (fun n hn => ?_) (by rw [sizeLine_eq, hd.length]; (first | lia | omega)) S.handled fun h' t' k hk => hq _ _ _ (Ev.of hk) (.bytes _ _ _ ?_ (by rw [i3]; exact hz))
    · obtain ⟨y, hy, rfl⟩ := List.mem_map.mp hn
      have := i2 y hy
      simp only [Int.ofNat_eq_natCast]; (first | lia | omega)
    · simp only [byteArr, List.map_map]
      have : ∀ x ∈ m, (UInt8.toNat ∘ (fun n : Int => n.toNat.toUInt8) ∘ Int.ofNat) x = x := fun x hx => by
        have := i2 x hx
        simp [Nat.toUInt8, UInt8.toNat_ofNat']
        (first | lia | omega)
      rw [List.map_congr_left this, List.map_id']
  | _ => cases e

theorem type_ok {v : Value} {a : D} (hv : Den W.st O s.heap v a) (hq : ∀ T, (∀ t : Ty, (Value.type T == Value.type (match t with | .bool => "bool" | .bytes => "bytes")) = a.isTy t) → Q (.type T) s) :
    wpAny (model W.prog W.w) A (call (.type "type") [v]) Q Ex s := by
  cases hv with
  | none => exact call_type_of (Tx := "NoneType") rfl (by decide) (hq _ fun t => by cases t <;> (simp only [D.isTy]; decide))
  | bool b => exact call_type_of (Tx := "bool") rfl (by decide) (hq _ fun t => by cases t <;> (simp only [D.isTy]; decide))
  | int i t => exact call_type_of (typeIs_int s i t) (by decide) (hq _ fun t => by cases t <;> (simp only [D.isTy]; decide))
  | str k x t _ _ => exact call_type_of (typeIs_str s x t) (by decide) (hq _ fun t => by cases t <;> (simp only [D.isTy]; decide))
  | bytes b t m _ _ => exact call_type_of (PySem.W.typeIs_bytes s b t) (by decide) (hq _ fun t => by cases t <;> (simp only [D.isTy]; decide))
  | tuple _ ht _ _ => exact call_type_of (IsTup.typeIs ht) (by decide) (hq _ fun t => by cases t <;> (simp only [D.isTy]; decide))
  | list _ ht _ _ => exact call_type_of ht.typeIs (by decide) (hq _ fun t => by cases t <;> (simp only [D.isTy]; decide))
end
end Mine
set_option Elab.async false
set_option maxRecDepth 100000
namespace Mine
set_option tactic.hygienic false
open PySem PyProof.Rows
section
variable {W : Wd} {A : Around} {l : List Env} {O : Addr → Prop} {s : Shared} {Ex : Value → Shared → Prop} {Q : Value → Shared → Prop}
theorem maxL_at {h : Heap} : ∀ {vs : List Value} {ds : List D} {m M : Int}, Dens W.st O h vs ds → maxL m ds = some M →
    (∀ v ∈ vs, ∃ a t, v = .int a t) ∧ (∀ a ∈ numsOf vs, a ≤ M) ∧ m ≤ M ∧ (M = m ∨ M ∈ numsOf vs)
  | _, _, _, _, .nil, e => by cases e; exact ⟨fun _ h => (nomatch h), fun _ h => (nomatch h), Int.le_refl _, .inl rfl⟩
  | _, _, m, M, .cons (d := d) (ds := ds) (v := v) (vs := vs) x r, e => by
    cases d with
    | int i =>
      cases x with
      | int _ t =>
        simp only [maxL] at e
        obtain ⟨h1, h2, h3, h4⟩ := maxL_at r e
        refine ⟨fun v hv => (List.mem_cons.mp hv).elim (fun q => ⟨i, t, q⟩) (h1 v), fun a ha => ?_, ?_, ?_⟩
        · rcases List.mem_cons.mp ha with rfl | ha
          · split at h3 <;> (first | lia | omega)
          · exact h2 a ha
        · split at h3 <;> (first | lia | omega)
        · show M = m ∨ M ∈ i :: numsOf vs
          rcases h4 with h4 | h4
          · split at h4
            · exact .inr (h4 ▸ List.mem_cons_self)
            · exact .inl h4
          · exact .inr (List.mem_cons_of_mem _ h4)
    | _ => cases e
theorem max_ok (S : Stn W A l O s.heap) {v : Value} {a d : D} (hv : Den W.st O s.heap v a) (e : a.max = some d) (hq : VK W O (fsOf l) s d Q) : wpAny (model W.prog W.w) A (call (.builtin "max") [v]) Q Ex s := by
  cases hv with
  | @list t vs ds ha ht hd hz =>
    cases ds with
    | nil => cases e
    | cons d0 ds =>
      cases d0 with
      | int i =>
        simp only [D.max, Option.map_eq_some_iff] at e
        obtain ⟨M, e1, rfl⟩ := e
        have e2 : maxL i (.int i :: ds) = some M := by simp only [maxL]; rw [if_neg (Int.lt_irrefl i)]; exact e1
        obtain ⟨h1, h2, h3, h4⟩ := maxL_at hd e2
        have hM : M ∈ numsOf vs := by
          rcases h4 with h4 | h4
          · cases hd with
            | cons x r => cases x; rw [h4]; exact List.mem_cons_self
          · exact h4
        obtain ⟨xs, hxs⟩ := AllInts.items (vs := vs.toArray) fun v hv => h1 v (by simpa using hv)
        have hnum : numsOf vs = xs.toList.map (·.1) := by
          rw [← nums_intItems, ← hxs]
        have hsz : 0 < xs.size := by
          have := congrArg Array.size hxs
          simp only [List.size_toArray, intItems, Array.size_map] at this
          have := hd.length
          simp only [List.length_cons] at this
          (first | lia | omega)
        rw [hxs] at ht
        refine max_intList S.handled ht hsz fun v h' tk hv hk => ?_
        obtain ⟨t', rfl⟩ := intItems_at hv
        obtain ⟨g1, g2⟩ := argBest_gt (numAt xs) (xs.size - 1)
        have hin : numAt xs (argBest (fun i j => decide (numAt xs i > numAt xs j)) (xs.size - 1)) ∈ numsOf vs := by
          rw [hnum, numAt_eq]; exact getD_mem (by rw [List.length_map, Array.length_toList]; (first | lia | omega))
        have hle := h2 _ hin
        have hge : M ≤ numAt xs (argBest (fun i j => decide (numAt xs i > numAt xs j)) (xs.size - 1)) := by
          rw [hnum] at hM
          obtain ⟨j, hj, hjM⟩ := mem_getD hM
          rw [List.length_map, Array.length_toList] at hj
          rw [← hjM, ← numAt_eq]; exact g2 j (by (first | lia | omega))
        have : numAt xs (argBest (fun i j => decide (numAt xs i > numAt xs j)) (xs.size - 1)) = M := by (first | lia | omega)
        rw [this]
        exact hq _ _ _ (Ev.of hk) (.int _ _)
      | _ => cases e
  | _ => cases e
end
section
open PySem.Builtin
variable {M : Model} {A : Around} {E : Value → Shared → Prop} {s : Shared}
theorem take_bytes {id : String} {b : Array UInt8} {t : Tok} : Bytes.takeBuffer? id (.bytes b t) 0 = pure (some (b, none)) := by
  unfold Bytes.takeBuffer?
  rw [PySem.W.KBy.special_eq PySem.W.KBy.look_buffer, PySem.W.KBy.own_buffer]
  have e : Bytes.buffer? id (.bytes b t) ((0 : Int) == Bytes.fullReadOnly) = pure (some b) := PySem.W.KBy.buffer_eq
  simp only [pure_bind, e]
  rfl
theorem takeQ_bytes {id : String} {b : Array UInt8} {t : Tok} : Bytes.takeBufferQuiet? id (.bytes b t) 0 = pure (some (b, none)) := by
  unfold Bytes.takeBufferQuiet?
  rw [take_bytes]
  rfl
theorem wpAny_forIn_same {β : Type} {n : Nat} {init : β} {f : Nat → β → Sem (ForInStep β)} {Q : β → Shared → Prop} (I : Nat → β → Prop) (h0 : I 0 init)
    (hs : ∀ i b, i < n → I i b → wpAny M A (f i b) (fun r s' => s' = s ∧ ∃ b', r = .yield b' ∧ I (i + 1) b') E s) (hd : ∀ b, I n b → Q b s) : wpAny M A (forIn [:n] init f) Q E s := by
  rw [Std.Legacy.Range.forIn_eq_forIn_range']
  have key : ∀ (k i : Nat) (b : β), i + k = n → I i b → wpAny M A (forIn (List.range' i k 1) b f) Q E s := by
    intro k
    induction k with
    | zero => intro i b e hI; have : i = n := by (first | lia | omega)
              subst this; exact wpAny_pure (hd b hI)
    | succ k ih =>
      intro i b e hI
      rw [List.range'_succ, List.forIn_cons]
      refine wpAny_bind (wpAny_mono (hs i b (by (first | lia | omega)) hI) (fun r s' hr => ?_) fun _ _ x => x)
      obtain ⟨rfl, b', rfl, hb⟩ := hr
      exact ih (i + 1) b' (by (first | lia | omega)) hb
  have e : (Std.Legacy.Range.mk 0 n 1 (by (first | lia | omega))).size = n := by simp [Std.Legacy.Range.size]
  have := key n 0 init (by (first | lia | omega)) h0
  simpa [e] using this
theorem letGo_wp {removed keep : List Value} {Q : Unit → Shared → Prop} (h : Q () s) : wpAny M A (letGo removed keep) Q E s := by
  induction removed with
  | nil => exact wpAny_pure h
  | cons v r ih => exact wpAny_bind (wpAny_holding (wpAny_point ih))
theorem joinLetGo_wp {keep : List Value} {Q : Unit → Shared → Prop} (h : Q () s) : ∀ vs : List Value, wpAny M A (Bytes.joinLetGo (vs.map fun v => (v, none)) keep) Q E s
  | [] => wpAny_pure h
  | v :: r => by
    show wpAny M A (do letGo [v] _; Bytes.joinLetGo (r.map fun v => (v, none)) keep) Q E s
    exact wpAny_bind (letGo_wp (joinLetGo_wp h r))

/-- the items are bytes -/
inductive BytesAre : List Value → List (Array UInt8) → Prop
  | nil : BytesAre [] []
  | cons (b : Array UInt8) (t : Tok) {vs : List Value} {bs : List (Array UInt8)} : BytesAre vs bs → BytesAre (.bytes b t :: vs) (b :: bs)
theorem BytesAre.length {vs : List Value} {bs : List (Array UInt8)} (h : BytesAre vs bs) : vs.length = bs.length := by induction h <;> simp_all
theorem BytesAre.get {vs : List Value} {bs : List (Array UInt8)} (h : BytesAre vs bs) {i : Nat} (hi : i < vs.length) : ∃ b t, vs[i]? = some (.bytes b t) ∧ bs[i]? = some b := by
  induction h generalizing i with
  | nil => exact absurd hi (Nat.not_lt_zero _)
  | cons b t _ ih =>
    cases i with
    | zero => exact ⟨b, t, rfl, rfl⟩
    | succ i => exact ih (Nat.lt_of_succ_lt_succ hi)
theorem BytesAre.noHeap {vs : List Value} {bs : List (Array UInt8)} (h : BytesAre vs bs) (k : Nat) : ((vs.take k).map fun v => (v, (none : Option Value))).any (fun x => x.1.onHeap) = false := by
  induction h generalizing k with
  | nil => simp
  | cons b t _ ih =>
    cases k with
    | zero => rfl
    | succ k => simpa [Value.onHeap] using ih k

theorem wif_t {α : Type} {c : Prop} [Decidable c] {x y : Sem α} {Q : α → Shared → Prop} (h : c) (k : wpAny M A x Q E s) : wpAny M A (if c then x else y) Q E s := by rw [if_pos h]; exact k
theorem wif_f {α : Type} {c : Prop} [Decidable c] {x y : Sem α} {Q : α → Shared → Prop} (h : ¬ c) (k : wpAny M A y Q E s) : wpAny M A (if c then x else y) Q E s := by rw [if_neg h]; exact k
theorem join_meets (sep : Array UInt8) (t : Tok) (l : Addr) (vs : List Value) (bs : List (Array UInt8)) (n : Nat) (dd : Option Addr) (sl : Array (Option Value)) (hb : BytesAre vs bs)
    (hz : Bytes.tooLong (bs.toArray.foldl (fun x1 x2 => x1 + x2.size) (sep.size * (bs.toArray.size - 1))) = false) (hz2 : (Bytes.joined sep bs).size ≤ sizeLine) :
    Meets («bytes.join» ⟨[.bytes sep t, .ref l], []⟩) (fun _ R s => s.heap.get? l = some { cls := .type "list", dict := dd, data := .seq vs.toArray n, slots := sl } ∧ ∀ t' k, R (.ok (.ret (.bytes (Bytes.joined sep bs) t'))) { s with toks := k }) := by
  refine .of_wp fun prog w A R s h => ?_
  obtain ⟨hl, h⟩ := h
  unfold «bytes.join» Bytes.joinM
  refine wpAny_bind (wpAny_of_eq (a := (Value.bytes sep t, Value.ref l)) rfl ?_)
  dsimp only
  refine wif_t (by decide) ?_
  unfold Bytes.joinItems
  refine wpAny_bind (wpAny_bind (wpAny_typeOf (show s.TypeIs (.ref l) "list" from ⟨_, hl, rfl⟩) ?_))
  refine wif_t (by decide) ?_
  refine wpAny_pure ?_
  refine wpAny_bind (wpAny_seqItems hl rfl ?_)
  dsimp only
  refine wif_t (by decide) ?_
  have one : ∀ {v : Value}, vs = [v] → ∃ b t', v = .bytes b t' ∧ Bytes.joined sep bs = b := by
    intro v hv
    subst hv
    cases hb with
    | cons b t' r => cases r; exact ⟨b, t', rfl, by simp [Bytes.joined]⟩
  rcases vs with _ | ⟨v, _ | ⟨w', r⟩⟩
  · cases hb
    refine wpAny_bind (wpAny_forIn_same (fun i st => st = (#[], [])) rfl (fun i st hi _ => absurd hi (Nat.not_lt_zero _)) fun st hI => ?_)
    subst hI
    refine wpAny_bind (wpAny_of_eq (a := sep) rfl ?_)
    dsimp only
    refine wif_f (by rw [hz]; decide) ?_
    refine wpAny_bind (wpAny_mkBytes ?_ hz2)
    exact wpAny_bind (wpAny_holding (wpAny_point (wpAny_bind (joinLetGo_wp (wpAny_pure ⟨_, rfl, h _ _⟩) ([] : List Value)))))
  · obtain ⟨b, t', rfl, hj⟩ := one rfl
    refine wpAny_bind (wpAny_typeOf (PySem.W.typeIs_bytes s b t') ?_)
    refine wif_t (by decide) ?_
    refine wpAny_bind (wpAny_rule (wpAny_pure ⟨_, rfl, ?_⟩))
    rw [← hj]
    exact h t' s.toks
  · refine wpAny_bind ?_
    generalize hvs : v :: w' :: r = vs at *
    refine (wpAny_forIn_same (fun i st => st = ((bs.take i).toArray, (vs.take i).map fun v => (v, (none : Option Value)))) rfl (fun i st hi hI => ?_) fun st hI => ?_)
    · subst hI
      have hi' : i < vs.length := by simpa using hi
      obtain ⟨b, t', hv, hbi⟩ := hb.get hi'
      refine wpAny_bind (wpAny_seqItems hl rfl ?_)
      dsimp only
      have hg : vs.toArray.getD i Value.none = .bytes b t' := by
        rw [Array.getD_eq_getD_getElem?, List.getElem?_toArray, hv]; rfl
      refine wif_f (by rw [hb.noHeap i]; decide) ?_
      rw [hg]
      refine wpAny_bind (wpAny_holding (wpAny_of_eq takeQ_bytes ?_))
      dsimp only
      refine wpAny_bind (wpAny_seqItems hl rfl ?_)
      dsimp only
      refine wif_f (by simp) ?_
      refine wpAny_pure ⟨rfl, _, rfl, ?_⟩
      have e1 : bs.take (i + 1) = bs.take i ++ [b] := by rw [List.take_add_one, hbi]; rfl
      have e2 : vs.take (i + 1) = vs.take i ++ [.bytes b t'] := by rw [List.take_add_one, hv]; rfl
      rw [e1, e2]
      simp
    · subst hI
      have el : vs.toArray.size = bs.length := by simpa using hb.length
      have e1 : bs.take vs.toArray.size = bs := by rw [el, List.take_length]
      have e2 : vs.take vs.toArray.size = vs := by rw [List.size_toArray, List.take_length]
      rw [e1, e2]
      refine wpAny_bind (wpAny_of_eq (a := sep) rfl ?_)
      dsimp only
      refine wif_f (by rw [hz]; decide) ?_
      refine wpAny_bind (wpAny_mkBytes ?_ hz2)
      exact wpAny_bind (wpAny_holding (wpAny_point (wpAny_bind (joinLetGo_wp (wpAny_pure ⟨_, rfl, h _ _⟩) vs))))
end
end Mine
set_option Elab.async false
set_option maxRecDepth 100000
namespace Mine
open PySem PyProof.Rows
open PySem.Builtin in
theorem joined_cons (sep b : Array UInt8) (r : List (Array UInt8)) : (Bytes.joined sep (b :: r)).toList = b.toList ++ (r.map fun x => sep.toList ++ x.toList).flatten := by
  unfold Bytes.joined
  have key : ∀ (r : List (Array UInt8)) (k : Nat) (out : Array UInt8), 0 < k → (List.foldl (fun out (x : Array UInt8 × Nat) => (if x.2 > 0 then out ++ sep else out) ++ x.1) out (r.zipIdx k)).toList = out.toList ++ (r.map fun x => sep.toList ++ x.toList).flatten := by
    intro r
    induction r with
    | nil => intro k out _; simp
    | cons c r ih =>
      intro k out hk
      rw [List.zipIdx_cons, List.foldl_cons, ih (k + 1) _ (by (first | lia | omega))]
      simp [hk]
  rw [List.zipIdx_cons, List.foldl_cons, key r 1 _ (by (first | lia | omega))]
  simp
section
variable {W : Wd} {A : Around} {l : List Env} {O : Addr → Prop} {s : Shared} {Ex : Value → Shared → Prop} {Q : Value → Shared → Prop}
open PySem.Builtin in
theorem joinL_bytes {h : Heap} {sep : Array UInt8} {sn : List Nat} (hs : sep.toList.map UInt8.toNat = sn) : ∀ {vs : List Value} {ds : List D} {m : List Nat}, Dens W.st O h vs ds → joinL sn ds = some m →
    ∃ bs, BytesAre vs bs ∧ (Bytes.joined sep bs).toList.map UInt8.toNat = m
  | _, _, m, .nil, e => by cases e; exact ⟨[], .nil, rfl⟩
  | _, _, m, .cons (d := d) (ds := ds) (vs := vs) x r, e => by
    cases d with
    | bytes a =>
      cases x with
      | bytes b t _ hb _ =>
        cases r with
        | nil =>
          cases e
          exact ⟨[b], .cons b t .nil, by rw [joined_cons]; simpa using hb⟩
        | @cons v' vs' d' ds' x' r' =>
          simp only [joinL, Option.map_eq_some_iff] at e
          obtain ⟨m', e1, rfl⟩ := e
          obtain ⟨bs, h1, h2⟩ := joinL_bytes hs (.cons x' r') e1
          cases h1 with
          | cons c t' h3 =>
            refine ⟨_, .cons b t (.cons c t' h3), ?_⟩
            rw [joined_cons] at h2 ⊢
            rw [← h2, ← hb, ← hs]
            simp
    | _ => simp [joinL] at e
open PySem.Builtin in
theorem joined_size (sep : Array UInt8) (bs : List (Array UInt8)) : bs.toArray.foldl (fun x1 x2 => x1 + x2.size) (sep.size * (bs.toArray.size - 1)) = (Bytes.joined sep bs).size := by
  have key : ∀ (r : List (Array UInt8)) (k : Nat), r.foldl (fun x1 x2 => x1 + x2.size) k = k + (r.map (·.size)).sum := by
    intro r
    induction r with
    | nil => intro k; simp
    | cons b r ih => intro k; rw [List.foldl_cons, ih]; simp; (first | lia | omega)
  cases bs with
  | nil => simp [Bytes.joined]
  | cons b r =>
    have e0 : (Bytes.joined sep (b :: r)).size = (Bytes.joined sep (b :: r)).toList.length := (Array.length_toList).symm
    rw [e0, joined_cons, List.foldl_toArray', key]
    · simp only [List.size_toArray, List.length_cons, Nat.add_sub_cancel, List.map_cons, List.sum_cons, List.length_append, Array.length_toList, List.length_flatten, List.map_map]
      have : ∀ r : List (Array UInt8), (r.map (List.length ∘ fun x => sep.toList ++ x.toList)).sum = sep.size * r.length + (r.map (·.size)).sum := by
        intro r
        induction r with
        | nil => simp
        | cons c r ih => simp only [List.map_cons, List.sum_cons, ih, List.length_cons, Function.comp, List.length_append, Array.length_toList, Nat.mul_add]; (first | lia | omega)
      rw [this]; (first | lia | omega)
    · simp
theorem slot_join : Slot "bytes" "join" "bytes.join" :=
  .of (owner := "bytes") (n := "join") (by rw [typeLookup_type, builtinLookup_eq_fast]; kernel_rfl) (by decide +kernel) (by decide +kernel) (by decide +kernel)
    (by first | exact .inl (by decide +kernel) | exact .inr (by decide +kernel)) (by rw [isSubtype_type]; kernel_rfl)
theorem type_join : typeOf (.builtin "bytes.join") = pure (.type "method_descriptor") := by show builtinType _ = _; rw [builtinType_eq_fast]; kernel_rfl
theorem entry_join : entryFor table "bytes.join" = some Builtin.«bytes.join» := entryFor_of_tree (by kernel_rfl)
theorem args_join (a b : Value) : argsOk "bytes.join" ⟨[a, b], []⟩ := by unfold argsOk; kernel_rfl
theorem join_ok {sep : Array UInt8} {sn : List Nat} {t : Tok} {v : Value} {a d : D} (hs : sep.toList.map UInt8.toNat = sn) (hv : Den W.st O s.heap v a) (e : a.join sn = some d) (hq : VK W O (fsOf l) s d Q) :
    wpAny (model W.prog W.w) A (call (.builtin "bytes.join") [.bytes sep t, v]) Q Ex s := by
  cases hv with
  | @list x vs ds ha ht hd hz =>
    simp only [D.join] at e
    split at e
    · rename_i m e1
      obtain ⟨g, rfl⟩ := gd_some e
      obtain ⟨bs, h1, h2⟩ := joinL_bytes hs hd e1
      have hlen : (Builtin.Bytes.joined sep bs).size = m.length := by rw [← h2]; simp
      have gl := fits_le g
      obtain ⟨⟨cls, dd, data, sl⟩, ho, hc, n, hd'⟩ := id ht
      simp only at hc hd'
      subst hc hd'
      exact call_meets slot_join (PySem.W.typeIs_bytes s sep t) entry_join (args_join _ _) (join_meets sep t x vs bs n dd sl h1 (by rw [joined_size, hlen]; unfold Builtin.Bytes.tooLong; rw [sizeLine_eq]; simp; (first | lia | omega)) (by rw [hlen, sizeLine_eq]; (first | lia | omega)))
        ⟨ho, fun t' k => hq _ _ _ Ev.refl (.bytes _ _ _ h2 g)⟩
    · cases e
  | _ => cases e
end
end Mine
set_option Elab.async false
set_option maxRecDepth 100000
set_option maxHeartbeats 1000000
namespace Mine
set_option tactic.hygienic false
open PySem PyProof.Rows

theorem of_opt {α : Type} {o : Option α} {K : α → Prop} (h : opt o K) : ∃ a, o = some a ∧ K a := by
  cases o with
  | none => cases h
  | some a => exact ⟨a, rfl, h⟩
theorem of_optC {α : Type} {o : Option α} {K : α → Prop} {P : Prop} (h : opt o K) (k : ∀ a, o = some a → K a → P) : P := by
  cases o with
  | none => cases h
  | some a => exact k a rfl h
theorem of_br {b : Bool} {P Q : Prop} (h : br b P Q) : if b = true then P else Q := by cases b <;> simpa [br] using h

/-! the text's expressions are no stars, no sets, no slices -/
theorem chk_star {N : Nms} {m : Nat} {sc : Scope} {e : Expr} {t : E} (h : chkE N m sc e t = true) (env : Env) (es : List Expr) : starEach (e :: es) env = (false, eval e env) :: starEach es env := by
  have := (chk_tag h).1
  cases e with
  | Starred x p => cases this
  | _ => rfl
theorem chk_slice {N : Nms} {m : Nat} {sc : Scope} {e : Expr} {t : E} (h : chkE N m sc e t = true) (lo hi st : Option Expr) (p : Pos) : e ≠ .Slice lo hi st p := by
  rintro rfl
  have := (chk_tag h).2
  cases this
theorem chk_marks {N : Nms} {m : Nat} {sc : Scope} {e : Expr} {t : E} (h : chkE N m sc e t = true) (op : CmpOp) : behindInMarks op e = false := by
  have := (chk_tag h).1
  cases e with
  | Set x y p => cases this
  | _ => rfl
theorem chk_fold {N : Nms} {m : Nat} {sc : Scope} {e : Expr} {t : E} (h : chkE N m sc e t = true) (env : Env) (x : Value) : foldedSetIterable e env x = pure x := by
  have := (chk_tag h).1
  cases e with
  | Set x y p => cases this
  | _ => rfl
theorem chkL_trees {N : Nms} {sc : Scope} {env : Env} {pos : Pos} {m : Nat} : ∀ {es : List Expr} {ts : List E}, chkL N m sc es ts = true → backTo pos (starEach es env) = es.map fun e => (false, eval e env)
  | es, [], h => by cases l_nil h; rfl
  | es, t :: ts, h => by
    refine l_cons h fun e es' h1 h2 => ?_
    rw [chk_star h1]
    have := chkL_trees (env := env) (pos := pos) h2
    simp only [backTo, List.map_cons] at this ⊢
    rw [this]; rfl

section
variable {W : Wd} {A : Around} {l : List Env} {O : Addr → Prop}
theorem Evals.bind {t : Sem Value} {K : D → Prop} {X : Prop} {s : Shared} (h : Evals W A l O t K X s) {Q : Value → Shared → Prop} {Ex : Value → Shared → Prop}
    (hq : ∀ d v h' tk, K d → Ev (fsOf l) s.heap h' → Den W.st O h' v d → Q v { s with heap := h', toks := tk }) (hx : XK W l s X Ex) : wpAny (model W.prog W.w) A t Q Ex s := h Q Ex hq hx
theorem XK.go {X : Prop} {s : Shared} {Ex : Value → Shared → Prop} (hx : XK W l s X Ex) {h' : Heap} {tk : Nat} (e : Ev (fsOf l) s.heap h') : XK W l { s with heap := h', toks := tk } X Ex :=
  fun er h'' tk' hX hf => hx er h'' tk' hX (hf.pre e)
theorem QK.go {K : D → Prop} {s : Shared} {Q : Value → Shared → Prop} (hq : QK W l O s K Q) {h' : Heap} {tk : Nat} (e : Ev (fsOf l) s.heap h') : QK W l O { s with heap := h', toks := tk } K Q :=
  fun d v h'' tk' hK he hv => hq d v h'' tk' hK (e.trans he) hv
theorem QK.vk {K : D → Prop} {s : Shared} {Q : Value → Shared → Prop} (hq : QK W l O s K Q) {d : D} (hK : K d) : VK W O (fsOf l) s d Q := fun v h' tk e hv => hq d v h' tk hK e hv
theorem QK.now {K : D → Prop} {s : Shared} {Q : Value → Shared → Prop} (hq : QK W l O s K Q) {d : D} {v : Value} {tk : Nat} (hK : K d) (hv : Den W.st O s.heap v d) : Q v { s with toks := tk } := hq d v s.heap tk hK Ev.refl hv

theorem rd_name {env : Env} (eo : EnvOk env) {s : Shared} {x : Str} {v : Value} {pos : Pos} {Q : Value → Shared → Prop} {Ex : Value → Shared → Prop} (h : Rd env s.heap x v) (hd : (x == ("__debug__" : Str)) = false) (hq : Q v s) :
    wpAny (model W.prog W.w) A (eval (.Name x pos) env) Q Ex s := by
  rcases h with ⟨k, m, n, q⟩ | ⟨k, c, q, n⟩
  · exact wpAny_Name (wpAny_loadName_local eo.kind k n q hq) hd
  · exact wpAny_Name (wpAny_loadName_cell eo.kind k q n hq) hd

theorem glob_name (ok : WOk W) {env : Env} (eo : EnvOk env) {s : Shared} (S : Stn W A l O s.heap) {x : Str} {v : Value} {pos : Pos} {Q : Value → Shared → Prop} {Ex : Value → Shared → Prop} (h : isGlob env.scope x = true) (hv : W.mg x = some v) (hq : Q v s) :
    wpAny (model W.prog W.w) A (eval (.Name x pos) env) Q Ex s := by
  simp only [isGlob, Bool.and_eq_true, beq_iff_eq, Bool.not_eq_true'] at h
  refine Calls.Name_function_global eo.kind h.1 (Calls.loadGlobal_global ?_ hv hq) h.2
  rw [eo.globals]
  exact ok.g.keeps S.stays
theorem bi_name (ok : WOk W) {env : Env} (eo : EnvOk env) {s : Shared} (S : Stn W A l O s.heap) {x : Str} {v : Value} {pos : Pos} {Q : Value → Shared → Prop} {Ex : Value → Shared → Prop} (h : isGlob env.scope x = true) (hv : (x, v) ∈ builtIns) (hq : Q v s) :
    wpAny (model W.prog W.w) A (eval (.Name x pos) env) Q Ex s := by
  simp only [isGlob, Bool.and_eq_true, beq_iff_eq, Bool.not_eq_true'] at h
  refine Calls.Name_function_global eo.kind h.1 (Calls.loadGlobal_builtin ?_ (ok.bi _ hv).1 ?_ (ok.bi _ hv).2 hq) h.2
  · rw [eo.globals]; exact ok.g.keeps S.stays
  · rw [eo.builtins]; exact ok.b.keeps S.stays
end
end Mine
set_option Elab.async false
set_option maxRecDepth 100000
set_option maxHeartbeats 4000000
namespace Mine
set_option tactic.hygienic false
open PySem PyProof.Rows

noncomputable abbrev TK (l : List Env) (s : Shared) (C : Bool → Prop) (Q : Bool → Shared → Prop) : Prop :=
  ∀ b h' tk, C b → Ev (fsOf l) s.heap h' → Q b { s with heap := h', toks := tk }
structure XOk (W : Wd) (Φ : Phi) (k n : Nat) : Prop where
  e : ∀ {m : Nat} {e : Expr} {t : E} {ρ : Loc} {K : D → Prop} {X : Prop} {A : Around} {l : List Env} {env : Env} {O : Addr → Prop} {fp : Nat → List Addr} {s : Shared},
    chkE W.toNms m env.scope e t = true → Here W k A l env O fp s.heap ρ → xE Φ W.G n t ρ K X → Evals W A l O (eval e env) K X s
  t : ∀ {m : Nat} {e : Expr} {t : E} {ρ : Loc} {C : Bool → Prop} {X : Prop} {A : Around} {l : List Env} {env : Env} {O : Addr → Prop} {fp : Nat → List Addr} {s : Shared} {Q : Bool → Shared → Prop} {Ex : Value → Shared → Prop},
    chkE W.toNms m env.scope e t = true → Here W k A l env O fp s.heap ρ → xE Φ W.G n t ρ (fun d => opt d.tr C) X → TK l s C Q → XK W l s X Ex → wpAny (model W.prog W.w) A (isTrue e env (eval e env)) Q Ex s
  andT : ∀ {m : Nat} {es : List Expr} {ts : List E} {pos : Pos} {ρ : Loc} {C : Bool → Prop} {X : Prop} {A : Around} {l : List Env} {env : Env} {O : Addr → Prop} {fp : Nat → List Addr} {s : Shared} {whole : Sem Value} {Q : Bool → Shared → Prop} {Ex : Value → Shared → Prop},
    chkL W.toNms m env.scope es ts = true → Here W k A l env O fp s.heap ρ → xAnd Φ W.G n ts ρ (fun d => opt d.tr C) X → TK l s C Q → XK W l s X Ex → wpAny (model W.prog W.w) A (isTrue (.BoolOp .And es pos) env whole) Q Ex s
  orT : ∀ {m : Nat} {es : List Expr} {ts : List E} {pos : Pos} {ρ : Loc} {C : Bool → Prop} {X : Prop} {A : Around} {l : List Env} {env : Env} {O : Addr → Prop} {fp : Nat → List Addr} {s : Shared} {whole : Sem Value} {Q : Bool → Shared → Prop} {Ex : Value → Shared → Prop},
    chkL W.toNms m env.scope es ts = true → Here W k A l env O fp s.heap ρ → xOr Φ W.G n ts ρ (fun d => opt d.tr C) X → TK l s C Q → XK W l s X Ex → wpAny (model W.prog W.w) A (isTrue (.BoolOp .Or es pos) env whole) Q Ex s
  and : ∀ {m : Nat} {es : List Expr} {ts : List E} {pos : Pos} {ρ : Loc} {K : D → Prop} {X : Prop} {A : Around} {l : List Env} {env : Env} {O : Addr → Prop} {fp : Nat → List Addr} {s : Shared},
    ts ≠ [] → chkL W.toNms m env.scope es ts = true → Here W k A l env O fp s.heap ρ → xAnd Φ W.G n ts ρ K X → Evals W A l O (eval (.BoolOp .And es pos) env) K X s
  or : ∀ {m : Nat} {es : List Expr} {ts : List E} {pos : Pos} {ρ : Loc} {K : D → Prop} {X : Prop} {A : Around} {l : List Env} {env : Env} {O : Addr → Prop} {fp : Nat → List Addr} {s : Shared},
    ts ≠ [] → chkL W.toNms m env.scope es ts = true → Here W k A l env O fp s.heap ρ → xOr Φ W.G n ts ρ K X → Evals W A l O (eval (.BoolOp .Or es pos) env) K X s
  es : ∀ {m : Nat} {es : List Expr} {ts : List E} {ρ : Loc} {K : List D → Prop} {X : Prop} {A : Around} {l : List Env} {env : Env} {O : Addr → Prop} {fp : Nat → List Addr} {s : Shared} {Q : List Value → Shared → Prop} {Ex : Value → Shared → Prop},
    chkL W.toNms m env.scope es ts = true → Here W k A l env O fp s.heap ρ → xEs Φ W.G n ts ρ K X →
    (∀ ds vs h' tk, K ds → ds.length = ts.length → Ev (fsOf l) s.heap h' → Dens W.st O h' vs ds → Q vs { s with heap := h', toks := tk }) → XK W l s X Ex → wpAny (model W.prog W.w) A (spliced (es.map fun e => (false, eval e env))) Q Ex s
  as : ∀ {m : Nat} {es : List Expr} {ts : List E} {ρ : Loc} {K : List LV → Prop} {X : Prop} {A : Around} {l : List Env} {env : Env} {O : Addr → Prop} {fp : Nat → List Addr} {s : Shared} {Q : List Value → Shared → Prop} {Ex : Value → Shared → Prop},
    chkL W.toNms m env.scope es ts = true → Here W k A l env O fp s.heap ρ → xAs Φ W.G n ts ρ K X →
    (∀ ds vs h' tk, K ds → Ev (fsOf l) s.heap h' → ArgsOk W O l h' vs ds → Q vs { s with heap := h', toks := tk }) → XK W l s X Ex → wpAny (model W.prog W.w) A (spliced (es.map fun e => (false, eval e env))) Q Ex s
  a : ∀ {m : Nat} {e : Expr} {t : E} {ρ : Loc} {K : LV → Prop} {X : Prop} {A : Around} {l : List Env} {env : Env} {O : Addr → Prop} {fp : Nat → List Addr} {s : Shared} {Q : Value → Shared → Prop} {Ex : Value → Shared → Prop},
    chkE W.toNms m env.scope e t = true → Here W k A l env O fp s.heap ρ → xA Φ W.G n t ρ K X →
    (∀ d v h' tk, K d → Ev (fsOf l) s.heap h' → ArgOk W O h' v d → (∀ a ds, d = .brw ds → v = .ref a → a ∉ fsOf l) → Q v { s with heap := h', toks := tk }) → XK W l s X Ex → wpAny (model W.prog W.w) A (eval e env) Q Ex s

theorem ArgOk.ev {W : Wd} {O : Addr → Prop} {l : List Env} {h h' : Heap} (e : Ev (fsOf l) h h') (hs : ∀ a ∈ fsOf l, O a) {v : Value} {x : LV} (a : ArgOk W O h v x) : ArgOk W O h' v x := by
  cases x with
  | v d => exact Den.ev e hs a
  | brw ds => obtain ⟨a', vs', q1, q2, q3, q4, q5⟩ := a; exact ⟨a', vs', q1, q2, e.isList q3, q4.ev e hs, q5⟩
  | _ => cases a
theorem ArgsOk.ev {W : Wd} {O : Addr → Prop} {l : List Env} {h h' : Heap} (e : Ev (fsOf l) h h') (hs : ∀ a ∈ fsOf l, O a) {vs : List Value} {xs : List LV} (x : ArgsOk W O l h vs xs) : ArgsOk W O l h' vs xs := by
  induction x with
  | nil => exact .nil
  | @cons v vs x xs a b _ ih =>
    exact .cons (a.ev e hs) b ih
theorem bi_len : ((("len" : Str), Value.builtin "len") : Str × Value) ∈ builtIns := .head _
theorem bi_bytes : ((("bytes" : Str), Value.type "bytes") : Str × Value) ∈ builtIns := .tail _ (.head _)
theorem bi_max : ((("max" : Str), Value.builtin "max") : Str × Value) ∈ builtIns := .tail _ (.tail _ (.head _))
theorem bi_type : ((("type" : Str), Value.type "type") : Str × Value) ∈ builtIns := .tail _ (.tail _ (.tail _ (.head _)))
theorem bi_bool : ((("bool" : Str), Value.type "bool") : Str × Value) ∈ builtIns := .tail _ (.tail _ (.tail _ (.tail _ (.head _))))

noncomputable def isCmpE : E → Bool
  | .cmp .. => true
  | .isty .. => true
  | .hin .. => true
  | _ => false
theorem Room.u64 {A : Around} {k : Nat} (r : Room A k) : A.units + 64 < cLine := by
  have := r.units
  show A.units + 64 < 9900
  (first | lia | omega)
theorem Room.u8 {A : Around} {k : Nat} (r : Room A k) : A.units < 9000 := Nat.lt_of_le_of_lt (Nat.le_add_right _ _) r.units
theorem loc_nd {sc : Scope} {x : Str} (h : isLoc sc x = true) : (x == ("__debug__" : Str)) = false := not_t (an h).2
/-- what a comprehension's case wants: shown apart -/
noncomputable def CompOk (W : Wd) (Φ : Phi) (k n : Nat) : Prop :=
  ∀ {m : Nat} {elt' t' it' : Expr} {ifs' : List Expr} {scope : Scope} {pos : Pos} {elt it : E} {xs cap : List Nat} {one : Bool} {ifs : List E} {ρ : Loc} {K : D → Prop} {X : Prop} {A : Around} {l : List Env} {env : Env} {O : Addr → Prop} {fp : Nat → List Addr} {s : Shared},
    chkE W.toNms m env.scope (.ListComp elt' [⟨t', it', ifs', 0⟩] scope pos) (.comp elt xs one it ifs cap) = true → Here W k A l env O fp s.heap ρ → XOk W Φ k n → xE Φ W.G (n + 1) (.comp elt xs one it ifs cap) ρ K X →
    Evals W A l O (eval (.ListComp elt' [⟨t', it', ifs', 0⟩] scope pos) env) K X s

noncomputable def DgetOk (W : Wd) (Φ : Phi) (k n : Nat) : Prop :=
  ∀ {m : Nat} {e : Expr} {kvs : List (Nat × Int)} {key : E} {ρ : Loc} {K : D → Prop} {X : Prop} {A : Around} {l : List Env} {env : Env} {O : Addr → Prop} {fp : Nat → List Addr} {s : Shared},
    chkE W.toNms m env.scope e (.dget kvs key) = true → Here W k A l env O fp s.heap ρ → XOk W Φ k n → xE Φ W.G (n + 1) (.dget kvs key) ρ K X →
    Evals W A l O (eval e env) K X s
section
variable {W : Wd} {Φ : Phi} {k : Nat}
/-- a comparison's one link -/
noncomputable def Cmp1 (W : Wd) (A : Around) (e1 e2 : Expr) (op : CmpOp) (env : Env) (Q : Value → Shared → Prop) (Ex : Value → Shared → Prop) (s : Shared) : Prop :=
  behindInMarks op e2 = false ∧ wpAny (model W.prog W.w) A (eval e1 env) (fun a s₁ => wpAny (model W.prog W.w) A (eval e2 env) (fun b s₂ => wpAny (model W.prog W.w) A (compareOp op a b) Q Ex s₂) Ex s₁) Ex s
theorem isSame_ty {P : Program} {w : World} {A : Around} {pos x : Bool} {T tn : String} {Q : Value → Shared → Prop} {Ex : Value → Shared → Prop} {s : Shared} (htn : (Value.type T == Value.type tn) = x) (hq : Q (.bool (x == pos)) s) :
    wpAny (model P w) A (compareOp (isOp pos) (.type T) (.type tn)) Q Ex s := by
  have hs : isSame (.type T) (.type tn) = pure x := by rw [← htn]; rfl
  cases pos with
  | true =>
    show wpAny _ _ (do return .bool (← isSame (.type T) (.type tn))) Q Ex _
    rw [hs]
    refine wpAny_bind (wpAny_pure (wpAny_pure ?_))
    cases x <;> exact hq
  | false =>
    show wpAny _ _ (do return .bool (!(← isSame (.type T) (.type tn)))) Q Ex _
    rw [hs]
    refine wpAny_bind (wpAny_pure (wpAny_pure ?_))
    cases x <;> exact hq
theorem hin_of {d : D} {o : Option LV} {P : Int → List Int → Prop} (h : match d, o with | .int i, some (.rcv held) => P i held | _, _ => False) : ∃ i held, d = .int i ∧ o = some (.rcv held) ∧ P i held := by
  cases d with
  | int i => cases o with
    | none => exact h.elim
    | some lv => cases lv with
      | rcv held => exact ⟨i, held, rfl, rfl, h⟩
      | _ => exact h.elim
  | _ => cases o with
    | none => exact h.elim
    | some lv => cases lv <;> exact h.elim
@[elab_as_elim] theorem cmp1_core (ok : WOk W) {n : Nat} (ih : XOk W Φ k n)
    {m : Nat} {e : Expr} {t : E} {ρ : Loc} {K : D → Prop} {X : Prop} {A : Around} {l : List Env} {env : Env} {O : Addr → Prop} {fp : Nat → List Addr} {s : Shared} {Q : Value → Shared → Prop} {Ex : Value → Shared → Prop}
    {P : Expr → Prop} (ht : isCmpE t = true) (hc : chkE W.toNms m env.scope e t = true) (H : Here W k A l env O fp s.heap ρ) (hx : xE Φ W.G (n + 1) t ρ K X) (hq : QK W l O s K Q) (hX : XK W l s X Ex) (k : ∀ e1 op e2 p, Cmp1 W A e1 e2 op env Q Ex s → P (.Compare e1 [op] [e2] p)) :
    P e := by
  cases t with
  | cmp op a b =>
    refine c_cmp hc fun m e1 e2 p h1 h2 => ?_
    refine k _ _ _ _ ⟨chk_marks h2 _, (ih.e h1 H hx).bind (fun d v h' tk hK he hv => ?_) hX⟩
    refine (ih.e h2 (H.ev ok he) hK).bind (fun d2 v2 h2 tk2 hK2 he2 hv2 => ?_) (hX.go he)
    refine of_optC hK2 fun r e1 hr => ?_
    exact cmp_ok ok (hv.ev he2 H.stn.sub) hv2 H.room.u64 e1 (hq _ _ _ _ hr (he.trans he2) (.bool _))
  | isty pos a t =>
    refine c_isty hc fun m x' np cp tp p h1 h2 h3 => ?_
    refine k _ _ _ _ ⟨rfl, Call_Name1 (bi_name ok H.eok H.stn h1 bi_type ?_) (by rw [chk_star h3]; rfl)⟩
    refine PySem.callWith_type1 ((ih.e h3 H hx).bind (fun d v h' tk hK he hv => ?_) hX)
    refine type_ok hv fun T hT => ?_
    cases t with
    | bool => exact bi_name ok H.eok (H.stn.ev he) h2 bi_bool (isSame_ty (hT .bool) (hq _ _ _ _ hK he (.bool _)))
    | bytes => exact bi_name ok H.eok (H.stn.ev he) h2 bi_bytes (isSame_ty (hT .bytes) (hq _ _ _ _ hK he (.bool _)))
  | hin pos self a =>
    refine c_hin hc fun m x' np ap p h1 h3 => ?_
    refine k _ _ _ _ ⟨rfl, (ih.e h3 H hx).bind (fun d v h' tk hK he hv => ?_) hX⟩
    obtain ⟨i, held, rfl, hg, hK⟩ := hin_of hK
    obtain ⟨t, rfl⟩ := hv.int_inv
    obtain ⟨v, r, lv⟩ := H.rel.get self _ hg
    refine Attribute_name (rd_name H.eok (r.ev he) (loc_nd h1) ?_)
    exact ok.hin (H.stn.ev he) H.room.u8 (ok.rcvEv he (fun a ha => (H.rel.off self a ha).2) (H.stn.ev he).stays lv) fun tk' => hq _ _ _ _ hK he (.bool _)
  | _ => cases ht
theorem xE_var {Φ : Phi} {G : Nat → D} {n x : Nat} {ρ : Loc} {K : D → Prop} {X : Prop} (h : xE Φ G (n + 1) (.var x) ρ K X) : ∃ d, ρ.get x = some (.v d) ∧ K d := by
  have h' : (match ρ.get x with | some (.v d) => K d | _ => False) := h
  cases hg : ρ.get x with
  | none => rw [hg] at h'; cases h'
  | some lv =>
    rw [hg] at h'
    cases lv with
    | v d => exact ⟨d, rfl, h'⟩
    | _ => cases h'
theorem idx_int {a b r : D} (h : a.idx b = some r) : ∃ i, b = .int i := by
  cases b with
  | int i => exact ⟨i, rfl⟩
  | _ => cases a <;> exact no_some h
theorem neg_of {a : D} {K : D → Prop} (h : match a with | .int i => K (.int (-i)) | _ => False) : ∃ i, a = .int i ∧ K (.int (-i)) := by
  cases a with
  | int i => exact ⟨i, rfl, h⟩
  | _ => exact h.elim
theorem call_step (ok : WOk W) (P : PhiOk W Φ k) {n : Nat} (ih : XOk W Φ k n) {m f : Nat} {args : List E} {args' : List Expr} {np pos : Pos} {ρ : Loc} {K : D → Prop} {X : Prop} {A : Around} {l : List Env} {env : Env} {O : Addr → Prop} {fp : Nat → List Addr} {s : Shared} {Q : Value → Shared → Prop} {Ex : Value → Shared → Prop}
    (h1 : isGlob env.scope (W.fnm f) = true) (h2 : chkL W.toNms m env.scope args' args = true) (H : Here W k A l env O fp s.heap ρ) (hx : xE Φ W.G (n + 1) (.call f args) ρ K X) (hq : QK W l O s K Q) (hX : XK W l s X Ex) :
    wpAny (model W.prog W.w) A (eval (.Call (.Name (W.fnm f) np) args' [] pos) env) Q Ex s := by
  obtain ⟨a, o, fd, f1, f2, f3⟩ := ok.fn f
  refine Call_Name (chkL_trees h2) (glob_name ok H.eok H.stn h1 f1 ?_)
  have fin : ∀ (ls : List LV) (vs : List Value) (h' : Heap) (tk : Nat), Φ f ls K X → Ev (fsOf l) s.heap h' → ArgsOk W O l h' vs ls →
      wpAny (model W.prog W.w) A (call (.ref a) vs) Q Ex { s with heap := h', toks := tk } := by
    intro ls vs h' tk hK he ha
    refine wpAny_call (codeAny_mono (P f a f1 A l O { s with heap := h', toks := tk } ls vs K X (H.stn.ev he) H.room ha hK) fun r s' hr => ?_)
    cases r with
    | ok fl =>
      cases fl with
      | ret v => obtain ⟨d, h2, tk2, rfl, hd, he2, hv⟩ := hr; exact hq _ _ _ _ hd (he.trans he2) hv
      | _ => cases hr
    | error er => obtain ⟨hXX, h2, tk2, rfl, hf⟩ := hr; exact hX _ _ _ hXX (hf.pre he)
  have keep : ∀ h', Ev (fsOf l) s.heap h' → h'.get? a = some o := fun h' he => (H.stn.ev he).stays _ _ f2
  cases args with
  | nil =>
    cases l_nil h2
    cases n with
    | zero => cases hx
    | succ n => exact Calls.callWith_function (o := o) (fd := fd) (evalArgs_nil3 ⟨⟨keep _ Ev.refl, f3⟩, fin [] [] s.heap s.toks hx Ev.refl .nil⟩)
  | cons t ts =>
    have h2' := h2
    revert h2'
    refine l_cons h2 fun e0 es _ _ h2' => ?_
    refine Calls.callWith_function (o := o) (fd := fd) (Calls.evalArgs_plain ?_)
    exact ih.as h2' H hx (fun ls vs h' tk hK he ha => ⟨⟨keep _ he, f3⟩, by simpa using fin ls vs h' tk hK he ha⟩) hX
theorem part_ok {n : Nat} (ih : XOk W Φ k n) {m : Nat} {e : Option Expr} {t : E} {ρ : Loc} {K : D → Prop} {X : Prop} {A : Around} {l : List Env} {env : Env} {O : Addr → Prop} {fp : Nat → List Addr} {s : Shared} {Q : Value → Shared → Prop} {Ex : Value → Shared → Prop}
    (hO : chkO W.toNms m env.scope e t = true) (H : Here W k A l env O fp s.heap ρ) (hx : xE Φ W.G n t ρ K X) (hq : QK W l O s K Q) (hX : XK W l s X Ex) : wpAny (model W.prog W.w) A (evalPart e env) Q Ex s := by
  revert hx
  refine o_of hO (fun hx => ?_) fun e h hx => ih.e h H hx _ _ hq hX
  cases n with
  | zero => cases hx
  | succ n => exact wpAny_pure (hq.now (tk := s.toks) hx .none)
theorem xE_step (ok : WOk W) (P : PhiOk W Φ k) {n : Nat} (ih : XOk W Φ k n) (hcomp : CompOk W Φ k n) (hdget : DgetOk W Φ k n)
    {m : Nat} {e : Expr} {t : E} {ρ : Loc} {K : D → Prop} {X : Prop} {A : Around} {l : List Env} {env : Env} {O : Addr → Prop} {fp : Nat → List Addr} {s : Shared}
    (hc : chkE W.toNms m env.scope e t = true) (H : Here W k A l env O fp s.heap ρ) (hx : xE Φ W.G (n + 1) t ρ K X) : Evals W A l O (eval e env) K X s := by
  intro Q Ex hq hX
  have cmp1 : isCmpE t = true → wpAny (model W.prog W.w) A (eval e env) Q Ex s := fun ht => by
    exact cmp1_core ok ih ht hc H hx hq hX fun e1 op e2 p z => wpAny_Compare1 z.2 z.1
  cases t with
  | none =>
    refine c_none hc fun _ _ => ?_
    exact Constant_none (hq.now (tk := s.toks) hx .none)
  | tt b =>
    refine c_tt hc fun _ _ => ?_
    exact Constant_bool (hq.now (tk := s.toks) hx (.bool _))
  | int i =>
    refine c_int hc fun _ _ => ?_
    exact wpAny_Constant_int (hq.now hx (.int _ _))
  | str j =>
    refine c_str hc fun _ _ h => ?_
    exact wpAny_Constant_str (hq.now hx (.str _ _ _ rfl h))
  | byt b =>
    refine c_byt hc fun _ _ _ h1 h2 => ?_
    exact PySem.W.Constant_bytes (hq.now hx (.bytes _ _ _ (by rw [h1]) h2))
  | var x =>
    refine c_var hc fun _ h1 => ?_
    obtain ⟨d, hg, hx⟩ := xE_var hx
    obtain ⟨v, r, lv⟩ := H.rel.get x _ hg
    exact rd_name H.eok r (loc_nd h1) (hq.now (tk := s.toks) hx lv)
  | glob g =>
    refine c_glob hc fun _ hg => ?_
    obtain ⟨v, h1, h2⟩ := ok.glob g
    exact glob_name ok H.eok H.stn hg h1 (hq.now (tk := s.toks) hx (Den.glob H.stn h2))
  | bin op a b =>
    refine c_bin hc fun m _ _ _ h1 h2 => ?_
    refine wpAny_BinOp ((ih.e h1 H hx).bind (fun d v h' tk hK he hv => ?_) hX)
    refine (ih.e h2 (H.ev ok he) hK).bind (fun d2 v2 h2 tk2 hK2 he2 hv2 => ?_) (hX.go he)
    refine of_optC hK2 fun r e1 hr => ?_
    exact binop_ok (H.stn.ev (he.trans he2)) (hv.ev he2 H.stn.sub) hv2 e1 ((hq.go (he.trans he2)).vk hr)
  | not a =>
    refine c_not hc fun m _ _ h1 => ?_
    refine UnaryOp_ ((ih.e h1 H hx).bind (fun d v h' tk hK he hv => ?_) hX)
    refine of_optC hK fun b e1 hb => ?_
    exact not_of (truthy_ok hv e1 fun tk' => hq _ _ _ _ hb he (.bool _))
  | neg a =>
    refine c_neg hc fun m _ _ h1 => ?_
    refine UnaryOp_ ((ih.e h1 H hx).bind (fun d v h' tk hK he hv => ?_) hX)
    obtain ⟨i, rfl, hK⟩ := neg_of hK
    obtain ⟨t, rfl⟩ := hv.int_inv
    exact PyProof.Rows.neg_int (hq _ _ _ _ hK he (.int _ _))
  | and ts =>
    refine c_and hc fun m _ _ h1 h2 => ?_
    exact ih.and h1 h2 H hx Q Ex hq hX
  | or ts =>
    refine c_or hc fun m _ _ h1 h2 => ?_
    exact ih.or h1 h2 H hx Q Ex hq hX
  | tup ts =>
    refine c_tup hc fun m _ _ _ h1 h2 => ?_
    refine Tuple_ ?_
    rw [chkL_trees h2]
    exact ih.es h2 H hx (fun ds vs h' tk hK hl he hv => newTuple_ok (H.stn.ev he) hv (by rw [hl]; exact h1) ((hq.go he).vk hK)) hX
  | lst ts =>
    refine c_lst hc fun m _ _ h1 h2 => ?_
    refine List_ ?_
    rw [chkL_trees h2]
    exact ih.es h2 H hx (fun ds vs h' tk hK hl he hv => newList_ok (H.stn.ev he) hv (by rw [hl]; exact h1) ((hq.go he).vk hK)) hX
  | idx a i =>
    refine c_idx hc fun m _ _ _ h1 h2 => ?_
    refine Subscript_ ((ih.e h1 H hx).bind (fun d v h' tk hK he hv => ?_) hX)
    refine (ih.e h2 (H.ev ok he) hK).bind (fun d2 v2 _ tk2 hK2 he2 hv2 => ?_) (hX.go he)
    refine of_optC hK2 fun r e1 hr => ?_
    obtain ⟨j, rfl⟩ := idx_int e1
    obtain ⟨u, rfl⟩ := hv2.int_inv
    exact tail_ok (hv.ev he2 H.stn.sub) e1 ((hq.go (he.trans he2)).vk hr) (chk_slice h2)
  | len a =>
    refine c_len hc fun m _ _ _ h1 h2 => ?_
    refine Call_Name1 (bi_name ok H.eok H.stn h1 bi_len ?_) (by rw [chk_star h2]; rfl)
    refine callWith_builtin1 ((ih.e h2 H hx).bind (fun d v h' tk hK he hv => ?_) hX)
    refine of_optC hK fun r e1 hr => ?_
    exact len_ok hv e1 ((hq.go he).vk hr)
  | bytesOf a =>
    refine c_bytesOf hc fun m _ _ _ h1 h2 => ?_
    refine Call_Name1 (bi_name ok H.eok H.stn h1 bi_bytes ?_) (by rw [chk_star h2]; rfl)
    refine PySem.callWith_type1 ((ih.e h2 H hx).bind (fun d v h' tk hK he hv => ?_) hX)
    refine of_optC hK fun r e1 hr => ?_
    exact bytesOf_ok (H.stn.ev he) hv e1 ((hq.go he).vk hr)
  | maxOf a =>
    refine c_maxOf hc fun m _ _ _ h1 h2 => ?_
    refine Call_Name1 (bi_name ok H.eok H.stn h1 bi_max ?_) (by rw [chk_star h2]; rfl)
    refine callWith_builtin1 ((ih.e h2 H hx).bind (fun d v h' tk hK he hv => ?_) hX)
    refine of_optC hK fun r e1 hr => ?_
    exact max_ok (H.stn.ev he) hv e1 ((hq.go he).vk hr)
  | call f args =>
    refine c_call hc fun m _ args' _ h1 h2 => ?_
    exact call_step ok P ih h1 h2 H hx hq hX
  | ifx c a b =>
    refine c_ifx hc fun m _ _ _ _ h1 h2 h3 => ?_
    refine IfExp_ (ih.t h1 H hx (fun b h' tk hb he => ?_) hX)
    cases b with
    | true => exact ih.e h2 (H.ev ok he) hb _ _ (hq.go he) (hX.go he)
    | false => exact ih.e h3 (H.ev ok he) hb _ _ (hq.go he) (hX.go he)
  | cmp2 o p a b c =>
    refine c_cmp2 hc fun m _ _ _ _ h1 h2 h3 => ?_
    refine Compare_chain ((ih.e h1 H hx).bind (fun d v h' tk hK he hv => ?_) hX) (chk_marks h3 _)
    refine chain_link ((ih.e h2 (H.ev ok he) hK).bind (fun d2 v2 h2' tk2 hK2 he2 hv2 => ?_) (hX.go he))
    refine of_optC hK2 fun r e1 hr => ?_
    refine cmp_ok ok (hv.ev he2 H.stn.sub) hv2 H.room.u64 e1 (wpAny_truthy_bool ?_)
    cases r with
    | false => exact hq _ _ _ _ hr (he.trans he2) (.bool _)
    | true =>
      refine chain_last ((ih.e h3 (H.ev ok (he.trans he2)) hr).bind (fun d3 v3 h3' tk3 hK3 he3 hv3 => ?_) (hX.go (he.trans he2)))
      refine of_optC hK3 fun r3 e3 hr3 => ?_
      exact cmp_ok ok (hv2.ev he3 H.stn.sub) hv3 H.room.u64 e3 (hq _ _ _ _ hr3 ((he.trans he2).trans he3) (.bool _))
  | cmp op a b => exact cmp1 rfl
  | isty pos a t => exact cmp1 rfl
  | hin pos self a => exact cmp1 rfl
  | slc a lo hi =>
    refine c_slc hc fun m _ _ _ _ _ h1 h2 h3 => ?_
    refine Subscript_ ((ih.e h1 H hx).bind (fun d v h' tk hK he hv => ?_) hX)
    refine wpAny_Slice (part_ok ih h2 (H.ev ok he) hK (fun d2 v2 h2' tk2 hK2 he2 hv2 => ?_) (hX.go he))
    refine part_ok ih h3 (H.ev ok (he.trans he2)) hK2 (fun d3 v3 h3' tk3 hK3 he3 hv3 => ?_) (hX.go (he.trans he2))
    refine wpAny_pure ?_
    refine of_optC hK3 fun r e1 hr => ?_
    have p1 : Ev (fsOf l) h3' (h3'.push { cls := .type "slice", data := .fields #[v2, v3, .none] }) := push_ev _
    have hall := (he.trans he2).trans he3
    exact cut_ok (H.stn.ev (hall.trans p1)) ((hv.ev (he2.trans he3) H.stn.sub).ev p1 H.stn.sub) ((hv2.ev he3 H.stn.sub).ev p1 H.stn.sub) (hv3.ev p1 H.stn.sub) (Heap.IsSliceOf.new _ _ _ _) e1 ((hq.go (hall.trans p1)).vk hr)
  | join sep a =>
    refine c_join hc fun m _ _ _ _ _ _ h1 h2 h4 => ?_
    refine wpAny_Call_method rfl (by rw [chk_star h4]; rfl) (by simpa using h1) PySem.W.FB.plainAttrs_bytes slot_join type_join ?_
    refine PySem.W.Constant_bytes ⟨PySem.W.typeIs_bytes _ _ _, fun a ha => (by cases ha), ?_⟩
    rw [chk_star h4]
    refine Calls.callWith_builtin rfl (Calls.evalArgs_plain (Calls.spliced_cons ((ih.e h4 (s := { s with toks := s.toks + 1 }) H hx).bind (fun d v h' tk hK he hv => Calls.spliced_nil ?_) (hX.go (h' := s.heap) Ev.refl))))
    refine of_optC hK fun r e1 hr => ?_
    exact join_ok (by simpa using h2.symm) hv e1 ((hq.go he).vk hr)
  | comp elt xs one it ifs cap =>
    have hc' := hc
    revert hc'
    refine c_comp hc fun m _ _ _ _ _ _ _ _ _ _ _ _ _ _ _ _ hc' => ?_
    exact hcomp hc' H ih hx Q Ex hq hX
  | dget kvs key => exact hdget hc H ih hx Q Ex hq hX
  | range a b => cases hx
  | zip a b => cases hx
  | newRecv => cases hx
end
end Mine
set_option Elab.async false
set_option maxRecDepth 100000
set_option maxHeartbeats 4000000
namespace Mine
set_option tactic.hygienic false
open PySem PyProof.Rows
section
variable {W : Wd} {Φ : Phi} {k : Nat}
theorem TK.go {l : List Env} {s : Shared} {C : Bool → Prop} {Q : Bool → Shared → Prop} (hq : TK l s C Q) {h' : Heap} {tk : Nat} (e : Ev (fsOf l) s.heap h') : TK l { s with heap := h', toks := tk } C Q :=
  fun b h'' tk' hC he => hq b h'' tk' hC (e.trans he)
theorem xT_step (ok : WOk W) (P : PhiOk W Φ k) {n : Nat} (ih : XOk W Φ k n) (hcomp : CompOk W Φ k n) (hdget : DgetOk W Φ k n)
    {m : Nat} {e : Expr} {t : E} {ρ : Loc} {C : Bool → Prop} {X : Prop} {A : Around} {l : List Env} {env : Env} {O : Addr → Prop} {fp : Nat → List Addr} {s : Shared} {Q : Bool → Shared → Prop} {Ex : Value → Shared → Prop}
    (hc : chkE W.toNms m env.scope e t = true) (H : Here W k A l env O fp s.heap ρ) (hx : xE Φ W.G (n + 1) t ρ (fun d => opt d.tr C) X) (hq : TK l s C Q) (hX : XK W l s X Ex) :
    wpAny (model W.prog W.w) A (isTrue e env (eval e env)) Q Ex s := by
  have hqv : QK W l O s (fun d => opt d.tr C) (fun v s₁ => wpAny (model W.prog W.w) A (truthy v) Q Ex s₁) := by
    intro d v h' tk hK he hv
    refine of_optC hK fun b e1 hb => ?_
    exact truthy_ok hv e1 fun tk' => hq _ _ _ hb he
  have plain : (isTrue e env (eval e env) = (do let v ← eval e env; standAt e.pos; holding [v] (truthy v))) → wpAny (model W.prog W.w) A (isTrue e env (eval e env)) Q Ex s :=
    fun he => isTrue_plain (xE_step ok P ih hcomp hdget hc H hx _ _ hqv hX) he
  have cmp1 : isCmpE t = true → wpAny (model W.prog W.w) A (isTrue e env (eval e env)) Q Ex s := fun ht => by
    exact cmp1_core ok ih ht hc H hx hqv hX fun e1 op e2 p z => wpAny_isTrue_Compare1 z.2 z.1
  cases t with
  | not a =>
    refine c_not hc fun m _ _ h1 => ?_
    exact isTrue_not (ih.t h1 H hx (fun b h' tk hb he => hq _ _ _ hb he) hX)
  | and ts =>
    refine c_and hc fun m _ _ h1 h2 => ?_
    exact ih.andT h2 H hx hq hX
  | or ts =>
    refine c_or hc fun m _ _ h1 h2 => ?_
    exact ih.orT h2 H hx hq hX
  | ifx c a b =>
    refine c_ifx hc fun m _ _ _ _ h1 h2 h3 => ?_
    refine isTrue_IfExp (ih.t h1 H hx (fun b h' tk hb he => ?_) hX)
    cases b with
    | true => exact ih.t h2 (H.ev ok he) hb (hq.go he) (hX.go he)
    | false => exact ih.t h3 (H.ev ok he) hb (hq.go he) (hX.go he)
  | cmp op a b => exact cmp1 rfl
  | isty pos a t => exact cmp1 rfl
  | hin pos self a => exact cmp1 rfl
  | cmp2 o p a b c =>
    refine c_cmp2 hc fun m _ _ _ _ h1 h2 h3 => ?_
    refine isTrue_chain ((ih.e h1 H hx).bind (fun d v h' tk hK he hv => ?_) hX) (chk_marks h3 _)
    refine test_link ((ih.e h2 (H.ev ok he) hK).bind (fun d2 v2 h2' tk2 hK2 he2 hv2 => ?_) (hX.go he))
    refine of_optC hK2 fun r e1 hr => ?_
    refine cmp_ok ok (hv.ev he2 H.stn.sub) hv2 H.room.u64 e1 (wpAny_truthy_bool ?_)
    cases r with
    | false => exact hq _ _ _ hr (he.trans he2)
    | true =>
      refine test_last ((ih.e h3 (H.ev ok (he.trans he2)) hr).bind (fun d3 v3 h3' tk3 hK3 he3 hv3 => ?_) (hX.go (he.trans he2)))
      refine of_optC hK3 fun r3 e3 hr3 => ?_
      exact cmp_ok ok (hv2.ev he3 H.stn.sub) hv3 H.room.u64 e3 (wpAny_truthy_bool (hq _ _ _ hr3 ((he.trans he2).trans he3)))
  | range a b => cases hx
  | zip a b => cases hx
  | newRecv => cases hx
  | none => exact plain (c_none hc fun _ _ => rfl)
  | tt _ => exact plain (c_tt hc fun _ _ => rfl)
  | int _ => exact plain (c_int hc fun _ _ => rfl)
  | str _ => exact plain (c_str hc fun _ _ _ => rfl)
  | byt _ => exact plain (c_byt hc fun _ _ _ _ _ => rfl)
  | var _ => exact plain (c_var hc fun _ _ => rfl)
  | glob _ => exact plain (c_glob hc fun _ _ => rfl)
  | bin _ _ _ => exact plain (c_bin hc fun _ _ _ _ _ _ => rfl)
  | neg _ => exact plain (c_neg hc fun _ _ _ _ => rfl)
  | tup _ => exact plain (c_tup hc fun _ _ _ _ _ _ => rfl)
  | lst _ => exact plain (c_lst hc fun _ _ _ _ _ => rfl)
  | idx _ _ => exact plain (c_idx hc fun _ _ _ _ _ _ => rfl)
  | slc _ _ _ => exact plain (c_slc hc fun _ _ _ _ _ _ _ _ _ => rfl)
  | dget _ _ => exact plain (c_dget hc fun _ _ _ _ _ _ _ _ _ _ _ _ _ => rfl)
  | call _ _ => exact plain (c_call hc fun _ _ _ _ _ _ => rfl)
  | len _ => exact plain (c_len hc fun _ _ _ _ _ _ => rfl)
  | bytesOf _ => exact plain (c_bytesOf hc fun _ _ _ _ _ _ => rfl)
  | maxOf _ => exact plain (c_maxOf hc fun _ _ _ _ _ _ => rfl)
  | join _ _ => exact plain (c_join hc fun _ _ _ _ _ _ _ _ _ _ => rfl)
  | comp _ _ _ _ _ _ => exact plain (c_comp hc fun _ _ _ _ _ _ _ _ _ _ _ _ _ _ _ _ _ => rfl)

theorem opt_and (P : Prop) (C : Bool → Prop) : (fun a : D => opt a.tr fun b => br b P (opt a.tr C)) = (fun a : D => opt a.tr fun b => br b P (C false)) := by
  funext a
  cases a.tr with
  | none => rfl
  | some b => cases b <;> rfl
theorem opt_or (P : Prop) (C : Bool → Prop) : (fun a : D => opt a.tr fun b => br b (opt a.tr C) P) = (fun a : D => opt a.tr fun b => br b (C true) P) := by
  funext a
  cases a.tr with
  | none => rfl
  | some b => cases b <;> rfl
theorem xAll_step (ok : WOk W) (P : PhiOk W Φ k) {n : Nat} (ih : XOk W Φ k n) (hcomp : CompOk W Φ k n) (hdget : DgetOk W Φ k n) : XOk W Φ k (n + 1) where
  e := fun hc H hx => xE_step ok P ih hcomp hdget hc H hx
  t := fun hc H hx hq hX => xT_step ok P ih hcomp hdget hc H hx hq hX
  andT := by
    intro m es ts pos ρ C X A l env O fp s whole Q Ex hc H hx hq hX
    cases ts with
    | nil => cases l_nil hc; exact isTrue_and_nil (hq _ _ s.toks hx Ev.refl)
    | cons t ts =>
      refine l_cons hc fun e es h1 h2 => ?_
      cases ts with
      | nil =>
        cases l_nil h2
        refine isTrue_and (ih.t h1 H hx (fun b h' tk hb he => ?_) hX)
        cases b with
        | true => exact isTrue_and_nil (hq _ _ _ hb he)
        | false => exact hq _ _ _ hb he
      | cons t2 ts =>
        have hx' : xE Φ W.G n t ρ (fun a => opt a.tr fun b => br b (xAnd Φ W.G n (t2 :: ts) ρ (fun d => opt d.tr C) X) (opt a.tr C)) X := hx
        rw [opt_and] at hx'
        refine isTrue_and (ih.t h1 H hx' (fun b h' tk hb he => ?_) hX)
        cases b with
        | true => exact ih.andT h2 (H.ev ok he) hb (hq.go he) (hX.go he)
        | false => exact hq _ _ _ hb he
  orT := by
    intro m es ts pos ρ C X A l env O fp s whole Q Ex hc H hx hq hX
    cases ts with
    | nil => cases l_nil hc; exact isTrue_or_nil (hq _ _ s.toks hx Ev.refl)
    | cons t ts =>
      refine l_cons hc fun e es h1 h2 => ?_
      cases ts with
      | nil =>
        cases l_nil h2
        refine isTrue_or (ih.t h1 H hx (fun b h' tk hb he => ?_) hX)
        cases b with
        | false => exact isTrue_or_nil (hq _ _ _ hb he)
        | true => exact hq _ _ _ hb he
      | cons t2 ts =>
        have hx' : xE Φ W.G n t ρ (fun a => opt a.tr fun b => br b (opt a.tr C) (xOr Φ W.G n (t2 :: ts) ρ (fun d => opt d.tr C) X)) X := hx
        rw [opt_or] at hx'
        refine isTrue_or (ih.t h1 H hx' (fun b h' tk hb he => ?_) hX)
        cases b with
        | false => exact ih.orT h2 (H.ev ok he) hb (hq.go he) (hX.go he)
        | true => exact hq _ _ _ hb he
  and := by
    intro m es ts pos ρ K X A l env O fp s hne hc H hx Q Ex hq hX
    cases ts with
    | nil => cases hne rfl
    | cons t ts =>
      refine l_cons hc fun e es h1 h2 => ?_
      cases ts with
      | nil => cases l_nil h2; exact BoolOp_one (ih.e h1 H hx _ _ hq hX)
      | cons t2 ts =>
        have h2' := h2
        revert h2'
        refine l_cons h2 fun e2 es' _ _ h2' => ?_
        refine BoolOp_and ((ih.e h1 H hx).bind (fun d v h' tk hK he hv => ?_) hX)
        refine of_optC hK fun b e1 hb => ?_
        refine truthy_ok hv e1 fun tk' => ?_
        cases b with
        | true => exact ih.and (List.cons_ne_nil t2 ts) h2' (H.ev ok he) hb _ _ (hq.go he) (hX.go he)
        | false => exact hq _ _ _ _ hb he hv
  or := by
    intro m es ts pos ρ K X A l env O fp s hne hc H hx Q Ex hq hX
    cases ts with
    | nil => cases hne rfl
    | cons t ts =>
      refine l_cons hc fun e es h1 h2 => ?_
      cases ts with
      | nil => cases l_nil h2; exact BoolOp_one (ih.e h1 H hx _ _ hq hX)
      | cons t2 ts =>
        have h2' := h2
        revert h2'
        refine l_cons h2 fun e2 es' _ _ h2' => ?_
        refine BoolOp_or ((ih.e h1 H hx).bind (fun d v h' tk hK he hv => ?_) hX)
        refine of_optC hK fun b e1 hb => ?_
        refine truthy_ok hv e1 fun tk' => ?_
        cases b with
        | true => exact hq _ _ _ _ hb he hv
        | false => exact ih.or (List.cons_ne_nil t2 ts) h2' (H.ev ok he) hb _ _ (hq.go he) (hX.go he)
  es := by
    intro m es ts ρ K X A l env O fp s Q Ex hc H hx hq hX
    cases ts with
    | nil => cases l_nil hc; exact Calls.spliced_nil (hq [] [] _ s.toks hx rfl Ev.refl .nil)
    | cons t ts =>
      refine l_cons hc fun e es h1 h2 => ?_
      refine Calls.spliced_cons ((ih.e h1 H hx).bind (fun d v h' tk hK he hv => ?_) hX)
      exact ih.es h2 (H.ev ok he) hK (fun ds vs h2 tk2 hK2 hl he2 hv2 => hq _ _ _ _ hK2 (congrArg Nat.succ hl) (he.trans he2) (.cons (hv.ev he2 H.stn.sub) hv2)) (hX.go he)
  as := by
    intro m es ts ρ K X A l env O fp s Q Ex hc H hx hq hX
    cases ts with
    | nil => cases l_nil hc; exact Calls.spliced_nil (hq [] [] _ s.toks hx Ev.refl .nil)
    | cons t ts =>
      refine l_cons hc fun e es h1 h2 => ?_
      refine Calls.spliced_cons (ih.a h1 H hx (fun d v h' tk hK he hv hf => ?_) hX)
      exact ih.as h2 (H.ev ok he) hK (fun ds vs h2 tk2 hK2 he2 hv2 => hq _ _ _ _ hK2 (he.trans he2) (.cons (hv.ev he2 H.stn.sub) hf hv2)) (hX.go he)
  a := by
    intro m e t ρ K X A l env O fp s Q Ex hc H hx hq hX
    have plain : xE Φ W.G n t ρ (fun d => K (.v d)) X → wpAny (model W.prog W.w) A (eval e env) Q Ex s :=
      fun hx => (ih.e hc H hx).bind (fun d v h' tk hK he hv => hq _ _ _ _ hK he hv (fun a ds h _ => by cases h)) hX
    cases t with
    | var x =>
      refine c_var hc fun _ h1 => ?_
      have hd := loc_nd h1
      have hx' : (match ρ.get x with | some (.v d) => K (.v d) | some (.own ds) => K (.brw ds) | some (.brw ds) => K (.brw ds) | _ => False) := hx
      cases hg : ρ.get x with
      | none => rw [hg] at hx'; cases hx'
      | some lv =>
        rw [hg] at hx'
        cases lv with
        | v d =>
          obtain ⟨v, r, lv⟩ := H.rel.get x _ hg
          exact rd_name H.eok r hd (hq _ _ _ s.toks hx' Ev.refl lv fun a ds h _ => by cases h)
        | own ds =>
          obtain ⟨v, r, a, vs, q1, rfl, q3, q4, q5⟩ := H.rel.get x _ hg
          exact rd_name H.eok r hd (hq _ _ _ s.toks hx' Ev.refl ⟨a, vs, rfl, q3, q4.isList, q5⟩ fun a' ds' _ h2 => by cases h2; exact (H.rel.off x a (by rw [q1]; exact .head _)).2)
        | brw ds =>
          obtain ⟨v, r, a, vs, q1, rfl, q3, q4⟩ := H.rel.get x _ hg
          exact rd_name H.eok r hd (hq _ _ _ s.toks hx' Ev.refl ⟨a, vs, rfl, q3, q4⟩ fun a' ds' _ h2 => by cases h2; exact (H.rel.off x a (by rw [q1]; exact .head _)).2)
        | rcv _ => cases hx'
    | _ => exact plain hx
theorem xAll_zero : XOk W Φ k 0 where
  e := fun _ _ hx => by cases hx
  t := fun _ _ hx => by cases hx
  andT := fun _ _ hx => by cases hx
  orT := fun _ _ hx => by cases hx
  and := fun _ _ _ hx => by cases hx
  or := fun _ _ _ hx => by cases hx
  es := fun _ _ hx => by cases hx
  as := fun _ _ hx => by cases hx
  a := fun _ _ hx => by cases hx
theorem xAll (ok : WOk W) (P : PhiOk W Φ k) (hcomp : ∀ n, CompOk W Φ k n) (hdget : ∀ n, DgetOk W Φ k n) : ∀ n, XOk W Φ k n
  | 0 => xAll_zero
  | n + 1 => xAll_step ok P (xAll ok P hcomp hdget n) (hcomp n) (hdget n)
end
end Mine
set_option Elab.async false
set_option maxRecDepth 100000
set_option maxHeartbeats 4000000
namespace Mine
set_option tactic.hygienic false
open PySem PyProof.Rows

/-! ## a running body -/
structure Bd where
  A : Around
  l0 : List Env
  env : Env
  O0 : Addr → Prop
  h0 : Heap
  B0 : Heap
  rid : Option (Value × List Addr)
noncomputable abbrev Bd.l (b : Bd) : List Env := b.env :: b.l0
structure BdOk (W : Wd) (k : Nat) (b : Bd) : Prop where
  eok : EnvOk b.env
  room : Room b.A k
  fr : b.env.frame = some b.env.locals
  frames : b.A.frames = some b.l
  handled : b.A.handled = none
  new : b.h0.get? b.env.locals = none
  low : b.B0.StaysIn b.h0
  hb : W.Hb.StaysIn b.B0
  old : ∀ a, b.O0 a → ∃ o, b.h0.get? a = some o
  fold : ∀ f ∈ fsOf b.l0, ∃ o, b.h0.get? f = some o
  apart : b.env.cells.Pairwise fun x y => x.2 ≠ y.2
  cellNew : ∀ x c, b.env.cells.lookup x = some c → b.h0.get? c = none ∧ c ≠ b.env.locals
  rid : b.rid ≠ none → isGlob b.env.scope ("Receiver" : Str) = false

structure Inv (W : Wd) (b : Bd) (O : Addr → Prop) (fp : Nat → List Addr) (h : Heap) (ρ : Loc) : Prop where
  base : b.B0.StaysIn h
  funs : h.FunFrames b.B0 b.l
  fr0 : ∀ f ∈ fsOf b.l0, ∀ o, b.h0.get? f = some o → ∃ sl, h.get? f = some { o with slots := sl }
  all : ∀ a o, b.h0.get? a = some o → ∃ o', h.get? a = some o'
  sub : ∀ a, b.O0 a → O a
  fsub : ∀ a ∈ fsOf b.l, O a
  fresh : ∀ a, O a → W.Hb.get? a = none ∧ ∃ o, h.get? a = some o
  ns : ∃ m, h.Ns b.env.locals m
  cell : ∀ x c, b.env.cells.lookup x = some c → O c ∧ ∃ v, h.IsCell c v
  rel : Rel W b.env b.l O h fp ρ
  fpc : ∀ y a, a ∈ fp y → ∀ x c, b.env.cells.lookup x = some c → a ≠ c
  own : ∀ x ds, ρ.get x = some (.own ds) → ∀ a ∈ fp x, b.h0.get? a = none ∧ ∀ y, y ≠ x → a ∉ fp y
  rcv : ∀ x r, ρ.get x = some (.rcv r) → ∀ a ∈ fp x, b.B0.get? a = none ∧ ∀ y, y ≠ x → a ∉ fp y
  rid : ∀ v F, b.rid = some (v, F) → ∀ x r, ρ.get x = some (.rcv r) → Rd b.env h (W.nm x) v ∧ fp x = F

section
variable {W : Wd} {k : Nat} {b : Bd} {O : Addr → Prop} {fp : Nat → List Addr} {h h' : Heap} {ρ : Loc}
theorem Inv.stays (bo : BdOk W k b) (I : Inv W b O fp h ρ) : W.Hb.StaysIn h := fun a o e => I.base a o (bo.hb a o e)
theorem Inv.here (bo : BdOk W k b) (I : Inv W b O fp h ρ) : Here W k b.A b.l b.env O fp h ρ where
  eok := bo.eok
  stn := ⟨bo.frames, bo.handled, I.stays bo, PySem.W.funFrames_base bo.hb I.funs, I.fsub, I.fresh⟩
  room := bo.room
  rel := I.rel
theorem BdOk.lmem (bo : BdOk W k b) : b.env.locals ∈ fsOf b.l := List.mem_filterMap.mpr ⟨b.env, List.mem_cons_self, bo.fr⟩
theorem BdOk.mem (bo : BdOk W k b) {a : Addr} : a ∈ fsOf b.l ↔ a = b.env.locals ∨ a ∈ fsOf b.l0 := by
  simp only [fsOf, Bd.l, List.filterMap_cons, bo.fr, List.mem_cons]
theorem Inv.ev (ok : WOk W) (bo : BdOk W k b) (I : Inv W b O fp h ρ) (e : Ev (fsOf b.l) h h') : Inv W b O fp h' ρ where
  base := fun a o q => e.keep a o (fun hm => by rw [(I.funs.mem hm).1] at q; cases q) (I.base a o q)
  funs := I.funs.of_keeps fun a o q _ => let ⟨_, z⟩ := e.some q; ⟨_, z, rfl⟩
  fr0 := fun f hf o q => by
    obtain ⟨sl, z⟩ := I.fr0 f hf o q
    obtain ⟨sl', z'⟩ := e.some z
    exact ⟨sl', z'⟩
  all := fun a o q => let ⟨_, z⟩ := I.all a o q; let ⟨_, z'⟩ := e.some z; ⟨_, z'⟩
  sub := I.sub
  fsub := I.fsub
  fresh := fun a ha => ⟨(I.fresh a ha).1, let ⟨_, z⟩ := (I.fresh a ha).2; let ⟨_, z'⟩ := e.some z; ⟨_, z'⟩⟩
  ns := let ⟨m, z⟩ := I.ns; ⟨m, e.ns z⟩
  cell := fun x c q => ⟨(I.cell x c q).1, let ⟨v, z⟩ := (I.cell x c q).2; ⟨v, e.cell z⟩⟩
  rel := I.rel.ev ok I.fsub e fun a o q => e.keep a o (fun hm => by have := bo.hb a o q; rw [(I.funs.mem hm).1] at this; cases this) (I.stays bo a o q)
  fpc := I.fpc
  own := I.own
  rcv := I.rcv
  rid := fun v F q x r hx => ⟨(I.rid v F q x r hx).1.ev e, (I.rid v F q x r hx).2⟩
end
theorem Ns.det {h : Heap} {a : Addr} {m m' : Str → Option Value} (x : h.Ns a m) (y : h.Ns a m') : m = m' := by
  obtain ⟨o, es, ep, h1, h2, _, h3⟩ := x
  obtain ⟨o', es', ep', g1, g2, _, g3⟩ := y
  rw [h1] at g1; cases g1
  rw [h2] at g2; cases g2
  funext n; rw [← h3, ← g3]
theorem Loc.get_set : ∀ (ρ : Loc) (x y : Nat) (lv : LV), (ρ.set x lv).get y = if y = x then some lv else ρ.get y
  | [], x, y, lv => by
    simp only [Loc.set, Loc.get]
    by_cases hx : y = x
    · subst hx; simp
    · have : Nat.beq x y = false := by
        cases q : Nat.beq x y with
        | false => rfl
        | true => exact absurd (Nat.eq_of_beq_eq_true q).symm hx
      simp [this, hx]
  | (z, l) :: r, x, y, lv => by
    have nb : ∀ {p q : Nat}, p ≠ q → Nat.beq p q = false := fun {p q} hpq => by
      cases e : Nat.beq p q with
      | false => rfl
      | true => exact absurd (Nat.eq_of_beq_eq_true e) hpq
    by_cases hz : z = x
    · subst hz
      simp only [Loc.set, Nat.beq_refl, Loc.get]
      by_cases hy : y = z
      · subst hy; simp
      · simp [nb (Ne.symm hy), hy]
    · simp only [Loc.set, nb hz, Loc.get]
      by_cases hzy : z = y
      · subst hzy; simp [hz]
      · simp only [nb hzy]
        exact Loc.get_set r x y lv

noncomputable def upd (fp : Nat → List Addr) (x : Nat) (F : List Addr) : Nat → List Addr := fun y => if y = x then F else fp y

/-- where a value's own objects lie -/
structure FpOk (b : Bd) (O : Addr → Prop) (fp : Nat → List Addr) (ρ : Loc) (x : Nat) (F : List Addr) (lv : LV) : Prop where
  off : ∀ a ∈ F, O a ∧ a ∉ fsOf b.l
  fpc : ∀ a ∈ F, ∀ x c, b.env.cells.lookup x = some c → a ≠ c
  own : ∀ ds, lv = .own ds → ∀ a ∈ F, b.h0.get? a = none
  rcv : ∀ r, lv = .rcv r → ∀ a ∈ F, b.B0.get? a = none
  apart : ∀ a ∈ F, ∀ y, y ≠ x → a ∉ fp y
  rid : ∀ r, lv = .rcv r → b.rid = none
theorem FpOk.v {b : Bd} {O : Addr → Prop} {fp : Nat → List Addr} {ρ : Loc} {x : Nat} {d : D} : FpOk b O fp ρ x [] (.v d) :=
  ⟨nofun, nofun, nofun, nofun, nofun, nofun⟩

section
variable {W : Wd} {k : Nat} {b : Bd} {O : Addr → Prop} {fp : Nat → List Addr} {h h' : Heap} {ρ : Loc}
/-- a value outlives a change of one object -/
theorem LVOk.chg (ok : WOk W) {F : List Addr} {v : Value} {c : Addr} (hc : O c) (hF : c ∉ F) (k : ∀ a o, a ≠ c → h.get? a = some o → h'.get? a = some o) (st : W.Hb.StaysIn h') {lv : LV} (x : LVOk W O h F v lv) : LVOk W O h' F v lv :=
  x.map ok (fun a o ha e => ⟨ha, k a o (fun q => ha (q ▸ hc)) e⟩) (fun _ q => q) (fun a o q1 ho => ⟨o.slots, k a o (fun q => hF (by rw [q1, ← q]; exact .head _)) ho⟩) (fun _ q => ok.rcvTo (fun a o ha e => k a o (fun q => hF (q ▸ ha)) e) st q)

theorem Inv.setGo (ok : WOk W) (bo : BdOk W k b) (I : Inv W b O fp h ρ) {x : Nat} (hx : x < W.nn) {c : Addr} (hcO : O c) (hcB : b.B0.get? c = none) (hc0 : c ∉ fsOf b.l0)
    (keep : ∀ a o, a ≠ c → h.get? a = some o → h'.get? a = some o) (hc' : ∃ o, h'.get? c = some o ∧ ∀ vs, o.data ≠ .fields vs)
    (ns : ∃ m, h'.Ns b.env.locals m) (cell : ∀ y c', b.env.cells.lookup y = some c' → ∃ v, h'.IsCell c' v)
    {v : Value} (rdx : Rd b.env h' (W.nm x) v) (rdy : ∀ y w, y ≠ x → y < W.nn → Rd b.env h (W.nm y) w → Rd b.env h' (W.nm y) w)
    {F : List Addr} {lv : LV} (hv : LVOk W O h F v lv) (hF : FpOk b O fp ρ x F lv) (hcF : c ∉ F) (hcfp : ∀ y, c ∉ fp y) : Inv W b O (upd fp x F) h' (ρ.set x lv) := by
  have st : W.Hb.StaysIn h' := fun a o q => keep a o (fun e => by have := bo.hb a o q; rw [e, hcB] at this; cases this) (I.stays bo a o q)
  refine { base := ?_, funs := ?_, fr0 := ?_, all := fun a o q => ?_, sub := I.sub, fsub := I.fsub, fresh := ?_, ns := ns, cell := fun y c' q => ⟨(I.cell y c' q).1, cell y c' q⟩, rel := ⟨?_, ?_, ?_⟩, fpc := ?_, own := ?_, rcv := ?_, rid := ?_ }
  · exact fun a o q => keep a o (fun e => by rw [e, hcB] at q; cases q) (I.base a o q)
  · have go : ∀ {l : List Env}, h.FunFrames b.B0 l → h'.FunFrames b.B0 l := by
      intro l
      induction l with
      | nil => intro _; trivial
      | cons e r ih =>
        rintro ⟨hk, ⟨L, o, hf, hn, ho, hd⟩, hr⟩
        refine ⟨hk, ?_, ih hr⟩
        by_cases hL : L = c
        · subst hL; obtain ⟨o', ho', hd'⟩ := hc'; exact ⟨L, o', hf, hn, ho', hd'⟩
        · exact ⟨L, o, hf, hn, keep L o hL ho, hd⟩
    exact go I.funs
  · intro f hf o q
    obtain ⟨sl, z⟩ := I.fr0 f hf o q
    exact ⟨sl, keep f _ (fun e => hc0 (e ▸ hf)) z⟩
  · by_cases hac : a = c
    · subst hac; obtain ⟨o', ho', _⟩ := hc'; exact ⟨o', ho'⟩
    · obtain ⟨o', ho'⟩ := I.all a o q; exact ⟨o', keep a o' hac ho'⟩
  · intro a ha
    refine ⟨(I.fresh a ha).1, ?_⟩
    by_cases hac : a = c
    · subst hac; obtain ⟨o', ho', _⟩ := hc'; exact ⟨o', ho'⟩
    · obtain ⟨o, ho⟩ := (I.fresh a ha).2; exact ⟨o, keep a o hac ho⟩
  · intro y lv' hy
    rw [Loc.get_set] at hy
    by_cases hyx : y = x
    · subst hyx
      simp at hy; subst hy
      refine ⟨v, rdx, ?_⟩
      simp only [upd, if_true]
      exact hv.chg ok hcO hcF keep st
    · rw [if_neg hyx] at hy
      obtain ⟨w, r, z⟩ := I.rel.get y lv' hy
      refine ⟨w, rdy y w hyx (I.rel.bnd y lv' hy) r, ?_⟩
      simp only [upd, if_neg hyx]
      exact z.chg ok hcO (hcfp y) keep st
  · intro y a ha
    by_cases hyx : y = x
    · simp only [upd, if_pos hyx] at ha; exact hF.off a ha
    · simp only [upd, if_neg hyx] at ha; exact I.rel.off y a ha
  · intro y lv' hy
    rw [Loc.get_set] at hy
    by_cases hyx : y = x
    · subst hyx; exact hx
    · rw [if_neg hyx] at hy; exact I.rel.bnd y lv' hy
  · intro y a ha
    by_cases hyx : y = x
    · simp only [upd, if_pos hyx] at ha; exact hF.fpc a ha
    · simp only [upd, if_neg hyx] at ha; exact I.fpc y a ha
  · intro y ds hy a ha
    rw [Loc.get_set] at hy
    by_cases hyx : y = x
    · subst hyx
      simp at hy
      simp only [upd, if_true] at ha
      refine ⟨hF.own ds hy a ha, fun z hz => ?_⟩
      simp only [upd, if_neg hz]; exact hF.apart a ha z hz
    · rw [if_neg hyx] at hy
      simp only [upd, if_neg hyx] at ha
      refine ⟨(I.own y ds hy a ha).1, fun z hz => ?_⟩
      by_cases hzx : z = x
      · subst hzx; simp only [upd, if_true]
        exact fun hm => hF.apart a hm y hyx ha
      · simp only [upd, if_neg hzx]; exact (I.own y ds hy a ha).2 z hz
  · intro y ds hy a ha
    rw [Loc.get_set] at hy
    by_cases hyx : y = x
    · subst hyx
      simp at hy
      simp only [upd, if_true] at ha
      refine ⟨hF.rcv ds hy a ha, fun z hz => ?_⟩
      simp only [upd, if_neg hz]; exact hF.apart a ha z hz
    · rw [if_neg hyx] at hy
      simp only [upd, if_neg hyx] at ha
      refine ⟨(I.rcv y ds hy a ha).1, fun z hz => ?_⟩
      by_cases hzx : z = x
      · subst hzx; simp only [upd, if_true]
        exact fun hm => hF.apart a hm y hyx ha
      · simp only [upd, if_neg hzx]; exact (I.rcv y ds hy a ha).2 z hz
  · intro v' F' q y r hy
    rw [Loc.get_set] at hy
    by_cases hyx : y = x
    · subst hyx
      simp at hy
      rw [hF.rid r hy] at q; cases q
    · rw [if_neg hyx] at hy
      obtain ⟨z1, z2⟩ := I.rid v' F' q y r hy
      exact ⟨rdy y v' hyx (I.rel.bnd y _ hy) z1, by simp only [upd, if_neg hyx]; exact z2⟩
theorem fresh_of {B h : Heap} (k : B.StaysIn h) {a : Addr} (e : h.get? a = none) : B.get? a = none := PySem.W.fresh_of_stays k e
theorem lookup_inj {cs : List (Str × Addr)} (hp : cs.Pairwise fun x y => x.2 ≠ y.2) {n n' : Str} {c : Addr} (x : cs.lookup n = some c) (y : cs.lookup n' = some c) : n = n' :=
  name_of_addr hp (mem_of_lookup x) (mem_of_lookup y)

noncomputable def Kept (b : Bd) (h h' : Heap) : Prop := ∀ a o, a ∉ fsOf b.l → (∀ y c, b.env.cells.lookup y = some c → a ≠ c) → h.get? a = some o → h'.get? a = some o
/-- a name takes a value -/
theorem store_ok (ok : WOk W) (bo : BdOk W k b) {s : Shared} (I : Inv W b O fp s.heap ρ) {x : Nat} (hx : x < W.nn) (hk : isLoc b.env.scope (W.nm x) = true) {v : Value} {F : List Addr} {lv : LV} (hv : LVOk W O s.heap F v lv) (hF : FpOk b O fp ρ x F lv)
    {A : Around} {Q : Unit → Shared → Prop} {Ex : Value → Shared → Prop} (hq : ∀ h' tk, Inv W b O (upd fp x F) h' (ρ.set x lv) → Kept b s.heap h' → Q () { s with heap := h', toks := tk }) :
    wpAny (model W.prog W.w) A (storeName b.env (W.nm x) v) Q Ex s := by
  have hmL := bo.lmem
  have LO : O b.env.locals := I.fsub _ hmL
  have LB : b.B0.get? b.env.locals = none := fresh_of bo.low bo.new
  have L0 : b.env.locals ∉ fsOf b.l0 := fun hm => by
    obtain ⟨o, ho⟩ := bo.fold _ hm
    rw [bo.new] at ho; cases ho
  have Lfp : ∀ y, b.env.locals ∉ fp y := fun y hm => (I.rel.off y _ hm).2 hmL
  have LF : b.env.locals ∉ F := fun hm => (hF.off _ hm).2 hmL
  have hk' : b.env.kindOf (W.nm x) = some .local ∨ b.env.kindOf (W.nm x) = some .cell := by
    simp only [isLoc, Bool.and_eq_true, Bool.or_eq_true, beq_iff_eq] at hk
    exact hk.1
  rcases hk' with hl | hl
  · obtain ⟨m, hm⟩ := I.ns
    refine wpAny_storeName_local hl hm (fun h' hn hs => hq _ _ ?_ (fun a o h1 _ e => (hs.2 a (fun q => h1 (q ▸ hmL))).trans e)) (by rw [bo.eok.kind]; rfl)
    refine I.setGo ok bo hx LO LB L0 (fun a o ha e => (hs.2 a ha).trans e) ?_ ⟨_, hn⟩ (fun y c' q => ?_) (.inl ⟨hl, _, hn, by simp⟩) (fun y w hy hyn r => ?_) hv hF LF Lfp
    · obtain ⟨o, es, ep, ho, hd, _⟩ := hn
      exact ⟨o, ho, fun vs q => by rw [hd] at q; cases q⟩
    · obtain ⟨w, hw⟩ := (I.cell y c' q).2
      exact ⟨w, hw.sameBut hs (bo.cellNew y c' q).2⟩
    · rcases r with ⟨k1, m1, n1, q1⟩ | ⟨k1, c1, q1, n1⟩
      · rw [Ns.det n1 hm] at q1
        exact .inl ⟨k1, _, hn, by rw [if_neg (fun e => hy (ok.nmInj _ _ hyn hx e))]; exact q1⟩
      · exact .inr ⟨k1, c1, q1, n1.sameBut hs (bo.cellNew _ _ q1).2⟩
  · obtain ⟨c, hc⟩ := bo.eok.cells _ hl
    obtain ⟨cO, w0, hw0⟩ := I.cell _ _ hc
    have cn := bo.cellNew _ _ hc
    have c0 : c ∉ fsOf b.l0 := fun hm => by
      obtain ⟨o, ho⟩ := bo.fold _ hm
      rw [cn.1] at ho; cases ho
    refine wpAny_storeName_cell bo.eok.kind hl hc hw0 fun h' hn hs => hq h' s.toks ?_ (fun a o _ h2 e => (hs.2 a (h2 _ _ hc)).trans e)
    refine I.setGo ok bo hx cO (fresh_of bo.low cn.1) c0 (fun a o ha e => (hs.2 a ha).trans e) ?_ ?_ (fun y c' q => ?_) (.inr ⟨hl, c, hc, hn⟩) (fun y w hy hyn r => ?_) hv hF (fun hm => hF.fpc _ hm _ _ hc rfl) (fun y hm => I.fpc y _ hm _ _ hc rfl)
    · obtain ⟨o, ho, hd⟩ := hn
      exact ⟨o, ho, fun vs q => by rw [hd] at q; cases q⟩
    · obtain ⟨m, hm⟩ := I.ns
      exact ⟨m, hm.sameBut hs (Ne.symm cn.2)⟩
    · by_cases hcc : c' = c
      · subst hcc; exact ⟨_, hn⟩
      · obtain ⟨w, hw⟩ := (I.cell y c' q).2
        exact ⟨w, hw.sameBut hs hcc⟩
    · rcases r with ⟨k1, m1, n1, q1⟩ | ⟨k1, c1, q1, n1⟩
      · exact .inl ⟨k1, m1, n1.sameBut hs (Ne.symm cn.2), q1⟩
      · refine .inr ⟨k1, c1, q1, n1.sameBut hs fun e => ?_⟩
        subst e
        exact hy (ok.nmInj _ _ hyn hx (lookup_inj bo.apart q1 hc))
end
end Mine
set_option Elab.async false
set_option genInjectivity false
namespace Mine
set_option tactic.hygienic false
open PySem
/-- a statement, laid flat -/
structure SV where
  tag : Nat
  es : List Expr
  a : Expr
  b : Expr
  o1 : Option Expr
  o2 : Option Expr
  s1 : List Stmt
  s2 : List Stmt
  s3 : List Stmt
  hs : List ExceptHandler
  pos : Pos
  st : Stmt
noncomputable def noE : Expr := .Constant .none 0 ⟨0, 0, 0, 0⟩
noncomputable def sv0 (s : Stmt) : SV := ⟨0, [], noE, noE, none, none, [], [], [], [], ⟨0, 0, 0, 0⟩, s⟩
noncomputable def sv (s : Stmt) : SV := match s with
  | .Return v p => { sv0 s with tag := 1, o1 := v, pos := p }
  | .Delete ts p => { sv0 s with tag := 2, es := ts, pos := p }
  | .Assign ts v p => { sv0 s with tag := 3, es := ts, a := v, pos := p }
  | .For t it b o p => { sv0 s with tag := 4, a := t, b := it, s1 := b, s2 := o, pos := p }
  | .While t b o p => { sv0 s with tag := 5, a := t, s1 := b, s2 := o, pos := p }
  | .If t b o p => { sv0 s with tag := 6, a := t, s1 := b, s2 := o, pos := p }
  | .Raise e c p => { sv0 s with tag := 7, o1 := e, o2 := c, pos := p }
  | .Try b h o f p => { sv0 s with tag := 8, s1 := b, hs := h, s2 := o, s3 := f, pos := p }
  | .Expr v p => { sv0 s with tag := 9, a := v, pos := p }
  | _ => sv0 s
noncomputable def sback (v : SV) : Stmt := match v.tag with
  | 1 => .Return v.o1 v.pos
  | 2 => .Delete v.es v.pos
  | 3 => .Assign v.es v.a v.pos
  | 4 => .For v.a v.b v.s1 v.s2 v.pos
  | 5 => .While v.a v.s1 v.s2 v.pos
  | 6 => .If v.a v.s1 v.s2 v.pos
  | 7 => .Raise v.o1 v.o2 v.pos
  | 8 => .Try v.s1 v.hs v.s2 v.s3 v.pos
  | 9 => .Expr v.a v.pos
  | _ => v.st
theorem sback_sv (s : Stmt) : sback (sv s) = s := by cases s <;> rfl
noncomputable def ST (t : Nat) (s : Stmt) : Bool := Nat.beq (sv s).tag t
theorem sv_of {s : Stmt} {t : Nat} (h : ST t s = true) : s = sback { sv s with tag := t } := by
  rw [← Nat.eq_of_beq_eq_true h]; exact (sback_sv s).symm
theorem v_ret {s : Stmt} (h : ST 1 s = true) : s = .Return (sv s).o1 (sv s).pos := sv_of h
theorem v_del {s : Stmt} (h : ST 2 s = true) : s = .Delete (sv s).es (sv s).pos := sv_of h
theorem v_asg {s : Stmt} (h : ST 3 s = true) : s = .Assign (sv s).es (sv s).a (sv s).pos := sv_of h
theorem v_for {s : Stmt} (h : ST 4 s = true) : s = .For (sv s).a (sv s).b (sv s).s1 (sv s).s2 (sv s).pos := sv_of h
theorem v_whl {s : Stmt} (h : ST 5 s = true) : s = .While (sv s).a (sv s).s1 (sv s).s2 (sv s).pos := sv_of h
theorem v_if {s : Stmt} (h : ST 6 s = true) : s = .If (sv s).a (sv s).s1 (sv s).s2 (sv s).pos := sv_of h
theorem v_rse {s : Stmt} (h : ST 7 s = true) : s = .Raise (sv s).o1 (sv s).o2 (sv s).pos := sv_of h
theorem v_try {s : Stmt} (h : ST 8 s = true) : s = .Try (sv s).s1 (sv s).hs (sv s).s2 (sv s).s3 (sv s).pos := sv_of h
theorem v_exp {s : Stmt} (h : ST 9 s = true) : s = .Expr (sv s).a (sv s).pos := sv_of h

noncomputable def isComp : PySem.Expr → Bool
  | .ListComp .. => true
  | .SetComp .. => true
  | .DictComp .. => true
  | _ => false
noncomputable def isTup (e : Expr) : Bool := T 14 e
noncomputable def tgt1 (N : Nms) (nn : Nat) (sc : Scope) (x : Nat) (e : PySem.Expr) : Bool := T 12 e && (N.nm x == (ev e).s && (isLoc sc (ev e).s && Nat.blt x nn))
noncomputable def tgts (N : Nms) (nn : Nat) (sc : Scope) : List Nat → List PySem.Expr → Bool
  | [], es => es.isEmpty
  | x :: xs, es => match es with
    | [] => false
    | e :: es => tgt1 N nn sc x e && tgts N nn sc xs es
noncomputable def tgtC (N : Nms) (nn : Nat) (sc : Scope) (xs : List Nat) (one : Bool) (t : PySem.Expr) : Bool :=
  match one with
  | true => Nat.beq xs.length 1 && tgt1 N nn sc (xs.headD 0) t
  | false => T 14 t && tgts N nn sc xs (ev t).es
noncomputable def swOf (sc : Scope) (ts vs : List PySem.Expr) : Option (Option (List Str)) :=
  if !(ts.length == 2 || ts.length == 3) || vs.length != ts.length || sc.kind != .function then some none
  else if vs.any fun | .Starred .. => true | _ => false then some none
  else if (ts.filterMap fun
    | .Name id pos => if sc.names.lookup id == some .local && pos.line == (ts.head?.map (·.pos.line)).getD 0 then some id else none
    | _ => none).length != ts.length || (ts.filterMap fun
    | .Name id pos => if sc.names.lookup id == some .local && pos.line == (ts.head?.map (·.pos.line)).getD 0 then some id else none
    | _ => none).eraseDups.length != (ts.filterMap fun
    | .Name id pos => if sc.names.lookup id == some .local && pos.line == (ts.head?.map (·.pos.line)).getD 0 then some id else none
    | _ => none).length then some none
  else if vs.all (foldedForSure 8) then some none
  else if vs.all (constantsAlone 8) then none
  else some (some (ts.filterMap fun
    | .Name id pos => if sc.names.lookup id == some .local && pos.line == (ts.head?.map (·.pos.line)).getD 0 then some id else none
    | _ => none))
noncomputable def isRecv (sc : Scope) (e : PySem.Expr) : Bool := callN 0 e && (cName e == ("Receiver" : Str) && isGlob sc ("Receiver" : Str))
@[elab_as_elim] theorem isRecv_of {P : Expr → Prop} {sc : Scope} {e : Expr} (h : isRecv sc e = true) (k : ∀ np p, isGlob sc ("Receiver" : Str) = true → P (.Call (.Name "Receiver" np) [] [] p)) : P e := by
  obtain ⟨b1, b⟩ := an h
  obtain ⟨q1, q2⟩ := callN_of b1
  rw [no_of q2, eq_of_beq (an b).1] at q1
  exact el q1 (k _ _ (an b).2)
/-- a comprehension that is handed straight to a local name -/
noncomputable def swapOk (sc : Scope) (t : Str) (tl : Nat) : PySem.Expr → Bool
  | .ListComp _ _ s p => sc.names.lookup t == some .local && tl == p.line && !(s.names.any fun (n, k) => n == t && (k == .local || k == .cell))
  | _ => false
variable (N : Nms) (nn : Nat)
noncomputable def isCompE : E → Bool
  | .comp .. => true
  | _ => false
noncomputable def isNewE : E → Bool
  | .newRecv => true
  | _ => false
noncomputable def chkOwn (m : Nat) (sc : Scope) (t : E) (e : PySem.Expr) : Bool := match t with
  | .lst ts => T 13 e && (fits ts.length && chkL N m sc (ev e).es ts)
  | _ => false
noncomputable def chkLV (m : Nat) (sc : Scope) (o : Bool) (t : E) (e : PySem.Expr) : Bool :=
  match o with
  | true => chkOwn N m sc t e
  | false => match isNewE t with
    | true => isRecv sc e
    | false => chkE N m sc e t
noncomputable def chkLVs (m : Nat) (sc : Scope) : List (Bool × E) → List PySem.Expr → Bool
  | [], es => es.isEmpty
  | t :: ts, es => match es with
    | [] => false
    | e :: es => chkLV N m sc t.1 t.2 e && chkLVs m sc ts es
noncomputable def nodupN : List Nat → Bool
  | [] => true
  | x :: r => !(r.contains x) && nodupN r
noncomputable def swB (sc : Scope) (xs : List Nat) (es vs : List Expr) : Bool := match swOf sc es vs with
  | none => false
  | some none => true
  | some (some ns) => ns == xs.map N.nm
noncomputable def frzOf : S → Option Nat
  | .frz x => some x
  | _ => none
noncomputable def ssx (c : Stmt → S → Bool) : List Stmt → List S → Bool
  | sts, [] => sts.isEmpty
  | sts, s :: r => match frzOf s with
    | some x => Nat.blt x nn && ssx c sts r
    | none => match sts with
      | [] => false
      | st :: sts => c st s && ssx c sts r
/-- the handler's constant -/
noncomputable def hdlE (e : E) (c : Expr) : Bool := match e with
  | .str k => C 4 c && (N.st k == (ck c).s && Nat.blt k 32)
  | .byt l => C 5 c && (l == (ck c).l.map UInt8.toNat && fits l.length)
  | _ => false
/-- «r.handle(arg) != right» -/
noncomputable def hcE (m : Nat) (sc : Scope) (r : Nat) (arg right : E) (e : Expr) : Bool :=
  T 7 e && (Nat.beq (ev e).cops.length 1 && (Nat.beq (ev e).es.length 1 && ((ev e).cops.headD .Eq == .NotEq && (meth1 (ev e).a && (T 12 (ev (ev (ev e).a).a).a && (N.nm r == cName (ev (ev e).a).a && (isLoc sc (cName (ev (ev e).a).a) && (cName (ev e).a == ("handle" : Str) && ((ev (ev (ev e).a).a).pos.endLine == (ev (ev e).a).pos.line && (chkE N m sc (cArg (ev e).a) arg && chkE N m sc ((ev e).es.headD (ev e).a) right))))))))))
/-- «self._held[x]» -/
noncomputable def heldE (sc : Scope) (self x : Nat) (e : Expr) : Bool :=
  T 11 e && (T 10 (ev e).a && (T 12 (ev (ev e).a).a && (N.nm self == cName (ev e).a && (isLoc sc (cName (ev e).a) && (Nat.blt self nn && ((ev (ev e).a).s == ("_held" : Str) && (T 12 (ev e).b && (N.nm x == (ev (ev e).b).s && isLoc sc (ev (ev e).b).s))))))))
noncomputable def asgB (m : Nat) (sc : Scope) (x : Nat) (t : E) (h : Expr) (v : Expr) : Bool := tgt1 N nn sc x h && (match isCompE t with
          | true => chkE N m sc v t && swapOk sc (ev h).s (ev h).pos.line v
          | false => !isComp v && chkLV N m sc false t v)
noncomputable def isCallE : E → Bool
  | .call _ _ => true
  | _ => false
noncomputable def bodOne (s : S) : Bool := match s with
  | .asg _ e => isCallE e
  | _ => false
noncomputable def hTy : ExceptHandler → Option Expr
  | .ExceptHandler t _ _ _ => t
noncomputable def hNm : ExceptHandler → Option Str
  | .ExceptHandler _ n _ _ => n
noncomputable def hBd : ExceptHandler → List Stmt
  | .ExceptHandler _ _ b _ => b
noncomputable def hPos : ExceptHandler → Pos
  | .ExceptHandler _ _ _ p => p
theorem h_of (h : ExceptHandler) : h = .ExceptHandler (hTy h) (hNm h) (hBd h) (hPos h) := by cases h; rfl
noncomputable def h0 (v : SV) : ExceptHandler := v.hs.headD (.ExceptHandler none none [] v.pos)
noncomputable def tyE (v : SV) : Expr := (hTy (h0 v)).getD noE
noncomputable def hSt (v : SV) : Stmt := (hBd (h0 v)).headD v.st
noncomputable def clS (c : Stmt → S → Bool) (m : Nat) (sc : Scope) (s : S) : Nat × (SV → Bool) := match s with
    | .asg x t => (3, fun v => Nat.beq v.es.length 1 && asgB N nn m sc x t (v.es.headD v.a) v.a)
    | .own x t => (3, fun v => Nat.beq v.es.length 1 && (tgt1 N nn sc x (v.es.headD v.a) && (!isComp v.a && chkLV N m sc true t v.a)))
    | .asgs xs ts => (3, fun v => Nat.beq v.es.length 1 && (T 14 (v.es.headD v.a) && (T 14 v.a && (tgts N nn sc xs (ev (v.es.headD v.a)).es && (nodupN xs && (fits ts.length && (Nat.beq xs.length ts.length && (chkLVs N m sc ts (ev v.a).es && swB N sc xs (ev (v.es.headD v.a)).es (ev v.a).es))))))))
    | .asgT xs t => (3, fun v => Nat.beq v.es.length 1 && (T 14 (v.es.headD v.a) && (tgts N nn sc xs (ev (v.es.headD v.a)).es && (!isTup v.a && (!isComp v.a && chkE N m sc v.a t)))))
    | .app x t => (9, fun v => meth1 v.a && (T 12 (ev (ev v.a).a).a && (N.nm x == cName (ev v.a).a && (isLoc sc (cName (ev v.a).a) && (Nat.blt x nn && (cName v.a == ("append" : Str) && ((ev (ev v.a).a).pos.endLine == (ev v.a).pos.line && chkE N m sc (cArg v.a) t)))))))
    | .frz _ => (1, fun _ => false)
    | .expr t => (9, fun v => !isComp v.a && chkE N m sc v.a t)
    | .ret t => (1, fun v => match v.o1 with
      | none => false
      | some e => chkE N m sc e t)
    | .ifs d a b => (6, fun v => chkE N m sc v.a d && (ssx nn c v.s1 a && ssx nn c v.s2 b))
    | .whl d b => (5, fun v => Nat.beq v.s2.length 0 && (chkE N m sc v.a d && ssx nn c v.s1 b))
    | .for xs one it b => (4, fun v => Nat.beq v.s2.length 0 && (tgtC N nn sc xs one v.a && (chkE N m sc v.b it && ssx nn c v.s1 b)))
    | .raise => (7, fun v => match v.o1 with
      | none => false
      | some e => v.o2.isNone && (callN 1 e && (C 4 (cArg e) && (cName e == ("ValueError" : Str) && isGlob sc ("ValueError" : Str)))))
    | .try b x e => (8, fun v => Nat.beq v.s1.length 1 && (Nat.beq v.hs.length 1 && (Nat.beq b.length 1 && ((hTy (h0 v)).isSome && ((hNm (h0 v)).isNone && (Nat.beq (hBd (h0 v)).length 1 && (Nat.beq v.s2.length 0 && (Nat.beq v.s3.length 0 && (bodOne (b.headD .raise) && (c (v.s1.headD v.st) (b.headD .raise) && (T 12 (tyE v) && ((ev (tyE v)).s == ("ValueError" : Str) && (isGlob sc ("ValueError" : Str) && (ST 3 (hSt v) && (Nat.beq (sv (hSt v)).es.length 1 && (tgt1 N nn sc x ((sv (hSt v)).es.headD (sv (hSt v)).a) && hdlE N e (sv (hSt v)).a))))))))))))))))
    | .ifh r arg right more b => (6, fun v => Nat.beq v.s2.length 0 && (Nat.blt r nn && (ssx nn c v.s1 b && (match more with
      | none => hcE N m sc r arg right v.a
      | some d => T 1 v.a && ((ev v.a).lop == .Or && (Nat.beq (ev v.a).es.length 2 && (hcE N m sc r arg right ((ev v.a).es.headD v.a) && chkE N m sc ((ev v.a).es.tail.headD v.a) d)))))))
    | .hset self x => (3, fun v => Nat.beq v.es.length 1 && (heldE N nn sc self x (v.es.headD v.a) && (C 2 v.a && (ck v.a).b)))
    | .hdel self x => (2, fun v => Nat.beq v.es.length 1 && heldE N nn sc self x (v.es.headD noE))
noncomputable def chkS : Nat → Scope → PySem.Stmt → S → Bool
  | 0, _, _, _ => false
  | m + 1, sc, st, s => Nat.beq (sv st).tag (clS N nn (chkS m sc) m sc s).1 && (clS N nn (chkS m sc) m sc s).2 (sv st)
noncomputable def chkSs (m : Nat) (sc : Scope) (sts : List Stmt) (ss : List S) : Bool := ssx nn (chkS N nn m sc) sts ss
section
variable {N} {nn} {m : Nat} {sc : Scope} {st : Stmt}
theorem cs_of {t : S} (h : chkS N nn m sc st t = true) : ∃ n, ST (clS N nn (chkS N nn n sc) n sc t).1 st = true ∧ (clS N nn (chkS N nn n sc) n sc t).2 (sv st) = true := by
  cases m with
  | zero => cases h
  | succ n => exact ⟨n, an h⟩
theorem asg1 {X : Bool} (h1 : ST 3 st = true) (h : (Nat.beq (sv st).es.length 1 && X) = true) : st = .Assign [(sv st).es.headD (sv st).a] (sv st).a (sv st).pos ∧ X = true := by
  refine ⟨?_, (an h).2⟩
  rw [← one_of (sv st).a (an h).1]; exact v_asg h1
theorem tgt1_nm {x : Nat} {e : Expr} (h : tgt1 N nn sc x e = true) : e = .Name (N.nm x) (ev e).pos := nm_of (an h).1 (an (an h).2).1
variable {P : Stmt → Prop}
@[elab_as_elim] theorem cs_asg {x : Nat} {t : E} (h : chkS N nn m sc st (.asg x t) = true) (k : ∀ n p v pos, tgt1 N nn sc x (.Name (N.nm x) p) = true → (isCompE t = false → isComp v = false ∧ chkLV N n sc false t v = true) → (isCompE t = true → chkE N n sc v t = true ∧ swapOk sc (N.nm x) p.line v = true) → P (.Assign [.Name (N.nm x) p] v pos)) : P st := by
  obtain ⟨n, h1, h2⟩ := cs_of h
  obtain ⟨a, b⟩ := asg1 h1 h2
  obtain ⟨b1, b⟩ := an b
  have q := tgt1_nm b1
  rw [q] at a b1 b
  refine el a (k n _ _ _ b1 (fun z => ?_) fun z => ?_)
  · rw [z] at b; exact ⟨not_t (an b).1, (an b).2⟩
  · rw [z] at b; exact an b
@[elab_as_elim] theorem cs_own {x : Nat} {t : E} (h : chkS N nn m sc st (.own x t) = true) (k : ∀ n p v pos, tgt1 N nn sc x (.Name (N.nm x) p) = true → isComp v = false → chkLV N n sc true t v = true → P (.Assign [.Name (N.nm x) p] v pos)) : P st := by
  obtain ⟨n, h1, h2⟩ := cs_of h
  obtain ⟨a, b⟩ := asg1 h1 h2
  obtain ⟨b1, b⟩ := an b
  have q := tgt1_nm b1
  rw [q] at a b1
  exact el a (k n _ _ _ b1 (not_t (an b).1) (an b).2)
@[elab_as_elim] theorem cs_asgs {xs : List Nat} {ts : List (Bool × E)} (h : chkS N nn m sc st (.asgs xs ts) = true) (k : ∀ n es k1 p1 vs k2 p2 pos, tgts N nn sc xs es = true → nodupN xs = true → fits ts.length = true → xs.length = ts.length → chkLVs N n sc ts vs = true → swB N sc xs es vs = true → P (.Assign [.Tuple es k1 p1] (.Tuple vs k2 p2) pos)) : P st := by
  obtain ⟨n, h1, h2⟩ := cs_of h
  obtain ⟨a, b⟩ := asg1 h1 h2
  obtain ⟨b1, b⟩ := an b; obtain ⟨b2, b⟩ := an b; obtain ⟨b3, b⟩ := an b; obtain ⟨b4, b⟩ := an b; obtain ⟨b5, b⟩ := an b; obtain ⟨b6, b⟩ := an b
  rw [w_tup b1] at a
  refine el a ?_
  generalize (sv st).es.headD (sv st).a = t at b3 b ⊢
  rw [w_tup b2]
  exact k n _ _ _ _ _ _ _ b3 b4 b5 (Nat.eq_of_beq_eq_true b6) (an b).1 (an b).2
@[elab_as_elim] theorem cs_asgT {xs : List Nat} {t : E} (h : chkS N nn m sc st (.asgT xs t) = true) (k : ∀ n es k1 p1 v pos, tgts N nn sc xs es = true → isTup v = false → isComp v = false → chkE N n sc v t = true → P (.Assign [.Tuple es k1 p1] v pos)) : P st := by
  obtain ⟨n, h1, h2⟩ := cs_of h
  obtain ⟨a, b⟩ := asg1 h1 h2
  obtain ⟨b1, b⟩ := an b; obtain ⟨b2, b⟩ := an b; obtain ⟨b3, b⟩ := an b
  rw [w_tup b1] at a
  exact el a (k n _ _ _ _ _ b2 (not_t b3) (not_t (an b).1) (an b).2)
@[elab_as_elim] theorem cs_app {x : Nat} {t : E} (h : chkS N nn m sc st (.app x t) = true) (k : ∀ n np ap v p pos, isLoc sc (N.nm x) = true → ap.endLine = p.line → chkE N n sc v t = true → P (.Expr (.Call (.Attribute (.Name (N.nm x) np) "append" ap) [v] [] p) pos)) : P st := by
  obtain ⟨n, h1, h2⟩ := cs_of h
  obtain ⟨b1, b⟩ := an h2; obtain ⟨b2, b⟩ := an b; obtain ⟨b3, b⟩ := an b; obtain ⟨b4, b⟩ := an b; obtain ⟨b5, b⟩ := an b; obtain ⟨b6, b⟩ := an b
  have q1 := meth1_of b1
  have q2 : (ev (ev (sv st).a).a).a = .Name (N.nm x) _ := nm_of b2 b3
  rw [q2, eq_of_beq b6] at q1
  rw [← eq_of_beq b3] at b4
  refine el (v_exp h1) ?_
  rw [q1]
  exact k n _ _ _ _ _ b4 (eq_of_beq (an b).1) (an b).2
@[elab_as_elim] theorem cs_expr {t : E} (h : chkS N nn m sc st (.expr t) = true) (k : ∀ n v p, isComp v = false → chkE N n sc v t = true → P (.Expr v p)) : P st := by
  obtain ⟨n, h1, h2⟩ := cs_of h
  exact el (v_exp h1) (k n _ _ (not_t (an h2).1) (an h2).2)
@[elab_as_elim] theorem cs_ret {t : E} (h : chkS N nn m sc st (.ret t) = true) (k : ∀ n v p, chkE N n sc v t = true → P (.Return (some v) p)) : P st := by
  obtain ⟨n, h1, h2⟩ := cs_of h
  replace h2 : (match (sv st).o1 with | none => false | some e => chkE N n sc e t) = true := h2
  refine el (v_ret h1) ?_
  cases q : (sv st).o1 with
  | none => rw [q] at h2; cases h2
  | some v => rw [q] at h2; exact k n v _ h2
@[elab_as_elim] theorem cs_ifs {c : E} {a b : List S} (h : chkS N nn m sc st (.ifs c a b) = true) (k : ∀ n c' a' b' p, chkE N n sc c' c = true → chkSs N nn n sc a' a = true → chkSs N nn n sc b' b = true → P (.If c' a' b' p)) : P st := by
  obtain ⟨n, h1, h2⟩ := cs_of h
  exact el (v_if h1) (k n _ _ _ _ (an h2).1 (an (an h2).2).1 (an (an h2).2).2)
@[elab_as_elim] theorem cs_whl {c : E} {b : List S} (h : chkS N nn m sc st (.whl c b) = true) (k : ∀ n c' b' p, chkE N n sc c' c = true → chkSs N nn n sc b' b = true → P (.While c' b' [] p)) : P st := by
  obtain ⟨n, h1, h2⟩ := cs_of h
  refine el (v_whl h1) ?_
  rw [no_of (an h2).1]
  exact k n _ _ _ (an (an h2).2).1 (an (an h2).2).2
@[elab_as_elim] theorem cs_for {xs : List Nat} {one : Bool} {it : E} {b : List S} (h : chkS N nn m sc st (.for xs one it b) = true) (k : ∀ n t' it' b' p, tgtC N nn sc xs one t' = true → chkE N n sc it' it = true → chkSs N nn n sc b' b = true → P (.For t' it' b' [] p)) : P st := by
  obtain ⟨n, h1, h2⟩ := cs_of h
  obtain ⟨b1, b⟩ := an h2
  refine el (v_for h1) ?_
  rw [no_of b1]
  exact k n _ _ _ _ (an b).1 (an (an b).2).1 (an (an b).2).2
@[elab_as_elim] theorem cs_raise (h : chkS N nn m sc st .raise = true) (k : ∀ np s q kp p pos, isGlob sc ("ValueError" : Str) = true → P (.Raise (some (.Call (.Name "ValueError" np) [.Constant (.str s) q kp] [] p)) none pos)) : P st := by
  obtain ⟨n, h1, h2⟩ := cs_of h
  replace h2 : (match (sv st).o1 with | none => false | some e => (sv st).o2.isNone && (callN 1 e && (C 4 (cArg e) && (cName e == ("ValueError" : Str) && isGlob sc ("ValueError" : Str))))) = true := h2
  refine el (v_rse h1) ?_
  cases q : (sv st).o1 with
  | none => rw [q] at h2; cases h2
  | some e =>
    rw [q] at h2
    obtain ⟨b1, b⟩ := an h2; obtain ⟨b2, b⟩ := an b; obtain ⟨b3, b⟩ := an b
    have q1 := call1_of b2
    rw [eq_of_beq (an b).1, k_str b3] at q1
    rw [nil_of b1, q1]
    exact k _ _ _ _ _ _ (an b).2
@[elab_as_elim] theorem hdlE_of {P : E → Expr → Prop} {e : E} {c : Expr} (h : hdlE N e c = true) (k1 : ∀ j a p, j < 32 → P (.str j) (.Constant (.str (N.st j)) a p)) (k2 : ∀ b a p, fits (b.map UInt8.toNat).length = true → P (.byt (b.map UInt8.toNat)) (.Constant (.bytes b) a p)) : P e c := by
  cases e with
  | str j =>
    obtain ⟨b1, b⟩ := an h
    refine el (k_str b1) ?_
    rw [← eq_of_beq (an b).1]; exact k1 j _ _ (Nat.le_of_ble_eq_true (an b).2)
  | byt l =>
    obtain ⟨b1, b⟩ := an h
    have z := eq_of_beq (an b).1
    subst z
    exact el (k_byt b1) (k2 _ _ _ (an b).2)
  | _ => exact (Bool.false_ne_true h).elim
@[elab_as_elim] theorem bodOne_of {P : S → Prop} {b : S} (h : bodOne b = true) (k : ∀ y f args, P (.asg y (.call f args))) : P b := by
  cases b with
  | asg y e =>
    cases e with
    | call f args => exact k _ _ _
    | _ => exact (Bool.false_ne_true h).elim
  | _ => exact (Bool.false_ne_true h).elim
theorem some_of {α : Type} {o : Option α} (d : α) (h : o.isSome = true) : o = some (o.getD d) := by
  cases o with
  | none => cases h
  | some _ => rfl
@[elab_as_elim] theorem cs_try {P : Stmt → List S → Prop} {b : List S} {x : Nat} {e : E} (h : chkS N nn m sc st (.try b x e) = true) (k : ∀ n y f args p1 v p2 np p3 c p4 hp pos, tgt1 N nn sc y (.Name (N.nm y) p1) = true → isComp v = false → chkE N n sc v (.call f args) = true → isGlob sc ("ValueError" : Str) = true → tgt1 N nn sc x (.Name (N.nm x) p3) = true → hdlE N e c = true →
    P (.Try [.Assign [.Name (N.nm y) p1] v p2] [.ExceptHandler (some (.Name "ValueError" np)) none [.Assign [.Name (N.nm x) p3] c p4] hp] [] [] pos) [.asg y (.call f args)]) : P st b := by
  obtain ⟨n, h1, h2⟩ := cs_of h
  obtain ⟨d1, d⟩ := an h2; obtain ⟨d2, d⟩ := an d; obtain ⟨d3, d⟩ := an d; obtain ⟨d4, d⟩ := an d; obtain ⟨d5, d⟩ := an d; obtain ⟨d6, c⟩ := an d
  obtain ⟨c1, c⟩ := an c; obtain ⟨c2, c⟩ := an c; obtain ⟨c3, c⟩ := an c; obtain ⟨c4, c⟩ := an c; obtain ⟨c5, c⟩ := an c; obtain ⟨c6, c⟩ := an c; obtain ⟨c7, c⟩ := an c; obtain ⟨c8, c⟩ := an c; obtain ⟨c9, c⟩ := an c; obtain ⟨c10, c11⟩ := an c
  have w1 := tgt1_nm c10
  have w2 := v_asg c8
  rw [one_of (sv (hSt (sv st))).a c9, w1] at w2
  rw [w1] at c10
  have w3 := w_name c5
  rw [eq_of_beq c6] at w3
  have w4 := h_of (h0 (sv st))
  rw [some_of noE d4, nil_of d5, one_of (sv st).st d6] at w4
  have w5 : h0 (sv st) = .ExceptHandler (some (tyE (sv st))) none [hSt (sv st)] (hPos (h0 (sv st))) := w4
  rw [w3, w2] at w5
  have w6 : (sv st).hs = [h0 (sv st)] := one_of _ d2
  rw [one_of S.raise d3]
  generalize b.headD .raise = b0 at c3 c4
  refine el (P := fun z => P z [b0]) (v_try h1) ?_
  rw [one_of (sv st).st d1, w6, no_of c1, no_of c2, w5]
  generalize hT : Stmt.Try _ _ _ _ _ = tr
  refine bodOne_of (P := fun b0 => chkS N nn n sc ((sv st).s1.headD (sv st).st) b0 = true → P tr [b0]) c3 (fun y f args c4 => ?_) c4
  subst hT
  generalize (sv st).s1.headD (sv st).st = s0 at c4 ⊢
  exact cs_asg (P := fun s0 => P (.Try [s0] _ _ _ _) _) c4 fun n' p v pos g1 g2 _ => k n' y f args p v pos _ _ _ _ _ _ g1 (g2 rfl).1 (g2 rfl).2 c7 c10 c11
@[elab_as_elim] theorem hcE_of {P : Expr → Prop} {r : Nat} {arg right : E} {e : Expr} (h : hcE N m sc r arg right e = true) (k : ∀ np ap arg' p right' cp, isLoc sc (N.nm r) = true → ap.endLine = p.line → chkE N m sc arg' arg = true → chkE N m sc right' right = true → P (.Compare (.Call (.Attribute (.Name (N.nm r) np) "handle" ap) [arg'] [] p) [.NotEq] [right'] cp)) : P e := by
  obtain ⟨h1, h2⟩ := an h
  obtain ⟨a, b⟩ := cmp_of (op := .NotEq) h1 h2 fun x => (an x).1
  obtain ⟨_, b⟩ := an b; obtain ⟨b1, b⟩ := an b; obtain ⟨b2, b⟩ := an b; obtain ⟨b3, b⟩ := an b; obtain ⟨b4, b⟩ := an b; obtain ⟨b5, b⟩ := an b; obtain ⟨b6, b⟩ := an b
  have q1 := meth1_of b1
  have q2 : (ev (ev (ev e).a).a).a = .Name (N.nm r) _ := nm_of b2 b3
  rw [q2, eq_of_beq b5] at q1
  rw [← eq_of_beq b3] at b4
  refine el a ?_
  generalize (ev e).es.headD (ev e).a = rt at *
  rw [q1]
  exact k _ _ _ _ _ _ b4 (eq_of_beq b6) (an b).1 (an b).2
@[elab_as_elim] theorem cs_ifh {r : Nat} {arg right : E} {more : Option E} {b : List S} (h : chkS N nn m sc st (.ifh r arg right more b) = true) (k : ∀ n t b' p, chkSs N nn n sc b' b = true →
    ((more = none ∧ hcE N n sc r arg right t = true) ∨ ∃ c t1 t2 bp, more = some c ∧ t = .BoolOp .Or [t1, t2] bp ∧ hcE N n sc r arg right t1 = true ∧ chkE N n sc t2 c = true) → P (.If t b' [] p)) : P st := by
  obtain ⟨n, h1, h2⟩ := cs_of h
  obtain ⟨b1, b⟩ := an h2; obtain ⟨b2, b⟩ := an b; obtain ⟨b3, b⟩ := an b
  refine el (v_if h1) ?_
  rw [no_of b1]
  refine k n _ _ _ b3 ?_
  cases more with
  | none => exact .inl ⟨rfl, b⟩
  | some c =>
    obtain ⟨c1, d⟩ := an b; obtain ⟨c2, d⟩ := an d; obtain ⟨c3, d⟩ := an d
    refine .inr ⟨c, _, _, (ev (sv st).a).pos, rfl, ?_, an d⟩
    rw [← two_of (sv st).a c3, ← eq_of_beq c2]; exact w_bool c1
@[elab_as_elim] theorem heldE_of {P : Expr → Prop} {self x : Nat} {e : Expr} (h : heldE N nn sc self x e = true) (k : ∀ np ap ip p, isLoc sc (N.nm self) = true → isLoc sc (N.nm x) = true → P (.Subscript (.Attribute (.Name (N.nm self) np) "_held" ap) (.Name (N.nm x) ip) p)) : P e := by
  obtain ⟨b1, b⟩ := an h; obtain ⟨b2, b⟩ := an b; obtain ⟨b3, b⟩ := an b; obtain ⟨b4, b⟩ := an b; obtain ⟨b5, b⟩ := an b; obtain ⟨b6, b⟩ := an b; obtain ⟨b7, b⟩ := an b; obtain ⟨b8, b⟩ := an b
  have q1 := at_of b2 b3
  rw [← eq_of_beq b4, eq_of_beq b7] at q1
  rw [← eq_of_beq b4] at b5
  have q2 := nm_of b8 (an b).1
  refine el (w_sub b1) ?_
  rw [q1, q2]
  exact k _ _ _ _ b5 (by rw [eq_of_beq (an b).1]; exact (an b).2)
@[elab_as_elim] theorem cs_hset {self x : Nat} (h : chkS N nn m sc st (.hset self x) = true) (k : ∀ np ap ip p q kp pos, isLoc sc (N.nm self) = true → isLoc sc (N.nm x) = true → P (.Assign [.Subscript (.Attribute (.Name (N.nm self) np) "_held" ap) (.Name (N.nm x) ip) p] (.Constant (.bool true) q kp) pos)) : P st := by
  obtain ⟨n, h1, h2⟩ := cs_of h
  obtain ⟨a, b⟩ := asg1 h1 h2
  obtain ⟨b1, b2⟩ := an b
  refine el a ?_
  generalize (sv st).es.headD (sv st).a = t at b1 ⊢
  have q2 := k_bool (an b2).1
  rw [(an b2).2] at q2
  rw [q2]
  exact heldE_of b1 (P := fun t => P (.Assign [t] _ _)) fun np ap ip p l1 l2 => k _ _ _ _ _ _ _ l1 l2
@[elab_as_elim] theorem cs_hdel {self x : Nat} (h : chkS N nn m sc st (.hdel self x) = true) (k : ∀ np ap ip p pos, isLoc sc (N.nm self) = true → isLoc sc (N.nm x) = true → P (.Delete [.Subscript (.Attribute (.Name (N.nm self) np) "_held" ap) (.Name (N.nm x) ip) p] pos)) : P st := by
  obtain ⟨n, h1, h2⟩ := cs_of h
  obtain ⟨b1, b⟩ := an h2
  refine el (v_del h1) ?_
  rw [one_of noE b1]
  exact heldE_of b (P := fun t => P (.Delete [t] _)) fun np ap ip p l1 l2 => k _ _ _ _ _ l1 l2
theorem cs_nil {sts : List Stmt} (h : chkSs N nn m sc sts [] = true) : sts = [] := by
  cases sts with
  | nil => rfl
  | cons _ _ => cases h
theorem cs_frz {sts : List Stmt} {x : Nat} {r : List S} (h : chkSs N nn m sc sts (.frz x :: r) = true) : chkSs N nn m sc sts r = true := (an h).2
@[elab_as_elim] theorem cs_one {P : List Stmt → Prop} {sts : List Stmt} {s : S} {r : List S} (hs : frzOf s = none) (h : chkSs N nn m sc sts (s :: r) = true) (k : ∀ st sts', chkS N nn m sc st s = true → chkSs N nn m sc sts' r = true → P (st :: sts')) : P sts := by
  replace h : (match (generalizing := false) frzOf s with | some x => Nat.blt x nn && ssx nn (chkS N nn m sc) sts r | none => match (generalizing := false) sts with | [] => false | st :: sts => chkS N nn m sc st s && ssx nn (chkS N nn m sc) sts r) = true := h
  rw [hs] at h
  cases sts with
  | nil => cases h
  | cons st sts => exact k st sts (an h).1 (an h).2
@[elab_as_elim] theorem lv_own {P : E → Expr → Prop} {t : E} {e : Expr} (h : chkLV N m sc true t e = true) (k : ∀ ts es' p, fits ts.length = true → chkL N m sc es' ts = true → P (.lst ts) (.List es' p)) : P t e := by
  cases t with
  | lst ts =>
    obtain ⟨b1, b⟩ := an h
    exact el (w_list b1) (k _ _ _ (an b).1 (an b).2)
  | _ => exact (Bool.false_ne_true h).elim
end
end Mine
set_option Elab.async false
set_option maxRecDepth 100000
namespace Mine
set_option tactic.hygienic false
open PySem
/-- the contracts of the defs below a number: what their bodies do -/
noncomputable def PhiUp (G : Nat → D) (H : HSpec) (N : Nat) (par : Nat → List Nat) (bod : Nat → List S) : Nat → Phi
  | 0 => fun _ _ _ _ => False
  | i + 1 => fun f args K X => match Nat.beq f i with
    | true => xF (PhiUp G H N par bod i) G H N (par i) (bod i) args K X
    | false => PhiUp G H N par bod i f args K X
theorem phi_lt {G : Nat → D} {H : HSpec} {N : Nat} {par : Nat → List Nat} {bod : Nat → List S} : ∀ {i f : Nat}, f < i → PhiUp G H N par bod i f = xF (PhiUp G H N par bod f) G H N (par f) (bod f)
  | 0, _, h => absurd h (Nat.not_lt_zero _)
  | i + 1, f, h => by
    funext args K X
    simp only [PhiUp]
    split
    · rename_i e; cases Nat.eq_of_beq_eq_true e; rfl
    · rename_i e
      have : f ≠ i := fun q => by subst q; rw [Nat.beq_refl] at e; cases e
      rw [phi_lt (by (first | lia | omega))]
noncomputable def Φ0 : Phi := fun _ _ _ _ => False
noncomputable def H0 : HSpec := fun _ _ _ => False
noncomputable def hk (selfN : Nat) (CC : D → List Int → Prop) (ev : D) (σ : Loc) : Prop := match σ.get selfN with
  | some (.rcv held') => CC ev held'
  | _ => False
/-- what the method does: its body -/
noncomputable def HS (G : Nat → D) (N selfN pkN : Nat) (body : List S) : HSpec := fun d held CC =>
  xSs Φ0 G H0 N body ([selfN, pkN].zip [.rcv held, .v d]) (fun σ => hk selfN CC .none σ) (fun ev σ => hk selfN CC ev σ) (fun _ => False)
end Mine
set_option Elab.async false
set_option maxRecDepth 100000
set_option maxHeartbeats 4000000
namespace Mine
set_option tactic.hygienic false
open PySem PyProof.Rows

/-! ## what a statement may leave behind -/
noncomputable def Fr0 (b : Bd) (h : Heap) : Prop := ∀ f ∈ fsOf b.l0, ∀ o, b.h0.get? f = some o → ∃ sl, h.get? f = some { o with slots := sl }
noncomputable def ExcSt (b : Bd) (er : Value) (h : Heap) : Prop :=
  (∃ a a0, er = .ref a ∧ Heap.FlyingW b.B0 b.l a (.type "ValueError") a0 h ∧ Fr0 b h) ∨
  (∃ a h1 args, er = .ref a ∧ b.B0.StaysIn h1 ∧ h1.FunFrames b.B0 b.l ∧ Fr0 b h1 ∧ Heap.MadeExcOf h1 h a (.type "ValueError") args)
structure Kp (b : Bd) (O : Addr → Prop) (fp : Nat → List Addr) (h : Heap) (O' : Addr → Prop) (fp' : Nat → List Addr) (h' : Heap) : Prop where
  own : ∀ a, O a → a ∉ fsOf b.l → (∀ y, a ∉ fp y) → (∀ x c, b.env.cells.lookup x = some c → a ≠ c) → O' a ∧ (∀ y, a ∉ fp' y) ∧ ∀ o, h.get? a = some o → h'.get? a = some o
  den : ∀ c o, ¬ O c → h.get? c = some o → ¬ O' c ∧ h'.get? c = some o
section
variable {W : Wd} {k : Nat} {b : Bd} {O O₁ O' : Addr → Prop} {fp fp₁ fp' : Nat → List Addr} {h h₁ h' : Heap} {ρ : Loc}
theorem Kp.refl : Kp b O fp h O fp h := ⟨fun _ ha _ hf _ => ⟨ha, hf, fun _ e => e⟩, fun _ _ h1 h2 => ⟨h1, h2⟩⟩
theorem Kp.trans (x : Kp b O fp h O₁ fp₁ h₁) (y : Kp b O₁ fp₁ h₁ O' fp' h') : Kp b O fp h O' fp' h' := ⟨fun a h1 h2 h3 h4 =>
  let ⟨q1, q2, q3⟩ := x.own a h1 h2 h3 h4
  let ⟨r1, r2, r3⟩ := y.own a q1 h2 q2 h4
  ⟨r1, r2, fun o e => r3 o (q3 o e)⟩, fun c o h1 h2 => let ⟨q1, q2⟩ := x.den c o h1 h2; y.den c o q1 q2⟩
theorem Kp.ev (e : Ev (fsOf b.l) h h') (hs : ∀ a ∈ fsOf b.l, O a) : Kp b O fp h O fp h' := ⟨fun a ha hf hp _ => ⟨ha, hp, fun o q => e.keep a o hf q⟩, fun c o h1 h2 => ⟨h1, e.keep c o (fun hm => h1 (hs c hm)) h2⟩⟩

noncomputable abbrev NK (W : Wd) (b : Bd) (O : Addr → Prop) (fp : Nat → List Addr) (s : Shared) (K : Loc → Prop) (Q : Flow → Shared → Prop) : Prop :=
  ∀ σ O' fp' h' tk, K σ → Inv W b O' fp' h' σ → Kp b O fp s.heap O' fp' h' → Q .next { s with heap := h', toks := tk }
noncomputable abbrev RK (W : Wd) (b : Bd) (s : Shared) (R : D → Loc → Prop) (Q : Flow → Shared → Prop) : Prop :=
  ∀ d v σ O' fp' h' tk, R d σ → Inv W b O' fp' h' σ → Den W.st O' h' v d → Q (.ret v) { s with heap := h', toks := tk }
noncomputable abbrev EK (b : Bd) (s : Shared) (X : Loc → Prop) (Ex : Value → Shared → Prop) : Prop :=
  ∀ er σ h' tk, X σ → ExcSt b er h' → Ex er { s with heap := h', toks := tk }
noncomputable def Does (W : Wd) (b : Bd) (O : Addr → Prop) (fp : Nat → List Addr) (t : Sem Flow) (K : Loc → Prop) (R : D → Loc → Prop) (X : Loc → Prop) (s : Shared) : Prop :=
  ∀ Q Ex, NK W b O fp s K Q → RK W b s R Q → EK b s X Ex → PassesOwn (model W.prog W.w) b.A b.env Ex → wpAny (model W.prog W.w) b.A t Q Ex s
theorem NK.go {s : Shared} {K : Loc → Prop} {Q : Flow → Shared → Prop} (x : NK W b O fp s K Q) {tk : Nat} (y : Kp b O fp s.heap O₁ fp₁ h₁) : NK W b O₁ fp₁ { s with heap := h₁, toks := tk } K Q :=
  fun σ O' fp' h' tk' hK I z => x σ O' fp' h' tk' hK I (y.trans z)
theorem EK.xk (bo : BdOk W k b) {s : Shared} {X : Loc → Prop} {Ex : Value → Shared → Prop} (x : EK b s X Ex) (I : Inv W b O fp s.heap ρ) : XK W b.l s (X ρ) Ex := by
  intro er h' tk hX hf
  obtain ⟨a, B, a0, q1, q2, q3, q4, q5⟩ := hf
  refine x er ρ h' tk hX (.inl ⟨a, a0, q1, PySem.W.flyingW_base (fun c o e => ?_) q2, fun f hf o q => ?_⟩)
  · exact q3 c o (fun hm => by rw [(I.funs.mem hm).1] at e; cases e) (I.base c o e)
  · obtain ⟨sl, z⟩ := I.fr0 f hf o q
    obtain ⟨sl', z'⟩ := q4.some z
    exact ⟨sl', z'⟩

/-! ## new objects, own lists -/
theorem LVOk.grow (ok : WOk W) {F : List Addr} {v : Value} {a : Addr} (kp : ∀ c o, h.get? c = some o → h'.get? c = some o) (n : h.get? a = none) (st : W.Hb.StaysIn h') {lv : LV} (x : LVOk W O h F v lv) : LVOk W (fun c => O c ∨ c = a) h' F v lv :=
  x.map ok (fun c o hc e => ⟨fun q => q.elim hc (fun q => by subst q; rw [n] at e; cases e), kp c o e⟩) (fun _ q => .inl q) (fun c o _ ho => ⟨o.slots, kp c o ho⟩) (fun _ q => ok.rcvTo (fun c o _ e => kp c o e) st q)
theorem Inv.grow (ok : WOk W) (bo : BdOk W k b) (I : Inv W b O fp h ρ) {a : Addr} {o : Obj} (kp : ∀ c o, h.get? c = some o → h'.get? c = some o) (n : h.get? a = none) (ha : h'.get? a = some o) : Inv W b (fun c => O c ∨ c = a) fp h' ρ where
  base := fun c o q => kp c o (I.base c o q)
  funs := I.funs.of_keeps fun c o q _ => ⟨o, kp c o q, rfl⟩
  fr0 := fun f hf o q => let ⟨sl, z⟩ := I.fr0 f hf o q; ⟨sl, kp _ _ z⟩
  all := fun c o q => let ⟨o', z⟩ := I.all c o q; ⟨o', kp c o' z⟩
  sub := fun c hc => .inl (I.sub c hc)
  fsub := fun c hc => .inl (I.fsub c hc)
  fresh := fun c hc => by
    rcases hc with hc | rfl
    · exact ⟨(I.fresh c hc).1, let ⟨o, z⟩ := (I.fresh c hc).2; ⟨o, kp c o z⟩⟩
    · exact ⟨fresh_of (I.stays bo) n, _, ha⟩
  ns := let ⟨m, z⟩ := I.ns; ⟨m, z.keeps kp⟩
  cell := fun x c q => ⟨.inl (I.cell x c q).1, let ⟨v, z⟩ := (I.cell x c q).2; ⟨v, z.keeps kp⟩⟩
  rel := ⟨fun x lv q => let ⟨v, r, z⟩ := I.rel.get x lv q; ⟨v, r.ev (fs := []) (Ev.of kp), z.grow ok kp n fun c o q => kp c o (I.stays bo c o q)⟩, fun x c q => ⟨.inl (I.rel.off x c q).1, (I.rel.off x c q).2⟩, I.rel.bnd⟩
  fpc := I.fpc
  own := I.own
  rcv := I.rcv
  rid := fun v F q x r hx => ⟨(I.rid v F q x r hx).1.ev (fs := []) (Ev.of kp), (I.rid v F q x r hx).2⟩
theorem Kp.grow {a : Addr} (kp : ∀ c o, h.get? c = some o → h'.get? c = some o) (n : h.get? a = none) : Kp b O fp h (fun c => O c ∨ c = a) fp h' :=
  ⟨fun c hc _ hf _ => ⟨.inl hc, hf, fun o e => kp c o e⟩, fun c o q e => ⟨fun z => z.elim q (fun z => by subst z; rw [n] at e; cases e), kp c o e⟩⟩
theorem Kept.den (I : Inv W b O fp h ρ) (kp : Kept b h h') : ∀ c o, ¬ O c → h.get? c = some o → ¬ O c ∧ h'.get? c = some o :=
  fun c o hc e => ⟨hc, kp c o (fun hm => hc (I.fsub c hm)) (fun y c' q e => hc (e ▸ (I.cell y c' q).1)) e⟩
theorem Kp.store (I : Inv W b O₁ fp h₁ ρ) {x : Nat} {F : List Addr} (y : Kp b O fp h O₁ fp h₁) (kp : Kept b h₁ h') (hF : ∀ a ∈ F, ¬ O a) : Kp b O fp h O₁ (upd fp x F) h' := ⟨fun a ha hf hp hcl => by
  obtain ⟨q1, q2, q3⟩ := y.own a ha hf hp hcl
  refine ⟨q1, fun z => ?_, fun o e => kp a o hf hcl (q3 o e)⟩
  by_cases hz : z = x
  · simp only [upd, if_pos hz]; exact fun hm => hF a hm ha
  · simp only [upd, if_neg hz]; exact hp z, fun c o h1 h2 => let ⟨q1, q2⟩ := y.den c o h1 h2; kp.den I c o q1 q2⟩
/-- names that hold the same hold the same -/
theorem Inv.congr {σ : Loc} (e : ∀ y, ρ.get y = σ.get y) (I : Inv W b O fp h ρ) : Inv W b O fp h σ where
  base := I.base
  funs := I.funs
  fr0 := I.fr0
  all := I.all
  sub := I.sub
  fsub := I.fsub
  fresh := I.fresh
  ns := I.ns
  cell := I.cell
  rel := ⟨fun x lv q => I.rel.get x lv (by rw [e]; exact q), I.rel.off, fun x lv q => I.rel.bnd x lv (by rw [e]; exact q)⟩
  fpc := I.fpc
  own := fun x ds q => I.own x ds (by rw [e]; exact q)
  rcv := fun x ds q => I.rcv x ds (by rw [e]; exact q)
  rid := fun v F q x r hx => I.rid v F q x r (by rw [e]; exact hx)
/-- an own list is handed over: it changes no more -/
theorem Inv.frz (bo : BdOk W k b) (I : Inv W b O fp h ρ) {x : Nat} {ds : List D} (hx : ρ.get x = some (.own ds)) : ∃ O' fp', Inv W b O' fp' h (ρ.set x (.v (.list ds))) ∧ Kp b O fp h O' fp' h := by
  obtain ⟨v, r, a, vs, q1, rfl, q3, q4, q5, q6⟩ := I.rel.get x _ hx
  have hax : a ∈ fp x := by rw [q1]; simp
  obtain ⟨h0a, hother⟩ := I.own x ds hx a hax
  have hl : ∀ c, O c → c ≠ a → (fun c => O c ∧ c ≠ a) c := fun c p q => ⟨p, q⟩
  have den : ∀ {v : Value} {d : D}, Den W.st O h v d → Den W.st (fun c => O c ∧ c ≠ a) h v d := fun x => x.to fun c o hc e => ⟨fun q => hc q.1, e⟩
  have dens : ∀ {v : List Value} {d : List D}, Dens W.st O h v d → Dens W.st (fun c => O c ∧ c ≠ a) h v d := fun x => x.to fun c o hc e => ⟨fun q => hc q.1, e⟩
  refine ⟨fun c => O c ∧ c ≠ a, upd fp x [], ?_, ?_⟩
  · refine { base := I.base, funs := I.funs, fr0 := I.fr0, all := I.all, sub := fun c hc => ⟨I.sub c hc, ?_⟩, fsub := fun c hc => ⟨I.fsub c hc, ?_⟩, fresh := fun c hc => I.fresh c hc.1, ns := I.ns, cell := fun y c q => ⟨⟨(I.cell y c q).1, fun e => I.fpc x a hax y c q e.symm⟩, (I.cell y c q).2⟩, rel := ⟨?_, ?_, ?_⟩, fpc := ?_, own := ?_, rcv := ?_, rid := ?_ }
    · rintro rfl; obtain ⟨o, z⟩ := bo.old _ hc; rw [h0a] at z; cases z
    · rintro rfl; exact (I.rel.off x _ hax).2 hc
    · intro y lv hy
      rw [Loc.get_set] at hy
      by_cases hyx : y = x
      · subst hyx
        simp at hy; subst hy
        exact ⟨_, r, .list (fun q => q.2 rfl) q4.isList (dens q5) q6⟩
      · rw [if_neg hyx] at hy
        obtain ⟨w, r', z⟩ := I.rel.get y lv hy
        refine ⟨w, r', ?_⟩
        have hay : a ∉ fp y := hother y hyx
        simp only [upd, if_neg hyx]
        cases lv with
        | v d => exact den z
        | own es => obtain ⟨c, us, p1, p2, p3, p4, p5, p6⟩ := z; exact ⟨c, us, p1, p2, ⟨p3, fun e => hay (by rw [p1, e]; simp)⟩, p4, dens p5, p6⟩
        | brw es => obtain ⟨c, us, p1, p2, p3, p4, p5, p6⟩ := z; exact ⟨c, us, p1, p2, ⟨p3, fun e => hay (by rw [p1, e]; simp)⟩, p4, dens p5, p6⟩
        | rcv es => exact z
    · intro y c hc
      by_cases hyx : y = x
      · simp only [upd, if_pos hyx] at hc; cases hc
      · simp only [upd, if_neg hyx] at hc
        exact ⟨⟨(I.rel.off y c hc).1, fun e => hother y hyx (e ▸ hc)⟩, (I.rel.off y c hc).2⟩
    · intro y lv hy
      rw [Loc.get_set] at hy
      by_cases hyx : y = x
      · subst hyx; exact I.rel.bnd _ _ hx
      · rw [if_neg hyx] at hy; exact I.rel.bnd _ _ hy
    · intro y c hc
      by_cases hyx : y = x
      · simp only [upd, if_pos hyx] at hc; cases hc
      · simp only [upd, if_neg hyx] at hc; exact I.fpc y c hc
    · intro y es hy c hc
      rw [Loc.get_set] at hy
      by_cases hyx : y = x
      · subst hyx; simp at hy
      · rw [if_neg hyx] at hy
        simp only [upd, if_neg hyx] at hc
        refine ⟨(I.own y es hy c hc).1, fun z hz => ?_⟩
        by_cases hzx : z = x
        · simp [upd, hzx]
        · simp only [upd, if_neg hzx]; exact (I.own y es hy c hc).2 z hz
    · intro y es hy c hc
      rw [Loc.get_set] at hy
      by_cases hyx : y = x
      · subst hyx; simp at hy
      · rw [if_neg hyx] at hy
        simp only [upd, if_neg hyx] at hc
        refine ⟨(I.rcv y es hy c hc).1, fun z hz => ?_⟩
        by_cases hzx : z = x
        · simp [upd, hzx]
        · simp only [upd, if_neg hzx]; exact (I.rcv y es hy c hc).2 z hz
    · intro v' F' q y r hy
      rw [Loc.get_set] at hy
      by_cases hyx : y = x
      · subst hyx; simp at hy
      · rw [if_neg hyx] at hy
        obtain ⟨z1, z2⟩ := I.rid v' F' q y r hy
        exact ⟨z1, by simp only [upd, if_neg hyx]; exact z2⟩
  · refine ⟨fun c hc _ hp _ => ⟨⟨hc, fun e => hp x (e ▸ hax)⟩, fun y => ?_, fun _ e => e⟩, fun c o h1 h2 => ⟨fun q => h1 q.1, h2⟩⟩
    by_cases hyx : y = x
    · simp [upd, hyx]
    · simp only [upd, if_neg hyx]; exact hp y

/-- one more item on an own list -/
theorem Inv.app (ok : WOk W) (bo : BdOk W k b) (I : Inv W b O fp h ρ) {x : Nat} {ds : List D} {a : Addr} {vs : List Value} (hx : ρ.get x = some (.own ds)) (hfp : fp x = [a]) (hrd : Rd b.env h (W.nm x) (.ref a)) (hOa : O a) (hvs : Dens W.st O h vs ds)
    {v : Value} {d : D} (hv : Den W.st O h v d) (hz : fits (ds.length + 1) = true) (hs : Heap.SameBut a h h') (hn : IsOwn h' a (vs ++ [v])) : Inv W b O fp h' (ρ.set x (.own (ds ++ [d]))) ∧ Kp b O fp h O fp h' := by
  have hax : a ∈ fp x := by rw [hfp]; simp
  have aL : a ∉ fsOf b.l := (I.rel.off x a hax).2
  have h0a := (I.own x ds hx a hax).1
  have aB : b.B0.get? a = none := fresh_of bo.low h0a
  have keep : ∀ c o, c ≠ a → h.get? c = some o → h'.get? c = some o := fun c o hc e => (hs.2 c hc).trans e
  have st : W.Hb.StaysIn h' := fun c o q => keep c o (fun e => by have := bo.hb c o q; rw [e, aB] at this; cases this) (I.stays bo c o q)
  have rdk : ∀ y w, Rd b.env h (W.nm y) w → Rd b.env h' (W.nm y) w := by
    intro y w r
    rcases r with ⟨k1, m, n1, q⟩ | ⟨k1, c, q, n1⟩
    · exact .inl ⟨k1, m, n1.sameBut hs (fun e => aL (e ▸ bo.lmem)), q⟩
    · exact .inr ⟨k1, c, q, n1.sameBut hs (fun e => I.fpc x a hax _ _ q e.symm)⟩
  refine ⟨{ base := ?_, funs := ?_, fr0 := ?_, all := fun c o q => ?_, sub := I.sub, fsub := I.fsub, fresh := ?_, ns := ?_, cell := ?_, rel := ⟨?_, I.rel.off, ?_⟩, fpc := I.fpc, own := ?_, rcv := ?_, rid := ?_ }, ?_⟩
  · exact fun c o q => keep c o (fun e => by rw [e, aB] at q; cases q) (I.base c o q)
  · have go : ∀ {l : List Env}, (∀ c ∈ fsOf l, c ≠ a) → h.FunFrames b.B0 l → h'.FunFrames b.B0 l := by
      intro l
      induction l with
      | nil => intro _ _; trivial
      | cons e r ih =>
        rintro hne ⟨hk, ⟨L, o, hf, hn, ho, hd⟩, hr⟩
        refine ⟨hk, ⟨L, o, hf, hn, keep L o (hne L (List.mem_filterMap.mpr ⟨e, List.mem_cons_self, hf⟩)) ho, hd⟩, ih (fun c hc => hne c ?_) hr⟩
        obtain ⟨e', he', hf'⟩ := List.mem_filterMap.mp hc
        exact List.mem_filterMap.mpr ⟨e', List.mem_cons_of_mem _ he', hf'⟩
    exact go (fun c hc e => aL (e ▸ hc)) I.funs
  · intro f hf o q
    obtain ⟨sl, z⟩ := I.fr0 f hf o q
    exact ⟨sl, keep f _ (fun e => aL (bo.mem.mpr (.inr (e ▸ hf)))) z⟩
  · by_cases hca : c = a
    · subst hca; obtain ⟨o, n, ho, _⟩ := hn; exact ⟨o, ho⟩
    · obtain ⟨o', ho⟩ := I.all c o q; exact ⟨o', keep c o' hca ho⟩
  · intro c hc
    refine ⟨(I.fresh c hc).1, ?_⟩
    by_cases hca : c = a
    · subst hca; obtain ⟨o, n, ho, _⟩ := hn; exact ⟨o, ho⟩
    · obtain ⟨o, ho⟩ := (I.fresh c hc).2; exact ⟨o, keep c o hca ho⟩
  · obtain ⟨m, z⟩ := I.ns
    exact ⟨m, z.sameBut hs (fun e => aL (e ▸ bo.lmem))⟩
  · intro y c q
    obtain ⟨w, z⟩ := (I.cell y c q).2
    exact ⟨(I.cell y c q).1, w, z.sameBut hs (fun e => I.fpc x a hax y c q e.symm)⟩
  · intro y lv hy
    rw [Loc.get_set] at hy
    by_cases hyx : y = x
    · subst hyx
      simp at hy; subst hy
      refine ⟨_, rdk _ _ hrd, a, vs ++ [v], hfp, rfl, hOa, hn, ?_, by rw [List.length_append]; exact hz⟩
      have t : ∀ c o, ¬ O c → h.get? c = some o → ¬ O c ∧ h'.get? c = some o := fun c o hc e => ⟨hc, keep c o (fun q => hc (q ▸ hOa)) e⟩
      exact (hvs.to t).append (.cons (hv.to t) .nil)
    · rw [if_neg hyx] at hy
      obtain ⟨w, r, z⟩ := I.rel.get y lv hy
      exact ⟨w, rdk _ _ r, z.chg ok hOa ((I.own x ds hx a hax).2 y hyx) keep st⟩
  · intro y lv hy
    rw [Loc.get_set] at hy
    by_cases hyx : y = x
    · subst hyx; exact I.rel.bnd _ _ hx
    · rw [if_neg hyx] at hy; exact I.rel.bnd _ _ hy
  · intro y es hy c hc
    rw [Loc.get_set] at hy
    by_cases hyx : y = x
    · subst hyx; exact I.own _ _ hx c hc
    · rw [if_neg hyx] at hy; exact I.own _ _ hy c hc
  · intro y es hy c hc
    rw [Loc.get_set] at hy
    by_cases hyx : y = x
    · subst hyx; simp at hy
    · rw [if_neg hyx] at hy; exact I.rcv _ _ hy c hc
  · intro v' F' q y r hy
    rw [Loc.get_set] at hy
    by_cases hyx : y = x
    · subst hyx; simp at hy
    · rw [if_neg hyx] at hy
      obtain ⟨z1, z2⟩ := I.rid v' F' q y r hy
      exact ⟨rdk _ _ z1, z2⟩
  · exact ⟨fun c hc _ hp _ => ⟨hc, hp, fun o e => keep c o (fun q => hp x (q ▸ hax)) e⟩, fun c o h1 h2 => ⟨h1, keep c o (fun q => h1 (q ▸ hOa)) h2⟩⟩
end
end Mine
set_option Elab.async false
set_option maxRecDepth 100000
set_option maxHeartbeats 4000000
namespace Mine
set_option tactic.hygienic false
open PySem PyProof.Rows
/-- the heap goes on, more addresses may be own -/
structure Gr (O : Addr → Prop) (h : Heap) (O' : Addr → Prop) (h' : Heap) : Prop where
  sub : ∀ a, O a → O' a
  up : ∀ c o, h.get? c = some o → ∃ sl, h'.get? c = some { o with slots := sl }
  keep : ∀ c o, ¬ O c → h.get? c = some o → ¬ O' c ∧ h'.get? c = some o
section
variable {W : Wd} {k : Nat} {b : Bd} {O O₁ O' : Addr → Prop} {fp : Nat → List Addr} {h h₁ h' : Heap} {ρ : Loc}
theorem Gr.refl : Gr O h O h := ⟨fun _ e => e, fun _ o e => ⟨o.slots, e⟩, fun _ _ q e => ⟨q, e⟩⟩
theorem Gr.trans (x : Gr O h O₁ h₁) (y : Gr O₁ h₁ O' h') : Gr O h O' h' :=
  ⟨fun a e => y.sub a (x.sub a e), fun c o e => let ⟨_, z⟩ := x.up c o e; let ⟨_, z'⟩ := y.up c _ z; ⟨_, z'⟩, fun c o q e => let ⟨p1, p2⟩ := x.keep c o q e; y.keep c o p1 p2⟩
theorem Gr.ev {l : List Env} (e : Ev (fsOf l) h h') (hs : ∀ a ∈ fsOf l, O a) : Gr O h O h' := ⟨fun _ q => q, fun _ _ q => e.some q, fun c o q z => ⟨q, e.keep c o (fun hm => q (hs c hm)) z⟩⟩
theorem Gr.grow {a : Addr} (kp : ∀ c o, h.get? c = some o → h'.get? c = some o) (n : h.get? a = none) : Gr O h (fun c => O c ∨ c = a) h' :=
  ⟨fun _ q => .inl q, fun c o e => ⟨o.slots, kp c o e⟩, fun c o q e => ⟨fun z => z.elim q (fun z => by subst z; rw [n] at e; cases e), kp c o e⟩⟩
theorem LVOk.gr (ok : WOk W) {F : List Addr} {v : Value} (g : Gr O h O' h') (hF : ∀ a o, a ∈ F → h.get? a = some o → h'.get? a = some o) (st : W.Hb.StaysIn h') {lv : LV} (x : LVOk W O h F v lv) : LVOk W O' h' F v lv :=
  x.map ok g.keep g.sub (fun c o _ ho => g.up c o ho) (fun _ q => ok.rcvTo (fun c o hc e => hF c o hc e) st q)
theorem LVOk.kept (ok : WOk W) (I : Inv W b O fp h ρ) (kp : Kept b h h') {F : List Addr} {v : Value} (hF : ∀ a ∈ F, a ∉ fsOf b.l ∧ ∀ x c, b.env.cells.lookup x = some c → a ≠ c) (st : W.Hb.StaysIn h') {lv : LV} (x : LVOk W O h F v lv) : LVOk W O h' F v lv :=
  x.map ok (fun c o hc e => ⟨hc, kp c o (fun hm => hc (I.fsub c hm)) (fun y c' q e => hc (e ▸ (I.cell y c' q).1)) e⟩) (fun _ q => q)
    (fun c o q1 ho => ⟨o.slots, kp c o (hF c (by rw [q1]; exact .head _)).1 (hF c (by rw [q1]; exact .head _)).2 ho⟩) (fun _ q => ok.rcvTo (fun c o hc e => kp c o (hF c hc).1 (hF c hc).2 e) st q)
theorem Inv.gr (ok : WOk W) (bo : BdOk W k b) (I : Inv W b O fp h ρ) (e : Ev (fsOf b.l) h h') : Inv W b O fp h' ρ ∧ Gr O h O h' ∧ Kp b O fp h O fp h' := ⟨I.ev ok bo e, Gr.ev e I.fsub, Kp.ev e I.fsub⟩

/-- new objects of a value -/
noncomputable def New (h : Heap) (O' : Addr → Prop) (F : List Addr) : Prop := ∀ a ∈ F, O' a ∧ h.get? a = none
theorem New.off (bo : BdOk W k b) (I : Inv W b O fp h ρ) {F : List Addr} (n : New h O' F) : ∀ a ∈ F, a ∉ fsOf b.l ∧ (∀ x c, b.env.cells.lookup x = some c → a ≠ c) ∧ b.h0.get? a = none ∧ b.B0.get? a = none ∧ (∀ y, a ∉ fp y) ∧ ¬ O a := by
  intro a ha
  have na := (n a ha).2
  have ex : ∀ c, (∃ o, h.get? c = some o) → a ≠ c := fun c ⟨o, ho⟩ q => by rw [← q, na] at ho; cases ho
  have h0 : b.h0.get? a = none := by
    cases q : b.h0.get? a with
    | none => rfl
    | some o => exact absurd rfl (ex a (I.all a o q))
  exact ⟨fun hm => ex a (I.fresh a (I.fsub a hm)).2 rfl, fun x c q => ex c (I.fresh c (I.cell x c q).1).2, h0, fresh_of bo.low h0, fun y hm => ex a (I.fresh a (I.rel.off y a hm).1).2 rfl, fun hO => ex a (I.fresh a hO).2 rfl⟩

/-! ## several stores -/
inductive Vals (W : Wd) (b : Bd) (O : Addr → Prop) (fp : Nat → List Addr) (h : Heap) : List Value → List (List Addr) → List LV → Prop
  | nil : Vals W b O fp h [] [] []
  | cons {v : Value} {vs : List Value} {F : List Addr} {Fs : List (List Addr)} {lv : LV} {lvs : List LV} : LVOk W O h F v lv → (∀ a ∈ F, O a ∧ a ∉ fsOf b.l ∧ (∀ x c, b.env.cells.lookup x = some c → a ≠ c) ∧ b.h0.get? a = none ∧ b.B0.get? a = none ∧ (∀ y, a ∉ fp y) ∧ ∀ G ∈ Fs, a ∉ G) → (∀ r, lv = .rcv r → b.rid = none) → Vals W b O fp h vs Fs lvs → Vals W b O fp h (v :: vs) (F :: Fs) (lv :: lvs)
theorem Vals.to {fp' : Nat → List Addr} (kl : ∀ {F : List Addr} {v : Value} {lv : LV}, (∀ a ∈ F, a ∉ fsOf b.l ∧ ∀ x c, b.env.cells.lookup x = some c → a ≠ c) → LVOk W O h F v lv → LVOk W O' h' F v lv) (hO : ∀ a, O a → O' a) {vs : List Value} {Fs : List (List Addr)} {lvs : List LV} (hfp : ∀ G ∈ Fs, ∀ a ∈ G, (∀ y, a ∉ fp y) → ∀ y, a ∉ fp' y) (x : Vals W b O fp h vs Fs lvs) : Vals W b O' fp' h' vs Fs lvs := by
  induction x with
  | nil => exact .nil
  | @cons v vs F Fs lv lvs a c rr _ ih =>
    refine .cons (kl (fun z hz => ⟨(c z hz).2.1, (c z hz).2.2.1⟩) a) (fun z hz => ?_) rr (ih fun G hG => hfp G (List.mem_cons_of_mem _ hG))
    obtain ⟨p1, p2, p3, p4, p5, p6, p7⟩ := c z hz
    exact ⟨hO z p1, p2, p3, p4, p5, hfp F List.mem_cons_self z hz p6, p7⟩
theorem Vals.len {vs : List Value} {Fs : List (List Addr)} {lvs : List LV} (x : Vals W b O fp h vs Fs lvs) : vs.length = lvs.length := by
  induction x with
  | nil => rfl
  | cons _ _ _ _ ih => simp [ih]
theorem stores_ok (ok : WOk W) (bo : BdOk W k b) {A : Around} {Ex : Value → Shared → Prop} : ∀ {xs : List Nat} {vs : List Value} {Fs : List (List Addr)} {lvs : List LV} {fp : Nat → List Addr} {ρ : Loc} {s : Shared} {ts : List (Value → Sem Unit)} {Q : Unit → Shared → Prop},
    (∀ x ∈ xs, x < W.nn ∧ isLoc b.env.scope (W.nm x) = true) → ts.length = xs.length → vs.length = xs.length →
    (∀ (i : Nat) (t : Value → Sem Unit) (x : Nat) (v : Value), ts[i]? = some t → xs[i]? = some x → vs[i]? = some v → ∀ {s : Shared} {Q : Unit → Shared → Prop}, wpAny (model W.prog W.w) A (storeName b.env (W.nm x) v) Q Ex s → wpAny (model W.prog W.w) A (t v) Q Ex s) →
    Inv W b O fp s.heap ρ → Vals W b O fp s.heap vs Fs lvs →
    (∀ h' fp' tk, Inv W b O fp' h' ((xs.zip lvs).foldl (fun ρ p => ρ.set p.1 p.2) ρ) → Kept b s.heap h' → (∀ a, (∀ y, a ∉ fp y) → (∀ G ∈ Fs, a ∉ G) → ∀ y, a ∉ fp' y) → Q () { s with heap := h', toks := tk }) →
    wpAny (model W.prog W.w) A (assignInOrder ts vs) Q Ex s := by
  intro xs
  induction xs with
  | nil =>
    intro vs Fs lvs fp ρ s ts Q _ ht hv _ I V hq
    cases ts with
    | nil => exact wpAny_pure (hq s.heap fp s.toks I (fun _ _ _ _ e => e) fun _ h1 _ => h1)
    | cons _ _ => simp at ht
  | cons x xs ih =>
    intro vs Fs lvs fp ρ s ts Q hx ht hv hst I V hq
    cases V with
    | nil => simp at hv
    | @cons v vs F Fs lv lvs a c rr V =>
      cases ts with
      | nil => simp at ht
      | cons t ts =>
        have e0 : assignInOrder (t :: ts) (v :: vs) = (do holding vs (t v); assignInOrder ts vs) := rfl
        rw [e0]
        refine wpAny_bind (wpAny_holding (hst 0 t x v rfl rfl rfl ?_))
        obtain ⟨hx1, hx2⟩ := hx x List.mem_cons_self
        refine store_ok ok bo I hx1 hx2 a ⟨fun z hz => ⟨(c z hz).1, (c z hz).2.1⟩, fun z hz => (c z hz).2.2.1, fun _ _ z hz => (c z hz).2.2.2.1, fun _ _ z hz => (c z hz).2.2.2.2.1, fun z hz y _ => (c z hz).2.2.2.2.2.1 y, rr⟩ fun h₁ tk₁ I₁ kp₁ => ?_
        have V₁ : Vals W b O (upd fp x F) h₁ vs Fs lvs := V.to (fun hF z => z.kept ok I kp₁ hF (I₁.stays bo)) (fun _ q => q) (fun G hG a ha hf y => by
          by_cases hy : y = x
          · simp only [upd, if_pos hy]; exact fun hm => (c a hm).2.2.2.2.2.2 G hG ha
          · simp only [upd, if_neg hy]; exact hf y)
        refine ih (s := { s with heap := h₁, toks := tk₁ }) (fun y hy => hx y (List.mem_cons_of_mem _ hy)) (by simpa using ht) (by simpa using hv) (fun i t y v h1 h2 h3 => hst (i + 1) t y v (by simpa using h1) (by simpa using h2) (by simpa using h3)) I₁ V₁ fun h₂ fp₂ tk₂ I₂ kp₂ f2 => ?_
        refine hq h₂ fp₂ tk₂ I₂ (fun z o h1 h2 e => kp₂ z o h1 h2 (kp₁ z o h1 h2 e)) fun z h1 h2 => f2 z (fun y => ?_) fun G hG => h2 G (List.mem_cons_of_mem _ hG)
        by_cases hy : y = x
        · simp only [upd, if_pos hy]; exact h2 F List.mem_cons_self
        · simp only [upd, if_neg hy]; exact h1 y
end
theorem get_fold_mem : ∀ {l : List (Nat × LV)} {ρ : Loc} {y : Nat} {lv : LV}, (l.map (·.1)).Nodup → (y, lv) ∈ l → (l.foldl (fun ρ p => ρ.set p.1 p.2) ρ).get y = some lv := by
  intro l
  induction l with
  | nil => intro ρ y lv _ h; cases h
  | cons p r ih =>
    intro ρ y lv hn hm
    rw [List.map_cons, List.nodup_cons] at hn
    rcases List.mem_cons.mp hm with rfl | hm
    · rw [List.foldl_cons]
      have : ∀ {r : List (Nat × LV)} {ρ : Loc}, y ∉ r.map (·.1) → (r.foldl (fun ρ p => ρ.set p.1 p.2) ρ).get y = ρ.get y := by
        intro r
        induction r with
        | nil => intro ρ _; rfl
        | cons q r ih' =>
          intro ρ hq
          rw [List.foldl_cons, ih' (fun h => hq (by simp [h])), Loc.get_set, if_neg (fun e => hq (by simp [e]))]
      rw [this hn.1, Loc.get_set]; simp
    · rw [List.foldl_cons]; exact ih hn.2 hm
theorem get_fold_not : ∀ {l : List (Nat × LV)} {ρ : Loc} {y : Nat}, y ∉ l.map (·.1) → (l.foldl (fun ρ p => ρ.set p.1 p.2) ρ).get y = ρ.get y := by
  intro r
  induction r with
  | nil => intro ρ y _; rfl
  | cons q r ih' =>
    intro ρ y hq
    rw [List.foldl_cons, ih' (fun h => hq (by simp [h])), Loc.get_set, if_neg (fun e => hq (by simp [e]))]
theorem get_fold_rev {l : List (Nat × LV)} {ρ : Loc} (hn : (l.map (·.1)).Nodup) (y : Nat) : (l.reverse.foldl (fun ρ p => ρ.set p.1 p.2) ρ).get y = (l.foldl (fun ρ p => ρ.set p.1 p.2) ρ).get y := by
  by_cases hy : y ∈ l.map (·.1)
  · obtain ⟨⟨z, lv⟩, hm, rfl⟩ := List.mem_map.mp hy
    rw [get_fold_mem hn hm, get_fold_mem (by rw [List.map_reverse]; exact List.pairwise_reverse.mpr (hn.imp Ne.symm)) (List.mem_reverse.mpr hm)]
  · rw [get_fold_not hy, get_fold_not (by rw [List.map_reverse, List.mem_reverse]; exact hy)]
theorem nodupN_ok : ∀ {xs : List Nat}, nodupN xs = true → xs.Nodup
  | [], _ => List.nodup_nil
  | x :: r, h => by
    simp only [nodupN, Bool.and_eq_true, Bool.not_eq_true'] at h
    exact List.nodup_cons.mpr ⟨fun hm => by have := h.1; simp [hm] at this, nodupN_ok h.2⟩
end Mine
set_option Elab.async false
set_option maxRecDepth 100000
set_option maxHeartbeats 4000000
namespace Mine
set_option tactic.hygienic false
open PySem PyProof.Rows

theorem swaps_not {v : Expr} (h : isComp v = false) (t : Option Expr) (n : Nat) (env : Env) : swapsWith v t n env = pure false := by
  cases v <;> first | rfl | cases h
theorem stores_none {v : Expr} (h : isTup v = false) (ts : List Expr) (k : Nat) (p : Pos) (env : Env) : swappedStores [.Tuple ts k p] v env = pure none := by
  cases v <;> first | rfl | cases h
theorem swOf_ok {env : Env} (hk : env.scope.kind = .function) {ts vs : List Expr} {r : Option (List Str)} (h : swOf env.scope ts vs = some r) (k k' : Nat) (p p' : Pos) :
    swappedStores [.Tuple ts k p] (.Tuple vs k' p') env = pure r := by
  have hb : env.blockKind = env.scope.kind := by unfold Env.blockKind; rw [hk]; rfl
  unfold swOf at h
  rw [← hb] at h
  split at h
  · rename_i h1; cases h; exact if_pos h1
  · rename_i h1
    refine (if_neg h1).trans ?_
    split at h
    · rename_i h2; cases h; exact if_pos h2
    · rename_i h2
      refine (if_neg h2).trans ?_
      split at h
      · rename_i h3; cases h; exact if_pos h3
      · rename_i h3
        refine (if_neg h3).trans ?_
        split at h
        · rename_i h4; cases h; exact if_pos h4
        · rename_i h4
          refine (if_neg h4).trans ?_
          split at h
          · cases h
          · rename_i h5; cases h; exact if_neg h5
section
variable {W : Wd}
theorem tgt1_ok {N : Nms} {nn : Nat} {sc : Scope} {x : Nat} {e : Expr} (h : tgt1 N nn sc x e = true) : (∃ p, e = .Name (N.nm x) p) ∧ x < nn ∧ isLoc sc (N.nm x) = true := by
  obtain ⟨b1, b⟩ := an h; obtain ⟨b2, b⟩ := an b
  exact ⟨⟨_, nm_of b1 b2⟩, Nat.le_of_ble_eq_true (an b).2, by rw [eq_of_beq b2]; exact (an b).1⟩
theorem tgts_ok {N : Nms} {nn : Nat} {sc : Scope} (env : Env) : ∀ {xs : List Nat} {es : List Expr}, tgts N nn sc xs es = true →
    es.length = xs.length ∧ (∀ x ∈ xs, x < nn ∧ isLoc sc (N.nm x) = true) ∧ (∀ (i : Nat) (x : Nat) (e : Expr), xs[i]? = some x → es[i]? = some e → ∃ p, e = .Name (N.nm x) p) ∧ assignEach es env = es.map fun e => (false, assign e env)
  | [], [], _ => ⟨rfl, nofun, by simp, rfl⟩
  | [], _ :: _, h => by cases h
  | _ :: _, [], h => by cases h
  | x :: xs, e :: es, h => by
    obtain ⟨⟨p, hp⟩, h1, h2⟩ := tgt1_ok (an h).1
    obtain ⟨i1, i2, i3, i4⟩ := tgts_ok env (an h).2
    refine ⟨congrArg Nat.succ i1, fun y hy => ?_, fun i y e' q1 q2 => ?_, ?_⟩
    · rcases List.mem_cons.mp hy with rfl | hy
      · exact ⟨h1, h2⟩
      · exact i2 y hy
    · cases i with
      | zero => simp at q1 q2; subst q1 q2; exact ⟨p, hp⟩
      | succ i => exact i3 i y e' (by simpa using q1) (by simpa using q2)
    · subst hp
      show (false, assign (.Name (N.nm x) p) env) :: assignEach es env = _
      rw [i4]; rfl
end

section
variable {W : Wd} {k : Nat} {b : Bd} {O O' : Addr → Prop} {fp : Nat → List Addr} {ρ : Loc}
theorem Vals.ofDens {h : Heap} : ∀ {vs : List Value} {ds : List D}, Dens W.st O h vs ds → Vals W b O fp h vs (ds.map fun _ => []) (ds.map .v)
  | _, _, .nil => .nil
  | _, _, .cons x r => .cons x (by simp) nofun (Vals.ofDens r)
/-- the names of a tuple target take the items -/
theorem unpack_ok (ok : WOk W) (bo : BdOk W k b) {s : Shared} {xs : List Nat} {es : List Expr} {t : Addr} {vs : List Value} {Fs : List (List Addr)} {lvs : List LV} {x1 : Nat} {pos : Pos} (hx : tgts W.toNms W.nn b.env.scope xs es = true)
    (ht : s.heap.IsTuple t vs.toArray) (hl : vs.length = xs.length) (I : Inv W b O fp s.heap ρ) (V : Vals W b O fp s.heap vs Fs lvs) {Q : Unit → Shared → Prop} {Ex : Value → Shared → Prop}
    (hq : ∀ h' fp' tk, Inv W b O fp' h' ((xs.zip lvs).foldl (fun ρ p => ρ.set p.1 p.2) ρ) → Kept b s.heap h' → (∀ a, (∀ y, a ∉ fp y) → (∀ G ∈ Fs, a ∉ G) → ∀ y, a ∉ fp' y) → Q () { s with heap := h', toks := tk }) :
    wpAny (model W.prog W.w) b.A (assign (.Tuple es x1 pos) b.env (.ref t)) Q Ex s := by
  obtain ⟨t1, t2, t3, t4⟩ := tgts_ok b.env hx
  have hlen : (assignEach es b.env).length = vs.toArray.size := by rw [t4]; simp [t1, hl]
  have hst : (assignEach es b.env).findIdx? (·.1) = none := by
    rw [t4, List.findIdx?_eq_none_iff]
    intro x hx
    obtain ⟨e, _, rfl⟩ := List.mem_map.mp hx
    rfl
  refine wpAny_assign_Tuple bo.handled ht hlen hst fun h₁ he₁ => ?_
  have kp₁ : ∀ c o, s.heap.get? c = some o → h₁.get? c = some o := fun c o e => he₁ c o (Nat.ne_of_lt (Heap.lt_size e)) e
  have e₁ : Ev (fsOf b.l) s.heap h₁ := Ev.of kp₁
  have I₁ := I.ev ok bo e₁
  have V₁ : Vals W b O fp h₁ vs Fs lvs := V.to (fun _ z => z.gr ok (Gr.ev e₁ I.fsub) (fun a o _ q => kp₁ a o q) (I₁.stays bo)) (fun _ q => q) fun _ _ _ _ hf => hf
  refine stores_ok ok bo (s := { s with heap := h₁ }) t2 (by rw [t4]; simp [t1]) (by simpa using hl) (fun i f x v h1 h2 h3 => ?_) I₁ V₁ fun h₂ fp₂ tk₂ I₂ kp₂ f₂ => hq h₂ fp₂ tk₂ I₂ (fun a o h1 h2 e => kp₂ a o h1 h2 (kp₁ a o e)) f₂
  rw [t4] at h1
  simp only [List.map_map, List.getElem?_map, Option.map_eq_some_iff, Function.comp] at h1
  obtain ⟨e, he, rfl⟩ := h1
  obtain ⟨p, rfl⟩ := t3 i x e h2 he
  exact fun hw => wpAny_assign_Name hw

theorem zip_map_fold : ∀ (xs : List Nat) (ds : List D) (ρ : Loc), (xs.zip (ds.map LV.v)).foldl (fun ρ p => ρ.set p.1 p.2) ρ = (xs.zip ds).foldl (fun ρ p => ρ.set p.1 (.v p.2)) ρ
  | [], _, _ => by simp
  | _ :: _, [], _ => by simp
  | x :: xs, d :: ds, ρ => by simp only [List.map_cons, List.zip_cons_cons, List.foldl_cons]; exact zip_map_fold xs ds _
theorem Kp.stores {O₁ : Addr → Prop} {h h₁ h' : Heap} {fp' : Nat → List Addr} (I : Inv W b O₁ fp h₁ ρ) (y : Kp b O fp h O₁ fp h₁) (kp : Kept b h₁ h') {Fs : List (List Addr)} (f : ∀ a, (∀ y, a ∉ fp y) → (∀ G ∈ Fs, a ∉ G) → ∀ y, a ∉ fp' y) (hF : ∀ G ∈ Fs, ∀ a ∈ G, ¬ O a) : Kp b O fp h O₁ fp' h' := ⟨fun a ha hf hp hcl => by
  obtain ⟨q1, q2, q3⟩ := y.own a ha hf hp hcl
  exact ⟨q1, f a hp fun G hG hm => hF G hG a hm ha, fun o e => kp a o hf hcl (q3 o e)⟩, fun c o h1 h2 => let ⟨q1, q2⟩ := y.den c o h1 h2; kp.den I c o q1 q2⟩
theorem bind_tup {P : D → Loc → Prop} {xs : List Nat} {d : D} {ρ σ : Loc} (h : ρ.bind xs false d = some σ) (k : ∀ ds, xs.length = ds.length → P (.tuple ds) ((xs.zip ds).foldl (fun ρ p => ρ.set p.1 (.v p.2)) ρ)) : P d σ := by
  cases d with
  | tuple ds =>
    replace h : (if xs.length = ds.length then some ((xs.zip ds).foldl (fun ρ p => ρ.set p.1 (.v p.2)) ρ) else .none) = some σ := h
    by_cases hl : xs.length = ds.length
    · rw [if_pos hl] at h; cases h; exact k ds hl
    · rw [if_neg hl] at h; cases h
  | _ => exact no_some h
/-- a target of one name, or of several -/
noncomputable abbrev TgtOk (W : Wd) (sc : Scope) (xs : List Nat) (one : Bool) (t : Expr) : Prop := tgtC W.toNms W.nn sc xs one t = true
theorem bind_ok (ok : WOk W) (bo : BdOk W k b) {s : Shared} {xs : List Nat} {one : Bool} {t : Expr} (hx : TgtOk W b.env.scope xs one t) (I : Inv W b O fp s.heap ρ) {v : Value} {d : D} {σ : Loc} (hv : Den W.st O s.heap v d) (hb : ρ.bind xs one d = some σ)
    {Q : Unit → Shared → Prop} {Ex : Value → Shared → Prop} (hq : ∀ h' fp' tk, Inv W b O fp' h' σ → Kp b O fp s.heap O fp' h' → Q () { s with heap := h', toks := tk }) : wpAny (model W.prog W.w) b.A (assign t b.env v) Q Ex s := by
  cases one with
  | true =>
    obtain ⟨h0, h1⟩ := an hx
    obtain ⟨⟨p, rfl⟩, h1, h2⟩ := tgt1_ok h1
    rw [one_of 0 h0] at hb
    cases hb
    exact wpAny_assign_Name (store_ok ok bo I h1 h2 (F := []) (lv := .v d) hv FpOk.v fun h' tk I' kp => hq h' _ tk I' (Kp.store I Kp.refl kp nofun))
  | false =>
    obtain ⟨h0, h1⟩ := an hx
    rw [w_tup h0]
    revert hv hq
    refine bind_tup (P := fun d σ => Den W.st O s.heap v d → (∀ h' fp' tk, Inv W b O fp' h' σ → Kp b O fp s.heap O fp' h' → Q () { s with heap := h', toks := tk }) → wpAny (model W.prog W.w) b.A (assign _ b.env v) Q Ex s) hb fun ds hlen hv hq => ?_
    obtain ⟨a, vs, rfl, ha, ht, hd, hz⟩ := hv.tuple_inv
    · refine unpack_ok ok bo h1 ht (by rw [hd.length, hlen]) I (Vals.ofDens hd) fun h' fp' tk I' kp f => ?_
      rw [zip_map_fold] at I'
      exact hq h' fp' tk I' (Kp.stores I Kp.refl kp f fun G hG a ha => by obtain ⟨_, _, rfl⟩ := List.mem_map.mp hG; cases ha)
end
end Mine
set_option Elab.async false
set_option maxRecDepth 100000
set_option maxHeartbeats 4000000
namespace Mine
set_option tactic.hygienic false
open PySem PyProof.Rows

/-- a receiver is made: shown apart -/
noncomputable def NewRecvOk (W : Wd) (k : Nat) : Prop :=
  ∀ {b : Bd} {O : Addr → Prop} {fp : Nat → List Addr} {ρ : Loc} {s : Shared} {e : Expr} {Q : Value → Shared → Prop} {Ex : Value → Shared → Prop}, BdOk W k b → isRecv b.env.scope e = true → Inv W b O fp s.heap ρ →
    (∀ v F O' h' tk, Inv W b O' fp h' ρ → Ev (fsOf b.l) s.heap h' → Gr O s.heap O' h' → Kp b O fp s.heap O' fp h' → W.rcv h' F v [] → New s.heap O' F → Q v { s with heap := h', toks := tk }) → wpAny (model W.prog W.w) b.A (eval e b.env) Q Ex s

section
variable {W : Wd} {Φ : Phi} {k n : Nat} {b : Bd} {O O' : Addr → Prop} {fp : Nat → List Addr} {ρ : Loc}
noncomputable abbrev LK (W : Wd) (b : Bd) (O : Addr → Prop) (fp : Nat → List Addr) (ρ : Loc) (s : Shared) (K : LV → Prop) (Q : Value → Shared → Prop) : Prop :=
  ∀ lv v F O' h' tk, K lv → Inv W b O' fp h' ρ → Ev (fsOf b.l) s.heap h' → Gr O s.heap O' h' → Kp b O fp s.heap O' fp h' → LVOk W O' h' F v lv → New s.heap O' F → (∀ r, lv = .rcv r → b.rid = none) → Q v { s with heap := h', toks := tk }
theorem isRecv_star {sc : Scope} {e : Expr} (h : isRecv sc e = true) (env : Env) (es : List Expr) : starEach (e :: es) env = (false, eval e env) :: starEach es env := by
  exact isRecv_of h fun _ _ _ => rfl
theorem chkLV_star {N : Nms} {m : Nat} {sc : Scope} {o : Bool} {t : E} {e : Expr} (h : chkLV N m sc o t e = true) (env : Env) (es : List Expr) : starEach (e :: es) env = (false, eval e env) :: starEach es env := by
  cases o with
  | true =>
    exact lv_own (P := fun _ e => starEach (e :: es) env = (false, eval e env) :: starEach es env) h fun _ _ _ _ _ => rfl
  | false =>
    cases q : isNewE t with
    | true => simp only [chkLV, q] at h; exact isRecv_star h env es
    | false => simp only [chkLV, q] at h; exact chk_star h env es
theorem chkLVs_trees {N : Nms} {sc : Scope} {env : Env} {pos : Pos} {m : Nat} : ∀ {ts : List (Bool × E)} {es : List Expr}, chkLVs N m sc ts es = true → backTo pos (starEach es env) = es.map fun e => (false, eval e env)
  | [], [], _ => rfl
  | [], _ :: _, h => by cases h
  | _ :: _, [], h => by cases h
  | (o, t) :: ts, e :: es, h => by
    rw [chkLV_star (an h).1]
    have := chkLVs_trees (env := env) (pos := pos) (an h).2
    simp only [backTo, List.map_cons] at this ⊢
    rw [this]; rfl
theorem isRecv_rid (bo : BdOk W k b) {e : Expr} (h : isRecv b.env.scope e = true) : b.rid = none := by
  cases q : b.rid with
  | none => rfl
  | some p =>
    have := bo.rid (by rw [q]; simp)
    have h2 := (an (an h).2).2
    rw [this] at h2; cases h2
theorem xLV_ok (ok : WOk W) (bo : BdOk W k b) (XA : XOk W Φ k n) (NR : NewRecvOk W k) {s : Shared} {m : Nat} {o : Bool} {t : E} {e : Expr} {K : LV → Prop} {X : Prop} {Q : Value → Shared → Prop} {Ex : Value → Shared → Prop}
    (hc : chkLV W.toNms m b.env.scope o t e = true) (I : Inv W b O fp s.heap ρ) (hx : xLV Φ W.G n o t ρ K X) (hq : LK W b O fp ρ s K Q) (hX : XK W b.l s X Ex) : wpAny (model W.prog W.w) b.A (eval e b.env) Q Ex s := by
  have plain : ∀ {t : E}, chkE W.toNms m b.env.scope e t = true → xE Φ W.G n t ρ (fun d => K (.v d)) X → wpAny (model W.prog W.w) b.A (eval e b.env) Q Ex s := fun h1 h2 =>
    (XA.e h1 (I.here bo) h2).bind (fun d v h' tk hK he hv => hq (.v d) v [] O h' tk hK (I.ev ok bo he) he (Gr.ev he I.fsub) (Kp.ev he I.fsub) hv nofun nofun) hX
  cases o with
  | true =>
    clear plain
    revert hx
    refine lv_own hc fun ts es' _ h1 h2 hx => ?_
    refine List_ ?_
    rw [chkL_trees h2]
    refine XA.es h2 (I.here bo) hx (fun ds vs h' tk hK hl he hv => ?_) hX
    have I' := I.ev ok bo he
    have hz : fits ds.length = true := by rw [hl]; exact h1
    have hz' := fits_le hz
    refine wpAny_newObj_type ?_ (by show vs.toArray.size ≤ sizeLine; rw [List.size_toArray, hv.length, sizeLine_eq]; (first | lia | omega))
    generalize hO : ({ cls := .type "list", data := .seq vs.toArray } : Obj) = o₁
    have kp : ∀ c o, h'.get? c = some o → (h'.push o₁).get? c = some o := fun c o q => Heap.get?_push_of_some _ q
    have nn := size_none h'
    have na : (h'.push o₁).get? h'.objs.size = some o₁ := Heap.get?_push_size _ (by rw [← hO]; rfl)
    refine hq (.own ds) _ [h'.objs.size] (fun c => O c ∨ c = h'.objs.size) _ tk hK (I'.grow ok bo kp nn na) (he.push _) ((Gr.ev he I.fsub).trans (Gr.grow kp nn)) ((Kp.ev he I.fsub).trans (Kp.grow kp nn)) ?_ ?_ nofun
    · exact ⟨_, vs, rfl, rfl, .inr rfl, ⟨_, _, na, by rw [← hO], by rw [← hO], by rw [← hO]⟩, hv.to (Gr.grow kp nn).keep, hz⟩
    · intro a ha
      cases List.mem_singleton.mp ha
      refine ⟨.inr rfl, ?_⟩
      cases q : s.heap.get? h'.objs.size with
      | none => rfl
      | some o => obtain ⟨sl, z⟩ := he.some q; rw [nn] at z; cases z
  | false =>
    cases t with
    | newRecv => exact NR bo hc I fun v F O' h' tk I' ev g kp hr hn => hq (.rcv []) v F O' h' tk hx I' ev g kp hr hn (fun _ _ => isRecv_rid bo hc)
    | _ => exact plain hc hx
theorem Inv.exists_of {h : Heap} (I : Inv W b O fp h ρ) {a : Addr} (ha : O a) : ∃ o, h.get? a = some o := (I.fresh a ha).2
theorem xLVs_ok (ok : WOk W) (bo : BdOk W k b) (XA : XOk W Φ k n) (NR : NewRecvOk W k) {m : Nat} {X : Prop} {Ex : Value → Shared → Prop} : ∀ {ts : List (Bool × E)} {es : List Expr} {s : Shared} {O : Addr → Prop} {K : List LV → Prop} {Q : List Value → Shared → Prop},
    chkLVs W.toNms m b.env.scope ts es = true → Inv W b O fp s.heap ρ → xLVs Φ W.G n ts ρ K X →
    (∀ lvs vs Fs O' h' tk, K lvs → lvs.length = ts.length → Inv W b O' fp h' ρ → Ev (fsOf b.l) s.heap h' → Gr O s.heap O' h' → Kp b O fp s.heap O' fp h' → Vals W b O' fp h' vs Fs lvs → (∀ G ∈ Fs, ∀ a ∈ G, s.heap.get? a = none ∧ O' a) → Q vs { s with heap := h', toks := tk }) →
    XK W b.l s X Ex → wpAny (model W.prog W.w) b.A (spliced (es.map fun e => (false, eval e b.env))) Q Ex s
  | [], [], s, O, K, Q, _, I, hx, hq, hX => Calls.spliced_nil (hq [] [] [] O s.heap s.toks hx rfl I Ev.refl Gr.refl Kp.refl .nil nofun)
  | [], _ :: _, _, _, _, _, h, _, _, _, _ => by cases h
  | _ :: _, [], _, _, _, _, h, _, _, _, _ => by cases h
  | (o, t) :: ts, e :: es, s, O, K, Q, hc, I, hx, hq, hX => by
    have hc := an hc
    refine Calls.spliced_cons (xLV_ok ok bo XA NR hc.1 I hx (fun lv v F O₁ h₁ tk₁ hK I₁ e₁ g₁ k₁ hv hn rr => ?_) hX)
    have off := hn.off bo I
    refine xLVs_ok ok bo XA NR (s := { s with heap := h₁, toks := tk₁ }) hc.2 I₁ hK (fun lvs vs Fs O₂ h₂ tk₂ hK₂ hl I₂ e₂ g₂ k₂ V hF => ?_) (hX.go e₁)
    · refine hq _ _ (F :: Fs) O₂ h₂ tk₂ hK₂ (by simp [hl]) I₂ (e₁.trans e₂) (g₁.trans g₂) (k₁.trans k₂) (.cons (hv.gr ok g₂ (fun a o ha q => e₂.keep a o (off a ha).1 q) (I₂.stays bo)) (fun a ha => ?_) rr V) ?_
      · obtain ⟨p1, p2, p3, p4, p5, p6⟩ := off a ha
        refine ⟨g₂.sub a (hn a ha).1, p1, p2, p3, p4, p5, fun G hG hm => ?_⟩
        obtain ⟨o, ho⟩ := I₁.exists_of (hn a ha).1
        have := (hF G hG a hm).1
        rw [show ({ s with heap := h₁, toks := tk₁ } : Shared).heap = h₁ from rfl, ho] at this
        cases this
      · intro G hG a ha
        rcases List.mem_cons.mp hG with rfl | hG
        · exact ⟨(hn a ha).2, g₂.sub a (hn a ha).1⟩
        · refine ⟨?_, (hF G hG a ha).2⟩
          cases q : s.heap.get? a with
          | none => rfl
          | some o => obtain ⟨sl, z⟩ := g₁.up a o q; have := (hF G hG a ha).1; rw [show ({ s with heap := h₁, toks := tk₁ } : Shared).heap = h₁ from rfl, z] at this; cases this
end
end Mine
set_option Elab.async false
set_option maxRecDepth 100000
set_option maxHeartbeats 4000000
namespace Mine
set_option tactic.hygienic false
open PySem PyProof.Rows

structure SOk (W : Wd) (Φ : Phi) (H : HSpec) (k n : Nat) : Prop where
  s : ∀ {b : Bd} {m : Nat} {st : Stmt} {t : S} {ρ : Loc} {K : Loc → Prop} {R : D → Loc → Prop} {X : Loc → Prop} {O : Addr → Prop} {fp : Nat → List Addr} {s : Shared},
    BdOk W k b → chkS W.toNms W.nn m b.env.scope st t = true → Inv W b O fp s.heap ρ → xS Φ W.G H n t ρ K R X → Does W b O fp (exec st b.env) K R X s
  ss : ∀ {b : Bd} {m : Nat} {sts : List Stmt} {ts : List S} {ρ : Loc} {K : Loc → Prop} {R : D → Loc → Prop} {X : Loc → Prop} {O : Addr → Prop} {fp : Nat → List Addr} {s : Shared},
    BdOk W k b → chkSs W.toNms W.nn m b.env.scope sts ts = true → Inv W b O fp s.heap ρ → xSs Φ W.G H n ts ρ K R X → Does W b O fp (execs sts b.env) K R X s
noncomputable def isSpec : S → Bool
  | .asg _ t => isCompE t
  | .ifh .. => true
  | .hset .. => true
  | .hdel .. => true
  | _ => false
/-- the receiver's statements, and a comprehension handed to a name: shown apart -/
noncomputable def SpecOk (W : Wd) (Φ : Phi) (H : HSpec) (k n : Nat) : Prop :=
  ∀ {b : Bd} {m : Nat} {st : Stmt} {t : S} {ρ : Loc} {K : Loc → Prop} {R : D → Loc → Prop} {X : Loc → Prop} {O : Addr → Prop} {fp : Nat → List Addr} {s : Shared},
    isSpec t = true → BdOk W k b → chkS W.toNms W.nn m b.env.scope st t = true → Inv W b O fp s.heap ρ → SOk W Φ H k n → xS Φ W.G H (n + 1) t ρ K R X → Does W b O fp (exec st b.env) K R X s

theorem Vals.rev {W : Wd} {b : Bd} {O : Addr → Prop} {fp : Nat → List Addr} {h : Heap} {vs : List Value} {Fs : List (List Addr)} {lvs : List LV} (x : Vals W b O fp h vs Fs lvs) : Vals W b O fp h vs.reverse Fs.reverse lvs.reverse := by
  have snoc : ∀ {vs : List Value} {Fs : List (List Addr)} {lvs : List LV}, Vals W b O fp h vs Fs lvs → ∀ {v : Value} {F : List Addr} {lv : LV}, LVOk W O h F v lv →
      (∀ a ∈ F, O a ∧ a ∉ fsOf b.l ∧ (∀ x c, b.env.cells.lookup x = some c → a ≠ c) ∧ b.h0.get? a = none ∧ b.B0.get? a = none ∧ (∀ y, a ∉ fp y) ∧ ∀ G ∈ Fs, a ∉ G) → (∀ r, lv = .rcv r → b.rid = none) → Vals W b O fp h (vs ++ [v]) (Fs ++ [F]) (lvs ++ [lv]) := by
    intro vs Fs lvs x
    induction x with
    | nil => intro v F lv a c rr; exact .cons a (fun z hz => let ⟨p1, p2, p3, p4, p5, p6, _⟩ := c z hz; ⟨p1, p2, p3, p4, p5, p6, nofun⟩) rr .nil
    | @cons v' vs F' Fs lv' lvs a' c' rr' _ ih =>
      intro v F lv a c rr
      refine .cons a' (fun z hz => ?_) rr' (ih a (fun z hz => let ⟨p1, p2, p3, p4, p5, p6, p7⟩ := c z hz; ⟨p1, p2, p3, p4, p5, p6, fun G hG => p7 G (List.mem_cons_of_mem _ hG)⟩) rr)
      obtain ⟨p1, p2, p3, p4, p5, p6, p7⟩ := c' z hz
      refine ⟨p1, p2, p3, p4, p5, p6, fun G hG => ?_⟩
      rcases List.mem_append.mp hG with hG | hG
      · exact p7 G hG
      · simp at hG; subst hG
        exact fun hm => (c z hm).2.2.2.2.2.2 F' List.mem_cons_self hz
  induction x with
  | nil => exact .nil
  | @cons v vs F Fs lv lvs a c rr _ ih =>
    simp only [List.reverse_cons]
    refine snoc ih a (fun z hz => ?_) rr
    obtain ⟨p1, p2, p3, p4, p5, p6, p7⟩ := c z hz
    exact ⟨p1, p2, p3, p4, p5, p6, fun G hG => p7 G (List.mem_reverse.mp hG)⟩
theorem zip_rev {α β : Type} : ∀ (xs : List α) (ys : List β), xs.length = ys.length → xs.reverse.zip ys.reverse = (xs.zip ys).reverse
  | [], [], _ => rfl
  | [], _ :: _, h => by simp at h
  | _ :: _, [], h => by simp at h
  | x :: xs, y :: ys, h => by
    have h' : xs.length = ys.length := by simpa using h
    simp only [List.reverse_cons, List.zip_cons_cons]
    rw [List.zip_append (by simpa using h'), zip_rev xs ys h']
    rfl
theorem zip_fst {β : Type} : ∀ (xs : List Nat) (ys : List β), xs.length = ys.length → (xs.zip ys).map (·.1) = xs
  | [], [], _ => rfl
  | [], _ :: _, h => by simp at h
  | _ :: _, [], h => by simp at h
  | x :: xs, y :: ys, h => by simp only [List.zip_cons_cons, List.map_cons]; rw [zip_fst xs ys (by simpa using h)]
section
variable {W : Wd} {Φ : Phi} {H : HSpec} {k n : Nat} {b : Bd} {O : Addr → Prop} {fp : Nat → List Addr} {ρ : Loc}
theorem asg_ok (ok : WOk W) (bo : BdOk W k b) (XA : XOk W Φ k n) (NR : NewRecvOk W k) {s : Shared} {m : Nat} {o : Bool} {t : E} {x : Nat} {p pos : Pos} {id : Str} {v : Expr} {K : Loc → Prop} {R : D → Loc → Prop} {X : Loc → Prop}
    (ht : tgt1 W.toNms W.nn b.env.scope x (.Name id p) = true) (hv : isComp v = false) (hc : chkLV W.toNms m b.env.scope o t v = true) (I : Inv W b O fp s.heap ρ) (hx : xLV Φ W.G n o t ρ (fun l => K (ρ.set x l)) (X ρ)) :
    Does W b O fp (exec (.Assign [.Name id p] v pos) b.env) K R X s := by
  intro Q Ex hN _ hE _
  obtain ⟨⟨p', hp⟩, h1, h2⟩ := tgt1_ok ht
  cases hp
  refine wpAny_Assign_Name (xLV_ok ok bo XA NR hc I hx (fun lv v F O' h' tk hK I' ev g kp hv hn rr => ?_) (hE.xk bo I)) (swaps_not hv _ _ _)
  have off := hn.off bo I
  exact store_ok ok bo (s := { s with heap := h', toks := tk }) I' h1 h2 hv ⟨fun a ha => ⟨(hn a ha).1, (off a ha).1⟩, fun a ha => (off a ha).2.1, fun _ _ a ha => (off a ha).2.2.1, fun _ _ a ha => (off a ha).2.2.2.1, fun a ha y _ => (off a ha).2.2.2.2.1 y, rr⟩
    fun h₂ tk₂ I₂ kp₂ => hN _ _ _ h₂ tk₂ hK I₂ (Kp.store I' kp kp₂ fun a ha => (off a ha).2.2.2.2.2)
theorem asgs_ok (ok : WOk W) (bo : BdOk W k b) (XA : XOk W Φ k n) (NR : NewRecvOk W k) {s : Shared} {m : Nat} {ts : List (Bool × E)} {xs : List Nat} {es vs : List Expr} {k1 k2 : Nat} {p1 p2 pos : Pos} {K : Loc → Prop} {R : D → Loc → Prop} {X : Loc → Prop}
    (ht : tgts W.toNms W.nn b.env.scope xs es = true) (hnd : nodupN xs = true) (hz : fits ts.length = true) (hl : xs.length = ts.length) (hc : chkLVs W.toNms m b.env.scope ts vs = true)
    (hw : swB W.toNms b.env.scope xs es vs = true) (I : Inv W b O fp s.heap ρ)
    (hx : xLVs Φ W.G n ts ρ (fun ls => K ((xs.zip ls).foldl (fun ρ p => ρ.set p.1 p.2) ρ)) (X ρ)) :
    Does W b O fp (exec (.Assign [.Tuple es k1 p1] (.Tuple vs k2 p2) pos) b.env) K R X s := by
  intro Q Ex hN _ hE _
  have ev : ∀ {Q' : Value → Shared → Prop}, (∀ lvs us Fs O' h' tk t, K ((xs.zip lvs).foldl (fun ρ p => ρ.set p.1 p.2) ρ) → us.length = xs.length → lvs.length = xs.length → Inv W b O' fp h' ρ → Kp b O fp s.heap O' fp h' → Vals W b O' fp h' us Fs lvs → (∀ G ∈ Fs, ∀ a ∈ G, ¬ O a) → h'.IsTuple t us.toArray → Q' (.ref t) { s with heap := h', toks := tk }) →
      wpAny (model W.prog W.w) b.A (eval (.Tuple vs k2 p2) b.env) Q' Ex s := by
    intro Q' hq
    refine Tuple_ ?_
    rw [chkLVs_trees hc]
    refine xLVs_ok ok bo XA NR hc I hx (fun lvs us Fs O' h' tk hK hlen I' ev g kp V hF => ?_) (hE.xk bo I)
    have hu := V.len
    refine wpAny_newObj_type ?_ (by show us.toArray.size ≤ sizeLine; have := fits_le hz; rw [List.size_toArray, hu, hlen, sizeLine_eq]; (first | lia | omega))
    have kp' : ∀ c o, h'.get? c = some o → (h'.push { cls := .type "tuple", data := .seq us.toArray }).get? c = some o := fun c o q => Heap.get?_push_of_some _ q
    have e' : Ev (fsOf b.l) h' (h'.push { cls := .type "tuple", data := .seq us.toArray }) := Ev.of kp'
    have I₂ := I'.ev ok bo e'
    exact hq lvs us Fs O' _ tk _ hK (by rw [hu, hlen, hl]) (by rw [hlen, hl]) I₂ (kp.trans (Kp.ev e' I'.fsub)) (V.to (fun _ z => z.gr ok (Gr.ev e' I'.fsub) (fun a o _ q => kp' a o q) (I₂.stays bo)) (fun _ q => q) fun _ _ _ _ hf => hf)
      (fun G hG a ha hO => by obtain ⟨o, ho⟩ := I.exists_of hO; rw [(hF G hG a ha).1] at ho; cases ho) ⟨_, Heap.get?_push_size _ rfl, rfl, _, rfl⟩
  cases hsw : swOf b.env.scope es vs with
  | none => simp only [swB, hsw] at hw; cases hw
  | some o =>
  simp only [swB, hsw] at hw
  cases o with
  | none =>
    refine Assign_Tuple (ev fun lvs us Fs O' h' tk t hK hu hlv I' kp V hF ht' => ?_) rfl (swOf_ok bo.eok.kind hsw _ _ _ _)
    exact unpack_ok ok bo (s := { s with heap := h', toks := tk }) ht ht' hu I' V fun h₂ fp₂ tk₂ I₂ kp₂ f₂ => hN _ _ _ h₂ tk₂ hK I₂ (Kp.stores I' kp kp₂ f₂ hF)
  | some ns =>
    have hns := beq_iff_eq.mp hw
    subst hns
    refine Assign_Tuple_swapped (names := xs.map W.nm) (ev fun lvs us Fs O' h' tk t hK hu hlv I' kp V hF ht' => ?_) rfl (swOf_ok bo.eok.kind hsw _ _ _ _)
    have hsz : (xs.map W.nm).length = us.toArray.size := by simp [hu]
    rw [hsz]
    refine wpAny_unpackItems_tuple bo.handled ht' fun h₁ he₁ => ?_
    have kp₁ : ∀ c o, h'.get? c = some o → h₁.get? c = some o := fun c o e => he₁ c o (Nat.ne_of_lt (Heap.lt_size e)) e
    have e₁ : Ev (fsOf b.l) h' h₁ := Ev.of kp₁
    have I₁ := I'.ev ok bo e₁
    have V₁ : Vals W b O' fp h₁ us Fs lvs := V.to (fun _ z => z.gr ok (Gr.ev e₁ I'.fsub) (fun a o _ q => kp₁ a o q) (I₁.stays bo)) (fun _ q => q) fun _ _ _ _ hf => hf
    obtain ⟨t1, t2, _, _⟩ := tgts_ok b.env ht
    refine stores_ok ok bo (s := { s with heap := h₁, toks := tk }) (xs := xs.reverse) (fun x hx => t2 x (List.mem_reverse.mp hx)) (by simp) (by simp [hu]) (fun i f x v h1 h2 h3 => ?_) I₁ V₁.rev fun h₂ fp₂ tk₂ I₂ kp₂ f₂ => ?_
    · rw [← List.map_reverse] at h1
      simp only [List.map_map, List.getElem?_map, Option.map_eq_some_iff, Function.comp] at h1
      obtain ⟨y, hy, rfl⟩ := h1
      rw [h2] at hy; cases hy
      exact fun hw => wpAny_bindName hw
    · rw [zip_rev _ _ (by rw [hlv])] at I₂
      refine hN _ _ _ h₂ tk₂ hK (I₂.congr (get_fold_rev (by rw [zip_fst _ _ (by rw [hlv])]; exact nodupN_ok hnd))) ?_
      exact Kp.stores I₁ (kp.trans (Kp.ev e₁ I'.fsub)) kp₂ (fun a h1 h2 => f₂ a h1 fun G hG => h2 G (List.mem_reverse.mp hG)) hF
theorem append_ok {s : Shared} {A : Around} {a : Addr} {vs : List Value} {v : Value} (hl : IsOwn s.heap a vs) (hsz : vs.length ≤ 1048576) {Q : Value → Shared → Prop} {Ex : Value → Shared → Prop}
    (hq : ∀ h', IsOwn h' a (vs ++ [v]) → Heap.SameBut a s.heap h' → Q .none { s with heap := h' }) : wpAny (model W.prog W.w) A (call (.builtin "list.append") [.ref a, v]) Q Ex s := by
  obtain ⟨⟨cls, dd, data, sl⟩, n, ho, hc, hdd, hd⟩ := hl
  simp only at hc hdd hd
  subst hc hdd hd
  refine wpAny_call_entry slot_list_append ⟨_, ho, rfl⟩ entry_list_append ?_ (args_list_append _ _)
  show wpAny _ _ (updateSeq a (·.push v) >>= fun _ => ret .none) _ _ s
  refine wpAny_bind ?_
  have hsz' : vs.toArray.size ≤ sizeLine := by rw [List.size_toArray, sizeLine_eq]; (first | lia | omega)
  refine wpAny_updateSeq ho rfl (wpAny_pure ⟨.none, rfl, hq _ ⟨{ cls := .type "list", dict := none, data := .seq (vs.toArray.push v) (n + 1), slots := sl }, n + 1, ?_, rfl, rfl, by simp⟩ (Heap.SameBut.update ..)⟩)
  rw [Heap.get?_update_self _ ho (by rw [mapSeq_push]; rfl), mapSeq_push]
theorem app_ok (ok : WOk W) (bo : BdOk W k b) (XA : XOk W Φ k n) {s : Shared} {m : Nat} {t : E} {x : Nat} {id : Str} {p apos cpos pos : Pos} {v : Expr} {K : Loc → Prop} {R : D → Loc → Prop} {X : Loc → Prop} {ds : List D}
    (hid : W.nm x = id) (hloc : isLoc b.env.scope id = true) (hline : apos.endLine = cpos.line) (hc : chkE W.toNms m b.env.scope v t = true) (I : Inv W b O fp s.heap ρ) (hg : ρ.get x = some (.own ds))
    (hx : xE Φ W.G n t ρ (fun d => fits (ds.length + 1) = true ∧ K (ρ.set x (.own (ds ++ [d])))) (X ρ)) :
    Does W b O fp (exec (.Expr (.Call (.Attribute (.Name id p) "append" apos) [v] [] cpos) pos) b.env) K R X s := by
  intro Q Ex hN _ hE _
  subst hid
  obtain ⟨w, r, a, vs, q1, rfl, q3, q4, q5, q6⟩ := I.rel.get x _ hg
  have hd := loc_nd hloc
  refine wpAny_Expr_any (wpAny_Call_method rfl (by rw [chk_star hc]; rfl) (by simpa using hline) PySem.F.plainAttrs_list slot_list_append PySem.F.type_list_append ?_) (by unfold interactive; rw [bo.eok.kind]; rfl) rfl
  refine rd_name bo.eok r hd ⟨?_, ?_, ?_⟩
  · obtain ⟨o, n, ho, hcl, _⟩ := q4; exact ⟨o, ho, hcl⟩
  · rintro a' ⟨rfl⟩; obtain ⟨o, n, ho, _, hdd, _⟩ := q4; exact ⟨o, ho, hdd⟩
  · rw [chk_star hc]
    refine Calls.callWith_builtin rfl (Calls.evalArgs_plain (Calls.spliced_cons ((XA.e hc (I.here bo) hx).bind (fun d v h' tk hK he hv => Calls.spliced_nil ?_) (hE.xk bo I))))
    have I' := I.ev ok bo he
    have o' : IsOwn h' a vs := q4.to fun _ q => he.some q
    have hz := fits_le q6
    have hvl := q5.length
    refine append_ok o' (by (first | lia | omega)) fun h₂ ho₂ hs₂ => ?_
    obtain ⟨I₂, kp₂⟩ := I'.app ok bo hg q1 (r.ev he) q3 (q5.ev he I.fsub) hv hK.1 hs₂ ho₂
    exact hN _ _ _ h₂ tk hK.2 I₂ ((Kp.ev he I.fsub).trans kp₂)
end
end Mine
set_option Elab.async false
set_option maxRecDepth 100000
set_option maxHeartbeats 4000000
namespace Mine
set_option tactic.hygienic false
open PySem PyProof.Rows
theorem bi_ValueError : ((("ValueError" : Str), Value.type "ValueError") : Str × Value) ∈ builtIns := .tail _ (.tail _ (.tail _ (.tail _ (.tail _ (.tail _ (.tail _ (.head _)))))))
theorem bi_name_at {W : Wd} (ok : WOk W) {A : Around} {env : Env} (eo : EnvOk env) {s : Shared} (st : W.Hb.StaysIn s.heap) {x : Str} {v : Value} {pos : Pos} {Q : Value → Shared → Prop} {Ex : Value → Shared → Prop} (h : isGlob env.scope x = true) (hv : (x, v) ∈ builtIns) (hq : Q v s) :
    wpAny (model W.prog W.w) A (eval (.Name x pos) env) Q Ex s := by
  simp only [isGlob, Bool.and_eq_true, beq_iff_eq, Bool.not_eq_true'] at h
  refine Calls.Name_function_global eo.kind h.1 (Calls.loadGlobal_builtin ?_ (ok.bi _ hv).1 ?_ (ok.bi _ hv).2 hq) h.2
  · rw [eo.globals]; exact ok.g.keeps st
  · rw [eo.builtins]; exact ok.b.keeps st
/-- how a list or a tuple is walked -/
structure Wk (W : Wd) (A : Around) (a I : Addr) (vs : List Value) where
  at_ : Nat → Heap → Prop
  frame : ∀ {i : Nat} {h h' : Heap}, at_ i h → (∀ o, h.get? I = some o → h'.get? I = some o) → (∀ o, h.get? a = some o → h'.get? a = some o) → at_ i h'
  ends : ∀ {i : Nat} {s : Shared} {Q : Option Value → Shared → Prop} {Ex : Value → Shared → Prop}, at_ i s.heap → vs[i]? = none → (∀ h', Heap.ExtBut I s.heap h' → Q none { s with heap := h' }) → wpAny (model W.prog W.w) A (pyNext (.ref I)) Q Ex s
  next : ∀ {i : Nat} {v : Value} {s : Shared} {Q : Option Value → Shared → Prop} {Ex : Value → Shared → Prop}, at_ i s.heap → vs[i]? = some v → (∀ h', at_ (i + 1) h' → Heap.SameBut I s.heap h' → Q (some v) { s with heap := h' }) → wpAny (model W.prog W.w) A (pyNext (.ref I)) Q Ex s
  ex : ∀ {i : Nat} {h : Heap}, at_ i h → ∃ o, h.get? I = some o
  go : ∀ {i : Nat} {v : Value} {s : Shared} {t : Expr} {Q : Unit → Shared → Prop} {Ex : Value → Shared → Prop}, at_ i s.heap → Q () s → wpAny (model W.prog W.w) A (letOwnedTupleGo t (.ref I) v) Q Ex s
theorem ltg_plain {W : Wd} {A : Around} {I : Addr} {v : Value} {t : Expr} {s : Shared} {o : Obj} {n : String} {vs : Array Value} {Q : Unit → Shared → Prop} {Ex : Value → Shared → Prop} (ho : s.heap.get? I = some o) (hc : o.cls = .type n) (hd : o.data = .fields vs)
    (hn : (["enumerate", "zip", "dict_itemiterator", "dict_reverseitemiterator", "odict_iterator", "itertools.zip_longest", "itertools.pairwise"].contains n) = false) (hq : Q () s) : wpAny (model W.prog W.w) A (letOwnedTupleGo t (.ref I) v) Q Ex s := by
  have go : ∀ a : Addr, wpAny (model W.prog W.w) A (do
      let o ← load I
      match o.cls, o.data with
      | .type n, .fields vs =>
        if ["enumerate", "zip", "dict_itemiterator", "dict_reverseitemiterator", "odict_iterator", "itertools.zip_longest", "itertools.pairwise"].contains n && vs[0]? == some (rawInt a) then
          rule "for.unpacks-the-owned-tuple"
          updateField I 0 .none
      | _, _ => pure ()) Q Ex s := by
    intro a
    refine wpAny_bind (wpAny_load ho ?_)
    rw [hc, hd]
    simp only [hn, Bool.false_and, Bool.false_eq_true, if_false]
    exact wpAny_pure hq
  cases t <;> first | exact wpAny_pure hq | (cases v <;> first | exact wpAny_pure hq | exact go _)
noncomputable def Wk.list {W : Wd} {A : Around} (hh : A.handled = none) {a I : Addr} (hne : a ≠ I) {vs : List Value} : Wk W A a I vs where
  at_ := fun i h => h.IsListIter I a i ∧ h.IsList a vs.toArray
  frame := fun x k1 k2 => ⟨x.1.at k1, x.2.at k2⟩
  ends := fun x hv hq => wpAny_pyNext_list_end hh x.1 x.2 (by simpa using hv) hq
  next := fun x hv hq => wpAny_pyNext_list_item x.1 x.2 (by simpa using hv) fun h' h1 h2 => hq h' ⟨h1, x.2.extBut h2.extBut hne⟩ h2
  ex := fun x => let ⟨o, ho, _⟩ := x.1; ⟨o, ho⟩
  go := fun x hq => by
    obtain ⟨o, ho, hc, hd⟩ := x.1
    exact ltg_plain ho hc hd (by decide) hq
noncomputable def Wk.tuple {W : Wd} {A : Around} (hh : A.handled = none) {a I : Addr} (hne : a ≠ I) {vs : List Value} : Wk W A a I vs where
  at_ := fun i h => h.IsTupleIter I a i ∧ h.IsTuple a vs.toArray
  frame := fun x k1 k2 => ⟨x.1.at k1, x.2.at k2⟩
  ends := fun x hv hq => wpAny_pyNext_tuple_end hh x.1 x.2 (by simpa using hv) hq
  next := fun x hv hq => wpAny_pyNext_tuple_item x.1 x.2 (by simpa using hv) fun h' h1 h2 => hq h' ⟨h1, x.2.extBut h2.extBut hne⟩ h2
  ex := fun x => let ⟨o, ho, _⟩ := x.1; ⟨o, ho⟩
  go := fun x hq => by
    obtain ⟨o, ho, hc, hd⟩ := x.1
    exact ltg_plain ho hc hd (by decide) hq

section
variable {W : Wd} {Φ : Phi} {H : HSpec} {k n : Nat} {b : Bd} {O : Addr → Prop} {fp : Nat → List Addr} {ρ : Loc}
/-- an own object that no name holds changes -/
theorem Inv.chgI (ok : WOk W) (bo : BdOk W k b) {h h' : Heap} (I : Inv W b O fp h ρ) {c : Addr} (hcO : O c) (h0 : b.h0.get? c = none) (hcL : c ∉ fsOf b.l) (hcc : ∀ x d, b.env.cells.lookup x = some d → c ≠ d) (hcf : ∀ y, c ∉ fp y)
    (keep : ∀ a o, a ≠ c → h.get? a = some o → h'.get? a = some o) (hc' : ∃ o, h'.get? c = some o) : Inv W b O fp h' ρ := by
  have cB : b.B0.get? c = none := fresh_of bo.low h0
  have st : W.Hb.StaysIn h' := fun a o q => keep a o (fun e => by have := bo.hb a o q; rw [e, cB] at this; cases this) (I.stays bo a o q)
  have rdk : ∀ y w, Rd b.env h (W.nm y) w → Rd b.env h' (W.nm y) w := by
    intro y w r
    rcases r with ⟨k1, m, n1, q⟩ | ⟨k1, d, q, n1⟩
    · exact .inl ⟨k1, m, n1.extBut (b := c) (fun a o h1 h2 => keep a o h1 h2) (fun e => hcL (e ▸ bo.lmem)), q⟩
    · obtain ⟨o, ho, hd⟩ := n1
      exact .inr ⟨k1, d, q, o, keep d o (fun e => hcc _ _ q e.symm) ho, hd⟩
  refine { base := ?_, funs := ?_, fr0 := ?_, all := ?_, sub := I.sub, fsub := I.fsub, fresh := ?_, ns := ?_, cell := ?_, rel := ⟨?_, I.rel.off, I.rel.bnd⟩, fpc := I.fpc, own := I.own, rcv := I.rcv, rid := fun v F q x r hx => ⟨rdk _ _ (I.rid v F q x r hx).1, (I.rid v F q x r hx).2⟩ }
  · exact fun a o q => keep a o (fun e => by rw [e, cB] at q; cases q) (I.base a o q)
  · have go : ∀ {l : List Env}, (∀ a ∈ fsOf l, a ≠ c) → h.FunFrames b.B0 l → h'.FunFrames b.B0 l := by
      intro l
      induction l with
      | nil => intro _ _; trivial
      | cons e r ih =>
        rintro hne ⟨hk, ⟨L, o, hf, hn, ho, hd⟩, hr⟩
        refine ⟨hk, ⟨L, o, hf, hn, keep L o (hne L (List.mem_filterMap.mpr ⟨e, List.mem_cons_self, hf⟩)) ho, hd⟩, ih (fun a ha => hne a ?_) hr⟩
        obtain ⟨e', he', hf'⟩ := List.mem_filterMap.mp ha
        exact List.mem_filterMap.mpr ⟨e', List.mem_cons_of_mem _ he', hf'⟩
    exact go (fun a ha e => hcL (e ▸ ha)) I.funs
  · intro f hf o q
    obtain ⟨sl, z⟩ := I.fr0 f hf o q
    exact ⟨sl, keep f _ (fun e => hcL (bo.mem.mpr (.inr (e ▸ hf)))) z⟩
  · intro a o q
    obtain ⟨o', z⟩ := I.all a o q
    exact ⟨o', keep a o' (fun e => by rw [e, h0] at q; cases q) z⟩
  · intro a ha
    refine ⟨(I.fresh a ha).1, ?_⟩
    by_cases hac : a = c
    · rw [hac]; exact hc'
    · obtain ⟨o, ho⟩ := (I.fresh a ha).2; exact ⟨o, keep a o hac ho⟩
  · obtain ⟨m, z⟩ := I.ns
    exact ⟨m, z.extBut (b := c) (fun a o h1 h2 => keep a o h1 h2) (fun e => hcL (e ▸ bo.lmem))⟩
  · intro y d q
    obtain ⟨w, o, ho, hd⟩ := (I.cell y d q).2
    exact ⟨(I.cell y d q).1, w, o, keep d o (fun e => hcc y d q e.symm) ho, hd⟩
  · intro y lv hy
    obtain ⟨w, r, z⟩ := I.rel.get y lv hy
    exact ⟨w, rdk _ _ r, z.chg ok hcO (hcf y) keep st⟩

/-- an own object that no name holds is let go -/
theorem Inv.dropI (ok : WOk W) (bo : BdOk W k b) {h h' : Heap} (I : Inv W b O fp h ρ) {c : Addr} (hcO : O c) (h0 : b.h0.get? c = none) (hcL : c ∉ fsOf b.l) (hcc : ∀ x d, b.env.cells.lookup x = some d → c ≠ d) (hcf : ∀ y, c ∉ fp y)
    (keep : ∀ a o, a ≠ c → h.get? a = some o → h'.get? a = some o) : Inv W b (fun a => O a ∧ a ≠ c) fp h' ρ := by
  have cB : b.B0.get? c = none := fresh_of bo.low h0
  have st : W.Hb.StaysIn h' := fun a o q => keep a o (fun e => by have := bo.hb a o q; rw [e, cB] at this; cases this) (I.stays bo a o q)
  have rdk : ∀ y w, Rd b.env h (W.nm y) w → Rd b.env h' (W.nm y) w := by
    intro y w r
    rcases r with ⟨k1, m, n1, q⟩ | ⟨k1, d, q, n1⟩
    · exact .inl ⟨k1, m, n1.extBut (b := c) (fun a o h1 h2 => keep a o h1 h2) (fun e => hcL (e ▸ bo.lmem)), q⟩
    · obtain ⟨o, ho, hd⟩ := n1
      exact .inr ⟨k1, d, q, o, keep d o (fun e => hcc _ _ q e.symm) ho, hd⟩
  have den : ∀ a o, ¬ O a → h.get? a = some o → ¬ (O a ∧ a ≠ c) ∧ h'.get? a = some o := fun a o h1 h2 => ⟨fun q => h1 q.1, keep a o (fun q => h1 (q ▸ hcO)) h2⟩
  refine { base := ?_, funs := ?_, fr0 := ?_, all := ?_, sub := fun a ha => ⟨I.sub a ha, ?_⟩, fsub := fun a ha => ⟨I.fsub a ha, fun e => hcL (e ▸ ha)⟩, fresh := ?_, ns := ?_, cell := ?_, rel := ⟨?_, fun y a ha => ⟨⟨(I.rel.off y a ha).1, fun e => hcf y (e ▸ ha)⟩, (I.rel.off y a ha).2⟩, I.rel.bnd⟩, fpc := I.fpc, own := I.own, rcv := I.rcv, rid := fun v F q x r hx => ⟨rdk _ _ (I.rid v F q x r hx).1, (I.rid v F q x r hx).2⟩ }
  · exact fun a o q => keep a o (fun e => by rw [e, cB] at q; cases q) (I.base a o q)
  · have go : ∀ {l : List Env}, (∀ a ∈ fsOf l, a ≠ c) → h.FunFrames b.B0 l → h'.FunFrames b.B0 l := by
      intro l
      induction l with
      | nil => intro _ _; trivial
      | cons e r ih =>
        rintro hne ⟨hk, ⟨L, o, hf, hn, ho, hd⟩, hr⟩
        refine ⟨hk, ⟨L, o, hf, hn, keep L o (hne L (List.mem_filterMap.mpr ⟨e, List.mem_cons_self, hf⟩)) ho, hd⟩, ih (fun a ha => hne a ?_) hr⟩
        obtain ⟨e', he', hf'⟩ := List.mem_filterMap.mp ha
        exact List.mem_filterMap.mpr ⟨e', List.mem_cons_of_mem _ he', hf'⟩
    exact go (fun a ha e => hcL (e ▸ ha)) I.funs
  · intro f hf o q
    obtain ⟨sl, z⟩ := I.fr0 f hf o q
    exact ⟨sl, keep f _ (fun e => hcL (bo.mem.mpr (.inr (e ▸ hf)))) z⟩
  · intro a o q
    obtain ⟨o', z⟩ := I.all a o q
    exact ⟨o', keep a o' (fun e => by rw [e, h0] at q; cases q) z⟩
  · rintro rfl; obtain ⟨o, z⟩ := bo.old _ ha; rw [h0] at z; cases z
  · intro a ha
    obtain ⟨o, ho⟩ := (I.fresh a ha.1).2
    exact ⟨(I.fresh a ha.1).1, o, keep a o ha.2 ho⟩
  · obtain ⟨m, z⟩ := I.ns
    exact ⟨m, z.extBut (b := c) (fun a o h1 h2 => keep a o h1 h2) (fun e => hcL (e ▸ bo.lmem))⟩
  · intro y d q
    obtain ⟨w, o, ho, hd⟩ := (I.cell y d q).2
    exact ⟨⟨(I.cell y d q).1, fun e => hcc y d q e.symm⟩, w, o, keep d o (fun e => hcc y d q e.symm) ho, hd⟩
  · intro y lv hy
    obtain ⟨w, r, z⟩ := I.rel.get y lv hy
    refine ⟨w, rdk _ _ r, ?_⟩
    have hF : ∀ a ∈ fp y, a ≠ c := fun a ha e => hcf y (e ▸ ha)
    cases lv with
    | v d => exact Den.to den z
    | own ds => obtain ⟨e, vs, q1, q2, q3, q4, q5, q6⟩ := z; exact ⟨e, vs, q1, q2, ⟨q3, hF e (by rw [q1]; simp)⟩, q4.to fun o ho => ⟨o.slots, keep e o (hF e (by rw [q1]; simp)) ho⟩, q5.to den, q6⟩
    | brw ds => obtain ⟨e, vs, q1, q2, q3, ⟨o, ho, rr⟩, q5, q6⟩ := z; exact ⟨e, vs, q1, q2, ⟨q3, hF e (by rw [q1]; simp)⟩, ⟨o, keep e o (hF e (by rw [q1]; simp)) ho, rr⟩, q5.to den, q6⟩
    | rcv ds => exact ok.rcvTo (fun a o ha e => keep a o (hF a ha) e) st z
theorem for_go (ok : WOk W) (bo : BdOk W k b) (ih : SOk W Φ H k n) {s₀ s : Shared} {m : Nat} {xs : List Nat} {one : Bool} {t' : Expr} {body : List Stmt} {ts : List S} {K : Loc → Prop} {R : D → Loc → Prop} {X : Loc → Prop} {a I : Addr} {vs : List Value} {items : List D}
    (ht : TgtOk W b.env.scope xs one t') (hc : chkSs W.toNms W.nn m b.env.scope body ts = true) (wk : Wk W b.A a I vs) {O₁ : Addr → Prop}
    (hI0 : b.h0.get? I = none) (hIL : I ∉ fsOf b.l) (hIc : ∀ x c, b.env.cells.lookup x = some c → I ≠ c) (hna : ¬ O₁ a) (hv : Dens W.st O₁ s.heap vs items)
    (hOI : O₁ I) (hfI : ∀ y, I ∉ fp y) (hat : wk.at_ 0 s.heap) (hex : ∃ o, s.heap.get? a = some o) (J : Inv W b O₁ fp s.heap ρ) (hIO : ∀ c, O c → c ≠ I) (kp : Kp b O fp s₀.heap O₁ fp s.heap)
    (hx : fl (fun σ d => σ.bind xs one d) (fun σ C => xSs Φ W.G H n ts σ C R X) K items ρ)
    {Q : Flow → Shared → Prop} {Ex : Value → Shared → Prop} (hs : s = { s₀ with heap := s.heap, toks := s.toks }) (hN : NK W b O fp s₀ K Q) (hR : RK W b s₀ R Q) (hE : EK b s₀ X Ex) (hP : PassesOwn (model W.prog W.w) b.A b.env Ex) :
    codeAny (model W.prog W.w) b.A (.forLoop t' (.ref I) body [] b.env) (fun r s' => match r with | .ok f => Q f s' | .error e => cameBackBy (model W.prog W.w) b.A b.env Ex e s') s := by
  have hlen := hv.length
  refine codeAny_forLoop_any (fun q s' => ∃ i σ O' fp' h' tk, q = items.length - i ∧ i ≤ items.length ∧ s' = { s₀ with heap := h', toks := tk } ∧ Inv W b O' fp' h' σ ∧ Kp b O fp s₀.heap O' fp' h' ∧ (∀ c o, ¬ O₁ c → s.heap.get? c = some o → ¬ O' c ∧ h'.get? c = some o) ∧ O' I ∧ (∀ y, I ∉ fp' y) ∧ wk.at_ i h' ∧
    fl (fun σ d => σ.bind xs one d) (fun σ C => xSs Φ W.G H n ts σ C R X) K (items.drop i) σ) (fun q s' hq => ?_) items.length ⟨0, ρ, O₁, fp, s.heap, s.toks, by (first | lia | omega), by (first | lia | omega), hs, J, kp, fun _ _ h1 h2 => ⟨h1, h2⟩, hOI, hfI, hat, hx⟩
  refine ex6 hq fun i σ O' fp' h' tk hq2 => ?_
  clear hq
  refine ad10 hq2 fun e1 hi e2 J' kp' dn' hOI' hfI' hat' hx' => ?_
  clear hq2
  subst e1 e2
  have dv : Dens W.st O' h' vs items := hv.to dn'
  have kpI : ∀ {h₁ : Heap}, Heap.ExtBut I h' h₁ → Kp b O fp s₀.heap O' fp' h₁ := fun he => ⟨fun c h1 h2 h3 h4 => let ⟨q1, q2, q3⟩ := kp'.own c h1 h2 h3 h4; ⟨q1, q2, fun o e => he c o (hIO c h1) (q3 o e)⟩,
    fun c o h1 h2 => let ⟨q1, q2⟩ := kp'.den c o h1 h2; ⟨q1, he c o (fun q => q1 (q ▸ hOI')) q2⟩⟩
  cases hd : items[i]? with
  | none =>
    have hv' : vs[i]? = none := by rw [List.getElem?_eq_none_iff] at hd ⊢; (first | lia | omega)
    refine wk.ends (s := { s₀ with heap := h', toks := tk }) hat' hv' fun h₁ he₁ => wpAny_execs_nil ?_
    have : items.drop i = [] := by rw [List.drop_eq_nil_iff]; rw [List.getElem?_eq_none_iff] at hd; exact hd
    rw [this] at hx'
    have J₁ := J'.dropI ok bo hOI' hI0 hIL hIc hfI' (fun c o h1 h2 => he₁ c o h1 h2)
    have kp₁ := kpI he₁
    exact hN σ _ fp' h₁ tk hx' J₁ ⟨fun c h1 h2 h3 h4 => let ⟨q1, q2, q3⟩ := kp₁.own c h1 h2 h3 h4; ⟨⟨q1, hIO c h1⟩, q2, q3⟩, fun c o h1 h2 => let ⟨q1, q2⟩ := kp₁.den c o h1 h2; ⟨fun q => q1 q.1, q2⟩⟩
  | some d =>
    obtain ⟨v, hv', hvd⟩ := dv.get hd
    have hlt : i < items.length := by rw [List.getElem?_eq_some_iff] at hd; exact hd.1
    have hdrop : items.drop i = d :: items.drop (i + 1) := by
      rw [List.getElem?_eq_some_iff] at hd
      obtain ⟨h1, h2⟩ := hd
      rw [List.drop_eq_getElem_cons h1, h2]
    rw [hdrop] at hx'
    refine of_optC hx' fun σ₁ hb hx₁ => ?_
    refine wk.next (s := { s₀ with heap := h', toks := tk }) hat' hv' fun h₁ hat₁ hs₁ => ?_
    refine wk.go (s := { s₀ with heap := h₁, toks := tk }) hat₁ ?_
    have J₁ : Inv W b O' fp' h₁ σ := J'.chgI ok bo hOI' hI0 hIL hIc hfI' (fun c o h1 h2 => (hs₁.2 c h1).trans h2) (wk.ex hat₁)
    have kp₁ := kpI hs₁.extBut
    have hvd₁ : Den W.st O' h₁ v d := hvd.to fun c o h1 h2 => ⟨h1, (hs₁.2 c (fun q => h1 (q ▸ hOI'))).trans h2⟩
    refine bind_ok ok bo (s := { s₀ with heap := h₁, toks := tk }) ht J₁ hvd₁ hb fun h₂ fp₂ tk₂ J₂ kp₂ => ?_
    refine wpAny_passesOwn hP (ih.ss (s := { s₀ with heap := h₂, toks := tk₂ }) bo hc J₂ hx₁ _ Ex (fun σ₃ O₃ fp₃ h₃ tk₃ hK₃ J₃ kp₃ => ?_) (fun d v σ₃ O₃ fp₃ h₃ tk₃ h1 h2 h3 => hR d v σ₃ O₃ fp₃ h₃ tk₃ h1 h2 h3) (fun er σ₃ h₃ tk₃ h1 h2 => hE er σ₃ h₃ tk₃ h1 h2) hP)
    have kpt := kp₂.trans kp₃
    obtain ⟨i1, i2, i3⟩ := kpt.own I hOI' hIL hfI' hIc
    have dn₁ : ∀ c o, ¬ O₁ c → s.heap.get? c = some o → ¬ O' c ∧ h₁.get? c = some o := fun c o h1 h2 => let ⟨q1, q2⟩ := dn' c o h1 h2; ⟨q1, (hs₁.2 c (fun q => q1 (q ▸ hOI'))).trans q2⟩
    refine ⟨items.length - (i + 1), by (first | lia | omega), i + 1, σ₃, O₃, fp₃, h₃, tk₃, rfl, by (first | lia | omega), rfl, J₃, kp₁.trans kpt, fun c o h1 h2 => let ⟨q1, q2⟩ := dn₁ c o h1 h2; kpt.den c o q1 q2, i1, i2, wk.frame hat₁ i3 (fun o ho => ?_), hK₃⟩
    obtain ⟨oa, hoa⟩ := hex
    obtain ⟨q1, q2⟩ := dn₁ a oa hna hoa
    exact (kpt.den a o q1 ho).2
end
end Mine
set_option Elab.async false
set_option maxRecDepth 100000
set_option maxHeartbeats 4000000
namespace Mine
set_option tactic.hygienic false
open PySem PyProof.Rows
section
variable {W : Wd} {Φ : Phi} {H : HSpec} {k n : Nat} {b : Bd} {O : Addr → Prop} {fp : Nat → List Addr} {ρ : Loc}
theorem whl_ok (ok : WOk W) (bo : BdOk W k b) (XA : XOk W Φ k n) (ih : SOk W Φ H k n) {s : Shared} {m : Nat} {c : E} {ts : List S} {c' : Expr} {body : List Stmt} {pos : Pos} {K : Loc → Prop} {R : D → Loc → Prop} {X : Loc → Prop}
    (hc1 : chkE W.toNms m b.env.scope c' c = true) (hc2 : chkSs W.toNms W.nn m b.env.scope body ts = true) (I : Inv W b O fp s.heap ρ)
    (hx : ∃ j, wl (fun σ C => xE Φ W.G n c σ (fun d => opt d.tr C) (X σ)) (fun σ C => xSs Φ W.G H n ts σ C R X) K j ρ) : Does W b O fp (exec (.While c' body [] pos) b.env) K R X s := by
  intro Q Ex hN hR hE hP
  obtain ⟨j, hx⟩ := hx
  refine wpAny_While ?_
  refine codeAny_whileLoop (fun q s' => ∃ σ O' fp' h' tk, s' = { s with heap := h', toks := tk } ∧ Inv W b O' fp' h' σ ∧ Kp b O fp s.heap O' fp' h' ∧
    wl (fun σ C => xE Φ W.G n c σ (fun d => opt d.tr C) (X σ)) (fun σ C => xSs Φ W.G H n ts σ C R X) K q σ) (fun q s' hq => ?_) j ⟨ρ, O, fp, s.heap, s.toks, rfl, I, Kp.refl, hx⟩
  refine ex5 hq fun σ O' fp' h' tk hq2 => ?_
  clear hq
  refine ad4 hq2 fun e1 I' kp' hx' => ?_
  clear hq2
  subst e1
  cases q with
  | zero => cases hx'
  | succ q =>
    have hE' : EK b { s with heap := h', toks := tk } X Ex := hE
    refine wpAny_passesOwn hP ?_
    refine XA.t (s := { s with heap := h', toks := tk }) hc1 (I'.here bo) hx' (fun t h₁ tk₁ ht he => ?_) (hE'.xk bo I')
    have I₁ := I'.ev ok bo he
    have kp₁ := kp'.trans (Kp.ev he I'.fsub)
    cases t with
    | false => exact wpAny_passesOwn hP (wpAny_execs_nil (hN σ O' fp' h₁ tk₁ ht I₁ kp₁))
    | true =>
      refine wpAny_passesOwn hP (ih.ss (s := { s with heap := h₁, toks := tk₁ }) bo hc2 I₁ ht _ Ex (fun σ₃ O₃ fp₃ h₃ tk₃ hK₃ I₃ kp₃ => ?_) (fun d v σ₃ O₃ fp₃ h₃ tk₃ h1 h2 h3 => hR d v σ₃ O₃ fp₃ h₃ tk₃ h1 h2 h3) (fun er σ₃ h₃ tk₃ h1 h2 => hE er σ₃ h₃ tk₃ h1 h2) hP)
      exact ⟨q, by (first | lia | omega), σ₃, O₃, fp₃, h₃, tk₃, rfl, I₃, kp₁.trans kp₃, hK₃⟩
theorem raise_ok (ok : WOk W) (bo : BdOk W k b) {s : Shared} {id t : Str} {np kp cp pos : Pos} {kd : Nat} {K : Loc → Prop} {R : D → Loc → Prop} {X : Loc → Prop} (hid : id = ("ValueError" : Str)) (hg : isGlob b.env.scope id = true) (I : Inv W b O fp s.heap ρ) (hx : X ρ) :
    Does W b O fp (exec (.Raise (some (.Call (.Name id np) [.Constant (.str t) kd kp] [] cp)) none pos) b.env) K R X s := by
  intro Q Ex _ _ hE _
  subst hid
  refine wpAny_Raise_call PySem.F.excCall_ValueError PySem.F.excRaise_ValueError bo.handled rfl ?_
  refine bi_name_at ok bo.eok (I.stays bo) hg bi_ValueError ⟨rfl, ?_⟩
  refine Calls.evalArgs_plain (Calls.spliced_cons (wpAny_Constant_str (k := kd) (pos := kp) (Calls.spliced_nil ⟨rfl, (by rw [sizeLine_eq]; show 1 ≤ _; (first | lia | omega)), fun h' e hm => ?_⟩)))
  exact hE _ ρ h' _ hx (.inr ⟨e, s.heap, _, rfl, I.base, I.funs, I.fr0, hm.of⟩)
theorem try_ok (ok : WOk W) (bo : BdOk W k b) (XA : XOk W Φ k n) {s : Shared} {m f : Nat} {args : List E} {x y : Nat} {e : E} {idy ve idx : Str} {v c : Expr} {p p' np p2 p3 hp p4 : Pos} {K : Loc → Prop} {R : D → Loc → Prop} {X : Loc → Prop}
    (ht : tgt1 W.toNms W.nn b.env.scope y (.Name idy p) = true) (hv : isComp v = false) (hc : chkE W.toNms m b.env.scope v (.call f args) = true) (hve : ve = ("ValueError" : Str)) (hg : isGlob b.env.scope ve = true)
    (hx2 : tgt1 W.toNms W.nn b.env.scope x (.Name idx p2) = true)
    (he : hdlE W.toNms e c = true)
    (I : Inv W b O fp s.heap ρ) (hx : xE Φ W.G n (.call f args) ρ (fun d => K (ρ.set y (.v d))) (hdl e fun d => K (ρ.set x (.v d)))) :
    Does W b O fp (exec (.Try [.Assign [.Name idy p] v p'] [.ExceptHandler (some (.Name ve np)) none [.Assign [.Name idx p2] c p3] hp] [] [] p4) b.env) K R X s := by
  intro Q Ex hN _ hE hP
  obtain ⟨⟨_, hpp⟩, y1, y2⟩ := tgt1_ok ht
  obtain ⟨⟨_, hpq⟩, x1, x2⟩ := tgt1_ok hx2
  cases hpp; cases hpq; subst hve
  refine wpAny_Try_except (wpAny_execs_cons (wpAny_Assign_Name ((XA.e hc (I.here bo) hx).bind (fun d v h' tk hK he hv => ?_) ?_) (swaps_not hv _ _ _)))
  · have I' := I.ev ok bo he
    refine store_ok ok bo (s := { s with heap := h', toks := tk }) I' y1 y2 (F := []) (lv := .v d) hv FpOk.v fun h₂ tk₂ I₂ kp₂ => ?_
    exact wpAny_execs_nil (wpAny_execs_nil (hN _ _ _ h₂ tk₂ hK I₂ (Kp.store I' (Kp.ev he I.fsub) kp₂ nofun)))
  · intro er h' tk hX hf
    obtain ⟨a, B, a0, rfl, fl, hB, hev, hHB⟩ := hf
    refine wpAny_looks_onW (s := { s with heap := h', toks := tk }) bo.frames bo.fr fl fun h₄ hheld₄ hsm₄ => ?_
    refine wpAny_landsW (s := { s with heap := h₄, toks := tk }) hheld₄ fun h₅ hfl₅ hsm₅ => ?_
    obtain ⟨ob, hob, hobc⟩ := hfl₅.there
    have st₅ : W.Hb.StaysIn h₅ := fun c o q => hfl₅.1 c o (hHB c o q)
    refine wpAny_handleBy_builtin (X := "ValueError") (T := "ValueError") (b := true) PySem.F.isExc_ValueError PySem.F.notTuple_ValueError (by rw [isSubtype_type]; kernel_rfl)
      (bi_name_at ok (s := { s with heap := h₅, toks := tk }) bo.eok st₅ hg bi_ValueError ⟨rfl, ⟨ob, hob, hobc⟩, ?_⟩)
    rw [if_pos rfl]
    refine lands_againW (s := { s with heap := h₅, toks := tk }) hfl₅ fun h₆ hfl₆ hsm₆ => ?_
    have ev₆ : Ev (fsOf b.l) s.heap h₆ := by
      refine ⟨fun c o h1 h2 => hfl₆.1 c o (hB c o h1 h2), fun c o h1 h2 => ?_⟩
      obtain ⟨sl, z⟩ := hev.slot c o h1 h2
      obtain ⟨_, o', z', hnf⟩ := (I.funs.mem h1)
      rw [h2] at z'; cases z'
      obtain ⟨sl₄, z₄⟩ := hsm₄ c _ z hnf
      obtain ⟨sl₅, z₅⟩ := hsm₅ c _ z₄ hnf
      obtain ⟨sl₆, z₆⟩ := hsm₆ c _ z₅ hnf
      exact ⟨sl₆, z₆⟩
    have I₆ := I.ev ok bo ev₆
    have fin : ∀ {d : D} {w : Value} {tk₁ : Nat} {E' : Value → Shared → Prop}, Den W.st O h₆ w d → K (ρ.set x (.v d)) →
        wpAny (model W.prog W.w) (b.A.mark (some (.ref a))) (storeName b.env (W.nm x) w) (fun _ s₁ => wpAny (model W.prog W.w) (b.A.mark (some (.ref a))) (execs [] b.env) Q E' s₁) E' { s with heap := h₆, toks := tk₁ } := by
      intro d w tk₁ E' hw hK
      refine store_ok ok bo (s := { s with heap := h₆, toks := tk₁ }) I₆ x1 x2 (F := []) (lv := .v d) hw FpOk.v fun h₂ tk₂ I₂ kp₂ => ?_
      exact wpAny_execs_nil (hN _ _ _ h₂ tk₂ hK I₂ (Kp.store I₆ (Kp.ev ev₆ I.fsub) kp₂ nofun))
    revert hX
    refine hdlE_of he (fun j _ _ h1 hX => ?_) fun l _ _ h1 hX => ?_
    · exact wpAny_execs_cons (wpAny_Assign_Name (wpAny_Constant_str (fin (.str _ _ _ rfl h1) hX)) rfl)
    · exact wpAny_execs_cons (wpAny_Assign_Name (PySem.W.Constant_bytes (fin (.bytes _ _ _ rfl h1) hX)) rfl)
end
end Mine
set_option Elab.async false
set_option maxRecDepth 100000
set_option maxHeartbeats 4000000
namespace Mine
set_option tactic.hygienic false
open PySem PyProof.Rows
section
variable {W : Wd} {Φ : Phi} {H : HSpec} {k : Nat} {b : Bd} {O : Addr → Prop} {fp : Nat → List Addr} {ρ : Loc}
theorem own_of {ρ : Loc} {x : Nat} {P : List D → Prop} (h : match ρ.get x with | some (.own ds) => P ds | _ => False) : ∃ ds, ρ.get x = some (.own ds) ∧ P ds := by
  cases hg : ρ.get x with
  | none => rw [hg] at h; cases h
  | some lv =>
    rw [hg] at h
    cases lv with
    | own ds => exact ⟨ds, rfl, h⟩
    | _ => cases h
theorem xS_app {Φ : Phi} {G : Nat → D} {H : HSpec} {n x : Nat} {e : E} {ρ : Loc} {K : Loc → Prop} {R : D → Loc → Prop} {X : Loc → Prop} (h : xS Φ G H (n + 1) (.app x e) ρ K R X) : ∃ ds, ρ.get x = some (.own ds) ∧ xE Φ G n e ρ (fun d => fits (ds.length + 1) = true ∧ K (ρ.set x (.own (ds ++ [d])))) (X ρ) := own_of h
theorem xS_frz {Φ : Phi} {G : Nat → D} {H : HSpec} {n x : Nat} {ρ : Loc} {K : Loc → Prop} {R : D → Loc → Prop} {X : Loc → Prop} (h : xS Φ G H (n + 1) (.frz x) ρ K R X) : ∃ ds, ρ.get x = some (.own ds) ∧ K (ρ.set x (.v (.list ds))) := own_of h
theorem xS_step (ok : WOk W) (XA : ∀ n, XOk W Φ k n) (NR : NewRecvOk W k) {n : Nat} (ih : SOk W Φ H k n) (SP : SpecOk W Φ H k n) {m : Nat} {st : Stmt} {t : S} {K : Loc → Prop} {R : D → Loc → Prop} {X : Loc → Prop} {s : Shared}
    (bo : BdOk W k b) (hc : chkS W.toNms W.nn m b.env.scope st t = true) (I : Inv W b O fp s.heap ρ) (hx : xS Φ W.G H (n + 1) t ρ K R X) : Does W b O fp (exec st b.env) K R X s := by
  cases t with
  | asg x e =>
    cases hce : isCompE e with
    | true => exact SP (t := .asg x e) hce bo hc I ih hx
    | false =>
      refine cs_asg hc fun m _ _ _ h1 h2 _ => ?_
      exact asg_ok ok bo (XA n) NR h1 (h2 hce).1 (h2 hce).2 I hx
  | own x e =>
    refine cs_own hc fun m _ _ _ h1 h2 h3 => ?_
    exact asg_ok ok bo (XA n) NR h1 h2 h3 I hx
  | asgs xs es =>
    refine cs_asgs hc fun m _ _ _ _ _ _ _ h1 h2 h3 h4 h5 h6 => ?_
    exact asgs_ok ok bo (XA n) NR h1 h2 h3 h4 h5 h6 I hx
  | asgT xs e =>
    refine cs_asgT hc fun m es k1 p1 _ _ h1 h2 h3 h4 => ?_
    have ht : tgtC W.toNms W.nn b.env.scope xs false (.Tuple es k1 p1) = true := h1
    intro Q Ex hN _ hE _
    refine Assign_Tuple (((XA n).e h4 (I.here bo) hx).bind (fun d v h' tk hK he hv => ?_) (hE.xk bo I)) (by unfold swapsWithSole; exact swaps_not h3 _ _ _) (stores_none h2 _ _ _ _)
    refine of_optC hK fun σ hb hσ => ?_
    exact bind_ok ok bo (s := { s with heap := h', toks := tk }) (xs := xs) (one := false) ht (I.ev ok bo he) hv hb fun h₂ fp₂ tk₂ I₂ kp₂ => hN _ _ _ h₂ tk₂ hσ I₂ ((Kp.ev he I.fsub).trans kp₂)
  | app x e =>
    refine cs_app hc fun m _ _ _ _ _ h1 h2 h3 => ?_
    obtain ⟨ds, hg, hx⟩ := xS_app hx
    exact app_ok ok bo (XA n) rfl h1 h2 h3 I hg hx
  | frz x => obtain ⟨_, _, h⟩ := cs_of hc; cases h
  | expr e =>
    refine cs_expr hc fun m _ _ h1 h2 => ?_
    intro Q Ex hN _ hE _
    refine wpAny_Expr_any (((XA n).e h2 (I.here bo) hx).bind (fun d v h' tk hK he hv => ?_) (hE.xk bo I)) (by unfold interactive; rw [bo.eok.kind]; rfl) (swaps_not h1 _ _ _)
    exact hN _ _ _ h' tk hK (I.ev ok bo he) (Kp.ev he I.fsub)
  | ret e =>
    refine cs_ret hc fun m _ _ h1 => ?_
    intro Q Ex _ hR hE _
    exact wpAny_Return_some (((XA n).e h1 (I.here bo) hx).bind (fun d v h' tk hK he hv => hR d v ρ O fp h' tk hK (I.ev ok bo he) hv) (hE.xk bo I))
  | ifs c a b' =>
    refine cs_ifs hc fun m _ _ _ _ h1 h2 h3 => ?_
    intro Q Ex hN hR hE hP
    refine wpAny_If ((XA n).t h1 (I.here bo) hx (fun t h' tk ht he => ?_) (hE.xk bo I))
    have I' := I.ev ok bo he
    cases t with
    | true => exact ih.ss (s := { s with heap := h', toks := tk }) bo h2 I' ht Q Ex (NK.go hN (Kp.ev he I.fsub)) hR hE hP
    | false => exact ih.ss (s := { s with heap := h', toks := tk }) bo h3 I' ht Q Ex (NK.go hN (Kp.ev he I.fsub)) hR hE hP
  | whl c b' =>
    refine cs_whl hc fun m _ _ _ h1 h2 => ?_
    exact whl_ok ok bo (XA n) ih h1 h2 I hx
  | «for» xs one it b' =>
      refine cs_for hc fun m t' it' body pos h1 h2 h3 => ?_
      intro Q Ex hN hR hE hP
      refine wpAny_For (((XA n).e h2 (I.here bo) hx).bind (fun d v h' tk hK he hv => ?_) (hE.xk bo I)) (fun x => chk_fold h2 _ x)
      refine of_optC hK fun items hi hfl => ?_
      have I' := I.ev ok bo he
      have go : ∀ {a : Addr} {vs : List Value} {ob : Obj} (wk : Wk W b.A a h'.objs.size vs), ¬ O a → Dens W.st O h' vs items → (∃ o, h'.get? a = some o) → (h'.push ob).get? h'.objs.size = some ob → wk.at_ 0 (h'.push ob) →
          codeAny (model W.prog W.w) b.A (.forLoop t' (.ref h'.objs.size) body [] b.env) (fun r s' => match r with | .ok f => Q f s' | .error e => cameBackBy (model W.prog W.w) b.A b.env Ex e s') { s with heap := h'.push ob, toks := tk } := by
        intro a vs ob wk hna hd hex na hat
        have kp : ∀ c o, h'.get? c = some o → (h'.push ob).get? c = some o := fun c o q => Heap.get?_push_of_some _ q
        have nn := size_none h'
        have I₁ := I'.grow ok bo kp nn na
        have nw : New h' (fun c => O c ∨ c = h'.objs.size) [h'.objs.size] := fun c hc => by simp at hc; subst hc; exact ⟨.inr rfl, nn⟩
        obtain ⟨o1, o2, o3, o4, o5, o6⟩ := nw.off bo I' h'.objs.size (by simp)
        have hex' : ∃ o, (h'.push ob).get? a = some o := let ⟨o, ho⟩ := hex; ⟨o, kp a o ho⟩
        have hane : a ≠ h'.objs.size := fun q => by obtain ⟨o, ho⟩ := hex; rw [q, nn] at ho; cases ho
        refine for_go ok bo ih (s₀ := s) (s := { s with heap := h'.push ob, toks := tk }) (O := O) h1 h3 wk o3 o1 o2 (fun q => q.elim hna hane) (hd.to (Kp.grow (b := b) (fp := fp) kp nn).den) (.inr rfl) o5 hat hex' I₁ (fun c hc q => o6 (q ▸ hc)) ?_ hfl rfl hN hR hE hP
        exact (Kp.ev he I.fsub).trans (Kp.grow kp nn)
      cases hv with
      | @list a vs ds ha hl hd hz =>
        cases hi
        refine wpAny_pyIter_list (s := { s with heap := h', toks := tk }) hl ?_
        have hex : ∃ o, h'.get? a = some o := let ⟨o, ho, _⟩ := hl; ⟨o, ho⟩
        have hane : a ≠ h'.objs.size := fun q => by obtain ⟨o, ho⟩ := hex; rw [q, size_none] at ho; cases ho
        exact go (Wk.list bo.handled hane) ha hd hex (Heap.get?_push_size _ rfl) ⟨⟨_, Heap.get?_push_size _ rfl, rfl, rfl⟩, hl.push _⟩
      | @tuple a vs ds ha hl hd hz =>
        cases hi
        refine wpAny_pyIter_tuple (s := { s with heap := h', toks := tk }) hl ?_
        have hex : ∃ o, h'.get? a = some o := let ⟨o, ho, _⟩ := hl; ⟨o, ho⟩
        have hane : a ≠ h'.objs.size := fun q => by obtain ⟨o, ho⟩ := hex; rw [q, size_none] at ho; cases ho
        exact go (Wk.tuple bo.handled hane) ha hd hex (Heap.get?_push_size _ rfl) ⟨⟨_, Heap.get?_push_size _ rfl, rfl, rfl⟩, hl.push _⟩
      | _ => cases hi
  | raise =>
    refine cs_raise hc fun _ _ _ _ _ _ h1 => ?_
    exact raise_ok ok bo rfl h1 I hx
  | «try» b' x e =>
    revert hx
    refine cs_try hc fun m y f args _ _ _ _ _ _ _ _ _ h1 h2 h3 h4 h5 h6 hx => ?_
    cases n with
    | zero => cases hx
    | succ n =>
      cases n with
      | zero => cases hx
      | succ n =>
        have hx' : xE Φ W.G n (.call f args) ρ (fun d => K (ρ.set y (.v d))) _ := hx
        exact try_ok ok bo (XA n) h1 h2 h3 rfl h4 h5 h6 I hx'
  | ifh r arg right more b' => exact SP rfl bo hc I ih hx
  | hset self x => exact SP rfl bo hc I ih hx
  | hdel self x => exact SP rfl bo hc I ih hx
theorem xSs_step {n : Nat} (ih : SOk W Φ H k n) {m : Nat} {sts : List Stmt} {ts : List S} {K : Loc → Prop} {R : D → Loc → Prop} {X : Loc → Prop} {s : Shared}
    (bo : BdOk W k b) (hc : chkSs W.toNms W.nn m b.env.scope sts ts = true) (I : Inv W b O fp s.heap ρ) (hx : xSs Φ W.G H (n + 1) ts ρ K R X) : Does W b O fp (execs sts b.env) K R X s := by
  intro Q Ex hN hR hE hP
  cases ts with
  | nil =>
    cases cs_nil hc
    exact wpAny_execs_nil (hN ρ O fp s.heap s.toks hx I Kp.refl)
  | cons t ts =>
    cases q : frzOf t with
    | some x =>
      cases t with
      | frz x =>
        cases n with
        | zero => cases hx
        | succ n =>
          obtain ⟨ds, hg, hx⟩ := xS_frz (show xS Φ W.G H (n + 1) (.frz x) ρ (fun σ => xSs Φ W.G H (n + 1) ts σ K R X) R X from hx)
          obtain ⟨O', fp', I', kp'⟩ := I.frz bo hg
          exact ih.ss bo (cs_frz hc) I' hx Q Ex (NK.go (tk := s.toks) hN kp') hR hE hP
      | _ => cases q
    | none =>
      refine cs_one q hc fun st sts' h1 h2 => ?_
      refine wpAny_execs_cons (ih.s bo h1 I hx _ Ex (fun σ O' fp' h' tk hK I' kp' => ?_) (fun d v σ O' fp' h' tk h1 h2 h3 => hR d v σ O' fp' h' tk h1 h2 h3) hE hP)
      exact ih.ss (s := { s with heap := h', toks := tk }) bo h2 I' hK Q Ex (NK.go hN kp') hR hE hP
theorem sAll (ok : WOk W) (XA : ∀ n, XOk W Φ k n) (NR : NewRecvOk W k) (SP : ∀ n, SpecOk W Φ H k n) : ∀ n, SOk W Φ H k n
  | 0 => ⟨fun _ _ _ hx => (by cases hx), fun _ _ _ hx => (by cases hx)⟩
  | n + 1 => ⟨fun bo hc I hx => xS_step ok XA NR (sAll ok XA NR SP n) (SP n) bo hc I hx, fun bo hc I hx => xSs_step (sAll ok XA NR SP n) bo hc I hx⟩
end
end Mine
set_option Elab.async false
set_option maxRecDepth 100000
set_option maxHeartbeats 4000000
namespace Mine
set_option tactic.hygienic false
open PySem PyProof.Rows PySem.W

/-! ## a def's call -/
theorem cells_some : ∀ {names : List (Str × NameKind)} {n : Nat} {acc : List (Str × Addr)} {x : Str}, ((x, NameKind.cell) ∈ names ∨ (acc.lookup x).isSome = true) → ((cellsFrom n names acc).lookup x).isSome = true := by
  intro names
  induction names with
  | nil => intro n acc x h; rcases h with h | h; cases h; exact h
  | cons p r ih =>
    intro n acc x h
    obtain ⟨name, kind⟩ := p
    unfold cellsFrom
    split
    · rename_i hk
      refine ih ?_
      rcases h with h | h
      · rcases List.mem_cons.mp h with e | h
        · cases e; right; simp [List.lookup_cons]
        · exact .inl h
      · right
        rw [List.lookup_cons]
        split
        · rfl
        · exact h
    · rename_i hk
      refine ih ?_
      rcases h with h | h
      · rcases List.mem_cons.mp h with e | h
        · cases e; exact absurd rfl hk
        · exact .inl h
      · exact .inr h
theorem bindL_not (kd : Str → Option NameKind) : ∀ {bs : List (Str × Value)} {m : Str → Option Value} {n : Str}, n ∉ bs.map (·.1) → bindL kd bs m n = m n := by
  intro bs
  induction bs with
  | nil => intro m n _; rfl
  | cons p r ih =>
    intro m n h
    obtain ⟨x, v⟩ := p
    unfold bindL
    rw [ih (fun q => h (by simp [q]))]
    have hne : n ≠ x := fun q => h (by simp [q])
    split <;> simp [hne]
theorem bindC_not (kd : Str → Option NameKind) : ∀ {bs : List (Str × Value)} {m : Str → Option Value} {n : Str}, n ∉ bs.map (·.1) → bindC kd bs m n = m n := by
  intro bs
  induction bs with
  | nil => intro m n _; rfl
  | cons p r ih =>
    intro m n h
    obtain ⟨x, v⟩ := p
    unfold bindC
    rw [ih (fun q => h (by simp [q]))]
    have hne : n ≠ x := fun q => h (by simp [q])
    split <;> simp [hne]
theorem bindL_mem (kd : Str → Option NameKind) : ∀ {bs : List (Str × Value)} {m : Str → Option Value} {n : Str} {v : Value}, (bs.map (·.1)).Nodup → (n, v) ∈ bs → kd n = some .local → bindL kd bs m n = some v := by
  intro bs
  induction bs with
  | nil => intro m n v _ h; cases h
  | cons p r ih =>
    intro m n v hn hm hk
    rw [List.map_cons, List.nodup_cons] at hn
    rcases List.mem_cons.mp hm with rfl | hm'
    · unfold bindL
      rw [bindL_not kd hn.1, if_pos hk]; simp
    · obtain ⟨x, w⟩ := p
      unfold bindL
      exact ih hn.2 hm' hk
theorem bindC_mem (kd : Str → Option NameKind) : ∀ {bs : List (Str × Value)} {m : Str → Option Value} {n : Str} {v : Value}, (bs.map (·.1)).Nodup → (n, v) ∈ bs → kd n ≠ some .local → bindC kd bs m n = some v := by
  intro bs
  induction bs with
  | nil => intro m n v _ h; cases h
  | cons p r ih =>
    intro m n v hn hm hk
    rw [List.map_cons, List.nodup_cons] at hn
    rcases List.mem_cons.mp hm with rfl | hm'
    · unfold bindC
      rw [bindC_not kd hn.1, if_neg hk]; simp
    · obtain ⟨x, w⟩ := p
      unfold bindC
      exact ih hn.2 hm' hk
/-- what a text's def must be -/
structure FnF (W : Wd) (fd : FuncData) (ps : List Nat) (body : List Stmt) (ts : List S) (m : Nat) : Prop where
  bdy : fd.body = .stmts body
  clo : fd.closure = []
  glob : fd.globals = mainGlobals
  bui : fd.builtins = builtinsNs
  co : fd.scope.isCoroutine = false
  gen : fd.scope.isGenerator = false
  kind : fd.scope.kind = .function
  bind : ∀ vs : List Value, vs.length = ps.length → bindArgs fd ⟨vs, []⟩ = pure ((ps.map W.nm).zip vs)
  par : ∀ p ∈ ps, p < W.nn ∧ isLoc fd.scope (W.nm p) = true
  nodup : ps.Nodup
  chk : chkSs W.toNms W.nn m fd.scope body ts = true
/-- the arguments of a call, with what may be changed through them -/
inductive ArgsM (W : Wd) (O : Addr → Prop) (l : List Env) (h : Heap) (M : List Addr) : List Value → List (List Addr) → List LV → Prop
  | nil : ArgsM W O l h M [] [] []
  | cons {v : Value} {vs : List Value} {F : List Addr} {Fs : List (List Addr)} {x : LV} {xs : List LV} : LVOk W O h F v x → (∀ a ∈ F, O a ∧ a ∉ fsOf l) → (∀ ds, x ≠ .own ds) → (∀ r, x = .rcv r → ∀ a ∈ F, a ∈ M ∧ ∀ G ∈ Fs, a ∉ G) → (∀ r, LV.rcv r ∉ xs) →
      ArgsM W O l h M vs Fs xs → ArgsM W O l h M (v :: vs) (F :: Fs) (x :: xs)
theorem ArgsM.len {W : Wd} {O : Addr → Prop} {l : List Env} {h : Heap} {M : List Addr} {vs : List Value} {Fs : List (List Addr)} {xs : List LV} (x : ArgsM W O l h M vs Fs xs) : vs.length = xs.length ∧ Fs.length = xs.length := by
  induction x with
  | nil => exact ⟨rfl, rfl⟩
  | cons _ _ _ _ _ _ ih => simp [ih.1, ih.2]
noncomputable def bdOf (A : Around) (l : List Env) (O : Addr → Prop) (h : Heap) (M : List Addr) (rid : Option (Value × List Addr)) (env : Env) : Bd := { A := A.deeper env, l0 := l, env := env, O0 := O, h0 := h, B0 := hideAll h (fsOf l ++ M), rid := rid }
/-- where the names' own objects lie -/
noncomputable def fpOf : List Nat → List (List Addr) → Nat → List Addr
  | p :: ps, F :: Fs, y => if y = p then F else fpOf ps Fs y
  | _, _, _ => []
theorem zip_get : ∀ {ps : List Nat} {xs : List LV} {x : Nat} {lv : LV}, Loc.get (ps.zip xs) x = some lv → ∃ i : Nat, ps[i]? = some x ∧ xs[i]? = some lv
  | [], _, _, _, h => by cases h
  | _ :: _, [], _, _, h => by cases h
  | p :: ps, y :: xs, x, lv, h => by
    simp only [List.zip_cons_cons, Loc.get] at h
    split at h
    · rename_i hb
      cases h
      exact ⟨0, by simp [Nat.eq_of_beq_eq_true hb], rfl⟩
    · obtain ⟨i, h1, h2⟩ := zip_get h
      exact ⟨i + 1, by simpa using h1, by simpa using h2⟩
theorem ArgsM.at {W : Wd} {O : Addr → Prop} {l : List Env} {h : Heap} {M : List Addr} {vs : List Value} {Fs : List (List Addr)} {xs : List LV} (x : ArgsM W O l h M vs Fs xs) {i : Nat} {lv : LV} (hi : xs[i]? = some lv) :
    ∃ v F, vs[i]? = some v ∧ Fs[i]? = some F ∧ LVOk W O h F v lv ∧ (∀ a ∈ F, O a ∧ a ∉ fsOf l) ∧ (∀ ds, lv ≠ .own ds) ∧ (∀ r, lv = .rcv r → ∀ a ∈ F, a ∈ M) := by
  induction x generalizing i with
  | nil => simp at hi
  | @cons v vs F Fs y xs a c d e _ _ ih =>
    cases i with
    | zero => simp at hi; subst hi; exact ⟨v, F, rfl, rfl, a, c, d, fun r q z hz => (e r q z hz).1⟩
    | succ i => simpa using ih (by simpa using hi)
theorem fpOf_at : ∀ {ps : List Nat} {Fs : List (List Addr)} {i x : Nat} {F : List Addr}, ps.Nodup → ps[i]? = some x → Fs[i]? = some F → fpOf ps Fs x = F
  | [], _, _, _, _, _, h, _ => by simp at h
  | _ :: _, [], _, _, _, _, _, h => by simp at h
  | p :: ps, G :: Fs, 0, x, F, _, h1, h2 => by simp at h1 h2; subst h1 h2; simp [fpOf]
  | p :: ps, G :: Fs, i + 1, x, F, hn, h1, h2 => by
    rw [List.nodup_cons] at hn
    have hx : x ≠ p := fun e => hn.1 (e ▸ List.mem_of_getElem? (by simpa using h1 : ps[i]? = some x))
    simp only [fpOf, if_neg hx]
    exact fpOf_at hn.2 (by simpa using h1) (by simpa using h2)
theorem fpOf_mem : ∀ {ps : List Nat} {Fs : List (List Addr)} {x : Nat} {a : Addr}, a ∈ fpOf ps Fs x → ∃ (i : Nat) (F : List Addr), ps[i]? = some x ∧ Fs[i]? = some F ∧ a ∈ F
  | [], _, _, _, h => by simp [fpOf] at h
  | _ :: _, [], _, _, h => by simp [fpOf] at h
  | p :: ps, G :: Fs, x, a, h => by
    simp only [fpOf] at h
    split at h
    · rename_i e; exact ⟨0, G, by simp [e], rfl, h⟩
    · obtain ⟨i, F, h1, h2, h3⟩ := fpOf_mem h
      exact ⟨i + 1, F, by simpa using h1, by simpa using h2, h3⟩
theorem ArgsM.off {W : Wd} {O : Addr → Prop} {l : List Env} {h : Heap} {M : List Addr} {vs : List Value} {Fs : List (List Addr)} {xs : List LV} (x : ArgsM W O l h M vs Fs xs) {i : Nat} {F : List Addr} (hi : Fs[i]? = some F) : ∀ a ∈ F, O a ∧ a ∉ fsOf l := by
  induction x generalizing i with
  | nil => simp at hi
  | @cons v vs F' Fs y xs a c d e _ _ ih =>
    cases i with
    | zero => simp at hi; subst hi; exact c
    | succ i => exact ih (by simpa using hi)
/-- a receiver's own objects are no other argument's -/
theorem ArgsM.apart {W : Wd} {O : Addr → Prop} {l : List Env} {h : Heap} {M : List Addr} {vs : List Value} {Fs : List (List Addr)} {xs : List LV} (x : ArgsM W O l h M vs Fs xs) {i : Nat} {r : List Int} (hi : xs[i]? = some (.rcv r)) :
    i = 0 ∧ ∀ F, Fs[i]? = some F → ∀ j G, j ≠ i → Fs[j]? = some G → ∀ a ∈ F, a ∉ G := by
  cases x with
  | nil => simp at hi
  | @cons v vs F' Fs y xs a c d e g _ =>
    cases i with
    | zero =>
      simp at hi; subst hi
      refine ⟨rfl, fun F hF j G hj hG z hz => ?_⟩
      simp at hF; subst hF
      cases j with
      | zero => exact absurd rfl hj
      | succ j => exact (e r rfl z hz).2 G (List.mem_of_getElem? (by simpa using hG : Fs[j]? = some G))
    | succ i => exact absurd (List.mem_of_getElem? (by simpa using hi : xs[i]? = some (.rcv r))) (g r)
end Mine
set_option Elab.async false
set_option maxRecDepth 100000
set_option maxHeartbeats 4000000
namespace Mine
set_option tactic.hygienic false
open PySem PyProof.Rows PySem.W
/-- how a call ends -/
noncomputable def FinM (W : Wd) (b : Bd) (s : Shared) (KR : D → Loc → Prop) (X : Loc → Prop) (r : Result) (s' : Shared) : Prop :=
  match r with
  | .ok (.ret v) => ∃ d σ O' fp' h' tk, s' = { s with heap := h', toks := tk } ∧ KR d σ ∧ Inv W b O' fp' h' σ ∧ Den W.st O' h' v d
  | .ok _ => False
  | .error e => (∃ σ, X σ) ∧ ∃ a a0 h' tk, s' = { s with heap := h', toks := tk } ∧ e = .ref a ∧ Heap.FlyingW b.B0 b.l0 a (.type "ValueError") a0 h' ∧ Fr0 b h'
section
variable {W : Wd} {Φ : Phi} {H : HSpec} {k n : Nat}
theorem call_body (ok : WOk W) {A : Around} {l : List Env} {O : Addr → Prop} {s : Shared} {M : List Addr} {fd : FuncData} {ps : List Nat} {body : List Stmt} {ts : List S} {m : Nat} {a : Addr} {o : Obj}
    (F : FnF W fd ps body ts m) (ho : W.Hb.get? a = some o) (hd : o.data = .func fd) (hcode : W.Hb.CodeRec fd.code fd.qualname) (So : SOk W Φ H k n) (S : Stn W A l O s.heap) (rm : Room A (k + 1))
    (hMH : ∀ c ∈ M, W.Hb.get? c = none) {vs : List Value} {Fs : List (List Addr)} {xs : List LV} (hl : ps.length = xs.length) (V : ArgsM W O l s.heap M vs Fs xs) {K : Loc → Prop} {KR : D → Loc → Prop} {X : Loc → Prop}
    (hx : xSs Φ W.G H n ts (ps.zip xs) K KR X) {R : Result → Shared → Prop} {rid : Option (Value × List Addr)} (hrid : ∀ v F, rid = some (v, F) → isGlob fd.scope ("Receiver" : Str) = false ∧ ∀ (i : Nat) (r : List Int), xs[i]? = some (.rcv r) → vs[i]? = some v ∧ Fs[i]? = some F) (hK : ∀ σ, K σ → KR .none σ) (hR : ∀ r s', FinM W (bdOf A l O s.heap M rid (callEnvC fd s.heap.objs.size a)) s KR X r s' → R r s') :
    codeAny (model W.prog W.w) A (.call (.ref a) ⟨vs, []⟩) R s := by
  obtain ⟨vl, Fl⟩ := V.len
  have hps : (ps.map W.nm).Nodup := by
    rw [List.Nodup, List.pairwise_map]
    exact F.nodup.imp_of_mem fun {x y} hx hy hne e => hne (ok.nmInj x y (F.par x hx).1 (F.par y hy).1 e)
  have zfst : ((ps.map W.nm).zip vs).map (·.1) = ps.map W.nm := by
    have : ∀ (xs : List Str) (ys : List Value), xs.length = ys.length → (xs.zip ys).map (·.1) = xs := by
      intro xs
      induction xs with
      | nil => intro ys _; simp
      | cons x xs ih => intro ys h; cases ys with
        | nil => simp at h
        | cons y ys => simp only [List.zip_cons_cons, List.map_cons]; rw [ih ys (by simpa using h)]
    exact this _ _ (by simp [hl, vl])
  have frH : ∀ c ∈ fsOf l, W.Hb.get? c = none := fun c hc => (S.funs.mem hc).1
  have cellOk : ∀ x n, fd.scope.names.lookup x = some .cell → ((cellsFrom n fd.scope.names []).lookup x).isSome = true := fun x n q => cells_some (.inl (mem_of_lookup q))
  refine codeAny_call_cells (fd := fd) (o := o) (binds := (ps.map W.nm).zip vs) (by have := rm.depth; show A.depth < 1000; (first | lia | omega)) (S.stays _ _ ho) hd (ok.nolimit.keeps S.stays) ?_ F.bdy (F.bind vs (by rw [vl, hl])) F.clo ?_ ?_ F.co F.gen F.kind
  · obtain ⟨c, oc, us, t, h1, h2, h3⟩ := hcode
    exact ⟨c, oc, us, t, h1, S.stays _ _ h2, h3⟩
  · intro x hx
    obtain ⟨p, hp, hpe⟩ := List.mem_map.mp (List.of_mem_zip hx).1
    have := (F.par p hp).2
    simp only [isLoc, Bool.and_eq_true, Bool.or_eq_true, beq_iff_eq] at this
    rw [hpe] at this
    rcases this.1 with q | q
    · exact .inl q
    · exact .inr ⟨q, cellOk _ _ q⟩
  intro s₁ C
  obtain ⟨h₁, tk₁, rfl⟩ := C.toInCall.same
  have keep := C.toInCall.keep
  have ns := C.toInCall.ns
  have Lsz : (callEnvC fd s.heap.objs.size a).locals = s.heap.objs.size := rfl
  generalize henv : callEnvC fd s.heap.objs.size a = env at *
  have ek : env.scope = fd.scope := by rw [← henv]; rfl
  have efr : env.frame = some env.locals := by rw [← henv]; rfl
  have eg : env.globals = mainGlobals := by rw [← henv]; exact F.glob
  have eb : env.builtins = builtinsNs := by rw [← henv]; exact F.bui
  have ecells : env.cells = cellsFrom (s.heap.objs.size + 1) fd.scope.names [] := by rw [← henv]; rfl
  have new : ∀ c, s.heap.objs.size ≤ c → s.heap.get? c = none := fun c hc => by
    cases q : s.heap.get? c with
    | none => rfl
    | some o => exact absurd (Heap.lt_size q) (Nat.not_lt.mpr hc)
  have cnew : ∀ x c, env.cells.lookup x = some c → s.heap.get? c = none ∧ c ≠ env.locals := fun x c q => by
    have := C.above x c (mem_of_lookup q)
    exact ⟨new c (Nat.le_of_lt (Lsz ▸ this)), Nat.ne_of_gt this⟩
  let b := bdOf A l O s.heap M rid env
  have lowB : b.B0.StaysIn s.heap := fun c o q => of_hideAll _ q
  have hbB : W.Hb.StaysIn b.B0 := fun c o q => hideAll_get _ (S.stays c o q) fun hm => by
    rcases List.mem_append.mp hm with hm | hm
    · rw [frH c hm] at q; cases q
    · rw [hMH c hm] at q; cases q
  have bo : BdOk W k b := {
    eok := ⟨by rw [show b.env = env from rfl, ek]; exact F.kind, eg, eb, fun x q => by
      have q' : fd.scope.names.lookup x = some .cell := by rw [← ek]; exact q
      obtain ⟨c, hc⟩ := Option.isSome_iff_exists.mp (cellOk x (s.heap.objs.size + 1) q')
      exact ⟨c, by rw [show b.env = env from rfl, ecells]; exact hc⟩⟩
    room := ⟨by have := rm.depth; show A.depth + 1 + k < 600; (first | lia | omega), by have := rm.units; show A.units + 3 + 10 * k < 9000; (first | lia | omega)⟩
    fr := efr
    frames := Around.frames_deeper S.frames
    handled := S.handled
    new := new _ (Nat.le_of_eq Lsz.symm)
    low := lowB
    hb := hbB
    old := fun c hc => (S.fresh c hc).2
    fold := fun c hc => (S.fresh c (S.sub c hc)).2
    apart := C.apart
    cellNew := cnew
    rid := fun q => by
      cases h : rid with
      | none => exact absurd h q
      | some p => obtain ⟨v, F'⟩ := p; rw [show b.env = env from rfl, ek]; exact (hrid v F' h).1 }
  have I : Inv W b (fun c => O c ∨ c = env.locals ∨ ∃ x, env.cells.lookup x = some c) (fpOf ps Fs) h₁ (ps.zip xs) := by
    have st : W.Hb.StaysIn h₁ := fun c o q => keep c o (S.stays c o q)
    have ev : Ev (fsOf l) s.heap h₁ := Ev.of keep
    have hOk : ∀ {c : Addr} {ob : Obj}, ¬ O c → s.heap.get? c = some ob → ¬ (O c ∨ c = env.locals ∨ ∃ x, env.cells.lookup x = some c) ∧ h₁.get? c = some ob := fun {c ob} h1 h2 => by
      refine ⟨?_, keep c ob h2⟩
      rintro (q | q | ⟨x, q⟩)
      · exact h1 q
      · rw [q, new _ (Nat.le_of_eq Lsz.symm)] at h2; cases h2
      · rw [(cnew x c q).1] at h2; cases h2
    have lv : ∀ {G : List Addr} {v : Value} {y : LV}, LVOk W O s.heap G v y → LVOk W (fun c => O c ∨ c = env.locals ∨ ∃ x, env.cells.lookup x = some c) h₁ G v y := fun {G v y} z =>
      z.gr ok ⟨fun _ q => .inl q, fun c o e => ⟨o.slots, keep c o e⟩, fun c o h1 h2 => hOk h1 h2⟩ (fun c o _ e => keep c o e) st
    have rdv : ∀ (i x : Nat) (v : Value), ps[i]? = some x → vs[i]? = some v → Rd env h₁ (W.nm x) v := by
      intro i x v h1 g1
      have hp := List.mem_of_getElem? h1
      have hm : (W.nm x, v) ∈ (ps.map W.nm).zip vs := by
        refine List.mem_of_getElem? (i := i) ?_
        rw [List.getElem?_zip_eq_some]
        exact ⟨by simp [h1], g1⟩
      have hk := (F.par x hp).2
      simp only [isLoc, Bool.and_eq_true, Bool.or_eq_true, beq_iff_eq] at hk
      have hnd : (((ps.map W.nm).zip vs).map (·.1)).Nodup := by rw [zfst]; exact hps
      rcases hk.1 with q | q
      · have q' : env.kindOf (W.nm x) = some .local := by show env.scope.names.lookup _ = _; rw [ek]; exact q
        exact .inl ⟨q', _, ns, bindL_mem _ hnd hm q'⟩
      · have q' : env.kindOf (W.nm x) = some .cell := by show env.scope.names.lookup _ = _; rw [ek]; exact q
        obtain ⟨c, hc⟩ := bo.eok.cells _ q'
        refine .inr ⟨q', c, hc, ?_⟩
        have := C.cell _ c hc
        rwa [bindC_mem _ hnd hm (by rw [q']; intro z; cases z)] at this
    refine { base := fun c o q => keep c o (lowB c o q), funs := ?_, fr0 := fun f hf o q => ⟨o.slots, keep f o q⟩, all := fun c o q => ⟨o, keep c o q⟩, sub := fun c q => .inl q, fsub := ?_, fresh := ?_, ns := ⟨_, ns⟩, cell := fun x c q => ⟨.inr (.inr ⟨x, q⟩), _, C.cell x c q⟩, rel := ⟨?_, ?_, ?_⟩, fpc := ?_, own := ?_, rcv := ?_, rid := ?_ }
    · refine ⟨(by rw [show b.env = env from rfl, ek, F.kind]; intro q; cases q), ⟨env.locals, ?_⟩, ?_⟩
      · obtain ⟨o, es, ep, h1, h2, _⟩ := ns
        exact ⟨o, efr, fresh_of lowB (new _ (Nat.le_of_eq Lsz.symm)), h1, fun vs q => by rw [h2] at q; cases q⟩
      · have go : ∀ {l' : List Env}, (∀ c ∈ fsOf l', c ∈ fsOf l) → s.heap.FunFrames W.Hb l' → h₁.FunFrames b.B0 l' := by
          intro l'
          induction l' with
          | nil => intro _ _; trivial
          | cons e r ih =>
            rintro hs ⟨hk, ⟨L, o, hf, hn, ho, hd⟩, hr⟩
            refine ⟨hk, ⟨L, o, hf, hideAll_none _ (List.mem_append_left _ (hs L (List.mem_filterMap.mpr ⟨e, List.mem_cons_self, hf⟩))), keep L o ho, hd⟩, ih (fun c hc => hs c ?_) hr⟩
            obtain ⟨e', he', hf'⟩ := List.mem_filterMap.mp hc
            exact List.mem_filterMap.mpr ⟨e', List.mem_cons_of_mem _ he', hf'⟩
        exact go (fun _ q => q) S.funs
    · intro c hc
      rcases bo.mem.mp hc with q | q
      · exact .inr (.inl q)
      · exact .inl (S.sub c q)
    · rintro c (q | q | ⟨x, q⟩)
      · obtain ⟨h1, o, h2⟩ := S.fresh c q; exact ⟨h1, o, keep c o h2⟩
      · obtain ⟨o, es, ep, h1, _⟩ := ns
        exact ⟨fresh_of S.stays (new c (by rw [q]; exact Nat.le_of_eq Lsz.symm)), o, by rw [q]; exact h1⟩
      · obtain ⟨o, h1, _⟩ := C.cell x c q
        exact ⟨fresh_of S.stays (cnew x c q).1, o, h1⟩
    · intro x y hy
      obtain ⟨i, h1, h2⟩ := zip_get hy
      obtain ⟨v, G, g1, g2, g3, g4, g5, g6⟩ := V.at h2
      refine ⟨v, rdv i x v h1 g1, by rw [fpOf_at F.nodup h1 g2]; exact lv g3⟩
    · intro y c hc
      obtain ⟨i, G, h1, h2, h3⟩ := fpOf_mem hc
      obtain ⟨p1, p2⟩ := V.off h2 c h3
      refine ⟨.inl p1, fun hm => ?_⟩
      rcases bo.mem.mp hm with q | q
      · obtain ⟨o, ho⟩ := (S.fresh c p1).2
        rw [show b.env.locals = env.locals from rfl] at q
        rw [q, new _ (Nat.le_of_eq Lsz.symm)] at ho; cases ho
      · exact p2 q
    · intro x y hy
      obtain ⟨i, h1, _⟩ := zip_get hy
      exact (F.par x (List.mem_of_getElem? h1)).1
    · intro y c hc x e he q
      obtain ⟨i, G, h1, h2, h3⟩ := fpOf_mem hc
      obtain ⟨o, ho⟩ := (S.fresh c (V.off h2 c h3).1).2
      rw [q, (cnew x e he).1] at ho; cases ho
    · intro x ds hy
      obtain ⟨i, h1, h2⟩ := zip_get hy
      obtain ⟨v, G, g1, g2, g3, g4, g5, g6⟩ := V.at h2
      exact absurd rfl (g5 ds)
    · intro x r hy c hc
      obtain ⟨i, h1, h2⟩ := zip_get hy
      obtain ⟨v, G, g1, g2, g3, g4, g5, g6⟩ := V.at h2
      rw [fpOf_at F.nodup h1 g2] at hc
      refine ⟨hideAll_none _ (List.mem_append_right _ (g6 r rfl c hc)), fun y hy' hm => ?_⟩
      obtain ⟨j, G', j1, j2, j3⟩ := fpOf_mem hm
      refine (V.apart h2).2 G g2 j G' (fun e => ?_) j2 c hc j3
      rw [e, h1] at j1; cases j1; exact hy' rfl
    · intro v F' q x r hy
      obtain ⟨i, h1, h2⟩ := zip_get hy
      obtain ⟨g1, g2⟩ := (hrid v F' q).2 i r h2
      exact ⟨rdv i x v h1 g1, fpOf_at F.nodup h1 g2⟩
  have chk : chkSs W.toNms W.nn m b.env.scope body ts = true := by rw [show b.env.scope = env.scope from rfl, ek]; exact F.chk
  refine So.ss (s := { s with heap := h₁, toks := tk₁ }) bo chk I hx _ _ (fun σ O' fp' h' tk hK' I' _ => ?_) (fun d v σ O' fp' h' tk h1 h2 h3 => ?_) (fun er σ h' tk hX hst => ?_) PassesOwn.leaving
  · exact hR _ _ ⟨.none, σ, O', fp', h', tk, rfl, hK σ hK', I', .none⟩
  · exact hR _ _ ⟨d, σ, O', fp', h', tk, rfl, h1, h2, h3⟩
  · have up : ∀ {g g' : Heap}, g.FunFrames b.B0 b.l → Fr0 b g → g.UpToSlots g' → Fr0 b g' := fun {g g'} ff fr u f hf o q => by
      obtain ⟨sl, z⟩ := fr f hf o q
      obtain ⟨_, o', z', nf⟩ := ff.mem (bo.mem.mpr (.inr hf))
      rw [z] at z'; cases z'
      obtain ⟨sl', w⟩ := u f _ z nf
      exact ⟨sl', w⟩
    rcases hst with ⟨e, a0, rfl, fl, fr⟩ | ⟨e, g, args, rfl, hb1, hb2, hb3, hm⟩
    · exact wpAny_leaves_onW (s := { s with heap := h', toks := tk }) bo.frames bo.fr fl fun h₂ fl₂ u => hR _ _ ⟨⟨σ, hX⟩, e, a0, h₂, tk, rfl, rfl, fl₂, up fl.2.2.1 fr u⟩
    · refine wpAny_leaves_madeW (s := { s with heap := h', toks := tk }) bo.frames bo.fr hb1 hb2 hm fun h₂ t fl₂ _ _ u => hR _ _ ⟨⟨σ, hX⟩, e, .ref t, h₂, tk, rfl, rfl, fl₂, ?_⟩
      exact up (hb2.of_keeps fun c o q _ => ⟨o, hm.keeps c o q, rfl⟩) (fun f hf o q => let ⟨sl, z⟩ := hb3 f hf o q; ⟨sl, hm.keeps _ _ z⟩) u
end
end Mine
set_option Elab.async false
set_option maxRecDepth 100000
set_option maxHeartbeats 4000000
namespace Mine
set_option tactic.hygienic false
open PySem PyProof.Rows PySem.W
theorem ArgsOk.m {W : Wd} {O : Addr → Prop} {l : List Env} {h : Heap} {vs : List Value} {xs : List LV} (x : ArgsOk W O l h vs xs) : ∃ Fs, ArgsM W O l h [] vs Fs xs ∧ ∀ r, LV.rcv r ∉ xs := by
  induction x with
  | nil => exact ⟨[], .nil, nofun⟩
  | @cons v vs x xs a c _ ih =>
    obtain ⟨Fs, ih, hr⟩ := ih
    cases x with
    | v d => exact ⟨[] :: Fs, .cons a nofun nofun nofun hr ih, fun r hm => by rcases List.mem_cons.mp hm with q | q; cases q; exact hr r q⟩
    | brw ds =>
      obtain ⟨b, us, rfl, q2, q3, q4, q5⟩ := a
      refine ⟨[b] :: Fs, .cons ⟨b, us, rfl, rfl, q2, q3, q4, q5⟩ (fun z hz => ?_) nofun nofun hr ih, fun r hm => by rcases List.mem_cons.mp hm with q | q; cases q; exact hr r q⟩
      simp at hz; subst hz
      exact ⟨q2, c z ds rfl rfl⟩
    | _ => cases a
/-- a def of the text, as the small syntax has it -/
noncomputable def FnAt (W : Wd) (f : Nat) (ps : List Nat) (ts : List S) (m : Nat) : Prop :=
  ∃ a o fd body, W.mg (W.fnm f) = some (.ref a) ∧ W.Hb.get? a = some o ∧ o.data = .func fd ∧ W.Hb.CodeRec fd.code fd.qualname ∧ FnF W fd ps body ts m
section
variable {W : Wd} {Φ : Phi} {H : HSpec} {k n : Nat}
theorem fn_ok (ok : WOk W) {f : Nat} {ps : List Nat} {ts : List S} {m : Nat} (F : FnAt W f ps ts m) (So : SOk W Φ H k n) {A : Around} {l : List Env} {O : Addr → Prop} {s : Shared} {args : List LV} {vs : List Value} {K : D → Prop} {X : Prop} {a : Addr}
    (ha : W.mg (W.fnm f) = some (.ref a)) (S : Stn W A l O s.heap) (rm : Room A (k + 1)) (V : ArgsOk W O l s.heap vs args) (hx : xF Φ W.G H n ps ts args K X) :
    codeAny (model W.prog W.w) A (.call (.ref a) ⟨vs, []⟩) (CallOk W l O s K X) s := by
  obtain ⟨a', o, fd, body, h1, h2, h3, h4, h5⟩ := F
  rw [h1] at ha; cases ha
  obtain ⟨Fs, V', _⟩ := V.m
  refine call_body (M := []) ok h5 h2 h3 h4 So S rm (fun c hc => absurd hc List.not_mem_nil) hx.1 V' hx.2 (rid := none) nofun (fun σ q => q) fun r s' hr => ?_
  have inB : ∀ c ob, c ∉ fsOf l → s.heap.get? c = some ob → (hideAll s.heap (fsOf l ++ [])).get? c = some ob := fun c ob h1 h2 => hideAll_get _ h2 (by simpa using h1)
  have hHB : W.Hb.StaysIn (hideAll s.heap (fsOf l ++ [])) := fun c ob q => inB c ob (fun hm => by rw [(S.funs.mem hm).1] at q; cases q) (S.stays c ob q)
  cases r with
  | ok fl =>
    cases fl with
    | ret v =>
      obtain ⟨d, σ, O', fp', h', tk, rfl, hK, I, hv⟩ := hr
      refine ⟨d, h', tk, rfl, hK, ⟨fun c ob h1 h2 => I.base c ob (inB c ob h1 h2), fun c ob h1 h2 => I.fr0 c h1 ob h2⟩, hv.to fun c ob h1 h2 => ⟨fun q => h1 (I.sub c q), h2⟩⟩
    | _ => cases hr
  | error e =>
    obtain ⟨⟨_, hX⟩, a, a0, h', tk, rfl, rfl, fl, fr⟩ := hr
    exact ⟨hX, h', tk, rfl, a, _, a0, rfl, fl, inB, ⟨fun c ob h1 h2 => fl.1 c ob (inB c ob h1 h2), fun c ob h1 h2 => fr c h1 ob h2⟩, hHB⟩
end
theorem phi_ok {W : Wd} {H : HSpec} {N m : Nat} {par : Nat → List Nat} {bod : Nat → List S} (ok : WOk W) {top : Nat} (fns : ∀ f, f < top → FnAt W f (par f) (bod f) m) (full : ∀ Φ k, PhiOk W Φ k → SOk W Φ H k N) :
    ∀ i k, i ≤ k → i ≤ top → PhiOk W (PhiUp W.G H N par bod i) k := by
  intro i
  induction i with
  | zero => intro k _ _ f a _ A l O s args vs K X _ _ _ h; cases h
  | succ i ih =>
    intro k hk ht f a ha A l O s args vs K X S rm V hx
    simp only [PhiUp] at hx
    split at hx
    · rename_i e; cases Nat.eq_of_beq_eq_true e
      cases k with
      | zero => (first | lia | omega)
      | succ k => exact fn_ok ok (fns _ (by (first | lia | omega))) (full _ k (ih k (by (first | lia | omega)) (by (first | lia | omega)))) ha S rm V hx
    · exact ih k (by (first | lia | omega)) (by (first | lia | omega)) f a ha A l O s args vs K X S rm V hx
end Mine
set_option Elab.async false
set_option maxRecDepth 100000
set_option maxHeartbeats 4000000
namespace Mine
open PySem PyProof.Rows

/-! ## comprehensions: the cells they close over -/
theorem closure_ok {env : Env} {scope : Scope} (hf : ∀ x ∈ scope.names, x.2 = .free → ∃ c, env.cells.lookup x.1 = some c) :
    ∃ cl, closureFor scope env = pure cl ∧ (∀ n, (n, NameKind.free) ∈ scope.names → ∃ c, cl.lookup n = some c) ∧ ∀ n c, cl.lookup n = some c → env.cells.lookup n = some c := by
  have key : ∀ (names : List (Str × NameKind)) (acc : List (Str × Addr)), (∀ x ∈ names, x.2 = .free → ∃ c, env.cells.lookup x.1 = some c) → (∀ n c, acc.lookup n = some c → env.cells.lookup n = some c) →
      ∃ cl, (forIn names acc fun x r => (match x with | (name, kind) => if kind == .free then do let a ← cellOf env name; pure (ForInStep.yield ((name, a) :: r)) else pure (ForInStep.yield r) : Sem (ForInStep (List (Str × Addr))))) = pure cl ∧
        (∀ n, (n, NameKind.free) ∈ names → ∃ c, cl.lookup n = some c) ∧ (∀ n c, acc.lookup n = some c → ∃ c', cl.lookup n = some c') ∧ ∀ n c, cl.lookup n = some c → env.cells.lookup n = some c := by
    intro names
    induction names with
    | nil => intro acc _ ha; exact ⟨acc, rfl, nofun, fun n c q => ⟨c, q⟩, ha⟩
    | cons x r ih =>
      intro acc hx ha
      obtain ⟨name, kind⟩ := x
      rw [List.forIn_cons]
      by_cases hk : kind = .free
      · subst hk
        obtain ⟨c, hc⟩ := hx (name, .free) List.mem_cons_self rfl
        have e : cellOf env name = pure c := by unfold cellOf; rw [hc]
        obtain ⟨cl, h1, h2, h3, h4⟩ := ih ((name, c) :: acc) (fun y hy => hx y (List.mem_cons_of_mem _ hy)) (fun n d q => by
          rw [List.lookup_cons] at q
          split at q
          · rename_i hb; cases q; rw [beq_iff_eq.mp hb]; exact hc
          · exact ha n d q)
        refine ⟨cl, ?_, fun n hn => ?_, fun n d q => ?_, h4⟩
        · simp only [beq_self_eq_true, if_true, e, pure_bind]; exact h1
        · rcases List.mem_cons.mp hn with q | q
          · cases q; exact h3 name c (by simp [List.lookup_cons])
          · exact h2 n q
        · cases hb : n == name with
          | true => exact h3 n c (by simp [List.lookup_cons, hb])
          | false => exact h3 n d (by simp [List.lookup_cons, hb, q])
      · obtain ⟨cl, h1, h2, h3, h4⟩ := ih acc (fun y hy => hx y (List.mem_cons_of_mem _ hy)) ha
        have hb : (kind == NameKind.free) = false := by simpa using hk
        refine ⟨cl, ?_, fun n hn => ?_, h3, h4⟩
        · simp only [hb, Bool.false_eq_true, if_false, pure_bind]; exact h1
        · rcases List.mem_cons.mp hn with q | q
          · cases q; exact absurd rfl hk
          · exact h2 n q
  obtain ⟨cl, h1, h2, _, h4⟩ := key scope.names [] hf (fun n c q => by simp at q)
  exact ⟨cl, by simp only [closureFor]; rw [show (forIn scope.names ([] : List (Str × Addr)) fun x r => _) = _ from h1]; rfl, h2, h4⟩
theorem relab_eq (scope : Scope) (env : Env) : relab env.scope scope = relabel scope env := rfl
theorem lookup_relab {env : Env} : ∀ {names : List (Str × NameKind)} {x : Str} {k : NameKind}, (names.map fun (n, k) => if (k == NameKind.free && env.scope.kind == .function && env.kindOf n == some .cell) then (n, NameKind.cell) else (n, k)).lookup x = some k →
    ∃ k', names.lookup x = some k' ∧ (k' = k ∨ (k' = .free ∧ k = .cell ∧ env.kindOf x = some .cell))
  | [], _, _, h => by simp at h
  | (n, k') :: r, x, k, h => by
    have ih := @lookup_relab env r x k
    have h' : List.lookup x ((if (k' == NameKind.free && env.scope.kind == .function && env.kindOf n == some .cell) = true then (n, NameKind.cell) else (n, k')) :: (r.map fun (n, k) => if (k == NameKind.free && env.scope.kind == .function && env.kindOf n == some .cell) then (n, NameKind.cell) else (n, k))) = some k := h
    cases hx : x == n with
    | true =>
      have hn := beq_iff_eq.mp hx
      by_cases hc : (k' == NameKind.free && env.scope.kind == .function && env.kindOf n == some .cell) = true
      · rw [if_pos hc] at h'
        simp only [List.lookup_cons, hx] at h'
        simp only [Bool.and_eq_true, beq_iff_eq] at hc
        cases h'
        exact ⟨k', by simp [List.lookup_cons, hx], .inr ⟨hc.1.1, rfl, by rw [hn]; exact hc.2⟩⟩
      · rw [if_neg hc] at h'
        simp only [List.lookup_cons, hx] at h'
        cases h'
        exact ⟨k', by simp [List.lookup_cons, hx], .inl rfl⟩
    | false =>
      have : List.lookup x (r.map fun (n, k) => if (k == NameKind.free && env.scope.kind == .function && env.kindOf n == some .cell) then (n, NameKind.cell) else (n, k)) = some k := by
        by_cases hc : (k' == NameKind.free && env.scope.kind == .function && env.kindOf n == some .cell) = true
        · rw [if_pos hc] at h'; simpa only [List.lookup_cons, hx] using h'
        · rw [if_neg hc] at h'; simpa only [List.lookup_cons, hx] using h'
      obtain ⟨k'', h1, h2⟩ := ih this
      exact ⟨k'', by simp [List.lookup_cons, hx, h1], h2⟩
theorem lookup_relab_free {env : Env} (hk : env.scope.kind = .function) : ∀ {names : List (Str × NameKind)} {x : Str}, names.lookup x = some .free → env.kindOf x = some .cell →
    (names.map fun (n, k) => if (k == NameKind.free && env.scope.kind == .function && env.kindOf n == some .cell) then (n, NameKind.cell) else (n, k)).lookup x = some .cell
  | [], _, h, _ => by simp at h
  | (n, k') :: r, x, h, hc => by
    show List.lookup x ((if (k' == NameKind.free && env.scope.kind == .function && env.kindOf n == some .cell) = true then (n, NameKind.cell) else (n, k')) :: (r.map fun (n, k) => if (k == NameKind.free && env.scope.kind == .function && env.kindOf n == some .cell) then (n, NameKind.cell) else (n, k))) = _
    cases hx : x == n with
    | true =>
      have hn := beq_iff_eq.mp hx
      simp only [List.lookup_cons, hx] at h
      cases h
      rw [if_pos (by rw [← hn, hc, hk]; rfl)]
      simp [List.lookup_cons, hx]
    | false =>
      simp only [List.lookup_cons, hx] at h
      have := lookup_relab_free hk h hc
      by_cases hq : (k' == NameKind.free && env.scope.kind == .function && env.kindOf n == some .cell) = true
      · rw [if_pos hq]; simp only [List.lookup_cons, hx]; exact this
      · rw [if_neg hq]; simp only [List.lookup_cons, hx]; exact this
theorem only_get : ∀ {cap : List Nat} {ρ : Loc} {y : Nat} {lv : LV}, (ρ.only cap).get y = some lv → y ∈ cap ∧ ρ.get y = some lv ∧ ∃ d, lv = .v d
  | [], _, _, _, h => by cases h
  | x :: r, ρ, y, lv, h => by
    simp only [Loc.only] at h
    split at h
    · rename_i d hg
      simp only [Loc.get] at h
      split at h
      · rename_i hb
        cases h
        cases Nat.eq_of_beq_eq_true hb
        exact ⟨List.mem_cons_self, hg, d, rfl⟩
      · obtain ⟨h1, h2⟩ := only_get h
        exact ⟨List.mem_cons_of_mem _ h1, h2⟩
    · obtain ⟨h1, h2⟩ := only_get h
      exact ⟨List.mem_cons_of_mem _ h1, h2⟩

/-! ## how a comprehension's source is walked -/
structure WkC (W : Wd) (A : Around) (O' : Addr → Prop) (t : Expr) (I : Addr) (ws ks : List Addr) (items : List D) where
  at_ : Nat → Heap → Prop
  frame : ∀ {i : Nat} {h h' : Heap}, at_ i h → (∀ c o, (c ∈ ws ∨ c ∈ ks ∨ ¬ O' c) → h.get? c = some o → h'.get? c = some o) → at_ i h'
  ex : ∀ {i : Nat} {h : Heap}, at_ i h → ∀ c ∈ ws, ∃ o, h.get? c = some o
  ends : ∀ {i : Nat} {s : Shared} {Q : Option Value → Shared → Prop} {Ex : Value → Shared → Prop}, at_ i s.heap → items[i]? = none → (∀ h', (∀ c o, c ∉ ws → s.heap.get? c = some o → h'.get? c = some o) → Q none { s with heap := h' }) → wpAny (model W.prog W.w) A (pyNext (.ref I)) Q Ex s
  step : ∀ {i : Nat} {d : D} {s : Shared} {Q : Value → Shared → Prop} {Ex : Value → Shared → Prop}, at_ i s.heap → items[i]? = some d → (∀ c, O' c → ∃ o, s.heap.get? c = some o) →
    (∀ v h' tk, at_ (i + 1) h' → (∀ c o, c ∉ ws → s.heap.get? c = some o → h'.get? c = some o) → Den W.st O' h' v d → Q v { s with heap := h', toks := tk }) →
    wpAny (model W.prog W.w) A (pyNext (.ref I)) (fun r s₁ => ∃ v, r = some v ∧ wpAny (model W.prog W.w) A (letOwnedTupleGo t (.ref I) v) (fun _ s₂ => Q v s₂) Ex s₁) Ex s
  self : ∀ {i : Nat} {s : Shared} {Q : Value → Shared → Prop} {Ex : Value → Shared → Prop}, at_ i s.heap → Q (.ref I) s → wpAny (model W.prog W.w) A (pyIter (.ref I)) Q Ex s
noncomputable def WkC.ofWk {W : Wd} {A : Around} {O' : Addr → Prop} {t : Expr} {a I : Addr} {vs : List Value} {items : List D} (wk : Wk W A a I vs) (hOI : O' I)
    (self : ∀ {i : Nat} {s : Shared} {Q : Value → Shared → Prop} {Ex : Value → Shared → Prop}, wk.at_ i s.heap → Q (.ref I) s → wpAny (model W.prog W.w) A (pyIter (.ref I)) Q Ex s) : WkC W A O' t I [I] [a] items where
  at_ := fun i h => wk.at_ i h ∧ Dens W.st O' h vs items
  frame := fun x k => ⟨wk.frame x.1 (fun o e => k I o (.inl (by simp)) e) (fun o e => k a o (.inr (.inl (by simp))) e), x.2.to fun c o h1 h2 => ⟨h1, k c o (.inr (.inr h1)) h2⟩⟩
  ex := fun x c hc => by simp at hc; subst hc; exact wk.ex x.1
  ends := fun x hn hq => wk.ends x.1 (by rw [List.getElem?_eq_none_iff] at hn ⊢; rw [x.2.length]; exact hn) fun h' he => hq h' fun c o hc e => he c o (fun q => hc (by simp [q])) e
  step := fun {i d s Q Ex} x hd _ hq => by
    obtain ⟨v, hv, hvd⟩ := x.2.get hd
    refine wk.next x.1 hv fun h' hat hs => ⟨v, rfl, wk.go (s := { s with heap := h' }) hat ?_⟩
    have t : ∀ c o, ¬ O' c → s.heap.get? c = some o → ¬ O' c ∧ h'.get? c = some o := fun c o h1 h2 => ⟨h1, (hs.2 c (fun q => h1 (q ▸ hOI))).trans h2⟩
    exact hq v h' s.toks ⟨hat, x.2.to t⟩ (fun c o hc e => (hs.2 c (fun q => hc (by simp [q]))).trans e) (hvd.to t)
  self := fun x hq => self x.1 hq
theorem rangeL_get : ∀ (n : Nat) (a : Int) (i : Nat), (rangeL a n)[i]? = if i < n then some (.int (a + i)) else none
  | 0, _, _ => by simp [rangeL]
  | n + 1, a, 0 => by simp [rangeL]
  | n + 1, a, i + 1 => by
    simp only [rangeL, List.getElem?_cons_succ, rangeL_get n (a + 1) i, Nat.add_lt_add_iff_right]
    split
    · congr 2; (first | lia | omega)
    · rfl
theorem rangeL_length : ∀ (n : Nat) (a : Int), (rangeL a n).length = n
  | 0, _ => rfl
  | n + 1, a => by simp [rangeL, rangeL_length n]
noncomputable def WkC.range {W : Wd} {A : Around} (hh : A.handled = none) {O' : Addr → Prop} {t : Expr} {I : Addr} (a : Int) (n : Nat) : WkC W A O' t I [I] [] (rangeL a n) where
  at_ := fun i h => IsRangeIter h I (a + i) (n - i) 1
  frame := fun x k => k I _ (.inl (by simp)) x
  ex := fun x c hc => by simp at hc; subst hc; exact ⟨_, x⟩
  ends := fun {i s Q Ex} x hn hq => wpAny_pyNext_range_end hh x (by rw [rangeL_get] at hn; split at hn; cases hn; (first | lia | omega)) fun h' he => hq h' fun c o hc e => he c o (fun q => hc (by simp [q])) e
  step := fun {i d s Q Ex} x hd _ hq => by
    rw [rangeL_get] at hd
    split at hd
    · rename_i hlt
      cases hd
      refine wpAny_pyNext_range_item x (by (first | lia | omega)) fun h' hit hs => ⟨_, rfl, ltg_plain (s := { s with heap := h', toks := s.toks + 1 }) hit rfl rfl (by decide) ?_⟩
      refine hq _ h' _ ?_ (fun c o hc e => (hs.2 c (fun q => hc (by simp [q]))).trans e) (.int _ _)
      have e1 : a + (i : Int) + 1 = a + ((i + 1 : Nat) : Int) := Int.add_assoc a i 1
      have e2 : (n : Int) - i - 1 = n - ((i + 1 : Nat) : Int) := Int.sub_sub n i 1
      rw [e1, e2] at hit
      exact hit
    · cases hd
  self := fun x hq => wpAny_pyIter_rangeiter x hq
theorem zipL_get : ∀ (xs ys : List D) (i : Nat), (zipL xs ys)[i]? = match xs[i]?, ys[i]? with | some x, some y => some (.tuple [x, y]) | _, _ => none
  | [], _, _ => by simp [zipL]
  | _ :: _, [], i => by simp only [zipL]; split <;> simp_all
  | x :: xs, y :: ys, 0 => by simp [zipL]
  | x :: xs, y :: ys, i + 1 => by simp only [zipL, List.getElem?_cons_succ]; exact zipL_get xs ys i
theorem zipL_length : ∀ (xs ys : List D), (zipL xs ys).length ≤ xs.length
  | [], _ => by simp [zipL]
  | _ :: _, [] => by simp [zipL]
  | x :: xs, y :: ys => by simp only [zipL, List.length_cons]; exact Nat.succ_le_succ (zipL_length xs ys)
/-- where a zip's walk stands -/
structure ZipAt (W : Wd) (O' : Addr → Prop) (z TI TO i1 i2 l1 l2 : Addr) (vs us : List Value) (xs ys : List D) (i : Nat) (h : Heap) : Prop where
  q1 : IsZip h z TI TO .none
  q2 : IsPair h TI (.ref i1) (.ref i2)
  q3 : ∃ a b, IsPair h TO a b
  q4 : h.IsListIter i1 l1 i
  q5 : h.IsListIter i2 l2 i
  q6 : h.IsList l1 vs.toArray
  q7 : h.IsList l2 us.toArray
  d1 : Dens W.st O' h vs xs
  d2 : Dens W.st O' h us ys
theorem m5 {z TO i1 i2 TI : Addr} : z ∈ [z, TO, i1, i2, TI] ∧ TO ∈ [z, TO, i1, i2, TI] ∧ i1 ∈ [z, TO, i1, i2, TI] ∧ i2 ∈ [z, TO, i1, i2, TI] ∧ TI ∈ [z, TO, i1, i2, TI] :=
  ⟨.head _, .tail _ (.head _), .tail _ (.tail _ (.head _)), .tail _ (.tail _ (.tail _ (.head _))), .tail _ (.tail _ (.tail _ (.tail _ (.head _))))⟩
theorem nm5 {z TO i1 i2 TI c : Addr} (hc : c ∉ [z, TO, i1, i2, TI]) : c ≠ z ∧ c ≠ TO ∧ c ≠ i1 ∧ c ≠ i2 :=
  ⟨fun q => hc (q ▸ m5.1), fun q => hc (q ▸ m5.2.1), fun q => hc (q ▸ m5.2.2.1), fun q => hc (q ▸ m5.2.2.2.1)⟩
noncomputable def WkC.zip {W : Wd} {A : Around} (hh : A.handled = none) {O' : Addr → Prop} {es : List Expr} {x1 : Nat} {p : Pos} {z TI TO i1 i2 l1 l2 : Addr} (Z : ZipApart z TI TO i1 i2 l1 l2) {vs us : List Value} {xs ys : List D}
    (hz : O' z) (hTO : O' TO) (h1 : O' i1) (h2 : O' i2) : WkC W A O' (.Tuple es x1 p) z [z, TO, i1, i2, TI] [l1, l2] (zipL xs ys) where
  at_ := ZipAt W O' z TI TO i1 i2 l1 l2 vs us xs ys
  frame := fun {i h h'} x k =>
    have t : ∀ c o, ¬ O' c → h.get? c = some o → ¬ O' c ∧ h'.get? c = some o := fun c o h1 h2 => ⟨h1, k c o (.inr (.inr h1)) h2⟩
    { q1 := k z _ (.inl m5.1) x.q1, q2 := k TI _ (.inl m5.2.2.2.2) x.q2, q3 := let ⟨a, b, q⟩ := x.q3; ⟨a, b, k TO _ (.inl m5.2.1) q⟩, q4 := x.q4.at fun o e => k i1 o (.inl m5.2.2.1) e, q5 := x.q5.at fun o e => k i2 o (.inl m5.2.2.2.1) e
      q6 := x.q6.at fun o e => k l1 o (.inr (.inl (.head _))) e, q7 := x.q7.at fun o e => k l2 o (.inr (.inl (.tail _ (.head _)))) e, d1 := x.d1.to t, d2 := x.d2.to t }
  ex := fun {i h} x c hc => by
    obtain ⟨a, b, q3⟩ := x.q3
    obtain ⟨o4, q4, _⟩ := x.q4
    obtain ⟨o5, q5, _⟩ := x.q5
    rcases List.mem_cons.mp hc with rfl | hc
    · exact ⟨_, x.q1⟩
    rcases List.mem_cons.mp hc with rfl | hc
    · exact ⟨_, q3⟩
    rcases List.mem_cons.mp hc with rfl | hc
    · exact ⟨_, q4⟩
    rcases List.mem_cons.mp hc with rfl | hc
    · exact ⟨_, q5⟩
    cases List.mem_singleton.mp hc
    exact ⟨_, x.q2⟩
  ends := fun {i s Q Ex} x hn hq => by
    obtain ⟨a, b, q3⟩ := x.q3
    refine wpAny_pyNext_zip_end hh Z x.q1 x.q2 q3 x.q4 x.q5 x.q6 x.q7 ?_ fun h' hk => hq h' fun c o hc e => hk c o (nm5 hc).1 (nm5 hc).2.1 (nm5 hc).2.2.1 (nm5 hc).2.2.2 e
    rw [zipL_get] at hn
    have e1 := x.d1.length
    have e2 := x.d2.length
    cases hx : xs[i]? with
    | none => left; simp only [List.getElem?_toArray]; rw [List.getElem?_eq_none_iff] at hx ⊢; (first | lia | omega)
    | some x =>
      cases hy : ys[i]? with
      | none => right; simp only [List.getElem?_toArray]; rw [List.getElem?_eq_none_iff] at hy ⊢; (first | lia | omega)
      | some y => rw [hx, hy] at hn; cases hn
  step := fun {i d s Q Ex} x hd hex hq => by
    obtain ⟨a, b, q3⟩ := x.q3
    have x0 := x
    rw [zipL_get] at hd
    cases hx : xs[i]? with
    | none => rw [hx] at hd; cases hd
    | some x =>
      cases hy : ys[i]? with
      | none => rw [hx, hy] at hd; cases hd
      | some y =>
        rw [hx, hy] at hd; cases hd
        obtain ⟨v, hv, hvd⟩ := x0.d1.get hx
        obtain ⟨u, hu, hud⟩ := x0.d2.get hy
        refine wpAny_pyNext_zip_item Z x0.q1 x0.q2 q3 x0.q4 x0.q5 x0.q6 x0.q7 (by simpa using hv) (by simpa using hu) fun h' a1 a2 a3 a4 a5 _ hk => ⟨_, rfl, wpAny_letOwnedTupleGo_zip (s := { s with heap := h' }) a1 fun h₂ z₂ s₂ => ?_⟩
        have lt : ∀ {c o}, s.heap.get? c = some o → s.heap.objs.size ≠ c := fun e => Nat.ne_of_gt (Heap.lt_size e)
        have nT : ¬ O' s.heap.objs.size := fun q => by obtain ⟨o, ho⟩ := hex _ q; exact lt ho rfl
        have t : ∀ c o, ¬ O' c → s.heap.get? c = some o → ¬ O' c ∧ h₂.get? c = some o := fun c o g1 g2 => by
          have n1 : c ≠ z := fun q => g1 (q ▸ hz)
          exact ⟨g1, (s₂.2 c n1).trans (hk c o n1 (fun q => g1 (q ▸ hTO)) (fun q => g1 (q ▸ h1)) (fun q => g1 (q ▸ h2)) g2)⟩
        have hTz : s.heap.objs.size ≠ z := lt x0.q1
        refine hq _ h₂ s.toks ⟨z₂, ?_, ⟨_, _, (s₂.2 TO Z.TOz).trans a2⟩, a3.extBut s₂.extBut Z.i1z, a4.extBut s₂.extBut Z.i2z, ?_, ?_, x0.d1.to t, x0.d2.to t⟩ (fun c o hc e => ?_) ?_
        · exact (s₂.2 TI Z.TIz).trans (hk _ _ Z.TIz Z.TITO Z.TIi1 Z.TIi2 x0.q2)
        · exact (x0.q6.at fun o e => hk _ o Z.l1z Z.l1TO Z.l1i1 Z.l1i2 e).extBut s₂.extBut Z.l1z
        · exact (x0.q7.at fun o e => hk _ o Z.l2z Z.l2TO Z.l2i1 Z.l2i2 e).extBut s₂.extBut Z.l2z
        · exact (s₂.2 c (nm5 hc).1).trans (hk c o (nm5 hc).1 (nm5 hc).2.1 (nm5 hc).2.2.1 (nm5 hc).2.2.2 e)
        · exact .tuple nT ⟨_, (s₂.2 _ hTz).trans a5, rfl, _, rfl⟩ (vs := [v, u]) (.cons (hvd.to t) (.cons (hud.to t) .nil)) rfl
  self := fun x hq => wpAny_pyIter_zip x.q1 hq
end Mine
set_option Elab.async false
set_option maxRecDepth 100000
set_option maxHeartbeats 4000000
namespace Mine
set_option tactic.hygienic false
open PySem PyProof.Rows
theorem cloop {prog : Program} {w : World} {A : Around} {R : Result → Shared → Prop} {s : Shared} {elt target iter : Expr} {ifs : List Expr} {scope : Scope} {pos : Pos} {it acc : Value} {env : Env} (I : Nat → Shared → Prop)
    (turn : ∀ n s, I n s → wpAny (model prog w) A (pyNext it) (fun r s₁ => match r with
      | none => R (.ok .next) s₁
      | some v => wpAny (model prog w) A (letOwnedTupleGo target it v) (fun _ s₁' => wpAny (model prog w) A (assign target env v) (fun _ s₂ =>
          wpAny (model prog w) A (forIn ifs true fun c r => if r = true then do let ok ← isTrue c env (eval c env); pure (ForInStep.yield ok) else pure (ForInStep.yield r)) (fun ok s₃ =>
            if ok = true then wpAny (model prog w) A (eval elt env) (fun x s₄ =>
              wpAny (model prog w) A (call (.builtin "list.append") [acc, x]) (fun _ s₅ => ∃ m, m < n ∧ I m s₅) (notedBy (model prog w) A env fun e s' => R (.error e) s') s₄) (notedBy (model prog w) A env fun e s' => R (.error e) s') s₃
            else ∃ m, m < n ∧ I m s₃) (notedBy (model prog w) A env fun e s' => R (.error e) s') s₂) (notedBy (model prog w) A env fun e s' => R (.error e) s') s₁') (notedBy (model prog w) A env fun e s' => R (.error e) s') s₁) (notedBy (model prog w) A env fun e s' => R (.error e) s') s)
    (n : Nat) (h : I n s) :
    codeAny (model prog w) A (.compLoop (.ListComp elt [⟨target, iter, ifs, 0⟩] scope pos) 0 it acc env) R s := by
  refine codeAny_loop rfl I (fun n s hI => ?_) n h
  show wpAny _ A ((compTurn (.ListComp elt [⟨target, iter, ifs, 0⟩] scope pos) 0 it acc env).onRaise (fun x => do noteFrame x env; theTreesLotGoes x)) _ _ s
  refine wpAny_noted ?_
  rw [compTurn_list]
  refine wpAny_bind (wpAny_standAt (wpAny_bind (wpAny_mono (turn n s hI) (fun r s₁ h₁ => ?_) fun _ _ h' => h')))
  cases r with
  | none => exact wpAny_pure h₁
  | some v =>
    refine wpAny_bind (wpAny_mono h₁ (fun _ s₁' h₁' => ?_) fun _ _ h' => h')
    refine wpAny_bind (wpAny_mono h₁' (fun _ s₂ h₂ => wpAny_bind (wpAny_mono h₂ (fun ok s₃ h₃ => ?_) fun _ _ h' => h')) fun _ _ h' => h')
    cases ok with
    | false => exact wpAny_pure ⟨rfl, h₃⟩
    | true => exact wpAny_bind (wpAny_bind (wpAny_mono h₃ (fun x s₄ h₄ => wpAny_bind (wpAny_mono h₄ (fun _ s₅ h₅ => wpAny_pure (wpAny_pure ⟨rfl, h₅⟩)) fun _ _ h' => h')) fun _ _ h' => h'))

/-- what the check says of a comprehension -/
structure CompC (W : Wd) (m : Nat) (sc : Scope) (scope : Scope) (t' elt' : Expr) (ifs' : List Expr) (xs cap : List Nat) (one : Bool) (elt : E) (ifs : List E) : Prop where
  kind : scope.kind = .function
  names : ∀ x ∈ scope.names, x.2 ≠ .cell ∧ (x.2 = .local → scope.names.lookup x.1 = some .local) ∧ (x.2 = .free → sc.names.lookup x.1 = some .cell)
  tgt : chkTarget W.toNms (relab sc scope) xs one t' = true
  bnd : ∀ x ∈ xs, x < W.nn
  two : twoOk W.toNms one xs = true
  ifs1 : ifs.length ≤ 1
  ifs : chkL W.toNms m (relab sc scope) ifs' ifs = true
  elt : chkE W.toNms m (relab sc scope) elt' elt = true
  cap : ∀ x ∈ cap, scope.names.lookup (W.nm x) = some .free ∧ ∀ y ∈ xs, W.nm x ≠ W.nm y
theorem compC_of {W : Wd} {m : Nat} {sc scope : Scope} {elt' t' it' : Expr} {ifs' : List Expr} {pos : Pos} {elt it : E} {xs cap : List Nat} {one : Bool} {ifs : List E}
    (h : chkE W.toNms m sc (.ListComp elt' [⟨t', it', ifs', 0⟩] scope pos) (.comp elt xs one it ifs cap) = true) : ∃ m, CompC W m sc scope t' elt' ifs' xs cap one elt ifs ∧ chkE W.toNms m sc it' it = true ∧ ∀ a b, it = .zip a b → one = false := by
  generalize he : Expr.ListComp elt' [⟨t', it', ifs', 0⟩] scope pos = e at h
  revert he
  refine c_comp h fun n _ _ _ _ _ _ h1 h0 h3 h4 h5 h6 h7 h8 h9 h10 => ?_
  intro q
  cases q
  obtain ⟨a1, a2⟩ := an h1
  refine ⟨n, ⟨eq_of_beq a1, fun x hx => ?_, h3, fun x hx => Nat.le_of_ble_eq_true (List.all_eq_true.mp h4 x hx), h5, h7, h8, h9, fun x hx => ?_⟩, h6, fun a b q => ?_⟩
  · have := List.all_eq_true.mp a2 x hx
    simp only [Bool.and_eq_true, Bool.or_eq_true, bne_iff_ne, beq_iff_eq] at this
    exact ⟨this.1.1, fun q => this.1.2.resolve_left (fun e => e q), fun q => this.2.resolve_left (fun e => e q)⟩
  · obtain ⟨b1, b2⟩ := an (List.all_eq_true.mp h10 x hx)
    exact ⟨eq_of_beq b1, fun y hy => ne_of_beq_false (not_t (List.all_eq_true.mp b2 y hy))⟩
  · subst q; cases one with
    | false => rfl
    | true => cases h0
end Mine
set_option Elab.async false
set_option maxRecDepth 100000
set_option maxHeartbeats 4000000
namespace Mine
set_option tactic.hygienic false
open PySem PyProof.Rows
section
variable {W : Wd} {Φ : Phi} {k n : Nat} {A : Around} {l : List Env} {env : Env} {O O' : Addr → Prop} {fp : Nat → List Addr} {ρ : Loc} {hb : Heap} {scope : Scope} {cl : List (Str × Addr)} {C : Addr}

/-- the comprehension's own frame holds its target's names and the caught ones -/
theorem cenv_rel {m : Nat} {t' elt' : Expr} {ifs' : List Expr} {xs cap : List Nat} {one : Bool} {elt : E} {ifs : List E} (eo : EnvOk env) (hC : CompC W m env.scope scope t' elt' ifs' xs cap one elt ifs)
    (rel : Rel W env l O hb fp ρ) (hcl : ∀ n, (n, NameKind.free) ∈ scope.names → ∃ c, cl.lookup n = some c) (hcl2 : ∀ n c, cl.lookup n = some c → env.cells.lookup n = some c) {h : Heap} (ev : Ev (fsOf l) hb h)
    (den : ∀ c o, ¬ O c → hb.get? c = some o → ¬ O' c ∧ h.get? c = some o)
    {us : List (Nat × Value × D)} {mm : Str → Option Value} (ns : h.Ns C mm) (hus : ∀ p ∈ us, p.1 ∈ xs ∧ mm (W.nm p.1) = some p.2.1 ∧ Den W.st O' h p.2.1 p.2.2 ∧ (relab env.scope scope).names.lookup (W.nm p.1) = some .local)
    {σ : Loc} (hσ : ∀ y lv, σ.get y = some lv → (∃ p ∈ us, p.1 = y ∧ lv = .v p.2.2) ∨ (ρ.only cap).get y = some lv) : Rel W (compEnvC scope cl C env) l O' h (fun _ => []) σ := by
  refine ⟨fun y lv hy => ?_, nofun, fun y lv hy => ?_⟩
  · rcases hσ y lv hy with ⟨p, hp, rfl, rfl⟩ | hy
    · obtain ⟨h1, h2, h3, h4⟩ := hus p hp
      exact ⟨p.2.1, .inl ⟨h4, mm, ns, h2⟩, h3⟩
    · obtain ⟨h1, h2, d, rfl⟩ := only_get hy
      obtain ⟨v, r, lvk⟩ := rel.get y _ h2
      obtain ⟨g1, g2⟩ := hC.cap y h1
      have mem := mem_of_lookup g1
      have kc : env.kindOf (W.nm y) = some .cell := (hC.names _ mem).2.2 rfl
      obtain ⟨c, hc⟩ := hcl _ mem
      refine ⟨v, ?_, Den.to den lvk⟩
      rcases r with ⟨k1, _⟩ | ⟨_, c', q1, q2⟩
      · rw [kc] at k1; cases k1
      · have e := hcl2 _ _ hc
        rw [q1] at e
        exact .inr ⟨lookup_relab_free eo.kind g1 kc, c, hc, by cases e; exact ev.cell q2⟩
  · rcases hσ y lv hy with ⟨p, hp, rfl, rfl⟩ | hy
    · exact hC.bnd _ (hus p hp).1
    · exact rel.bnd y lv (only_get hy).2.1

theorem Dens.two {st : Nat → Str} {O : Addr → Prop} {h : Heap} {x y : Nat} {vs : List Value} {ds : List D} (hd : Dens st O h vs ds) (hl : [x, y].length = ds.length) : ∃ v1 v2 d1 d2, vs = [v1, v2] ∧ ds = [d1, d2] ∧ Den st O h v1 d1 ∧ Den st O h v2 d2 := by
  cases hd with
  | nil => cases hl
  | cons a r => cases r with
    | nil => cases hl
    | cons b r => cases r with
      | nil => exact ⟨_, _, _, _, rfl, rfl, a, b⟩
      | cons _ _ => cases hl
/-- a turn's target -/
theorem casg_ok (hh : A.handled = none) {m : Nat} {t' elt' : Expr} {ifs' : List Expr} {xs cap : List Nat} {one : Bool} {elt : E} {ifs : List E} (eo : EnvOk env) (hC : CompC W m env.scope scope t' elt' ifs' xs cap one elt ifs)
    {s : Shared} {v : Value} {d : D} {σ : Loc} {mm : Str → Option Value} (ns : s.heap.Ns C mm) (hOC : O' C) (hv : Den W.st O' s.heap v d) (hσ : (ρ.only cap).bind xs one d = some σ) {Q : Unit → Shared → Prop} {Ex : Value → Shared → Prop}
    (hq : ∀ (us : List (Nat × Value × D)) (mm' : Str → Option Value) h' tk, h'.Ns C mm' → (∀ c o, c ≠ C → s.heap.get? c = some o → h'.get? c = some o) →
      (∀ p ∈ us, p.1 ∈ xs ∧ mm' (W.nm p.1) = some p.2.1 ∧ Den W.st O' h' p.2.1 p.2.2 ∧ (relab env.scope scope).names.lookup (W.nm p.1) = some .local) →
      (∀ y lv, σ.get y = some lv → (∃ p ∈ us, p.1 = y ∧ lv = .v p.2.2) ∨ (ρ.only cap).get y = some lv) → Q () { s with heap := h', toks := tk }) :
    wpAny (model W.prog W.w) A (assign t' (compEnvC scope cl C env) v) Q Ex s := by
  have pk : ((compEnvC scope cl C env).scope.kind == .class || ((compEnvC scope cl C env).scope.kind == .module && (compEnvC scope cl C env).locals != (compEnvC scope cl C env).globals)) = false := by
    show (scope.kind == _ || (scope.kind == _ && _)) = false
    rw [hC.kind]; rfl
  have htwo := hC.two
  have htgt := hC.tgt
  cases one with
  | true =>
    revert hσ hq
    refine t_one htgt fun x p h4 hq hσ => ?_
    cases hσ
    refine wpAny_assign_Name (wpAny_storeName_local (env := compEnvC scope cl C env) h4 ns (fun h' hn hs => ?_) pk)
    refine hq [(x, v, d)] _ h' _ hn (fun c o hc e => (hs.2 c hc).trans e) (fun p hp => ?_) (fun y lv hy => ?_)
    · cases List.mem_singleton.mp hp
      exact ⟨.head _, by simp, hv.to fun c o h1 h2 => ⟨h1, (hs.2 c (fun q => h1 (q ▸ hOC))).trans h2⟩, h4⟩
    · rw [Loc.get_set] at hy
      split at hy
      · rename_i e; cases hy; exact .inl ⟨_, .head _, e.symm, rfl⟩
      · exact .inr hy
  | false =>
    refine t_tup htgt fun es x1 p h2 h3 => ?_
    obtain ⟨ds, rfl, hlen, rfl⟩ : ∃ ds, d = .tuple ds ∧ xs.length = ds.length ∧ σ = (xs.zip ds).foldl (fun ρ p => ρ.set p.1 (.v p.2)) (ρ.only cap) := bind_tup (P := fun d σ => ∃ ds, d = .tuple ds ∧ xs.length = ds.length ∧ σ = (xs.zip ds).foldl (fun ρ p => ρ.set p.1 (.v p.2)) (ρ.only cap)) hσ fun ds hl => ⟨ds, rfl, hl, rfl⟩
    obtain ⟨a1, a2⟩ := an htwo
    have hxs := two_of 0 a1
    generalize xs.headD 0 = x at hxs a2
    generalize xs.tail.headD 0 = y at hxs a2
    subst hxs
    have hne : W.nm x ≠ W.nm y := ne_of_beq_false (not_t a2)
    match es, h2 with
    | [e1, e2], _ =>
      obtain ⟨p1, z1, k1⟩ : ∃ p, e1 = .Name (W.nm x) p ∧ (relab env.scope scope).names.lookup (W.nm x) = some .local := h3 (x, e1) (.head _)
      obtain ⟨p2, z2, k2⟩ : ∃ p, e2 = .Name (W.nm y) p ∧ (relab env.scope scope).names.lookup (W.nm y) = some .local := h3 (y, e2) (.tail _ (.head _))
      subst z1 z2
      cases hv with
      | @tuple a vs ds ha ht hd hz =>
        obtain ⟨v1, v2, d1, d2, rfl, rfl, dx, dy⟩ := hd.two hlen
        · refine wpAny_assign_Tuple hh ht rfl rfl fun h₁ he₁ => ?_
          have kp₁ : ∀ c o, s.heap.get? c = some o → h₁.get? c = some o := fun c o e => he₁ c o (Nat.ne_of_lt (Heap.lt_size e)) e
          show wpAny _ A (do holding [v2] (assign (.Name (W.nm x) p1) (compEnvC scope cl C env) v1); holding [] (assign (.Name (W.nm y) p2) (compEnvC scope cl C env) v2); assignInOrder [] []) _ _ _
          refine wpAny_bind (wpAny_holding (wpAny_assign_Name (wpAny_storeName_local (s := { s with heap := h₁ }) (env := compEnvC scope cl C env) k1 (ns.keeps kp₁) (fun h₂ hn₂ hs₂ => ?_) pk)))
          refine wpAny_bind (wpAny_holding (wpAny_assign_Name (wpAny_storeName_local (env := compEnvC scope cl C env) k2 hn₂ (fun h₃ hn₃ hs₃ => wpAny_pure ?_) pk)))
          have kp : ∀ c o, c ≠ C → s.heap.get? c = some o → h₃.get? c = some o := fun c o hc e => (hs₃.2 c hc).trans ((hs₂.2 c hc).trans (kp₁ c o e))
          have t : ∀ c o, ¬ O' c → s.heap.get? c = some o → ¬ O' c ∧ h₃.get? c = some o := fun c o h1 h2 => ⟨h1, kp c o (fun q => h1 (q ▸ hOC)) h2⟩
          refine hq [(x, v1, d1), (y, v2, d2)] _ h₃ _ hn₃ kp (fun p hp => ?_) (fun z lv hy => ?_)
          · rcases List.mem_cons.mp hp with rfl | hp
            · exact ⟨.head _, by simp [hne], dx.to t, k1⟩
            · cases List.mem_singleton.mp hp
              exact ⟨.tail _ (.head _), by simp, dy.to t, k2⟩
          · simp only [List.zip_cons_cons, List.zip_nil_right, List.foldl_cons, List.foldl_nil] at hy
            have hy' := hy
            rw [Loc.get_set] at hy'
            split at hy'
            · rename_i e; cases hy'; exact .inl ⟨(y, v2, d2), .tail _ (.head _), e.symm, rfl⟩
            · rw [Loc.get_set] at hy'
              split at hy'
              · rename_i e; cases hy'; exact .inl ⟨(x, v1, d1), .head _, e.symm, rfl⟩
              · exact .inr hy'
end
end Mine
set_option Elab.async false
set_option maxRecDepth 100000
set_option maxHeartbeats 4000000
namespace Mine
set_option tactic.hygienic false
open PySem PyProof.Rows
section
variable {W : Wd} {Φ : Phi} {k n : Nat} {A : Around} {l : List Env} {env : Env} {O : Addr → Prop} {fp : Nat → List Addr} {ρ : Loc} {hb : Heap} {scope : Scope} {cl : List (Str × Addr)}
noncomputable def cO (O : Addr → Prop) (ws : List Addr) (D : Addr) : Addr → Prop := fun c => O c ∨ c ∈ ws ∨ c = D ∨ c = D + 1
theorem comp_block (ok : WOk W) (ih : XOk W Φ k n) (H : Here W k A l env O fp hb ρ) {m : Nat} {t' elt' it' : Expr} {ifs' : List Expr} {pos : Pos} {xs cap : List Nat} {one : Bool} {elt : E} {ifs : List E}
    (hC : CompC W m env.scope scope t' elt' ifs' xs cap one elt ifs) (hcl : ∀ n, (n, NameKind.free) ∈ scope.names → ∃ c, cl.lookup n = some c) (hcl2 : ∀ n c, cl.lookup n = some c → env.cells.lookup n = some c)
    {s₂ : Shared} {I : Addr} {ws ks : List Addr} {items : List D} (ev : Ev (fsOf l) hb s₂.heap) (hws : ∀ c ∈ ws, hb.get? c = none ∧ c < s₂.heap.objs.size) (hks : ∀ c ∈ ks, c ∉ fsOf l ∧ ∃ o, hb.get? c = some o)
    (wk : WkC W A (cO O ws s₂.heap.objs.size) t' I ws ks items) (hat : wk.at_ 0 s₂.heap) (hz : fits items.length = true) {KK : List D → Prop} (hx : compGo (cstep Φ W.G n ρ cap xs one elt ifs) items [] KK)
    {RR : Value → Addr → Result → Shared → Prop} {Ex : Value → Shared → Prop}
    (hRR : ∀ ds ys h' tk, KK ds → IsOwn h' s₂.heap.objs.size ys → Dens W.st (cO O ws s₂.heap.objs.size) h' ys ds → fits ds.length = true → (∃ mm, h'.Ns (s₂.heap.objs.size + 1) mm) → Ev (fsOf l) hb h' → RR (.ref s₂.heap.objs.size) (s₂.heap.objs.size + 1) (.ok .next) { s₂ with heap := h', toks := tk }) :
    wpAny (model W.prog W.w) A (newList []) (fun acc s₃ => wpAny (model W.prog W.w) A (newFunctionEnv scope env.globals cl [] env.qual none .none (some env)) (fun cenv s₄ =>
      codeAny (model W.prog W.w) A (.compStart (.ListComp elt' [⟨t', it', ifs', 0⟩] scope pos) 0 (.ref I) acc { cenv with scope := relabel scope env }) (RR acc cenv.locals) s₄) Ex s₃) Ex s₂ := by
  refine wpAny_newObj_type (hd := by size_fits) (wpAny_newFunctionEnv (fun x hx => (hC.names x hx).1) (by intro y hy; simp at hy) (fun h₁ hns₁ hsb₁ => ?_) hC.kind)
  dsimp only at hns₁ hsb₁ ⊢
  generalize hH2 : s₂.heap.push { cls := .type "list", dict := none, data := .seq ([] : List Value).toArray } = H2 at hns₁ hsb₁ ⊢
  have hCz : H2.objs.size = s₂.heap.objs.size + 1 := by rw [← hH2, Heap.size_push]
  rw [hCz] at hns₁ hsb₁ ⊢
  generalize hDe : s₂.heap.objs.size = Dd at *
  have below : ∀ b, b < Dd → b ≠ Dd + 1 ∧ b ≠ Dd := fun b hb => ⟨Nat.ne_of_lt (Nat.lt_succ_of_lt hb), Nat.ne_of_lt hb⟩
  have lt2 : ∀ {b o}, s₂.heap.get? b = some o → b < Dd := fun e => hDe ▸ Heap.lt_size e
  have old : ∀ b o, s₂.heap.get? b = some o → h₁.get? b = some o := fun b o e => hsb₁.extBut b o (below b (lt2 e)).1 (Heap.get?_push_of_some _ (hH2 ▸ Heap.get?_push_of_some _ e))
  have hDC : Dd ≠ Dd + 1 := Nat.ne_of_lt (Nat.lt_succ_self _)
  have hacc : IsOwn h₁ Dd [] := ⟨_, _, hsb₁.extBut _ _ hDC (Heap.get?_push_of_some _ (by rw [← hH2, ← hDe]; exact Heap.get?_push_size _ rfl)), rfl, rfl, rfl⟩
  have hbD : ∀ c, Dd ≤ c → hb.get? c = none := fun c hc => by
    cases q : hb.get? c with
    | none => rfl
    | some o => obtain ⟨sl, z⟩ := ev.some q; exact absurd (lt2 z) (Nat.not_lt.mpr hc)
  have dws : ∀ c ∈ ws, c ≠ Dd ∧ c ≠ Dd + 1 ∧ hb.get? c = none := fun c hc => ⟨(below c (hws c hc).2).2, (below c (hws c hc).2).1, (hws c hc).1⟩
  have exO : ∀ c, O c → ∃ o, hb.get? c = some o := fun c hc => (H.stn.fresh c hc).2
  have Oold : ∀ c o, ¬ O c → hb.get? c = some o → ¬ cO O ws Dd c := fun c o h1 h2 q => by
    rcases q with q | q | q | q
    · exact h1 q
    · rw [(dws c q).2.2] at h2; cases h2
    · rw [q, hbD _ (Nat.le_refl _)] at h2; cases h2
    · rw [q, hbD _ (Nat.le_succ _)] at h2; cases h2
  have hbNot : ∀ c o, hb.get? c = some o → c ∉ ws ∧ c ≠ Dd ∧ c ≠ Dd + 1 := fun c o ho => ⟨fun q => (by rw [(dws c q).2.2] at ho; cases ho), fun q => (by rw [q, hbD _ (Nat.le_refl _)] at ho; cases ho), fun q => (by rw [q, hbD _ (Nat.le_succ _)] at ho; cases ho)⟩
  have frO : ∀ c ∈ fsOf l, c ∉ ws ∧ c ≠ Dd ∧ c ≠ Dd + 1 := fun c hc => by
    obtain ⟨o, ho⟩ := exO c (H.stn.sub c hc)
    exact hbNot c o ho
  have kOld : ∀ c ∈ ks, c ∉ ws ∧ c ≠ Dd ∧ c ≠ Dd + 1 := fun c hc => by
    obtain ⟨_, o, ho⟩ := hks c hc
    exact hbNot c o ho
  have ODd : cO O ws Dd Dd := .inr (.inr (.inl rfl))
  have OC : cO O ws Dd (Dd + 1) := .inr (.inr (.inr rfl))
  have Ows : ∀ c ∈ ws, cO O ws Dd c := fun c hc => .inr (.inl hc)
  have nwD : Dd ∉ ws := fun q => (dws _ q).1 rfl
  have nwC : Dd + 1 ∉ ws := fun q => (dws _ q).2.1 rfl
  -- what stands through a change that spares all but some of the new objects
  have eo := H.eok
  have ceok : EnvOk (compEnvC scope cl (Dd + 1) env) := ⟨hC.kind, eo.globals, eo.builtins, fun x q => by
    obtain ⟨k', h1, h2⟩ := lookup_relab (env := env) q
    have mem := mem_of_lookup h1
    rcases h2 with rfl | ⟨rfl, _, _⟩
    · exact absurd rfl (hC.names _ mem).1
    · exact hcl x mem⟩
  have stn : ∀ {h : Heap} {i : Nat}, Ev (fsOf l) hb h → wk.at_ i h → (∃ o, h.get? Dd = some o) → (∃ mm, h.Ns (Dd + 1) mm) → Stn W A l (cO O ws Dd) h := fun {h i} e a xD xC => {
    frames := H.stn.frames
    handled := H.stn.handled
    stays := (H.stn.ev e).stays
    funs := (H.stn.ev e).funs
    sub := fun c hc => .inl (H.stn.sub c hc)
    fresh := fun c hc => by
      rcases hc with q | q | q | q
      · exact (H.stn.ev e).fresh c q
      · exact ⟨fresh_of H.stn.stays (dws c q).2.2, wk.ex a c q⟩
      · exact ⟨fresh_of H.stn.stays (by rw [q]; exact hbD _ (Nat.le_refl _)), by rw [q]; exact xD⟩
      · obtain ⟨mm, o, es, ep, ho, _⟩ := xC
        exact ⟨fresh_of H.stn.stays (by rw [q]; exact hbD _ (Nat.le_succ _)), o, by rw [q]; exact ho⟩ }
  have loop : ∀ s₃ : Shared, s₃ = { s₂ with heap := h₁, toks := s₂.toks + ([] : List (Str × Value)).length } →
      codeAny (model W.prog W.w) A (.compLoop (.ListComp elt' [⟨t', it', ifs', 0⟩] scope pos) 0 (.ref I) (.ref Dd) (compEnvC scope cl (Dd + 1) env)) (RR (.ref Dd) (Dd + 1)) s₃ := by
    rintro s₃ rfl
    obtain ⟨J, hJ⟩ : ∃ J : Nat → Shared → Prop, J = fun q s' => ∃ i h' tk ys acc, q = items.length - i ∧ i ≤ items.length ∧ s' = { s₂ with heap := h', toks := tk } ∧ Ev (fsOf l) hb h' ∧ wk.at_ i h' ∧ IsOwn h' Dd ys ∧ Dens W.st (cO O ws Dd) h' ys acc ∧ (∃ mm, h'.Ns (Dd + 1) mm) ∧ acc.length ≤ i ∧
      compGo (cstep Φ W.G n ρ cap xs one elt ifs) (items.drop i) acc KK := ⟨_, rfl⟩
    refine cloop J (fun q s' hq => ?_) items.length (by rw [hJ]; exact ⟨0, h₁, _, [], [], by (first | lia | omega), by (first | lia | omega), rfl, ev.trans (Ev.of old), wk.frame hat fun c o _ e => old c o e, hacc, .nil, ⟨_, hns₁⟩, by simp, hx⟩)
    rw [hJ] at hq
    refine ex5 hq fun i h' tk ys acc hq2 => ?_
    clear hq
    refine ad10 hq2 fun e1 hi e2 ev' at' own' dn' ⟨mm, ns'⟩ hac hx' => ?_
    clear hq2
    subst e1 e2
    have xD : ∀ {h : Heap} {ys : List Value}, IsOwn h Dd ys → ∃ o, h.get? Dd = some o := fun ⟨o, _, ho, _⟩ => ⟨o, ho⟩
    have hzl := fits_le hz
    cases hd : items[i]? with
    | none =>
      refine wk.ends (s := { s₂ with heap := h', toks := tk }) at' hd fun h₃ k₃ => ?_
      have : items.drop i = [] := by rw [List.drop_eq_nil_iff]; rw [List.getElem?_eq_none_iff] at hd; exact hd
      rw [this] at hx'
      refine hRR acc ys h₃ tk hx' (own'.to fun o e => ⟨o.slots, k₃ _ o nwD e⟩) (dn'.to fun c o g1 g2 => ⟨g1, k₃ c o (fun q => g1 (Ows c q)) g2⟩) (fits_of (by (first | lia | omega))) ⟨mm, ?_⟩ ⟨fun c o g1 g2 => k₃ c o (hbNot c o g2).1 (ev'.keep c o g1 g2), fun c o g1 g2 => ?_⟩
      · obtain ⟨o, es, ep, ho, r⟩ := ns'; exact ⟨o, es, ep, k₃ _ o nwC ho, r⟩
      · obtain ⟨sl, z⟩ := ev'.slot c o g1 g2; exact ⟨sl, k₃ c _ (frO c g1).1 z⟩
    | some d =>
      have hlt : i < items.length := by rw [List.getElem?_eq_some_iff] at hd; exact hd.1
      have hdrop : items.drop i = d :: items.drop (i + 1) := by
        rw [List.getElem?_eq_some_iff] at hd
        obtain ⟨g1, g2⟩ := hd
        rw [List.drop_eq_getElem_cons g1, g2]
      rw [hdrop] at hx'
      refine of_optC hx' fun σ hσ hx₁ => ?_
      have S' := stn ev' at' (xD own') ⟨mm, ns'⟩
      refine wpAny_mono (wk.step (s := { s₂ with heap := h', toks := tk }) at' hd (fun c hc => (S'.fresh c hc).2) (Q := fun v s₁' => wpAny (model W.prog W.w) A (assign t' (compEnvC scope cl (Dd + 1) env) v) (fun _ s₂' =>
          wpAny (model W.prog W.w) A (forIn ifs' true fun c r => if r = true then do let ok ← isTrue c (compEnvC scope cl (Dd + 1) env) (eval c (compEnvC scope cl (Dd + 1) env)); pure (ForInStep.yield ok) else pure (ForInStep.yield r)) (fun ok s₃ =>
            if ok = true then wpAny (model W.prog W.w) A (eval elt' (compEnvC scope cl (Dd + 1) env)) (fun x s₄ =>
              wpAny (model W.prog W.w) A (call (.builtin "list.append") [.ref Dd, x]) (fun _ s₅ => ∃ m, m < items.length - i ∧ J m s₅) (notedBy (model W.prog W.w) A (compEnvC scope cl (Dd + 1) env) fun e s' => RR (.ref Dd) (Dd + 1) (.error e) s') s₄) (notedBy (model W.prog W.w) A (compEnvC scope cl (Dd + 1) env) fun e s' => RR (.ref Dd) (Dd + 1) (.error e) s') s₃
            else ∃ m, m < items.length - i ∧ J m s₃) (notedBy (model W.prog W.w) A (compEnvC scope cl (Dd + 1) env) fun e s' => RR (.ref Dd) (Dd + 1) (.error e) s') s₂') (notedBy (model W.prog W.w) A (compEnvC scope cl (Dd + 1) env) fun e s' => RR (.ref Dd) (Dd + 1) (.error e) s') s₁') ?_) (fun r s₁ hr => ?_) (fun _ _ e => e)
      rotate_left
      · obtain ⟨v, rfl, hw⟩ := hr
        exact hw
      intro v h₃ tk₃ at₃ k₃ dv₃
      have ev₃ : Ev (fsOf l) hb h₃ := ⟨fun c o g1 g2 => k₃ c o (hbNot c o g2).1 (ev'.keep c o g1 g2), fun c o g1 g2 => by obtain ⟨sl, z⟩ := ev'.slot c o g1 g2; exact ⟨sl, k₃ c _ (frO c g1).1 z⟩⟩
      have own₃ : IsOwn h₃ Dd ys := own'.to fun o e => ⟨o.slots, k₃ _ o nwD e⟩
      have dn₃ : Dens W.st (cO O ws Dd) h₃ ys acc := dn'.to fun c o g1 g2 => ⟨g1, k₃ c o (fun q => g1 (Ows c q)) g2⟩
      have ns₃ : h₃.Ns (Dd + 1) mm := by obtain ⟨o, es, ep, ho, r⟩ := ns'; exact ⟨o, es, ep, k₃ _ o nwC ho, r⟩
      refine casg_ok (C := Dd + 1) (ρ := ρ) (O' := cO O ws Dd) H.stn.handled eo hC (s := { s₂ with heap := h₃, toks := tk₃ }) ns₃ OC dv₃ hσ fun us mm₄ h₄ tk₄ ns₄ k₄ hus hσs => ?_
      have ev₄ : Ev (fsOf l) hb h₄ := ⟨fun c o g1 g2 => k₄ c o (hbNot c o g2).2.2 (ev₃.keep c o g1 g2), fun c o g1 g2 => by obtain ⟨sl, z⟩ := ev₃.slot c o g1 g2; exact ⟨sl, k₄ c _ (frO c g1).2.2 z⟩⟩
      have at₄ : wk.at_ (i + 1) h₄ := wk.frame at₃ fun c o hc e => k₄ c o (by
        rcases hc with q | q | q
        · exact (dws c q).2.1
        · exact (kOld c q).2.2
        · exact fun z => q (z ▸ OC)) e
      have own₄ : IsOwn h₄ Dd ys := own₃.to fun o e => ⟨o.slots, k₄ _ o hDC e⟩
      have dn₄ : Dens W.st (cO O ws Dd) h₄ ys acc := dn₃.to fun c o g1 g2 => ⟨g1, k₄ c o (fun q => g1 (q ▸ OC)) g2⟩
      -- the turn's own frame
      have mkH : ∀ {h₅ : Heap}, Ev (fsOf l) h₄ h₅ → Here W k A l (compEnvC scope cl (Dd + 1) env) (cO O ws Dd) (fun _ => []) h₅ σ := fun {h₅} e₅ => by
        have e₀ := ev₄.trans e₅
        have at₅ : wk.at_ (i + 1) h₅ := wk.frame at₄ fun c o hc e => e₅.keep c o (by
          rcases hc with q | q | q
          · exact fun z => (frO c z).1 q
          · exact (hks c q).1
          · exact fun z => q (.inl (H.stn.sub c z))) e
        have own₅ : IsOwn h₅ Dd ys := own₄.to fun o e => e₅.some e
        have ns₅ := e₅.ns ns₄
        refine ⟨ceok, stn e₀ at₅ (xD own₅) ⟨_, ns₅⟩, H.room, ?_⟩
        refine cenv_rel eo hC H.rel hcl hcl2 e₀ (fun c o g1 g2 => ⟨Oold c o g1 g2, e₀.keep c o (fun z => g1 (H.stn.sub c z)) g2⟩) ns₅ (fun p hp => ?_) hσs
        obtain ⟨a1, a2, a3, a4⟩ := hus p hp
        exact ⟨a1, a2, a3.ev e₅ (fun c hc => .inl (H.stn.sub c hc)), a4⟩
      have fin : ∀ {h₅ : Heap} {tk₅ : Nat}, Ev (fsOf l) h₄ h₅ → xE Φ W.G n elt σ (fun y => compGo (cstep Φ W.G n ρ cap xs one elt ifs) (items.drop (i + 1)) (acc ++ [y]) KK) False →
          ∀ {E' : Value → Shared → Prop}, wpAny (model W.prog W.w) A (eval elt' (compEnvC scope cl (Dd + 1) env)) (fun x s₄ => wpAny (model W.prog W.w) A (call (.builtin "list.append") [.ref Dd, x]) (fun _ s₅ => ∃ m, m < items.length - i ∧ J m s₅) E' s₄) E' { s₂ with heap := h₅, toks := tk₅ } := by
        intro h₅ tk₅ e₅ hxe E'
        refine (ih.e (s := { s₂ with heap := h₅, toks := tk₅ }) hC.elt (mkH e₅) hxe).bind (fun y v₆ h₆ tk₆ hK he₆ hv₆ => ?_) (fun er h' tk hF _ => hF.elim)
        have e₆ : Ev (fsOf l) h₄ h₆ := e₅.trans he₆
        have own₆ : IsOwn h₆ Dd ys := own₄.to fun o e => e₆.some e
        have sub : ∀ c ∈ fsOf l, cO O ws Dd c := fun c hc => .inl (H.stn.sub c hc)
        have dn₆ : Dens W.st (cO O ws Dd) h₆ ys acc := dn₄.ev e₆ sub
        have hyl := dn₄.length
        refine append_ok (s := { s₂ with heap := h₆, toks := tk₆ }) own₆ (by (first | lia | omega)) fun h₇ own₇ s₇ => ?_
        have t₇ : ∀ c o, ¬ cO O ws Dd c → h₆.get? c = some o → ¬ cO O ws Dd c ∧ h₇.get? c = some o := fun c o g1 g2 => ⟨g1, (s₇.2 c (fun q => g1 (q ▸ ODd))).trans g2⟩
        have e₀ := ev₄.trans e₆
        rw [hJ]
        refine ⟨items.length - (i + 1), by (first | lia | omega), i + 1, h₇, tk₆, ys ++ [v₆], acc ++ [y], rfl, by (first | lia | omega), rfl, ⟨fun c o g1 g2 => ?_, fun c o g1 g2 => ?_⟩, ?_, own₇, (dn₆.to t₇).append (.cons (hv₆.to t₇) .nil), ?_, by simp; (first | lia | omega), hK⟩
        · exact (s₇.2 c (hbNot c o g2).2.1).trans (e₀.keep c o g1 g2)
        · obtain ⟨sl, z⟩ := e₀.slot c o g1 g2; exact ⟨sl, (s₇.2 c (frO c g1).2.1).trans z⟩
        · refine wk.frame at₄ fun c o hc e => ?_
          have c1 : c ∉ fsOf l := by
            rcases hc with q | q | q
            · exact fun z => (frO c z).1 q
            · exact (hks c q).1
            · exact fun z => q (.inl (H.stn.sub c z))
          have c2 : c ≠ Dd := by
            rcases hc with q | q | q
            · exact (dws c q).1
            · exact (kOld c q).2.1
            · exact fun z => q (z ▸ ODd)
          exact (s₇.2 c c2).trans (e₆.keep c o c1 e)
        · obtain ⟨o, es, ep, ho, r⟩ := e₆.ns ns₄
          exact ⟨_, o, es, ep, (s₇.2 _ (Ne.symm hDC)).trans ho, r⟩
      have skip : ∀ {h₅ : Heap} {tk₅ : Nat}, Ev (fsOf l) h₄ h₅ → compGo (cstep Φ W.G n ρ cap xs one elt ifs) (items.drop (i + 1)) acc KK → ∃ m, m < items.length - i ∧ J m { s₂ with heap := h₅, toks := tk₅ } := by
        intro h₅ tk₅ e₅ hK
        rw [hJ]
        refine ⟨items.length - (i + 1), by (first | lia | omega), i + 1, h₅, tk₅, ys, acc, rfl, by (first | lia | omega), rfl, ev₄.trans e₅, wk.frame at₄ fun c o hc e => e₅.keep c o ?_ e, own₄.to fun o e => e₅.some e, dn₄.ev e₅ (fun c hc => .inl (H.stn.sub c hc)), ⟨_, e₅.ns ns₄⟩, by (first | lia | omega), hK⟩
        rcases hc with q | q | q
        · exact fun z => (frO c z).1 q
        · exact (hks c q).1
        · exact fun z => q (.inl (H.stn.sub c z))
      have hifs := hC.ifs
      cases ifs with
      | nil =>
        cases l_nil hifs
        refine wpAny_tests_nil ?_
        rw [if_pos rfl]
        exact fin Ev.refl hx₁
      | cons c cs =>
        refine l_cons hifs fun c' cs' g1 g2 => ?_
        have hl1 := hC.ifs1
        cases cs with
        | cons _ _ => simp at hl1
        | nil =>
          cases l_nil g2
          refine wpAny_tests_one (ih.t (s := { s₂ with heap := h₄, toks := tk₄ }) g1 (mkH Ev.refl) hx₁ (fun t h₅ tk₅ ht e₅ => ?_) (fun er h' tk hF _ => hF.elim))
          cases t with
          | true => rw [if_pos rfl]; exact fin e₅ ht
          | false => rw [if_neg (by decide)]; exact skip e₅ ht
  exact codeAny_compStart_list (loop _ rfl) (wk.self (s := { s₂ with heap := h₁, toks := _ }) (wk.frame hat fun c o _ e => old c o e) (loop _ rfl))
end
end Mine
set_option Elab.async false
set_option maxRecDepth 100000
set_option maxHeartbeats 4000000
namespace Mine
set_option tactic.hygienic false
open PySem PyProof.Rows
theorem bi_range : ((("range" : Str), Value.type "range") : Str × Value) ∈ builtIns := .tail _ (.tail _ (.tail _ (.tail _ (.tail _ (.head _)))))
theorem bi_zip : ((("zip" : Str), Value.type "zip") : Str × Value) ∈ builtIns := .tail _ (.tail _ (.tail _ (.tail _ (.tail _ (.tail _ (.head _))))))
/-- what a source hands on -/
noncomputable def SrcK (W : Wd) (A : Around) (l : List Env) (O : Addr → Prop) (t' : Expr) (s : Shared) (J : List D → Prop) (Q : Value → Shared → Prop) : Prop :=
  ∀ (items : List D) (hb : Heap) (s₂ : Shared) (I : Addr) (ws ks : List Addr) (wk : WkC W A (cO O ws s₂.heap.objs.size) t' I ws ks items), s₂ = { s with heap := s₂.heap, toks := s₂.toks } → J items → fits items.length = true → Ev (fsOf l) s.heap hb → Ev (fsOf l) hb s₂.heap →
    (∀ c ∈ ws, hb.get? c = none ∧ c < s₂.heap.objs.size) → (∀ c ∈ ks, c ∉ fsOf l ∧ ∃ o, hb.get? c = some o) → wk.at_ 0 s₂.heap → Q (.ref I) s₂
section
variable {W : Wd} {Φ : Phi} {k n : Nat} {A : Around} {l : List Env} {env : Env} {O : Addr → Prop} {fp : Nat → List Addr} {ρ : Loc}
theorem cO_old {ws : List Addr} {Dd : Addr} {hb : Heap} (h1 : ∀ c ∈ ws, hb.get? c = none) (h2 : ∀ c, Dd ≤ c → hb.get? c = none) : ∀ c o, ¬ O c → hb.get? c = some o → ¬ cO O ws Dd c := fun c o g1 g2 q => by
  rcases q with q | q | q | q
  · exact g1 q
  · rw [h1 c q] at g2; cases g2
  · rw [q, h2 _ (Nat.le_refl _)] at g2; cases g2
  · rw [q, h2 _ (Nat.le_succ _)] at g2; cases g2
theorem none_from {h : Heap} {c : Addr} (hc : h.objs.size ≤ c) : h.get? c = none := by
  cases q : h.get? c with
  | none => rfl
  | some o => exact absurd (Heap.lt_size q) (Nat.not_lt.mpr hc)
theorem src_list {t' : Expr} {s : Shared} {J : List D → Prop} {Q : Value → Shared → Prop} {Ex : Value → Shared → Prop} (hh : A.handled = none) (hq : SrcK W A l O t' s J Q) {h' : Heap} {tk : Nat} (he : Ev (fsOf l) s.heap h') {a : Addr} {vs : List Value} {items : List D}
    (hl : h'.IsList a vs.toArray) (hd : Dens W.st O h' vs items) (hz : fits items.length = true) (hoff : a ∉ fsOf l) (hJ : J items) :
    wpAny (model W.prog W.w) A (pyIter (.ref a)) Q Ex { s with heap := h', toks := tk } := by
  refine wpAny_pyIter_list (s := { s with heap := h', toks := tk }) hl ?_
  have hex : ∃ o, h'.get? a = some o := let ⟨o, ho, _⟩ := hl; ⟨o, ho⟩
  have hane : a ≠ h'.objs.size := fun q => by obtain ⟨o, ho⟩ := hex; rw [q, size_none] at ho; cases ho
  refine hq items h' { s with heap := h'.push { cls := .type "list_iterator", data := .fields #[.ref a, .int 0 0] }, toks := tk } h'.objs.size [h'.objs.size] [a]
    (WkC.ofWk (Wk.list (vs := vs) hh hane) (.inr (.inl (by simp))) (fun x hq => wpAny_pyIter_listiter x.1 hq)) rfl hJ hz he (push_ev _) (fun c hc => ?_) (fun c hc => ?_) ⟨⟨⟨_, Heap.get?_push_size _ rfl, rfl, rfl⟩, hl.push _⟩, ?_⟩
  · simp at hc; subst hc; exact ⟨size_none _, by show _ < (h'.push _).objs.size; rw [Heap.size_push]; exact Nat.lt_succ_self _⟩
  · simp at hc; subst hc; exact ⟨hoff, hex⟩
  · refine hd.to fun c o g1 g2 => ⟨cO_old (hb := h') (fun c hc => by simp at hc; subst hc; exact size_none _) (fun c hc => none_from (Nat.le_of_succ_le (by rw [show ({ s with heap := h'.push { cls := .type "list_iterator", data := .fields #[.ref a, .int 0 0] }, toks := tk } : Shared).heap.objs.size = h'.objs.size + 1 from Heap.size_push ..] at hc; exact hc))) c o g1 g2, Heap.get?_push_of_some _ g2⟩
theorem src_tuple {t' : Expr} {s : Shared} {J : List D → Prop} {Q : Value → Shared → Prop} {Ex : Value → Shared → Prop} (hh : A.handled = none) (hq : SrcK W A l O t' s J Q) {h' : Heap} {tk : Nat} (he : Ev (fsOf l) s.heap h') {a : Addr} {vs : List Value} {items : List D}
    (hl : h'.IsTuple a vs.toArray) (hd : Dens W.st O h' vs items) (hz : fits items.length = true) (hoff : a ∉ fsOf l) (hJ : J items) :
    wpAny (model W.prog W.w) A (pyIter (.ref a)) Q Ex { s with heap := h', toks := tk } := by
  refine wpAny_pyIter_tuple (s := { s with heap := h', toks := tk }) hl ?_
  have hex : ∃ o, h'.get? a = some o := let ⟨o, ho, _⟩ := hl; ⟨o, ho⟩
  have hane : a ≠ h'.objs.size := fun q => by obtain ⟨o, ho⟩ := hex; rw [q, size_none] at ho; cases ho
  refine hq items h' { s with heap := h'.push { cls := .type "tuple_iterator", data := .fields #[.ref a, .int 0 0] }, toks := tk } h'.objs.size [h'.objs.size] [a]
    (WkC.ofWk (Wk.tuple (vs := vs) hh hane) (.inr (.inl (by simp))) (fun x hq => wpAny_pyIter_tupleiter x.1 hq)) rfl hJ hz he (push_ev _) (fun c hc => ?_) (fun c hc => ?_) ⟨⟨⟨_, Heap.get?_push_size _ rfl, rfl, rfl⟩, hl.push _⟩, ?_⟩
  · simp at hc; subst hc; exact ⟨size_none _, by show _ < (h'.push _).objs.size; rw [Heap.size_push]; exact Nat.lt_succ_self _⟩
  · simp at hc; subst hc; exact ⟨hoff, hex⟩
  · refine hd.to fun c o g1 g2 => ⟨cO_old (hb := h') (fun c hc => by simp at hc; subst hc; exact size_none _) (fun c hc => none_from (Nat.le_of_succ_le (by rw [show ({ s with heap := h'.push { cls := .type "tuple_iterator", data := .fields #[.ref a, .int 0 0] }, toks := tk } : Shared).heap.objs.size = h'.objs.size + 1 from Heap.size_push ..] at hc; exact hc))) c o g1 g2, Heap.get?_push_of_some _ g2⟩
theorem src_den {t' : Expr} {s : Shared} {J : List D → Prop} {Q : Value → Shared → Prop} {Ex : Value → Shared → Prop} (S : Stn W A l O s.heap) (hq : SrcK W A l O t' s J Q) {h' : Heap} {tk : Nat} (he : Ev (fsOf l) s.heap h') {v : Value} {d : D} (hv : Den W.st O h' v d) (hJ : opt d.items J) :
    wpAny (model W.prog W.w) A (pyIter v) Q Ex { s with heap := h', toks := tk } := by
  refine of_optC hJ fun items hi hJ => ?_
  cases hv with
  | list ha hl hd hz => cases hi; exact src_list S.handled hq he hl hd hz (fun q => ha (S.sub _ q)) hJ
  | tuple ha hl hd hz => cases hi; exact src_tuple S.handled hq he hl hd hz (fun q => ha (S.sub _ q)) hJ
  | _ => cases hi
theorem range_small {i j : Int} (h : (small i && small j && fits (j - i).toNat) = true) : Builtin.Range.small i j 1 = true ∧ Builtin.Range.rangeSize i j 1 = ((j - i).toNat : Int) := by
  simp only [Bool.and_eq_true] at h
  have h1 := small_le h.1.1
  have h2 := small_le h.1.2
  have h3 := fits_le h.2
  have e : Builtin.Range.rangeSize i j 1 = ((j - i).toNat : Int) := by rw [rangeSize_one]; split <;> (first | lia | omega)
  refine ⟨?_, e⟩
  unfold Builtin.Range.small Builtin.Range.rangeFitsLong
  rw [e]
  simp only [Bool.and_eq_true, decide_eq_true_eq, Bool.or_eq_true, beq_iff_eq]
  refine ⟨⟨⟨⟨⟨by (first | lia | omega), by (first | lia | omega)⟩, by (first | lia | omega), by (first | lia | omega)⟩, by decide, by decide⟩, by (first | lia | omega), by (first | lia | omega)⟩, ?_⟩
  right
  rw [if_pos (by decide)]
  simp only [Bool.and_eq_true, decide_eq_true_eq]
  exact ⟨by (first | lia | omega), by (first | lia | omega)⟩
theorem nab {N a b : Nat} (h : a ≠ b) : (N + a : Nat) ≠ N + b := fun e => h (Nat.add_left_cancel e)
@[elab_as_elim] theorem ii_of {P : Int → Int → Prop} {G : D → D → Prop} {x y : D} (h : match x, y with | .int i, .int j => P i j | _, _ => False) (k : ∀ i j, P i j → G (.int i) (.int j)) : G x y := by
  cases x with
  | int i => cases y with
    | int j => exact k i j h
    | _ => cases h
  | _ => cases h
@[elab_as_elim] theorem ll_of {P : List D → List D → Prop} {G : D → D → Prop} {x y : D} (h : match x, y with | .list i, .list j => P i j | _, _ => False) (k : ∀ i j, P i j → G (.list i) (.list j)) : G x y := by
  cases x with
  | list i => cases y with
    | list j => exact k i j h
    | _ => cases h
  | _ => cases h
theorem src_range {t' : Expr} {s : Shared} {J : List D → Prop} {Q : Value → Shared → Prop} {Ex : Value → Shared → Prop} (hh : A.handled = none) (hq : SrcK W A l O t' s J Q) {h₂ : Heap} {tk₂ : Nat} (he : Ev (fsOf l) s.heap h₂) {i j : Int} {t t2 : Tok} (g1 : (small i && small j && fits (j - i).toNat) = true) (g2 : J (rangeL i (j - i).toNat)) :
    wpAny (model W.prog W.w) A (call (.type "range") [.int i t, .int j t2]) (fun x s₁ => wpAny (model W.prog W.w) A (pyIter x) Q Ex s₁) Ex { s with heap := h₂, toks := tk₂ } := by
  obtain ⟨r1, r2⟩ := range_small g1
  refine call_range_2 ?_
  refine wpAny_pyIter_range (IsRange.new ..) r1 ?_
  rw [r2]
  generalize hH1 : h₂.push { cls := .type "range", data := .fields #[.int i t, .int j t2, .int 1 tk₂] } = H1
  have z1 : H1.objs.size = h₂.objs.size + 1 := by rw [← hH1, Heap.size_push]
  refine hq (rangeL i (j - i).toNat) h₂ { s with heap := H1.push { cls := .type "range_iterator", data := .fields #[rawInt i, rawInt (j - i).toNat, rawInt 1] }, toks := tk₂ + 1 } H1.objs.size [H1.objs.size] [] (WkC.range hh i (j - i).toNat) rfl g2
    (by rw [rangeL_length]; simp only [Bool.and_eq_true] at g1; exact g1.2) he ?_ (fun c hc => ?_) nofun ?_
  · rw [← hH1]; exact (push_ev _).push _
  · cases List.mem_singleton.mp hc; exact ⟨none_from (by rw [z1]; exact Nat.le_succ _), by show _ < (H1.push _).objs.size; rw [Heap.size_push]; exact Nat.lt_succ_self _⟩
  · show IsRangeIter _ _ (i + ((0 : Nat) : Int)) _ 1
    rw [show i + ((0 : Nat) : Int) = i by simp]
    have : ((((j - i).toNat : Nat) : Int) - ((0 : Nat) : Int)) = ((j - i).toNat : Int) := by simp
    rw [this]
    exact Heap.get?_push_size _ rfl
theorem src_zip {es : List Expr} {x1 : Nat} {p : Pos} {s : Shared} {J : List D → Prop} {Q : Value → Shared → Prop} {Ex : Value → Shared → Prop} (hq : SrcK W A l O (.Tuple es x1 p) s J Q) {h₂ : Heap} {tk₂ : Nat} (S : Stn W A l O h₂) (he : Ev (fsOf l) s.heap h₂) {l1 l2 : Addr} {vs us : List Value} {xs ys : List D} (ha : ¬ O l1) (hb : ¬ O l2) (hl1 : h₂.IsList l1 vs.toArray) (hl2 : h₂.IsList l2 us.toArray)
    (d1 : Dens W.st O h₂ vs xs) (d2 : Dens W.st O h₂ us ys) (z1 : fits xs.length = true) (hJ : J (zipL xs ys)) :
    wpAny (model W.prog W.w) A (call (.type "zip") [.ref l1, .ref l2]) (fun x s₁ => wpAny (model W.prog W.w) A (pyIter x) Q Ex s₁) Ex { s with heap := h₂, toks := tk₂ } := by
  refine call_zip_2 (s := { s with heap := h₂, toks := tk₂ }) hl1 hl2 fun h₃ g1 g2 g3 g4 g5 g6 g7 => wpAny_pyIter_zip (s := { s with heap := h₃, toks := tk₂ }) g1 ?_
  have lt1 : l1 < h₂.objs.size := by obtain ⟨o, ho, _⟩ := hl1; exact Heap.lt_size ho
  have lt2 : l2 < h₂.objs.size := by obtain ⟨o, ho, _⟩ := hl2; exact Heap.lt_size ho
  simp only at g1 g2 g3 g4 g5 g6 g7
  generalize hN : h₂.objs.size = N at *
  have Z : ZipApart (N + 4) (N + 2) (N + 3) N (N + 1) l1 l2 := ⟨nab (by decide), nab (by decide), nab (a := 0) (by decide), nab (by decide), nab (by decide), nab (b := 0) (by decide), nab (by decide), nab (b := 0) (by decide), nab (by decide), nab (a := 0) (by decide), Nat.ne_of_lt (Nat.lt_add_right 4 lt1), Nat.ne_of_lt (Nat.lt_add_right 3 lt1), Nat.ne_of_lt lt1, Nat.ne_of_lt (Nat.lt_add_right 1 lt1), Nat.ne_of_lt (Nat.lt_add_right 4 lt2), Nat.ne_of_lt (Nat.lt_add_right 3 lt2), Nat.ne_of_lt lt2, Nat.ne_of_lt (Nat.lt_add_right 1 lt2)⟩
  have hws1 : ∀ k, k < 5 → h₂.get? (N + k) = none ∧ N + k < h₃.objs.size := fun k hk => ⟨none_from (by rw [hN]; exact Nat.le_add_right _ _), by rw [g6]; exact Nat.add_lt_add_left hk N⟩
  have hws : ∀ c ∈ [N + 4, N + 3, N, N + 1, N + 2], h₂.get? c = none ∧ c < h₃.objs.size := fun c hc => by
    rcases List.mem_cons.mp hc with rfl | hc
    · exact hws1 4 (by decide)
    rcases List.mem_cons.mp hc with rfl | hc
    · exact hws1 3 (by decide)
    rcases List.mem_cons.mp hc with rfl | hc
    · exact hws1 0 (by decide)
    rcases List.mem_cons.mp hc with rfl | hc
    · exact hws1 1 (by decide)
    cases List.mem_singleton.mp hc
    exact hws1 2 (by decide)
  have den : ∀ c o, ¬ O c → h₂.get? c = some o → ¬ cO O [N + 4, N + 3, N, N + 1, N + 2] h₃.objs.size c ∧ h₃.get? c = some o := fun c o q1 q2 =>
    ⟨cO_old (fun c hc => (hws c hc).1) (fun c hc => none_from (by rw [hN]; rw [g6] at hc; exact Nat.le_trans (Nat.le_add_right N 5) hc)) c o q1 q2, g7 c o q2⟩
  have zl := zipL_length xs ys
  have z1' := fits_le z1
  exact hq (zipL xs ys) h₂ { s with heap := h₃, toks := tk₂ } (N + 4) [N + 4, N + 3, N, N + 1, N + 2] [l1, l2]
    (WkC.zip (vs := vs) (us := us) S.handled Z (.inr (.inl m5.1)) (.inr (.inl m5.2.1)) (.inr (.inl m5.2.2.1)) (.inr (.inl m5.2.2.2.1))) rfl hJ (fits_of (by (first | lia | omega))) he (Ev.of g7) hws
    (fun c hc => by
      rcases List.mem_cons.mp hc with rfl | hc
      · exact ⟨fun q => ha (S.sub _ q), let ⟨o, ho, _⟩ := hl1; ⟨o, ho⟩⟩
      · cases List.mem_singleton.mp hc; exact ⟨fun q => hb (S.sub _ q), let ⟨o, ho, _⟩ := hl2; ⟨o, ho⟩⟩)
    ⟨g1, g2, ⟨_, _, g3⟩, g4, g5, (let ⟨o, ho, r⟩ := hl1; ⟨o, g7 _ o ho, r⟩), (let ⟨o, ho, r⟩ := hl2; ⟨o, g7 _ o ho, r⟩), d1.to den, d2.to den⟩
theorem src_ok (ok : WOk W) (ih : XOk W Φ k n) {s : Shared} (H : Here W k A l env O fp s.heap ρ) {m : Nat} {t' it' : Expr} {it : E} {J : List D → Prop} {X : Prop} {Q : Value → Shared → Prop} {Ex : Value → Shared → Prop}
    (hc : chkE W.toNms m env.scope it' it = true) (hx : xSrc Φ W.G n it ρ J X) (hX : XK W l s X Ex) (hzt : ∀ a b, it = .zip a b → ∃ es x1 p, t' = .Tuple es x1 p) (hq : SrcK W A l O t' s J Q) :
    wpAny (model W.prog W.w) A (eval it' env) (fun x s₁ => wpAny (model W.prog W.w) A (pyIter x) Q Ex s₁) Ex s := by
  have plain : xE Φ W.G n it ρ (fun d => opt d.items J) X → wpAny (model W.prog W.w) A (eval it' env) (fun x s₁ => wpAny (model W.prog W.w) A (pyIter x) Q Ex s₁) Ex s := fun hx =>
    (ih.e hc H hx).bind (fun d v h' tk hK he hv => src_den H.stn hq he hv hK) hX
  cases it with
  | var x =>
    refine c_var hc fun _ h1 => ?_
    have hd := loc_nd h1
    have hx' : (match ρ.get x with | some (.v d) => opt d.items J | some (.own ds) => J ds | some (.brw ds) => J ds | _ => False) := hx
    cases hg : ρ.get x with
    | none => rw [hg] at hx'; cases hx'
    | some lv =>
      rw [hg] at hx'
      cases lv with
      | v d =>
        obtain ⟨v, r, lv⟩ := H.rel.get x _ hg
        exact rd_name H.eok r hd (src_den (tk := s.toks) H.stn hq Ev.refl lv hx')
      | own ds =>
        obtain ⟨v, r, a, vs, q1, rfl, q3, q4, q5, q6⟩ := H.rel.get x _ hg
        exact rd_name H.eok r hd (src_list (tk := s.toks) H.stn.handled hq Ev.refl q4.isList q5 q6 (H.rel.off x a (by rw [q1]; exact .head _)).2 hx')
      | brw ds =>
        obtain ⟨v, r, a, vs, q1, rfl, q3, q4, q5, q6⟩ := H.rel.get x _ hg
        exact rd_name H.eok r hd (src_list (tk := s.toks) H.stn.handled hq Ev.refl q4 q5 q6 (H.rel.off x a (by rw [q1]; exact .head _)).2 hx')
      | rcv _ => cases hx'
  | range a b =>
      refine c_range hc fun m _ _ _ _ h1 h2 h3 => ?_
      refine Call_Name2 (bi_name ok H.eok H.stn h1 bi_range ?_) (by rw [chk_star h2, chk_star h3]; rfl)
      refine PySem.callWith_type rfl (Calls.evalArgs_plain (Calls.spliced_cons ((ih.e h2 H hx).bind (fun x v h' tk hK he hv => ?_) hX)))
      refine Calls.spliced_cons ((ih.e (s := { s with heap := h', toks := tk }) h3 (H.ev ok he) hK).bind (fun y u h₂ tk₂ hK₂ he₂ hu => Calls.spliced_nil ?_) (hX.go he))
      have hv' := hv.ev he₂ H.stn.sub
      revert hv' hu
      refine ii_of (x := x) (y := y) hK₂ fun i j g hu hv' => ?_
      obtain ⟨t, rfl⟩ := hv'.int_inv
      obtain ⟨t2, rfl⟩ := hu.int_inv
      exact src_range H.stn.handled hq (he.trans he₂) g.1 g.2
  | zip a b =>
      obtain ⟨es, x1, p, rfl⟩ := hzt a b rfl
      refine c_zip hc fun m _ _ _ _ h1 h2 h3 => ?_
      refine Call_Name2 (bi_name ok H.eok H.stn h1 bi_zip ?_) (by rw [chk_star h2, chk_star h3]; rfl)
      refine PySem.callWith_type rfl (Calls.evalArgs_plain (Calls.spliced_cons ((ih.e h2 H hx).bind (fun x v h' tk hK he hv => ?_) hX)))
      refine Calls.spliced_cons ((ih.e (s := { s with heap := h', toks := tk }) h3 (H.ev ok he) hK).bind (fun y u h₂ tk₂ hK₂ he₂ hu => Calls.spliced_nil ?_) (hX.go he))
      have hv' := hv.ev he₂ H.stn.sub
      revert hv' hu
      refine ll_of (x := x) (y := y) hK₂ fun xs ys hJ hu hv' => ?_
      obtain ⟨l1, vs, rfl, ha, hl1, d1, z1⟩ := hv'.list_inv
      obtain ⟨l2, us, rfl, hb, hl2, d2, z2⟩ := hu.list_inv
      exact src_zip hq (H.stn.ev (he.trans he₂)) (he.trans he₂) ha hb hl1 hl2 d1 d2 z1 hJ
  | _ => exact plain hx
end
end Mine
set_option Elab.async false
set_option maxRecDepth 100000
set_option maxHeartbeats 4000000
namespace Mine
set_option tactic.hygienic false
open PySem PyProof.Rows
section
variable {W : Wd} {Φ : Phi} {H : HSpec} {k n : Nat}
theorem tgt_tuple {N : Nms} {sc : Scope} {xs : List Nat} {t' : Expr} (h : chkTarget N sc xs false t' = true) : ∃ es x1 p, t' = .Tuple es x1 p := t_tup h fun es x1 p _ _ => ⟨es, x1, p, rfl⟩
theorem comp_ok (ok : WOk W) : CompOk W Φ k n := by
  intro m elt' t' it' ifs' scope pos elt it xs cap one ifs ρ K X A l env O fp s hc H0 ih hx Q Ex hq hX
  obtain ⟨m, hC, hci, hzt⟩ := compC_of hc
  rw [xE_comp] at hx
  obtain ⟨cl, hclos, hcl, hcl2⟩ := closure_ok (env := env) (scope := scope) fun x hx hf => H0.eok.cells _ ((hC.names x hx).2.2 hf)
  rw [eval_ListComp]
  refine wpAny_comprehension_free (use := none) (g := ⟨t', it', ifs', 0⟩) (gs := []) rfl (fun x => chk_fold hci _ x) hclos hC.kind (fun x hx hl => (hC.names x hx).2.1 hl) ?_
  refine src_ok ok ih H0 hci hx hX (fun a b q => tgt_tuple (by have := hC.tgt; rw [hzt a b q] at this; exact this)) ?_
  intro items hb s₂ I ws ks wk hs₂ hJ hz he hev hws hks hat
  refine comp_block (RR := fun acc C => compPost (model W.prog W.w) A Ex none Q acc C) ok ih (H0.ev ok he) hC hcl hcl2 hev hws hks wk hat hz hJ ?_
  intro ds ys h' tk hK own' dn' hzd ⟨mm, ns'⟩ ev'
  refine ⟨mm, ns', fun h₃ s₃ => ?_⟩
  have hDC : s₂.heap.objs.size ≠ s₂.heap.objs.size + 1 := Nat.ne_of_lt (Nat.lt_succ_self _)
  have hbD : ∀ c, s₂.heap.objs.size ≤ c → hb.get? c = none := fun c hc => by
    cases q : hb.get? c with
    | none => rfl
    | some o => obtain ⟨sl, z⟩ := hev.some q; exact absurd (Heap.lt_size z) (Nat.not_lt.mpr hc)
  have H1 := H0.ev ok he
  have nOD : ¬ O s₂.heap.objs.size := fun q => by obtain ⟨o, ho⟩ := (H1.stn.fresh _ q).2; rw [hbD _ (Nat.le_refl _)] at ho; cases ho
  have e₃ : Ev (fsOf l) s.heap h₃ := by
    refine he.trans ⟨fun c o g1 g2 => (s₃.2 c (fun q => by rw [q, hbD _ (Nat.le_succ _)] at g2; cases g2)).trans (ev'.keep c o g1 g2), fun c o g1 g2 => ?_⟩
    obtain ⟨sl, z⟩ := ev'.slot c o g1 g2
    exact ⟨sl, (s₃.2 c (fun q => by rw [q, hbD _ (Nat.le_succ _)] at g2; cases g2)).trans z⟩
  have := hq (.list ds) (.ref s₂.heap.objs.size) h₃ tk hK e₃ (.list nOD ?_ (dn'.to fun c o g1 g2 => ⟨fun q => g1 (.inl q), (s₃.2 c (fun q => g1 (q ▸ .inr (.inr (.inr rfl))))).trans g2⟩) hzd)
  · rw [hs₂]; exact this
  · exact (own'.to fun o e => ⟨o.slots, (s₃.2 _ hDC).trans e⟩).isList
theorem Inv.growEv {b : Bd} {O : Addr → Prop} {fp : Nat → List Addr} {ρ : Loc} {h h' : Heap} (ok : WOk W) (bo : BdOk W k b) (I : Inv W b O fp h ρ) {a : Addr} {o : Obj} (e : Ev (fsOf b.l) h h') (n : h.get? a = none) (ha : h'.get? a = some o) : Inv W b (fun c => O c ∨ c = a) fp h' ρ :=
  let J := I.ev ok bo e
  have g : Gr O h (fun c => O c ∨ c = a) h' := ⟨fun _ q => .inl q, fun c o q => e.some q, fun c o h1 h2 => ⟨fun q => q.elim h1 (fun q => by subst q; rw [n] at h2; cases h2), e.keep c o (fun hm => h1 (I.fsub c hm)) h2⟩⟩
  { base := J.base, funs := J.funs, fr0 := J.fr0, all := J.all, sub := fun c q => .inl (I.sub c q), fsub := fun c q => .inl (I.fsub c q)
    fresh := fun c hc => by
      rcases hc with q | rfl
      · exact J.fresh c q
      · exact ⟨fresh_of (I.stays bo) n, _, ha⟩
    ns := J.ns, cell := fun x c q => ⟨.inl (J.cell x c q).1, (J.cell x c q).2⟩
    rel := ⟨fun x lv q => let ⟨v, r, z⟩ := I.rel.get x lv q; ⟨v, r.ev e, z.gr ok g (fun c o hc q' => e.keep c o (I.rel.off x c hc).2 q') (J.stays bo)⟩, fun x c q => ⟨.inl (I.rel.off x c q).1, (I.rel.off x c q).2⟩, I.rel.bnd⟩
    fpc := I.fpc, own := I.own, rcv := I.rcv, rid := J.rid }
/-- a comprehension is handed to a name -/
theorem comp_asg (ok : WOk W) {b : Bd} {O : Addr → Prop} {fp : Nat → List Addr} {ρ : Loc} (XA : ∀ n, XOk W Φ k n) {s : Shared} {m x : Nat} {st : Stmt} {e : E} {K : Loc → Prop} {R : D → Loc → Prop} {X : Loc → Prop} (hce : isCompE e = true)
    (bo : BdOk W k b) (hc : chkS W.toNms W.nn m b.env.scope st (.asg x e) = true) (I : Inv W b O fp s.heap ρ) (hx : xS Φ W.G H (n + 1) (.asg x e) ρ K R X) : Does W b O fp (exec st b.env) K R X s := by
  intro Q Ex hN _ hE _
  refine cs_asg hc fun m p v pos ht _ hvv => ?_
  obtain ⟨hv, hsw⟩ := hvv hce
  cases e with
  | comp elt xs one it ifs cap =>
    cases n with
    | zero => cases hx
    | succ n =>
      have hv' := hv
      clear hvv
      revert hv' hsw
      refine c_comp hv fun _ elt' t' it' ifs' scope pos' _ _ _ _ _ _ _ _ _ _ hsw hv' => ?_
      obtain ⟨m, hC, hci, hzt⟩ := compC_of hv'
      obtain ⟨_, x1, x2⟩ := tgt1_ok ht
      have hx' : xE Φ W.G (n + 1) (.comp elt xs one it ifs cap) ρ (fun d => K (ρ.set x (.v d))) (X ρ) := hx
      rw [xE_comp] at hx'
      have hsw' : swapsWith (.ListComp elt' [⟨t', it', ifs', 0⟩] scope pos') (some (.Name (W.nm x) p)) pos.line b.env = pure true := by
        have hb : (b.env.blockKind == .function) = true := by unfold Env.blockKind; rw [bo.eok.kind]; rfl
        have e : (b.env.blockKind == .function && b.env.kindOf (W.nm x) == some .local && p.line == pos'.line && !(scope.names.any fun (n, k) => n == W.nm x && (k == .local || k == .cell))) = true := by
          rw [hb]; exact hsw
        exact congrArg pure e
      obtain ⟨cl, hclos, hcl, hcl2⟩ := closure_ok (env := b.env) (scope := scope) fun x hx hf => bo.eok.cells _ ((hC.names x hx).2.2 hf)
      have H0 := I.here bo
      rw [exec_Assign_Name_used _ _ _ _ hsw']
      refine wpAny_bind (wpAny_standAt (wpAny_bind ?_))
      show wpAny _ b.A (do let _ ← comprehension (.ListComp elt' [⟨t', it', ifs', 0⟩] scope pos') scope b.env _ (newList []) false (eval it' b.env) (some (assign (.Name (W.nm x) p) b.env))) _ _ s
      refine wpAny_bind (wpAny_mono (wpAny_comprehension_free (use := some (assign (.Name (W.nm x) p) b.env)) (Q := fun _ s' => Q .next s') (g := ⟨t', it', ifs', 0⟩) (gs := []) rfl (fun x => chk_fold hci _ x) hclos hC.kind (fun x hx hl => (hC.names x hx).2.1 hl) ?_) (fun _ s' hq => wpAny_pure (wpAny_pure hq)) fun _ _ e => e)
      refine src_ok ok (XA n) H0 hci hx' (hE.xk bo I) (fun a b q => tgt_tuple (by have := hC.tgt; rw [hzt a b q] at this; exact this)) ?_
      intro items hb s₂ I' ws ks wk hs₂ hJ hz he hev hws hks hat
      refine comp_block (RR := fun acc C => compPost (model W.prog W.w) b.A Ex (some (assign (.Name (W.nm x) p) b.env)) (fun _ s' => Q .next s') acc C) ok (XA n) (H0.ev ok he) hC hcl hcl2 hev hws hks wk hat hz hJ ?_
      intro ds ys h' tk hK own' dn' hzd ⟨mm, ns'⟩ ev'
      have hDC : s₂.heap.objs.size ≠ s₂.heap.objs.size + 1 := Nat.ne_of_lt (Nat.lt_succ_self _)
      have hbD : ∀ c, s₂.heap.objs.size ≤ c → hb.get? c = none := fun c hc => by
        cases q : hb.get? c with
        | none => rfl
        | some o => obtain ⟨sl, z⟩ := hev.some q; exact absurd (Heap.lt_size z) (Nat.not_lt.mpr hc)
      have I₁ := I.ev ok bo he
      obtain ⟨oC, es, ep, hoC, rC⟩ := id ns'
      have I₂ := I₁.growEv ok bo ev' (hbD _ (Nat.le_succ _)) hoC
      have cN : hb.get? (s₂.heap.objs.size + 1) = none := hbD _ (Nat.le_succ _)
      have nw : New hb (fun c => O c ∨ c = s₂.heap.objs.size + 1) [s₂.heap.objs.size + 1] := fun c hc => by simp at hc; subst hc; exact ⟨.inr rfl, cN⟩
      obtain ⟨o1, o2, o3, o4, o5, o6⟩ := nw.off bo I₁ (s₂.heap.objs.size + 1) (by simp)
      have nOD : ¬ (O s₂.heap.objs.size ∨ s₂.heap.objs.size = s₂.heap.objs.size + 1) := fun q => by
        rcases q with q | q
        · obtain ⟨o, ho⟩ := (I₁.fresh _ q).2; rw [hbD _ (Nat.le_refl _)] at ho; cases ho
        · exact hDC q
      have dv : Den W.st (fun c => O c ∨ c = s₂.heap.objs.size + 1) h' (.ref s₂.heap.objs.size) (.list ds) := .list nOD own'.isList (dn'.to fun c o g1 g2 => ⟨fun q => g1 (q.elim .inl fun q => .inr (.inr (.inr q))), g2⟩) hzd
      have es₂ : ({ s₂ with heap := h', toks := tk } : Shared) = { s with heap := h', toks := tk } := by rw [hs₂]
      show wpAny _ b.A (assign (.Name (W.nm x) p) b.env (.ref s₂.heap.objs.size)) _ _ { s₂ with heap := h', toks := tk }
      rw [es₂]
      refine wpAny_assign_Name (store_ok ok bo (s := { s with heap := h', toks := tk }) I₂ x1 x2 (F := []) (lv := .v (.list ds)) dv FpOk.v fun h₃ tk₃ I₃ kp₃ => ?_)
      refine ⟨mm, ⟨oC, es, ep, kp₃ _ oC o1 o2 hoC, rC⟩, fun h₄ s₄ => ?_⟩
      have hup : ∀ y, s₂.heap.objs.size + 1 ∉ upd fp x [] y := fun y => by
        by_cases hy : y = x
        · simp [upd, hy]
        · simp only [upd, if_neg hy]; exact o5 y
      have I₄ := I₃.dropI ok bo (.inr rfl) o3 o1 o2 hup (h' := h₄) (fun c o h1 h2 => (s₄.2 c h1).trans h2)
      refine hN _ _ _ h₄ tk₃ hK I₄ ⟨fun a g1 g2 g3 g4 => ?_, fun c o g1 g2 => ?_⟩
      · have a1 : a ≠ s₂.heap.objs.size + 1 := fun q => o6 (q ▸ g1)
        refine ⟨⟨.inl g1, a1⟩, fun y => ?_, fun o e => ?_⟩
        · by_cases hy : y = x
          · simp [upd, hy]
          · simp only [upd, if_neg hy]; exact g3 y
        · exact (s₄.2 a a1).trans (kp₃ a o g2 g4 (ev'.keep a o g2 (he.keep a o g2 e)))
      · have c1 : hb.get? c = some o := he.keep c o (fun hm => g1 (I.fsub c hm)) g2
        have c2 : c ≠ s₂.heap.objs.size + 1 := fun q => by rw [q, cN] at c1; cases c1
        refine ⟨fun q => q.1.elim g1 c2, (s₄.2 c c2).trans (kp₃ c o (fun hm => g1 (I.fsub c hm)) (fun y c' q e => g1 (e ▸ (I.cell y c' q).1)) (ev'.keep c o (fun hm => g1 (I.fsub c hm)) c1))⟩
  | _ => cases hce
end
end Mine
set_option Elab.async false
set_option maxRecDepth 100000
set_option maxHeartbeats 4000000
namespace Mine
set_option tactic.hygienic false
open PySem PyProof.Rows
inductive PairsAre (W : Wd) : List (Nat × Int) → List (Value × Value) → Prop
  | nil : PairsAre W [] []
  | cons {k : Nat} {i : Int} {t u : Tok} {r : List (Nat × Int)} {q : List (Value × Value)} : k < 32 → PairsAre W r q → PairsAre W ((k, i) :: r) ((.str (W.st k) t, .int i u) :: q)
theorem distinct_ok : ∀ {l : List Nat}, distinctN l = true → l.Nodup
  | [], _ => List.nodup_nil
  | x :: r, h => by
    simp only [distinctN, Bool.and_eq_true, Bool.not_eq_true'] at h
    exact List.nodup_cons.mpr ⟨fun hm => by have := h.1; simp [hm] at this, distinct_ok h.2⟩
section
variable {W : Wd} {Φ : Phi} {k n : Nat}
theorem PairsAre.strs : ∀ {l : List (Nat × Int)} {q : List (Value × Value)}, PairsAre W l q → allStrKeys q = true ∧ (strPairs q).map (·.1) = l.map (fun p => W.st p.1) ∧ (∀ p ∈ l, p.1 < 32)
  | _, _, .nil => ⟨rfl, rfl, nofun⟩
  | _, _, .cons h r => by
    obtain ⟨h1, h2, h3⟩ := r.strs
    refine ⟨h1, by simp only [strPairs, List.map_cons]; rw [h2], fun p hp => ?_⟩
    rcases List.mem_cons.mp hp with rfl | hp
    · exact h
    · exact h3 p hp
theorem PairsAre.at (ok : WOk W) : ∀ {l : List (Nat × Int)} {q : List (Value × Value)} {x : Nat} {d : D}, PairsAre W l q → x < 32 → dgetL l x = some d → ∃ i u, d = .int i ∧ valueAt (strPairs q) (W.st x) = some (.int i u)
  | _, _, x, d, .nil, _, h => by cases h
  | _, _, x, d, .cons (k := j) (i := i) (u := u) hk r, hx, h => by
    simp only [dgetL] at h
    split at h
    · rename_i hb
      cases h
      cases Nat.eq_of_beq_eq_true hb
      exact ⟨i, u, rfl, by simp [strPairs, valueAt]⟩
    · rename_i hb
      obtain ⟨i', u', rfl, h2⟩ := r.at ok hx h
      refine ⟨i', u', rfl, ?_⟩
      have : W.st j ≠ W.st x := fun e => by
        have := ok.inj j x hk hx e
        subst this
        rw [Nat.beq_refl] at hb; cases hb
      simp only [strPairs, valueAt, List.find?_cons, decide_eq_false this]
      exact h2
theorem pairs_walk {A : Around} {env : Env} {pos : Pos} {Ex : Value → Shared → Prop} : ∀ {kvs : List (Nat × Int)} {ks : List (Option Expr)} {vs : List Expr} {s : Shared} {Q : List (Value × Value) → Shared → Prop},
    kvs.length = ks.length → kvs.length = vs.length →
    (kvs.zip (ks.zip vs)).all (kvOk W.toNms) = true →
    (∀ ps tk, PairsAre W kvs ps → Q ps { s with toks := tk }) → wpAny (model W.prog W.w) A (evalPairs (pairTrees ks vs env pos)) Q Ex s
  | [], [], [], s, Q, _, _, _, hq => pairTrees_nil_walk (hq [] s.toks .nil)
  | [], _ :: _, _, _, _, h, _, _, _ => by cases h
  | [], [], _ :: _, _, _, _, h, _, _ => by cases h
  | _ :: _, [], _, _, _, h, _, _, _ => by cases h
  | _ :: _, _ :: _, [], _, _, _, h, _, _ => by cases h
  | (k, i) :: kvs, ke :: ks, ve :: vs, s, Q, h1, h2, h3, hq => by
    obtain ⟨h4, h5⟩ := an h3
    obtain ⟨_, _, _, _, rfl, rfl, h7⟩ := kv_of h4
    refine pairTrees_cons_walk (wpAny_Constant_str (wpAny_Constant_int ?_))
    exact pairs_walk (Nat.succ.inj h1) (Nat.succ.inj h2) h5 fun ps tk hp => hq _ tk (.cons h7 hp)
theorem keys_some {N : Nms} : ∀ {kvs : List (Nat × Int)} {ks : List (Option Expr)} {vs : List Expr}, kvs.length = ks.length → kvs.length = vs.length → (kvs.zip (ks.zip vs)).all (kvOk N) = true → ks.all (·.isSome) = true
  | _, [], _, _, _, _ => rfl
  | [], _ :: _, _, h, _, _ => by cases h
  | _ :: _, _ :: _, [], _, h, _ => by cases h
  | p :: kvs, o :: ks, v :: vs, h1, h2, h => by
    obtain ⟨h4, h5⟩ := an h
    obtain ⟨_, _, _, _, rfl, _, _⟩ := kv_of h4
    exact keys_some (ks := ks) (vs := vs) (Nat.succ.inj h1) (Nat.succ.inj h2) h5
theorem str_of {a : D} {P : Nat → Prop} (h : match a with | .str x => P x | _ => False) : ∃ x, a = .str x ∧ P x := by
  cases a with
  | str x => exact ⟨x, rfl, h⟩
  | _ => exact h.elim
theorem dget_ok (ok : WOk W) : DgetOk W Φ k n := by
  intro m e kvs key ρ K X A l env O fp s hc H ih hx Q Ex hq hX
  refine c_dget hc fun m ks vs dp k' pos h1 h2 h3' h4 h5 h6 h7 => ?_
  have hall := keys_some h5 h6 h7
  have hne : ks ≠ [] := fun q => h4 (List.length_eq_zero_iff.mp (by rw [h5, q]; rfl))
  refine Subscript_ (wpAny_Dict_walk (knd := strKind W.prog W.w) hall (by rw [← h5, h6]) hne (by rw [← h5]; exact h3') ?_)
  refine pairs_walk h5 h6 h7 fun ps tk hp => ?_
  obtain ⟨p1, p2, p3⟩ := hp.strs
  have nd : ((strPairs ps).map (·.1)).Nodup := by
    rw [p2]
    have := distinct_ok h2
    rw [List.Nodup, List.pairwise_map] at this ⊢
    exact this.imp_of_mem fun {a b} ha hb hne e => hne (ok.inj _ _ (p3 a ha) (p3 b hb) e)
  have hd0 : ({ s with heap := s.heap.push { cls := .type "dict", data := .dict #[] }, toks := tk } : Shared).heap.DictOf (strKind W.prog W.w) s.heap.objs.size [] := Heap.DictOf.new _
  refine display_done_str (prog := W.prog) (w := W.w) (vs := ps) (P := fun h' => _) p1 nd hd0 fun h' hd hs => ?_
  have kp : ∀ c o, s.heap.get? c = some o → h'.get? c = some o := fun c o e => (hs.2 c (Nat.ne_of_lt (Heap.lt_size e))).trans (Heap.get?_push_of_some _ e)
  have he : Ev (fsOf l) s.heap h' := Ev.of kp
  refine (ih.e (s := { s with heap := h', toks := tk + ps.length }) h1 (H.ev ok he) hx).bind (fun d v h₂ tk₂ hK he₂ hv => ?_) (hX.go he)
  obtain ⟨x, rfl, hK⟩ := str_of hK
  obtain ⟨y, t, rfl, hy, hlt⟩ := hv.str_inv
  subst hy
  refine of_optC hK fun r e1 hr => ?_
  obtain ⟨i, u, rfl, hva⟩ := hp.at ok hlt e1
  have hdo : h₂.DictOf (strKind W.prog W.w) s.heap.objs.size (strPairs ps) := by
    obtain ⟨o, es, ep, ho, q1, q2, q3⟩ := hd
    refine ⟨o, es, ep, he₂.keep _ o (fun hm => ?_) ho, q1, q2, q3⟩
    obtain ⟨o', ho'⟩ := (H.stn.fresh _ (H.stn.sub _ hm)).2
    rw [size_none] at ho'; cases ho'
  refine tail_any (T := "dict") (by obtain ⟨o, es, ep, ho, q1, q2, q3⟩ := hdo; exact ⟨o, ho, q1.1⟩) slot_dict_getitem.lookup ?_ (sub_plain (chk_slice h1) _ _)
  exact wpAny_getItem_of (knd := strKind W.prog W.w) (strKind_is _ _ _ _) hdo.mapOf hva (hq _ _ _ _ hr (he.trans he₂) (.int _ _))
end
end Mine
set_option Elab.async false
set_option maxRecDepth 100000
set_option maxHeartbeats 4000000
namespace Mine
set_option tactic.hygienic false
open PySem PyProof.Rows
/-! ## the receiver: its dict holds one int-keyed dict -/
noncomputable def rcvP (prog : Program) (w : World) (C : Addr) (h : Heap) (F : List Addr) (v : Value) (held : List Int) : Prop :=
  ∃ x dx hd od, v = .ref x ∧ F = [x, dx, hd] ∧ x ≠ dx ∧ x ≠ hd ∧ dx ≠ hd ∧ (hd == sysModules) = false ∧ h.get? x = some (PySem.W.instObj C dx) ∧ h.get? dx = some od ∧ PySem.W.lookIn "_held" od = some (some (.ref hd)) ∧ PySem.W.lookIn "handle" od = some none ∧
    h.DictOf (intKind prog w) hd (held.map fun i => (i, .bool true))
/-- what the text's class must be -/
structure RcvF (W : Wd) (K : PySem.W.Frag) (C fI fH : Addr) : Prop where
  inn : K.In W.Hb
  glob : W.mg ("Receiver" : Str) = some (.ref C)
  cls : W.rcv = rcvP W.prog W.w C
  hasDict : (PySem.W.clsIn K C).any (·.hasDict) = true
  makes : PySem.W.makesIn K C = true
  ga : PySem.W.findIn K (.ref C) "__getattribute__" = some (some (.builtin "object.__getattribute__"))
  gk : PySem.W.findIn K (.ref C) "__getattr__" = some none
  sa : PySem.W.findIn K (.ref C) "__setattr__" = some (some (.builtin "object.__setattr__"))
  over : PySem.W.plainOver K C = true
  held : PySem.W.findIn K (.ref C) "_held" = some none
  init : PySem.W.findIn K (.ref C) "__init__" = some (some (.ref fI))
  initT : PySem.W.typeIn K (.ref fI) = some (.type "function")
  handle : PySem.W.findIn K (.ref C) "handle" = some (some (.ref fH))
  handleT : PySem.W.typeIn K (.ref fH) = some (.type "function")
section
variable {W : Wd} {K : PySem.W.Frag} {C fI fH : Addr}
theorem valueAt_held (held : List Int) (i : Int) : (valueAt (held.map fun j => (j, Value.bool true)) i).isSome = held.contains i := by
  induction held with
  | nil => rfl
  | cons j r ih =>
    simp only [List.map_cons, valueAt, List.find?_cons]
    by_cases h : j = i
    · subst h; simp
    · have h' : ¬ i = j := fun e => h e.symm
      simp only [decide_eq_false h, List.contains_cons, beq_eq_false_iff_ne.mpr h', Bool.false_or]
      exact ih
theorem rcv_inst {h : Heap} {x dx : Addr} {od : Obj} (hx : h.get? x = some (PySem.W.instObj C dx)) (hd : h.get? dx = some od) : PySem.W.InstAt h x (PySem.W.instObj C dx) C (some od) := ⟨hx, rfl, rfl, hd⟩
theorem rcv_get (R : RcvF W K C fI fH) {A : Around} {s : Shared} {x dx hd : Addr} {od : Obj} (st : W.Hb.StaysIn s.heap) (hx : s.heap.get? x = some (PySem.W.instObj C dx)) (hdx : s.heap.get? dx = some od) (hl : PySem.W.lookIn "_held" od = some (some (.ref hd)))
    {Q : Value → Shared → Prop} {Ex : Value → Shared → Prop} {e : Bool} (hq : Q (.ref hd) { s with toks := s.toks + 1 }) : wpAny (model W.prog W.w) A (getAttr (.ref x) ("_held" : Str) e) Q Ex s := by
  have X : K.In s.heap := R.inn.keeps st
  obtain ⟨cd, hc, hdd⟩ := PySem.W.any_some R.hasDict
  refine PySem.W.get_value (v := .ref hd) X (rcv_inst hx hdx) R.ga ?_ rfl hq
  unfold PySem.W.findObj
  rw [hc, R.held]
  simp only [Option.bind_some, PySem.W.ownOf, hdd, if_true, hl]
theorem rcv_hin (R : RcvF W K C fI fH) {A : Around} {l : List Env} {O : Addr → Prop} {s : Shared} {F : List Addr} {v : Value} {held : List Int} {i : Int} {t : Tok} {pos : Bool} {Q : Value → Shared → Prop} {Ex : Value → Shared → Prop} (S : Stn W A l O s.heap) (hr : W.rcv s.heap F v held)
    (hq : ∀ tk, Q (.bool (held.contains i == pos)) { s with toks := tk }) : wpAny (model W.prog W.w) A (getAttr v ("_held" : Str) true) (fun r s₁ => wpAny (model W.prog W.w) A (compareOp (inOp pos) (.int i t) r) Q Ex s₁) Ex s := by
  rw [R.cls] at hr
  obtain ⟨x, dx, hd, od, rfl, rfl, _, _, _, hsys, hx, hdx, hl, _, hD⟩ := hr
  refine rcv_get R S.stays hx hdx hl ?_
  have key : (intKind W.prog W.w).is i (.int i t) = true := by simp [intKind, Value.isInt]
  have hD' : ({ s with toks := s.toks + 1 } : Shared).heap.MapOf (intKind W.prog W.w) hd (valueAt (held.map fun j => (j, Value.bool true))) := hD.mapOf
  cases pos with
  | true =>
    refine wpAny_in_of (s := { s with toks := s.toks + 1 }) key hsys hD' ?_
    rw [valueAt_held]
    have := hq (s.toks + 1 + 1)
    rwa [show (held.contains i == true) = held.contains i by cases held.contains i <;> rfl] at this
  | false =>
    refine wpAny_notIn_of (s := { s with toks := s.toks + 1 }) key hsys hD' ?_
    rw [valueAt_held]
    have := hq (s.toks + 1 + 1)
    rwa [show (held.contains i == false) = !held.contains i by cases held.contains i <;> rfl] at this
theorem rcv_to {h h' : Heap} {F : List Addr} {v : Value} {held : List Int} (k : ∀ a o, a ∈ F → h.get? a = some o → h'.get? a = some o) (x : rcvP W.prog W.w C h F v held) : rcvP W.prog W.w C h' F v held := by
  obtain ⟨x, dx, hd, od, rfl, rfl, n1, n2, n3, hsys, hx, hdx, hl, hl2, o, es, ep, ho, r⟩ := x
  exact ⟨x, dx, hd, od, rfl, rfl, n1, n2, n3, hsys, k _ _ (by simp) hx, k _ _ (by simp) hdx, hl, hl2, o, es, ep, k _ _ (by simp) ho, r⟩
end
end Mine
set_option Elab.async false
set_option maxRecDepth 100000
set_option maxHeartbeats 4000000
namespace Mine
set_option tactic.hygienic false
open PySem PyProof.Rows
section
variable {W : Wd} {Φ : Phi} {H : HSpec} {k n : Nat} {b : Bd} {O : Addr → Prop} {fp : Nat → List Addr} {ρ : Loc}
theorem Rd.det {env : Env} {h : Heap} {x : Str} {v w : Value} (p : Rd env h x v) (q : Rd env h x w) : v = w := by
  rcases p with ⟨k1, m1, n1, q1⟩ | ⟨k1, c1, q1, n1⟩ <;> rcases q with ⟨k2, m2, n2, q2⟩ | ⟨k2, c2, q2, n2⟩
  · rw [Ns.det n1 n2, q2] at q1; cases q1; rfl
  · rw [k1] at k2; cases k2
  · rw [k1] at k2; cases k2
  · rw [q1] at q2; cases q2
    obtain ⟨o1, h1, d1⟩ := n1
    obtain ⟨o2, h2, d2⟩ := n2
    rw [h1] at h2; cases h2
    rw [d1] at d2; cases d2; rfl
/-- a receiver's own objects change -/
theorem Inv.chgX (ok : WOk W) (bo : BdOk W k b) {h h' : Heap} (I : Inv W b O fp h ρ) {x : Nat} {r0 r : List Int} (hx : ρ.get x = some (.rcv r0)) (e : ∀ c o, c ∉ fp x → c ∉ fsOf b.l → h.get? c = some o → h'.get? c = some o)
    (sl : ∀ c o, c ∈ fsOf b.l → h.get? c = some o → ∃ s, h'.get? c = some { o with slots := s }) (ex : ∀ a ∈ fp x, ∃ o, h'.get? a = some o) {v : Value} (hrd : Rd b.env h (W.nm x) v) (hv : W.rcv h' (fp x) v r) :
    Inv W b O fp h' (ρ.set x (.rcv r)) ∧ Kp b O fp h O fp h' := by
  have B := I.rcv x r0 hx
  have off := I.rel.off x
  have base : b.B0.StaysIn h' := fun c o q => e c o (fun hm => by rw [(B c hm).1] at q; cases q) (fun hm => by rw [(I.funs.mem hm).1] at q; cases q) (I.base c o q)
  have up : ∀ c o, c ∉ fp x → h.get? c = some o → ∃ s, h'.get? c = some { o with slots := s } := fun c o h1 h2 => by
    by_cases hc : c ∈ fsOf b.l
    · exact sl c o hc h2
    · exact ⟨o.slots, e c o h1 hc h2⟩
  have exi : ∀ c o, h.get? c = some o → ∃ o', h'.get? c = some o' := fun c o h1 => by
    by_cases hc : c ∈ fp x
    · exact ex c hc
    · obtain ⟨s, z⟩ := up c o hc h1; exact ⟨_, z⟩
  have st : W.Hb.StaysIn h' := fun c o q => base c o (bo.hb c o q)
  have den : ∀ c o, ¬ O c → h.get? c = some o → ¬ O c ∧ h'.get? c = some o := fun c o h1 h2 => ⟨h1, e c o (fun hm => h1 (off c hm).1) (fun hm => h1 (I.fsub c hm)) h2⟩
  have lx : b.env.locals ∉ fp x := fun hm => (off _ hm).2 bo.lmem
  have nsk : ∀ {m : Str → Option Value}, h.Ns b.env.locals m → h'.Ns b.env.locals m := fun {m} ⟨o, es, ep, ho, hd, r⟩ => let ⟨s, z⟩ := sl _ o bo.lmem ho; ⟨_, es, ep, z, hd, r⟩
  have ck : ∀ {y : Str} {c : Addr} {w : Option Value}, b.env.cells.lookup y = some c → h.IsCell c w → h'.IsCell c w := fun {y c w} q ⟨o, ho, hd⟩ => let ⟨s, z⟩ := up c o (fun hm => I.fpc x c hm y c q rfl) ho; ⟨_, z, hd⟩
  have rdk : ∀ {y : Str} {w : Value}, Rd b.env h y w → Rd b.env h' y w := by
    intro y w r
    rcases r with ⟨k1, m, n1, q⟩ | ⟨k1, c, q, n1⟩
    · exact .inl ⟨k1, m, nsk n1, q⟩
    · exact .inr ⟨k1, c, q, ck q n1⟩
  refine ⟨{ base := base, funs := ?_, fr0 := ?_, all := fun c o q => let ⟨o', z⟩ := I.all c o q; exi c o' z, sub := I.sub, fsub := I.fsub, fresh := fun c hc => ⟨(I.fresh c hc).1, let ⟨o, z⟩ := (I.fresh c hc).2; exi c o z⟩, ns := let ⟨m, z⟩ := I.ns; ⟨m, nsk z⟩, cell := fun y c q => ⟨(I.cell y c q).1, let ⟨w, z⟩ := (I.cell y c q).2; ⟨w, ck q z⟩⟩, rel := ⟨?_, I.rel.off, ?_⟩, fpc := I.fpc, own := ?_, rcv := ?_, rid := ?_ }, ?_⟩
  · have go : ∀ {l : List Env}, (∀ c ∈ fsOf l, c ∈ fsOf b.l) → h.FunFrames b.B0 l → h'.FunFrames b.B0 l := by
      intro l
      induction l with
      | nil => intro _ _; trivial
      | cons e' r ih =>
        rintro hne ⟨hk, ⟨L, o, hf, hn, ho, hd⟩, hr⟩
        obtain ⟨s, z⟩ := sl L o (hne L (List.mem_filterMap.mpr ⟨e', List.mem_cons_self, hf⟩)) ho
        refine ⟨hk, ⟨L, _, hf, hn, z, hd⟩, ih (fun c hc => hne c ?_) hr⟩
        obtain ⟨e'', he', hf'⟩ := List.mem_filterMap.mp hc
        exact List.mem_filterMap.mpr ⟨e'', List.mem_cons_of_mem _ he', hf'⟩
    exact go (fun _ q => q) I.funs
  · intro f hf o q
    obtain ⟨s, z⟩ := I.fr0 f hf o q
    obtain ⟨s', z'⟩ := sl f _ (bo.mem.mpr (.inr hf)) z
    exact ⟨s', z'⟩
  · intro y lv hy
    rw [Loc.get_set] at hy
    by_cases hyx : y = x
    · subst hyx
      simp at hy; subst hy
      exact ⟨v, rdk hrd, hv⟩
    · rw [if_neg hyx] at hy
      obtain ⟨w, r', z⟩ := I.rel.get y lv hy
      refine ⟨w, rdk r', ?_⟩
      have hF : ∀ a o, a ∈ fp y → h.get? a = some o → h'.get? a = some o := fun a o ha q => e a o (fun hm => (B a hm).2 y hyx ha) (I.rel.off y a ha).2 q
      cases lv with
      | v d => exact Den.to den z
      | own ds => obtain ⟨c, vs, q1, q2, q3, q4, q5, q6⟩ := z; exact ⟨c, vs, q1, q2, q3, q4.to fun o ho => ⟨o.slots, hF c o (by rw [q1]; simp) ho⟩, q5.to den, q6⟩
      | brw ds => obtain ⟨c, vs, q1, q2, q3, ⟨o, ho, rr⟩, q5, q6⟩ := z; exact ⟨c, vs, q1, q2, q3, ⟨o, hF c o (by rw [q1]; simp) ho, rr⟩, q5.to den, q6⟩
      | rcv ds => exact ok.rcvTo (fun a o ha q => hF a o ha q) st z
  · intro y lv hy
    rw [Loc.get_set] at hy
    by_cases hyx : y = x
    · subst hyx; exact I.rel.bnd _ _ hx
    · rw [if_neg hyx] at hy; exact I.rel.bnd _ _ hy
  · intro y es hy c hc
    rw [Loc.get_set] at hy
    by_cases hyx : y = x
    · subst hyx; simp at hy
    · rw [if_neg hyx] at hy; exact I.own _ _ hy c hc
  · intro y es hy c hc
    rw [Loc.get_set] at hy
    by_cases hyx : y = x
    · subst hyx; exact I.rcv _ _ hx c hc
    · rw [if_neg hyx] at hy; exact I.rcv _ _ hy c hc
  · intro v' F' q y r' hy
    rw [Loc.get_set] at hy
    by_cases hyx : y = x
    · subst hyx
      obtain ⟨z1, z2⟩ := I.rid v' F' q y r0 hx
      exact ⟨rdk z1, z2⟩
    · rw [if_neg hyx] at hy
      obtain ⟨z1, z2⟩ := I.rid v' F' q y r' hy
      exact ⟨rdk z1, z2⟩
  · exact ⟨fun c hc h1 hp _ => ⟨hc, hp, fun o q => e c o (hp x) h1 q⟩, den⟩
end
theorem stored_held (held : List Int) (i : Int) : stored (held.map fun j => (j, Value.bool true)) i (.bool true) = ((if held.contains i then held else held ++ [i]).map fun j => (j, Value.bool true)) := by
  have ha : (held.map fun j => (j, Value.bool true)).any (fun kv => decide (kv.1 = i)) = held.contains i := by
    induction held with
    | nil => rfl
    | cons j r ih =>
      simp only [List.map_cons, List.any_cons, List.contains_cons]
      rw [ih]
      congr 1
      by_cases h : j = i
      · subst h; simp
      · have h' : ¬ i = j := fun e => h e.symm
        simp [h, h']
  unfold stored
  rw [ha]
  split
  · rw [List.map_map]
    refine List.map_congr_left fun j _ => ?_
    simp
  · simp
theorem without_held (held : List Int) (i : Int) : without (held.map fun j => (j, Value.bool true)) i = (held.filter fun j => j != i).map fun j => (j, Value.bool true) := by
  unfold without
  rw [List.filter_map]
  congr 1
  refine List.filter_congr fun j _ => ?_
  simp [Function.comp, bne_iff_ne]
  by_cases h : j = i <;> simp [h]
section
variable {W : Wd} {Φ : Phi} {H : HSpec} {k n : Nat} {b : Bd} {O : Addr → Prop} {fp : Nat → List Addr} {ρ : Loc} {K' : PySem.W.Frag} {C fI fH : Addr}
theorem rcv_upd (R : RcvF W K' C fI fH) {h h' : Heap} {x dx hd : Addr} {od : Obj} {held : List Int} (n1 : x ≠ dx) (n2 : x ≠ hd) (n3 : dx ≠ hd) (hsys : (hd == sysModules) = false) (hx : h.get? x = some (PySem.W.instObj C dx)) (hdx : h.get? dx = some od) (hl : PySem.W.lookIn "_held" od = some (some (.ref hd))) (hl2 : PySem.W.lookIn "handle" od = some none)
    (hs : Heap.SameBut hd h h') (hD : h'.DictOf (intKind W.prog W.w) hd (held.map fun i => (i, .bool true))) : W.rcv h' [x, dx, hd] (.ref x) held := by
  rw [R.cls]
  exact ⟨x, dx, hd, od, rfl, rfl, n1, n2, n3, hsys, (hs.2 x n2).trans hx, (hs.2 dx n3).trans hdx, hl, hl2, hD⟩
theorem hset_ok (ok : WOk W) (R : RcvF W K' C fI fH) (bo : BdOk W k b) {s : Shared} {self x : Nat} {id ix at_ : Str} {p1 p2 p3 p4 p5 pos : Pos} {kd : Nat} {K : Loc → Prop} {RR : D → Loc → Prop} {X : Loc → Prop} {held : List Int} {i : Int}
    (h1 : W.nm self = id) (h2 : isLoc b.env.scope id = true) (h3 : at_ = ("_held" : Str)) (h4 : W.nm x = ix) (h5 : isLoc b.env.scope ix = true) (I : Inv W b O fp s.heap ρ) (hg : ρ.get self = some (.rcv held)) (hi : ρ.get x = some (.v (.int i)))
    (hz : fits held.length = true) (hx : K (ρ.set self (.rcv (if held.contains i then held else held ++ [i])))) :
    Does W b O fp (exec (.Assign [.Subscript (.Attribute (.Name id p1) at_ p2) (.Name ix p3) p4] (.Constant (.bool true) kd p5) pos) b.env) K RR X s := by
  intro Q Ex hN _ _ _
  subst h1 h3 h4
  have d1 : (W.nm self == ("__debug__" : Str)) = false := by simp only [isLoc, Bool.and_eq_true, Bool.not_eq_true'] at h2; exact h2.2
  have d2 : (W.nm x == ("__debug__" : Str)) = false := by simp only [isLoc, Bool.and_eq_true, Bool.not_eq_true'] at h5; exact h5.2
  obtain ⟨v, r, lv⟩ := I.rel.get self _ hg
  obtain ⟨u, ru, lu⟩ := I.rel.get x _ hi
  have lv' : W.rcv s.heap (fp self) v held := lv
  rw [R.cls] at lv'
  obtain ⟨xx, dx, hd, od, rfl, hF, n1, n2, n3, hsys, hxx, hdx, hl, hl2, hD⟩ := lv'
  cases lu with
  | int _ t =>
  refine wpAny_Assign_Subscript (Constant_bool (Attribute_name (rd_name bo.eok r d1 (rcv_get R (I.stays bo) hxx hdx hl (rd_name (s := { s with toks := s.toks + 1 }) bo.eok ru d2 ?_)))))
  have hzl := fits_le hz
  refine wpAny_setItem_pairs (knd := intKind W.prog W.w) (s := { s with toks := s.toks + 1 }) (k := i) (by simp [intKind, Value.isInt]) hD (fun h' hD' hs => ?_) (by simp only [List.length_map, sizeLine_eq]; (first | lia | omega))
  rw [stored_held] at hD'
  have hm : hd ∈ fp self := by rw [hF]; simp
  obtain ⟨I', kp⟩ := I.chgX ok bo hg (h' := h') (fun c o g1 _ g => (hs.2 c (fun q => g1 (q ▸ hm))).trans g) (fun c o g1 g => ⟨o.slots, (hs.2 c (fun q => (I.rel.off self hd hm).2 (q ▸ g1))).trans g⟩) (fun a ha => by
    rw [hF] at ha
    simp at ha
    rcases ha with rfl | rfl | rfl
    · exact ⟨_, (hs.2 _ n2).trans hxx⟩
    · exact ⟨_, (hs.2 _ n3).trans hdx⟩
    · obtain ⟨o, es, ep, ho, _⟩ := hD'; exact ⟨o, ho⟩) r (by rw [hF]; exact rcv_upd R n1 n2 n3 hsys hxx hdx hl hl2 hs hD')
  exact hN _ _ _ h' _ hx I' kp
theorem hdel_ok (ok : WOk W) (R : RcvF W K' C fI fH) (bo : BdOk W k b) {s : Shared} {self x : Nat} {id ix at_ : Str} {p1 p2 p3 p4 pos : Pos} {K : Loc → Prop} {RR : D → Loc → Prop} {X : Loc → Prop} {held : List Int} {i : Int}
    (h1 : W.nm self = id) (h2 : isLoc b.env.scope id = true) (h3 : at_ = ("_held" : Str)) (h4 : W.nm x = ix) (h5 : isLoc b.env.scope ix = true) (I : Inv W b O fp s.heap ρ) (hg : ρ.get self = some (.rcv held)) (hi : ρ.get x = some (.v (.int i)))
    (hz : fits held.length = true) (hc : held.contains i = true) (hx : K (ρ.set self (.rcv (held.filter fun j => j != i)))) :
    Does W b O fp (exec (.Delete [.Subscript (.Attribute (.Name id p1) at_ p2) (.Name ix p3) p4] pos) b.env) K RR X s := by
  intro Q Ex hN _ _ _
  subst h1 h3 h4
  have d1 : (W.nm self == ("__debug__" : Str)) = false := by simp only [isLoc, Bool.and_eq_true, Bool.not_eq_true'] at h2; exact h2.2
  have d2 : (W.nm x == ("__debug__" : Str)) = false := by simp only [isLoc, Bool.and_eq_true, Bool.not_eq_true'] at h5; exact h5.2
  obtain ⟨v, r, lv⟩ := I.rel.get self _ hg
  obtain ⟨u, ru, lu⟩ := I.rel.get x _ hi
  have lv' : W.rcv s.heap (fp self) v held := lv
  rw [R.cls] at lv'
  obtain ⟨xx, dx, hd, od, rfl, hF, n1, n2, n3, hsys, hxx, hdx, hl, hl2, hD⟩ := lv'
  cases lu with
  | int _ t =>
  refine wpAny_Delete (wpAny_deleteEach_cons (wpAny_delete_Subscript (Attribute_name (rd_name bo.eok r d1 (rcv_get R (I.stays bo) hxx hdx hl (rd_name (s := { s with toks := s.toks + 1 }) bo.eok ru d2 ?_))))))
  have hzl := fits_le hz
  have hT : ({ s with toks := s.toks + 1 } : Shared).TypeIs (.ref hd) "dict" := hD.typeIs
  refine wpAny_delItem_slot hT (by decide) PySem.F.slot_dict_delitem ?_
  refine call_meetsIn PySem.F.slot_dict_delitem hT PySem.F.entry_dict_delitem (PySem.F.args_dict_delitem_2 _ _) (meets_dict_delitem_pairs (intKind W.prog W.w) hd (k := i) (by simp [intKind, Value.isInt])) ⟨_, hD, by simp only [List.length_map, sizeLine_eq]; (first | lia | omega), by rw [valueAt_held]; exact hc, fun h' hD' hs => ?_⟩
  rw [without_held] at hD'
  have hm : hd ∈ fp self := by rw [hF]; simp
  obtain ⟨I', kp⟩ := I.chgX ok bo hg (h' := h') (fun c o g1 _ g => (hs.2 c (fun q => g1 (q ▸ hm))).trans g) (fun c o g1 g => ⟨o.slots, (hs.2 c (fun q => (I.rel.off self hd hm).2 (q ▸ g1))).trans g⟩) (fun a ha => by
    rw [hF] at ha
    simp at ha
    rcases ha with rfl | rfl | rfl
    · exact ⟨_, (hs.2 _ n2).trans hxx⟩
    · exact ⟨_, (hs.2 _ n3).trans hdx⟩
    · obtain ⟨o, es, ep, ho, _⟩ := hD'; exact ⟨o, ho⟩) r (by rw [hF]; exact rcv_upd R n1 n2 n3 hsys hxx hdx hl hl2 hs hD')
  exact wpAny_deleteEach_nil (hN _ _ _ h' _ hx I' kp)
end
end Mine
set_option Elab.async false
set_option maxRecDepth 100000
set_option maxHeartbeats 4000000
namespace Mine
set_option tactic.hygienic false
open PySem PyProof.Rows PySem.W
section
variable {W : Wd} {K : Frag} {C fI fH : Addr}
theorem set_held (R : RcvF W K C fI fH) {A : Around} {s : Shared} {x dx : Addr} {v : Value} (st : W.Hb.StaysIn s.heap) (hx : s.heap.get? x = some (instObj C dx)) (hdx : s.heap.get? dx = some emptyDict)
    {Q : Unit → Shared → Prop} {Ex : Value → Shared → Prop} (hq : ∀ h' tk, Heap.SameBut dx s.heap h' → h'.get? dx = some (Obj.putName "_held" (PyData.keyHash W.w.params "_held") (.str "_held" (s.toks + 1)) v emptyDict) → Q () { s with heap := h', toks := tk }) :
    wpAny (model W.prog W.w) A (setAttr (.ref x) ("_held" : Str) v) Q Ex s := by
  have X : K.In s.heap := R.inn.keeps st
  have I : InstAt s.heap x (instObj C dx) C (some emptyDict) := rcv_inst hx hdx
  have I1 : InstAt ({ s with toks := s.toks + 1 } : Shared).heap x (instObj C dx) C (some emptyDict) := I
  refine set_plain X I R.sa (osa_open (s := { s with toks := s.toks + 1 }) X I1 R.over (by unfold takerIn; rw [R.held]; rfl) fun b => ?_)
  obtain ⟨cd, hc, hd'⟩ := any_some R.hasDict
  have hx' : ∃ ox : Obj, ox = instObj C dx := ⟨_, rfl⟩
  obtain ⟨ox, hox⟩ := hx'
  rw [← hox] at hx
  obtain ⟨oc, odi, oda, osl⟩ := ox
  injection hox with e1 e2 e3 e4
  subst e1 e2
  refine wpAny_bind (wpAny_pure (wpAny_bind (wpAny_bind (wpAny_loadPart (s := { s with toks := s.toks + 1 }) hx (wpAny_bind (Looks.here (s := { s with toks := s.toks + 1 }) (looks_clsIn X hc) ?_))))))
  rw [hd']
  refine wpAny_pure (a := some dx) (wpAny_bind (wpAny_pure (wpAny_bind ?_)))
  unfold nsSet
  refine wpAny_bind (wpAny_bind (wpAny_askSetting (wpAny_pure (wpAny_bind (wpAny_mkText (wpAny_bind (wpAny_loadPart hdx ?_)))))))
  dsimp only
  rw [aRefKeyMayBeTheName_at]
  have c : (!(#[] : Array DictEntry).any (·.key.isStr "_held") && (#[] : Array DictEntry).any (·.refKey)) = false := by simp
  rw [c]
  refine wpAny_updatePart hdx ?_
  have D' := Heap.get?_update_self (h := s.heap) (a := dx) (Obj.putName "_held" (PyData.keyHash W.w.params "_held") (.str "_held" (s.toks + 1)) v) hdx rfl
  refine wpAny_bind (wpAny_lookBehind D' rfl ?_)
  exact wpAny_pure (hq _ _ (Heap.SameBut.update ..) D')
end
end Mine
set_option Elab.async false
set_option maxRecDepth 100000
set_option maxHeartbeats 4000000
namespace Mine
set_option tactic.hygienic false
open PySem PyProof.Rows PySem.W
structure InitF (W : Wd) (fI : Addr) (fd : FuncData) (o : Obj) (p1 p2 p3 p4 : Pos) : Prop where
  get : W.Hb.get? fI = some o
  data : o.data = .func fd
  code : W.Hb.CodeRec fd.code fd.qualname
  bdy : fd.body = .stmts [.Assign [.Attribute (.Name "self" p1) "_held" p2] (.Dict [] [] p3) p4]
  clo : fd.closure = []
  co : fd.scope.isCoroutine = false
  gen : fd.scope.isGenerator = false
  kind : fd.scope.kind = .function
  bind : ∀ v, bindArgs fd ⟨[v], []⟩ = pure [(("self" : Str), v)]
  loc : fd.scope.names.lookup ("self" : Str) = some .local
section
variable {W : Wd} {K : Frag} {C fI fH : Addr} {k : Nat}
theorem Inv.growF {b : Bd} {O : Addr → Prop} {fp : Nat → List Addr} {ρ : Loc} {h h' : Heap} (ok : WOk W) (bo : BdOk W k b) (I : Inv W b O fp h ρ) {F : List Addr} (e : Ev (fsOf b.l) h h') (n : ∀ a ∈ F, h.get? a = none ∧ ∃ o, h'.get? a = some o) :
    Inv W b (fun c => O c ∨ c ∈ F) fp h' ρ ∧ Gr O h (fun c => O c ∨ c ∈ F) h' ∧ Kp b O fp h (fun c => O c ∨ c ∈ F) fp h' :=
  let J := I.ev ok bo e
  have kd : ∀ c o, ¬ O c → h.get? c = some o → ¬ (O c ∨ c ∈ F) ∧ h'.get? c = some o := fun c o h1 h2 => ⟨fun q => q.elim h1 (fun q => by rw [(n c q).1] at h2; cases h2), e.keep c o (fun hm => h1 (I.fsub c hm)) h2⟩
  have g : Gr O h (fun c => O c ∨ c ∈ F) h' := ⟨fun _ q => .inl q, fun c o q => e.some q, kd⟩
  ⟨{ base := J.base, funs := J.funs, fr0 := J.fr0, all := J.all, sub := fun c q => .inl (I.sub c q), fsub := fun c q => .inl (I.fsub c q)
     fresh := fun c hc => by
      rcases hc with q | q
      · exact J.fresh c q
      · exact ⟨fresh_of (I.stays bo) (n c q).1, (n c q).2⟩
     ns := J.ns, cell := fun x c q => ⟨.inl (J.cell x c q).1, (J.cell x c q).2⟩
     rel := ⟨fun x lv q => let ⟨v, r, z⟩ := I.rel.get x lv q; ⟨v, r.ev e, z.gr ok g (fun c o hc q' => e.keep c o (I.rel.off x c hc).2 q') (J.stays bo)⟩, fun x c q => ⟨.inl (I.rel.off x c q).1, (I.rel.off x c q).2⟩, I.rel.bnd⟩
     fpc := I.fpc, own := I.own, rcv := I.rcv, rid := J.rid }, g, ⟨fun c hc h1 hf _ => ⟨.inl hc, hf, fun o q => e.keep c o h1 q⟩, kd⟩⟩
theorem held_look (hash : Int) (t : Tok) (v : Value) : lookIn "_held" (Obj.putName "_held" hash (.str "_held" t) v emptyDict) = some (some v) ∧ lookIn "handle" (Obj.putName "_held" hash (.str "_held" t) v emptyDict) = some none := by
  constructor <;> rfl
theorem newRecv_ok (ok : WOk W) (R : RcvF W K C fI fH) (hkeep : keepIn K (.ref C) = true) {fd : FuncData} {oI : Obj} {p1 p2 p3 p4 : Pos} (F : InitF W fI fd oI p1 p2 p3 p4) : NewRecvOk W k := by
  intro b O fp ρ s e Q Ex bo hr I hq
  refine isRecv_of hr fun np pos hg => ?_
  have H := I.here bo
  refine Call_Name0 (glob_name ok bo.eok H.stn hg R.glob ?_)
  have X : K.In s.heap := R.inn.keeps H.stn.stays
  refine callWith_K0 (env := b.env) X hkeep (wpAny_call ?_)
  obtain ⟨hp, gg, dd, tk, os⟩ := s
  refine make_core (makes_of X R.makes) (looks_findIn X R.init) (fun self => bind_fn X self R.initT) (.inl rfl) ?_
  have st : W.Hb.StaysIn hp := H.stn.stays
  generalize hH1 : (hp.push emptyDict).push (instObj C hp.objs.size) = H1
  have k1 : ∀ c o, hp.get? c = some o → H1.get? c = some o := fun c o q => by rw [← hH1]; exact Heap.get?_push_of_some _ (Heap.get?_push_of_some _ q)
  have st1 : W.Hb.StaysIn H1 := fun c o q => k1 c o (st c o q)
  have hx1 : H1.get? (hp.objs.size + 1) = some (instObj C hp.objs.size) := by
    rw [← hH1]
    have := Heap.get?_push_size (hp.push emptyDict) (o := instObj C hp.objs.size) rfl
    rwa [Heap.size_push] at this
  have hd1 : H1.get? hp.objs.size = some emptyDict := by rw [← hH1]; exact Heap.get?_push_of_some _ (Heap.get?_push_size _ rfl)
  refine codeAny_call_cells (fd := fd) (o := oI) (binds := [("self", .ref (hp.objs.size + 1))]) ?_ (st1 _ _ F.get) F.data (ok.nolimit.keeps st1) ?_ F.bdy (F.bind _) F.clo (fun x hx => .inl (by simp at hx; subst hx; exact F.loc)) ?_ F.co F.gen F.kind
  · have := bo.room.depth
    have hw : (Code.builtin "type.__call__" ⟨.ref C :: ([] ++ []), []⟩).weight ≤ 1 := Nat.le_of_ble_eq_true rfl
    show b.A.depth + (Code.builtin "type.__call__" ⟨.ref C :: ([] ++ []), []⟩).weight < 1000
    (first | lia | omega)
  · obtain ⟨c, oc, us, t, h1, h2, h3⟩ := F.code
    exact ⟨c, oc, us, t, h1, st1 _ _ h2, h3⟩
  intro s₁ Cc
  obtain ⟨h₂, tk₂, rfl⟩ := Cc.toInCall.same
  have k2 := Cc.toInCall.keep
  have ns := Cc.toInCall.ns
  generalize henv : callEnvC fd _ fI = env at *
  have ek : env.scope = fd.scope := by rw [← henv]; rfl
  have hk : env.kindOf "self" = some .local := by show env.scope.names.lookup _ = _; rw [ek]; exact F.loc
  have hkf : env.scope.kind = .function := by rw [ek]; exact F.kind
  have ms : bindL env.kindOf [(("self" : Str), Value.ref (hp.objs.size + 1))] (fun _ => none) "self" = some (.ref (hp.objs.size + 1)) := bindL_mem _ (by simp) (by simp) hk
  refine wpAny_execs_cons (plainObj_wpAny_Assign_Attribute (wpAny_Dict_empty ?_))
  have k3 : ∀ c o, h₂.get? c = some o → (h₂.push { cls := .type "dict", data := .dict #[] }).get? c = some o := fun c o q => Heap.get?_push_of_some _ q
  refine wpAny_Name (wpAny_loadName_local hkf hk (ns.push _) ms ?_) (by decide)
  have st3 : W.Hb.StaysIn (h₂.push { cls := .type "dict", data := .dict #[] }) := fun c o q => k3 c o (k2 c o (st1 c o q))
  refine set_held R (x := hp.objs.size + 1) (dx := hp.objs.size) st3 (k3 _ _ (k2 _ _ hx1)) (k3 _ _ (k2 _ _ hd1)) fun h₄ tk₄ s₄ hd₄ => ?_
  refine wpAny_execs_nil ⟨rfl, ?_⟩
  have lt1 : hp.objs.size + 1 < h₂.objs.size := Heap.lt_size (k2 _ _ hx1)
  have lt0 : hp.objs.size < h₂.objs.size := Heap.lt_size (k2 _ _ hd1)
  have nD : hp.objs.size ≠ h₂.objs.size := Nat.ne_of_lt lt0
  have nX : hp.objs.size + 1 ≠ h₂.objs.size := Nat.ne_of_lt lt1
  have nXD : hp.objs.size + 1 ≠ hp.objs.size := Nat.ne_of_gt (Nat.lt_succ_self _)
  have hx4 : h₄.get? (hp.objs.size + 1) = some (instObj C hp.objs.size) := (s₄.2 _ nXD).trans (k3 _ _ (k2 _ _ hx1))
  have hh4 : h₄.get? h₂.objs.size = some { cls := .type "dict", data := .dict #[] } := (s₄.2 _ nD.symm).trans (Heap.get?_push_size _ rfl)
  have kall : ∀ c o, hp.get? c = some o → h₄.get? c = some o := fun c o q => (s₄.2 c (Nat.ne_of_lt (Heap.lt_size q))).trans (k3 c o (k2 c o (k1 c o q)))
  have ev : Ev (fsOf b.l) hp h₄ := Ev.of kall
  have nF : ∀ a ∈ [hp.objs.size + 1, hp.objs.size, h₂.objs.size], hp.get? a = none ∧ ∃ o, h₄.get? a = some o := fun a ha => by
    simp at ha
    rcases ha with rfl | rfl | rfl
    · exact ⟨none_from (Nat.le_succ _), _, hx4⟩
    · exact ⟨none_from (Nat.le_refl _), _, hd₄⟩
    · exact ⟨none_from (Nat.le_of_lt lt0), _, hh4⟩
  obtain ⟨I', g', kp'⟩ := I.growF ok bo ev nF
  have hrc : W.rcv h₄ [hp.objs.size + 1, hp.objs.size, h₂.objs.size] (.ref (hp.objs.size + 1)) [] := by
    rw [R.cls]
    refine ⟨_, _, _, _, rfl, rfl, nXD, nX, nD, ?_, hx4, hd₄, (held_look _ _ _).1, (held_look _ _ _).2, ?_⟩
    · obtain ⟨mc, hn, _⟩ := ok.nolimit
      have c1 : cStatics < hp.objs.size := (hn.keeps st).lt
      have : h₂.objs.size ≠ sysModules := fun q => by
        rw [q] at lt0
        exact absurd (Nat.lt_trans c1 lt0) (by decide)
      simpa using this
    · obtain ⟨o, es, ep, ho, q1, q2, q3⟩ := Heap.DictOf.new (knd := intKind W.prog W.w) h₂
      exact ⟨o, es, ep, (s₄.2 _ nD.symm).trans ho, q1, q2, q3⟩
  exact hq _ _ _ h₄ tk₄ I' ev g' kp' hrc fun a ha => ⟨.inr ha, (nF a ha).1⟩
end
end Mine
set_option Elab.async false
set_option maxRecDepth 100000
set_option maxHeartbeats 4000000
namespace Mine
open PySem PyProof.Rows PySem.W
/-- the method's call, as the evaluator says -/
noncomputable def HOk (W : Wd) (H : HSpec) (fH : Addr) (k : Nat) : Prop :=
  ∀ {A : Around} {l : List Env} {O : Addr → Prop} {s : Shared} {v vd : Value} {F : List Addr} {held : List Int} {d : D} {CC : D → List Int → Prop} {R : Result → Shared → Prop}, Stn W A l O s.heap → Room A k → W.rcv s.heap F v held → (∀ a ∈ F, O a ∧ a ∉ fsOf l) → Den W.st O s.heap vd d → H d held CC →
    (∀ ve ev held' h' tk, CC ev held' → W.rcv h' F v held' → Den W.st O h' ve ev → (∀ c o, c ∉ fsOf l → c ∉ F → s.heap.get? c = some o → h'.get? c = some o) → (∀ c o, c ∈ fsOf l → s.heap.get? c = some o → ∃ sl, h'.get? c = some { o with slots := sl }) → (∀ a ∈ F, ∃ o, h'.get? a = some o) → R (.ok (.ret ve)) { s with heap := h', toks := tk }) →
    codeAny (model W.prog W.w) A (.call (.ref fH) ⟨[v, vd], []⟩) R s
section
variable {W : Wd} {Φ : Phi} {H : HSpec} {K : Frag} {C fI fH : Addr} {k n : Nat}
theorem h0_ok : HOk W H0 fH k := fun _ _ _ _ _ h _ => h.elim
theorem handle_ok (ok : WOk W) (Rc : RcvF W K C fI fH) {fd : FuncData} {oH : Obj} {selfN pkN m N : Nat} {body : List Stmt} {ts : List S} (F : FnF W fd [selfN, pkN] body ts m) (ho : W.Hb.get? fH = some oH) (hd : oH.data = .func fd) (hcode : W.Hb.CodeRec fd.code fd.qualname)
    (hng : isGlob fd.scope ("Receiver" : Str) = false) (So : SOk W Φ0 H0 k N) : HOk W (HS W.G N selfN pkN ts) fH (k + 1) := by
  intro A l O s v vd Fa held d CC R S rm hr hF hv hx hq
  have hFH : ∀ c ∈ Fa, W.Hb.get? c = none := fun c hc => (S.fresh c (hF c hc).1).1
  have V : ArgsM W O l s.heap Fa [v, vd] [Fa, []] [.rcv held, .v d] := .cons hr hF nofun (fun _ _ a ha => ⟨ha, by simp⟩) (by simp) (.cons hv nofun nofun nofun (by simp) .nil)
  refine call_body (M := Fa) (rid := some (v, Fa)) ok F ho hd hcode So S rm hFH rfl V hx (fun v' F' q => ?_) (fun σ q => q) fun r s' hfin => ?_
  · cases q
    refine ⟨hng, fun i r hi => ?_⟩
    cases i with
    | zero => exact ⟨rfl, rfl⟩
    | succ i => cases i with
      | zero => simp at hi
      | succ i => simp at hi
  · cases r with
    | ok fl =>
      cases fl with
      | ret ve =>
        obtain ⟨ev, σ, O', fp', h', tk, rfl, hK, I, hve⟩ := hfin
        unfold hk at hK
        split at hK
        · rename_i held' hg
          obtain ⟨r1, r2⟩ := I.rid v Fa rfl selfN held' hg
          obtain ⟨v', r3, lv⟩ := I.rel.get selfN _ hg
          have := Rd.det r1 r3
          subst this
          rw [r2] at lv
          have lv' : W.rcv h' Fa v held' := lv
          refine hq ve ev held' h' tk hK lv' (hve.to fun c o h1 h2 => ⟨fun q => h1 (I.sub c q), h2⟩) (fun c o h1 h2 h3 => I.base c o (hideAll_get _ h3 (by simp [h1, h2]))) (fun c o h1 h2 => I.fr0 c h1 o h2) fun a ha => (I.fresh a (I.sub a (hF a ha).1)).2
        · cases hK
      | _ => cases hfin
    | error e => exact hfin.1.elim fun _ q => q.elim
theorem Call_meth {A : Around} {env : Env} {s : Shared} {o arg : Expr} {name : Str} {apos pos : Pos} {Q : Value → Shared → Prop} {Ex : Value → Shared → Prop} (hbase : attributeBase o name env (eval o env) = eval o env) (hs : starEach [arg] env = [(false, eval arg env)]) (hline : (apos.endLine == pos.line) = true)
    (h : wpAny (model W.prog W.w) A (eval o env) (fun ov s₁ => ∀ pl, wpAny (model W.prog W.w) A (getMethod ov name pl) (fun r s₂ => wpAny (model W.prog W.w) A (callWith pos r.1 r.2 [(false, eval arg env)] []) Q Ex s₂) Ex s₁) Ex s) :
    wpAny (model W.prog W.w) A (eval (.Call (.Attribute o name apos) [arg] [] pos) env) Q Ex s := by
  rw [arm_eval_Call, hbase]
  refine wpAny_bind (wpAny_mono h (fun ov s₁ h₁ => ?_) fun _ _ e => e)
  refine wpAny_bind (wpAny_standAt ?_)
  have hb : backTo pos (starEach [arg] env) = [(false, eval arg env)] := by rw [hs]; rfl
  rw [hb]
  have hform : methodCallForm ([arg].length + ([] : List Keyword).length) [(false, eval arg env)] (backToKw pos (keywordEach [] env)) = true := rfl
  have hpos : methodCallPos true o env apos pos = pure pos := by unfold methodCallPos; simp [hline]
  unfold methodCall
  rw [hform]
  refine wpAny_bind (wpAny_holding (wpAny_mono (h₁ _) (fun r s₂ h₂ => ?_) fun _ _ e => e))
  exact wpAny_bind (wpAny_of_eq hpos h₂)
/-- the test's left side: the method's call -/
theorem hcall_ok (ok : WOk W) (Rc : RcvF W K C fI fH) (XA : XOk W Φ k n) (hH : HOk W H fH k) {oH : Obj} {fd : FuncData} (ho : W.Hb.get? fH = some oH) (hd : oH.data = .func fd) {b : Bd} {O : Addr → Prop} {fp : Nat → List Addr} {ρ : Loc} (bo : BdOk W k b) {s : Shared} {m r : Nat} {arg' : Expr} {arg : E} {id at_ : Str} {p apos pos : Pos} {X : Prop} {held : List Int} {CC : D → List Int → Prop} {Q : Value → Shared → Prop} {Ex : Value → Shared → Prop}
    (h1 : W.nm r = id) (h2 : isLoc b.env.scope id = true) (h3 : at_ = ("handle" : Str)) (hline : (apos.endLine == pos.line) = true) (hc : chkE W.toNms m b.env.scope arg' arg = true) (I : Inv W b O fp s.heap ρ) (hg : ρ.get r = some (.rcv held)) (hx : xE Φ W.G n arg ρ (fun d => H d held CC) X) (hX : XK W b.l s X Ex)
    (hq : ∀ ve ev held' h' tk, CC ev held' → Inv W b O fp h' (ρ.set r (.rcv held')) → Kp b O fp s.heap O fp h' → Den W.st O h' ve ev → Q ve { s with heap := h', toks := tk }) :
    wpAny (model W.prog W.w) b.A (eval (.Call (.Attribute (.Name id p) at_ apos) [arg'] [] pos) b.env) Q Ex s := by
  subst h1 h3
  have d1 := loc_nd h2
  obtain ⟨v, rd, lv⟩ := I.rel.get r _ hg
  have lv' : W.rcv s.heap (fp r) v held := lv
  rw [Rc.cls] at lv'
  obtain ⟨xx, dx, hd', od, rfl, hF, n1, n2, n3, hsys, hxx, hdx, hl, hl2, hD⟩ := lv'
  refine Call_meth rfl (by rw [chk_star hc]; rfl) hline (rd_name bo.eok rd d1 fun pl => ?_)
  have Xk : K.In s.heap := Rc.inn.keeps (I.stays bo)
  refine method_fn Xk (rcv_inst hxx hdx) Rc.ga Rc.gk Rc.handle Rc.handleT (by show (lookIn _ od).map _ = _; rw [hl2]; rfl) ?_
  refine Calls.callWith_function (o := oH) (fd := fd) (Calls.evalArgs_plain (Calls.spliced_cons ((XA.e hc (I.here bo) hx).bind (fun d vd h₁ tk₁ hK he hv => Calls.spliced_nil ⟨⟨(I.ev ok bo he).stays bo _ _ ho, hd⟩, ?_⟩) hX)))
  have I₁ := I.ev ok bo he
  have r1 : W.rcv h₁ (fp r) (.ref xx) held := ok.rcvEv he (fun a ha => (I.rel.off r a ha).2) (I₁.stays bo) lv
  refine wpAny_call (hH (s := { s with heap := h₁, toks := tk₁ }) (I₁.here bo).stn bo.room r1 (fun a ha => I.rel.off r a ha) hv hK fun ve ev held' h₂ tk₂ hCC r2 hve k2 s2 e2 => ?_)
  obtain ⟨I₂, kp₂⟩ := I₁.chgX ok bo (r := held') hg (h' := h₂) (fun c o g1 g2 g => k2 c o g2 g1 g) s2 e2 (rd.ev he) r2
  exact hq ve ev held' h₂ tk₂ hCC I₂ ((Kp.ev he I.fsub).trans kp₂) hve
theorem xS_ifh {Φ : Phi} {G : Nat → D} {H : HSpec} {n r : Nat} {arg right : E} {more : Option E} {b : List S} {ρ : Loc} {K : Loc → Prop} {R : D → Loc → Prop} {X : Loc → Prop} (h : xS Φ G H (n + 1) (.ifh r arg right more b) ρ K R X) :
    ∃ held, ρ.get r = some (.rcv held) ∧ xE Φ G n arg ρ (fun d => H d held fun ev held' => (fun σ => xE Φ G n right σ (fun w => opt (D.eq ev w) fun t => br t
            (match (generalizing := false) more with | .none => K σ | some c => xE Φ G n c σ (fun d => opt d.tr fun t => br t (xSs Φ G H n b σ K R X) (K σ)) (X σ))
            (xSs Φ G H n b σ K R X)) (X σ)) (ρ.set r (.rcv held'))) (X ρ) := by
  replace h : (match ρ.get r with
      | some (.rcv held) => xE Φ G n arg ρ (fun d => H d held fun ev held' => (fun σ => xE Φ G n right σ (fun w => opt (D.eq ev w) fun t => br t
            (match (generalizing := false) more with | .none => K σ | some c => xE Φ G n c σ (fun d => opt d.tr fun t => br t (xSs Φ G H n b σ K R X) (K σ)) (X σ))
            (xSs Φ G H n b σ K R X)) (X σ)) (ρ.set r (.rcv held'))) (X ρ)
      | _ => False) := h
  cases hg : ρ.get r with
  | none => rw [hg] at h; cases h
  | some lv =>
    rw [hg] at h
    cases lv with
    | rcv held => exact ⟨held, rfl, h⟩
    | _ => cases h
theorem ifh_ok (ok : WOk W) (Rc : RcvF W K C fI fH) (XA : XOk W Φ k n) (ih : SOk W Φ H k n) (hH : HOk W H fH k) {oH : Obj} {fd : FuncData} (ho : W.Hb.get? fH = some oH) (hd : oH.data = .func fd) {b : Bd} {O : Addr → Prop} {fp : Nat → List Addr} {ρ : Loc} (bo : BdOk W k b) {s : Shared} {m r : Nat} {st : Stmt} {arg right : E} {more : Option E} {ts : List S}
    {K' : Loc → Prop} {R : D → Loc → Prop} {X : Loc → Prop} (hc : chkS W.toNms W.nn m b.env.scope st (.ifh r arg right more ts) = true) (I : Inv W b O fp s.heap ρ) (hx : xS Φ W.G H (n + 1) (.ifh r arg right more ts) ρ K' R X) :
    Does W b O fp (exec st b.env) K' R X s := by
  intro Q Ex hN hR hE hP
  refine cs_ifh hc fun m t b' p h9 hm => ?_
  obtain ⟨held, hg, hx⟩ := xS_ifh hx
  have hu := bo.room.units
  -- the test: the method's answer beside the right side
  have test : ∀ {arg' right' : Expr} {id at_ : Str} {p apos pos cp : Pos} {QT : Bool → Shared → Prop} {w : Sem Value}, W.nm r = id → isLoc b.env.scope id = true → at_ = ("handle" : Str) → (apos.endLine == pos.line) = true → chkE W.toNms m b.env.scope arg' arg = true → chkE W.toNms m b.env.scope right' right = true →
      (∀ t σ h' tk, br t (match (generalizing := false) more with | .none => K' σ | some c => xE Φ W.G n c σ (fun d => opt d.tr fun t => br t (xSs Φ W.G H n ts σ K' R X) (K' σ)) (X σ)) (xSs Φ W.G H n ts σ K' R X) → Inv W b O fp h' σ → Kp b O fp s.heap O fp h' → QT (!t) { s with heap := h', toks := tk }) →
      wpAny (model W.prog W.w) b.A (isTrue (.Compare (.Call (.Attribute (.Name id p) at_ apos) [arg'] [] pos) [.NotEq] [right'] cp) b.env w) QT Ex s := by
    intro arg' right' id at_ p apos pos cp QT w h1 h2 h3 h4 h5 h6 hq
    refine wpAny_isTrue_Compare1 (hcall_ok ok Rc XA hH ho hd bo h1 h2 h3 h4 h5 I hg hx (hE.xk bo I) fun ve ev held' h₁ tk₁ hCC I₁ kp₁ hve => ?_) (chk_marks h6 _)
    have hE₁ : EK b { s with heap := h₁, toks := tk₁ } X Ex := hE
    refine (XA.e (s := { s with heap := h₁, toks := tk₁ }) h6 (I₁.here bo) hCC).bind (fun d2 v2 h₂ tk₂ hK2 he2 hv2 => ?_) (hE₁.xk bo I₁)
    refine of_optC hK2 fun t e1 ht => ?_
    refine cmp_ok ok (s := { s with heap := h₂, toks := tk₂ }) (hve.ev he2 I₁.fsub) hv2 (by show b.A.units + 64 < 9900; (first | lia | omega)) (by show (D.eq ev d2).map (!·) = _; rw [e1]; rfl) (wpAny_truthy_bool ?_)
    exact hq t _ h₂ tk₂ ht (I₁.ev ok bo he2) (kp₁.trans (Kp.ev he2 I₁.fsub))
  have body : ∀ {sts : List Stmt} {σ : Loc} {h' : Heap} {tk : Nat}, chkSs W.toNms W.nn m b.env.scope sts ts = true → xSs Φ W.G H n ts σ K' R X → Inv W b O fp h' σ → Kp b O fp s.heap O fp h' → wpAny (model W.prog W.w) b.A (execs sts b.env) Q Ex { s with heap := h', toks := tk } :=
    fun {sts σ h' tk} h1 h2 h3 h4 => ih.ss (s := { s with heap := h', toks := tk }) bo h1 h3 h2 Q Ex (NK.go hN h4) hR hE hP
  rcases hm with ⟨rfl, hh⟩ | ⟨c, t1, t2, bp, rfl, rfl, hh, h8⟩
  · refine hcE_of hh fun _ _ _ _ _ _ h2 h5 h6 h7 => ?_
    refine wpAny_If (test rfl h2 rfl (by simpa using h5) h6 h7 fun t σ h' tk ht I' kp' => ?_)
    cases t with
    | true => exact wpAny_execs_nil (hN σ O fp h' tk ht I' kp')
    | false => exact body h9 ht I' kp'
  · refine hcE_of hh fun _ _ _ _ _ _ h2 h5 h6 h7 => ?_
    refine wpAny_If (isTrue_or (test rfl h2 rfl (by simpa using h5) h6 h7 fun t σ h' tk ht I' kp' => ?_))
    cases t with
    | false => exact body h9 ht I' kp'
    | true =>
      have hE' : EK b { s with heap := h', toks := tk } X Ex := hE
      refine isTrue_or (XA.t (s := { s with heap := h', toks := tk }) h8 (I'.here bo) ht (fun t2 h₂ tk₂ ht2 he2 => ?_) (hE'.xk bo I'))
      have I₂ := I'.ev ok bo he2
      have kp₂ := kp'.trans (Kp.ev he2 I'.fsub)
      cases t2 with
      | true => exact body h9 ht2 I₂ kp₂
      | false => exact isTrue_or_nil (wpAny_execs_nil (hN σ O fp h₂ tk₂ ht2 I₂ kp₂))
end
end Mine
set_option Elab.async false
set_option maxRecDepth 100000
set_option maxHeartbeats 4000000
namespace Mine
set_option tactic.hygienic false
open PySem PyProof.Rows PySem.W
section
variable {W : Wd} {Φ : Phi} {H : HSpec} {K : Frag} {C fI fH : Addr} {k n : Nat}
theorem rcv_int {ρ : Loc} {r x : Nat} {P : List Int → Int → Prop} (h : match ρ.get r, ρ.get x with | some (.rcv held), some (.v (.int i)) => P held i | _, _ => False) : ∃ held i, ρ.get r = some (.rcv held) ∧ ρ.get x = some (.v (.int i)) ∧ P held i := by
  cases h1 : ρ.get r with
  | none => rw [h1] at h; cases h
  | some a =>
    cases h2 : ρ.get x with
    | none => rw [h1, h2] at h; cases a <;> cases h
    | some c =>
      rw [h1, h2] at h
      cases a with
      | rcv held =>
        cases c with
        | v d =>
          cases d with
          | int i => exact ⟨held, i, rfl, rfl, h⟩
          | _ => cases h
        | _ => cases h
      | _ => cases h
theorem spec_ok (ok : WOk W) (Rc : RcvF W K C fI fH) (XA : ∀ n, XOk W Φ k n) (hH : HOk W H fH k) {oH : Obj} {fd : FuncData} (ho : W.Hb.get? fH = some oH) (hd : oH.data = .func fd) : SpecOk W Φ H k n := by
  intro b m st t ρ K' R X O fp s hs bo hc I ih hx
  cases t with
  | asg x e => exact comp_asg ok XA hs bo hc I hx
  | ifh r arg right more ts => exact ifh_ok ok Rc (XA n) ih hH ho hd bo hc I hx
  | hset self x =>
    refine cs_hset hc fun _ _ _ _ _ _ _ h2 h6 => ?_
    obtain ⟨held, i, g1, g2, hx⟩ := rcv_int hx
    exact hset_ok ok Rc bo rfl h2 rfl rfl h6 I g1 g2 hx.1 hx.2
  | hdel self x =>
    refine cs_hdel hc fun _ _ _ _ _ h2 h6 => ?_
    obtain ⟨held, i, g1, g2, hx⟩ := rcv_int hx
    exact hdel_ok ok Rc bo rfl h2 rfl rfl h6 I g1 g2 hx.1 hx.2.1 hx.2.2
  | _ => cases hs
/-- all that the text's class must be -/
structure ClsF (W : Wd) (K : Frag) (C fI fH : Addr) (selfN pkN m : Nat) (ts : List S) : Prop where
  rc : RcvF W K C fI fH
  keep : keepIn K (.ref C) = true
  init : ∃ fd o p1 p2 p3 p4, InitF W fI fd o p1 p2 p3 p4
  hand : ∃ fd o body, FnF W fd [selfN, pkN] body ts m ∧ W.Hb.get? fH = some o ∧ o.data = .func fd ∧ W.Hb.CodeRec fd.code fd.qualname ∧ isGlob fd.scope ("Receiver" : Str) = false
theorem full_ok {selfN pkN m : Nat} {ts : List S} (ok : WOk W) (Cf : ClsF W K C fI fH selfN pkN m ts) (hH : HOk W H fH k) (P : PhiOk W Φ k) : ∀ n, SOk W Φ H k n := by
  obtain ⟨fd, o, p1, p2, p3, p4, F⟩ := Cf.init
  obtain ⟨fd2, o2, body2, _, g2, g3, _⟩ := Cf.hand
  have XA : ∀ n, XOk W Φ k n := xAll ok P (fun _ => comp_ok ok) (fun _ => dget_ok ok)
  exact sAll ok XA (newRecv_ok ok Cf.rc Cf.keep F) fun _ => spec_ok ok Cf.rc XA hH g2 g3
theorem hs_ok {selfN pkN m : Nat} {ts : List S} (ok : WOk W) (Cf : ClsF W K C fI fH selfN pkN m ts) (N k : Nat) : HOk W (HS W.G N selfN pkN ts) fH (k + 1) := by
  obtain ⟨fd2, o2, body2, g1, g2, g3, g4, g5⟩ := Cf.hand
  exact handle_ok ok Cf.rc g1 g2 g3 g4 g5 (full_ok ok Cf h0_ok (fun f a _ A l O s args vs K X _ _ _ h => h.elim) N)
theorem phi_ok1 {N m m' selfN pkN : Nat} {ts : List S} {par : Nat → List Nat} {bod : Nat → List S} (ok : WOk W) (Cf : ClsF W K C fI fH selfN pkN m' ts) {top : Nat} (fns : ∀ f, f < top → FnAt W f (par f) (bod f) m) :
    ∀ i k, i + 1 ≤ k → i ≤ top → PhiOk W (PhiUp W.G (HS W.G N selfN pkN ts) N par bod i) k := by
  intro i
  induction i with
  | zero => intro k _ _ f a _ A l O s args vs K X _ _ _ h; cases h
  | succ i ih =>
    intro k hk ht f a ha A l O s args vs K X S rm V hx
    simp only [PhiUp] at hx
    split at hx
    · rename_i e; cases Nat.eq_of_beq_eq_true e
      obtain ⟨k', rfl⟩ : ∃ k', k = k' + 1 + 1 := ⟨k - 2, by (first | lia | omega)⟩
      exact fn_ok ok (fns _ (by (first | lia | omega))) (full_ok ok Cf (hs_ok ok Cf N k') (ih (k' + 1) (by (first | lia | omega)) (by (first | lia | omega))) N) ha S rm V hx
    · exact ih k (by (first | lia | omega)) (by (first | lia | omega)) f a ha A l O s args vs K X S rm V hx
/-- a def of the text does what the evaluator says of it -/
theorem run_ok {N m m' selfN pkN : Nat} {ts : List S} {par : Nat → List Nat} {bod : Nat → List S} (ok : WOk W) (Cf : ClsF W K C fI fH selfN pkN m' ts) {top f : Nat} (fns : ∀ f, f < top → FnAt W f (par f) (bod f) m) (hf : f < top)
    {A : Around} {l : List Env} {O : Addr → Prop} {s : Shared} {args : List LV} {vs : List Value} {K' : D → Prop} {X : Prop} {a : Addr} (ha : W.mg (W.fnm f) = some (.ref a)) (S : Stn W A l O s.heap) (rm : Room A (top + 1)) (V : ArgsOk W O l s.heap vs args)
    (hx : PhiUp W.G (HS W.G N selfN pkN ts) N par bod top f args K' X) : codeAny (model W.prog W.w) A (.call (.ref a) ⟨vs, []⟩) (CallOk W l O s K' X) s :=
  phi_ok1 ok Cf fns top (top + 1) (Nat.le_refl _) (Nat.le_refl _) f a ha A l O s args vs K' X S rm V hx
end
end Mine
set_option Elab.async false
namespace Mine
open PySem
noncomputable def nth {α : Type} (d : α) : Nat → List α → α
  | _, [] => d
  | n, x :: r => match n with
    | 0 => x
    | n + 1 => nth d n r
noncomputable def nmF (n : Nat) : Str := nth (Str.ofString "?") n [Str.ofString "n", Str.ofString "out", Str.ofString "rest", Str.ofString "group", Str.ofString "value", Str.ofString "shift", Str.ofString "k", Str.ofString "at", Str.ofString "data", Str.ofString "b", Str.ofString "text", Str.ofString "i", Str.ofString "levels", Str.ofString "start", Str.ofString "last", Str.ofString "level", Str.ofString "x", Str.ofString "y", Str.ofString "first", Str.ofString "filter_", Str.ofString "topic", Str.ofString "a", Str.ofString "count", Str.ofString "j", Str.ofString "condition", Str.ofString "pair", Str.ofString "kind", Str.ofString "ident", Str.ofString "q", Str.ofString "c", Str.ofString "packet", Str.ofString "dup", Str.ofString "retain", Str.ofString "body", Str.ofString "parts", Str.ofString "items", Str.ofString "item", Str.ofString "codes", Str.ofString "end", Str.ofString "found", Str.ofString "size", Str.ofString "got", Str.ofString "steps", Str.ofString "p", Str.ofString "table", Str.ofString "f", Str.ofString "t", Str.ofString "fine", Str.ofString "good", Str.ofString "string", Str.ofString "sieve", Str.ofString "sound", Str.ofString "said", Str.ofString "past", Str.ofString "old", Str.ofString "due", Str.ofString "wire", Str.ofString "answer", Str.ofString "misfit", Str.ofString "script", Str.ofString "fit", Str.ofString "frames", Str.ofString "ok", Str.ofString "twin", Str.ofString "frame", Str.ofString "receiver", Str.ofString "wrote", Str.ofString "cut", Str.ofString "early", Str.ofString "want", Str.ofString "event", Str.ofString "fresh", Str.ofString "self"]
noncomputable def stF (n : Nat) : Str := nth (Str.ofString "?") n [Str.ofString "pingreq", Str.ofString "pingresp", Str.ofString "disconnect", Str.ofString "subscribe", Str.ofString "suback", Str.ofString "unsubscribe", Str.ofString "publish", Str.ofString "refused", Str.ofString "pubrel", Str.ofString "puback", Str.ofString "pubrec", Str.ofString "pubcomp", Str.ofString "unsuback", Str.ofString "send", Str.ofString "deliver", Str.ofString "connect", Str.ofString "?16", Str.ofString "?17", Str.ofString "?18", Str.ofString "?19", Str.ofString "?20", Str.ofString "?21", Str.ofString "?22", Str.ofString "?23", Str.ofString "?24", Str.ofString "?25", Str.ofString "?26", Str.ofString "?27", Str.ofString "?28", Str.ofString "?29", Str.ofString "?30", Str.ofString "?31"]
noncomputable def fnF (n : Nat) : Str := nth (Str.ofString "law") n [Str.ofString "write_length", Str.ofString "read_length", Str.ofString "_is_string", Str.ofString "_has_wild", Str.ofString "_split_levels", Str.ofString "is_topic", Str.ofString "is_filter", Str.ofString "_level_fits", Str.ofString "matches", Str.ofString "_need", Str.ofString "_first_of", Str.ofString "_kind_of", Str.ofString "_is_bare", Str.ofString "_has_list", Str.ofString "_two", Str.ofString "_string", Str.ofString "_id", Str.ofString "_is_qos", Str.ofString "_is_code", Str.ofString "_write_publish", Str.ofString "write_packet", Str.ofString "_read_two", Str.ofString "_read_string", Str.ofString "read_packet", Str.ofString "_law_two", Str.ofString "_law_size", Str.ofString "_law_text", Str.ofString "_law_fits", Str.ofString "_law_read", Str.ofString "_law_write", Str.ofString "_law_publish", Str.ofString "_law_frame", Str.ofString "_law_due", Str.ofString "_law_answer", Str.ofString "_law_probe", Str.ofString "law"]
noncomputable def gnF : Nat → Str
  | 0 => Str.ofString "_FIRSTS"
  | 1 => Str.ofString "_law_topics"
  | 2 => Str.ofString "_law_filters"
  | 3 => Str.ofString "_law_ids"
  | 4 => Str.ofString "_law_lengths"
  | _ => Str.ofString "_law_lengths"
noncomputable def nnF : Nat := 73
noncomputable def nms : Nms := ⟨stF, nmF, fnF, gnF, nnF⟩
noncomputable def globD : Nat → D
  | 0 => (.list [(.tuple [(.str 9), (.int 64)]), (.tuple [(.str 10), (.int 80)]), (.tuple [(.str 8), (.int 98)]), (.tuple [(.str 11), (.int 112)]), (.tuple [(.str 3), (.int 130)]), (.tuple [(.str 4), (.int 144)]), (.tuple [(.str 5), (.int 162)]), (.tuple [(.str 12), (.int 176)]), (.tuple [(.str 0), (.int 192)]), (.tuple [(.str 1), (.int 208)]), (.tuple [(.str 2), (.int 224)])])
  | 1 => (.tuple [(.int 0), (.int 0), (.int 0), (.int 1), (.int 1), (.int 2), (.int 2), (.int 3), (.int 3), (.int 3), (.int 5), (.int 6)])
  | 2 => (.tuple [(.int 0), (.int 0), (.int 1), (.int 2), (.int 3), (.int 4), (.int 4), (.int 5), (.int 5), (.int 6), (.int 7), (.int 8)])
  | 3 => (.tuple [(.int 1), (.int 1), (.int 1), (.int 1), (.int 1), (.int 65535), (.int 65535), (.int 65535), (.int 256), (.int 258), (.int 0), (.int 65536)])
  | 4 => (.tuple [(.int (-1)), (.int 0), (.int 1), (.int 127), (.int 128), (.int 300), (.int 16383), (.int 16384), (.int 2097151), (.int 2097152), (.int 268435455), (.int 268435456)])
  | _ => (.tuple [(.int (-1)), (.int 0), (.int 1), (.int 127), (.int 128), (.int 300), (.int 16383), (.int 16384), (.int 2097151), (.int 2097152), (.int 268435455), (.int 268435456)])
noncomputable def b_write_length : List S := [(.ifs (.or [(.cmp .Lt (.var 0) (.int 0)), (.cmp .Gt (.var 0) (.int 268435455))]) [.raise] []), (.own 1 (.lst [])), (.whl (.tt true) [(.asg 2 (.bin .FloorDiv (.var 0) (.int 128))), (.asg 3 (.bin .Mod (.var 0) (.int 128))), (.ifs (.cmp .NotEq (.var 2) (.int 0)) [(.app 1 (.bin .Add (.var 3) (.int 128)))] [(.app 1 (.var 3))]), (.asg 0 (.var 2)), (.ifs (.cmp .Eq (.var 0) (.int 0)) [(.frz 1), (.ret (.bytesOf (.var 1)))] [])])]
noncomputable def b_read_length : List S := [(.asg 4 (.int 0)), (.asg 5 (.int 0)), (.asg 6 (.int 0)), (.whl (.cmp .Lt (.var 6) (.int 4)) [(.ifs (.cmp .GtE (.bin .Add (.var 7) (.var 6)) (.len (.var 8))) [(.ret .none)] []), (.asg 9 (.idx (.var 8) (.bin .Add (.var 7) (.var 6)))), (.asg 4 (.bin .Add (.var 4) (.bin .Mult (.bin .BitAnd (.var 9) (.int 127)) (.bin .LShift (.int 1) (.var 5))))), (.ifs (.cmp .Eq (.bin .BitAnd (.var 9) (.int 128)) (.int 0)) [(.ifs (.cmp .NotEq (.len (.call 0 [(.var 4)])) (.bin .Add (.var 6) (.int 1))) [.raise] []), (.ret (.tup [(.var 4), (.bin .Add (.bin .Add (.var 7) (.var 6)) (.int 1))]))] []), (.asg 5 (.bin .Add (.var 5) (.int 7))), (.asg 6 (.bin .Add (.var 6) (.int 1)))]), .raise]
noncomputable def b_is_string : List S := [(.ifs (.cmp .Gt (.len (.var 10)) (.int 65535)) [(.ret (.tt false))] []), (.asg 11 (.int 0)), (.asg 0 (.len (.var 10))), (.whl (.cmp .Lt (.var 11) (.var 0)) [(.ifs (.cmp .Eq (.idx (.var 10) (.var 11)) (.int 0)) [(.ret (.tt false))] []), (.asg 11 (.bin .Add (.var 11) (.int 1)))]), (.ret (.tt true))]
noncomputable def b_has_wild : List S := [(.asg 11 (.int 0)), (.asg 0 (.len (.var 10))), (.whl (.cmp .Lt (.var 11) (.var 0)) [(.asg 9 (.idx (.var 10) (.var 11))), (.ifs (.or [(.cmp .Eq (.var 9) (.int 43)), (.cmp .Eq (.var 9) (.int 35))]) [(.ret (.tt true))] []), (.asg 11 (.bin .Add (.var 11) (.int 1)))]), (.ret (.tt false))]
noncomputable def b_split_levels : List S := [(.own 12 (.lst [])), (.asg 13 (.int 0)), (.asg 11 (.int 0)), (.asg 0 (.len (.var 10))), (.whl (.cmp .Lt (.var 11) (.var 0)) [(.ifs (.cmp .Eq (.idx (.var 10) (.var 11)) (.int 47)) [(.app 12 (.slc (.var 10) (.var 13) (.var 11))), (.asg 13 (.bin .Add (.var 11) (.int 1)))] []), (.asg 11 (.bin .Add (.var 11) (.int 1)))]), (.app 12 (.slc (.var 10) (.var 13) (.var 0))), (.frz 12), (.ret (.var 12))]
noncomputable def b_is_topic : List S := [(.ifs (.cmp .Eq (.len (.var 10)) (.int 0)) [(.ret (.tt false))] []), (.ifs (.not (.call 2 [(.var 10)])) [(.ret (.tt false))] []), (.ret (.not (.call 3 [(.var 10)])))]
noncomputable def b_is_filter : List S := [(.ifs (.cmp .Eq (.len (.var 10)) (.int 0)) [(.ret (.tt false))] []), (.ifs (.not (.call 2 [(.var 10)])) [(.ret (.tt false))] []), (.asg 12 (.call 4 [(.var 10)])), (.asg 14 (.bin .Sub (.len (.var 12)) (.int 1))), (.asg 11 (.int 0)), (.whl (.cmp .Lt (.var 11) (.var 14)) [(.asg 15 (.idx (.var 12) (.var 11))), (.ifs (.and [(.cmp .NotEq (.var 15) (.byt [43])), (.call 3 [(.var 15)])]) [(.ret (.tt false))] []), (.asg 11 (.bin .Add (.var 11) (.int 1)))]), (.asg 15 (.idx (.var 12) (.var 14))), (.ifs (.or [(.cmp .Eq (.var 15) (.byt [43])), (.cmp .Eq (.var 15) (.byt [35]))]) [(.ret (.tt true))] []), (.ret (.not (.call 3 [(.var 15)])))]
noncomputable def b_level_fits : List S := [(.ret (.or [(.cmp .Eq (.var 16) (.byt [43])), (.cmp .Eq (.var 16) (.var 17))]))]
noncomputable def b_matches : List S := [(.asg 18 (.slc (.var 19) .none (.int 1))), (.ifs (.and [(.or [(.cmp .Eq (.var 18) (.byt [43])), (.cmp .Eq (.var 18) (.byt [35]))]), (.cmp .Eq (.slc (.var 20) .none (.int 1)) (.byt [36]))]) [(.ret (.tt false))] []), (.asg 21 (.call 4 [(.var 19)])), (.asg 9 (.call 4 [(.var 20)])), (.asg 22 (.len (.var 21))), (.ifs (.cmp .Eq (.idx (.var 21) (.bin .Sub (.var 22) (.int 1))) (.byt [35])) [(.asg 22 (.bin .Sub (.var 22) (.int 1))), (.ifs (.cmp .Lt (.len (.var 9)) (.var 22)) [(.ret (.tt false))] [])] [(.ifs (.cmp .NotEq (.len (.var 9)) (.var 22)) [(.ret (.tt false))] [])]), (.asg 23 (.int 0)), (.whl (.cmp .Lt (.var 23) (.var 22)) [(.ifs (.not (.call 7 [(.idx (.var 21) (.var 23)), (.idx (.var 9) (.var 23))])) [(.ret (.tt false))] []), (.asg 23 (.bin .Add (.var 23) (.int 1)))]), (.ret (.tt true))]
noncomputable def b_need : List S := [(.ifs (.not (.var 24)) [.raise] [])]
noncomputable def b_first_of : List S := [(.for [25] true (.glob 0) [(.ifs (.cmp .Eq (.idx (.var 25) (.int 0)) (.var 26)) [(.ret (.idx (.var 25) (.int 1)))] [])]), (.ret .none)]
noncomputable def b_kind_of : List S := [(.for [25] true (.glob 0) [(.ifs (.cmp .Eq (.idx (.var 25) (.int 1)) (.var 18)) [(.ret (.idx (.var 25) (.int 0)))] [])]), (.ret .none)]
noncomputable def b_is_bare : List S := [(.ret (.or [(.cmp .Eq (.var 26) (.str 0)), (.cmp .Eq (.var 26) (.str 1)), (.cmp .Eq (.var 26) (.str 2))]))]
noncomputable def b_has_list : List S := [(.ret (.or [(.cmp .Eq (.var 26) (.str 3)), (.cmp .Eq (.var 26) (.str 4)), (.cmp .Eq (.var 26) (.str 5))]))]
noncomputable def b_two : List S := [(.ret (.bytesOf (.lst [(.bin .RShift (.var 0) (.int 8)), (.bin .BitAnd (.var 0) (.int 255))])))]
noncomputable def b_string : List S := [(.ret (.bin .Add (.call 14 [(.len (.var 10))]) (.var 10)))]
noncomputable def b_id : List S := [(.ifs (.or [(.cmp .Lt (.var 27) (.int 1)), (.cmp .Gt (.var 27) (.int 65535))]) [.raise] []), (.ret (.call 14 [(.var 27)]))]
noncomputable def b_is_qos : List S := [(.ret (.or [(.cmp .Eq (.var 28) (.int 0)), (.cmp .Eq (.var 28) (.int 1)), (.cmp .Eq (.var 28) (.int 2))]))]
noncomputable def b_is_code : List S := [(.ret (.or [(.cmp .Eq (.var 29) (.int 0)), (.cmp .Eq (.var 29) (.int 1)), (.cmp .Eq (.var 29) (.int 2)), (.cmp .Eq (.var 29) (.int 128))]))]
noncomputable def b_write_publish : List S := [(.expr (.call 9 [(.cmp .Eq (.len (.var 30)) (.int 7))])), (.asg 31 (.idx (.var 30) (.int 1))), (.asg 28 (.idx (.var 30) (.int 2))), (.asg 32 (.idx (.var 30) (.int 3))), (.asg 20 (.idx (.var 30) (.int 4))), (.asg 27 (.idx (.var 30) (.int 5))), (.asg 33 (.idx (.var 30) (.int 6))), (.expr (.call 9 [(.and [(.call 5 [(.var 20)]), (.call 17 [(.var 28)]), (.not (.and [(.cmp .Eq (.var 28) (.int 0)), (.or [(.var 31), (.var 27)])]))])])), (.asg 18 (.bin .Add (.int 48) (.bin .Mult (.var 28) (.int 2)))), (.ifs (.var 31) [(.asg 18 (.bin .Add (.var 18) (.int 8)))] []), (.ifs (.var 32) [(.asg 18 (.bin .Add (.var 18) (.int 1)))] []), (.own 34 (.lst [(.call 15 [(.var 20)])])), (.ifs (.var 28) [(.app 34 (.call 16 [(.var 27)]))] []), (.app 34 (.var 33)), (.frz 34), (.asg 2 (.join [] (.var 34))), (.ret (.bin .Add (.bin .Add (.bytesOf (.lst [(.var 18)])) (.call 0 [(.len (.var 2))])) (.var 2)))]
noncomputable def b_write_packet : List S := [(.expr (.call 9 [(.cmp .Gt (.len (.var 30)) (.int 0))])), (.asg 26 (.idx (.var 30) (.int 0))), (.ifs (.cmp .Eq (.var 26) (.str 6)) [(.ret (.call 19 [(.var 30)]))] []), (.asg 18 (.call 10 [(.var 26)])), (.expr (.call 9 [(.cmp .IsNot (.var 18) .none)])), (.ifs (.call 12 [(.var 26)]) [(.expr (.call 9 [(.cmp .Eq (.len (.var 30)) (.int 1))]))] [(.ifs (.call 13 [(.var 26)]) [(.expr (.call 9 [(.cmp .Eq (.len (.var 30)) (.int 3))]))] [(.expr (.call 9 [(.cmp .Eq (.len (.var 30)) (.int 2))]))])]), (.own 34 (.lst [])), (.ifs (.cmp .NotEq (.len (.var 30)) (.int 1)) [(.app 34 (.call 16 [(.idx (.var 30) (.int 1))]))] []), (.ifs (.cmp .Eq (.var 26) (.str 3)) [(.asg 35 (.idx (.var 30) (.int 2))), (.expr (.call 9 [(.var 35)])), (.for [36] true (.var 35) [(.asgT [19, 28] (.var 36)), (.expr (.call 9 [(.and [(.call 6 [(.var 19)]), (.call 17 [(.var 28)])])])), (.app 34 (.call 15 [(.var 19)])), (.app 34 (.bytesOf (.lst [(.var 28)])))])] [(.ifs (.cmp .Eq (.var 26) (.str 5)) [(.asg 35 (.idx (.var 30) (.int 2))), (.expr (.call 9 [(.var 35)])), (.for [19] true (.var 35) [(.expr (.call 9 [(.call 6 [(.var 19)])])), (.app 34 (.call 15 [(.var 19)]))])] [(.ifs (.cmp .Eq (.var 26) (.str 4)) [(.asg 37 (.idx (.var 30) (.int 2))), (.expr (.call 9 [(.var 37)])), (.for [29] true (.var 37) [(.expr (.call 9 [(.call 18 [(.var 29)])]))]), (.app 34 (.bytesOf (.var 37)))] [])])]), (.frz 34), (.asg 2 (.join [] (.var 34))), (.ret (.bin .Add (.bin .Add (.bytesOf (.lst [(.var 18)])) (.call 0 [(.len (.var 2))])) (.var 2)))]
noncomputable def b_read_two : List S := [(.expr (.call 9 [(.cmp .LtE (.bin .Add (.var 7) (.int 2)) (.var 38))])), (.ret (.tup [(.bin .Add (.bin .Mult (.idx (.var 8) (.var 7)) (.int 256)) (.idx (.var 8) (.bin .Add (.var 7) (.int 1)))), (.bin .Add (.var 7) (.int 2))]))]
noncomputable def b_read_string : List S := [(.asg 39 (.call 21 [(.var 8), (.var 7), (.var 38)])), (.asg 40 (.idx (.var 39) (.int 0))), (.asg 7 (.idx (.var 39) (.int 1))), (.expr (.call 9 [(.cmp .LtE (.bin .Add (.var 7) (.var 40)) (.var 38))])), (.ret (.tup [(.slc (.var 8) (.var 7) (.bin .Add (.var 7) (.var 40))), (.bin .Add (.var 7) (.var 40))]))]
noncomputable def b_read_packet : List S := [(.ifs (.cmp .Eq (.len (.var 8)) (.int 0)) [(.ret .none)] []), (.asg 18 (.idx (.var 8) (.int 0))), (.asg 26 .none), (.ifs (.cmp .Eq (.bin .RShift (.var 18) (.int 4)) (.int 3)) [(.asg 28 (.bin .BitAnd (.bin .RShift (.var 18) (.int 1)) (.int 3))), (.expr (.call 9 [(.cmp .NotEq (.var 28) (.int 3))])), (.expr (.call 9 [(.not (.and [(.cmp .NotEq (.bin .BitAnd (.var 18) (.int 8)) (.int 0)), (.cmp .Eq (.var 28) (.int 0))]))]))] [(.asg 26 (.call 11 [(.var 18)])), (.expr (.call 9 [(.cmp .IsNot (.var 26) .none)]))]), (.asg 39 (.call 1 [(.var 8), (.int 1)])), (.ifs (.cmp .Is (.var 39) .none) [(.ret .none)] []), (.asg 0 (.idx (.var 39) (.int 0))), (.asg 7 (.idx (.var 39) (.int 1))), (.asg 38 (.bin .Add (.var 7) (.var 0))), (.ifs (.cmp .Lt (.len (.var 8)) (.var 38)) [(.ret .none)] []), (.ifs (.cmp .Eq (.bin .RShift (.var 18) (.int 4)) (.int 3)) [(.asg 28 (.bin .BitAnd (.bin .RShift (.var 18) (.int 1)) (.int 3))), (.asg 41 (.call 22 [(.var 8), (.var 7), (.var 38)])), (.asg 20 (.idx (.var 41) (.int 0))), (.asg 7 (.idx (.var 41) (.int 1))), (.asg 27 (.int 0)), (.ifs (.var 28) [(.asg 41 (.call 21 [(.var 8), (.var 7), (.var 38)])), (.asg 27 (.idx (.var 41) (.int 0))), (.asg 7 (.idx (.var 41) (.int 1)))] []), (.asg 33 (.slc (.var 8) (.var 7) (.var 38))), (.asg 30 (.tup [(.str 6), (.cmp .NotEq (.bin .BitAnd (.var 18) (.int 8)) (.int 0)), (.var 28), (.cmp .NotEq (.bin .BitAnd (.var 18) (.int 1)) (.int 0)), (.var 20), (.var 27), (.var 33)]))] [(.ifs (.call 12 [(.var 26)]) [(.expr (.call 9 [(.cmp .Eq (.var 7) (.var 38))])), (.asg 30 (.tup [(.var 26)]))] [(.asg 41 (.call 21 [(.var 8), (.var 7), (.var 38)])), (.asg 27 (.idx (.var 41) (.int 0))), (.asg 7 (.idx (.var 41) (.int 1))), (.ifs (.cmp .Eq (.var 26) (.str 4)) [(.asg 37 (.comp (.idx (.var 8) (.var 23)) [23] true (.range (.var 7) (.var 38)) [] [8])), (.asg 30 (.tup [(.var 26), (.var 27), (.var 37)]))] [(.ifs (.cmp .Eq (.var 26) (.str 3)) [(.own 35 (.lst [])), (.whl (.cmp .Lt (.var 7) (.var 38)) [(.asg 41 (.call 22 [(.var 8), (.var 7), (.var 38)])), (.asg 7 (.idx (.var 41) (.int 1))), (.expr (.call 9 [(.cmp .Lt (.var 7) (.var 38))])), (.app 35 (.tup [(.idx (.var 41) (.int 0)), (.idx (.var 8) (.var 7))])), (.asg 7 (.bin .Add (.var 7) (.int 1)))]), (.frz 35), (.asg 30 (.tup [(.var 26), (.var 27), (.var 35)]))] [(.ifs (.cmp .Eq (.var 26) (.str 5)) [(.own 35 (.lst [])), (.whl (.cmp .Lt (.var 7) (.var 38)) [(.asg 41 (.call 22 [(.var 8), (.var 7), (.var 38)])), (.asg 7 (.idx (.var 41) (.int 1))), (.app 35 (.idx (.var 41) (.int 0)))]), (.frz 35), (.asg 30 (.tup [(.var 26), (.var 27), (.var 35)]))] [(.expr (.call 9 [(.cmp .Eq (.var 7) (.var 38))])), (.asg 30 (.tup [(.var 26), (.var 27)]))])])])])]), (.expr (.call 20 [(.var 30)])), (.ret (.tup [(.var 30), (.var 38)]))]
noncomputable def b_law_two : List S := [(.ret (.bytesOf (.lst [(.bin .Mod (.bin .FloorDiv (.var 0) (.int 256)) (.int 256)), (.bin .Mod (.var 0) (.int 256))])))]
noncomputable def b_law_size : List S := [(.asg 42 (.bin .Add (.lst [(.int 1)]) (.comp (.var 43) [43] true (.tup [(.int 128), (.int 16384), (.int 2097152)]) [(.cmp .GtE (.var 0) (.var 43))] [0]))), (.ret (.bytesOf (.bin .Add (.comp (.bin .Add (.bin .Mod (.bin .FloorDiv (.var 0) (.var 43)) (.int 128)) (.int 128)) [43] true (.slc (.var 42) .none (.neg (.int 1))) [] [0]) (.lst [(.bin .Mod (.bin .FloorDiv (.var 0) (.idx (.var 42) (.neg (.int 1)))) (.int 256))]))))]
noncomputable def b_law_text : List S := [(.asg 44 (.tup [(.byt [97]), (.byt [98]), (.byt []), (.byt [36, 115]), (.byt [43]), (.byt [35]), (.byt [0]), (.byt [97, 43]), (.byt [35, 98])])), (.ret (.join [47] (.comp (.idx (.var 44) (.var 16)) [16] true (.var 12) [] [44])))]
noncomputable def b_law_fits : List S := [(.ifs (.and [(.cmp .Gt (.idx (.var 45) (.int 0)) (.int 3)), (.cmp .Eq (.idx (.var 46) (.int 0)) (.int 3))]) [(.ret (.tt false))] []), (.ifs (.cmp .Eq (.idx (.var 45) (.neg (.int 1))) (.int 5)) [(.asgs [45, 46] [(false, (.slc (.var 45) .none (.neg (.int 1)))), (false, (.slc (.var 46) .none (.bin .Sub (.len (.var 45)) (.int 1))))])] []), (.ifs (.cmp .NotEq (.len (.var 45)) (.len (.var 46))) [(.ret (.tt false))] []), (.ret (.cmp .Eq (.comp (.ifx (.cmp .Eq (.var 16) (.int 4)) (.var 16) (.var 17)) [16, 17] false (.zip (.var 45) (.var 46)) [] []) (.var 45)))]
noncomputable def b_law_read : List S := [(.try [(.asg 41 (.call 23 [(.var 8)]))] 41 (.str 7)), (.ret (.var 41))]
noncomputable def b_law_write : List S := [(.try [(.asg 41 (.call 20 [(.var 30)]))] 41 (.str 7)), (.ret (.var 41))]
noncomputable def b_law_publish : List S := [(.asg 31 (.cmp .Eq (.bin .Mod (.var 29) (.int 2)) (.int 1))), (.asg 32 (.cmp .Eq (.bin .Mod (.bin .FloorDiv (.var 29) (.int 2)) (.int 2)) (.int 1))), (.asg 33 (.bin .Mult (.bytesOf (.lst [(.var 29)])) (.idx (.tup [(.int 0), (.int 1), (.int 124)]) (.bin .FloorDiv (.var 29) (.int 4))))), (.asg 2 (.bin .Add (.call 24 [(.len (.var 10))]) (.var 10))), (.asg 47 (.and [(.var 48), (.cmp2 .Lt .Lt (.int 0) (.var 11) (.int 65536))])), (.ifs (.cmp .Eq (.var 28) (.int 0)) [(.asg 11 (.int 0)), (.asg 47 (.and [(.var 48), (.not (.var 31))]))] [(.asg 2 (.bin .Add (.var 2) (.call 24 [(.var 11)])))]), (.asg 18 (.bin .Add (.bin .Add (.bin .Add (.int 48) (.bin .Mult (.int 8) (.bin .Mod (.var 29) (.int 2)))) (.bin .Mult (.int 2) (.var 28))) (.bin .Mod (.bin .FloorDiv (.var 29) (.int 2)) (.int 2)))), (.ret (.tup [(.tup [(.str 6), (.var 31), (.var 28), (.var 32), (.var 10), (.var 11), (.var 33)]), (.var 18), (.bin .Add (.var 2) (.var 33)), (.var 47)]))]
noncomputable def b_law_frame : List S := [(.asg 0 (.bin .Mod (.var 29) (.int 3))), (.asg 28 (.bin .FloorDiv (.var 29) (.int 3))), (.asg 47 (.cmp2 .Lt .Lt (.int 0) (.var 11) (.int 65536))), (.asg 27 (.call 24 [(.var 11)])), (.asg 49 (.bin .Add (.call 24 [(.len (.var 50))]) (.var 50))), (.ifs (.cmp .Lt (.var 6) (.int 5)) [(.ret (.call 30 [(.idx (.tup [(.int 0), (.int 1), (.int 2), (.int 2), (.int 2)]) (.var 6)), (.var 11), (.var 29), (.var 10), (.var 48)]))] []), (.ifs (.cmp .Lt (.var 6) (.int 7)) [(.ret (.tup [(.tup [(.str 8), (.var 11)]), (.int 98), (.var 27), (.var 47)]))] []), (.ifs (.cmp .Eq (.var 6) (.int 7)) [(.asgT [26, 18] (.idx (.tup [(.tup [(.str 9), (.int 64)]), (.tup [(.str 10), (.int 80)]), (.tup [(.str 11), (.int 112)]), (.tup [(.str 12), (.int 176)])]) (.bin .Mod (.var 29) (.int 4)))), (.ret (.tup [(.tup [(.var 26), (.var 11)]), (.var 18), (.var 27), (.var 47)]))] []), (.ifs (.cmp .Eq (.var 6) (.int 8)) [(.asg 35 (.slc (.lst [(.tup [(.var 50), (.var 28)]), (.tup [(.byt [97, 47, 43]), (.int 2)])]) .none (.var 0))), (.asg 34 (.slc (.lst [(.var 27), (.bin .Add (.var 49) (.bytesOf (.lst [(.var 28)]))), (.byt [0, 3, 97, 47, 43, 2])]) .none (.bin .Add (.var 0) (.int 1)))), (.ret (.tup [(.tup [(.str 3), (.var 11), (.var 35)]), (.int 130), (.join [] (.var 34)), (.and [(.var 47), (.var 51), (.cmp .Gt (.var 0) (.int 0)), (.cmp .Lt (.var 28) (.int 3))])]))] []), (.ifs (.cmp .Eq (.var 6) (.int 9)) [(.asg 37 (.slc (.lst [(.var 28), (.int 128)]) .none (.var 0))), (.ret (.tup [(.tup [(.str 4), (.var 11), (.var 37)]), (.int 144), (.bin .Add (.var 27) (.bytesOf (.var 37))), (.and [(.var 47), (.cmp .Gt (.var 0) (.int 0)), (.cmp .Lt (.var 28) (.int 3))])]))] []), (.ifs (.cmp .Eq (.var 6) (.int 10)) [(.asg 34 (.slc (.lst [(.var 27), (.var 49), (.byt [0, 3, 97, 47, 43])]) .none (.bin .Add (.var 0) (.int 1)))), (.ret (.tup [(.tup [(.str 5), (.var 11), (.slc (.lst [(.var 50), (.byt [97, 47, 43])]) .none (.var 0))]), (.int 162), (.join [] (.var 34)), (.and [(.var 47), (.var 51), (.cmp .Gt (.var 0) (.int 0))])]))] []), (.asgT [26, 18] (.idx (.tup [(.tup [(.str 0), (.int 192)]), (.tup [(.str 1), (.int 208)]), (.tup [(.str 2), (.int 224)])]) (.var 0))), (.ret (.tup [(.tup [(.var 26)]), (.var 18), (.byt []), (.tt true)]))]
noncomputable def b_law_due : List S := [(.ifs (.cmp .Eq (.idx (.var 43) (.int 0)) (.str 0)) [(.ret (.lst [(.tup [(.str 13), (.tup [(.str 1)])])]))] []), (.ifs (.cmp .Eq (.idx (.var 43) (.int 0)) (.str 8)) [(.ret (.lst [(.tup [(.str 13), (.tup [(.str 11), (.idx (.var 43) (.int 1))])])]))] []), (.ifs (.cmp .NotEq (.idx (.var 43) (.int 0)) (.str 6)) [(.ret (.lst []))] []), (.asg 11 (.idx (.var 43) (.int 5))), (.asg 1 (.lst [(.tup [(.str 14), (.idx (.var 43) (.int 4)), (.idx (.var 43) (.int 6))])])), (.asg 52 (.comp (.idx (.var 54) (.int 0)) [54] true (.var 53) [(.or [(.cmp .Eq (.var 54) (.tup [(.str 8), (.var 11)])), (.and [(.cmp .Eq (.idx (.var 54) (.int 0)) (.str 6)), (.cmp .Eq (.idx (.var 54) (.int 2)) (.int 2)), (.cmp .Eq (.idx (.var 54) (.int 5)) (.var 11))])])] [11])), (.ifs (.and [(.cmp .Eq (.idx (.var 43) (.int 2)) (.int 2)), (.cmp .Eq (.slc (.var 52) (.neg (.int 1)) .none) (.lst [(.str 6)]))]) [(.asg 1 (.lst []))] []), (.ret (.bin .Add (.var 1) (.idx (.tup [(.lst []), (.lst [(.tup [(.str 13), (.tup [(.str 9), (.var 11)])])]), (.lst [(.tup [(.str 13), (.tup [(.str 10), (.var 11)])])])]) (.idx (.var 43) (.int 2)))))]
noncomputable def b_law_answer : List S := [(.ifs (.cmp .Eq (.var 43) (.tup [(.str 1)])) [(.ret (.byt [208, 0]))] []), (.ret (.bin .Add (.bytesOf (.lst [(.dget [(9, 64), (10, 80), (11, 112)] (.idx (.var 43) (.int 0))), (.int 2)])) (.call 24 [(.idx (.var 43) (.int 1))])))]
noncomputable def b_law_probe : List S := [(.asg 0 (.idx (.glob 4) (.var 16))), (.try [(.asg 41 (.call 0 [(.var 0)]))] 41 (.str 7)), (.asg 55 (.str 7)), (.ifs (.cmp2 .Lt .Lt (.int 0) (.var 16) (.int 11)) [(.asg 55 (.call 25 [(.var 0)]))] []), (.ifs (.cmp .NotEq (.var 41) (.var 55)) [(.ret (.tt false))] []), (.ifs (.and [(.cmp2 .Lt .Lt (.int 0) (.var 16) (.int 11)), (.cmp .NotEq (.call 1 [(.bin .Add (.bin .Add (.byt [128, 128]) (.var 55)) (.byt [1])), (.int 2)]) (.tup [(.var 0), (.bin .Add (.int 2) (.len (.var 55)))]))]) [(.ret (.tt false))] []), (.ifs (.and [(.cmp .Eq (.var 16) (.int 5)), (.cmp .IsNot (.call 5 [(.bin .Mult (.byt [97]) (.int 65536))]) (.tt false))]) [(.ret (.tt false))] []), (.asg 56 (.idx (.tup [(.byt [54]), (.byt [56]), (.byt [96]), (.byt [192, 1, 0]), (.byt [64, 3, 0, 1, 0]), (.byt [50, 4, 0, 1, 97, 0, 5]), (.byt [48, 3, 0, 2, 97, 98]), (.byt [130, 5, 0, 1, 0, 1, 97, 0]), (.byt [192, 128, 0]), (.byt [48, 255, 255, 255, 255]), (.byt [48, 255, 255, 255, 127]), (.byt [64, 1, 0, 1])]) (.var 16))), (.asg 57 (.str 7)), (.ifs (.cmp .Eq (.var 16) (.int 10)) [(.asg 57 .none)] []), (.ifs (.cmp .NotEq (.call 28 [(.var 56)]) (.var 57)) [(.ret (.tt false))] []), (.asg 58 (.idx (.tup [(.tup []), (.tup [(.str 6), (.tt false), (.int 0), (.tt false), (.byt [97]), (.int 1), (.byt [120])]), (.tup [(.str 6), (.tt false), (.int 3), (.tt false), (.byt [97]), (.int 1), (.byt [120])]), (.tup [(.str 6), (.tt false), (.int 1), (.tt false), (.byt [97]), (.int 1), (.byt [120]), (.int 0)]), (.tup [(.str 9), (.int 1), (.int 1)]), (.tup [(.str 0), (.int 1)]), (.tup [(.str 3), (.int 1), (.lst [(.tup [(.byt [97]), (.int 0)])]), (.int 0)]), (.tup [(.str 15), (.int 1)]), (.tup [(.str 4), (.int 1), (.lst [(.int 0), (.int 3)])]), (.tup [(.str 5), (.int 1), (.lst [(.byt [97]), (.byt [35, 47, 97])])]), (.tup [(.str 3), (.int 1), (.lst [(.tup [(.byt [97]), (.int 0)]), (.tup [(.byt [97, 43]), (.int 0)])])]), (.tup [(.str 8)])]) (.var 16))), (.ret (.cmp .Eq (.call 29 [(.var 58)]) (.str 7)))]
noncomputable def b_law : List S := [(.ifs (.cmp .Lt (.len (.var 59)) (.int 24)) [(.ret (.tt true))] []), (.asg 46 (.slc (.lst [(.idx (.glob 1) (.bin .Mod (.idx (.var 59) (.int 0)) (.int 12))), (.idx (.glob 1) (.bin .Mod (.idx (.var 59) (.int 1)) (.int 12))), (.idx (.glob 1) (.bin .Mod (.idx (.var 59) (.int 2)) (.int 12)))]) .none (.bin .Add (.bin .Mod (.idx (.var 59) (.int 3)) (.int 3)) (.int 1)))), (.asg 45 (.slc (.lst [(.idx (.glob 2) (.bin .Mod (.idx (.var 59) (.int 4)) (.int 12))), (.idx (.glob 2) (.bin .Mod (.idx (.var 59) (.int 5)) (.int 12))), (.idx (.glob 2) (.bin .Mod (.idx (.var 59) (.int 6)) (.int 12)))]) .none (.bin .Add (.bin .Mod (.idx (.var 59) (.int 7)) (.int 3)) (.int 1)))), (.asgs [20, 50] [(false, (.call 26 [(.var 46)])), (false, (.call 26 [(.var 45)]))]), (.asg 48 (.and [(.cmp .NotEq (.var 46) (.lst [(.int 2)])), (.cmp .Lt (.maxOf (.var 46)) (.int 4))])), (.asg 51 (.and [(.cmp .NotEq (.var 45) (.lst [(.int 2)])), (.cmp .Lt (.maxOf (.var 45)) (.int 6)), (.cmp .NotIn (.int 5) (.slc (.var 45) .none (.neg (.int 1))))])), (.asg 52 (.lst [(.call 5 [(.var 20)]), (.call 6 [(.var 50)])])), (.ifs (.or [(.cmp .NotEq (.var 52) (.lst [(.var 48), (.var 51)])), (.isty false (.idx (.var 52) (.int 0)) .bool), (.isty false (.idx (.var 52) (.int 1)) .bool)]) [(.ret (.tt false))] []), (.ifs (.and [(.var 48), (.var 51)]) [(.asg 60 (.call 8 [(.var 50), (.var 20)])), (.ifs (.or [(.isty false (.var 60) .bool), (.cmp .NotEq (.var 60) (.call 27 [(.var 45), (.var 46)]))]) [(.ret (.tt false))] [])] []), (.ifs (.not (.call 34 [(.bin .Mod (.idx (.var 59) (.int 23)) (.int 12))])) [(.ret (.tt false))] []), (.asg 42 (.tup [(.tup [(.idx (.var 59) (.int 8)), (.idx (.var 59) (.int 9)), (.idx (.var 59) (.int 10))]), (.tup [(.idx (.var 59) (.int 11)), (.idx (.var 59) (.int 12)), (.idx (.var 59) (.int 13))]), (.tup [(.idx (.var 59) (.int 14)), (.idx (.var 59) (.int 15)), (.idx (.var 59) (.int 16))]), (.tup [(.idx (.var 59) (.int 17)), (.idx (.var 59) (.int 18)), (.idx (.var 59) (.int 19))]), (.tup [(.idx (.var 59) (.int 20)), (.idx (.var 59) (.int 21)), (.idx (.var 59) (.int 22))])])), (.own 61 (.lst [])), (.for [21, 9, 29] false (.var 42) [(.asgT [30, 18, 2, 62] (.call 31 [(.bin .Mod (.var 21) (.int 12)), (.idx (.glob 3) (.bin .Mod (.var 9) (.int 12))), (.bin .Mod (.var 29) (.int 12)), (.var 20), (.var 48), (.var 50), (.var 51)])), (.asg 63 (.idx (.call 31 [(.bin .Mod (.var 21) (.int 12)), (.idx (.glob 3) (.bin .Mod (.var 9) (.int 12))), (.bin .Mod (.var 29) (.int 12)), (.var 20), (.var 48), (.var 50), (.var 51)]) (.int 0))), (.app 61 (.tup [(.var 30), (.var 63), (.bin .Add (.bin .Add (.bytesOf (.lst [(.var 18)])) (.call 25 [(.len (.var 2))])) (.var 2)), (.var 62)]))]), (.asg 8 (.join [] (.comp (.idx (.var 64) (.int 2)) [64] true (.var 61) [] []))), (.asg 65 .newRecv), (.own 53 (.lst [])), (.frz 61), (.for [30, 63, 56, 62] false (.var 61) [(.asg 55 (.lst [(.str 7), (.str 7)])), (.ifs (.var 62) [(.asg 55 (.lst [(.var 56), (.tup [(.var 63), (.len (.var 56))])]))] []), (.asgs [66, 41] [(false, (.call 29 [(.var 30)])), (false, (.call 28 [(.var 8)]))]), (.ifs (.or [(.cmp .NotEq (.lst [(.var 66), (.var 41)]) (.var 55)), (.cmp .NotEq (.var 30) (.var 63))]) [(.ret (.tt false))] []), (.asg 67 (.bin .Mod (.idx (.var 59) (.int 23)) (.len (.var 56)))), (.asg 68 .none), (.ifs (.and [(.cmp .Gt (.var 67) (.int 0)), (.cmp .In (.idx (.var 56) (.int 0)) (.tup [(.int 56), (.int 57)]))]) [(.asg 68 (.str 7))] []), (.ifs (.cmp .NotEq (.call 28 [(.slc (.var 56) .none (.var 67))]) (.var 68)) [(.ret (.tt false))] []), (.ifs (.var 62) [(.ifs (.isty false (.var 66) .bytes) [(.ret (.tt false))] []), (.ifs (.and [(.cmp .Eq (.idx (.var 63) (.int 0)) (.str 6)), (.or [(.isty false (.idx (.idx (.var 41) (.int 0)) (.int 1)) .bool), (.isty false (.idx (.idx (.var 41) (.int 0)) (.int 3)) .bool)])]) [(.ret (.tt false))] []), (.asg 69 (.call 32 [(.var 63), (.var 53)])), (.ifh 65 (.idx (.var 41) (.int 0)) (.var 69) (some (.cmp .NotEq (.idx (.var 41) (.int 0)) (.var 63))) [(.ret (.tt false))]), (.for [70] true (.var 69) [(.ifs (.and [(.cmp .Eq (.idx (.var 70) (.int 0)) (.str 13)), (.cmp .NotEq (.call 29 [(.idx (.var 70) (.int 1))]) (.call 33 [(.idx (.var 70) (.int 1))]))]) [(.ret (.tt false))] [])]), (.app 53 (.var 63))] []), (.asg 8 (.slc (.var 8) (.len (.var 56)) .none))]), (.ret (.tt true))]
noncomputable def b_m_init : List S := []
noncomputable def b_m_handle : List S := [(.asg 26 (.idx (.var 30) (.int 0))), (.ifs (.cmp .Eq (.var 26) (.str 6)) [(.asg 28 (.idx (.var 30) (.int 2))), (.asg 27 (.idx (.var 30) (.int 5))), (.ifs (.cmp .Eq (.var 28) (.int 0)) [(.ret (.lst [(.tup [(.str 14), (.idx (.var 30) (.int 4)), (.idx (.var 30) (.int 6))])]))] []), (.ifs (.cmp .Eq (.var 28) (.int 1)) [(.ret (.lst [(.tup [(.str 14), (.idx (.var 30) (.int 4)), (.idx (.var 30) (.int 6))]), (.tup [(.str 13), (.tup [(.str 9), (.var 27)])])]))] []), (.asg 71 (.hin false 72 (.var 27))), (.hset 72 27), (.own 1 (.lst [])), (.ifs (.var 71) [(.app 1 (.tup [(.str 14), (.idx (.var 30) (.int 4)), (.idx (.var 30) (.int 6))]))] []), (.app 1 (.tup [(.str 13), (.tup [(.str 10), (.var 27)])])), (.frz 1), (.ret (.var 1))] []), (.ifs (.cmp .Eq (.var 26) (.str 8)) [(.asg 27 (.idx (.var 30) (.int 1))), (.ifs (.hin true 72 (.var 27)) [(.hdel 72 27)] []), (.ret (.lst [(.tup [(.str 13), (.tup [(.str 11), (.var 27)])])]))] []), (.ifs (.cmp .Eq (.var 26) (.str 0)) [(.ret (.lst [(.tup [(.str 13), (.tup [(.str 1)])])]))] []), (.ret (.lst []))]
noncomputable def parF : Nat → List Nat
  | 0 => [0]
  | 1 => [8, 7]
  | 2 => [10]
  | 3 => [10]
  | 4 => [10]
  | 5 => [10]
  | 6 => [10]
  | 7 => [16, 17]
  | 8 => [19, 20]
  | 9 => [24]
  | 10 => [26]
  | 11 => [18]
  | 12 => [26]
  | 13 => [26]
  | 14 => [0]
  | 15 => [10]
  | 16 => [27]
  | 17 => [28]
  | 18 => [29]
  | 19 => [30]
  | 20 => [30]
  | 21 => [8, 7, 38]
  | 22 => [8, 7, 38]
  | 23 => [8]
  | 24 => [0]
  | 25 => [0]
  | 26 => [12]
  | 27 => [45, 46]
  | 28 => [8]
  | 29 => [30]
  | 30 => [28, 11, 29, 10, 48]
  | 31 => [6, 11, 29, 10, 48, 50, 51]
  | 32 => [43, 53]
  | 33 => [43]
  | 34 => [16]
  | 35 => [59]
  | _ => []
noncomputable def bodF : Nat → List S
  | 0 => b_write_length
  | 1 => b_read_length
  | 2 => b_is_string
  | 3 => b_has_wild
  | 4 => b_split_levels
  | 5 => b_is_topic
  | 6 => b_is_filter
  | 7 => b_level_fits
  | 8 => b_matches
  | 9 => b_need
  | 10 => b_first_of
  | 11 => b_kind_of
  | 12 => b_is_bare
  | 13 => b_has_list
  | 14 => b_two
  | 15 => b_string
  | 16 => b_id
  | 17 => b_is_qos
  | 18 => b_is_code
  | 19 => b_write_publish
  | 20 => b_write_packet
  | 21 => b_read_two
  | 22 => b_read_string
  | 23 => b_read_packet
  | 24 => b_law_two
  | 25 => b_law_size
  | 26 => b_law_text
  | 27 => b_law_fits
  | 28 => b_law_read
  | 29 => b_law_write
  | 30 => b_law_publish
  | 31 => b_law_frame
  | 32 => b_law_due
  | 33 => b_law_answer
  | 34 => b_law_probe
  | 35 => b_law
  | _ => []
noncomputable def nFun : Nat := 36
end Mine
set_option Elab.async false
set_option maxRecDepth 100000
namespace Mine
set_option tactic.hygienic false
noncomputable abbrev PU (H : HSpec) : Nat → Phi := PhiUp globD H 100 parF bodF
theorem c12 : ∀ c, c < 12 → c = 0 ∨ c = 1 ∨ c = 2 ∨ c = 3 ∨ c = 4 ∨ c = 5 ∨ c = 6 ∨ c = 7 ∨ c = 8 ∨ c = 9 ∨ c = 10 ∨ c = 11 := by decide
theorem c9 : ∀ c, c < 9 → c = 0 ∨ c = 1 ∨ c = 2 ∨ c = 3 ∨ c = 4 ∨ c = 5 ∨ c = 6 ∨ c = 7 ∨ c = 8 := by decide
theorem c6 : ∀ c, c < 6 → c = 0 ∨ c = 1 ∨ c = 2 ∨ c = 3 ∨ c = 4 ∨ c = 5 := by decide
theorem c7 : ∀ c, c < 7 → c = 0 ∨ c = 1 ∨ c = 2 ∨ c = 3 ∨ c = 4 ∨ c = 5 ∨ c = 6 := by decide
theorem c7b : ∀ c, c < 12 → ¬ c < 7 → c = 7 ∨ c = 8 ∨ c = 9 ∨ c = 10 ∨ c = 11 := by decide
theorem c3 : ∀ c, c < 3 → c = 0 ∨ c = 1 ∨ c = 2 := by decide
theorem br_of {b : Bool} {P Q : Prop} (h1 : b = true → P) (h2 : b = false → Q) : br b P Q := by cases b <;> simp_all [br]
theorem br_t {b : Bool} {P Q : Prop} (h : b = true) (p : P) : br b P Q := by subst h; exact p
theorem br_f {b : Bool} {P Q : Prop} (h : b = false) (q : Q) : br b P Q := by subst h; exact q
theorem opt_of {α : Type} {o : Option α} {K : α → Prop} {a : α} (h : o = some a) (k : K a) : opt o K := by subst h; exact k
theorem wl_of {C : Loc → (Bool → Prop) → Prop} {B : Loc → (Loc → Prop) → Prop} {K : Loc → Prop} {P : Nat → Loc → Prop} (step : ∀ n σ (w : Loc → Prop), P n σ → (∀ m σ', m < n → P m σ' → w σ') → C σ (fun t => br t (B σ w) (K σ))) {n : Nat} {ρ : Loc} (h : P n ρ) : ∃ k, wl C B K k ρ := by
  have key : ∀ n σ, P n σ → ∀ k, n < k → wl C B K k σ := by
    intro n
    induction n using Nat.strongRecOn with
    | ind n ih =>
      intro σ hP k hk
      cases k with
      | zero => (first | lia | omega)
      | succ k => exact step n σ (wl C B K k) hP fun m σ' hm hP' => ih m hm σ' hP' k (by (first | lia | omega))
  exact ⟨n + 1, key n ρ h _ (Nat.lt_succ_self _)⟩
theorem fl_of {T : Loc → D → Option Loc} {B : Loc → (Loc → Prop) → Prop} {K : Loc → Prop} {P : List D → Loc → Prop} (step : ∀ d r σ (w : Loc → Prop), P (d :: r) σ → (∀ σ', P r σ' → w σ') → opt (T σ d) fun σ' => B σ' w) (fin : ∀ σ, P [] σ → K σ) : ∀ {items : List D} {ρ : Loc}, P items ρ → fl T B K items ρ
  | [], ρ, h => fin ρ h
  | d :: r, ρ, h => step d r ρ _ h fun σ' h' => fl_of step fin h'
section
variable {H : HSpec} {i : Nat} {K : D → Prop} {X : Prop}
theorem is_string_ok (hi : 2 < i) (t : List Nat) (hk : K (.bool (decide (t.length ≤ 65535) && t.all (fun b => b != 0)))) : PhiUp globD H 100 parF bodF i 2 [.v (.bytes t)] K X := by
  rw [phi_lt hi]
  refine ⟨rfl, ?_⟩
  refine br_of (fun h => ?_) (fun h => ?_)
  · have : ¬ t.length ≤ 65535 := by have := of_decide_eq_true h; (first | lia | omega)
    have hk' : K (.bool false) := by simpa [this] using hk
    exact hk'
  · have h1 : t.length ≤ 65535 := by have := of_decide_eq_false h; (first | lia | omega)
    refine wl_of (P := fun n σ => ∃ j, j + n = t.length ∧ (t.take j).all (fun b => b != 0) = true ∧ σ = [(10, .v (.bytes t)), (11, .v (.int (j : Nat))), (0, .v (.int (t.length : Nat)))]) (fun n σ w hP hw => ?_) (n := t.length) ⟨0, by simp, by simp, rfl⟩
    obtain ⟨j, hj, ha, rfl⟩ := hP
    refine br_of (fun h => ?_) (fun h => ?_)
    · have hlt : j < t.length := by simpa using h
      have hg : t[j]? = some t[j] := List.getElem?_eq_getElem hlt
      refine opt_of (a := .int (t[j] : Nat)) (by show (at? t (j : Int)).map _ = _; show (t[j]?).map _ = _; rw [hg]; rfl) ?_
      refine br_of (fun h => ?_) (fun h => ?_)
      · have h0 : t[j] = 0 := by simpa using h
        have hk' : K (.bool false) := by
          have : t.all (fun b => b != 0) = false := by
            rw [List.all_eq_false]
            exact ⟨t[j], List.getElem_mem hlt, by simp [h0]⟩
          simpa [this] using hk
        exact hk'
      · have h0 : t[j] ≠ 0 := by simpa using h
        refine hw (n - 1) _ (by (first | lia | omega)) ⟨j + 1, by (first | lia | omega), ?_, rfl⟩
        rw [List.take_add_one, hg, List.all_append, ha]
        simp [h0]
    · have hge : t.length ≤ j := by simpa using h
      have : t.take j = t := List.take_of_length_le hge
      rw [this] at ha
      have hk' : K (.bool true) := by simpa [h1, ha] using hk
      exact hk'
end
end Mine
set_option Elab.async false
set_option maxRecDepth 100000
namespace Mine
set_option tactic.hygienic false
noncomputable def wildB (b : Nat) : Bool := b == 43 || b == 35
noncomputable def splitL : List Nat → List (List Nat)
  | [] => [[]]
  | b :: r => if b = 47 then [] :: splitL r else match splitL r with
    | h :: tl => (b :: h) :: tl
    | [] => [[b]]
theorem splitL_ne (l : List Nat) : splitL l ≠ [] := by
  cases l with
  | nil => simp [splitL]
  | cons b r => simp only [splitL]; split; simp; split <;> simp
theorem splitL_no : ∀ {u : List Nat}, u.all (fun b => b != 47) = true → splitL u = [u]
  | [], _ => rfl
  | b :: r, h => by
    simp only [List.all_cons, Bool.and_eq_true, bne_iff_ne] at h
    simp only [splitL, if_neg h.1, splitL_no h.2]
theorem splitL_sep : ∀ {u v : List Nat}, u.all (fun b => b != 47) = true → splitL (u ++ 47 :: v) = u :: splitL v
  | [], v, _ => by simp [splitL]
  | b :: r, v, h => by
    simp only [List.all_cons, Bool.and_eq_true, bne_iff_ne] at h
    simp only [List.cons_append, splitL, if_neg h.1, splitL_sep h.2]
theorem splitL_len : ∀ (u : List Nat), (splitL u).length ≤ u.length + 1
  | [] => by simp [splitL]
  | b :: r => by
    have := splitL_len r
    simp only [splitL]
    split
    · simp; (first | lia | omega)
    · split
      · rename_i h; rw [h] at this; simp at this ⊢; (first | lia | omega)
      · simp
section
variable {H : HSpec} {i : Nat} {K : D → Prop} {X : Prop}
noncomputable def hwRest : List S := [(.ifs (.or [(.cmp .Eq (.var 9) (.int 43)), (.cmp .Eq (.var 9) (.int 35))]) [(.ret (.tt true))] []), (.asg 11 (.bin .Add (.var 11) (.int 1)))]
theorem hw_turn {t : List Nat} {j c : Nat} {w : Loc → Prop} {a : LV} (hit : wildB c = true → K (.bool true)) (go : wildB c = false → w [(10, .v (.bytes t)), (11, .v (.int ((j + 1 : Nat)))), (0, a), (9, .v (.int (c : Nat)))]) :
    xSs (PhiUp globD H 100 parF bodF 3) globD H 95 hwRest [(10, .v (.bytes t)), (11, .v (.int (j : Nat))), (0, a), (9, .v (.int (c : Nat)))] w (fun d _ => K d) (fun _ => X) := by
  refine br_of (fun h => ?_) (fun h => ?_)
  · refine br_t h ?_
    have h0 : c = 43 := Int.ofNat.inj (of_decide_eq_true h)
    exact hit (by rw [h0]; rfl)
  · have h0 : c ≠ 43 := fun e => of_decide_eq_false h (by rw [e]; rfl)
    refine br_of (fun h => ?_) (fun h => ?_)
    · have h1 : c = 35 := Int.ofNat.inj (of_decide_eq_true h)
      exact hit (by rw [h1]; rfl)
    · have h1 : c ≠ 35 := fun e => of_decide_eq_false h (by rw [e]; rfl)
      exact go (by simp [wildB, h0, h1])
theorem has_wild_ok (hi : 3 < i) (t : List Nat) (hk : K (.bool (t.any wildB))) : PhiUp globD H 100 parF bodF i 3 [.v (.bytes t)] K X := by
  rw [phi_lt hi]
  refine ⟨rfl, ?_⟩
  refine wl_of (P := fun n σ => ∃ j, j + n = t.length ∧ (t.take j).any wildB = false ∧ (σ = [(10, .v (.bytes t)), (11, .v (.int (j : Nat))), (0, .v (.int (t.length : Nat)))] ∨ ∃ d, σ = [(10, .v (.bytes t)), (11, .v (.int (j : Nat))), (0, .v (.int (t.length : Nat))), (9, .v d)])) (fun n σ w hP hw => ?_) (n := t.length) ⟨0, Nat.zero_add _, rfl, .inl rfl⟩
  obtain ⟨j, hj, ha, hσ⟩ := hP
  have fin : decide ((j : Int) < (t.length : Int)) = false → K (.bool false) := fun h => by
    have : t.take j = t := List.take_of_length_le (Nat.not_lt.mp fun q => of_decide_eq_false h (Int.ofNat_lt.mpr q))
    rw [this] at ha
    rwa [ha] at hk
  have turn : decide ((j : Int) < (t.length : Int)) = true → ∃ c, t[j]? = some c ∧ xSs (PhiUp globD H 100 parF bodF 3) globD H 95 hwRest [(10, .v (.bytes t)), (11, .v (.int (j : Nat))), (0, .v (.int (t.length : Nat))), (9, .v (.int (c : Nat)))] w (fun d _ => K d) (fun _ => X) := fun h => by
    have hlt : j < t.length := Int.ofNat_lt.mp (of_decide_eq_true h)
    have hg : t[j]? = some t[j] := List.getElem?_eq_getElem hlt
    refine ⟨t[j], hg, hw_turn (fun hb => ?_) fun hb => hw (n - 1) _ (by (first | lia | omega)) ⟨j + 1, by (first | lia | omega), ?_, .inr ⟨_, rfl⟩⟩⟩
    · have : t.any wildB = true := List.any_eq_true.mpr ⟨t[j], List.getElem_mem hlt, hb⟩
      rwa [this] at hk
    · rw [List.take_add_one, hg, List.any_append, ha, Option.toList_some, List.any_cons, hb]; rfl
  rcases hσ with rfl | ⟨d, rfl⟩
  · refine br_of (fun h => ?_) fin
    obtain ⟨c, hg, tt⟩ := turn h
    exact opt_of (a := .int (c : Nat)) (by show (t[j]?).map _ = _; rw [hg]; rfl) tt
  · refine br_of (fun h => ?_) fin
    obtain ⟨c, hg, tt⟩ := turn h
    exact opt_of (a := .int (c : Nat)) (by show (t[j]?).map _ = _; rw [hg]; rfl) tt
theorem cutL_nat {α : Type} {t : List α} {s j : Nat} (hs : s ≤ j) (hj : j ≤ t.length) : cutL t (some (s : Nat)) (some (j : Nat)) = (t.take j).drop s := by
  show (t.take (min j t.length)).drop (min s t.length) = _
  rw [Nat.min_eq_left hj, Nat.min_eq_left (Nat.le_trans hs hj)]
theorem split_levels_ok (hi : 4 < i) (t : List Nat) (hz : t.length + 1 ≤ 1048576) (hk : K (.list ((splitL t).map .bytes))) : PhiUp globD H 100 parF bodF i 4 [.v (.bytes t)] K X := by
  rw [phi_lt hi]
  refine ⟨rfl, ?_⟩
  refine wl_of (P := fun n σ => ∃ j s ds, j + n = t.length ∧ s ≤ j ∧ splitL t = ds ++ splitL (t.drop s) ∧ ((t.take j).drop s).all (fun b => b != 47) = true ∧ ds.length ≤ j ∧
    σ = [(10, .v (.bytes t)), (12, .own (ds.map .bytes)), (13, .v (.int (s : Nat))), (11, .v (.int (j : Nat))), (0, .v (.int (t.length : Nat)))]) (fun n σ w hP hw => ?_) (n := t.length) ⟨0, 0, [], by simp, by simp, by simp, by simp, by simp, rfl⟩
  refine ex3 hP fun j s ds hP2 => ?_
  clear hP
  refine ad6 hP2 fun hj hs h1 h2 h3 e => ?_
  clear hP2
  subst e
  refine br_of (fun h => ?_) (fun h => ?_)
  · have hlt : j < t.length := by have := of_decide_eq_true h; (first | lia | omega)
    have hg : t[j]? = some t[j] := List.getElem?_eq_getElem hlt
    have hdrop : t.drop s = (t.take j).drop s ++ t[j] :: t.drop (j + 1) := by
      have : t = t.take j ++ t[j] :: t.drop (j + 1) := by rw [← List.drop_eq_getElem_cons hlt, List.take_append_drop]
      conv => lhs; rw [this]
      rw [List.drop_append_of_le_length (by simp; (first | lia | omega))]
    refine opt_of (a := .int (t[j] : Nat)) (by show (t[j]?).map _ = _; rw [hg]; rfl) ?_
    refine br_of (fun h => ?_) (fun h => ?_)
    · have h0 : t[j] = 47 := by have := of_decide_eq_true h; (first | lia | omega)
      refine And.intro (fits_of (by simp; (first | lia | omega))) ?_
      refine hw (n - 1) _ (by (first | lia | omega)) ⟨j + 1, j + 1, ds ++ [(t.take j).drop s], by (first | lia | omega), by (first | lia | omega), ?_, by simp, by simp; (first | lia | omega), ?_⟩
      · rw [h1, hdrop, h0, splitL_sep h2]; simp
      · rw [← cutL_nat hs (by (first | lia | omega)), List.map_append]; rfl
    · have h0 : t[j] ≠ 47 := by have := of_decide_eq_false h; (first | lia | omega)
      refine hw (n - 1) _ (by (first | lia | omega)) ⟨j + 1, s, ds, by (first | lia | omega), by (first | lia | omega), h1, ?_, by (first | lia | omega), rfl⟩
      rw [List.take_add_one, hg, List.drop_append_of_le_length (by simp; (first | lia | omega)), List.all_append, h2]
      simp [h0]
  · have hge : j = t.length := by have := of_decide_eq_false h; (first | lia | omega)
    subst hge
    refine And.intro (fits_of (by simp; (first | lia | omega))) ?_
    have e : splitL t = ds ++ [(t.take t.length).drop s] := by
      rw [h1]
      rw [List.take_length] at h2 ⊢
      rw [splitL_no h2]
    rw [e, ← cutL_nat hs (Nat.le_refl _), List.map_append] at hk
    exact hk
end
end Mine
set_option Elab.async false
set_option maxRecDepth 100000
namespace Mine
set_option tactic.hygienic false
noncomputable def stringB (t : List Nat) : Bool := decide (t.length ≤ 65535) && t.all (fun b => b != 0)
noncomputable def topicB (t : List Nat) : Bool := !t.isEmpty && (stringB t && !t.any wildB)
noncomputable def innerB (l : List Nat) : Bool := l == [43] || !l.any wildB
noncomputable def lastB (l : List Nat) : Bool := l == [43] || (l == [35] || !l.any wildB)
noncomputable def levelsB (ls : List (List Nat)) : Bool := ls.dropLast.all innerB && lastB (ls.getLastD [])
noncomputable def filterB (t : List Nat) : Bool := !t.isEmpty && (stringB t && levelsB (splitL t))
section
variable {H : HSpec} {i : Nat} {K : D → Prop} {X : Prop}
theorem need_ok (hi : 9 < i) {d : D} {b : Bool} (hb : d.tr = some b) (h : br b (K .none) X) : PhiUp globD H 100 parF bodF i 9 [.v d] K X := by
  rw [phi_lt hi]
  refine ⟨rfl, ?_⟩
  refine opt_of hb ?_
  cases b with
  | true => exact h
  | false => exact h
theorem level_fits_ok (hi : 7 < i) (x y : List Nat) (hk : K (.bool (x == [43] || x == y))) : PhiUp globD H 100 parF bodF i 7 [.v (.bytes x), .v (.bytes y)] K X := by
  rw [phi_lt hi]
  refine ⟨rfl, ?_⟩
  refine br_of (fun h => ?_) (fun h => ?_)
  · rw [h] at hk; show K (.bool (x == [43])); rw [h]; exact hk
  · rw [h] at hk; exact hk
theorem is_topic_ok (hi : 5 < i) (t : List Nat) (hk : K (.bool (topicB t))) : PhiUp globD H 100 parF bodF i 5 [.v (.bytes t)] K X := by
  rw [phi_lt hi]
  refine ⟨rfl, ?_⟩
  have e0 : topicB t = (!t.isEmpty && (stringB t && !t.any wildB)) := rfl
  refine br_of (fun h => ?_) (fun h => ?_)
  · have : t = [] := by have := of_decide_eq_true h; exact List.length_eq_zero_iff.mp (by (first | lia | omega))
    subst this
    exact hk
  · have : t.isEmpty = false := by have := of_decide_eq_false h; cases t with | nil => simp at this | cons _ _ => rfl
    rw [e0, this] at hk
    refine is_string_ok (by decide) t ?_
    refine br_of (fun h => ?_) (fun h => ?_)
    · have : stringB t = false := by have : (!stringB t) = true := h; simpa using this
      rw [this] at hk; exact hk
    · have : stringB t = true := by have : (!stringB t) = false := h; simpa using this
      rw [this] at hk
      refine has_wild_ok (by decide) t ?_
      exact hk
theorem nb_t {b : Bool} (h : (!b) = true) : b = false := by cases b with | true => cases h | false => rfl
theorem nb_f {b : Bool} (h : (!b) = false) : b = true := by cases b with | true => rfl | false => cases h
noncomputable abbrev fF (t : List Nat) (ls : List (List Nat)) (j : Nat) : Loc := [(10, .v (.bytes t)), (12, .v (.list (ls.map D.bytes))), (14, .v (.int (((ls.map D.bytes).length : Nat) - 1 : Int))), (11, .v (.int (j : Nat)))]
noncomputable def fbRest : List S := [(.ifs (.and [(.cmp .NotEq (.var 15) (.byt [43])), (.call 3 [(.var 15)])]) [(.ret (.tt false))] []), (.asg 11 (.bin .Add (.var 11) (.int 1)))]
noncomputable def flRest : List S := [(.ifs (.or [(.cmp .Eq (.var 15) (.byt [43])), (.cmp .Eq (.var 15) (.byt [35]))]) [(.ret (.tt true))] []), (.ret (.not (.call 3 [(.var 15)])))]
theorem fb_turn {t u : List Nat} {ls : List (List Nat)} {j : Nat} {w : Loc → Prop} (next : innerB u = true → w (fF t ls (j + 1) ++ [(15, .v (.bytes u))])) (stop : innerB u = false → K (.bool false)) :
    xSs (PhiUp globD H 100 parF bodF 6) globD H 92 fbRest (fF t ls j ++ [(15, .v (.bytes u))]) w (fun d _ => K d) (fun _ => X) := by
  refine br_of (fun h => ?_) (fun h => ?_)
  · have h1 : (u == [43]) = false := nb_t h
    refine has_wild_ok (by decide) u ?_
    refine br_of (fun h => ?_) (fun h => ?_)
    · exact stop (by unfold innerB; rw [h1, h]; rfl)
    · exact next (by unfold innerB; rw [h1, h]; rfl)
  · refine br_f h ?_
    have h1 : (u == [43]) = true := nb_f h
    exact next (by unfold innerB; rw [h1]; rfl)
theorem fl_turn {t u : List Nat} {ls : List (List Nat)} {j : Nat} {KK : Loc → Prop} (hk' : K (.bool (lastB u))) :
    xSs (PhiUp globD H 100 parF bodF 6) globD H 93 flRest (fF t ls j ++ [(15, .v (.bytes u))]) KK (fun d _ => K d) (fun _ => X) := by
  unfold lastB at hk'
  refine br_of (fun h => ?_) (fun h => ?_)
  · refine br_t h ?_
    rw [h] at hk'; exact hk'
  · rw [h] at hk'
    refine br_of (fun h => ?_) (fun h => ?_)
    · rw [h] at hk'; exact hk'
    · rw [h] at hk'
      refine has_wild_ok (by decide) u ?_
      exact hk'
theorem is_filter_ok (hi : 6 < i) (t : List Nat) (hz : t.length + 1 ≤ 1048576) (hk : K (.bool (filterB t))) : PhiUp globD H 100 parF bodF i 6 [.v (.bytes t)] K X := by
  rw [phi_lt hi]
  refine ⟨rfl, ?_⟩
  have e0 : filterB t = (!t.isEmpty && (stringB t && levelsB (splitL t))) := rfl
  refine br_of (fun h => ?_) (fun h => ?_)
  · have : t = [] := by have := of_decide_eq_true h; exact List.length_eq_zero_iff.mp (by (first | lia | omega))
    subst this
    exact hk
  · have : t.isEmpty = false := by have := of_decide_eq_false h; cases t with | nil => simp at this | cons _ _ => rfl
    rw [e0, this] at hk
    refine is_string_ok (by decide) t ?_
    refine br_of (fun h => ?_) (fun h => ?_)
    · have : stringB t = false := by have : (!stringB t) = true := h; simpa using this
      rw [this] at hk; exact hk
    · have : stringB t = true := by have : (!stringB t) = false := h; simpa using this
      rw [this] at hk
      have hk' : K (.bool (levelsB (splitL t))) := hk
      refine split_levels_ok (by decide) t hz ?_
      have hne := splitL_ne t
      generalize splitL t = ls at hk' hne
      have hlen : (ls.map D.bytes).length = ls.length := List.length_map ..
      have hpos : 0 < ls.length := List.length_pos_iff.mpr hne
      have e14 : (((ls.map D.bytes).length : Nat) - 1 : Int) = ((ls.length - 1 : Nat) : Int) := by rw [hlen]; exact (Int.ofNat_sub hpos).symm
      refine wl_of (P := fun n σ => ∃ j, j + n = ls.length - 1 ∧ (ls.take j).all innerB = true ∧ (σ = fF t ls j ∨ ∃ d, σ = fF t ls j ++ [(15, .v d)])) (fun n σ w hP hw => ?_) (n := ls.length - 1) ⟨0, Nat.zero_add _, rfl, .inl rfl⟩
      obtain ⟨j, hj, ha, hσ⟩ := hP
      have turn : decide ((j : Int) < (((ls.map D.bytes).length : Nat) - 1 : Int)) = true → ∃ u, (ls.map D.bytes)[j]? = some (.bytes u) ∧ xSs (PhiUp globD H 100 parF bodF 6) globD H 92 fbRest (fF t ls j ++ [(15, .v (.bytes u))]) w (fun d _ => K d) (fun _ => X) := fun h => by
        have hlt : j < ls.length - 1 := by rw [e14] at h; exact Int.ofNat_lt.mp (of_decide_eq_true h)
        have hjl : j < ls.length := Nat.lt_of_lt_of_le hlt (Nat.sub_le _ _)
        have hg : ls[j]? = some ls[j] := List.getElem?_eq_getElem hjl
        refine ⟨ls[j], by rw [List.getElem?_map, hg]; rfl, fb_turn (fun hb => ?_) fun hb => ?_⟩
        · exact hw (n - 1) _ (by (first | lia | omega)) ⟨j + 1, by (first | lia | omega), by rw [List.take_add_one, hg, List.all_append, ha, Option.toList_some, List.all_cons, hb]; rfl, .inr ⟨_, rfl⟩⟩
        · have : ls.dropLast.all innerB = false := by
            rw [List.all_eq_false]
            refine ⟨ls[j], ?_, by rw [hb]; decide⟩
            rw [List.dropLast_eq_take, List.mem_take_iff_getElem]
            exact ⟨j, Nat.lt_min.mpr ⟨hlt, hjl⟩, rfl⟩
          have e : levelsB ls = false := by unfold levelsB; rw [this]; rfl
          rwa [e] at hk'
      have last : decide ((j : Int) < (((ls.map D.bytes).length : Nat) - 1 : Int)) = false → ∃ u, at? (ls.map D.bytes) (((ls.map D.bytes).length : Nat) - 1 : Int) = some (.bytes u) ∧ K (.bool (lastB u)) := fun h => by
        have hge : j = ls.length - 1 := by rw [e14] at h; exact Nat.le_antisymm (hj ▸ Nat.le_add_right j n) (Nat.not_lt.mp fun q => of_decide_eq_false h (Int.ofNat_lt.mpr q))
        have hlast : ls[ls.length - 1]? = some (ls.getLastD []) := by
          rw [List.getLastD_eq_getLast?, List.getLast?_eq_getElem?, List.getElem?_eq_getElem (Nat.sub_lt hpos (by decide))]; rfl
        have hdl : ls.dropLast.all innerB = true := by rw [List.dropLast_eq_take, ← hge]; exact ha
        have e : levelsB ls = lastB (ls.getLastD []) := by unfold levelsB; rw [hdl]; rfl
        refine ⟨ls.getLastD [], ?_, by rwa [e] at hk'⟩
        rw [e14]
        show (ls.map D.bytes)[ls.length - 1]? = _
        rw [List.getElem?_map, hlast]; rfl
      rcases hσ with rfl | ⟨d, rfl⟩
      · refine br_of (fun h => ?_) (fun h => ?_)
        · obtain ⟨u, hg, tt⟩ := turn h
          exact opt_of (a := .bytes u) hg tt
        · obtain ⟨u, hg, tt⟩ := last h
          exact opt_of (a := .bytes u) hg (fl_turn (ls := ls) (j := j) tt)
      · refine br_of (fun h => ?_) (fun h => ?_)
        · obtain ⟨u, hg, tt⟩ := turn h
          exact opt_of (a := .bytes u) hg tt
        · obtain ⟨u, hg, tt⟩ := last h
          exact opt_of (a := .bytes u) hg (fl_turn (ls := ls) (j := j) tt)
end
end Mine
set_option Elab.async false
set_option maxRecDepth 100000
namespace Mine
set_option tactic.hygienic false
noncomputable def fitB (a b : List (List Nat)) (n : Nat) : Bool := (List.range n).all fun j => a.getD j [] == [43] || a.getD j [] == b.getD j []
noncomputable def dollarB (f t : List Nat) : Bool := (cutL f none (some 1) == [43] || cutL f none (some 1) == [35]) && cutL t none (some 1) == [36]
noncomputable def levB (a b : List (List Nat)) : Bool := if a.getLastD [] == [35] then decide (a.length - 1 ≤ b.length) && fitB a b (a.length - 1) else decide (b.length = a.length) && fitB a b a.length
noncomputable def matchB (f t : List Nat) : Bool := !dollarB f t && levB (splitL f) (splitL t)
theorem fitB_succ (a b : List (List Nat)) (n : Nat) : fitB a b (n + 1) = (fitB a b n && (a.getD n [] == [43] || a.getD n [] == b.getD n [])) := by
  unfold fitB
  rw [List.range_succ, List.all_append]
  simp
theorem fitB_no {a b : List (List Nat)} {j : Nat} : ∀ {n : Nat}, j < n → (a.getD j [] == [43] || a.getD j [] == b.getD j []) = false → fitB a b n = false := fun {n} hj h => by
  unfold fitB
  rw [List.all_eq_false]
  exact ⟨j, List.mem_range.mpr hj, by rw [h]; simp⟩
section
variable {H : HSpec} {i : Nat} {K : D → Prop} {X : Prop}
theorem matches_ok (hi : 8 < i) (f t : List Nat) (hf : f.length + 1 ≤ 1048576) (ht : t.length + 1 ≤ 1048576) (hk : K (.bool (matchB f t))) : PhiUp globD H 100 parF bodF i 8 [.v (.bytes f), .v (.bytes t)] K X := by
  rw [phi_lt hi]
  refine ⟨rfl, ?_⟩
  have e0 : matchB f t = (!dollarB f t && levB (splitL f) (splitL t)) := rfl
  -- the loop over the levels
  have loop : ∀ (a b : List (List Nat)) (c : Nat), c ≤ a.length → c ≤ b.length → K (.bool (fitB a b c)) →
      xSs (PhiUp globD H 100 parF bodF 8) globD H 93 [.whl (.cmp .Lt (.var 23) (.var 22)) [.ifs (.not (.call 7 [.idx (.var 21) (.var 23), .idx (.var 9) (.var 23)])) [.ret (.tt false)] [], .asg 23 (.bin .Add (.var 23) (.int 1))], .ret (.tt true)]
        [(19, .v (.bytes f)), (20, .v (.bytes t)), (18, .v (.bytes (cutL f none (some 1)))), (21, .v (.list (a.map D.bytes))), (9, .v (.list (b.map D.bytes))), (22, .v (.int (c : Nat))), (23, .v (.int 0))] (fun _ => K .none) (fun d _ => K d) (fun _ => X) := by
    intro a b c ha hb hc
    refine wl_of (P := fun n σ => ∃ j, j + n = c ∧ fitB a b j = true ∧ σ = [(19, .v (.bytes f)), (20, .v (.bytes t)), (18, .v (.bytes (cutL f none (some 1)))), (21, .v (.list (a.map D.bytes))), (9, .v (.list (b.map D.bytes))), (22, .v (.int (c : Nat))), (23, .v (.int (j : Nat)))]) (fun n σ w hP hw => ?_) (n := c) ⟨0, by (first | lia | omega), rfl, rfl⟩
    obtain ⟨j, hj, hfit, rfl⟩ := hP
    refine br_of (fun h => ?_) (fun h => ?_)
    · have hlt : j < c := by have := of_decide_eq_true h; (first | lia | omega)
      have ga : a[j]? = some (a.getD j []) := by rw [List.getD_eq_getElem?_getD, List.getElem?_eq_getElem (by (first | lia | omega))]; rfl
      have gb : b[j]? = some (b.getD j []) := by rw [List.getD_eq_getElem?_getD, List.getElem?_eq_getElem (by (first | lia | omega))]; rfl
      refine opt_of (a := .bytes (a.getD j [])) (by show ((a.map D.bytes)[j]?) = _; rw [List.getElem?_map, ga]; rfl) ?_
      refine opt_of (a := .bytes (b.getD j [])) (by show ((b.map D.bytes)[j]?) = _; rw [List.getElem?_map, gb]; rfl) ?_
      refine level_fits_ok (by decide) _ _ ?_
      refine br_of (fun h => ?_) (fun h => ?_)
      · have : (a.getD j [] == [43] || a.getD j [] == b.getD j []) = false := nb_t h
        rw [fitB_no hlt this] at hc
        exact hc
      · have : (a.getD j [] == [43] || a.getD j [] == b.getD j []) = true := nb_f h
        exact hw (n - 1) _ (by (first | lia | omega)) ⟨j + 1, by (first | lia | omega), by rw [fitB_succ, hfit, this]; rfl, rfl⟩
    · have : j = c := by have := of_decide_eq_false h; (first | lia | omega)
      subst this
      rw [hfit] at hc
      exact hc
  have rest : dollarB f t = false → xSs (PhiUp globD H 100 parF bodF 8) globD H 98 ((bodF 8).drop 2) [(19, .v (.bytes f)), (20, .v (.bytes t)), (18, .v (.bytes (cutL f none (some 1))))] (fun _ => K .none) (fun d _ => K d) (fun _ => X) := by
    intro hd
    rw [e0, hd] at hk
    refine split_levels_ok (by decide) f hf ?_
    refine split_levels_ok (by decide) t ht ?_
    have hne := splitL_ne f
    have hk' : K (.bool (levB (splitL f) (splitL t))) := hk
    generalize splitL f = a at hk' hne
    generalize splitL t = b at hk'
    have hpos : 0 < a.length := List.length_pos_iff.mpr hne
    have hal : (a.map D.bytes).length = a.length := List.length_map ..
    have hbl : (b.map D.bytes).length = b.length := List.length_map ..
    have hlast : a[a.length - 1]? = some (a.getLastD []) := by
      rw [List.getLastD_eq_getLast?, List.getLast?_eq_getElem?, List.getElem?_eq_getElem (by (first | lia | omega))]; rfl
    have e1 : (((a.map D.bytes).length : Nat) - 1 : Int) = ((a.length - 1 : Nat) : Int) := by rw [hal]; (first | lia | omega)
    refine opt_of (a := .bytes (a.getLastD [])) (by
      show at? (a.map D.bytes) (((a.map D.bytes).length : Nat) - 1 : Int) = _
      rw [e1]
      show (a.map D.bytes)[a.length - 1]? = _
      rw [List.getElem?_map, hlast]; rfl) ?_
    refine br_of (fun h => ?_) (fun h => ?_)
    · have e2 : levB a b = (decide (a.length - 1 ≤ b.length) && fitB a b (a.length - 1)) := by unfold levB; rw [if_pos h]
      rw [e2] at hk'
      refine br_of (fun h => ?_) (fun h => ?_)
      · have : ¬ a.length - 1 ≤ b.length := by have := of_decide_eq_true h; (first | lia | omega)
        rw [decide_eq_false this] at hk'; exact hk'
      · have h1 : a.length - 1 ≤ b.length := by have := of_decide_eq_false h; (first | lia | omega)
        rw [decide_eq_true h1] at hk'
        have := loop a b (a.length - 1) (by (first | lia | omega)) h1 hk'
        rw [← e1] at this
        exact this
    · have e2 : levB a b = (decide (b.length = a.length) && fitB a b a.length) := by unfold levB; rw [if_neg (by rw [h]; simp)]
      rw [e2] at hk'
      refine br_of (fun h => ?_) (fun h => ?_)
      · have h' := of_decide_eq_false (nb_t h)
        have : ¬ b.length = a.length := by (first | lia | omega)
        rw [decide_eq_false this] at hk'; exact hk'
      · have h' := of_decide_eq_true (nb_f h)
        have h1 : b.length = a.length := by (first | lia | omega)
        rw [decide_eq_true h1] at hk'
        have hk2 : K (.bool (fitB a b a.length)) := hk'
        rw [← hal] at hk2
        exact loop a b (a.map D.bytes).length (by (first | lia | omega)) (by (first | lia | omega)) hk2
  have e3 : dollarB f t = ((cutL f none (some 1) == [43] || cutL f none (some 1) == [35]) && cutL t none (some 1) == [36]) := rfl
  have two : (cutL f none (some 1) == [43] || cutL f none (some 1) == [35]) = true → br (cutL t none (some 1) == [36]) (K (.bool false)) (xSs (PhiUp globD H 100 parF bodF 8) globD H 98 ((bodF 8).drop 2) [(19, .v (.bytes f)), (20, .v (.bytes t)), (18, .v (.bytes (cutL f none (some 1))))] (fun _ => K .none) (fun d _ => K d) (fun _ => X)) := by
    intro h1
    refine br_of (fun h => ?_) (fun h => ?_)
    · rw [e0, e3, h1, h] at hk; exact hk
    · exact rest (by rw [e3, h1, h]; rfl)
  refine br_of (fun h => ?_) (fun h => ?_)
  · refine br_t h ?_
    exact two (by rw [h]; rfl)
  · refine br_of (fun h' => ?_) (fun h' => ?_)
    · exact two (by rw [h, h']; rfl)
    · refine br_f h' ?_
      exact rest (by rw [e3, h, h']; rfl)
end
end Mine
set_option Elab.async false
set_option maxRecDepth 100000
namespace Mine
set_option tactic.hygienic false
theorem bytesOf_two {x y : Nat} (hx : x < 256) (hy : y < 256) : D.bytesOf (.list [.int (x : Nat), .int (y : Nat)]) = some (.bytes [x, y]) := by
  show ((bytesOfL [D.int (x : Nat), D.int (y : Nat)]).map D.bytes) = _
  simp only [bytesOfL]
  have e1 : byteOf (.int (x : Nat)) = some x := by show (if x < 256 then some x else none) = _; rw [if_pos hx]
  have e2 : byteOf (.int (y : Nat)) = some y := by show (if y < 256 then some y else none) = _; rw [if_pos hy]
  rw [e1, e2]; rfl
theorem bytesOf_one {x : Nat} (hx : x < 256) : D.bytesOf (.list [.int (x : Nat)]) = some (.bytes [x]) := by
  show ((bytesOfL [D.int (x : Nat)]).map D.bytes) = _
  simp only [bytesOfL]
  have e1 : byteOf (.int (x : Nat)) = some x := by show (if x < 256 then some x else none) = _; rw [if_pos hx]
  rw [e1]; rfl
theorem and255 (n : Nat) : n &&& 255 = n % 256 := Nat.and_two_pow_sub_one_eq_mod n 8
section
variable {H : HSpec} {i : Nat} {K : D → Prop} {X : Prop}
theorem two_ok (hi : 14 < i) {n : Nat} (hn : n < 65536) (hk : K (.bytes [n / 256, n % 256])) : PhiUp globD H 100 parF bodF i 14 [.v (.int (n : Nat))] K X := by
  rw [phi_lt hi]
  refine ⟨rfl, ?_⟩
  show opt (D.bytesOf (.list [.int ((n / 2 ^ 8 : Nat) : Int), .int ((n &&& 255 : Nat) : Int)])) K
  rw [and255]
  exact opt_of (bytesOf_two (by (first | lia | omega)) (by (first | lia | omega))) hk
theorem string_ok (hi : 15 < i) {t : List Nat} (ht : t.length < 65536) (hk : K (.bytes ([t.length / 256, t.length % 256] ++ t))) : PhiUp globD H 100 parF bodF i 15 [.v (.bytes t)] K X := by
  rw [phi_lt hi]
  refine ⟨rfl, ?_⟩
  refine two_ok (by decide) ht ?_
  refine opt_of (a := .bytes ([t.length / 256, t.length % 256] ++ t)) ?_ hk
  show gd (fits ([t.length / 256, t.length % 256].length + t.length)) (D.bytes ([t.length / 256, t.length % 256] ++ t)) = _
  rw [fits_of (by simp; (first | lia | omega))]; rfl
theorem id_ok (hi : 16 < i) {n : Int} (hk : br (decide (1 ≤ n ∧ n ≤ 65535)) (K (.bytes [n.toNat / 256, n.toNat % 256])) X) : PhiUp globD H 100 parF bodF i 16 [.v (.int n)] K X := by
  rw [phi_lt hi]
  refine ⟨rfl, ?_⟩
  refine br_of (fun h => ?_) (fun h => ?_)
  · refine br_t h ?_
    have h1 := of_decide_eq_true h
    rw [decide_eq_false (by (first | lia | omega))] at hk; exact hk
  · have h1 := of_decide_eq_false h
    refine br_of (fun h' => ?_) (fun h' => ?_)
    · have h2 := of_decide_eq_true h'
      rw [decide_eq_false (by (first | lia | omega))] at hk; exact hk
    · have h2 := of_decide_eq_false h'
      rw [decide_eq_true (by (first | lia | omega))] at hk
      obtain ⟨m, rfl⟩ := Int.eq_ofNat_of_zero_le (a := n) (by (first | lia | omega))
      refine two_ok (by decide) (by (first | lia | omega)) ?_
      exact hk
theorem law_two_ok (hi : 24 < i) {n : Int} (hn : 0 ≤ n) (hk : K (.bytes [n.toNat / 256 % 256, n.toNat % 256])) : PhiUp globD H 100 parF bodF i 24 [.v (.int n)] K X := by
  rw [phi_lt hi]
  refine ⟨rfl, ?_⟩
  obtain ⟨m, rfl⟩ := Int.eq_ofNat_of_zero_le hn
  show opt (D.bytesOf (.list [.int ((m : Int) / (256 : Nat) % (256 : Nat)), .int ((m : Int) % (256 : Nat))])) K
  have e1 : ((m : Int) / (256 : Nat) % (256 : Nat)) = ((m / 256 % 256 : Nat) : Int) := rfl
  have e2 : ((m : Int) % (256 : Nat)) = ((m % 256 : Nat) : Int) := rfl
  rw [e1, e2]
  exact opt_of (bytesOf_two (Nat.mod_lt _ (by decide)) (Nat.mod_lt _ (by decide))) hk
theorem first_of_ok (hi : 10 < i) {k : Nat} (hk : K (match k with | 9 => .int 64 | 10 => .int 80 | 8 => .int 98 | 11 => .int 112 | 3 => .int 130 | 4 => .int 144 | 5 => .int 162 | 12 => .int 176 | 0 => .int 192 | 1 => .int 208 | 2 => .int 224 | _ => .none)) : PhiUp globD H 100 parF bodF i 10 [.v (.str k)] K X := by
  rw [phi_lt hi]
  refine ⟨rfl, ?_⟩
  match k, hk with
  | 0, hk => exact hk
  | 1, hk => exact hk
  | 2, hk => exact hk
  | 3, hk => exact hk
  | 4, hk => exact hk
  | 5, hk => exact hk
  | 6, hk => exact hk
  | 7, hk => exact hk
  | 8, hk => exact hk
  | 9, hk => exact hk
  | 10, hk => exact hk
  | 11, hk => exact hk
  | 12, hk => exact hk
  | k + 13, hk => exact hk
end
end Mine
set_option Elab.async false
set_option maxRecDepth 100000
namespace Mine
set_option tactic.hygienic false
noncomputable def wlenF : Nat → Nat → List Nat
  | 0, _ => []
  | k + 1, n => if n < 128 then [n] else (n % 128 + 128) :: wlenF k (n / 128)
noncomputable def wlen (n : Nat) : List Nat := wlenF (n + 1) n
theorem div_lt128 {n : Nat} (h : ¬ n < 128) : n / 128 < n := Nat.div_lt_self (Nat.lt_of_lt_of_le (by decide) (Nat.not_lt.mp h)) (by decide)
theorem wlenF_st : ∀ {k j n : Nat}, n < k → n < j → wlenF k n = wlenF j n
  | 0, _, _, h, _ => absurd h (Nat.not_lt_zero _)
  | _ + 1, 0, _, _, h => absurd h (Nat.not_lt_zero _)
  | k + 1, j + 1, n, h1, h2 => by
    show (if n < 128 then [n] else (n % 128 + 128) :: wlenF k (n / 128)) = (if n < 128 then [n] else (n % 128 + 128) :: wlenF j (n / 128))
    by_cases h : n < 128
    · rw [if_pos h, if_pos h]
    · have hd := div_lt128 h
      rw [if_neg h, if_neg h, wlenF_st (Nat.lt_of_lt_of_le hd (Nat.le_of_lt_succ h1)) (Nat.lt_of_lt_of_le hd (Nat.le_of_lt_succ h2))]
theorem wlen_eq (n : Nat) : wlen n = if n < 128 then [n] else (n % 128 + 128) :: wlen (n / 128) := by
  show (if n < 128 then [n] else (n % 128 + 128) :: wlenF n (n / 128)) = _
  by_cases h : n < 128
  · rw [if_pos h, if_pos h]
  · rw [if_neg h, if_neg h, wlenF_st (div_lt128 h) (Nat.lt_succ_self _)]; rfl
theorem bytesOf_all : ∀ {l : List Nat}, (∀ x ∈ l, x < 256) → bytesOfL (l.map fun x => D.int (x : Nat)) = some l
  | [], _ => rfl
  | x :: r, h => by
    have e1 : byteOf (.int (x : Nat)) = some x := by show (if x < 256 then some x else none) = _; rw [if_pos (h x List.mem_cons_self)]
    simp only [List.map_cons, bytesOfL, e1, bytesOf_all fun y hy => h y (List.mem_cons_of_mem _ hy)]
theorem wlen_small : ∀ (n : Nat), ∀ x ∈ wlen n, x < 256 := by
  intro n
  induction n using Nat.strongRecOn with
  | ind n ih =>
    intro x hx
    rw [wlen_eq] at hx
    split at hx
    · simp at hx; (first | lia | omega)
    · rcases List.mem_cons.mp hx with rfl | hx
      · (first | lia | omega)
      · exact ih (n / 128) (by (first | lia | omega)) x hx
theorem wlen_big {m : Nat} (h : ¬ m < 128) : wlen m = (m % 128 + 128) :: wlen (m / 128) := by rw [wlen_eq, if_neg h]
theorem wlen_lt {m : Nat} (h : m < 128) : wlen m = [m % 128] := by rw [wlen_eq, if_pos h, Nat.mod_eq_of_lt h]
section
variable {H : HSpec} {i : Nat} {K : D → Prop} {X : Prop}
theorem write_length_no (hi : 0 < i) {n : Int} (hn : n < 0 ∨ 268435455 < n) (hX : X) : PhiUp globD H 100 parF bodF i 0 [.v (.int n)] K X := by
  rw [phi_lt hi]
  refine ⟨rfl, ?_⟩
  refine br_of (fun h => ?_) (fun h => ?_)
  · exact br_t h hX
  · have h1 := of_decide_eq_false h
    refine br_of (fun h' => ?_) (fun h' => ?_)
    · exact hX
    · have h2 := of_decide_eq_false h'
      (first | lia | omega)
noncomputable def wlRest : List S := [(.ifs (.cmp .NotEq (.var 2) (.int 0)) [(.app 1 (.bin .Add (.var 3) (.int 128)))] [(.app 1 (.var 3))]), (.asg 0 (.var 2)), (.ifs (.cmp .Eq (.var 0) (.int 0)) [(.frz 1), (.ret (.bytesOf (.var 1)))] [])]
theorem write_length_ok (hi : 0 < i) {n : Nat} (hn : n ≤ 268435455) (hk : K (.bytes (wlen n))) : PhiUp globD H 100 parF bodF i 0 [.v (.int (n : Nat))] K X := by
  rw [phi_lt hi]
  refine ⟨rfl, ?_⟩
  refine br_of (fun h => ?_) (fun h => ?_)
  · have h1 := of_decide_eq_true h; (first | lia | omega)
  refine wl_of (P := fun k σ => ∃ m acc, m ≤ k ∧ wlen n = acc ++ wlen m ∧ m * 128 ^ acc.length ≤ n ∧ (acc = [] ∨ 0 < m) ∧ (σ = [(0, .v (.int (m : Nat))), (1, .own (acc.map fun x => D.int (x : Nat)))] ∨ ∃ a b, σ = [(0, .v (.int (m : Nat))), (1, .own (acc.map fun x => D.int (x : Nat))), (2, .v a), (3, .v b)])) (fun k σ w hP hw => ?_) (n := n) ⟨n, [], by (first | lia | omega), by simp, by simp, .inl rfl, .inl rfl⟩
  refine ex2 hP fun m acc hP2 => ?_
  clear hP
  refine ad5 hP2 fun hm h1 h2 h3 hσ => ?_
  clear hP2
  have hlen : acc.length ≤ 4 := by
    rcases h3 with rfl | h3
    · simp
    · refine Classical.byContradiction fun hc => ?_
      have p1 : 128 ^ 5 ≤ 128 ^ acc.length := Nat.pow_le_pow_right (by (first | lia | omega)) (by (first | lia | omega))
      have p2 : 1 * 128 ^ acc.length ≤ m * 128 ^ acc.length := Nat.mul_le_mul_right _ h3
      have p3 : (128 : Nat) ^ 5 = 34359738368 := by decide
      (first | lia | omega)
  have turn : xSs (PhiUp globD H 100 parF bodF 0) globD H 94 wlRest [(0, .v (.int (m : Nat))), (1, .own (acc.map fun x => D.int (x : Nat))), (2, .v (.int ((m / 128 : Nat)))), (3, .v (.int ((m % 128 : Nat))))] w (fun d _ => K d) (fun _ => X) := by
    have hf : fits ((acc.map fun x => D.int (x : Nat)).length + 1) = true := fits_of (by rw [List.length_map]; exact Nat.le_trans (Nat.succ_le_succ hlen) (by decide))
    refine br_of (fun h => ?_) (fun h => ?_)
    · have h4 := of_decide_eq_false (nb_t h)
      have h5 : ¬ m < 128 := fun q => h4 (by rw [Nat.div_eq_of_lt q]; rfl)
      refine And.intro hf ?_
      refine br_f (decide_eq_false h4) ?_
      have q1 : wlen n = (acc ++ [m % 128 + 128]) ++ wlen (m / 128) := by rw [h1, wlen_big h5, List.append_assoc]; rfl
      have q2 : m / 128 * 128 ^ (acc ++ [m % 128 + 128]).length ≤ n := by
        rw [List.length_append, List.length_singleton, Nat.pow_succ, Nat.mul_comm (128 ^ acc.length) 128, ← Nat.mul_assoc]
        exact Nat.le_trans (Nat.mul_le_mul_right _ (Nat.div_mul_le_self m 128)) h2
      have := hw (m / 128) [(0, .v (.int ((m / 128 : Nat)))), (1, .own ((acc ++ [m % 128 + 128]).map fun x => D.int (x : Nat))), (2, .v (.int ((m / 128 : Nat)))), (3, .v (.int ((m % 128 : Nat))))] (Nat.lt_of_lt_of_le (div_lt128 h5) hm)
        ⟨m / 128, acc ++ [m % 128 + 128], Nat.le_refl _, q1, q2, .inr (Nat.div_pos (Nat.not_lt.mp h5) (by decide)), .inr ⟨_, _, rfl⟩⟩
      rw [List.map_append] at this
      exact this
    · have h4 := of_decide_eq_true (nb_f h)
      have h5 : m < 128 := Nat.lt_of_not_le fun q => absurd (Int.ofNat.inj h4) (Nat.ne_of_gt (Nat.div_pos q (by decide)))
      refine And.intro hf ?_
      refine br_t (decide_eq_true h4) ?_
      have e3 : wlen n = acc ++ [m % 128] := by rw [h1, wlen_lt h5]
      have hall : ∀ x ∈ acc ++ [m % 128], x < 256 := fun x hx => wlen_small n x (by rw [e3]; exact hx)
      refine opt_of (a := .bytes (acc ++ [m % 128])) ?_ (by rw [e3] at hk; exact hk)
      have := bytesOf_all hall
      rw [List.map_append] at this
      exact congrArg (Option.map D.bytes) this
  rcases hσ with rfl | ⟨a, b, rfl⟩
  · exact turn
  · exact turn
end
end Mine
set_option Elab.async false
set_option maxRecDepth 100000
namespace Mine
set_option tactic.hygienic false
theorem and127 (n : Nat) : n &&& 127 = n % 128 := Nat.and_two_pow_sub_one_eq_mod n 7
theorem and128_lo : ∀ {n : Nat}, n < 128 → n &&& 128 = 0 := by decide
theorem and128_hi : ∀ {n : Nat}, n < 128 → (n + 128) &&& 128 = 128 := by decide
theorem wlen_len : ∀ (n : Nat), n ≤ 268435455 → (wlen n).length ≤ 4 := by
  intro n hn
  by_cases h1 : n < 128
  · rw [wlen_lt h1]; simp
  · rw [wlen_big h1]
    by_cases h2 : n / 128 < 128
    · rw [wlen_lt h2]; simp
    · rw [wlen_big h2]
      by_cases h3 : n / 128 / 128 < 128
      · rw [wlen_lt h3]; simp
      · rw [wlen_big h3, wlen_lt (by (first | lia | omega))]; simp
theorem nbf {b : Bool} (h : b = true) : (!b) = false := by rw [h]; rfl
section
variable {H : HSpec} {i : Nat} {K : D → Prop} {X : Prop}
theorem write_length_at (hi : 0 < i) {z : Int} {n : Nat} (hz : z = (n : Nat)) (hn : n ≤ 268435455) (hk : K (.bytes (wlen n))) : PhiUp globD H 100 parF bodF i 0 [.v (.int z)] K X := by
  subst hz; exact write_length_ok hi hn hk
noncomputable def rlRest : List S := [(.asg 4 (.bin .Add (.var 4) (.bin .Mult (.bin .BitAnd (.var 9) (.int 127)) (.bin .LShift (.int 1) (.var 5))))), (.ifs (.cmp .Eq (.bin .BitAnd (.var 9) (.int 128)) (.int 0)) [(.ifs (.cmp .NotEq (.len (.call 0 [(.var 4)])) (.bin .Add (.var 6) (.int 1))) [.raise] []), (.ret (.tup [(.var 4), (.bin .Add (.bin .Add (.var 7) (.var 6)) (.int 1))]))] []), (.asg 5 (.bin .Add (.var 5) (.int 7))), (.asg 6 (.bin .Add (.var 6) (.int 1)))]
theorem rl_sum (v b j : Nat) : (v : Int) + ((b &&& 127 : Nat) : Int) * ((1 * 2 ^ (7 * j) : Nat) : Int) = ((v + b % 128 * 128 ^ j : Nat) : Int) := by
  rw [and127, Nat.one_mul, Nat.pow_mul]; rfl
theorem rl_turn {data : List Nat} {at_ v j b n : Nat} {w : Loc → Prop} (hj : j ≤ 3) (hn : n ≤ 268435455) (hk : K (.tuple [.int (n : Nat), .int ((at_ + (wlen n).length : Nat))])) (lo : b < 128 → n = v + b * 128 ^ j ∧ (wlen n).length = j + 1) (hb2 : ¬ b < 128 → b &&& 128 = 128)
    (hi : ¬ b < 128 → w [(8, .v (.bytes data)), (7, .v (.int (at_ : Nat))), (4, .v (.int ((v + b % 128 * 128 ^ j : Nat)))), (5, .v (.int ((7 * (j + 1) : Nat)))), (6, .v (.int ((j + 1 : Nat)))), (9, .v (.int (b : Nat)))]) :
    xSs (PhiUp globD H 100 parF bodF 1) globD H 93 rlRest [(8, .v (.bytes data)), (7, .v (.int (at_ : Nat))), (4, .v (.int (v : Nat))), (5, .v (.int ((7 * j : Nat)))), (6, .v (.int (j : Nat))), (9, .v (.int (b : Nat)))] w (fun d _ => K d) (fun _ => X) := by
  refine opt_of (a := .int ((1 * 2 ^ (7 * j) : Nat))) (by show gd (small ((1 : Nat) : Int) && Nat.ble (7 * j) 64) _ = _; rw [Nat.ble_eq_true_of_le (by (first | lia | omega))]; rfl) ?_
  have hs : small ((b &&& 127 : Nat) : Int) = true := Nat.ble_eq_true_of_le (by rw [Int.natAbs_natCast, and127]; (first | lia | omega))
  refine opt_of (a := .int (((b &&& 127 : Nat) : Int) * ((1 * 2 ^ (7 * j) : Nat) : Int))) (by show gd (small _ || small _) _ = _; rw [hs, Bool.or_true]; rfl) ?_
  refine opt_of (a := .int ((v + b % 128 * 128 ^ j : Nat))) (congrArg (fun z => some (D.int z)) (rl_sum v b j)) ?_
  by_cases hb : b < 128
  · obtain ⟨e1, e2⟩ := lo hb
    refine br_t (decide_eq_true (by show (((b &&& 128 : Nat) : Int) = 0); rw [and128_lo hb]; rfl)) ?_
    have e3 : v + b % 128 * 128 ^ j = n := by rw [e1, Nat.mod_eq_of_lt hb]
    refine write_length_at (by decide) (congrArg (fun n : Nat => (n : Int)) e3) hn ?_
    refine br_f (nbf (decide_eq_true (by rw [e2]; rfl))) ?_
    rw [e2] at hk
    exact (show K (.tuple [.int ((v + b % 128 * 128 ^ j : Nat) : Int), .int ((at_ + (j + 1) : Nat))]) by rw [e3]; exact hk)
  · refine br_f (decide_eq_false (by show ¬ (((b &&& 128 : Nat) : Int) = 0); rw [hb2 hb]; decide)) ?_
    exact hi hb
theorem read_length_ok (hi : 1 < i) {data : List Nat} {at_ n : Nat} {more : List Nat} (hn : n ≤ 268435455) (hd : data.drop at_ = wlen n ++ more) (hk : K (.tuple [.int (n : Nat), .int ((at_ + (wlen n).length : Nat))])) : PhiUp globD H 100 parF bodF i 1 [.v (.bytes data), .v (.int (at_ : Nat))] K X := by
  rw [phi_lt hi]
  refine ⟨rfl, ?_⟩
  refine wl_of (P := fun k σ => ∃ j m v, j + k = 4 ∧ n = v + m * 128 ^ j ∧ (wlen n).length = j + (wlen m).length ∧ data.drop (at_ + j) = wlen m ++ more ∧ (σ = [(8, .v (.bytes data)), (7, .v (.int (at_ : Nat))), (4, .v (.int (v : Nat))), (5, .v (.int ((7 * j : Nat)))), (6, .v (.int (j : Nat)))] ∨
    ∃ d, σ = [(8, .v (.bytes data)), (7, .v (.int (at_ : Nat))), (4, .v (.int (v : Nat))), (5, .v (.int ((7 * j : Nat)))), (6, .v (.int (j : Nat))), (9, .v d)])) (fun k σ w hP hw => ?_) (n := 4) ⟨0, n, 0, rfl, by rw [Nat.pow_zero, Nat.mul_one, Nat.zero_add], (Nat.zero_add _).symm, hd, .inl rfl⟩
  refine ex3 hP fun j m v hP2 => ?_
  clear hP
  refine ad5 hP2 fun hj h1 h2 h3 hσ => ?_
  clear hP2
  have hl4 := wlen_len n hn
  have hpos : 0 < (wlen m).length := by rw [wlen_eq]; split <;> exact Nat.succ_pos _
  have hj3 : j ≤ 3 := by (first | lia | omega)
  obtain ⟨b, tl, hb⟩ : ∃ b tl, wlen m = b :: tl := by
    cases q : wlen m with
    | nil => rw [q] at hpos; cases hpos
    | cons b tl => exact ⟨b, tl, rfl⟩
  have hg : data[at_ + j]? = some b := by
    have : (data.drop (at_ + j))[0]? = some b := by rw [h3, hb]; rfl
    rwa [List.getElem?_drop] at this
  have hlt : at_ + j < data.length := (List.getElem?_eq_some_iff.mp hg).1
  have key : (b < 128 → n = v + b * 128 ^ j ∧ (wlen n).length = j + 1) ∧ (¬ b < 128 → b &&& 128 = 128 ∧ n = (v + b % 128 * 128 ^ j) + m / 128 * 128 ^ (j + 1) ∧ (wlen n).length = j + 1 + (wlen (m / 128)).length ∧ data.drop (at_ + (j + 1)) = wlen (m / 128) ++ more) := by
    by_cases hm : m < 128
    · rw [wlen_lt hm] at hb h2
      cases hb
      rw [Nat.mod_eq_of_lt hm]
      exact ⟨fun _ => ⟨h1, h2⟩, fun q => absurd hm q⟩
    · rw [wlen_big hm] at hb h2
      cases hb
      have hmod : m % 128 < 128 := Nat.mod_lt _ (by decide)
      refine ⟨fun q => absurd (Nat.le_add_left 128 (m % 128)) (Nat.not_le.mpr q), fun _ => ⟨and128_hi hmod, ?_, by rw [h2, List.length_cons]; (first | lia | omega), ?_⟩⟩
      · have e : m * 128 ^ j = m % 128 * 128 ^ j + m / 128 * 128 ^ (j + 1) := by
          rw [Nat.pow_succ, Nat.mul_comm (128 ^ j) 128, ← Nat.mul_assoc, ← Nat.add_mul, Nat.mul_comm (m / 128) 128, Nat.mod_add_div]
        rw [Nat.add_mod_right, Nat.mod_eq_of_lt hmod, Nat.add_assoc, ← e]; exact h1
      · rw [← Nat.add_assoc, ← List.drop_drop, h3, wlen_big hm]; rfl
  have turn : xSs (PhiUp globD H 100 parF bodF 1) globD H 93 rlRest [(8, .v (.bytes data)), (7, .v (.int (at_ : Nat))), (4, .v (.int (v : Nat))), (5, .v (.int ((7 * j : Nat)))), (6, .v (.int (j : Nat))), (9, .v (.int (b : Nat)))] w (fun d _ => K d) (fun _ => X) :=
    rl_turn hj3 hn hk key.1 (fun q => (key.2 q).1) fun q => hw (k - 1) _ (by (first | lia | omega)) ⟨j + 1, m / 128, _, by (first | lia | omega), (key.2 q).2.1, (key.2 q).2.2.1, (key.2 q).2.2.2, .inr ⟨_, rfl⟩⟩
  have t4 : decide ((j : Int) < 4) = true := decide_eq_true (by (first | lia | omega))
  have t5 : decide ((at_ : Int) + (j : Int) ≥ (data.length : Int)) = false := decide_eq_false (by (first | lia | omega))
  rcases hσ with rfl | ⟨d, rfl⟩
  · refine br_t t4 (br_f t5 ?_)
    exact opt_of (a := .int (b : Nat)) (by show (data[at_ + j]?).map _ = _; rw [hg]; rfl) turn
  · refine br_t t4 (br_f t5 ?_)
    exact opt_of (a := .int (b : Nat)) (by show (data[at_ + j]?).map _ = _; rw [hg]; rfl) turn
end
end Mine
set_option Elab.async false
set_option maxRecDepth 100000
namespace Mine
set_option tactic.hygienic false
noncomputable def strL (t : List Nat) : List Nat := [t.length / 256, t.length % 256] ++ t
noncomputable def idL (n : Nat) : List Nat := [n / 256, n % 256]
noncomputable def b2n (b : Bool) : Nat := if b then 1 else 0
noncomputable def frameL (first : Nat) (rest : List Nat) : List Nat := ([first] ++ wlen rest.length) ++ rest
noncomputable def pubRest (q : Nat) (topic : List Nat) (ident : Int) (body : List Nat) : List Nat := strL topic ++ ((if q = 0 then [] else idL ident.toNat) ++ body)
noncomputable def pubOk (dup : Bool) (q : Nat) (topic : List Nat) (ident : Int) : Bool := topicB topic && (if q = 0 then !dup && decide (ident = 0) else decide (1 ≤ ident ∧ ident ≤ 65535))
noncomputable def pubW (dup : Bool) (q : Nat) (retain : Bool) (topic : List Nat) (ident : Int) (body : List Nat) : Option (List Nat) :=
  if pubOk dup q topic ident then some (frameL (48 + 2 * q + 8 * b2n dup + b2n retain) (pubRest q topic ident body)) else none
noncomputable def wOut (o : Option (List Nat)) (K : D → Prop) (X : Prop) : Prop := match o with
  | some b => K (.bytes b)
  | none => X
section
variable {H : HSpec} {i : Nat} {K : D → Prop} {X : Prop}
theorem is_qos_ok (hi : 17 < i) {q : Int} (hk : K (.bool (decide (q = 0 ∨ q = 1 ∨ q = 2)))) : PhiUp globD H 100 parF bodF i 17 [.v (.int q)] K X := by
  rw [phi_lt hi]
  refine ⟨rfl, ?_⟩
  refine br_of (fun h => ?_) (fun h => ?_)
  · have h1 := of_decide_eq_true h
    show K (.bool (decide (q = 0)))
    rw [h]; rwa [decide_eq_true (.inl h1)] at hk
  · have h1 := of_decide_eq_false h
    refine br_of (fun h' => ?_) (fun h' => ?_)
    · have h2 := of_decide_eq_true h'
      show K (.bool (decide (q = 1)))
      rw [h']; rwa [decide_eq_true (.inr (.inl h2))] at hk
    · have h2 := of_decide_eq_false h'
      show K (.bool (decide (q = 2)))
      have : decide (q = 0 ∨ q = 1 ∨ q = 2) = decide (q = 2) := by
        by_cases h3 : q = 2
        · rw [decide_eq_true (.inr (.inr h3)), decide_eq_true h3]
        · rw [decide_eq_false (fun z => z.elim h1 fun z => z.elim h2 h3), decide_eq_false h3]
      rwa [this] at hk
theorem is_code_ok (hi : 18 < i) {q : Int} (hk : K (.bool (decide (q = 0 ∨ q = 1 ∨ q = 2 ∨ q = 128)))) : PhiUp globD H 100 parF bodF i 18 [.v (.int q)] K X := by
  rw [phi_lt hi]
  refine ⟨rfl, ?_⟩
  refine br_of (fun h => ?_) (fun h => ?_)
  · have h1 := of_decide_eq_true h
    show K (.bool (decide (q = 0)))
    rw [h]; rwa [decide_eq_true (.inl h1)] at hk
  · have h1 := of_decide_eq_false h
    refine br_of (fun h' => ?_) (fun h' => ?_)
    · have h2 := of_decide_eq_true h'
      show K (.bool (decide (q = 1)))
      rw [h']; rwa [decide_eq_true (.inr (.inl h2))] at hk
    · have h2 := of_decide_eq_false h'
      refine br_of (fun h'' => ?_) (fun h'' => ?_)
      · have h3 := of_decide_eq_true h''
        show K (.bool (decide (q = 2)))
        rw [h'']; rwa [decide_eq_true (.inr (.inr (.inl h3)))] at hk
      · have h3 := of_decide_eq_false h''
        show K (.bool (decide (q = 128)))
        have : decide (q = 0 ∨ q = 1 ∨ q = 2 ∨ q = 128) = decide (q = 128) := by
          by_cases h4 : q = 128
          · rw [decide_eq_true (.inr (.inr (.inr h4))), decide_eq_true h4]
          · rw [decide_eq_false (fun z => z.elim h1 fun z => z.elim h2 fun z => z.elim h3 h4), decide_eq_false h4]
        rwa [this] at hk
theorem read_two_ok (hi : 21 < i) {data : List Nat} {a e x y : Nat} (he : a + 2 ≤ e) (hx : data[a]? = some x) (hy : data[a + 1]? = some y) (hz : x < 256) (hk : K (.tuple [.int ((x * 256 + y : Nat)), .int ((a + 2 : Nat))])) :
    PhiUp globD H 100 parF bodF i 21 [.v (.bytes data), .v (.int (a : Nat)), .v (.int (e : Nat))] K X := by
  rw [phi_lt hi]
  refine ⟨rfl, ?_⟩
  refine need_ok (by decide) (b := true) (by show some (decide _) = _; rw [decide_eq_true (by (first | lia | omega))]) ?_
  refine opt_of (a := .int (x : Nat)) (by show (data[a]?).map _ = _; rw [hx]; rfl) ?_
  refine opt_of (a := .int (y : Nat)) (by show (data[a + 1]?).map _ = _; rw [hy]; rfl) ?_
  exact hk
theorem read_two_no (hi : 21 < i) {data : List Nat} {a e : Nat} (he : ¬ a + 2 ≤ e) (hX : X) :
    PhiUp globD H 100 parF bodF i 21 [.v (.bytes data), .v (.int (a : Nat)), .v (.int (e : Nat))] K X := by
  rw [phi_lt hi]
  refine ⟨rfl, ?_⟩
  refine need_ok (by decide) (b := false) (by show some (decide _) = _; rw [decide_eq_false (by (first | lia | omega))]) ?_
  exact hX
end
end Mine
set_option Elab.async false
set_option maxRecDepth 100000
namespace Mine
set_option tactic.hygienic false
theorem strL_len (t : List Nat) : (strL t).length = t.length + 2 := by simp [strL]
theorem get_of_drop {data u : List Nat} {a : Nat} (h : data.drop a = u) (j : Nat) : data[a + j]? = u[j]? := by rw [← h, List.getElem?_drop]
theorem gs_eq : ∀ (ρ : Loc) (x : Nat) (l : LV), (ρ.set x l).get x = some l
  | [], x, l => by simp [Loc.set, Loc.get, Nat.beq_refl]
  | (y, l') :: r, x, l => by
    simp only [Loc.set]
    split
    · rename_i h; simp only [Loc.get, h]
    · rename_i h; simp only [Loc.get, h]; exact gs_eq r x l
theorem gs_ne : ∀ (ρ : Loc) {x z : Nat} (l : LV), Nat.beq x z = false → (ρ.set x l).get z = ρ.get z
  | [], x, z, l, h => by simp only [Loc.set, Loc.get, h]
  | (y, l') :: r, x, z, l, h => by
    simp only [Loc.set]
    split
    · rename_i h'
      cases Nat.eq_of_beq_eq_true h'
      simp only [Loc.get, h]
    · simp only [Loc.get]
      split
      · rfl
      · exact gs_ne r l h
noncomputable def tailS : List S := [(.frz 34), (.asg 2 (.join [] (.var 34))), (.ret (.bin .Add (.bin .Add (.bytesOf (.lst [(.var 18)])) (.call 0 [(.len (.var 2))])) (.var 2)))]
section
variable {H : HSpec} {i : Nat} {K : D → Prop} {X : Prop}
theorem read_string_ok (hi : 22 < i) {data t more : List Nat} {a e : Nat} (ht : t.length < 65536) (hd : data.drop a = strL t ++ more) (he : a + 2 + t.length ≤ e) (hk : K (.tuple [.bytes t, .int ((a + 2 + t.length : Nat))])) :
    PhiUp globD H 100 parF bodF i 22 [.v (.bytes data), .v (.int (a : Nat)), .v (.int (e : Nat))] K X := by
  rw [phi_lt hi]
  refine ⟨rfl, ?_⟩
  have g0 : data[a]? = some (t.length / 256) := by have := get_of_drop hd 0; simpa [strL] using this
  have g1 : data[a + 1]? = some (t.length % 256) := by have := get_of_drop hd 1; simpa [strL] using this
  refine read_two_ok (by decide) (by (first | lia | omega)) g0 g1 (by (first | lia | omega)) ?_
  have e1 : t.length / 256 * 256 + t.length % 256 = t.length := Nat.div_add_mod' _ _
  rw [e1]
  refine need_ok (by decide) (b := true) (by show some (decide _) = _; rw [decide_eq_true (by (first | lia | omega))]) ?_
  have hdl : data.length ≥ a + 2 + t.length := by
    have := congrArg List.length hd
    rw [List.length_drop, List.length_append, strL_len] at this
    (first | lia | omega)
  have cut : cutL data (some ((a + 2 : Nat) : Int)) (some ((a + 2 + t.length : Nat) : Int)) = t := by
    rw [cutL_nat (by (first | lia | omega)) (by (first | lia | omega))]
    have : data = data.take a ++ (strL t ++ more) := by rw [← hd, List.take_append_drop]
    rw [List.drop_take, ← List.drop_drop, hd]
    simp [strL]
  have ev : ∀ {u : List Nat}, u = t → K (.tuple [.bytes u, .int ((a + 2 + t.length : Nat))]) := fun q => by rw [q]; exact hk
  exact ev cut
theorem s_frz {Φ : Phi} {G : Nat → D} {n x : Nat} {ρ : Loc} {ds : List D} {KK XX : Loc → Prop} {R : D → Loc → Prop} (h : ρ.get x = some (.own ds)) (k : KK (ρ.set x (.v (.list ds)))) : xS Φ G H (n + 1) (.frz x) ρ KK R XX := by
  show (match ρ.get x with | some (.own ds) => KK (ρ.set x (.v (.list ds))) | _ => False)
  rw [h]; exact k
theorem e_var {Φ : Phi} {G : Nat → D} {n x : Nat} {ρ : Loc} {d : D} (h : ρ.get x = some (.v d)) (k : K d) : xE Φ G (n + 1) (.var x) ρ K X := by
  show (match ρ.get x with | some (.v d) => K d | _ => False)
  rw [h]; exact k
theorem e_var_eq {Φ : Phi} {G : Nat → D} {n x : Nat} {ρ : Loc} {d : D} (h : ρ.get x = some (.v d)) : xE Φ G (n + 1) (.var x) ρ K X = K d := by
  show (match ρ.get x with | some (.v d) => K d | _ => False) = _
  rw [h]
theorem a_var {Φ : Phi} {G : Nat → D} {n x : Nat} {ρ : Loc} {d : D} {KK : LV → Prop} (h : ρ.get x = some (.v d)) (k : KK (.v d)) : xA Φ G (n + 1) (.var x) ρ KK X := by
  show (match ρ.get x with | some (.v d) => KK (.v d) | some (.own ds) => KK (.brw ds) | some (.brw ds) => KK (.brw ds) | _ => False)
  rw [h]; exact k
theorem e_fr {Φ : Phi} {G : Nat → D} {n : Nat} {ρ : Loc} (h : xE Φ G (n + 1) (.var 18) ρ (fun a => opt ((D.list [a]).bytesOf) fun a => xE Φ G (n + 4) (.call 0 [.len (.var 2)]) ρ (fun b => opt (binop .Add a b) fun a => xE Φ G (n + 5) (.var 2) ρ (fun b => opt (binop .Add a b) K) X) X) X) :
    xE Φ G (n + 6) (.bin .Add (.bin .Add (.bytesOf (.lst [.var 18])) (.call 0 [.len (.var 2)])) (.var 2)) ρ K X := h
theorem e_wl {Φ : Phi} {G : Nat → D} {n : Nat} {ρ : Loc} (h : xE Φ G (n + 1) (.var 2) ρ (fun a => opt a.len fun d => Φ 0 [.v d] K X) X) : xE Φ G (n + 5) (.call 0 [.len (.var 2)]) ρ K X := h
theorem frame_xE {n : Nat} {ρ : Loc} {first : Nat} {R : List Nat} (hi : 0 < i) (h18 : ρ.get 18 = some (.v (.int (first : Nat)))) (h2 : ρ.get 2 = some (.v (.bytes R))) (hf : first < 256) (hR : R.length ≤ 1000000) (hk : K (.bytes (frameL first R))) :
    xE (PhiUp globD H 100 parF bodF i) globD (n + 8) (.bin .Add (.bin .Add (.bytesOf (.lst [.var 18])) (.call 0 [.len (.var 2)])) (.var 2)) ρ K X := by
  refine e_fr (n := n + 2) (e_var (n := n + 2) h18 (opt_of (bytesOf_one hf) (e_wl (n := n + 1) (e_var (n := n + 1) h2 ?_))))
  refine write_length_ok hi (n := R.length) (by (first | lia | omega)) ?_
  have hl := wlen_len R.length (by (first | lia | omega))
  refine opt_of (a := .bytes ([first] ++ wlen R.length)) (by
    show gd (fits ([first].length + (wlen R.length).length)) _ = _
    rw [fits_of (by simp; (first | lia | omega))]; rfl) ?_
  refine e_var (n := n + 6) h2 ?_
  refine opt_of (a := .bytes (([first] ++ wlen R.length) ++ R)) (by
    show gd (fits (([first] ++ wlen R.length).length + R.length)) _ = _
    rw [fits_of (by simp; (first | lia | omega))]; rfl) ?_
  exact hk
theorem ss_cons {Φ : Phi} {G : Nat → D} {n : Nat} {s : S} {r : List S} {ρ : Loc} {KK XX : Loc → Prop} {R : D → Loc → Prop} (h : xS Φ G H n s ρ (fun σ => xSs Φ G H n r σ KK R XX) R XX) : xSs Φ G H (n + 1) (s :: r) ρ KK R XX := h
theorem s_asgj {Φ : Phi} {G : Nat → D} {n x : Nat} {e : E} {sep : List Nat} {ρ : Loc} {KK XX : Loc → Prop} {R : D → Loc → Prop} (h : xE Φ G n e ρ (fun a => opt (a.join sep) fun d => KK (ρ.set x (.v d))) (XX ρ)) : xS Φ G H (n + 2) (.asg x (.join sep e)) ρ KK R XX := h
theorem s_ret {Φ : Phi} {G : Nat → D} {n : Nat} {e : E} {ρ : Loc} {KK XX : Loc → Prop} {R : D → Loc → Prop} (h : xE Φ G n e ρ (fun d => R d ρ) (XX ρ)) : xS Φ G H (n + 1) (.ret e) ρ KK R XX := h
theorem wtail_ok {n : Nat} {ρ : Loc} {ps : List D} {first : Nat} {R : List Nat} {z : Int} {KK XX : Loc → Prop} (hi : 0 < i) (h34 : ρ.get 34 = some (.own ps)) (h18 : ρ.get 18 = some (.v (.int z))) (hz : z = (first : Nat)) (hj : joinL [] ps = some R) (hf : first < 256) (hR : R.length ≤ 1000000) (hk : K (.bytes (frameL first R))) :
    xSs (PhiUp globD H 100 parF bodF i) globD H (n + 20) tailS ρ KK (fun d _ => K d) XX := by
  refine ss_cons (n := n + 19) (s_frz (n := n + 18) h34 ?_)
  refine ss_cons (n := n + 18) (s_asgj (n := n + 16) ?_)
  refine e_var (n := n + 15) (gs_eq ..) ?_
  refine opt_of (a := .bytes R) (by
    show (match joinL [] ps with | some b => gd (fits b.length) (D.bytes b) | .none => .none) = _
    rw [hj]; show gd (fits R.length) _ = _; rw [fits_of (by (first | lia | omega))]; rfl) ?_
  refine ss_cons (n := n + 17) (s_ret (n := n + 16) ?_)
  refine frame_xE (n := n + 8) hi ?_ (gs_eq ..) hf hR hk
  rw [gs_ne _ _ rfl, gs_ne _ _ rfl]; rw [h18, hz]
theorem pub_tail {dup retain : Bool} {q : Nat} (hq : q < 3) {topic body : List Nat} {ident z : Int} {first : Nat} (hz : z = (first : Nat)) (hf : first < 256) (hb : body.length ≤ 100000) (hlen : topic.length < 65536) (hk : wOut (if q = 0 ∨ (1 ≤ ident ∧ ident ≤ 65535) then some (frameL first (pubRest q topic ident body)) else none) K X) :
    xSs (PhiUp globD H 100 parF bodF 19) globD H 89 ((bodF 19).drop 11) [(30, .v (.tuple [.str 6, .bool dup, .int (q : Nat), .bool retain, .bytes topic, .int ident, .bytes body])), (31, .v (.bool dup)), (28, .v (.int (q : Nat))), (32, .v (.bool retain)), (20, .v (.bytes topic)), (27, .v (.int ident)), (33, .v (.bytes body)), (18, .v (.int z))] (fun _ => K .none) (fun d _ => K d) (fun _ => X) := by
  have hsl : (strL topic).length = topic.length + 2 := strL_len topic
  refine string_ok (by decide) hlen ?_
  have hq3 : q = 0 ∨ q = 1 ∨ q = 2 := c3 _ (by assumption)
  rcases hq3 with rfl | rfl | rfl
  · rw [if_pos (.inl rfl)] at hk
    replace hk : K (.bytes (frameL first (pubRest 0 topic ident body))) := hk
    refine And.intro rfl ?_
    refine wtail_ok (n := 66) (ps := [.bytes (strL topic), .bytes body]) (by decide) rfl rfl hz (R := pubRest 0 topic ident body) ?_ hf (by simp [pubRest, hsl]; (first | lia | omega)) hk
    show some (strL topic ++ [] ++ body) = _
    simp [pubRest]
  all_goals
    refine id_ok (by decide) ?_
    refine br_of (fun h' => ?_) (fun h' => ?_)
    · rw [if_pos (.inr (of_decide_eq_true h'))] at hk
      refine And.intro rfl ?_
      refine And.intro rfl ?_
      refine wtail_ok (n := 66) (ps := [.bytes (strL topic), .bytes (idL ident.toNat), .bytes body]) (by decide) rfl rfl hz ?_ hf ?_ hk
      · show some (strL topic ++ [] ++ (idL ident.toNat ++ [] ++ body)) = _
        simp [pubRest]
      · simp [pubRest, hsl, idL]; (first | lia | omega)
    · rw [if_neg (fun q => by rcases q with q | q; exact absurd q (by decide); exact of_decide_eq_false h' q)] at hk
      exact hk
set_option maxHeartbeats 1000000 in
theorem write_publish_ok (hi : 19 < i) {dup retain : Bool} {q : Nat} (hq : q < 3) {topic body : List Nat} {ident : Int} (hb : body.length ≤ 100000) (hk : wOut (pubW dup q retain topic ident body) K X) :
    PhiUp globD H 100 parF bodF i 19 [.v (.tuple [.str 6, .bool dup, .int (q : Nat), .bool retain, .bytes topic, .int ident, .bytes body])] K X := by
  rw [phi_lt hi]
  refine ⟨rfl, ?_⟩
  refine need_ok (by decide) (b := true) rfl ?_
  refine is_topic_ok (by decide) topic ?_
  refine br_of (fun h => ?_) (fun h => ?_)
  rotate_left
  · refine need_ok (by decide) (b := false) (by show some (topicB topic) = _; rw [h]) ?_
    have : pubW dup q retain topic ident body = none := by unfold pubW pubOk; rw [h]; rfl
    rw [this] at hk; exact hk
  have hlen : topic.length < 65536 := by
    unfold topicB stringB at h
    simp only [Bool.and_eq_true, decide_eq_true_eq] at h
    (first | lia | omega)
  refine is_qos_ok (by decide) ?_
  refine br_t (decide_eq_true (by (first | lia | omega))) ?_
  have hq3 : q = 0 ∨ q = 1 ∨ q = 2 := c3 _ (by assumption)
  rcases hq3 with rfl | rfl | rfl
  · cases dup with
    | true =>
      refine need_ok (by decide) (b := false) rfl ?_
      have : pubW true 0 retain topic ident body = none := by unfold pubW pubOk; rw [h]; rfl
      rw [this] at hk; exact hk
    | false =>
      by_cases hid : ident = 0
      · subst hid
        refine need_ok (by decide) (b := true) rfl ?_
        have e : pubW false 0 retain topic 0 body = some (frameL (48 + 2 * 0 + 8 * b2n false + b2n retain) (pubRest 0 topic 0 body)) := by unfold pubW pubOk; rw [h]; rfl
        rw [e] at hk
        cases retain
        all_goals exact pub_tail hq rfl (by decide) hb hlen (by rw [if_pos (.inl rfl)]; exact hk)
      · refine need_ok (by decide) (b := false) (by show some (!decide (ident ≠ 0)) = _; rw [decide_eq_true hid]; rfl) ?_
        have : pubW false 0 retain topic ident body = none := by unfold pubW pubOk; rw [h, if_pos rfl, decide_eq_false hid]; rfl
        rw [this] at hk; exact hk
  all_goals
    refine need_ok (by decide) (b := true) rfl ?_
    have e0 : ∀ q, q ≠ 0 → pubOk dup q topic ident = decide (1 ≤ ident ∧ ident ≤ 65535) := fun q hq => by unfold pubOk; rw [h, if_neg hq]; rfl
    have e1 : ∀ q (x : List Nat), q ≠ 0 → (if q = 0 ∨ (1 ≤ ident ∧ ident ≤ 65535) then some x else none) = (if decide (1 ≤ ident ∧ ident ≤ 65535) = true then some x else none) := fun q x hq => by
      by_cases hc : 1 ≤ ident ∧ ident ≤ 65535
      · rw [if_pos (.inr hc), if_pos (decide_eq_true hc)]
      · rw [if_neg (fun h => h.elim hq hc), if_neg (by simpa using hc)]
    unfold pubW at hk
    rw [e0 _ (by decide)] at hk
    cases dup <;> cases retain
    all_goals exact pub_tail hq rfl (by decide) hb hlen (by rw [e1 _ _ (by decide)]; exact hk)
end
end Mine
set_option Elab.async false
set_option maxRecDepth 100000
namespace Mine
set_option tactic.hygienic false
noncomputable def idOk (n : Int) : Bool := decide (1 ≤ n ∧ n ≤ 65535)
noncomputable def ackW (first : Nat) (n : Int) : Option (List Nat) := if idOk n then some (frameL first (idL n.toNat)) else none
noncomputable def subOk (p : List Nat × Nat) : Bool := filterB p.1 && decide (p.2 < 3)
noncomputable def subR : List (List Nat × Nat) → List Nat
  | [] => []
  | p :: r => strL p.1 ++ ([p.2] ++ subR r)
noncomputable def subW (n : Int) (items : List (List Nat × Nat)) : Option (List Nat) := if idOk n && (!items.isEmpty && items.all subOk) then some (frameL 130 (idL n.toNat ++ subR items)) else none
noncomputable def unsR : List (List Nat) → List Nat
  | [] => []
  | p :: r => strL p ++ unsR r
noncomputable def unsW (n : Int) (items : List (List Nat)) : Option (List Nat) := if idOk n && (!items.isEmpty && items.all filterB) then some (frameL 162 (idL n.toNat ++ unsR items)) else none
noncomputable def codeOk (c : Nat) : Bool := decide (c < 3 ∨ c = 128)
noncomputable def sbkW (n : Int) (cs : List Nat) : Option (List Nat) := if idOk n && (!cs.isEmpty && cs.all codeOk) then some (frameL 144 (idL n.toNat ++ cs)) else none
noncomputable def subD (items : List (List Nat × Nat)) : D := .list (items.map fun p => .tuple [.bytes p.1, .int (p.2 : Nat)])
noncomputable def intsD (cs : List Nat) : D := .list (cs.map fun (c : Nat) => .int c)
noncomputable def bytsD (cs : List (List Nat)) : D := .list (cs.map .bytes)
theorem wOut_some {b : List Nat} {K : D → Prop} {X : Prop} (h : wOut (some b) K X) : K (.bytes b) := h
theorem wOut_none {K : D → Prop} {X : Prop} (h : wOut none K X) : X := h
noncomputable def fr20 : List S := b_write_packet.take 9
theorem ss_app {Φ : Phi} {G : Nat → D} {H : HSpec} {b : List S} {K X : Loc → Prop} {R : D → Loc → Prop} : ∀ {a : List S} {n : Nat} {ρ : Loc}, a.length < n → xSs Φ G H n (a ++ b) ρ K R X = xSs Φ G H n a ρ (fun σ => xSs Φ G H (n - a.length) b σ K R X) R X
  | [], n + 1, ρ, _ => rfl
  | s :: a, n + 1, ρ, hl => by
    have hl' : a.length < n := by simpa using hl
    have e : (fun σ => xSs Φ G H n (a ++ b) σ K R X) = (fun σ => xSs Φ G H n a σ (fun σ => xSs Φ G H (n - a.length) b σ K R X) R X) := funext fun σ => ss_app hl'
    have e2 : n + 1 - (s :: a).length = n - a.length := by simp
    rw [e2]
    show xS Φ G H n s ρ (fun σ => xSs Φ G H n (a ++ b) σ K R X) R X = xS Φ G H n s ρ (fun σ => xSs Φ G H n a σ (fun σ => xSs Φ G H (n - a.length) b σ K R X) R X) R X
    rw [e]
section
variable {H : HSpec} {i : Nat} {K : D → Prop} {X : Prop}
theorem is_bare_ok (hi : 12 < i) {k : Nat} (hk : K (.bool (Nat.beq k 0 || (Nat.beq k 1 || Nat.beq k 2)))) : PhiUp globD H 100 parF bodF i 12 [.v (.str k)] K X := by
  rw [phi_lt hi]
  refine ⟨rfl, ?_⟩
  refine br_of (fun h => ?_) (fun h => ?_)
  · rw [h] at hk; show K (.bool (Nat.beq k 0)); rw [h]; exact hk
  · rw [h] at hk
    refine br_of (fun h => ?_) (fun h => ?_)
    · rw [h] at hk; show K (.bool (Nat.beq k 1)); rw [h]; exact hk
    · rw [h] at hk; exact hk
theorem has_list_ok (hi : 13 < i) {k : Nat} (hk : K (.bool (Nat.beq k 3 || (Nat.beq k 4 || Nat.beq k 5)))) : PhiUp globD H 100 parF bodF i 13 [.v (.str k)] K X := by
  rw [phi_lt hi]
  refine ⟨rfl, ?_⟩
  refine br_of (fun h => ?_) (fun h => ?_)
  · rw [h] at hk; show K (.bool (Nat.beq k 3)); rw [h]; exact hk
  · rw [h] at hk
    refine br_of (fun h => ?_) (fun h => ?_)
    · rw [h] at hk; show K (.bool (Nat.beq k 4)); rw [h]; exact hk
    · rw [h] at hk; exact hk
theorem write_pub (hi : 20 < i) {dup retain : Bool} {q : Nat} (hq : q < 3) {topic body : List Nat} {ident : Int} (hb : body.length ≤ 100000) (hk : wOut (pubW dup q retain topic ident body) K X) :
    PhiUp globD H 100 parF bodF i 20 [.v (.tuple [.str 6, .bool dup, .int (q : Nat), .bool retain, .bytes topic, .int ident, .bytes body])] K X := by
  rw [phi_lt hi]
  refine ⟨rfl, ?_⟩
  refine need_ok (by decide) (b := true) rfl ?_
  exact write_publish_ok (by decide) hq hb hk
theorem write_split (hi : 20 < i) {pk : D} (h : ∀ P : Loc → Prop, (∀ (ρ : Loc) (ps : List D) (z : Int) (first : Nat) (R : List Nat), ρ.get 34 = some (.own ps) → ρ.get 18 = some (.v (.int z)) → z = (first : Nat) → joinL [] ps = some R → first < 256 → R.length ≤ 1000000 → K (.bytes (frameL first R)) → P ρ) → xSs (PhiUp globD H 100 parF bodF 20) globD H 100 fr20 [(30, .v pk)] P (fun d _ => K d) (fun _ => X)) :
    PhiUp globD H 100 parF bodF i 20 [.v pk] K X := by
  rw [phi_lt hi]
  refine ⟨rfl, ?_⟩
  show xSs _ globD H 100 (fr20 ++ tailS) _ _ _ _
  rw [ss_app (by decide)]
  exact h _ fun ρ ps z first R h1 h2 h3 h4 h5 h6 h7 => wtail_ok (n := 71) (by decide) h1 h2 h3 h4 h5 h6 h7
noncomputable abbrev AckK (k first : Nat) : Prop := (k = 9 ∧ first = 64) ∨ (k = 10 ∧ first = 80) ∨ (k = 8 ∧ first = 98) ∨ (k = 11 ∧ first = 112) ∨ (k = 12 ∧ first = 176)
theorem ack_k {k first : Nat} (hm : AckK k first) : (Nat.beq k 0 || (Nat.beq k 1 || Nat.beq k 2)) = false ∧ (Nat.beq k 3 || (Nat.beq k 4 || Nat.beq k 5)) = false ∧ Nat.beq k 3 = false ∧ Nat.beq k 4 = false ∧ Nat.beq k 5 = false ∧ Nat.beq k 6 = false ∧ first < 256 := by
  rcases hm with ⟨rfl, rfl⟩ | ⟨rfl, rfl⟩ | ⟨rfl, rfl⟩ | ⟨rfl, rfl⟩ | ⟨rfl, rfl⟩ <;> decide
theorem first_of_ack (hi : 10 < i) {k first : Nat} (hm : AckK k first) (hk : K (.int (first : Nat))) : PhiUp globD H 100 parF bodF i 10 [.v (.str k)] K X :=
  first_of_ok hi (by rcases hm with ⟨rfl, rfl⟩ | ⟨rfl, rfl⟩ | ⟨rfl, rfl⟩ | ⟨rfl, rfl⟩ | ⟨rfl, rfl⟩ <;> exact hk)
theorem write_ack (hi : 20 < i) {k first : Nat} (hm : AckK k first) {n : Int} (hk : wOut (ackW first n) K X) :
    PhiUp globD H 100 parF bodF i 20 [.v (.tuple [.str k, .int n])] K X := by
  have z := ack_k hm
  refine write_split hi fun P hP => ?_
  refine need_ok (by decide) (b := true) rfl ?_
  refine br_t rfl (br_f z.2.2.2.2.2.1 ?_)
  refine first_of_ack (by decide) hm ?_
  refine need_ok (by decide) (b := true) rfl ?_
  refine is_bare_ok (by decide) (br_f z.1 ?_)
  refine has_list_ok (by decide) (br_f z.2.1 ?_)
  refine need_ok (by decide) (b := true) rfl ?_
  refine id_ok (by decide) ?_
  refine br_of (fun h => ?_) (fun h => ?_)
  · refine And.intro rfl ?_
    have e : ackW first n = some (frameL first (idL n.toNat)) := if_pos h
    rw [e] at hk
    refine br_f z.2.2.1 (br_f z.2.2.2.2.1 (br_f z.2.2.2.1 ?_))
    exact hP _ [.bytes (idL n.toNat)] _ _ _ rfl rfl rfl rfl z.2.2.2.2.2.2 (Nat.le_of_ble_eq_true rfl) (wOut_some hk)
  · have e : ackW first n = none := if_neg (by show ¬ (decide _ = true); rw [h]; decide)
    rw [e] at hk
    exact hk
theorem write_bare (hi : 20 < i) {k first : Nat} (hm : (k = 0 ∧ first = 192) ∨ (k = 1 ∧ first = 208) ∨ (k = 2 ∧ first = 224)) (hk : K (.bytes (frameL first []))) :
    PhiUp globD H 100 parF bodF i 20 [.v (.tuple [.str k])] K X := by
  refine write_split hi fun P hP => ?_
  refine need_ok (by decide) (b := true) rfl ?_
  rcases hm with ⟨rfl, rfl⟩ | ⟨rfl, rfl⟩ | ⟨rfl, rfl⟩
  all_goals
    refine first_of_ok (by decide) ?_
    refine need_ok (by decide) (b := true) rfl ?_
    refine is_bare_ok (by decide) ?_
    refine need_ok (by decide) (b := true) rfl ?_
    exact hP _ [] _ _ _ rfl rfl rfl rfl (by decide) (by simp) hk
theorem jl : ∀ l : List (List Nat), joinL [] (l.map D.bytes) = some l.flatten
  | [] => rfl
  | [a] => congrArg some (List.append_nil a).symm
  | a :: b :: r => by
    have h := jl (b :: r)
    show (joinL [] ((b :: r).map D.bytes)).map (fun x => a ++ [] ++ x) = _
    rw [h, List.append_nil]; rfl
theorem unsR_eq : ∀ l : List (List Nat), unsR l = (l.map strL).flatten
  | [] => rfl
  | p :: r => by show strL p ++ unsR r = _; rw [unsR_eq r]; rfl
noncomputable def subP (l : List (List Nat × Nat)) : List (List Nat) := l.flatMap fun p => [strL p.1, [p.2]]
theorem subR_eq : ∀ l : List (List Nat × Nat), subR l = (subP l).flatten
  | [] => rfl
  | p :: r => by show strL p.1 ++ ([p.2] ++ subR r) = _; rw [subR_eq r]; rfl
theorem subP_snoc {l : List (List Nat × Nat)} {f : List Nat} {q : Nat} : subP (l ++ [(f, q)]) = subP l ++ [strL f] ++ [[q]] := by
  unfold subP; rw [List.flatMap_append, List.append_assoc]; rfl
theorem subP_len : ∀ l : List (List Nat × Nat), (subP l).length = 2 * l.length
  | [] => rfl
  | p :: r => by show (subP r).length + 1 + 1 = _; rw [subP_len r]; rfl
theorem unsR_le : ∀ {l : List (List Nat)}, (∀ p ∈ l, p.length ≤ 1000) → (unsR l).length ≤ 1002 * l.length
  | [], _ => Nat.le_refl _
  | p :: r, h => by
    have h1 := unsR_le fun q hq => h q (List.mem_cons_of_mem _ hq)
    have h2 := h p List.mem_cons_self
    show (strL p ++ unsR r).length ≤ 1002 * (r.length + 1)
    rw [List.length_append, strL_len]; (first | lia | omega)
theorem subR_le : ∀ {l : List (List Nat × Nat)}, (∀ p ∈ l, p.1.length ≤ 1000) → (subR l).length ≤ 1003 * l.length
  | [], _ => Nat.le_refl _
  | p :: r, h => by
    have h1 := subR_le fun q hq => h q (List.mem_cons_of_mem _ hq)
    have h2 := h p List.mem_cons_self
    show (strL p.1 ++ ([p.2] ++ subR r)).length ≤ 1003 * (r.length + 1)
    rw [List.length_append, strL_len, List.length_append, List.length_singleton]; (first | lia | omega)
theorem split_len {α : Type} {l a b : List α} {x : α} (e : l = a ++ x :: b) (h : l.length ≤ 2) : a.length ≤ 1 ∧ x ∈ l := by
  subst e
  rw [List.length_append, List.length_cons] at h
  exact ⟨by (first | lia | omega), List.mem_append_right _ (.head _)⟩
theorem all_snoc {α : Type} {p : α → Bool} {l : List α} {x : α} (h1 : l.all p = true) (h2 : p x = true) : (l ++ [x]).all p = true := by
  rw [List.all_append, h1, List.all_cons, h2]; rfl
theorem all_not {α : Type} {p : α → Bool} {l : List α} {x : α} (h1 : x ∈ l) (h2 : p x = false) : l.all p = false := List.all_eq_false.mpr ⟨x, h1, by rw [h2]; decide⟩
/-- the frame while the items are written -/
noncomputable abbrev wF (k first : Nat) (pk it : D) (ps : List (List Nat)) : Loc := [(30, .v pk), (26, .v (.str k)), (18, .v (.int (first : Nat))), (34, .own (ps.map D.bytes)), (35, .v it)]
theorem map_snoc {ps : List (List Nat)} {a : List Nat} : ps.map D.bytes ++ [D.bytes a] = (ps ++ [a]).map D.bytes := by rw [List.map_append]; rfl
noncomputable def unsB : List S := [(.expr (.call 9 [(.call 6 [(.var 19)])])), (.app 34 (.call 15 [(.var 19)]))]
noncomputable def subB : List S := [(.asgT [19, 28] (.var 36)), (.expr (.call 9 [(.and [(.call 6 [(.var 19)]), (.call 17 [(.var 28)])])])), (.app 34 (.call 15 [(.var 19)])), (.app 34 (.bytesOf (.lst [(.var 28)])))]
theorem uns_turn {pk it : D} {ps : List (List Nat)} {f : List Nat} {w : Loc → Prop} (hf : f.length ≤ 1000) (hp : ps.length ≤ 100) (next : filterB f = true → w (wF 5 162 pk it (ps ++ [strL f]) ++ [(19, .v (.bytes f))])) (stop : filterB f = false → X) :
    xSs (PhiUp globD H 100 parF bodF 20) globD H 84 unsB (wF 5 162 pk it ps ++ [(19, .v (.bytes f))]) w (fun d _ => K d) (fun _ => X) := by
  refine is_filter_ok (by decide) f (Nat.le_trans (Nat.succ_le_succ hf) (by decide)) ?_
  refine need_ok (by decide) (b := filterB f) rfl ?_
  refine br_of (fun h1 => ?_) stop
  refine string_ok (by decide) (Nat.lt_of_le_of_lt hf (by decide)) ?_
  refine And.intro (fits_of (by rw [List.length_map]; exact Nat.le_trans (Nat.succ_le_succ hp) (by decide))) ?_
  have e := next h1
  rw [wF, ← map_snoc] at e
  exact e
theorem sub_turn {pk it : D} {ps : List (List Nat)} {f : List Nat} {q : Nat} {w : Loc → Prop} {ex : Loc} (hex : ex = [] ∨ ∃ a b, ex = [(19, a), (28, b)]) (hf : f.length ≤ 1000) (hp : ps.length ≤ 100) (next : subOk (f, q) = true → w (wF 3 130 pk it (ps ++ [strL f] ++ [[q]]) ++ [(36, .v (.tuple [.bytes f, .int (q : Nat)])), (19, .v (.bytes f)), (28, .v (.int (q : Nat)))])) (stop : subOk (f, q) = false → X) :
    xSs (PhiUp globD H 100 parF bodF 20) globD H 86 subB (wF 3 130 pk it ps ++ ((36, .v (.tuple [.bytes f, .int (q : Nat)])) :: ex)) w (fun d _ => K d) (fun _ => X) := by
  have t : xSs (PhiUp globD H 100 parF bodF 20) globD H 85 (subB.drop 1) (wF 3 130 pk it ps ++ [(36, .v (.tuple [.bytes f, .int (q : Nat)])), (19, .v (.bytes f)), (28, .v (.int (q : Nat)))]) w (fun d _ => K d) (fun _ => X) := by
    refine is_filter_ok (by decide) f (Nat.le_trans (Nat.succ_le_succ hf) (by decide)) ?_
    refine br_of (fun h1 => ?_) (fun h1 => ?_)
    rotate_left
    · refine need_ok (by decide) (b := false) (by show some (filterB f) = _; rw [h1]) ?_
      exact stop (by unfold subOk; rw [h1]; rfl)
    refine is_qos_ok (by decide) ?_
    by_cases h2 : q < 3
    rotate_left
    · refine need_ok (by decide) (b := false) (by show some (decide _) = _; rw [decide_eq_false (by (first | lia | omega))]) ?_
      exact stop (by unfold subOk; rw [decide_eq_false h2, Bool.and_false])
    refine need_ok (by decide) (b := true) (by show some (decide _) = _; rw [decide_eq_true (by (first | lia | omega))]) ?_
    refine string_ok (by decide) (Nat.lt_of_le_of_lt hf (by decide)) ?_
    refine And.intro (fits_of (by rw [List.length_map]; exact Nat.le_trans (Nat.succ_le_succ hp) (by decide))) ?_
    refine opt_of (bytesOf_one (Nat.lt_trans h2 (by decide))) ?_
    refine And.intro (fits_of (by rw [List.length_append, List.length_map]; exact Nat.le_trans (Nat.add_le_add_right (Nat.succ_le_succ hp) 1) (by decide))) ?_
    have e := next (by unfold subOk; rw [h1, decide_eq_true h2]; rfl)
    rw [wF, ← map_snoc, ← map_snoc] at e
    exact e
  rcases hex with rfl | ⟨a, b, rfl⟩
  · exact t
  · exact t
theorem write_sub (hi : 20 < i) {n : Int} {items : List (List Nat × Nat)} (hz : ∀ p ∈ items, p.1.length ≤ 1000) (hn : items.length ≤ 2) (hk : wOut (subW n items) K X) :
    PhiUp globD H 100 parF bodF i 20 [.v (.tuple [.str 3, .int n, subD items])] K X := by
  refine write_split hi fun P hP => ?_
  refine need_ok (by decide) (b := true) rfl ?_
  refine first_of_ok (by decide) ?_
  refine need_ok (by decide) (b := true) rfl ?_
  refine is_bare_ok (by decide) ?_
  refine has_list_ok (by decide) ?_
  refine need_ok (by decide) (b := true) rfl ?_
  refine id_ok (by decide) ?_
  refine br_of (fun h => ?_) (fun h => ?_)
  rotate_left
  · have e : subW n items = none := if_neg (by rw [show idOk n = false from h, Bool.false_and]; decide)
    rw [e] at hk
    exact hk
  refine And.intro rfl ?_
  have hid : idOk n = true := h
  have bad : items.all subOk = false → X := fun q => by
    have e : subW n items = none := if_neg (by rw [q, Bool.and_false, Bool.and_false]; decide)
    rw [e] at hk; exact hk
  by_cases h0 : items = []
  · have e : subW n items = none := if_neg (by rw [h0, List.isEmpty_nil, Bool.not_true, Bool.false_and, Bool.and_false]; decide)
    rw [e] at hk
    refine need_ok (by decide) (b := false) (by rw [h0]; rfl) ?_
    exact hk
  have hne : (!items.isEmpty) = true := by cases items with | nil => exact absurd rfl h0 | cons _ _ => rfl
  have good : items.all subOk = true → subW n items = some (frameL 130 (idL n.toNat ++ subR items)) := fun q => if_pos (by rw [hid, hne, q]; rfl)
  refine need_ok (by decide) (b := true) (by show some (!(items.map _).isEmpty) = _; rw [List.isEmpty_map, hne]) ?_
  refine fl_of (P := fun rest σ => ∃ dn td, items = dn ++ td ∧ rest = td.map (fun p => D.tuple [.bytes p.1, .int (p.2 : Nat)]) ∧ dn.all subOk = true ∧ (σ = wF 3 130 (.tuple [.str 3, .int n, subD items]) (subD items) (idL n.toNat :: subP dn) ∨ ∃ c a b, σ = wF 3 130 (.tuple [.str 3, .int n, subD items]) (subD items) (idL n.toNat :: subP dn) ++ [(36, c), (19, a), (28, b)]))
    (fun d r σ w hp hw => ?_) (fun σ hp => ?_) ⟨[], items, rfl, rfl, rfl, .inl rfl⟩
  · refine ex2 hp fun dn td hp2 => ?_
    clear hp
    refine ad4 hp2 fun e1 e2 e3 hσ => ?_
    clear hp2
    cases td with
    | nil => cases e2
    | cons p td =>
      obtain ⟨f, q⟩ := p
      cases e2
      have hm := split_len e1 hn
      have hl : (idL n.toNat :: subP dn).length ≤ 100 := by rw [List.length_cons, subP_len]; (first | lia | omega)
      have nx : subOk (f, q) = true → w (wF 3 130 (.tuple [.str 3, .int n, subD items]) (subD items) ((idL n.toNat :: subP dn) ++ [strL f] ++ [[q]]) ++ [(36, .v (.tuple [.bytes f, .int (q : Nat)])), (19, .v (.bytes f)), (28, .v (.int (q : Nat)))]) := fun h1 =>
        hw _ ⟨dn ++ [(f, q)], td, by rw [e1, List.append_assoc]; rfl, rfl, all_snoc e3 h1, .inr ⟨_, _, _, by rw [subP_snoc]; rfl⟩⟩
      rcases hσ with rfl | ⟨c, a, b, rfl⟩
      · exact sub_turn (.inl rfl) (hz _ hm.2) hl nx fun h1 => bad (all_not hm.2 h1)
      · exact sub_turn (.inr ⟨a, b, rfl⟩) (hz _ hm.2) hl nx fun h1 => bad (all_not hm.2 h1)
  · refine ex2 hp fun dn td hp2 => ?_
    clear hp
    refine ad4 hp2 fun e1 e2 e3 hσ => ?_
    clear hp2
    cases td with
    | cons _ _ => cases e2
    | nil =>
      rw [List.append_nil] at e1
      subst e1
      rw [good e3] at hk
      have hj : joinL [] ((idL n.toNat :: subP items).map D.bytes) = some (idL n.toNat ++ subR items) := by rw [jl, List.flatten_cons, subR_eq]
      have hl : (idL n.toNat ++ subR items).length ≤ 1000000 := by
        have := subR_le hz
        rw [List.length_append, show (idL n.toNat).length = 2 from rfl]; (first | lia | omega)
      rcases hσ with rfl | ⟨c, a, b, rfl⟩
      · exact hP _ _ _ 130 _ rfl rfl rfl hj (by decide) hl (wOut_some hk)
      · exact hP _ _ _ 130 _ rfl rfl rfl hj (by decide) hl (wOut_some hk)
theorem write_uns (hi : 20 < i) {n : Int} {items : List (List Nat)} (hz : ∀ p ∈ items, p.length ≤ 1000) (hn : items.length ≤ 2) (hk : wOut (unsW n items) K X) :
    PhiUp globD H 100 parF bodF i 20 [.v (.tuple [.str 5, .int n, bytsD items])] K X := by
  refine write_split hi fun P hP => ?_
  refine need_ok (by decide) (b := true) rfl ?_
  refine first_of_ok (by decide) ?_
  refine need_ok (by decide) (b := true) rfl ?_
  refine is_bare_ok (by decide) ?_
  refine has_list_ok (by decide) ?_
  refine need_ok (by decide) (b := true) rfl ?_
  refine id_ok (by decide) ?_
  refine br_of (fun h => ?_) (fun h => ?_)
  rotate_left
  · have e : unsW n items = none := if_neg (by rw [show idOk n = false from h, Bool.false_and]; decide)
    rw [e] at hk
    exact hk
  refine And.intro rfl ?_
  have hid : idOk n = true := h
  have bad : items.all filterB = false → X := fun q => by
    have e : unsW n items = none := if_neg (by rw [q, Bool.and_false, Bool.and_false]; decide)
    rw [e] at hk; exact hk
  by_cases h0 : items = []
  · have e : unsW n items = none := if_neg (by rw [h0, List.isEmpty_nil, Bool.not_true, Bool.false_and, Bool.and_false]; decide)
    rw [e] at hk
    refine need_ok (by decide) (b := false) (by rw [h0]; rfl) ?_
    exact hk
  have hne : (!items.isEmpty) = true := by cases items with | nil => exact absurd rfl h0 | cons _ _ => rfl
  have good : items.all filterB = true → unsW n items = some (frameL 162 (idL n.toNat ++ unsR items)) := fun q => if_pos (by rw [hid, hne, q]; rfl)
  refine need_ok (by decide) (b := true) (by show some (!(items.map _).isEmpty) = _; rw [List.isEmpty_map, hne]) ?_
  refine fl_of (P := fun rest σ => ∃ dn td, items = dn ++ td ∧ rest = td.map D.bytes ∧ dn.all filterB = true ∧ (σ = wF 5 162 (.tuple [.str 5, .int n, bytsD items]) (bytsD items) (idL n.toNat :: dn.map strL) ∨ ∃ c, σ = wF 5 162 (.tuple [.str 5, .int n, bytsD items]) (bytsD items) (idL n.toNat :: dn.map strL) ++ [(19, c)]))
    (fun d r σ w hp hw => ?_) (fun σ hp => ?_) ⟨[], items, rfl, rfl, rfl, .inl rfl⟩
  · refine ex2 hp fun dn td hp2 => ?_
    clear hp
    refine ad4 hp2 fun e1 e2 e3 hσ => ?_
    clear hp2
    cases td with
    | nil => cases e2
    | cons f td =>
      cases e2
      have hm := split_len e1 hn
      have hl : (idL n.toNat :: dn.map strL).length ≤ 100 := by rw [List.length_cons, List.length_map]; (first | lia | omega)
      have nx : filterB f = true → w (wF 5 162 (.tuple [.str 5, .int n, bytsD items]) (bytsD items) ((idL n.toNat :: dn.map strL) ++ [strL f]) ++ [(19, .v (.bytes f))]) := fun h1 =>
        hw _ ⟨dn ++ [f], td, by rw [e1, List.append_assoc]; rfl, rfl, all_snoc e3 h1, .inr ⟨_, by rw [List.map_append]; rfl⟩⟩
      rcases hσ with rfl | ⟨c, rfl⟩
      · exact uns_turn (hz _ hm.2) hl nx fun h1 => bad (all_not hm.2 h1)
      · exact uns_turn (hz _ hm.2) hl nx fun h1 => bad (all_not hm.2 h1)
  · refine ex2 hp fun dn td hp2 => ?_
    clear hp
    refine ad4 hp2 fun e1 e2 e3 hσ => ?_
    clear hp2
    cases td with
    | cons _ _ => cases e2
    | nil =>
      rw [List.append_nil] at e1
      subst e1
      rw [good e3] at hk
      have hj : joinL [] ((idL n.toNat :: items.map strL).map D.bytes) = some (idL n.toNat ++ unsR items) := by rw [jl, List.flatten_cons, unsR_eq]
      have hl : (idL n.toNat ++ unsR items).length ≤ 1000000 := by
        have := unsR_le hz
        rw [List.length_append, show (idL n.toNat).length = 2 from rfl]; (first | lia | omega)
      rcases hσ with rfl | ⟨c, rfl⟩
      · exact hP _ _ _ 162 _ rfl rfl rfl hj (by decide) hl (wOut_some hk)
      · exact hP _ _ _ 162 _ rfl rfl rfl hj (by decide) hl (wOut_some hk)
theorem write_sbk (hi : 20 < i) {n : Int} {cs : List Nat} (hz : ∀ c ∈ cs, c < 256) (hn : cs.length ≤ 2) (hk : wOut (sbkW n cs) K X) :
    PhiUp globD H 100 parF bodF i 20 [.v (.tuple [.str 4, .int n, intsD cs])] K X := by
  refine write_split hi fun P hP => ?_
  refine need_ok (by decide) (b := true) rfl ?_
  refine first_of_ok (by decide) ?_
  refine need_ok (by decide) (b := true) rfl ?_
  refine is_bare_ok (by decide) ?_
  refine has_list_ok (by decide) ?_
  refine need_ok (by decide) (b := true) rfl ?_
  refine id_ok (by decide) ?_
  refine br_of (fun h => ?_) (fun h => ?_)
  rotate_left
  · have e : sbkW n cs = none := if_neg (by simp [show idOk n = false from h])
    rw [e] at hk
    exact hk
  refine And.intro rfl ?_
  match cs, hz, hn, hk with
  | [], _, _, hk =>
    refine need_ok (by decide) (b := false) rfl ?_
    have e : sbkW n [] = none := if_neg (by rw [show idOk n = true from h]; decide)
    rw [e] at hk
    exact hk
  | [c], hz, _, hk =>
    have hc : c < 256 := hz c (by simp)
    refine need_ok (by decide) (b := true) rfl ?_
    refine is_code_ok (by decide) ?_
    by_cases h1 : c < 3 ∨ c = 128
    rotate_left
    · refine need_ok (by decide) (b := false) (by show some (decide _) = _; rw [decide_eq_false (by (first | lia | omega))]) ?_
      have e : sbkW n [c] = none := if_neg (by simp [codeOk, h1])
      rw [e] at hk; exact hk
    refine need_ok (by decide) (b := true) (by show some (decide _) = _; rw [decide_eq_true (by (first | lia | omega))]) ?_
    refine opt_of (bytesOf_one hc) ?_
    refine And.intro rfl ?_
    have e : sbkW n [c] = some (frameL 144 (idL n.toNat ++ [c])) := if_pos (by rw [show idOk n = true from h]; simp [codeOk, h1])
    rw [e] at hk
    exact hP _ [.bytes (idL n.toNat), .bytes [c]] _ _ (idL n.toNat ++ [c]) rfl rfl rfl (by show some (idL n.toNat ++ [] ++ [c]) = _; simp) (by decide) (by simp [idL]) (wOut_some hk)
  | [c, d], hz, _, hk =>
    have hc : c < 256 := hz c (by simp)
    have hd : d < 256 := hz d (by simp)
    refine need_ok (by decide) (b := true) rfl ?_
    refine is_code_ok (by decide) ?_
    by_cases h1 : c < 3 ∨ c = 128
    rotate_left
    · refine need_ok (by decide) (b := false) (by show some (decide _) = _; rw [decide_eq_false (by (first | lia | omega))]) ?_
      have e : sbkW n [c, d] = none := if_neg (by simp [codeOk, h1])
      rw [e] at hk; exact hk
    refine need_ok (by decide) (b := true) (by show some (decide _) = _; rw [decide_eq_true (by (first | lia | omega))]) ?_
    refine is_code_ok (by decide) ?_
    by_cases h2 : d < 3 ∨ d = 128
    rotate_left
    · refine need_ok (by decide) (b := false) (by show some (decide _) = _; rw [decide_eq_false (by (first | lia | omega))]) ?_
      have e : sbkW n [c, d] = none := if_neg (by simp [codeOk, h2])
      rw [e] at hk; exact hk
    refine need_ok (by decide) (b := true) (by show some (decide _) = _; rw [decide_eq_true (by (first | lia | omega))]) ?_
    refine opt_of (bytesOf_two hc hd) ?_
    refine And.intro rfl ?_
    have e : sbkW n [c, d] = some (frameL 144 (idL n.toNat ++ [c, d])) := if_pos (by rw [show idOk n = true from h]; simp [codeOk, h1, h2])
    rw [e] at hk
    exact hP _ [.bytes (idL n.toNat), .bytes [c, d]] _ _ (idL n.toNat ++ [c, d]) rfl rfl rfl (by show some (idL n.toNat ++ [] ++ [c, d]) = _; simp) (by decide) (by simp [idL]) (wOut_some hk)
end
end Mine
set_option Elab.async false
set_option maxRecDepth 100000
namespace Mine
set_option tactic.hygienic false
theorem cut_of_drop {data u v : List Nat} {a b : Nat} (h : data.drop a = u ++ v) (hb : b = a + u.length) (ha : a ≤ data.length) : cutL data (some ((a : Nat) : Int)) (some ((b : Nat) : Int)) = u := by
  subst hb
  have hl : data.length = a + u.length + v.length := by
    have := congrArg List.length h
    rw [List.length_drop, List.length_append] at this
    (first | lia | omega)
  rw [cutL_nat (by (first | lia | omega)) (by (first | lia | omega)), List.drop_take, h]
  simp
theorem drop_of_drop {data u v : List Nat} {a : Nat} (h : data.drop a = u ++ v) : data.drop (a + u.length) = v := by
  rw [← List.drop_drop, h]; simp
/-- the kinds by their first bytes -/
noncomputable def firstsL : List (Nat × Nat) := [(9, 64), (10, 80), (8, 98), (11, 112), (3, 130), (4, 144), (5, 162), (12, 176), (0, 192), (1, 208), (2, 224)]
theorem firsts_not : ∀ p ∈ firstsL, p.2 / 16 ≠ 3 ∧ p.2 ≠ 56 ∧ p.2 ≠ 57 ∧ decide (((p.2 / 2 ^ 4 : Nat) : Int) = 3) = false := by decide
section
variable {H : HSpec} {i : Nat} {K : D → Prop} {X : Prop}
theorem kind_of_ok (hi : 11 < i) {k first : Nat} (hm : (k, first) ∈ firstsL) (hk : K (.str k)) : PhiUp globD H 100 parF bodF i 11 [.v (.int (first : Nat))] K X := by
  rw [phi_lt hi]
  refine ⟨rfl, ?_⟩
  simp only [firstsL, List.mem_cons, List.not_mem_nil, or_false, Prod.mk.injEq] at hm
  rcases hm with ⟨rfl, rfl⟩ | ⟨rfl, rfl⟩ | ⟨rfl, rfl⟩ | ⟨rfl, rfl⟩ | ⟨rfl, rfl⟩ | ⟨rfl, rfl⟩ | ⟨rfl, rfl⟩ | ⟨rfl, rfl⟩ | ⟨rfl, rfl⟩ | ⟨rfl, rfl⟩ | ⟨rfl, rfl⟩
  all_goals exact hk
theorem read_length_cut0 (hi : 1 < i) {data : List Nat} {a : Nat} (hd : data.length = a) (hk : K .none) : PhiUp globD H 100 parF bodF i 1 [.v (.bytes data), .v (.int (a : Nat))] K X := by
  rw [phi_lt hi]
  refine ⟨rfl, ?_⟩
  refine ⟨1, ?_⟩
  refine br_t (decide_eq_true (by show ((a : Int) + 0 ≥ (data.length : Int)); (first | lia | omega))) ?_
  exact hk
theorem read_length_cut1 (hi : 1 < i) {data : List Nat} {a m : Nat} (hm : m < 128) (hd : data.length = a + 1) (hg : data[a]? = some (m + 128)) (hk : K .none) : PhiUp globD H 100 parF bodF i 1 [.v (.bytes data), .v (.int (a : Nat))] K X := by
  rw [phi_lt hi]
  refine ⟨rfl, ?_⟩
  refine ⟨2, ?_⟩
  refine br_f (decide_eq_false (by show ¬ ((a : Int) + 0 ≥ (data.length : Int)); (first | lia | omega))) ?_
  refine opt_of (a := .int ((m + 128 : Nat))) (by show (data[a + 0]?).map _ = _; rw [Nat.add_zero, hg]; rfl) ?_
  refine br_f (decide_eq_false (by show ¬ ((((m + 128) &&& 128 : Nat) : Int) = 0); rw [and128_hi hm]; decide)) ?_
  refine br_t (decide_eq_true (by show ((a : Int) + (0 + 1) ≥ (data.length : Int)); (first | lia | omega))) ?_
  exact hk
/-- the head: first byte of a publish -/
theorem rp_head_pub {first q : Nat} {tl : List Nat} {P XX : Loc → Prop} {R : D → Loc → Prop} {dup : Bool} (h16 : first / 16 = 3) (hq : first / 2 &&& 3 = q) (hq3 : q < 3) (hd : decide (first &&& 8 ≠ 0) = dup) (hdq : (dup && decide (q = 0)) = false)
    (hP : P [(8, .v (.bytes (first :: tl))), (18, .v (.int (first : Nat))), (26, .v .none), (28, .v (.int (q : Nat)))]) :
    xSs (PhiUp globD H 100 parF bodF 23) globD H 100 (b_read_packet.take 4) [(8, .v (.bytes (first :: tl)))] P R XX := by
  refine br_t (decide_eq_true (by show (((first / 2 ^ 4 : Nat) : Int) = 3); rw [show (2 : Nat) ^ 4 = 16 from rfl, h16]; rfl)) ?_
  refine need_ok (by decide) (b := true) (by show some (!decide (((first / 2 ^ 1 &&& 3 : Nat) : Int) = 3)) = _; rw [show (2 : Nat) ^ 1 = 2 from rfl, hq, decide_eq_false (by (first | lia | omega))]; rfl) ?_
  have fin : P [(8, .v (.bytes (first :: tl))), (18, .v (.int (first : Nat))), (26, .v .none), (28, .v (.int ((first / 2 ^ 1 &&& 3 : Nat) : Int)))] := by
    rw [show (2 : Nat) ^ 1 = 2 from rfl, hq]; exact hP
  refine br_t rfl ?_
  refine br_of (fun h => ?_) (fun h => ?_)
  · have h1 : dup = true := by
      have h3 : ¬ ((first &&& 8 : Nat) : Int) = 0 := of_decide_eq_false (nb_t h)
      rw [← hd]; exact decide_eq_true (fun q => h3 (by rw [q]; rfl))
    have h2 : ¬ q = 0 := by rw [h1] at hdq; simpa using hdq
    refine need_ok (by decide) (b := true) (by show some (!decide (((first / 2 ^ 1 &&& 3 : Nat) : Int) = 0)) = _; rw [show (2 : Nat) ^ 1 = 2 from rfl, hq, decide_eq_false (by (first | lia | omega))]; rfl) ?_
    exact fin
  · refine need_ok (by decide) (b := true) (by show some (!(!decide (((first &&& 8 : Nat) : Int) = 0))) = _; rw [nb_f h]; rfl) ?_
    exact fin
theorem rp_head_kind {k first : Nat} {tl : List Nat} {P XX : Loc → Prop} {R : D → Loc → Prop} (hm : (k, first) ∈ firstsL)
    (hP : P [(8, .v (.bytes (first :: tl))), (18, .v (.int (first : Nat))), (26, .v (.str k))]) :
    xSs (PhiUp globD H 100 parF bodF 23) globD H 100 (b_read_packet.take 4) [(8, .v (.bytes (first :: tl)))] P R XX := by
  refine br_f (firsts_not _ hm).2.2.2 ?_
  refine kind_of_ok (by decide) hm ?_
  refine need_ok (by decide) (b := true) rfl ?_
  exact hP
/-- the length, and what stands behind it -/
theorem rp_len {first : Nat} {data more : List Nat} {n : Nat} {v : LV} {ex : List (Nat × LV)} (hex : ex = [] ∨ ∃ q, ex = [(28, q)]) {P XX : Loc → Prop} {R : D → Loc → Prop} (hn : n ≤ 268435455) (hd : data.drop 1 = wlen n ++ more)
    (hs : data.length < 1 + (wlen n).length + n → ∀ σ, R .none σ)
    (hP : ¬ data.length < 1 + (wlen n).length + n → P ((8, .v (.bytes data)) :: (18, .v (.int (first : Nat))) :: (26, v) :: (ex ++ [(39, .v (.tuple [.int (n : Nat), .int ((1 + (wlen n).length : Nat))])), (0, .v (.int (n : Nat))), (7, .v (.int ((1 + (wlen n).length : Nat)))), (38, .v (.int ((1 + (wlen n).length + n : Nat))))]))) :
    xSs (PhiUp globD H 100 parF bodF 23) globD H 96 ((b_read_packet.drop 4).take 6) ((8, .v (.bytes data)) :: (18, .v (.int (first : Nat))) :: (26, v) :: ex) P R XX := by
  rcases hex with rfl | ⟨q, rfl⟩
  all_goals
    refine read_length_ok (by decide) (at_ := 1) hn hd ?_
    refine br_of (fun h => ?_) (fun h => ?_)
    · exact hs (by have := of_decide_eq_true h; (first | lia | omega)) _
    · exact hP (by have := of_decide_eq_false h; (first | lia | omega))
theorem s_call1 {Φ : Phi} {G : Nat → D} {n f x : Nat} {r : List S} {ρ : Loc} {KK XX : Loc → Prop} {R : D → Loc → Prop} (h : xA Φ G (n + 1) (.var x) ρ (fun l => Φ f [l] (fun _ => xSs Φ G H (n + 4) r ρ KK R XX) (XX ρ)) (XX ρ)) : xSs Φ G H (n + 5) (.expr (.call f [.var x]) :: r) ρ KK R XX := h
theorem rp_tail {ρ : Loc} {pk : D} {e : Int} {KK : Loc → Prop} (h30 : ρ.get 30 = some (.v pk)) (h38 : ρ.get 38 = some (.v (.int e))) (hw : PhiUp globD H 100 parF bodF 23 20 [.v pk] (fun _ => K (.tuple [pk, .int e])) X) :
    xSs (PhiUp globD H 100 parF bodF 23) globD H 89 (b_read_packet.drop 11) ρ KK (fun d _ => K d) (fun _ => X) := by
  have e : xSs (PhiUp globD H 100 parF bodF 23) globD H 88 [.ret (.tup [.var 30, .var 38])] ρ KK (fun d _ => K d) (fun _ => X) = K (.tuple [pk, .int e]) := (e_var_eq (Φ := PhiUp globD H 100 parF bodF 23) (G := globD) (X := X) (n := 83) h30).trans (e_var_eq (Φ := PhiUp globD H 100 parF bodF 23) (G := globD) (X := X) (n := 82) h38)
  refine s_call1 (n := 84) (a_var (n := 84) h30 ?_)
  show PhiUp globD H 100 parF bodF 23 20 [.v pk] (fun _ => xSs (PhiUp globD H 100 parF bodF 23) globD H 88 [.ret (.tup [.var 30, .var 38])] ρ KK (fun d _ => K d) (fun _ => X)) X
  rw [e]; exact hw
/-- a publish's rest -/
theorem rp_pub {first q n a : Nat} {data topic body more : List Nat} {ident : Nat} {found : LV} {P XX : Loc → Prop} {R : D → Loc → Prop} {dup retain : Bool} (h16 : first / 16 = 3) (hq : first / 2 &&& 3 = q) (hdu : decide (first &&& 8 ≠ 0) = dup) (hre : decide (first &&& 1 ≠ 0) = retain)
    (hid : ident < 65536) (hi0 : q = 0 → ident = 0) (ht : topic.length < 65536) (ha : a ≤ data.length)
    (hd : data.drop a = strL topic ++ ((if q = 0 then [] else idL ident) ++ (body ++ more))) (hn : n = (strL topic ++ ((if q = 0 then [] else idL ident) ++ body)).length)
    (hP : ∀ ρ, ρ.get 30 = some (.v (.tuple [.str 6, .bool dup, .int (q : Nat), .bool retain, .bytes topic, .int (ident : Nat), .bytes body])) → ρ.get 38 = some (.v (.int ((a + n : Nat)))) → P ρ) :
    xSs (PhiUp globD H 100 parF bodF 23) globD H 90 ((b_read_packet.drop 10).take 1) [(8, .v (.bytes data)), (18, .v (.int (first : Nat))), (26, .v .none), (28, .v (.int (q : Nat))), (39, found), (0, .v (.int (n : Nat))), (7, .v (.int (a : Nat))), (38, .v (.int ((a + n : Nat))))] P R XX := by
  refine br_t (decide_eq_true (by show (((first / 2 ^ 4 : Nat) : Int) = 3); rw [show (2 : Nat) ^ 4 = 16 from rfl, h16]; rfl)) ?_
  have hnl : n = topic.length + 2 + (if q = 0 then [] else idL ident).length + body.length := by rw [hn]; simp [strL_len]; (first | lia | omega)
  refine read_string_ok (by decide) ht hd (by (first | lia | omega)) ?_
  have hd2 := drop_of_drop hd
  rw [strL_len, show a + (topic.length + 2) = a + 2 + topic.length by (first | lia | omega)] at hd2
  have ha2 : a + 2 + topic.length ≤ data.length := by
    have := congrArg List.length hd
    rw [List.length_drop, List.length_append, strL_len] at this
    (first | lia | omega)
  have pkE : ∀ {b : Int} {u : List Nat} {x : Int}, b = (q : Nat) → u = body → x = (ident : Nat) → (D.tuple [.str 6, .bool (!decide (((first &&& 8 : Nat) : Int) = 0)), .int b, .bool (!decide (((first &&& 1 : Nat) : Int) = 0)), .bytes topic, .int x, .bytes u]) = (.tuple [.str 6, .bool dup, .int (q : Nat), .bool retain, .bytes topic, .int (ident : Nat), .bytes body]) := by
    intro b u x e1 e2 e3
    rw [e1, e2, e3, ← hdu, ← hre]
    have z8 : (!decide (((first &&& 8 : Nat) : Int) = 0)) = decide (first &&& 8 ≠ 0) := by
      by_cases h : first &&& 8 = 0
      · rw [h]; rfl
      · rw [decide_eq_true h, decide_eq_false (by (first | lia | omega))]; rfl
    have z1 : (!decide (((first &&& 1 : Nat) : Int) = 0)) = decide (first &&& 1 ≠ 0) := by
      by_cases h : first &&& 1 = 0
      · rw [h]; rfl
      · rw [decide_eq_true h, decide_eq_false (by (first | lia | omega))]; rfl
    rw [z8, z1]
  have qE : (((first / 2 ^ 1 &&& 3 : Nat)) : Int) = (q : Nat) := by rw [show (2 : Nat) ^ 1 = 2 from rfl, hq]
  by_cases h0 : q = 0
  · refine br_f (decide_eq_false (by show ¬ ((((first / 2 ^ 1 &&& 3 : Nat)) : Int) ≠ 0); rw [qE]; (first | lia | omega))) ?_
    rw [if_pos h0] at hd2 hnl
    have cb : cutL data (some ((a + 2 + topic.length : Nat) : Int)) (some ((a + n : Nat) : Int)) = body := cut_of_drop hd2 (by rw [hnl]; simp; (first | lia | omega)) ha2
    refine hP _ ?_ rfl
    exact congrArg (fun d => some (LV.v d)) (pkE qE cb (by rw [hi0 h0]; rfl))
  · refine br_t (decide_eq_true (by show ((((first / 2 ^ 1 &&& 3 : Nat)) : Int) ≠ 0); rw [qE]; (first | lia | omega))) ?_
    rw [if_neg h0] at hd2 hnl
    have hl2 : (idL ident).length = 2 := rfl
    have g0 : data[a + 2 + topic.length]? = some (ident / 256) := by have := get_of_drop hd2 0; simpa [idL] using this
    have g1 : data[a + 2 + topic.length + 1]? = some (ident % 256) := by have := get_of_drop hd2 1; simpa [idL] using this
    refine read_two_ok (by decide) (by (first | lia | omega)) g0 g1 (by (first | lia | omega)) ?_
    have hd3 := drop_of_drop hd2
    rw [hl2] at hd3
    have ha3 : a + 2 + topic.length + 2 ≤ data.length := by
      have := congrArg List.length hd2
      rw [List.length_drop, List.length_append, hl2] at this
      (first | lia | omega)
    have cb : cutL data (some ((a + 2 + topic.length + 2 : Nat) : Int)) (some ((a + n : Nat) : Int)) = body := cut_of_drop hd3 (by rw [hnl, hl2]; (first | lia | omega)) ha3
    refine hP _ ?_ rfl
    exact congrArg (fun d => some (LV.v d)) (pkE qE cb (congrArg Int.ofNat (Nat.div_add_mod' ident 256)))
end
end Mine
set_option Elab.async false
set_option maxRecDepth 100000
namespace Mine
set_option tactic.hygienic false
section
variable {H : HSpec} {i : Nat} {K : D → Prop} {X : Prop}
theorem rp_cut {first n c : Nat} {data rest : List Nat} {v : LV} {ex : List (Nat × LV)} (hex : ex = [] ∨ ∃ q, ex = [(28, q)]) {P XX : Loc → Prop} {R : D → Loc → Prop} (hn : n < 16384) (hr : rest.length = n) (hc : c < (wlen n).length + n) (hdt : data = first :: (wlen n ++ rest).take c)
    (hR : ∀ σ, R .none σ) :
    xSs (PhiUp globD H 100 parF bodF 23) globD H 96 ((b_read_packet.drop 4).take 6) ((8, .v (.bytes data)) :: (18, .v (.int (first : Nat))) :: (26, v) :: ex) P R XX := by
  by_cases h0 : c = 0
  · subst h0
    have hl : data.length = 1 := by rw [hdt]; rfl
    rcases hex with rfl | ⟨q, rfl⟩
    all_goals
      refine read_length_cut0 (by decide) (a := 1) hl ?_
      exact hR _
  by_cases h1 : (wlen n).length ≤ c
  · refine rp_len (n := n) hex (by (first | lia | omega)) (more := rest.take (c - (wlen n).length)) ?_ (fun _ => hR) (fun h => absurd ?_ h)
    · rw [hdt]
      show (wlen n ++ rest).take c = _
      rw [List.take_append, List.take_of_length_le h1]
    · rw [hdt, List.length_cons, List.length_take, List.length_append]; (first | lia | omega)
  · have hb : ¬ n < 128 := fun h => by rw [wlen_lt h] at h1; simp at h1; (first | lia | omega)
    have h2 : wlen n = [n % 128 + 128, n / 128 % 128] := by rw [wlen_big hb, wlen_lt (by (first | lia | omega))]
    rw [h2] at h1 hdt
    have hc1 : c = 1 := by simp at h1; (first | lia | omega)
    subst hc1
    have hl : data.length = 1 + 1 := by rw [hdt]; rfl
    have hg : data[1]? = some (n % 128 + 128) := by rw [hdt]; rfl
    rcases hex with rfl | ⟨q, rfl⟩
    all_goals
      refine read_length_cut1 (by decide) (a := 1) (Nat.mod_lt _ (by decide)) hl hg ?_
      exact hR _
theorem read_split (hi : 23 < i) {data : List Nat} (h : xSs (PhiUp globD H 100 parF bodF 23) globD H 100 (b_read_packet.take 4) [(8, .v (.bytes data))] (fun σ => xSs (PhiUp globD H 100 parF bodF 23) globD H 96 ((b_read_packet.drop 4).take 6) σ
      (fun σ => xSs (PhiUp globD H 100 parF bodF 23) globD H 90 ((b_read_packet.drop 10).take 1) σ (fun σ => xSs (PhiUp globD H 100 parF bodF 23) globD H 89 (b_read_packet.drop 11) σ (fun _ => K .none) (fun d _ => K d) (fun _ => X)) (fun d _ => K d) (fun _ => X)) (fun d _ => K d) (fun _ => X)) (fun d _ => K d) (fun _ => X)) :
    PhiUp globD H 100 parF bodF i 23 [.v (.bytes data)] K X := by
  rw [phi_lt hi]
  refine ⟨rfl, ?_⟩
  show xSs _ globD H 100 (b_read_packet.take 4 ++ ((b_read_packet.drop 4).take 6 ++ ((b_read_packet.drop 10).take 1 ++ b_read_packet.drop 11))) _ _ _ _
  rw [ss_app (by decide)]
  have e1 : ∀ σ, xSs (PhiUp globD H 100 parF bodF 23) globD H (100 - (b_read_packet.take 4).length) ((b_read_packet.drop 4).take 6 ++ ((b_read_packet.drop 10).take 1 ++ b_read_packet.drop 11)) σ (fun _ => K .none) (fun d _ => K d) (fun _ => X) = xSs (PhiUp globD H 100 parF bodF 23) globD H 96 ((b_read_packet.drop 4).take 6) σ
      (fun σ => xSs (PhiUp globD H 100 parF bodF 23) globD H 90 ((b_read_packet.drop 10).take 1) σ (fun σ => xSs (PhiUp globD H 100 parF bodF 23) globD H 89 (b_read_packet.drop 11) σ (fun _ => K .none) (fun d _ => K d) (fun _ => X)) (fun d _ => K d) (fun _ => X)) (fun d _ => K d) (fun _ => X) := fun σ => by
    show xSs _ globD H 96 _ _ _ _ _ = _
    rw [ss_app (by decide)]
    have e2 : (fun σ => xSs (PhiUp globD H 100 parF bodF 23) globD H (96 - ((b_read_packet.drop 4).take 6).length) ((b_read_packet.drop 10).take 1 ++ b_read_packet.drop 11) σ (fun _ => K .none) (fun d _ => K d) (fun _ => X)) = (fun σ => xSs (PhiUp globD H 100 parF bodF 23) globD H 90 ((b_read_packet.drop 10).take 1) σ (fun σ => xSs (PhiUp globD H 100 parF bodF 23) globD H 89 (b_read_packet.drop 11) σ (fun _ => K .none) (fun d _ => K d) (fun _ => X)) (fun d _ => K d) (fun _ => X)) := funext fun σ => by
      show xSs _ globD H 90 _ _ _ _ _ = _
      rw [ss_app (by decide)]; rfl
    rw [e2]
  rw [funext e1]
  exact h
theorem frame_drop {first : Nat} {rest more : List Nat} : (frameL first rest ++ more).drop (1 + (wlen rest.length).length) = rest ++ more := by
  unfold frameL
  rw [Nat.add_comm, ← List.drop_drop]
  simp
theorem frame_len {first : Nat} {rest : List Nat} : (frameL first rest).length = 1 + (wlen rest.length).length + rest.length := by
  unfold frameL; simp; (first | lia | omega)
theorem frame_cons {first : Nat} {rest more : List Nat} : frameL first rest ++ more = first :: (wlen rest.length ++ (rest ++ more)) := by
  unfold frameL; simp
/-- the first byte of a publish -/
structure PubF (first q : Nat) (dup retain : Bool) : Prop where
  h16 : first / 16 = 3
  hq : first / 2 &&& 3 = q
  hd : decide (first &&& 8 ≠ 0) = dup
  hr : decide (first &&& 1 ≠ 0) = retain
theorem pubF_of {q : Nat} (hq : q < 3) (dup retain : Bool) : PubF (48 + 2 * q + 8 * b2n dup + b2n retain) q dup retain := by
  have : q = 0 ∨ q = 1 ∨ q = 2 := c3 _ (by assumption)
  rcases this with rfl | rfl | rfl <;> cases dup <;> cases retain <;> exact ⟨by decide, by decide, by decide, by decide⟩
theorem read_pub (hi : 23 < i) {first q : Nat} {topic body more : List Nat} {ident : Nat} {dup retain : Bool} (hq3 : q < 3) (hF : PubF first q dup retain) (hdq : (dup && decide (q = 0)) = false)
    (hid : ident < 65536) (hi0 : q = 0 → ident = 0) (ht : topic.length < 65536) (hb : body.length ≤ 100000)
    (hk : wOut (pubW dup q retain topic ident body) (fun _ => K (.tuple [.tuple [.str 6, .bool dup, .int (q : Nat), .bool retain, .bytes topic, .int (ident : Nat), .bytes body], .int ((frameL first (pubRest q topic ident body)).length : Nat)])) X) :
    PhiUp globD H 100 parF bodF i 23 [.v (.bytes (frameL first (pubRest q topic ident body) ++ more))] K X := by
  refine read_split hi ?_
  have hd := frame_drop (first := first) (rest := pubRest q topic ident body) (more := more)
  rw [frame_len] at hk
  have hl : (frameL first (pubRest q topic ident body) ++ more).length = 1 + (wlen (pubRest q topic ident body).length).length + (pubRest q topic ident body).length + more.length := by rw [List.length_append, frame_len]
  have e : pubRest q topic ident body = strL topic ++ ((if q = 0 then [] else idL ident) ++ body) := rfl
  generalize hR : pubRest q topic ident body = rest at *
  have hn : rest.length ≤ 268435455 := by
    rw [e]; simp only [List.length_append, strL_len]; split <;> simp [idL] <;> (first | lia | omega)
  rw [frame_cons] at *
  refine rp_head_pub hF.h16 hF.hq hq3 hF.hd hdq ?_
  refine rp_len (n := rest.length) (.inr ⟨_, rfl⟩) hn (more := rest ++ more) rfl (fun h => ?_) (fun _ => ?_)
  · (first | lia | omega)
  refine rp_pub (topic := topic) (body := body) hF.h16 hF.hq hF.hd hF.hr hid hi0 ht (by (first | lia | omega)) (more := more) (by rw [hd, e]; simp) (by rw [e]) (fun ρ h30 h38 => rp_tail h30 h38 ?_)
  exact write_pub (by decide) hq3 hb hk
theorem read_pub_cut (hi : 23 < i) {first q : Nat} {rest : List Nat} {dup retain : Bool} (hq3 : q < 3) (hF : PubF first q dup retain) (hdq : (dup && decide (q = 0)) = false) (hn : rest.length < 16384) {c : Nat} (hc : c < (frameL first rest).length) (hk : K .none) :
    PhiUp globD H 100 parF bodF i 23 [.v (.bytes ((frameL first rest).take c))] K X := by
  cases c with
  | zero => 
    rw [phi_lt hi]
    exact ⟨rfl, hk⟩
  | succ c =>
    refine read_split hi ?_
    have e := frame_cons (first := first) (rest := rest) (more := [])
    rw [List.append_nil, List.append_nil] at e
    rw [frame_len] at hc
    rw [e]
    show xSs _ _ _ _ _ [(8, .v (.bytes (first :: (wlen rest.length ++ rest).take c)))] _ _ _
    refine rp_head_pub hF.h16 hF.hq hq3 hF.hd hdq ?_
    exact rp_cut (n := rest.length) (rest := rest) (c := c) (.inr ⟨_, rfl⟩) hn rfl (by (first | lia | omega)) rfl fun _ => hk
theorem read_kind_cut (hi : 23 < i) {first k : Nat} {rest : List Nat} (hm : (k, first) ∈ firstsL) (hn : rest.length < 16384) {c : Nat} (hc : c < (frameL first rest).length) (hk : K .none) :
    PhiUp globD H 100 parF bodF i 23 [.v (.bytes ((frameL first rest).take c))] K X := by
  cases c with
  | zero => 
    rw [phi_lt hi]
    exact ⟨rfl, hk⟩
  | succ c =>
    refine read_split hi ?_
    have e := frame_cons (first := first) (rest := rest) (more := [])
    rw [List.append_nil, List.append_nil] at e
    rw [frame_len] at hc
    rw [e]
    show xSs _ _ _ _ _ [(8, .v (.bytes (first :: (wlen rest.length ++ rest).take c)))] _ _ _
    refine rp_head_kind hm ?_
    exact rp_cut (n := rest.length) (rest := rest) (c := c) (.inl rfl) hn rfl (by (first | lia | omega)) rfl fun _ => hk
theorem read_bad (hi : 23 < i) {first : Nat} {tl : List Nat} (hf : first = 56 ∨ first = 57) (hX : X) : PhiUp globD H 100 parF bodF i 23 [.v (.bytes (first :: tl))] K X := by
  rw [phi_lt hi]
  refine ⟨rfl, ?_⟩
  rcases hf with rfl | rfl
  all_goals
    refine need_ok (by decide) (b := true) rfl ?_
    refine br_t rfl ?_
    refine need_ok (by decide) (b := false) rfl ?_
    exact hX
theorem rp_kind {k first : Nat} {data rest more : List Nat} {pk : D} (hi : 23 < i) (hm : (k, first) ∈ firstsL) (hn : rest.length ≤ 268435455) (hd : data = frameL first rest ++ more)
    (hp : ∀ (a : Nat) (found : LV) (P : Loc → Prop), data.drop a = rest ++ more → a + rest.length ≤ data.length → a ≤ 6 → (∀ ρ, ρ.get 30 = some (.v pk) → ρ.get 38 = some (.v (.int ((a + rest.length : Nat)))) → P ρ) → xSs (PhiUp globD H 100 parF bodF 23) globD H 90 ((b_read_packet.drop 10).take 1) [(8, .v (.bytes data)), (18, .v (.int (first : Nat))), (26, .v (.str k)), (39, found), (0, .v (.int (rest.length : Nat))), (7, .v (.int (a : Nat))), (38, .v (.int ((a + rest.length : Nat))))] P (fun d _ => K d) (fun _ => X))
    (hw : PhiUp globD H 100 parF bodF 23 20 [.v pk] (fun _ => K (.tuple [pk, .int ((frameL first rest).length : Nat)])) X) :
    PhiUp globD H 100 parF bodF i 23 [.v (.bytes data)] K X := by
  refine read_split hi ?_
  have hdr := frame_drop (first := first) (rest := rest) (more := more)
  rw [← hd] at hdr
  rw [frame_len] at hw
  have hl : data.length = 1 + (wlen rest.length).length + rest.length + more.length := by rw [hd, List.length_append, frame_len]
  have e := frame_cons (first := first) (rest := rest) (more := more)
  rw [← hd] at e
  have h1 : data.drop 1 = wlen rest.length ++ (rest ++ more) := by rw [e]; rfl
  have hw4 := wlen_len rest.length hn
  have step : xSs (PhiUp globD H 100 parF bodF 23) globD H 96 ((b_read_packet.drop 4).take 6) [(8, .v (.bytes data)), (18, .v (.int (first : Nat))), (26, .v (.str k))]
      (fun σ => xSs (PhiUp globD H 100 parF bodF 23) globD H 90 ((b_read_packet.drop 10).take 1) σ (fun σ => xSs (PhiUp globD H 100 parF bodF 23) globD H 89 (b_read_packet.drop 11) σ (fun _ => K .none) (fun d _ => K d) (fun _ => X)) (fun d _ => K d) (fun _ => X)) (fun d _ => K d) (fun _ => X) := by
    refine rp_len (n := rest.length) (.inl rfl) hn h1 (fun h => by (first | lia | omega)) (fun _ => ?_)
    exact hp _ _ _ hdr (by (first | lia | omega)) (by (first | lia | omega)) fun ρ h30 h38 => rp_tail h30 h38 hw
  rw [e] at step ⊢
  exact rp_head_kind hm step
theorem rp_not3 {k first : Nat} (hm : (k, first) ∈ firstsL) : decide (((first / 2 ^ 4 : Nat) : Int) = 3) = false := (firsts_not _ hm).2.2.2
theorem ack_mem {k first : Nat} (hm : (k = 9 ∧ first = 64) ∨ (k = 10 ∧ first = 80) ∨ (k = 8 ∧ first = 98) ∨ (k = 11 ∧ first = 112) ∨ (k = 12 ∧ first = 176)) : (k, first) ∈ firstsL := by
  rcases hm with ⟨rfl, rfl⟩ | ⟨rfl, rfl⟩ | ⟨rfl, rfl⟩ | ⟨rfl, rfl⟩ | ⟨rfl, rfl⟩ <;> decide
theorem bare_mem {k first : Nat} (hm : (k = 0 ∧ first = 192) ∨ (k = 1 ∧ first = 208) ∨ (k = 2 ∧ first = 224)) : (k, first) ∈ firstsL := by
  rcases hm with ⟨rfl, rfl⟩ | ⟨rfl, rfl⟩ | ⟨rfl, rfl⟩ <;> decide
theorem read_bare (hi : 23 < i) {k first : Nat} {more : List Nat} (hm : (k = 0 ∧ first = 192) ∨ (k = 1 ∧ first = 208) ∨ (k = 2 ∧ first = 224)) (hk : K (.tuple [.tuple [.str k], .int ((frameL first []).length : Nat)])) :
    PhiUp globD H 100 parF bodF i 23 [.v (.bytes (frameL first [] ++ more))] K X := by
  have hm' : (k, first) ∈ firstsL := bare_mem hm
  refine rp_kind (pk := .tuple [.str k]) hi hm' (by simp) rfl (fun a found P _ _ _ hP => ?_) (write_bare (by decide) hm hk)
  refine br_f (rp_not3 hm') ?_
  refine is_bare_ok (by decide) ?_
  rcases hm with ⟨rfl, rfl⟩ | ⟨rfl, rfl⟩ | ⟨rfl, rfl⟩
  all_goals
    refine need_ok (by decide) (b := true) (by show some (decide _) = _; rw [decide_eq_true (by simp)]) ?_
    exact hP _ rfl rfl
theorem read_ack (hi : 23 < i) {k first : Nat} {more : List Nat} {n : Nat} (hn : n < 65536) (hm : (k = 9 ∧ first = 64) ∨ (k = 10 ∧ first = 80) ∨ (k = 8 ∧ first = 98) ∨ (k = 11 ∧ first = 112) ∨ (k = 12 ∧ first = 176)) (hk : wOut (ackW first n) (fun _ => K (.tuple [.tuple [.str k, .int (n : Nat)], .int ((frameL first (idL n)).length : Nat)])) X) :
    PhiUp globD H 100 parF bodF i 23 [.v (.bytes (frameL first (idL n) ++ more))] K X := by
  have hm' : (k, first) ∈ firstsL := ack_mem hm
  refine rp_kind (pk := .tuple [.str k, .int (n : Nat)]) hi hm' (by simp [idL]) rfl (fun a found P hd hl _ hP => ?_) (write_ack (by decide) hm hk)
  refine br_f (rp_not3 hm') ?_
  have z := ack_k hm
  refine is_bare_ok (by decide) (br_f z.1 ?_)
  have g0 := get_of_drop hd 0
  have g1 := get_of_drop hd 1
  have l2 : (idL n).length = 2 := rfl
  have ev : ∀ {x : Nat}, x = n → some (LV.v (.tuple [.str k, .int (x : Nat)])) = some (LV.v (.tuple [.str k, .int (n : Nat)])) := fun e => by rw [e]
  refine read_two_ok (by decide) (x := n / 256) (y := n % 256) (by (first | lia | omega)) (by simpa [idL] using g0) (by simpa [idL] using g1) (by (first | lia | omega)) ?_
  refine br_f z.2.2.2.1 (br_f z.2.2.1 (br_f z.2.2.2.2.1 ?_))
  refine need_ok (by decide) (b := true) (by show some (decide _) = _; rw [decide_eq_true (by (first | lia | omega))]) ?_
  exact hP _ (ev (Nat.div_add_mod' n 256)) rfl
end
end Mine
set_option Elab.async false
set_option maxRecDepth 100000
namespace Mine
set_option tactic.hygienic false
theorem small_of {a : Int} (h : a.natAbs ≤ 4294967296) : small a = true := Nat.ble_eq_true_of_le h
section
variable {H : HSpec} {i : Nat} {K : D → Prop} {X : Prop}
theorem read_sbk (hi : 23 < i) {more : List Nat} {n : Nat} (hn : n < 65536) {cs : List Nat} (hz : ∀ c ∈ cs, c < 256) (hc : cs.length ≤ 2) (hk : wOut (sbkW n cs) (fun _ => K (.tuple [.tuple [.str 4, .int (n : Nat), intsD cs], .int ((frameL 144 (idL n ++ cs)).length : Nat)])) X) :
    PhiUp globD H 100 parF bodF i 23 [.v (.bytes (frameL 144 (idL n ++ cs) ++ more))] K X := by
  have hm' : (4, 144) ∈ firstsL := by decide
  have l2 : (idL n).length = 2 := rfl
  refine rp_kind (pk := .tuple [.str 4, .int (n : Nat), intsD cs]) hi hm' (by simp [idL]; (first | lia | omega)) rfl (fun a found P hd hl ha hP => ?_) (write_sbk (by decide) hz hc hk)
  refine is_bare_ok (by decide) ?_
  have g0 := get_of_drop hd 0
  have g1 := get_of_drop hd 1
  have g2 := get_of_drop hd 2
  have g3 := get_of_drop hd 3
  have ll : (idL n ++ cs).length = cs.length + 2 := by simp [idL]
  refine read_two_ok (by decide) (x := n / 256) (y := n % 256) (by (first | lia | omega)) (by simpa [idL] using g0) (by simpa [idL] using g1) (by (first | lia | omega)) ?_
  have ev : ∀ {x : Nat}, x = n → some (LV.v (.tuple [.str 4, .int (x : Nat), intsD cs])) = some (LV.v (.tuple [.str 4, .int (n : Nat), intsD cs])) := fun e => by rw [e]
  refine And.intro ?_ ?_
  · show (small ((a + 2 : Nat) : Int) && small ((a + (idL n ++ cs).length : Nat) : Int) && fits (((a + (idL n ++ cs).length : Nat) : Int) - ((a + 2 : Nat) : Int)).toNat) = true
    rw [small_of (by (first | lia | omega)), small_of (by (first | lia | omega)), fits_of (by (first | lia | omega))]; rfl
  have er : rangeL ((a + 2 : Nat) : Int) (((a + (idL n ++ cs).length : Nat) : Int) - ((a + 2 : Nat) : Int)).toNat = rangeL ((a + 2 : Nat) : Int) cs.length := by
    congr 1; (first | lia | omega)
  show compGo _ (rangeL ((a + 2 : Nat) : Int) (((a + (idL n ++ cs).length : Nat) : Int) - ((a + 2 : Nat) : Int)).toNat) [] _
  rw [er]
  clear hz hk
  rcases cs with _ | ⟨c, _ | ⟨d, _ | ⟨x, r⟩⟩⟩
  · exact hP _ (ev (Nat.div_add_mod' n 256)) rfl
  · have q2 : (frameL 144 (idL n ++ [c]) ++ more)[a + 2]? = some c := by simpa [idL] using g2
    refine opt_of (a := .int (c : Nat)) (by show ((frameL 144 (idL n ++ [c]) ++ more)[a + 2]?).map _ = _; rw [q2]; rfl) ?_
    exact hP _ (ev (Nat.div_add_mod' n 256)) rfl
  · have q2 : (frameL 144 (idL n ++ [c, d]) ++ more)[a + 2]? = some c := by simpa [idL] using g2
    have q3 : (frameL 144 (idL n ++ [c, d]) ++ more)[a + 2 + 1]? = some d := by simpa [idL] using g3
    refine opt_of (a := .int (c : Nat)) (by show ((frameL 144 (idL n ++ [c, d]) ++ more)[a + 2]?).map _ = _; rw [q2]; rfl) ?_
    refine opt_of (a := .int (d : Nat)) (by show ((frameL 144 (idL n ++ [c, d]) ++ more)[a + 2 + 1]?).map _ = _; rw [q3]; rfl) ?_
    exact hP _ (ev (Nat.div_add_mod' n 256)) rfl
  · simp at hc
theorem read_uns (hi : 23 < i) {more : List Nat} {n : Nat} (hn : n < 65536) {items : List (List Nat)} (hz : ∀ p ∈ items, p.length ≤ 1000) (hc : items.length ≤ 2) (hk : wOut (unsW n items) (fun _ => K (.tuple [.tuple [.str 5, .int (n : Nat), bytsD items], .int ((frameL 162 (idL n ++ unsR items)).length : Nat)])) X) :
    PhiUp globD H 100 parF bodF i 23 [.v (.bytes (frameL 162 (idL n ++ unsR items) ++ more))] K X := by
  have hm' : (5, 162) ∈ firstsL := by decide
  have l2 : (idL n).length = 2 := rfl
  have hlen : (idL n ++ unsR items).length ≤ 3000 := by
    rcases items with _ | ⟨c, _ | ⟨d, _ | ⟨x, r⟩⟩⟩
    · simp [idL, unsR]
    · have := hz c (by simp); simp [idL, unsR, strL_len]; (first | lia | omega)
    · have := hz c (by simp); have := hz d (by simp); simp [idL, unsR, strL_len]; (first | lia | omega)
    · simp at hc
  refine rp_kind (pk := .tuple [.str 5, .int (n : Nat), bytsD items]) hi hm' (by (first | lia | omega)) rfl (fun a found P hd hl ha hP => ?_) (write_uns (by decide) hz hc hk)
  refine is_bare_ok (by decide) ?_
  have g0 := get_of_drop hd 0
  have g1 := get_of_drop hd 1
  have ll : (idL n ++ unsR items).length = (unsR items).length + 2 := by simp [idL]
  refine read_two_ok (by decide) (x := n / 256) (y := n % 256) (by (first | lia | omega)) (by simpa [idL] using g0) (by simpa [idL] using g1) (by (first | lia | omega)) ?_
  have ev : ∀ {x : Nat}, x = n → some (LV.v (.tuple [.str 5, .int (x : Nat), bytsD items])) = some (LV.v (.tuple [.str 5, .int (n : Nat), bytsD items])) := fun e => by rw [e]
  have hd2 : (frameL 162 (idL n ++ unsR items) ++ more).drop (a + 2) = unsR items ++ more := by
    rw [List.append_assoc] at hd
    exact drop_of_drop hd
  generalize frameL 162 (idL n ++ unsR items) ++ more = data at *
  generalize (idL n ++ unsR items).length = N at *
  clear hk
  refine wl_of (P := fun m σ => ∃ dn td at_ v, items = dn ++ td ∧ td.length = m ∧ data.drop at_ = unsR td ++ more ∧ at_ + (unsR td).length = a + N ∧
    σ = [(8, .v (.bytes data)), (18, .v (.int ((162 : Nat) : Int))), (26, .v (.str 5)), (39, found), (0, .v (.int (N : Nat))), (7, .v (.int (at_ : Nat))), (38, .v (.int ((a + N : Nat)))), (41, v), (27, .v (.int ((n / 256 * 256 + n % 256 : Nat)))), (35, .own (dn.map .bytes))]) (fun m σ w hp hw => ?_) (n := items.length) ⟨[], items, a + 2, _, rfl, rfl, hd2, by (first | lia | omega), rfl⟩
  refine ex4 hp fun dn td at_ v hp2 => ?_
  clear hp
  refine ad5 hp2 fun e1 e2 e3 e4 e5 => ?_
  clear hp2
  subst e5
  cases td with
  | nil =>
    refine br_f (decide_eq_false (by simp [unsR] at e4; (first | lia | omega))) ?_
    refine hP _ ?_ rfl
    rw [List.append_nil] at e1
    subst e1
    exact ev (Nat.div_add_mod' n 256)
  | cons c td =>
    have hcl : c.length ≤ 1000 := hz c (by rw [e1]; simp)
    have hdn : dn.length ≤ 1 := by have := congrArg List.length e1; simp at this; (first | lia | omega)
    have e5 : (unsR (c :: td)).length = c.length + 2 + (unsR td).length := by simp [unsR, strL_len]
    refine br_t (decide_eq_true (by (first | lia | omega))) ?_
    have hd3 : data.drop at_ = strL c ++ (unsR td ++ more) := by rw [e3]; simp [unsR]
    refine read_string_ok (by decide) (t := c) (more := unsR td ++ more) (by (first | lia | omega)) hd3 (by (first | lia | omega)) ?_
    refine And.intro (fits_of (by simp; (first | lia | omega))) ?_
    refine hw (m - 1) _ (by simp at e2; (first | lia | omega)) ⟨dn ++ [c], td, at_ + 2 + c.length, .v (.tuple [.bytes c, .int ((at_ + 2 + c.length : Nat))]), by simp [e1], by simp at e2; (first | lia | omega), ?_, by (first | lia | omega), ?_⟩
    · have := drop_of_drop hd3
      rwa [strL_len, show at_ + (c.length + 2) = at_ + 2 + c.length by (first | lia | omega)] at this
    · rw [List.map_append]; rfl
theorem read_sub (hi : 23 < i) {more : List Nat} {n : Nat} (hn : n < 65536) {items : List (List Nat × Nat)} (hz : ∀ p ∈ items, p.1.length ≤ 1000) (hc : items.length ≤ 2) (hk : wOut (subW n items) (fun _ => K (.tuple [.tuple [.str 3, .int (n : Nat), subD items], .int ((frameL 130 (idL n ++ subR items)).length : Nat)])) X) :
    PhiUp globD H 100 parF bodF i 23 [.v (.bytes (frameL 130 (idL n ++ subR items) ++ more))] K X := by
  have hm' : (3, 130) ∈ firstsL := by decide
  have l2 : (idL n).length = 2 := rfl
  have hlen : (idL n ++ subR items).length ≤ 3000 := by
    rcases items with _ | ⟨c, _ | ⟨d, _ | ⟨x, r⟩⟩⟩
    · simp [idL, subR]
    · have := hz c (by simp); simp [idL, subR, strL_len]; (first | lia | omega)
    · have := hz c (by simp); have := hz d (by simp); simp [idL, subR, strL_len]; (first | lia | omega)
    · simp at hc
  refine rp_kind (pk := .tuple [.str 3, .int (n : Nat), subD items]) hi hm' (by (first | lia | omega)) rfl (fun a found P hd hl ha hP => ?_) (write_sub (by decide) hz hc hk)
  refine is_bare_ok (by decide) ?_
  have g0 := get_of_drop hd 0
  have g1 := get_of_drop hd 1
  have ll : (idL n ++ subR items).length = (subR items).length + 2 := by simp [idL]
  refine read_two_ok (by decide) (x := n / 256) (y := n % 256) (by (first | lia | omega)) (by simpa [idL] using g0) (by simpa [idL] using g1) (by (first | lia | omega)) ?_
  have ev : ∀ {x : Nat}, x = n → some (LV.v (.tuple [.str 3, .int (x : Nat), subD items])) = some (LV.v (.tuple [.str 3, .int (n : Nat), subD items])) := fun e => by rw [e]
  have hd2 : (frameL 130 (idL n ++ subR items) ++ more).drop (a + 2) = subR items ++ more := by
    rw [List.append_assoc] at hd
    exact drop_of_drop hd
  generalize frameL 130 (idL n ++ subR items) ++ more = data at *
  generalize (idL n ++ subR items).length = N at *
  clear hk
  refine wl_of (P := fun m σ => ∃ dn td at_ v, items = dn ++ td ∧ td.length = m ∧ data.drop at_ = subR td ++ more ∧ at_ + (subR td).length = a + N ∧
    σ = [(8, .v (.bytes data)), (18, .v (.int ((130 : Nat) : Int))), (26, .v (.str 3)), (39, found), (0, .v (.int (N : Nat))), (7, .v (.int (at_ : Nat))), (38, .v (.int ((a + N : Nat)))), (41, v), (27, .v (.int ((n / 256 * 256 + n % 256 : Nat)))), (35, .own (dn.map fun p => .tuple [.bytes p.1, .int (p.2 : Nat)]))]) (fun m σ w hp hw => ?_) (n := items.length) ⟨[], items, a + 2, _, rfl, rfl, hd2, by (first | lia | omega), rfl⟩
  refine ex4 hp fun dn td at_ v hp2 => ?_
  clear hp
  refine ad5 hp2 fun e1 e2 e3 e4 e5 => ?_
  clear hp2
  subst e5
  cases td with
  | nil =>
    refine br_f (decide_eq_false (by simp [subR] at e4; (first | lia | omega))) ?_
    refine hP _ ?_ rfl
    rw [List.append_nil] at e1
    subst e1
    exact ev (Nat.div_add_mod' n 256)
  | cons cp td =>
    obtain ⟨c, p⟩ := cp
    have hcl : c.length ≤ 1000 := hz (c, p) (by rw [e1]; simp)
    have hdn : dn.length ≤ 1 := by have := congrArg List.length e1; simp at this; (first | lia | omega)
    have e5 : (subR ((c, p) :: td)).length = c.length + 2 + 1 + (subR td).length := by simp [subR, strL_len]; (first | lia | omega)
    have hd3 : data.drop at_ = strL c ++ ([p] ++ (subR td ++ more)) := by rw [e3]; simp [subR]
    have hd4 : data.drop (at_ + 2 + c.length) = [p] ++ (subR td ++ more) := by
      have := drop_of_drop hd3
      rwa [strL_len, show at_ + (c.length + 2) = at_ + 2 + c.length by (first | lia | omega)] at this
    have gp : data[at_ + 2 + c.length]? = some p := by have := get_of_drop hd4 0; simpa using this
    refine br_t (decide_eq_true (by (first | lia | omega))) ?_
    refine read_string_ok (by decide) (t := c) (more := [p] ++ (subR td ++ more)) (by (first | lia | omega)) hd3 (by (first | lia | omega)) ?_
    refine need_ok (by decide) (b := true) (by show some (decide _) = _; rw [decide_eq_true (by (first | lia | omega))]) ?_
    refine br_t rfl ?_
    refine opt_of (a := .int (p : Nat)) (by show (data[at_ + 2 + c.length]?).map _ = _; rw [gp]; rfl) ?_
    refine And.intro (fits_of (by simp; (first | lia | omega))) ?_
    refine hw (m - 1) _ (by simp at e2; (first | lia | omega)) ⟨dn ++ [(c, p)], td, at_ + 2 + c.length + 1, .v (.tuple [.bytes c, .int ((at_ + 2 + c.length : Nat))]), by simp [e1], by simp at e2; (first | lia | omega), ?_, by (first | lia | omega), ?_⟩
    · exact drop_of_drop hd4
    · rw [List.map_append]; rfl
end
end Mine
set_option Elab.async false
set_option maxRecDepth 100000
namespace Mine
set_option tactic.hygienic false
noncomputable def idW (n : Nat) : List Nat := [n / 256 % 256, n % 256]
theorem idW_eq {n : Nat} : idW n = idL (n % 65536) := by
  show [n / 256 % 256, n % 256] = [n % (256 * 256) / 256, n % (256 * 256) % 256]
  rw [Nat.mod_mul_right_div_self, Nat.mod_mul_right_mod]
set_option genInjectivity true in
inductive Pk where
  | pub (dup : Bool) (q : Nat) (retain : Bool) (text : List Nat) (n : Nat) (body : List Nat)
  | ack (k first n : Nat)
  | sub (n : Nat) (items : List (List Nat × Nat))
  | sbk (n : Nat) (cs : List Nat)
  | uns (n : Nat) (items : List (List Nat))
  | bare (k first : Nat)
noncomputable def Pk.d : Pk → D
  | .pub dup q retain text n body => .tuple [.str 6, .bool dup, .int (q : Nat), .bool retain, .bytes text, .int (n : Nat), .bytes body]
  | .ack k _ n => .tuple [.str k, .int (n : Nat)]
  | .sub n items => .tuple [.str 3, .int (n : Nat), subD items]
  | .sbk n cs => .tuple [.str 4, .int (n : Nat), intsD cs]
  | .uns n items => .tuple [.str 5, .int (n : Nat), bytsD items]
  | .bare k _ => .tuple [.str k]
noncomputable def Pk.first : Pk → Nat
  | .pub dup q retain _ _ _ => 48 + 2 * q + 8 * b2n dup + b2n retain
  | .ack _ f _ => f
  | .sub .. => 130
  | .sbk .. => 144
  | .uns .. => 162
  | .bare _ f => f
noncomputable def Pk.rest : Pk → List Nat
  | .pub _ q _ text n body => strL text ++ ((if q = 0 then [] else idW n) ++ body)
  | .ack _ _ n => idW n
  | .sub n items => idW n ++ subR items
  | .sbk n cs => idW n ++ cs
  | .uns n items => idW n ++ unsR items
  | .bare .. => []
noncomputable def Pk.w : Pk → Option (List Nat)
  | .pub dup q retain text n body => pubW dup q retain text n body
  | .ack _ f n => ackW f n
  | .sub n items => subW n items
  | .sbk n cs => sbkW n cs
  | .uns n items => unsW n items
  | .bare _ f => some (frameL f [])
noncomputable def Pk.wf : Pk → Prop
  | .pub _ q _ text n body => q < 3 ∧ (q = 0 → n = 0) ∧ text.length ≤ 1000 ∧ body.length ≤ 1000 ∧ n ≤ 65536
  | .ack k first n => ((k = 9 ∧ first = 64) ∨ (k = 10 ∧ first = 80) ∨ (k = 8 ∧ first = 98) ∨ (k = 11 ∧ first = 112) ∨ (k = 12 ∧ first = 176)) ∧ n ≤ 65536
  | .sub n items => (∀ p ∈ items, p.1.length ≤ 1000) ∧ items.length ≤ 2 ∧ n ≤ 65536
  | .sbk n cs => (∀ c ∈ cs, c < 256) ∧ cs.length ≤ 2 ∧ n ≤ 65536
  | .uns n items => (∀ p ∈ items, p.length ≤ 1000) ∧ items.length ≤ 2 ∧ n ≤ 65536
  | .bare k first => (k = 0 ∧ first = 192) ∨ (k = 1 ∧ first = 208) ∨ (k = 2 ∧ first = 224)
noncomputable def Pk.wire (p : Pk) : List Nat := frameL p.first p.rest
theorem nok {n : Nat} (h : idOk (n : Int) = true) : n % 65536 = n := by
  have := of_decide_eq_true h; (first | lia | omega)
theorem bad0 {n : Nat} (hn : n ≤ 65536) (h : n % 65536 ≠ n) : idOk (n : Int) = false ∧ n % 65536 = 0 := by
  have : n = 65536 := by (first | lia | omega)
  subst this; exact ⟨by decide, rfl⟩
theorem Pk.w_eq {p : Pk} (hp : p.wf) {b : List Nat} (h : p.w = some b) : b = p.wire := by
  cases p with
  | pub dup q retain text n body =>
    simp only [Pk.w, pubW] at h
    split at h
    · rename_i h1
      cases h
      show _ = frameL _ _
      simp only [Pk.first, Pk.rest, pubRest]
      by_cases h0 : q = 0
      · simp [h0]
      · have : idOk (n : Int) = true := by
          simp only [pubOk, Bool.and_eq_true, if_neg h0] at h1; exact h1.2
        rw [if_neg h0, if_neg h0, idW_eq, nok this]; rfl
    · cases h
  | ack k f n =>
    simp only [Pk.w, ackW] at h
    split at h
    · rename_i h1; cases h; simp only [Pk.wire, Pk.first, Pk.rest]; rw [idW_eq, nok h1]; rfl
    · cases h
  | sub n items =>
    simp only [Pk.w, subW] at h
    split at h
    · rename_i h1; simp only [Bool.and_eq_true] at h1; cases h; simp only [Pk.wire, Pk.first, Pk.rest]; rw [idW_eq, nok h1.1]; rfl
    · cases h
  | sbk n cs =>
    simp only [Pk.w, sbkW] at h
    split at h
    · rename_i h1; simp only [Bool.and_eq_true] at h1; cases h; simp only [Pk.wire, Pk.first, Pk.rest]; rw [idW_eq, nok h1.1]; rfl
    · cases h
  | uns n items =>
    simp only [Pk.w, unsW] at h
    split at h
    · rename_i h1; simp only [Bool.and_eq_true] at h1; cases h; simp only [Pk.wire, Pk.first, Pk.rest]; rw [idW_eq, nok h1.1]; rfl
    · cases h
  | bare k f => simp only [Pk.w] at h; cases h; rfl
theorem subR_len : ∀ {items : List (List Nat × Nat)}, (∀ p ∈ items, p.1.length ≤ 1000) → (subR items).length ≤ 1003 * items.length
  | [], _ => by simp [subR]
  | (c, p) :: r, h => by
    have h1 := subR_len (items := r) fun q hq => h q (List.mem_cons_of_mem _ hq)
    have h2 : c.length ≤ 1000 := h (c, p) List.mem_cons_self
    simp only [subR, List.length_append, strL_len, List.length_cons, List.length_nil]; (first | lia | omega)
theorem unsR_len : ∀ {items : List (List Nat)}, (∀ p ∈ items, p.length ≤ 1000) → (unsR items).length ≤ 1003 * items.length
  | [], _ => by simp [unsR]
  | c :: r, h => by
    have h1 := unsR_len (items := r) fun q hq => h q (List.mem_cons_of_mem _ hq)
    have h2 : c.length ≤ 1000 := h c List.mem_cons_self
    simp only [unsR, List.length_append, strL_len, List.length_cons]; (first | lia | omega)
theorem Pk.rest_len {p : Pk} (hp : p.wf) : p.rest.length < 3000 := by
  cases p with
  | pub dup q retain text n body =>
    obtain ⟨h1, h2, h3, h4, h5⟩ := hp
    simp only [Pk.rest, List.length_append, strL_len]
    split <;> simp [idW] <;> (first | lia | omega)
  | ack k f n => simp [Pk.rest, idW]
  | sub n items => have := subR_len hp.1; have := hp.2.1; simp only [Pk.rest, idW, List.length_append, List.length_cons, List.length_nil]; (first | lia | omega)
  | sbk n cs => have := hp.2.1; simp only [Pk.rest, idW, List.length_append, List.length_cons, List.length_nil]; (first | lia | omega)
  | uns n items => have := unsR_len hp.1; have := hp.2.1; simp only [Pk.rest, idW, List.length_append, List.length_cons, List.length_nil]; (first | lia | omega)
  | bare k f => simp [Pk.rest]
theorem Pk.first_lt {p : Pk} (hp : p.wf) : p.first < 256 := by
  cases p with
  | pub dup q retain text n body => rcases c3 _ hp.1 with rfl | rfl | rfl <;> cases dup <;> cases retain <;> exact Nat.le_of_ble_eq_true rfl
  | ack k f n => rcases hp.1 with ⟨_, rfl⟩ | ⟨_, rfl⟩ | ⟨_, rfl⟩ | ⟨_, rfl⟩ | ⟨_, rfl⟩ <;> exact Nat.le_of_ble_eq_true rfl
  | bare k f => rcases hp with ⟨_, rfl⟩ | ⟨_, rfl⟩ | ⟨_, rfl⟩ <;> exact Nat.le_of_ble_eq_true rfl
  | _ => exact Nat.le_of_ble_eq_true rfl
section
variable {H : HSpec} {i : Nat} {K : D → Prop} {X : Prop}
theorem Pk.write {p : Pk} (hp : p.wf) (hi : 20 < i) (hk : wOut p.w K X) : PhiUp globD H 100 parF bodF i 20 [.v p.d] K X := by
  cases p with
  | pub dup q retain text n body => exact write_pub hi hp.1 (by have := hp.2.2.2.1; (first | lia | omega)) hk
  | ack k f n => exact write_ack hi hp.1 hk
  | sub n items => exact write_sub hi hp.1 hp.2.1 hk
  | sbk n cs => exact write_sbk hi hp.1 hp.2.1 hk
  | uns n items => exact write_uns hi hp.1 hp.2.1 hk
  | bare k f => exact write_bare hi hp hk
theorem Pk.read {p : Pk} (hp : p.wf) (hi : 23 < i) {more : List Nat} (hk : wOut p.w (fun _ => K (.tuple [p.d, .int (p.wire.length : Nat)])) X) : PhiUp globD H 100 parF bodF i 23 [.v (.bytes (p.wire ++ more))] K X := by
  cases p with
  | pub dup q retain text n body =>
    obtain ⟨h1, h2, h3, h4, h5⟩ := hp
    by_cases hb : (dup && decide (q = 0)) = true
    · simp only [Bool.and_eq_true, decide_eq_true_eq] at hb
      obtain ⟨rfl, rfl⟩ := hb
      have e : Pk.w (.pub true 0 retain text n body) = none := by
        show (if pubOk true 0 text n then _ else none) = none
        rw [if_neg (by simp [pubOk])]
      rw [e] at hk
      have ew : Pk.wire (.pub true 0 retain text n body) ++ more = (48 + 2 * 0 + 8 * b2n true + b2n retain) :: (wlen (Pk.rest (.pub true 0 retain text n body)).length ++ (Pk.rest (.pub true 0 retain text n body) ++ more)) := frame_cons
      rw [ew]
      exact read_bad hi (by cases retain <;> decide) hk
    · have hb' : (dup && decide (q = 0)) = false := by simpa using hb
      by_cases hn : n % 65536 = n
      · have e : Pk.wire (.pub dup q retain text n body) = frameL (48 + 2 * q + 8 * b2n dup + b2n retain) (pubRest q text n body) := by
          simp only [Pk.wire, Pk.first, Pk.rest, pubRest]; rw [idW_eq, hn]; rfl
        rw [e] at hk ⊢
        exact read_pub hi h1 (pubF_of h1 dup retain) hb' (by (first | lia | omega)) h2 (by (first | lia | omega)) (by (first | lia | omega)) hk
      · obtain ⟨b1, b2⟩ := bad0 h5 hn
        have hq : q ≠ 0 := fun h => by rw [h2 h] at hn; exact hn rfl
        have e : Pk.wire (.pub dup q retain text n body) = frameL (48 + 2 * q + 8 * b2n dup + b2n retain) (pubRest q text (0 : Nat) body) := by
          simp only [Pk.wire, Pk.first, Pk.rest, pubRest]; rw [idW_eq, b2]; rfl
        have e2 : Pk.w (.pub dup q retain text n body) = none := by
          show (if pubOk dup q text n then _ else none) = none
          have : pubOk dup q text n = false := by simp only [pubOk, if_neg hq]; rw [show decide (1 ≤ (n : Int) ∧ (n : Int) ≤ 65535) = false from b1]; simp
          rw [this]; rfl
        have e3 : pubW dup q retain text (0 : Nat) body = none := by
          show (if pubOk dup q text (0 : Nat) then _ else none) = none
          have : pubOk dup q text (0 : Nat) = false := by simp [pubOk, if_neg hq]
          rw [this]; rfl
        rw [e2] at hk
        rw [e]
        exact read_pub hi h1 (pubF_of h1 dup retain) hb' (by (first | lia | omega)) (fun _ => rfl) (by (first | lia | omega)) (by (first | lia | omega)) (by rw [e3]; exact hk)
  | ack k f n =>
    by_cases hn : n % 65536 = n
    · have e : Pk.wire (.ack k f n) = frameL f (idL n) := by simp only [Pk.wire, Pk.first, Pk.rest]; rw [idW_eq, hn]
      rw [e] at hk ⊢
      exact read_ack hi (by (first | lia | omega)) hp.1 hk
    · obtain ⟨b1, b2⟩ := bad0 hp.2 hn
      have e : Pk.wire (.ack k f n) = frameL f (idL 0) := by simp only [Pk.wire, Pk.first, Pk.rest]; rw [idW_eq, b2]
      have e2 : Pk.w (.ack k f n) = none := by show (if idOk (n : Int) then _ else none) = _; rw [b1]; rfl
      rw [e2] at hk
      rw [e]
      exact read_ack hi (by (first | lia | omega)) hp.1 (by show wOut (if idOk ((0 : Nat) : Int) then _ else none) _ _; exact hk)
  | sub n items =>
    by_cases hn : n % 65536 = n
    · have e : Pk.wire (.sub n items) = frameL 130 (idL n ++ subR items) := by simp only [Pk.wire, Pk.first, Pk.rest]; rw [idW_eq, hn]
      rw [e] at hk ⊢
      exact read_sub hi (by (first | lia | omega)) hp.1 hp.2.1 hk
    · obtain ⟨b1, b2⟩ := bad0 hp.2.2 hn
      have e : Pk.wire (.sub n items) = frameL 130 (idL 0 ++ subR items) := by simp only [Pk.wire, Pk.first, Pk.rest]; rw [idW_eq, b2]
      have e2 : Pk.w (.sub n items) = none := by show (if idOk (n : Int) && _ then _ else none) = _; rw [b1]; rfl
      rw [e2] at hk
      rw [e]
      exact read_sub hi (by (first | lia | omega)) hp.1 hp.2.1 (by show wOut (if idOk ((0 : Nat) : Int) && _ then _ else none) _ _; exact hk)
  | sbk n cs =>
    by_cases hn : n % 65536 = n
    · have e : Pk.wire (.sbk n cs) = frameL 144 (idL n ++ cs) := by simp only [Pk.wire, Pk.first, Pk.rest]; rw [idW_eq, hn]
      rw [e] at hk ⊢
      exact read_sbk hi (by (first | lia | omega)) hp.1 hp.2.1 hk
    · obtain ⟨b1, b2⟩ := bad0 hp.2.2 hn
      have e : Pk.wire (.sbk n cs) = frameL 144 (idL 0 ++ cs) := by simp only [Pk.wire, Pk.first, Pk.rest]; rw [idW_eq, b2]
      have e2 : Pk.w (.sbk n cs) = none := by show (if idOk (n : Int) && _ then _ else none) = _; rw [b1]; rfl
      rw [e2] at hk
      rw [e]
      exact read_sbk hi (by (first | lia | omega)) hp.1 hp.2.1 (by show wOut (if idOk ((0 : Nat) : Int) && _ then _ else none) _ _; exact hk)
  | uns n items =>
    by_cases hn : n % 65536 = n
    · have e : Pk.wire (.uns n items) = frameL 162 (idL n ++ unsR items) := by simp only [Pk.wire, Pk.first, Pk.rest]; rw [idW_eq, hn]
      rw [e] at hk ⊢
      exact read_uns hi (by (first | lia | omega)) hp.1 hp.2.1 hk
    · obtain ⟨b1, b2⟩ := bad0 hp.2.2 hn
      have e : Pk.wire (.uns n items) = frameL 162 (idL 0 ++ unsR items) := by simp only [Pk.wire, Pk.first, Pk.rest]; rw [idW_eq, b2]
      have e2 : Pk.w (.uns n items) = none := by show (if idOk (n : Int) && _ then _ else none) = _; rw [b1]; rfl
      rw [e2] at hk
      rw [e]
      exact read_uns hi (by (first | lia | omega)) hp.1 hp.2.1 (by show wOut (if idOk ((0 : Nat) : Int) && _ then _ else none) _ _; exact hk)
  | bare k f => exact read_bare hi hp hk
/-- a packet that was cut: nothing yet, or a bad first byte -/
theorem Pk.cut {p : Pk} (hp : p.wf) (hi : 23 < i) {c : Nat} (hc : c < p.wire.length) (hk : br (decide (0 < c) && (p.first == 56 || p.first == 57)) X (K .none)) : PhiUp globD H 100 parF bodF i 23 [.v (.bytes (p.wire.take c))] K X := by
  have hl := Pk.rest_len hp
  have good : ∀ {k : Nat}, (k, p.first) ∈ firstsL → PhiUp globD H 100 parF bodF i 23 [.v (.bytes (p.wire.take c))] K X := fun {k} hm => by
    have : (decide (0 < c) && (p.first == 56 || p.first == 57)) = false := by
      have h1 : p.first ≠ 56 := (firsts_not _ hm).2.1
      have h2 : p.first ≠ 57 := (firsts_not _ hm).2.2.1
      rw [beq_eq_false_iff_ne.mpr h1, beq_eq_false_iff_ne.mpr h2, Bool.or_self, Bool.and_false]
    rw [this] at hk
    exact read_kind_cut hi hm (by (first | lia | omega)) hc hk
  cases p with
  | pub dup q retain text n body =>
    by_cases hb : (dup && decide (q = 0)) = true
    · simp only [Bool.and_eq_true, decide_eq_true_eq] at hb
      obtain ⟨rfl, rfl⟩ := hb
      have hf : ((Pk.pub true 0 retain text n body).first == 56 || (Pk.pub true 0 retain text n body).first == 57) = true := by cases retain <;> rfl
      rw [hf, Bool.and_true] at hk
      cases c with
      | zero => rw [phi_lt hi]; exact ⟨rfl, hk⟩
      | succ c =>
        have ew : Pk.wire (.pub true 0 retain text n body) = _ := (List.append_nil _).symm.trans (frame_cons (more := []))
        rw [ew]
        exact read_bad hi (by cases retain; exact .inl rfl; exact .inr rfl) hk
    · have hb' : (dup && decide (q = 0)) = false := by simpa using hb
      have : (decide (0 < c) && ((Pk.pub dup q retain text n body).first == 56 || (Pk.pub dup q retain text n body).first == 57)) = false := by
        have hr : b2n retain ≤ 1 := by cases retain <;> decide
        have hq := hp.1
        have hf : 48 + 2 * q + 8 * b2n dup + b2n retain ≠ 56 ∧ 48 + 2 * q + 8 * b2n dup + b2n retain ≠ 57 := by
          cases dup with
          | false => have e : b2n false = 0 := rfl; rw [e]; (first | lia | omega)
          | true =>
            have e : b2n true = 1 := rfl
            have h0 : q ≠ 0 := fun h => by rw [h] at hb'; cases hb'
            rw [e]; (first | lia | omega)
        show (decide (0 < c) && (48 + 2 * q + 8 * b2n dup + b2n retain == 56 || 48 + 2 * q + 8 * b2n dup + b2n retain == 57)) = false
        rw [beq_eq_false_iff_ne.mpr hf.1, beq_eq_false_iff_ne.mpr hf.2, Bool.or_self, Bool.and_false]
      rw [this] at hk
      exact read_pub_cut hi hp.1 (pubF_of hp.1 dup retain) hb' (by (first | lia | omega)) hc hk
  | ack k f n => exact good (k := k) (ack_mem hp.1)
  | sub n items => exact good (k := 3) (show ((3, 130) : Nat × Nat) ∈ firstsL by decide)
  | sbk n cs => exact good (k := 4) (show ((4, 144) : Nat × Nat) ∈ firstsL by decide)
  | uns n items => exact good (k := 5) (show ((5, 162) : Nat × Nat) ∈ firstsL by decide)
  | bare k f => exact good (k := k) (bare_mem hp)
end
end Mine
set_option Elab.async false
set_option maxRecDepth 100000
namespace Mine
set_option tactic.hygienic false
noncomputable def tab : Nat → List Nat
  | 0 => [97]
  | 1 => [98]
  | 2 => []
  | 3 => [36, 115]
  | 4 => [43]
  | 5 => [35]
  | 6 => [0]
  | 7 => [97, 43]
  | _ => [35, 98]
noncomputable def textL : List Nat → List Nat
  | [] => []
  | [x] => tab x
  | x :: r => tab x ++ [47] ++ textL r
noncomputable def natsD (l : List Nat) : D := .list (l.map fun (c : Nat) => .int c)
theorem tab_idx {x : Nat} (h : x < 9) : D.idx (.tuple [.bytes [97], .bytes [98], .bytes [], .bytes [36, 115], .bytes [43], .bytes [35], .bytes [0], .bytes [97, 43], .bytes [35, 98]]) (.int (x : Nat)) = some (.bytes (tab x)) := by
  have : x = 0 ∨ x = 1 ∨ x = 2 ∨ x = 3 ∨ x = 4 ∨ x = 5 ∨ x = 6 ∨ x = 7 ∨ x = 8 := c9 _ (by assumption)
  rcases this with rfl | rfl | rfl | rfl | rfl | rfl | rfl | rfl | rfl <;> rfl
section
variable {H : HSpec} {i : Nat} {K : D → Prop} {X : Prop}
theorem law_read_ok (hi : 28 < i) {d : D} (h : PhiUp globD H 100 parF bodF 28 23 [.v d] K (K (.str 7))) : PhiUp globD H 100 parF bodF i 28 [.v d] K X := by
  rw [phi_lt hi]
  refine ⟨rfl, ?_⟩
  exact h
theorem law_write_ok (hi : 29 < i) {d : D} (h : PhiUp globD H 100 parF bodF 29 20 [.v d] K (K (.str 7))) : PhiUp globD H 100 parF bodF i 29 [.v d] K X := by
  rw [phi_lt hi]
  refine ⟨rfl, ?_⟩
  exact h
theorem ge_t {n : Nat} (k : Nat) (h : k ≤ n) : decide ((n : Int) ≥ (k : Int)) = true := decide_eq_true (Int.ofNat_le.mpr h)
theorem ge_f {n : Nat} (k : Nat) (h : n < k) : decide ((n : Int) ≥ (k : Int)) = false := decide_eq_false fun q => Nat.not_le.mpr h (Int.ofNat_le.mp q)
theorem m256 {m : Nat} (h : m < 128) : m % 256 = m % 128 := by rw [Nat.mod_eq_of_lt h, Nat.mod_eq_of_lt (Nat.lt_trans h (by decide))]
theorem law_size_ok (hi : 25 < i) {n : Nat} (hn : n < 16384) (hk : K (.bytes (wlen n))) : PhiUp globD H 100 parF bodF i 25 [.v (.int (n : Nat))] K X := by
  rw [phi_lt hi]
  refine ⟨rfl, ?_⟩
  by_cases h1 : n < 128
  · refine br_f (ge_f 128 h1) (br_f (ge_f 16384 hn) (br_f (ge_f 2097152 (Nat.lt_trans hn (by decide))) (opt_of (a := .bytes (wlen n)) ?_ hk)))
    show (bytesOfL [D.int ((n / (0 + 1) % (255 + 1) : Nat) : Int)]).map D.bytes = _
    rw [show n / (0 + 1) % (255 + 1) = n % 128 by rw [Nat.div_one]; exact m256 h1, wlen_lt h1]
    exact bytesOf_one (Nat.lt_trans (Nat.mod_lt _ (by decide)) (by decide : 128 < 256))
  · have h2 : n / 128 < 128 := Nat.div_lt_of_lt_mul hn
    refine br_t (ge_t 128 (Nat.not_lt.mp h1)) (br_f (ge_f 16384 hn) (br_f (ge_f 2097152 (Nat.lt_trans hn (by decide))) (opt_of (a := .bytes (wlen n)) ?_ hk)))
    show (bytesOfL [D.int ((n / (0 + 1) % (127 + 1) + 128 : Nat) : Int), D.int ((n / (127 + 1) % (255 + 1) : Nat) : Int)]).map D.bytes = _
    rw [Nat.div_one, show n / (127 + 1) % (255 + 1) = n / 128 % 128 from m256 h2, wlen_big h1, wlen_lt h2]
    exact bytesOf_two (Nat.add_lt_add_right (Nat.mod_lt _ (by decide)) 128) (Nat.lt_trans (Nat.mod_lt _ (by decide)) (by decide : 128 < 256))
theorem law_text_ok (hi : 26 < i) {l : List Nat} (hl : l.length ≤ 3) (hb : ∀ x ∈ l, x < 9) (hk : K (.bytes (textL l))) : PhiUp globD H 100 parF bodF i 26 [.v (natsD l)] K X := by
  rw [phi_lt hi]
  refine ⟨rfl, ?_⟩
  have tl : ∀ {x : Nat}, (tab x).length ≤ 2 := fun {x} => by unfold tab; split <;> decide
  rcases l with _ | ⟨a, _ | ⟨b, _ | ⟨c, _ | ⟨d, r⟩⟩⟩⟩
  · exact hk
  · refine opt_of (tab_idx (hb a (by simp))) ?_
    refine opt_of (a := .bytes (textL [a])) ?_ hk
    show gd (fits (tab a).length) (D.bytes (tab a)) = _
    rw [fits_of (by have := tl (x := a); (first | lia | omega))]; rfl
  · refine opt_of (tab_idx (hb a (by simp))) ?_
    refine opt_of (tab_idx (hb b (by simp))) ?_
    refine opt_of (a := .bytes (textL [a, b])) ?_ hk
    show gd (fits (tab a ++ [47] ++ tab b).length) (D.bytes (tab a ++ [47] ++ tab b)) = _
    rw [fits_of (by have := tl (x := a); have := tl (x := b); simp; (first | lia | omega))]; rfl
  · refine opt_of (tab_idx (hb a (by simp))) ?_
    refine opt_of (tab_idx (hb b (by simp))) ?_
    refine opt_of (tab_idx (hb c (by simp))) ?_
    refine opt_of (a := .bytes (textL [a, b, c])) ?_ hk
    show gd (fits (tab a ++ [47] ++ (tab b ++ [47] ++ tab c)).length) (D.bytes (tab a ++ [47] ++ (tab b ++ [47] ++ tab c))) = _
    rw [fits_of (by have := tl (x := a); have := tl (x := b); have := tl (x := c); simp; (first | lia | omega))]; rfl
  · simp at hl
theorem law_answer_ping (hi : 33 < i) (hk : K (.bytes [208, 0])) : PhiUp globD H 100 parF bodF i 33 [.v (.tuple [.str 1])] K X := by
  rw [phi_lt hi]
  exact ⟨rfl, hk⟩
theorem law_answer_ok (hi : 33 < i) {k f n : Nat} (hm : (k = 9 ∧ f = 64) ∨ (k = 10 ∧ f = 80) ∨ (k = 11 ∧ f = 112)) (hn : n < 65536) (hk : K (.bytes ([f, 2] ++ idL n))) : PhiUp globD H 100 parF bodF i 33 [.v (.tuple [.str k, .int (n : Nat)])] K X := by
  rw [phi_lt hi]
  refine ⟨rfl, ?_⟩
  have e : idL n = [((n : Nat) : Int).toNat / 256 % 256, ((n : Nat) : Int).toNat % 256] := by show [n / 256, n % 256] = [n / 256 % 256, n % 256]; rw [Nat.mod_eq_of_lt (by (first | lia | omega) : n / 256 < 256)]
  rcases hm with ⟨rfl, rfl⟩ | ⟨rfl, rfl⟩ | ⟨rfl, rfl⟩
  all_goals
    refine law_two_ok (by decide) (by (first | lia | omega)) ?_
    rw [e] at hk
    exact hk
end
end Mine
set_option Elab.async false
set_option maxRecDepth 100000
namespace Mine
set_option tactic.hygienic false
noncomputable def blen : Nat → Nat
  | 0 => 0
  | 1 => 1
  | _ => 124
noncomputable def pubOf (q n c : Nat) (text : List Nat) : Pk := .pub (decide (c % 2 = 1)) q (decide (c / 2 % 2 = 1)) text (if q = 0 then 0 else n) (List.replicate (blen (c / 4)) c)
noncomputable def Pk.out (p : Pk) : D := .tuple [p.d, .int (p.first : Nat), .bytes p.rest, .bool p.w.isSome]
theorem isSome_if {α : Type} {b : Bool} {x : α} : (if b then some x else none).isSome = b := by cases b <;> rfl
theorem b2n_dec {n : Nat} : b2n (decide (n % 2 = 1)) = n % 2 := by
  unfold b2n
  by_cases h : n % 2 = 1
  · simp [h]
  · have : n % 2 = 0 := by (first | lia | omega)
    simp [this]
theorem idx_tuple {l : List D} {z : Int} : D.idx (.tuple l) (.int z) = at? l z := rfl
noncomputable def idZ (n : Nat) : List Nat := [((n : Nat) : Int).toNat / 256 % 256, ((n : Nat) : Int).toNat % 256]
theorem idZ_len {t : List Nat} (h : t.length ≤ 1000) : idZ t.length ++ t = strL t := by
  show [t.length / 256 % 256, t.length % 256] ++ t = strL t
  rw [Nat.mod_eq_of_lt (by (first | lia | omega) : t.length / 256 < 256)]; rfl
theorem fits_add {a b : List Nat} (ha : a.length ≤ 5000) (hb : b.length ≤ 5000) : binop .Add (.bytes a) (.bytes b) = some (.bytes (a ++ b)) := by
  show gd (fits (a.length + b.length)) _ = _
  rw [fits_of (by (first | lia | omega))]; rfl
theorem mul_lit {a b : Int} (h : small a = true) : binop .Mult (.int a) (.int b) = some (.int (a * b)) := by
  show gd (small b || small a) _ = _
  rw [h, Bool.or_true]; rfl
section
variable {H : HSpec} {i : Nat} {K : D → Prop} {X : Prop}
theorem lp_head {q n c : Nat} {text : List Nat} {good : Bool} {P XX : Loc → Prop} {R : D → Loc → Prop} (hc : c < 12) (ht : text.length ≤ 1000)
    (hP : P [(28, .v (.int (q : Nat))), (11, .v (.int (n : Nat))), (29, .v (.int (c : Nat))), (10, .v (.bytes text)), (48, .v (.bool good)), (31, .v (.bool (decide (c % 2 = 1)))), (32, .v (.bool (decide (c / 2 % 2 = 1)))), (33, .v (.bytes (List.replicate (blen (c / 4)) c))), (2, .v (.bytes (strL text)))]) :
    xSs (PhiUp globD H 100 parF bodF 30) globD H 100 (b_law_publish.take 4) [(28, .v (.int (q : Nat))), (11, .v (.int (n : Nat))), (29, .v (.int (c : Nat))), (10, .v (.bytes text)), (48, .v (.bool good))] P R XX := by
  have es : idZ text.length ++ text = strL text := idZ_len ht
  have hc12 : c = 0 ∨ c = 1 ∨ c = 2 ∨ c = 3 ∨ c = 4 ∨ c = 5 ∨ c = 6 ∨ c = 7 ∨ c = 8 ∨ c = 9 ∨ c = 10 ∨ c = 11 := c12 _ (by assumption)
  rcases hc12 with rfl | rfl | rfl | rfl | rfl | rfl | rfl | rfl | rfl | rfl | rfl | rfl
  all_goals
    refine law_two_ok (by decide) (by (first | lia | omega)) ?_
    refine opt_of ((fits_add (a := idZ text.length) (by simp [idZ]) (by (first | lia | omega))).trans (by rw [es])) ?_
    exact hP
theorem lp_tail {q n : Nat} {z : Int} {text body : List Nat} {dup retain : Bool} (hq : q < 3) (ht : text.length ≤ 1000) (hb : body.length ≤ 1000)
    (ev : ∀ {ok : Bool} {m : Int} {r : List Nat}, m = ((if q = 0 then 0 else n : Nat) : Int) → r = strL text ++ ((if q = 0 then [] else idW n) ++ body) → ok = pubOk dup q text ((if q = 0 then 0 else n : Nat) : Int) →
      K (.tuple [.tuple [.str 6, .bool dup, .int (q : Nat), .bool retain, .bytes text, .int m, .bytes body], .int (48 + 8 * (z % ((1 + 1 : Nat) : Int)) + 2 * (q : Int) + z / ((1 + 1 : Nat) : Int) % ((1 + 1 : Nat) : Int)), .bytes r, .bool ok])) (hz : small z = true) :
    xSs (PhiUp globD H 100 parF bodF 30) globD H 96 (b_law_publish.drop 4) [(28, .v (.int (q : Nat))), (11, .v (.int (n : Nat))), (29, .v (.int z)), (10, .v (.bytes text)), (48, .v (.bool (topicB text))), (31, .v (.bool dup)), (32, .v (.bool retain)), (33, .v (.bytes body)), (2, .v (.bytes (strL text)))] (fun _ => K .none) (fun d _ => K d) (fun _ => X) := by
  have hsl : (strL text).length = text.length + 2 := strL_len text
  have hq3 : q = 0 ∨ q = 1 ∨ q = 2 := c3 _ (by assumption)
  rcases hq3 with rfl | rfl | rfl
  · have oo : pubOk dup 0 text ((if 0 = 0 then 0 else n : Nat) : Int) = (topicB text && !dup) := by simp [pubOk]
    refine br_of (fun hg => br_of (fun h0 => ?_) (fun h0 => ?_)) (fun hg => ?_)
    · rw [hg] at oo
      refine br_t hg ?_
      refine opt_of (mul_lit (a := 8) rfl) ?_
      refine opt_of rfl ?_
      refine opt_of (fits_add (a := strL text) (b := body) (by (first | lia | omega)) (by (first | lia | omega))) ?_
      exact ev rfl rfl oo.symm
    · rw [hg] at oo
      refine br_t hg ?_
      refine opt_of (mul_lit (a := 8) rfl) ?_
      refine opt_of rfl ?_
      refine opt_of (fits_add (a := strL text) (b := body) (by (first | lia | omega)) (by (first | lia | omega))) ?_
      exact ev rfl rfl oo.symm
    · rw [hg] at oo
      refine br_f hg ?_
      refine opt_of (mul_lit (a := 8) rfl) ?_
      refine opt_of rfl ?_
      refine opt_of (fits_add (a := strL text) (b := body) (by (first | lia | omega)) (by (first | lia | omega))) ?_
      exact ev rfl rfl (hg.trans oo.symm)
  all_goals
    have oo : ∀ q, q ≠ 0 → pubOk dup q text ((if q = 0 then 0 else n : Nat) : Int) = (topicB text && decide (1 ≤ (n : Int) ∧ (n : Int) ≤ 65535)) := fun q hq => by simp only [pubOk, if_neg hq]
    have rr : strL text ++ idZ n ++ body = strL text ++ (idW n ++ body) := by rw [List.append_assoc]; rfl
    refine br_of (fun hg => br_of (fun h0 => ?_) (fun h0 => ?_)) (fun hg => ?_)
    · rw [hg] at oo
      have h0' := of_decide_eq_true h0
      refine law_two_ok (by decide) (by (first | lia | omega)) ?_
      refine opt_of (fits_add (a := strL text) (b := idZ n) (by (first | lia | omega)) (by simp [idZ])) ?_
      refine opt_of (mul_lit (a := 8) rfl) ?_
      refine opt_of rfl ?_
      refine opt_of (fits_add (a := strL text ++ idZ n) (b := body) (by simp [idZ]; (first | lia | omega)) (by (first | lia | omega))) ?_
      refine ev rfl rr (Eq.trans ?_ (oo _ (by decide)).symm)
      rw [Bool.true_and]
      by_cases h1 : (n : Int) < 65536
      · exact (decide_eq_true h1).trans (decide_eq_true (by (first | lia | omega))).symm
      · exact (decide_eq_false h1).trans (decide_eq_false (by (first | lia | omega))).symm
    · rw [hg] at oo
      have h0' := of_decide_eq_false h0
      refine law_two_ok (by decide) (by (first | lia | omega)) ?_
      refine opt_of (fits_add (a := strL text) (b := idZ n) (by (first | lia | omega)) (by simp [idZ])) ?_
      refine opt_of (mul_lit (a := 8) rfl) ?_
      refine opt_of rfl ?_
      refine opt_of (fits_add (a := strL text ++ idZ n) (b := body) (by simp [idZ]; (first | lia | omega)) (by (first | lia | omega))) ?_
      refine ev rfl rr (Eq.trans ?_ (oo _ (by decide)).symm)
      rw [Bool.true_and, decide_eq_false (by (first | lia | omega))]
    · rw [hg] at oo
      refine law_two_ok (by decide) (by (first | lia | omega)) ?_
      refine opt_of (fits_add (a := strL text) (b := idZ n) (by (first | lia | omega)) (by simp [idZ])) ?_
      refine opt_of (mul_lit (a := 8) rfl) ?_
      refine opt_of rfl ?_
      refine opt_of (fits_add (a := strL text ++ idZ n) (b := body) (by simp [idZ]; (first | lia | omega)) (by (first | lia | omega))) ?_
      exact ev rfl rr (hg.trans (oo _ (by decide)).symm)
theorem law_publish_ok (hi : 30 < i) {q n c : Nat} {text : List Nat} (hq : q < 3) (hc : c < 12) (ht : text.length ≤ 1000) (hk : K (pubOf q n c text).out) :
    PhiUp globD H 100 parF bodF i 30 [.v (.int (q : Nat)), .v (.int (n : Nat)), .v (.int (c : Nat)), .v (.bytes text), .v (.bool (topicB text))] K X := by
  rw [phi_lt hi]
  refine ⟨rfl, ?_⟩
  show xSs _ globD H 100 (b_law_publish.take 4 ++ b_law_publish.drop 4) [(28, .v (.int (q : Nat))), (11, .v (.int (n : Nat))), (29, .v (.int (c : Nat))), (10, .v (.bytes text)), (48, .v (.bool (topicB text)))] _ _ _
  rw [ss_app (by decide)]
  refine lp_head hc ht ?_
  refine lp_tail hq ht (by rw [List.length_replicate]; unfold blen; split <;> (first | lia | omega)) ?_ (small_of (by (first | lia | omega)))
  intro ok m r h1 h2 h3
  have e : (pubOf q n c text).out = .tuple [.tuple [.str 6, .bool (decide (c % 2 = 1)), .int (q : Nat), .bool (decide (c / 2 % 2 = 1)), .bytes text, .int m, .bytes (List.replicate (blen (c / 4)) c)], .int (48 + 8 * ((c : Int) % ((1 + 1 : Nat) : Int)) + 2 * (q : Int) + (c : Int) / ((1 + 1 : Nat) : Int) % ((1 + 1 : Nat) : Int)), .bytes r, .bool ok] := by
    have w : (pubOf q n c text).w.isSome = pubOk (decide (c % 2 = 1)) q text ((if q = 0 then 0 else n : Nat) : Int) := isSome_if
    have g : (pubOf q n c text).first = 48 + 2 * q + 8 * (c % 2) + c / 2 % 2 := by
      show 48 + 2 * q + 8 * b2n (decide (c % 2 = 1)) + b2n (decide (c / 2 % 2 = 1)) = _
      rw [b2n_dec, b2n_dec]
    have r' : (pubOf q n c text).rest = strL text ++ ((if q = 0 then [] else idW n) ++ List.replicate (blen (c / 4)) c) := by
      show strL text ++ ((if q = 0 then [] else idW (if q = 0 then 0 else n)) ++ List.replicate (blen (c / 4)) c) = _
      by_cases h0 : q = 0
      · simp [h0]
      · simp [h0]
    have z : (48 + 8 * ((c : Int) % ((1 + 1 : Nat) : Int)) + 2 * (q : Int) + (c : Int) / ((1 + 1 : Nat) : Int) % ((1 + 1 : Nat) : Int)) = ((48 + 2 * q + 8 * (c % 2) + c / 2 % 2 : Nat) : Int) := by (first | lia | omega)
    unfold Pk.out
    rw [w, g, r', z, h1, h2, h3]
    rfl
  rw [← e]; exact hk
end
end Mine
set_option Elab.async false
set_option maxRecDepth 100000
namespace Mine
set_option tactic.hygienic false
noncomputable def ackOf : Nat → Nat × Nat
  | 0 => (9, 64)
  | 1 => (10, 80)
  | 2 => (11, 112)
  | _ => (12, 176)
noncomputable def apl : List Nat := [97, 47, 43]
noncomputable def frameOf (k n c : Nat) (text sieve : List Nat) : Pk :=
  if k = 0 then pubOf 0 n c text else if k = 1 then pubOf 1 n c text else if k < 5 then pubOf 2 n c text
  else if k < 7 then .ack 8 98 n
  else if k = 7 then .ack (ackOf (c % 4)).1 (ackOf (c % 4)).2 n
  else if k = 8 then .sub n ([(sieve, c / 3), (apl, 2)].take (c % 3))
  else if k = 9 then .sbk n ([c / 3, 128].take (c % 3))
  else if k = 10 then .uns n ([sieve, apl].take (c % 3))
  else .bare (c % 3) (192 + 16 * (c % 3))
theorem pubOf_wf {q n c : Nat} {text : List Nat} (hq : q < 3) (hn : n ≤ 65536) (ht : text.length ≤ 1000) : (pubOf q n c text).wf := by
  refine ⟨hq, fun h => by simp [h], ht, ?_, ?_⟩
  · rw [List.length_replicate]; unfold blen; split <;> (first | lia | omega)
  · split <;> (first | lia | omega)
theorem frameOf_wf {k n c : Nat} {text sieve : List Nat} (hc : c < 12) (hn : n ≤ 65536) (ht : text.length ≤ 1000) (hs : sieve.length ≤ 1000) : (frameOf k n c text sieve).wf := by
  unfold frameOf
  split
  · exact pubOf_wf (by decide) hn ht
  split
  · exact pubOf_wf (by decide) hn ht
  split
  · exact pubOf_wf (by decide) hn ht
  split
  · exact ⟨.inr (.inr (.inl ⟨rfl, rfl⟩)), hn⟩
  split
  · refine ⟨?_, hn⟩
    unfold ackOf; split <;> simp
  split
  · refine ⟨fun p hp => ?_, by simp; (first | lia | omega), hn⟩
    have := List.mem_of_mem_take hp
    simp at this; rcases this with rfl | rfl
    · exact hs
    · decide
  split
  · refine ⟨fun p hp => ?_, by simp; (first | lia | omega), hn⟩
    have := List.mem_of_mem_take hp
    simp at this; (first | lia | omega)
  split
  · refine ⟨fun p hp => ?_, by simp; (first | lia | omega), hn⟩
    have := List.mem_of_mem_take hp
    simp at this; rcases this with rfl | rfl
    · exact hs
    · decide
  · have h3 := Nat.mod_lt c (by decide : 0 < 3)
    generalize c % 3 = m at h3 ⊢
    rcases c3 m h3 with rfl | rfl | rfl
    · exact .inl ⟨rfl, rfl⟩
    · exact .inr (.inl ⟨rfl, rfl⟩)
    · exact .inr (.inr ⟨rfl, rfl⟩)
section
variable {H : HSpec} {i : Nat} {K : D → Prop} {X : Prop}
theorem lf_head {k n c : Nat} {text sieve : List Nat} {good sound : Bool} {P XX : Loc → Prop} {R : D → Loc → Prop} (hs : sieve.length ≤ 1000)
    (hP : P [(6, .v (.int (k : Nat))), (11, .v (.int (n : Nat))), (29, .v (.int (c : Nat))), (10, .v (.bytes text)), (48, .v (.bool good)), (50, .v (.bytes sieve)), (51, .v (.bool sound)), (0, .v (.int ((c % 3 : Nat)))), (28, .v (.int ((c / 3 : Nat)))), (47, .v (.bool (idOk n))), (27, .v (.bytes (idW n))), (49, .v (.bytes (strL sieve)))]) :
    xSs (PhiUp globD H 100 parF bodF 31) globD H 100 (b_law_frame.take 5) [(6, .v (.int (k : Nat))), (11, .v (.int (n : Nat))), (29, .v (.int (c : Nat))), (10, .v (.bytes text)), (48, .v (.bool good)), (50, .v (.bytes sieve)), (51, .v (.bool sound))] P R XX := by
  have es : idZ sieve.length ++ sieve = strL sieve := idZ_len hs
  have ev : ∀ {z y : Int} {b : Bool}, z = ((c % 3 : Nat) : Int) → y = ((c / 3 : Nat) : Int) → b = idOk n → P [(6, .v (.int (k : Nat))), (11, .v (.int (n : Nat))), (29, .v (.int (c : Nat))), (10, .v (.bytes text)), (48, .v (.bool good)), (50, .v (.bytes sieve)), (51, .v (.bool sound)), (0, .v (.int z)), (28, .v (.int y)), (47, .v (.bool b)), (27, .v (.bytes (idW n))), (49, .v (.bytes (strL sieve)))] := fun h1 h2 h3 => by rw [h1, h2, h3]; exact hP
  have m3 : (c : Int) % ((2 + 1 : Nat) : Int) = ((c % 3 : Nat) : Int) := rfl
  have d3 : (c : Int) / ((2 + 1 : Nat) : Int) = ((c / 3 : Nat) : Int) := rfl
  refine br_of (fun h0 => ?_) (fun h0 => ?_)
  · have h0' := of_decide_eq_true h0
    refine law_two_ok (by decide) (by (first | lia | omega)) ?_
    refine law_two_ok (by decide) (by (first | lia | omega)) ?_
    refine opt_of ((fits_add (a := idZ sieve.length) (by simp [idZ]) (by (first | lia | omega))).trans (by rw [es])) ?_
    refine ev m3 d3 ?_
    by_cases h1 : (n : Int) < 65536
    · exact (decide_eq_true h1).trans (decide_eq_true (by (first | lia | omega))).symm
    · exact (decide_eq_false h1).trans (decide_eq_false (by (first | lia | omega))).symm
  · have h0' := of_decide_eq_false h0
    refine law_two_ok (by decide) (by (first | lia | omega)) ?_
    refine law_two_ok (by decide) (by (first | lia | omega)) ?_
    refine opt_of ((fits_add (a := idZ sieve.length) (by simp [idZ]) (by (first | lia | omega))).trans (by rw [es])) ?_
    refine ev m3 d3 ?_
    exact (decide_eq_false (by (first | lia | omega))).symm
/-- the frame's values behind the head -/
noncomputable abbrev lfR (k n c nn qq : Nat) (text sieve : List Nat) : Loc := [(6, .v (.int (k : Nat))), (11, .v (.int (n : Nat))), (29, .v (.int (c : Nat))), (10, .v (.bytes text)), (48, .v (.bool (topicB text))), (50, .v (.bytes sieve)), (51, .v (.bool (filterB sieve))), (0, .v (.int (nn : Nat))), (28, .v (.int (qq : Nat))), (47, .v (.bool (idOk n))), (27, .v (.bytes (idW n))), (49, .v (.bytes (strL sieve)))]
theorem lf_low {k n c nn qq : Nat} {text sieve : List Nat} (hk7 : k < 7) (hc : c < 12) (ht : text.length ≤ 1000) (hk : K (frameOf k n c text sieve).out) :
    xSs (PhiUp globD H 100 parF bodF 31) globD H 95 (b_law_frame.drop 5) (lfR k n c nn qq text sieve) (fun _ => K .none) (fun d _ => K d) (fun _ => X) := by
  have h7 := c7 k hk7
  have ak : (Pk.ack 8 98 n).w.isSome = idOk n := isSome_if
  rcases h7 with rfl | rfl | rfl | rfl | rfl | rfl | rfl
  · exact law_publish_ok (by decide) (q := 0) (by decide) hc ht hk
  · exact law_publish_ok (by decide) (q := 1) (by decide) hc ht hk
  · exact law_publish_ok (by decide) (q := 2) (by decide) hc ht hk
  · exact law_publish_ok (by decide) (q := 2) (by decide) hc ht hk
  · exact law_publish_ok (by decide) (q := 2) (by decide) hc ht hk
  all_goals
    replace hk : K (Pk.ack 8 98 n).out := hk
    unfold Pk.out at hk
    rw [ak] at hk
    exact hk
theorem lf_ack {n c nn qq : Nat} {text sieve : List Nat} (hc : c < 12) (hk : K (frameOf 7 n c text sieve).out) :
    xSs (PhiUp globD H 100 parF bodF 31) globD H 95 (b_law_frame.drop 5) (lfR 7 n c nn qq text sieve) (fun _ => K .none) (fun d _ => K d) (fun _ => X) := by
  have ak : ∀ k f, (Pk.ack k f n).w.isSome = idOk n := fun k f => isSome_if
  have e : frameOf 7 n c text sieve = .ack (ackOf (c % 4)).1 (ackOf (c % 4)).2 n := rfl
  rw [e] at hk
  unfold Pk.out at hk
  rw [ak] at hk
  have hc12 : c = 0 ∨ c = 1 ∨ c = 2 ∨ c = 3 ∨ c = 4 ∨ c = 5 ∨ c = 6 ∨ c = 7 ∨ c = 8 ∨ c = 9 ∨ c = 10 ∨ c = 11 := c12 _ (by assumption)
  rcases hc12 with rfl | rfl | rfl | rfl | rfl | rfl | rfl | rfl | rfl | rfl | rfl | rfl
  all_goals exact hk
theorem join_two {a b : List Nat} (ha : a.length ≤ 5000) (hb : b.length ≤ 5000) : D.join [] (.list [.bytes a, .bytes b]) = some (.bytes (a ++ b)) := by
  show gd (fits (a ++ [] ++ b).length) (D.bytes (a ++ [] ++ b)) = _
  rw [fits_of (by simp; (first | lia | omega)), List.append_nil]; rfl
theorem join_three {a b c : List Nat} (ha : a.length ≤ 5000) (hb : b.length ≤ 5000) (hc : c.length ≤ 5000) : D.join [] (.list [.bytes a, .bytes b, .bytes c]) = some (.bytes (a ++ (b ++ c))) := by
  show gd (fits (a ++ [] ++ (b ++ [] ++ c)).length) (D.bytes (a ++ [] ++ (b ++ [] ++ c))) = _
  rw [fits_of (by simp; (first | lia | omega)), List.append_nil, List.append_nil]; rfl
theorem lf_sub {n c nn qq : Nat} {text sieve : List Nat} (hn : nn < 3) (hq : qq < 4) (hs : sieve.length ≤ 1000) (hk : K (Pk.sub n ([(sieve, qq), (apl, 2)].take nn)).out) :
    xSs (PhiUp globD H 100 parF bodF 31) globD H 95 (b_law_frame.drop 5) (lfR 8 n c nn qq text sieve) (fun _ => K .none) (fun d _ => K d) (fun _ => X) := by
  have ev : ∀ {items : List (List Nat × Nat)}, K (Pk.sub n items).out → ∀ {ok : Bool} {r : List Nat}, r = (Pk.sub n items).rest → ok = (Pk.sub n items).w.isSome → K (.tuple [(Pk.sub n items).d, .int ((Pk.sub n items).first : Nat), .bytes r, .bool ok]) := fun hk _ _ h1 h2 => by rw [h1, h2]; exact hk
  have oks : ∀ items, (Pk.sub n items).w.isSome = (idOk n && (!items.isEmpty && items.all subOk)) := fun items => isSome_if
  have hsl : (strL sieve).length = sieve.length + 2 := strL_len sieve
  have h3 : nn = 0 ∨ nn = 1 ∨ nn = 2 := c3 _ (by assumption)
  refine opt_of (bytesOf_one (by (first | lia | omega))) ?_
  refine opt_of (fits_add (a := strL sieve) (b := [qq]) (by (first | lia | omega)) (by simp)) ?_
  rcases h3 with rfl | rfl | rfl
  · have o0 := oks []
    refine br_of (fun h1 => br_of (fun h2 => ?_) (fun h2 => ?_)) (fun h1 => ?_)
    · exact ev hk (by simp [Pk.rest, subR]) (by rw [List.take_zero, o0]; simp)
    · exact ev hk (by simp [Pk.rest, subR]) (by rw [List.take_zero, o0, h2]; simp)
    · exact ev hk (by simp [Pk.rest, subR]) (by rw [List.take_zero, o0, h1]; simp)
  · refine opt_of (join_two (a := idW n) (b := strL sieve ++ [qq]) (by simp [idW]) (by simp; (first | lia | omega))) ?_
    have o0 : (Pk.sub n [(sieve, qq)]).w.isSome = (idOk n && (filterB sieve && decide (qq < 3))) := by rw [oks]; simp [subOk]
    have r0 : idW n ++ (strL sieve ++ [qq]) = (Pk.sub n [(sieve, qq)]).rest := by simp [Pk.rest, subR]
    replace hk : K (Pk.sub n [(sieve, qq)]).out := hk
    refine br_of (fun h1 => br_of (fun h2 => ?_) (fun h2 => ?_)) (fun h1 => ?_)
    · refine ev hk r0 (Eq.trans ?_ o0.symm)
      rw [h1, h2, Bool.true_and, Bool.true_and]
      by_cases h : qq < 3
      · exact (decide_eq_true (by (first | lia | omega))).trans (decide_eq_true h).symm
      · exact (decide_eq_false (by (first | lia | omega))).trans (decide_eq_false h).symm
    · exact ev hk r0 (Eq.trans h2 (by rw [o0, h2]; simp))
    · exact ev hk r0 (Eq.trans h1 (by rw [o0, h1]; simp))
  · refine opt_of (join_three (a := idW n) (b := strL sieve ++ [qq]) (c := [0, 3, 97, 47, 43, 2]) (by simp [idW]) (by simp; (first | lia | omega)) (by simp)) ?_
    have o0 : (Pk.sub n [(sieve, qq), (apl, 2)]).w.isSome = (idOk n && (filterB sieve && decide (qq < 3))) := by
      rw [oks]
      have : subOk (apl, 2) = true := by decide
      simp [this]; simp [subOk]
    have r0 : idW n ++ ((strL sieve ++ [qq]) ++ [0, 3, 97, 47, 43, 2]) = (Pk.sub n [(sieve, qq), (apl, 2)]).rest := by simp [Pk.rest, subR, apl, strL]
    replace hk : K (Pk.sub n [(sieve, qq), (apl, 2)]).out := hk
    refine br_of (fun h1 => br_of (fun h2 => ?_) (fun h2 => ?_)) (fun h1 => ?_)
    · refine ev hk r0 (Eq.trans ?_ o0.symm)
      rw [h1, h2, Bool.true_and, Bool.true_and]
      by_cases h : qq < 3
      · exact (decide_eq_true (by (first | lia | omega))).trans (decide_eq_true h).symm
      · exact (decide_eq_false (by (first | lia | omega))).trans (decide_eq_false h).symm
    · exact ev hk r0 (Eq.trans h2 (by rw [o0, h2]; simp))
    · exact ev hk r0 (Eq.trans h1 (by rw [o0, h1]; simp))
theorem lf_sbk {n c nn qq : Nat} {text sieve : List Nat} (hn : nn < 3) (hq : qq < 4) (hk : K (Pk.sbk n ([qq, 128].take nn)).out) :
    xSs (PhiUp globD H 100 parF bodF 31) globD H 95 (b_law_frame.drop 5) (lfR 9 n c nn qq text sieve) (fun _ => K .none) (fun d _ => K d) (fun _ => X) := by
  have ev : ∀ {items : List Nat}, K (Pk.sbk n items).out → ∀ {ok : Bool} {r : List Nat}, r = (Pk.sbk n items).rest → ok = (Pk.sbk n items).w.isSome → K (.tuple [(Pk.sbk n items).d, .int ((Pk.sbk n items).first : Nat), .bytes r, .bool ok]) := fun hk _ _ h1 h2 => by rw [h1, h2]; exact hk
  have oks : ∀ items, (Pk.sbk n items).w.isSome = (idOk n && (!items.isEmpty && items.all codeOk)) := fun items => isSome_if
  have h3 : nn = 0 ∨ nn = 1 ∨ nn = 2 := c3 _ (by assumption)
  rcases h3 with rfl | rfl | rfl
  · have o0 := oks []
    refine br_of (fun h1 => ?_) (fun h1 => ?_)
    · exact ev hk (by simp [Pk.rest]) (by rw [List.take_zero, o0]; simp)
    · exact ev hk (by simp [Pk.rest]) (by rw [List.take_zero, o0, h1]; simp)
  · refine opt_of (bytesOf_one (by (first | lia | omega))) ?_
    refine opt_of (fits_add (a := idW n) (b := [qq]) (by simp [idW]) (by simp)) ?_
    have o0 : (Pk.sbk n [qq]).w.isSome = (idOk n && codeOk qq) := by rw [oks]; simp
    replace hk : K (Pk.sbk n [qq]).out := hk
    refine br_of (fun h1 => ?_) (fun h1 => ?_)
    · refine ev hk rfl (Eq.trans ?_ o0.symm)
      rw [h1, Bool.true_and]
      by_cases h : qq < 3
      · exact (decide_eq_true (by (first | lia | omega))).trans (decide_eq_true (by (first | lia | omega))).symm
      · exact (decide_eq_false (by (first | lia | omega))).trans (decide_eq_false (by (first | lia | omega))).symm
    · exact ev hk rfl (Eq.trans h1 (by rw [o0, h1]; simp))
  · refine opt_of (bytesOf_two (by (first | lia | omega)) (by decide)) ?_
    refine opt_of (fits_add (a := idW n) (b := [qq, 128]) (by simp [idW]) (by simp)) ?_
    have o0 : (Pk.sbk n [qq, 128]).w.isSome = (idOk n && codeOk qq) := by
      rw [oks]
      have : codeOk 128 = true := by decide
      simp [this]
    replace hk : K (Pk.sbk n [qq, 128]).out := hk
    refine br_of (fun h1 => ?_) (fun h1 => ?_)
    · refine ev hk rfl (Eq.trans ?_ o0.symm)
      rw [h1, Bool.true_and]
      by_cases h : qq < 3
      · exact (decide_eq_true (by (first | lia | omega))).trans (decide_eq_true (by (first | lia | omega))).symm
      · exact (decide_eq_false (by (first | lia | omega))).trans (decide_eq_false (by (first | lia | omega))).symm
    · exact ev hk rfl (Eq.trans h1 (by rw [o0, h1]; simp))
theorem lf_uns {n c nn qq : Nat} {text sieve : List Nat} (hn : nn < 3) (hs : sieve.length ≤ 1000) (hk : K (Pk.uns n ([sieve, apl].take nn)).out) :
    xSs (PhiUp globD H 100 parF bodF 31) globD H 95 (b_law_frame.drop 5) (lfR 10 n c nn qq text sieve) (fun _ => K .none) (fun d _ => K d) (fun _ => X) := by
  have ev : ∀ {items : List (List Nat)}, K (Pk.uns n items).out → ∀ {ok : Bool} {r : List Nat}, r = (Pk.uns n items).rest → ok = (Pk.uns n items).w.isSome → K (.tuple [(Pk.uns n items).d, .int ((Pk.uns n items).first : Nat), .bytes r, .bool ok]) := fun hk _ _ h1 h2 => by rw [h1, h2]; exact hk
  have oks : ∀ items, (Pk.uns n items).w.isSome = (idOk n && (!items.isEmpty && items.all filterB)) := fun items => isSome_if
  have hsl : (strL sieve).length = sieve.length + 2 := strL_len sieve
  have h3 : nn = 0 ∨ nn = 1 ∨ nn = 2 := c3 _ (by assumption)
  rcases h3 with rfl | rfl | rfl
  · have o0 := oks []
    refine br_of (fun h1 => br_of (fun h2 => ?_) (fun h2 => ?_)) (fun h1 => ?_)
    · exact ev hk (by simp [Pk.rest, unsR]) (by rw [List.take_zero, o0]; simp)
    · exact ev hk (by simp [Pk.rest, unsR]) (by rw [List.take_zero, o0, h2]; simp)
    · exact ev hk (by simp [Pk.rest, unsR]) (by rw [List.take_zero, o0, h1]; simp)
  · refine opt_of (join_two (a := idW n) (b := strL sieve) (by simp [idW]) (by (first | lia | omega))) ?_
    have o0 : (Pk.uns n [sieve]).w.isSome = (idOk n && filterB sieve) := by rw [oks]; simp
    have r0 : idW n ++ strL sieve = (Pk.uns n [sieve]).rest := by simp [Pk.rest, unsR]
    replace hk : K (Pk.uns n [sieve]).out := hk
    refine br_of (fun h1 => br_of (fun h2 => ?_) (fun h2 => ?_)) (fun h1 => ?_)
    · exact ev hk r0 (by rw [o0, h1, h2]; rfl)
    · exact ev hk r0 (Eq.trans h2 (by rw [o0, h2]; simp))
    · exact ev hk r0 (Eq.trans h1 (by rw [o0, h1]; simp))
  · refine opt_of (join_three (a := idW n) (b := strL sieve) (c := [0, 3, 97, 47, 43]) (by simp [idW]) (by (first | lia | omega)) (by simp)) ?_
    have o0 : (Pk.uns n [sieve, apl]).w.isSome = (idOk n && filterB sieve) := by
      rw [oks]
      have : filterB apl = true := by decide
      simp [this]
    have r0 : idW n ++ (strL sieve ++ [0, 3, 97, 47, 43]) = (Pk.uns n [sieve, apl]).rest := by simp [Pk.rest, unsR, apl, strL]
    replace hk : K (Pk.uns n [sieve, apl]).out := hk
    refine br_of (fun h1 => br_of (fun h2 => ?_) (fun h2 => ?_)) (fun h1 => ?_)
    · exact ev hk r0 (by rw [o0, h1, h2]; rfl)
    · exact ev hk r0 (Eq.trans h2 (by rw [o0, h2]; simp))
    · exact ev hk r0 (Eq.trans h1 (by rw [o0, h1]; simp))
theorem lf_bare {n c nn qq : Nat} {text sieve : List Nat} (hn : nn < 3) (hk : K (Pk.bare nn (192 + 16 * nn)).out) :
    xSs (PhiUp globD H 100 parF bodF 31) globD H 95 (b_law_frame.drop 5) (lfR 11 n c nn qq text sieve) (fun _ => K .none) (fun d _ => K d) (fun _ => X) := by
  have h3 : nn = 0 ∨ nn = 1 ∨ nn = 2 := c3 _ (by assumption)
  rcases h3 with rfl | rfl | rfl
  all_goals exact hk
theorem law_frame_ok (hi : 31 < i) {k n c : Nat} {text sieve : List Nat} (hk12 : k < 12) (hc : c < 12) (ht : text.length ≤ 1000) (hs : sieve.length ≤ 1000) (hk : K (frameOf k n c text sieve).out) :
    PhiUp globD H 100 parF bodF i 31 [.v (.int (k : Nat)), .v (.int (n : Nat)), .v (.int (c : Nat)), .v (.bytes text), .v (.bool (topicB text)), .v (.bytes sieve), .v (.bool (filterB sieve))] K X := by
  rw [phi_lt hi]
  refine ⟨rfl, ?_⟩
  show xSs _ globD H 100 (b_law_frame.take 5 ++ b_law_frame.drop 5) [(6, .v (.int (k : Nat))), (11, .v (.int (n : Nat))), (29, .v (.int (c : Nat))), (10, .v (.bytes text)), (48, .v (.bool (topicB text))), (50, .v (.bytes sieve)), (51, .v (.bool (filterB sieve)))] _ _ _
  rw [ss_app (by decide)]
  refine lf_head hs ?_
  show xSs _ globD H 95 (b_law_frame.drop 5) (lfR k n c (c % 3) (c / 3) text sieve) _ _ _
  by_cases h7 : k < 7
  · exact lf_low h7 hc ht hk
  have h := c7b k hk12 h7
  rcases h with rfl | rfl | rfl | rfl | rfl
  · exact lf_ack hc hk
  · exact lf_sub (by (first | lia | omega)) (by (first | lia | omega)) hs hk
  · exact lf_sbk (by (first | lia | omega)) (by (first | lia | omega)) hk
  · exact lf_uns (by (first | lia | omega)) hs hk
  · exact lf_bare (by (first | lia | omega)) hk
end
end Mine
set_option Elab.async false
set_option maxRecDepth 100000
namespace Mine
set_option tactic.hygienic false
/-- the handling of a packet -/
noncomputable abbrev HH : HSpec := HS globD 100 72 30 b_m_handle
/-- what a packet says of an id -/
noncomputable def Pk.say (m : Nat) : Pk → List Nat
  | .pub _ q _ _ n _ => if q = 2 ∧ n = m then [6] else []
  | .ack k _ n => if k = 8 ∧ n = m then [8] else []
  | _ => []
noncomputable def saidOf (m : Nat) (past : List Pk) : List Nat := past.flatMap (Pk.say m)
noncomputable def heldB (past : List Pk) (m : Nat) : Bool := (saidOf m past).getLast? == some 6
noncomputable def Pk.evs (past : List Pk) : Pk → List D
  | .pub _ q _ text n body => if q = 0 then [.tuple [.str 14, .bytes text, .bytes body]] else if q = 1 then [.tuple [.str 14, .bytes text, .bytes body], .tuple [.str 13, .tuple [.str 9, .int (n : Nat)]]]
    else (if heldB past n then [] else [.tuple [.str 14, .bytes text, .bytes body]]) ++ [.tuple [.str 13, .tuple [.str 10, .int (n : Nat)]]]
  | .ack k _ n => if k = 8 then [.tuple [.str 13, .tuple [.str 11, .int (n : Nat)]]] else []
  | .bare k _ => if k = 0 then [.tuple [.str 13, .tuple [.str 1]]] else []
  | _ => []
theorem saidOf_app (m : Nat) (a b : List Pk) : saidOf m (a ++ b) = saidOf m a ++ saidOf m b := by unfold saidOf; rw [List.flatMap_append]
theorem said_one (m : Nat) (p : Pk) : saidOf m [p] = p.say m := by unfold saidOf; simp
/-- the ids that the receiver holds are those that the past says -/
noncomputable def HeldOk (held : List Int) (past : List Pk) : Prop := held.length ≤ past.length ∧ ∀ m : Nat, held.contains (m : Int) = heldB past m
theorem held_nil : HeldOk [] [] := ⟨by simp, fun m => rfl⟩
theorem heldB_app {past : List Pk} {p : Pk} {m : Nat} : heldB (past ++ [p]) m = match p.say m with
    | [] => heldB past m
    | x :: r => (x :: r).getLast? == some 6 := by
  unfold heldB
  rw [saidOf_app, said_one]
  cases p.say m with
  | nil => rw [List.append_nil]
  | cons x r => show _ = ((x :: r).getLast? == some 6); rw [List.getLast?_append, List.getLast?_cons]; rfl
theorem handle_pk {p : Pk} (hp : p.wf) {held : List Int} {past : List Pk} (h : HeldOk held past) (hl : past.length ≤ 1000) {CC : D → List Int → Prop} (hk : ∀ held', HeldOk held' (past ++ [p]) → CC (.list (p.evs past)) held') : HH p.d held CC := by
  obtain ⟨h1, h2⟩ := h
  have keep : (∀ m, p.say m = []) → HeldOk held (past ++ [p]) := fun hs => ⟨by simp; (first | lia | omega), fun m => by rw [h2, heldB_app, hs]⟩
  cases p with
  | pub dup q retain text n body =>
    have hq3 : q = 0 ∨ q = 1 ∨ q = 2 := by have := hp.1; (first | lia | omega)
    rcases hq3 with rfl | rfl | rfl
    · exact hk held (keep fun _ => rfl)
    · exact hk held (keep fun _ => rfl)
    · have sd : ∀ m, Pk.say m (.pub dup 2 retain text n body) = if n = m then [6] else [] := fun m => by simp [Pk.say]
      refine And.intro (fits_of (by (first | lia | omega))) ?_
      have fin : ∀ {held' : List Int} {e : List D}, held' = (if held.contains (n : Int) then held else held ++ [(n : Int)]) → e = (if heldB past n then [] else [.tuple [.str 14, .bytes text, .bytes body]]) ++ [.tuple [.str 13, .tuple [.str 10, .int (n : Nat)]]] → CC (.list e) held' := by
        intro held' e e1 e2
        subst e2
        refine hk _ ⟨?_, fun m => ?_⟩
        · rw [e1]; split <;> simp <;> (first | lia | omega)
        · rw [heldB_app, sd, e1]
          by_cases hm : n = m
          · subst hm
            rw [if_pos rfl]
            show _ = true
            split
            · assumption
            · simp
          · rw [if_neg hm]
            show _ = heldB past m
            rw [← h2]
            split
            · rfl
            · have : ¬ (m : Int) = (n : Int) := by (first | lia | omega)
              simp [this]
      refine br_of (fun hb => ?_) (fun hb => ?_)
      · have hb' : held.contains (n : Int) = false := by simpa using hb
        refine And.intro rfl (And.intro rfl ?_)
        exact fin rfl (by rw [← h2, hb']; rfl)
      · have hb' : held.contains (n : Int) = true := by simpa using hb
        refine And.intro rfl ?_
        exact fin rfl (by rw [← h2, hb']; rfl)
  | ack k f n =>
    have sd : ∀ m, Pk.say m (.ack k f n) = if k = 8 ∧ n = m then [8] else [] := fun m => rfl
    rcases hp.1 with ⟨rfl, rfl⟩ | ⟨rfl, rfl⟩ | ⟨rfl, rfl⟩ | ⟨rfl, rfl⟩ | ⟨rfl, rfl⟩
    · exact hk held (keep fun _ => rfl)
    · exact hk held (keep fun _ => rfl)
    · have fin : ∀ {held' : List Int}, held' = (if held.contains (n : Int) then held.filter (fun j => j != (n : Int)) else held) → CC (.list [.tuple [.str 13, .tuple [.str 11, .int (n : Nat)]]]) held' := by
        intro held' e1
        refine hk _ ⟨?_, fun m => ?_⟩
        · rw [e1]; have := List.length_filter_le (fun j => j != (n : Int)) held; split <;> simp <;> (first | lia | omega)
        · rw [heldB_app, sd]
          by_cases hm : n = m
          · subst hm
            rw [if_pos ⟨rfl, rfl⟩, e1]
            show _ = false
            split
            · simp
            · rename_i h'; simpa using h'
          · rw [if_neg (fun h => hm h.2), e1]
            show _ = heldB past m
            rw [← h2]
            split
            · have : ¬ (m : Int) = (n : Int) := by (first | lia | omega)
              rw [Bool.eq_iff_iff]
              simp [this]
            · rfl
      refine br_of (fun hb => ?_) (fun hb => ?_)
      · have hb' : held.contains (n : Int) = true := by simpa using hb
        refine And.intro (fits_of (by (first | lia | omega))) (And.intro hb' ?_)
        exact fin (by rw [if_pos hb'])
      · have hb' : held.contains (n : Int) = false := by simpa using hb
        exact fin (by rw [if_neg (by rw [hb']; decide)])
    · exact hk held (keep fun _ => rfl)
    · exact hk held (keep fun _ => rfl)
  | sub n items => exact hk held (keep fun _ => rfl)
  | sbk n cs => exact hk held (keep fun _ => rfl)
  | uns n items => exact hk held (keep fun _ => rfl)
  | bare k f =>
    rcases hp with ⟨rfl, rfl⟩ | ⟨rfl, rfl⟩ | ⟨rfl, rfl⟩
    all_goals exact hk held (keep fun _ => rfl)
end Mine
set_option Elab.async false
set_option maxRecDepth 100000
namespace Mine
set_option tactic.hygienic false
/-- equality of what is alike -/
inductive Flat : Nat → D → Prop
  | none {n} : Flat n .none
  | bool {n b} : Flat n (.bool b)
  | int {n i} : Flat n (.int i)
  | str {n k} : Flat n (.str k)
  | bytes {n l} : Flat n (.bytes l)
  | tuple {n l} : (∀ d ∈ l, Flat n d) → Flat (n + 1) (.tuple l)
  | list {n l} : (∀ d ∈ l, Flat n d) → Flat (n + 1) (.list l)
theorem eqAllR {f : D → D → Option Bool} : ∀ {l : List D}, (∀ d ∈ l, f d d = some true) → eqAll f l l = some true
  | [], _ => rfl
  | d :: r, h => by
    simp only [eqAll]
    rw [h d List.mem_cons_self, eqAllR fun x hx => h x (List.mem_cons_of_mem _ hx)]
    rfl
theorem eqN_refl : ∀ {n : Nat} {d : D}, Flat n d → D.eqN (n + 1) d d = some true := by
  intro n d h
  induction h with
  | none => rfl
  | @bool n b => exact congrArg some (beq_self_eq_true b)
  | @int n i => exact congrArg some (decide_eq_true rfl)
  | @str n k => exact congrArg some (Nat.beq_refl k)
  | @bytes n l => exact congrArg some (beq_self_eq_true l)
  | tuple _ ih => exact eqAllR ih
  | list _ ih => exact eqAllR ih
theorem Flat.mono {n : Nat} {d : D} (h : Flat n d) : ∀ {m : Nat}, n ≤ m → Flat m d := by
  induction h with
  | none => exact fun _ => .none
  | bool => exact fun _ => .bool
  | int => exact fun _ => .int
  | str => exact fun _ => .str
  | bytes => exact fun _ => .bytes
  | tuple _ ih => intro m hm; cases m with
    | zero => (first | lia | omega)
    | succ m => exact .tuple fun d hd => ih d hd (by (first | lia | omega))
  | list _ ih => intro m hm; cases m with
    | zero => (first | lia | omega)
    | succ m => exact .list fun d hd => ih d hd (by (first | lia | omega))
theorem Pk.flat (p : Pk) : Flat 3 p.d := by
  cases p with
  | pub => exact .tuple fun d hd => by simp at hd; rcases hd with rfl | rfl | rfl | rfl | rfl | rfl | rfl <;> constructor
  | ack => exact .tuple fun d hd => by simp at hd; rcases hd with rfl | rfl <;> constructor
  | sub n items =>
    refine .tuple fun d hd => ?_
    simp at hd
    rcases hd with rfl | rfl | rfl
    · exact .str
    · exact .int
    · refine .list fun d hd => ?_
      simp at hd
      obtain ⟨a, b, _, rfl⟩ := hd
      exact .tuple fun d hd => by simp at hd; rcases hd with rfl | rfl <;> constructor
  | sbk n cs =>
    refine .tuple fun d hd => ?_
    simp at hd
    rcases hd with rfl | rfl | rfl
    · exact .str
    · exact .int
    · refine .list fun d hd => ?_
      simp at hd
      obtain ⟨a, _, rfl⟩ := hd
      exact .int
  | uns n items =>
    refine .tuple fun d hd => ?_
    simp at hd
    rcases hd with rfl | rfl | rfl
    · exact .str
    · exact .int
    · refine .list fun d hd => ?_
      simp at hd
      obtain ⟨a, _, rfl⟩ := hd
      exact .bytes
  | bare => exact .tuple fun d hd => by simp at hd; subst hd; constructor
theorem eq_of_flat {d : D} (h : Flat 8 d) : D.eq d d = some true := eqN_refl h
theorem Pk.eqd (p : Pk) : D.eq p.d p.d = some true := eq_of_flat (p.flat.mono (by (first | lia | omega)))
theorem evs_flat {past : List Pk} (p : Pk) : Flat 8 (.list (p.evs past)) := by
  have dl : ∀ {t b : List Nat}, Flat 7 (.tuple [.str 14, .bytes t, .bytes b]) := .tuple fun d hd => by simp at hd; rcases hd with rfl | rfl | rfl <;> constructor
  have sn : ∀ {k : Nat} {n : Int}, Flat 7 (.tuple [.str 13, .tuple [.str k, .int n]]) := .tuple fun d hd => by
    simp at hd; rcases hd with rfl | rfl
    · constructor
    · exact .tuple fun d hd => by simp at hd; rcases hd with rfl | rfl <;> constructor
  have sp : ∀ {k : Nat}, Flat 7 (.tuple [.str 13, .tuple [.str k]]) := .tuple fun d hd => by
    simp at hd; rcases hd with rfl | rfl
    · constructor
    · exact .tuple fun d hd => by simp at hd; subst hd; constructor
  refine .list fun d hd => ?_
  cases p with
  | pub dup q retain text n body =>
    simp only [Pk.evs] at hd
    split at hd
    · simp at hd; subst hd; exact dl
    split at hd
    · simp at hd; rcases hd with rfl | rfl
      · exact dl
      · exact sn
    · split at hd
      · simp at hd; subst hd; exact sn
      · simp at hd; rcases hd with rfl | rfl
        · exact dl
        · exact sn
  | ack k f n =>
    simp only [Pk.evs] at hd
    split at hd
    · simp at hd; subst hd; exact sn
    · simp at hd
  | bare k f =>
    simp only [Pk.evs] at hd
    split at hd
    · simp at hd; subst hd; exact sp
    · simp at hd
  | _ => simp [Pk.evs] at hd
end Mine
set_option Elab.async false
set_option maxRecDepth 100000
namespace Mine
set_option tactic.hygienic false
theorem compGo_of {step : D → (Option D → Prop) → Prop} {f : Pk → Option D} : ∀ {past : List Pk} (hs : ∀ o ∈ past, ∀ C : Option D → Prop, C (f o) → step o.d C) {acc : List D} {K : List D → Prop}, K (acc ++ past.filterMap f) → compGo step (past.map Pk.d) acc K
  | [], _, acc, K, hk => by rw [List.filterMap_nil, List.append_nil] at hk; exact hk
  | o :: r, hs, acc, K, hk => by
    refine hs o List.mem_cons_self _ ?_
    have hs' : ∀ o ∈ r, ∀ C : Option D → Prop, C (f o) → step o.d C := fun o ho => hs o (List.mem_cons_of_mem _ ho)
    cases hf : f o with
    | none => refine compGo_of hs' ?_; rw [List.filterMap_cons, hf] at hk; exact hk
    | some y => refine compGo_of hs' ?_; rw [List.filterMap_cons, hf] at hk; rw [List.append_assoc]; exact hk
noncomputable def sayD (m : Nat) (o : Pk) : Option D := match o.say m with
  | [] => none
  | x :: _ => some (.str x)
theorem sayD_all {m : Nat} : ∀ {past : List Pk}, past.filterMap (sayD m) = (saidOf m past).map .str
  | [] => rfl
  | o :: r => by
    have e : saidOf m (o :: r) = o.say m ++ saidOf m r := rfl
    rw [List.filterMap_cons, e, List.map_append, sayD_all (past := r)]
    cases o with
    | pub dup q retain text n body =>
      by_cases h : q = 2 ∧ n = m
      · have e : Pk.say m (.pub dup q retain text n body) = [6] := if_pos h
        unfold sayD; rw [e]; rfl
      · have e : Pk.say m (.pub dup q retain text n body) = [] := if_neg h
        unfold sayD; rw [e]; rfl
    | ack k f n =>
      by_cases h : k = 8 ∧ n = m
      · have e : Pk.say m (.ack k f n) = [8] := if_pos h
        unfold sayD; rw [e]; rfl
      · have e : Pk.say m (.ack k f n) = [] := if_neg h
        unfold sayD; rw [e]; rfl
    | _ => rfl
theorem getLast_app {α : Type} {l : List α} {x : α} : (l ++ [x]).getLast? = some x := by simp
theorem last_cut (l : List Nat) : D.eq (.list (cutL (l.map .str) (some (-1)) none)) (.list [.str 6]) = some (l.getLast? == some 6) := by
  have e : cutL (l.map D.str) (some (-1)) none = (l.map D.str).drop (l.length - 1) := by
    show ((l.map D.str).take (l.map D.str).length).drop ((l.map D.str).length - 1) = _
    rw [List.take_length, List.length_map]
  rw [e]
  rcases List.eq_nil_or_concat l with rfl | ⟨a, x, rfl⟩
  · rfl
  · rw [List.concat_eq_append, List.map_append, List.length_append, getLast_app]
    have : (a.map D.str ++ [D.str x]).drop (a.length + 1 - 1) = [.str x] := by
      rw [Nat.add_sub_cancel, List.drop_left' (by simp)]
    show D.eq (.list ((a.map D.str ++ [D.str x]).drop (a.length + 1 - 1))) _ = _
    rw [this]
    show some (Nat.beq x 6 && true) = some (some x == some 6)
    rw [Bool.and_true]
    by_cases h : x = 6
    · subst h; rfl
    · have h1 : Nat.beq x 6 = false := by cases hb : Nat.beq x 6 with
        | false => rfl
        | true => exact absurd (Nat.eq_of_beq_eq_true hb) h
      rw [h1]; simp [h]
section
variable {H : HSpec} {i : Nat} {K : D → Prop} {X : Prop}
theorem law_due_ok (hi : 32 < i) {p : Pk} (hp : p.wf) {past : List Pk} (hps : ∀ o ∈ past, o.wf) (hk : K (.list (p.evs past))) : PhiUp globD H 100 parF bodF i 32 [.v p.d, .brw (past.map Pk.d)] K X := by
  rw [phi_lt hi]
  refine ⟨rfl, ?_⟩
  cases p with
  | pub dup q retain text n body =>
    refine compGo_of (f := sayD n) (fun o ho C hC => ?_) ?_
    · have ow := hps o ho
      cases o with
      | pub dup' q' retain' text' n' body' =>
        have hq3 : q' = 0 ∨ q' = 1 ∨ q' = 2 := by have := ow.1; (first | lia | omega)
        rcases hq3 with rfl | rfl | rfl
        · exact hC
        · exact hC
        · refine br_of (fun h => ?_) (fun h => ?_)
          · have h' := of_decide_eq_true h
            have e : sayD n (.pub dup' 2 retain' text' n' body') = some (.str 6) := by
              have e : Pk.say n (.pub dup' 2 retain' text' n' body') = [6] := if_pos ⟨rfl, by (first | lia | omega)⟩
              unfold sayD; rw [e]
            rw [e] at hC
            exact hC
          · have h' := of_decide_eq_false h
            have e : sayD n (.pub dup' 2 retain' text' n' body') = none := by
              have e : Pk.say n (.pub dup' 2 retain' text' n' body') = [] := if_neg (fun q => h' (by (first | lia | omega)))
              unfold sayD; rw [e]
            rw [e] at hC
            exact hC
      | ack k f n' =>
        rcases ow.1 with ⟨rfl, rfl⟩ | ⟨rfl, rfl⟩ | ⟨rfl, rfl⟩ | ⟨rfl, rfl⟩ | ⟨rfl, rfl⟩
        · exact hC
        · exact hC
        · by_cases h' : n' = n
          · have e : Pk.say n (.ack 8 98 n') = [8] := if_pos ⟨rfl, h'⟩
            unfold sayD at hC; rw [e] at hC
            refine br_t (by show (true && (decide ((n' : Int) = (n : Int)) && true)) = true; rw [decide_eq_true (by (first | lia | omega))]; rfl) ?_
            refine br_t (by show (true && (decide ((n' : Int) = (n : Int)) && true)) = true; rw [decide_eq_true (by (first | lia | omega))]; rfl) ?_
            exact hC
          · have e : Pk.say n (.ack 8 98 n') = [] := if_neg (fun q => h' q.2)
            unfold sayD at hC; rw [e] at hC
            refine br_f (by show (true && (decide ((n' : Int) = (n : Int)) && true)) = false; rw [decide_eq_false (by (first | lia | omega))]; rfl) ?_
            exact hC
        · exact hC
        · exact hC
      | sub n items => exact hC
      | sbk n cs => exact hC
      | uns n items => exact hC
      | bare k f =>
        rcases ow with ⟨rfl, rfl⟩ | ⟨rfl, rfl⟩ | ⟨rfl, rfl⟩
        all_goals exact hC
    · rw [List.nil_append, sayD_all]
      have hq3 : q = 0 ∨ q = 1 ∨ q = 2 := by have := hp.1; (first | lia | omega)
      rcases hq3 with rfl | rfl | rfl
      · exact hk
      · exact hk
      · refine opt_of (last_cut _) ?_
        have hk' : K (.list ((if heldB past n then [] else [.tuple [.str 14, .bytes text, .bytes body]]) ++ [.tuple [.str 13, .tuple [.str 10, .int (n : Nat)]]])) := hk
        refine br_of (fun h => ?_) (fun h => ?_)
        · rw [if_pos (show heldB past n = true from h)] at hk'
          exact hk'
        · rw [if_neg (by show ¬ heldB past n = true; rw [show heldB past n = false from h]; decide)] at hk'
          exact hk'
  | ack k f n =>
    rcases hp.1 with ⟨rfl, rfl⟩ | ⟨rfl, rfl⟩ | ⟨rfl, rfl⟩ | ⟨rfl, rfl⟩ | ⟨rfl, rfl⟩
    all_goals exact hk
  | sub n items => exact hk
  | sbk n cs => exact hk
  | uns n items => exact hk
  | bare k f =>
    rcases hp with ⟨rfl, rfl⟩ | ⟨rfl, rfl⟩ | ⟨rfl, rfl⟩
    all_goals exact hk
end
end Mine
set_option Elab.async false
set_option maxRecDepth 100000
namespace Mine
set_option tactic.hygienic false
section
variable {H : HSpec} {i : Nat} {K : D → Prop} {X : Prop}
theorem law_size_all (hi : 25 < i) {n : Nat} (hn : n ≤ 268435455) (hk : K (.bytes (wlen n))) : PhiUp globD H 100 parF bodF i 25 [.v (.int (n : Nat))] K X := by
  by_cases h2 : n < 16384
  · exact law_size_ok hi h2 hk
  have a1 : 16384 ≤ n := Nat.not_lt.mp h2
  have g1 : ¬ n < 128 := Nat.not_lt.mpr (Nat.le_trans (by decide) a1)
  have g2 : ¬ n / 128 < 128 := Nat.not_lt.mpr ((Nat.le_div_iff_mul_le (by decide)).mpr a1)
  have mb : ∀ x, x % 128 + 128 < 256 := fun x => Nat.add_lt_add_right (Nat.mod_lt x (by decide : 0 < 128)) 128
  have ms : ∀ x, x % 128 < 256 := fun x => Nat.lt_trans (Nat.mod_lt x (by decide)) (by decide : 128 < 256)
  have d2 : n / (16383 + 1) = n / 128 / 128 := (Nat.div_div_eq_div_mul n 128 128).symm
  rw [phi_lt hi]
  refine ⟨rfl, br_t (ge_t 128 (Nat.le_trans (by decide) a1)) (br_t (ge_t 16384 a1) ?_)⟩
  by_cases h3 : n < 2097152
  · have g3 : n / 128 / 128 < 128 := Nat.div_lt_of_lt_mul (Nat.div_lt_of_lt_mul h3)
    refine br_f (ge_f 2097152 h3) (opt_of (a := .bytes (wlen n)) ?_ hk)
    show (bytesOfL [D.int ((n / (0 + 1) % (127 + 1) + 128 : Nat) : Int), D.int ((n / (127 + 1) % (127 + 1) + 128 : Nat) : Int), D.int ((n / (16383 + 1) % (255 + 1) : Nat) : Int)]).map D.bytes = _
    rw [Nat.div_one, d2, show n / 128 / 128 % (255 + 1) = n / 128 / 128 % 128 from m256 g3, wlen_big g1, wlen_big g2, wlen_lt g3]
    exact congrArg (Option.map D.bytes) (bytesOf_all (l := [n % 128 + 128, n / 128 % 128 + 128, n / 128 / 128 % 128]) (by
      intro x hx
      rcases List.mem_cons.mp hx with rfl | hx
      · exact mb _
      rcases List.mem_cons.mp hx with rfl | hx
      · exact mb _
      cases List.mem_singleton.mp hx; exact ms _))
  · have a3 : 2097152 ≤ n := Nat.not_lt.mp h3
    have g3 : ¬ n / 128 / 128 < 128 := Nat.not_lt.mpr ((Nat.le_div_iff_mul_le (by decide)).mpr ((Nat.le_div_iff_mul_le (by decide)).mpr a3))
    have g4 : n / 128 / 128 / 128 < 128 := Nat.div_lt_of_lt_mul (Nat.div_lt_of_lt_mul (Nat.div_lt_of_lt_mul (Nat.lt_of_le_of_lt hn (by decide))))
    have d3 : n / (2097151 + 1) = n / 128 / 128 / 128 := by rw [Nat.div_div_eq_div_mul, Nat.div_div_eq_div_mul]
    refine br_t (ge_t 2097152 a3) (opt_of (a := .bytes (wlen n)) ?_ hk)
    show (bytesOfL [D.int ((n / (0 + 1) % (127 + 1) + 128 : Nat) : Int), D.int ((n / (127 + 1) % (127 + 1) + 128 : Nat) : Int), D.int ((n / (16383 + 1) % (127 + 1) + 128 : Nat) : Int), D.int ((n / (2097151 + 1) % (255 + 1) : Nat) : Int)]).map D.bytes = _
    rw [Nat.div_one, d2, d3, show n / 128 / 128 / 128 % (255 + 1) = n / 128 / 128 / 128 % 128 from m256 g4, wlen_big g1, wlen_big g2, wlen_big g3, wlen_lt g4]
    exact congrArg (Option.map D.bytes) (bytesOf_all (l := [n % 128 + 128, n / 128 % 128 + 128, n / 128 / 128 % 128 + 128, n / 128 / 128 / 128 % 128]) (by
      intro x hx
      rcases List.mem_cons.mp hx with rfl | hx
      · exact mb _
      rcases List.mem_cons.mp hx with rfl | hx
      · exact mb _
      rcases List.mem_cons.mp hx with rfl | hx
      · exact mb _
      cases List.mem_singleton.mp hx; exact ms _))
theorem beq_self {l : List Nat} : (!(l == l)) = false := by simp
theorem pr_add {n : Nat} {w : List Nat} (hw : w = wlen n) (hn : n ≤ 268435455 := by decide) : binop .Add (.bytes [128, 128]) (.bytes w) = some (.bytes ([128, 128] ++ w)) :=
  fits_add (by decide) (Nat.le_trans (by rw [hw]; exact wlen_len n hn) (by decide : 4 ≤ 5000))
theorem pr_add2 {n : Nat} {w : List Nat} (hw : w = wlen n) (hn : n ≤ 268435455 := by decide) : binop .Add (.bytes ([128, 128] ++ w)) (.bytes [1]) = some (.bytes ([128, 128] ++ w ++ [1])) :=
  fits_add (by rw [hw, List.length_append]; exact Nat.le_trans (Nat.add_le_add_left (wlen_len n hn) 2) (by decide : 6 ≤ 5000)) (by decide)
theorem pr_drop {n : Nat} {w : List Nat} (hw : wlen n = w) : ([128, 128] ++ w ++ [1]).drop 2 = wlen n ++ [1] := by rw [hw]; rfl
theorem pr_eq (w : List Nat) : (!(true && (decide (((2 + w.length : Nat) : Int) = 2 + (w.length : Int)) && true))) = false := by
  rw [decide_eq_true (show ((2 + w.length : Nat) : Int) = 2 + (w.length : Int) from Int.natCast_add 2 w.length)]; rfl
theorem pr_long : topicB (List.replicate 65536 97) = false := by
  have h : stringB (List.replicate 65536 97) = false := by
    unfold stringB; rw [List.length_replicate, show decide (65536 ≤ 65535) = false from rfl, Bool.false_and]
  unfold topicB; rw [h, Bool.false_and, Bool.and_false]
/-- the probe's lengths -/
theorem lq_len {x : Nat} (hx : x < 12) {P XX : Loc → Prop} {R : D → Loc → Prop} (hP : ∀ a b c, P [(16, .v (.int (x : Nat))), (0, a), (41, b), (55, c)]) :
    xSs (PhiUp globD H 100 parF bodF 34) globD H 100 (b_law_probe.take 7) [(16, .v (.int (x : Nat)))] P R XX := by
  have hc : x = 0 ∨ x = 1 ∨ x = 2 ∨ x = 3 ∨ x = 4 ∨ x = 5 ∨ x = 6 ∨ x = 7 ∨ x = 8 ∨ x = 9 ∨ x = 10 ∨ x = 11 := c12 _ (by assumption)
  rcases hc with rfl | rfl | rfl | rfl | rfl | rfl | rfl | rfl | rfl | rfl | rfl | rfl
  · refine write_length_no (by decide) (by decide) ?_
    exact hP _ _ _
  · refine write_length_ok (n := 0) (by decide) (by decide) ?_
    refine law_size_all (n := 0) (by decide) (by decide) ?_
    generalize hw : wlen 0 = w
    refine br_f beq_self ?_
    refine opt_of (pr_add hw.symm) ?_
    refine opt_of (pr_add2 hw.symm) ?_
    refine read_length_ok (at_ := 2) (n := 0) (more := [1]) (by decide) (by decide) (pr_drop hw) ?_
    rw [hw]
    refine br_f (pr_eq w) ?_
    exact hP _ _ _
  · refine write_length_ok (n := 1) (by decide) (by decide) ?_
    refine law_size_all (n := 1) (by decide) (by decide) ?_
    generalize hw : wlen 1 = w
    refine br_f beq_self ?_
    refine opt_of (pr_add hw.symm) ?_
    refine opt_of (pr_add2 hw.symm) ?_
    refine read_length_ok (at_ := 2) (n := 1) (more := [1]) (by decide) (by decide) (pr_drop hw) ?_
    rw [hw]
    refine br_f (pr_eq w) ?_
    exact hP _ _ _
  · refine write_length_ok (n := 127) (by decide) (by decide) ?_
    refine law_size_all (n := 127) (by decide) (by decide) ?_
    generalize hw : wlen 127 = w
    refine br_f beq_self ?_
    refine opt_of (pr_add hw.symm) ?_
    refine opt_of (pr_add2 hw.symm) ?_
    refine read_length_ok (at_ := 2) (n := 127) (more := [1]) (by decide) (by decide) (pr_drop hw) ?_
    rw [hw]
    refine br_f (pr_eq w) ?_
    exact hP _ _ _
  · refine write_length_ok (n := 128) (by decide) (by decide) ?_
    refine law_size_all (n := 128) (by decide) (by decide) ?_
    generalize hw : wlen 128 = w
    refine br_f beq_self ?_
    refine opt_of (pr_add hw.symm) ?_
    refine opt_of (pr_add2 hw.symm) ?_
    refine read_length_ok (at_ := 2) (n := 128) (more := [1]) (by decide) (by decide) (pr_drop hw) ?_
    rw [hw]
    refine br_f (pr_eq w) ?_
    exact hP _ _ _
  · refine write_length_ok (n := 300) (by decide) (by decide) ?_
    refine law_size_all (n := 300) (by decide) (by decide) ?_
    generalize hw : wlen 300 = w
    refine br_f beq_self ?_
    refine opt_of (pr_add hw.symm) ?_
    refine opt_of (pr_add2 hw.symm) ?_
    refine read_length_ok (at_ := 2) (n := 300) (more := [1]) (by decide) (by decide) (pr_drop hw) ?_
    rw [hw]
    refine br_f (pr_eq w) ?_
    refine is_topic_ok (by decide) (List.replicate 65536 97) ?_
    rw [pr_long]
    exact hP _ _ _
  · refine write_length_ok (n := 16383) (by decide) (by decide) ?_
    refine law_size_all (n := 16383) (by decide) (by decide) ?_
    generalize hw : wlen 16383 = w
    refine br_f beq_self ?_
    refine opt_of (pr_add hw.symm) ?_
    refine opt_of (pr_add2 hw.symm) ?_
    refine read_length_ok (at_ := 2) (n := 16383) (more := [1]) (by decide) (by decide) (pr_drop hw) ?_
    rw [hw]
    refine br_f (pr_eq w) ?_
    exact hP _ _ _
  · refine write_length_ok (n := 16384) (by decide) (by decide) ?_
    refine law_size_all (n := 16384) (by decide) (by decide) ?_
    generalize hw : wlen 16384 = w
    refine br_f beq_self ?_
    refine opt_of (pr_add hw.symm) ?_
    refine opt_of (pr_add2 hw.symm) ?_
    refine read_length_ok (at_ := 2) (n := 16384) (more := [1]) (by decide) (by decide) (pr_drop hw) ?_
    rw [hw]
    refine br_f (pr_eq w) ?_
    exact hP _ _ _
  · refine write_length_ok (n := 2097151) (by decide) (by decide) ?_
    refine law_size_all (n := 2097151) (by decide) (by decide) ?_
    generalize hw : wlen 2097151 = w
    refine br_f beq_self ?_
    refine opt_of (pr_add hw.symm) ?_
    refine opt_of (pr_add2 hw.symm) ?_
    refine read_length_ok (at_ := 2) (n := 2097151) (more := [1]) (by decide) (by decide) (pr_drop hw) ?_
    rw [hw]
    refine br_f (pr_eq w) ?_
    exact hP _ _ _
  · refine write_length_ok (n := 2097152) (by decide) (by decide) ?_
    refine law_size_all (n := 2097152) (by decide) (by decide) ?_
    generalize hw : wlen 2097152 = w
    refine br_f beq_self ?_
    refine opt_of (pr_add hw.symm) ?_
    refine opt_of (pr_add2 hw.symm) ?_
    refine read_length_ok (at_ := 2) (n := 2097152) (more := [1]) (by decide) (by decide) (pr_drop hw) ?_
    rw [hw]
    refine br_f (pr_eq w) ?_
    exact hP _ _ _
  · refine write_length_ok (n := 268435455) (by decide) (by decide) ?_
    refine law_size_all (n := 268435455) (by decide) (by decide) ?_
    generalize hw : wlen 268435455 = w
    refine br_f beq_self ?_
    refine opt_of (pr_add hw.symm) ?_
    refine opt_of (pr_add2 hw.symm) ?_
    refine read_length_ok (at_ := 2) (n := 268435455) (more := [1]) (by decide) (by decide) (pr_drop hw) ?_
    rw [hw]
    refine br_f (pr_eq w) ?_
    exact hP _ _ _
  · refine write_length_no (by decide) (by decide) ?_
    exact hP _ _ _
end
end Mine
set_option Elab.async false
set_option maxRecDepth 100000
namespace Mine
set_option tactic.hygienic false
theorem wlen1 {n : Nat} (h : n < 128) : wlen n = [n] := by rw [wlen_eq, if_pos h]
section
variable {H : HSpec} {i : Nat} {K : D → Prop} {X : Prop}
theorem read_string_no (hi : 22 < i) {data : List Nat} {a e x y : Nat} (he : a + 2 ≤ e) (hx : data[a]? = some x) (hy : data[a + 1]? = some y) (hz : x < 256) (hn : ¬ a + 2 + (x * 256 + y) ≤ e) (hX : X) :
    PhiUp globD H 100 parF bodF i 22 [.v (.bytes data), .v (.int (a : Nat)), .v (.int (e : Nat))] K X := by
  rw [phi_lt hi]
  refine ⟨rfl, ?_⟩
  refine read_two_ok (by decide) he hx hy hz ?_
  refine need_ok (by decide) (b := false) (by show some (decide _) = _; rw [decide_eq_false (by (first | lia | omega))]) ?_
  exact hX
theorem rl8 (hi : 1 < i) (hX : X) : PhiUp globD H 100 parF bodF i 1 [.v (.bytes [192, 128, 0]), .v (.int ((1 : Nat) : Int))] K X := by
  rw [phi_lt hi]
  refine ⟨rfl, ⟨3, ?_⟩⟩
  refine write_length_at (by decide) (n := 0) rfl (by decide) ?_
  rw [wlen1 (by decide)]
  exact hX
theorem rl9 (hi : 1 < i) (hX : X) : PhiUp globD H 100 parF bodF i 1 [.v (.bytes [48, 255, 255, 255, 255]), .v (.int ((1 : Nat) : Int))] K X := by
  rw [phi_lt hi]
  exact ⟨rfl, ⟨5, hX⟩⟩
noncomputable def wireP : Nat → List Nat
  | 0 => [54]
  | 1 => [56]
  | 2 => [96]
  | 3 => [192, 1, 0]
  | 4 => [64, 3, 0, 1, 0]
  | 5 => [50, 4, 0, 1, 97, 0, 5]
  | 6 => [48, 3, 0, 2, 97, 98]
  | 7 => [130, 5, 0, 1, 0, 1, 97, 0]
  | 8 => [192, 128, 0]
  | 9 => [48, 255, 255, 255, 255]
  | 10 => [48, 255, 255, 255, 127]
  | _ => [64, 1, 0, 1]
theorem probe_read (hi : 23 < i) {x : Nat} (hx : x < 12) (hk : br (x == 10) (K .none) X) : PhiUp globD H 100 parF bodF i 23 [.v (.bytes (wireP x))] K X := by
  have hc : x = 0 ∨ x = 1 ∨ x = 2 ∨ x = 3 ∨ x = 4 ∨ x = 5 ∨ x = 6 ∨ x = 7 ∨ x = 8 ∨ x = 9 ∨ x = 10 ∨ x = 11 := c12 _ (by assumption)
  rcases hc with rfl | rfl | rfl | rfl | rfl | rfl | rfl | rfl | rfl | rfl | rfl | rfl
  · rw [phi_lt hi]
    refine ⟨rfl, ?_⟩
    refine need_ok (by decide) (b := false) rfl ?_
    exact hk
  · exact read_bad hi (.inl rfl) hk
  · rw [phi_lt hi]
    refine ⟨rfl, ?_⟩
    have none96 : ∀ {K : D → Prop} {X : Prop}, K .none → PhiUp globD H 100 parF bodF 23 11 [.v (.int ((96 : Nat) : Int))] K X := fun {K X} hk => by
      rw [phi_lt (by decide)]; exact ⟨rfl, hk⟩
    refine none96 ?_
    refine need_ok (by decide) (b := false) rfl ?_
    exact hk
  · refine read_split hi (rp_head_kind (k := 0) (first := 192) (by decide) (rp_len (n := 1) (more := [0]) (.inl rfl) (by decide) (by rw [wlen1 (by decide)]; rfl) (fun h => absurd h (by rw [wlen1 (by decide)]; decide)) (fun _ => ?_)))
    rw [wlen1 (by decide)]
    refine is_bare_ok (by decide) ?_
    refine need_ok (by decide) (b := false) rfl ?_
    exact hk
  · refine read_split hi (rp_head_kind (k := 9) (first := 64) (by decide) (rp_len (n := 3) (more := [0, 1, 0]) (.inl rfl) (by decide) (by rw [wlen1 (by decide)]; rfl) (fun h => absurd h (by rw [wlen1 (by decide)]; decide)) (fun _ => ?_)))
    rw [wlen1 (by decide)]
    refine is_bare_ok (by decide) ?_
    refine read_two_ok (by decide) (a := 2) (e := 5) (x := 0) (y := 1) (by decide) rfl rfl (by decide) ?_
    refine need_ok (by decide) (b := false) rfl ?_
    exact hk
  · refine read_split hi (rp_head_pub (q := 1) (dup := false) (first := 50) (by decide) (by decide) (by decide) (by decide) rfl (rp_len (n := 4) (more := [0, 1, 97, 0, 5]) (.inr ⟨_, rfl⟩) (by decide) (by rw [wlen1 (by decide)]; rfl) (fun h => absurd h (by rw [wlen1 (by decide)]; decide)) (fun _ => ?_)))
    rw [wlen1 (by decide)]
    refine read_string_ok (by decide) (a := 2) (e := 6) (t := [97]) (more := [0, 5]) (by decide) rfl (by decide) ?_
    exact read_two_no (by decide) (a := 5) (e := 6) (by decide) hk
  · refine read_split hi (rp_head_pub (q := 0) (dup := false) (first := 48) (by decide) (by decide) (by decide) (by decide) rfl (rp_len (n := 3) (more := [0, 2, 97, 98]) (.inr ⟨_, rfl⟩) (by decide) (by rw [wlen1 (by decide)]; rfl) (fun h => absurd h (by rw [wlen1 (by decide)]; decide)) (fun _ => ?_)))
    rw [wlen1 (by decide)]
    exact read_string_no (by decide) (a := 2) (e := 5) (x := 0) (y := 2) (by decide) rfl rfl (by decide) (by decide) hk
  · refine read_split hi (rp_head_kind (k := 3) (first := 130) (by decide) (rp_len (n := 5) (more := [0, 1, 0, 1, 97, 0]) (.inl rfl) (by decide) (by rw [wlen1 (by decide)]; rfl) (fun h => absurd h (by rw [wlen1 (by decide)]; decide)) (fun _ => ?_)))
    rw [wlen1 (by decide)]
    refine is_bare_ok (by decide) ?_
    refine read_two_ok (by decide) (a := 2) (e := 7) (x := 0) (y := 1) (by decide) rfl rfl (by decide) ?_
    refine ⟨1, ?_⟩
    refine read_string_ok (by decide) (a := 4) (e := 7) (t := [97]) (more := [0]) (by decide) rfl (by decide) ?_
    refine need_ok (by decide) (b := false) rfl ?_
    exact hk
  · refine read_split hi (rp_head_kind (k := 0) (first := 192) (by decide) ?_)
    exact rl8 (by decide) hk
  · refine read_split hi (rp_head_pub (q := 0) (dup := false) (first := 48) (by decide) (by decide) (by decide) (by decide) rfl ?_)
    exact rl9 (by decide) hk
  · refine read_split hi (rp_head_pub (q := 0) (dup := false) (first := 48) (by decide) (by decide) (by decide) (by decide) rfl (rp_len (n := 268435455) (more := []) (.inr ⟨_, rfl⟩) (by decide) (by rw [wlen_big (by decide), wlen_big (by decide), wlen_big (by decide), wlen_lt (by decide)]; rfl) (fun _ _ => hk) (fun h => absurd ?_ h)))
    rw [wlen_big (by decide), wlen_big (by decide), wlen_big (by decide), wlen_lt (by decide)]
    decide
  · refine read_split hi (rp_head_kind (k := 9) (first := 64) (by decide) (rp_len (n := 1) (more := [0, 1]) (.inl rfl) (by decide) (by rw [wlen1 (by decide)]; rfl) (fun h => absurd h (by rw [wlen1 (by decide)]; decide)) (fun _ => ?_)))
    rw [wlen1 (by decide)]
    refine is_bare_ok (by decide) ?_
    exact read_two_no (by decide) (a := 2) (e := 3) (by decide) hk
end
end Mine
set_option Elab.async false
set_option maxRecDepth 100000
namespace Mine
set_option tactic.hygienic false
noncomputable def misP : Nat → D
  | 0 => .tuple []
  | 1 => .tuple [.str 6, .bool false, .int 0, .bool false, .bytes [97], .int 1, .bytes [120]]
  | 2 => .tuple [.str 6, .bool false, .int 3, .bool false, .bytes [97], .int 1, .bytes [120]]
  | 3 => .tuple [.str 6, .bool false, .int 1, .bool false, .bytes [97], .int 1, .bytes [120], .int 0]
  | 4 => .tuple [.str 9, .int 1, .int 1]
  | 5 => .tuple [.str 0, .int 1]
  | 6 => .tuple [.str 3, .int 1, .list [.tuple [.bytes [97], .int 0]], .int 0]
  | 7 => .tuple [.str 15, .int 1]
  | 8 => .tuple [.str 4, .int 1, .list [.int 0, .int 3]]
  | 9 => .tuple [.str 5, .int 1, .list [.bytes [97], .bytes [35, 47, 97]]]
  | 10 => .tuple [.str 3, .int 1, .list [.tuple [.bytes [97], .int 0], .tuple [.bytes [97, 43], .int 0]]]
  | _ => .tuple [.str 8]
section
variable {H : HSpec} {i : Nat} {K : D → Prop} {X : Prop}
theorem probe_write (hi : 20 < i) {x : Nat} (hx : x < 12) (hX : X) : PhiUp globD H 100 parF bodF i 20 [.v (misP x)] K X := by
  have hc : x = 0 ∨ x = 1 ∨ x = 2 ∨ x = 3 ∨ x = 4 ∨ x = 5 ∨ x = 6 ∨ x = 7 ∨ x = 8 ∨ x = 9 ∨ x = 10 ∨ x = 11 := c12 _ (by assumption)
  rcases hc with rfl | rfl | rfl | rfl | rfl | rfl | rfl | rfl | rfl | rfl | rfl | rfl
  · rw [phi_lt hi]
    refine ⟨rfl, ?_⟩
    refine need_ok (by decide) (b := false) rfl ?_
    exact hX
  · exact write_pub hi (dup := false) (q := 0) (retain := false) (topic := [97]) (ident := 1) (body := [120]) (by decide) (by decide) hX
  · rw [phi_lt hi]
    refine ⟨rfl, ?_⟩
    refine need_ok (by decide) (b := true) rfl ?_
    have bad : ∀ {K : D → Prop}, PhiUp globD H 100 parF bodF 20 19 [.v (misP 2)] K X := fun {K} => by
      rw [phi_lt (by decide)]
      refine ⟨rfl, ?_⟩
      refine need_ok (by decide) (b := true) rfl ?_
      refine is_topic_ok (by decide) [97] ?_
      refine is_qos_ok (by decide) ?_
      refine need_ok (by decide) (b := false) rfl ?_
      exact hX
    exact bad
  · rw [phi_lt hi]
    refine ⟨rfl, ?_⟩
    refine need_ok (by decide) (b := true) rfl ?_
    have bad : ∀ {K : D → Prop}, PhiUp globD H 100 parF bodF 20 19 [.v (misP 3)] K X := fun {K} => by
      rw [phi_lt (by decide)]
      refine ⟨rfl, ?_⟩
      refine need_ok (by decide) (b := false) rfl ?_
      exact hX
    exact bad
  · rw [phi_lt hi]
    refine ⟨rfl, ?_⟩
    refine need_ok (by decide) (b := true) rfl ?_
    refine first_of_ok (by decide) ?_
    refine need_ok (by decide) (b := true) rfl ?_
    refine is_bare_ok (by decide) ?_
    refine has_list_ok (by decide) ?_
    refine need_ok (by decide) (b := false) rfl ?_
    exact hX
  · rw [phi_lt hi]
    refine ⟨rfl, ?_⟩
    refine need_ok (by decide) (b := true) rfl ?_
    refine first_of_ok (by decide) ?_
    refine need_ok (by decide) (b := true) rfl ?_
    refine is_bare_ok (by decide) ?_
    refine need_ok (by decide) (b := false) rfl ?_
    exact hX
  · rw [phi_lt hi]
    refine ⟨rfl, ?_⟩
    refine need_ok (by decide) (b := true) rfl ?_
    refine first_of_ok (by decide) ?_
    refine need_ok (by decide) (b := true) rfl ?_
    refine is_bare_ok (by decide) ?_
    refine has_list_ok (by decide) ?_
    refine need_ok (by decide) (b := false) rfl ?_
    exact hX
  · rw [phi_lt hi]
    refine ⟨rfl, ?_⟩
    refine need_ok (by decide) (b := true) rfl ?_
    refine first_of_ok (by decide) ?_
    refine need_ok (by decide) (b := false) rfl ?_
    exact hX
  · exact write_sbk hi (n := 1) (cs := [0, 3]) (by decide) (by decide) hX
  · exact write_uns hi (n := 1) (items := [[97], [35, 47, 97]]) (by decide) (by decide) hX
  · exact write_sub hi (n := 1) (items := [([97], 0), ([97, 43], 0)]) (by decide) (by decide) hX
  · rw [phi_lt hi]
    refine ⟨rfl, ?_⟩
    refine need_ok (by decide) (b := true) rfl ?_
    refine first_of_ok (by decide) ?_
    refine need_ok (by decide) (b := true) rfl ?_
    refine is_bare_ok (by decide) ?_
    refine has_list_ok (by decide) ?_
    refine need_ok (by decide) (b := false) rfl ?_
    exact hX
theorem lq_rest {x : Nat} (hx : x < 12) {a b c : LV} (hk : K (.bool true)) :
    xSs (PhiUp globD H 100 parF bodF 34) globD H 93 (b_law_probe.drop 7) [(16, .v (.int (x : Nat))), (0, a), (41, b), (55, c)] (fun _ => K .none) (fun d _ => K d) (fun _ => X) := by
  have hc : x = 0 ∨ x = 1 ∨ x = 2 ∨ x = 3 ∨ x = 4 ∨ x = 5 ∨ x = 6 ∨ x = 7 ∨ x = 8 ∨ x = 9 ∨ x = 10 ∨ x = 11 := c12 _ (by assumption)
  rcases hc with rfl | rfl | rfl | rfl | rfl | rfl | rfl | rfl | rfl | rfl | rfl | rfl
  · refine law_read_ok (by decide) (probe_read (x := 0) (by decide) (by decide) ?_)
    refine law_write_ok (by decide) (probe_write (x := 0) (by decide) (by decide) ?_)
    exact hk
  · refine law_read_ok (by decide) (probe_read (x := 1) (by decide) (by decide) ?_)
    refine law_write_ok (by decide) (probe_write (x := 1) (by decide) (by decide) ?_)
    exact hk
  · refine law_read_ok (by decide) (probe_read (x := 2) (by decide) (by decide) ?_)
    refine law_write_ok (by decide) (probe_write (x := 2) (by decide) (by decide) ?_)
    exact hk
  · refine law_read_ok (by decide) (probe_read (x := 3) (by decide) (by decide) ?_)
    refine law_write_ok (by decide) (probe_write (x := 3) (by decide) (by decide) ?_)
    exact hk
  · refine law_read_ok (by decide) (probe_read (x := 4) (by decide) (by decide) ?_)
    refine law_write_ok (by decide) (probe_write (x := 4) (by decide) (by decide) ?_)
    exact hk
  · refine law_read_ok (by decide) (probe_read (x := 5) (by decide) (by decide) ?_)
    refine law_write_ok (by decide) (probe_write (x := 5) (by decide) (by decide) ?_)
    exact hk
  · refine law_read_ok (by decide) (probe_read (x := 6) (by decide) (by decide) ?_)
    refine law_write_ok (by decide) (probe_write (x := 6) (by decide) (by decide) ?_)
    exact hk
  · refine law_read_ok (by decide) (probe_read (x := 7) (by decide) (by decide) ?_)
    refine law_write_ok (by decide) (probe_write (x := 7) (by decide) (by decide) ?_)
    exact hk
  · refine law_read_ok (by decide) (probe_read (x := 8) (by decide) (by decide) ?_)
    refine law_write_ok (by decide) (probe_write (x := 8) (by decide) (by decide) ?_)
    exact hk
  · refine law_read_ok (by decide) (probe_read (x := 9) (by decide) (by decide) ?_)
    refine law_write_ok (by decide) (probe_write (x := 9) (by decide) (by decide) ?_)
    exact hk
  · refine law_read_ok (by decide) (probe_read (x := 10) (by decide) (by decide) ?_)
    refine law_write_ok (by decide) (probe_write (x := 10) (by decide) (by decide) ?_)
    exact hk
  · refine law_read_ok (by decide) (probe_read (x := 11) (by decide) (by decide) ?_)
    refine law_write_ok (by decide) (probe_write (x := 11) (by decide) (by decide) ?_)
    exact hk
theorem law_probe_ok (hi : 34 < i) {x : Nat} (hx : x < 12) (hk : K (.bool true)) : PhiUp globD H 100 parF bodF i 34 [.v (.int (x : Nat))] K X := by
  rw [phi_lt hi]
  refine ⟨rfl, ?_⟩
  show xSs _ globD H 100 (b_law_probe.take 7 ++ b_law_probe.drop 7) [(16, .v (.int (x : Nat)))] _ _ _
  rw [ss_app (by decide)]
  exact lq_len hx fun a b c => lq_rest hx hk
end
end Mine
set_option Elab.async false
set_option maxRecDepth 100000
namespace Mine
set_option tactic.hygienic false
noncomputable def maxN : Nat → List Nat → Nat
  | m, [] => m
  | m, i :: r => maxN (if m < i then i else m) r
noncomputable def goodB (t : List Nat) : Bool := !(t == [2]) && decide (maxN (t.headD 0) t.tail < 4)
noncomputable def soundB (f : List Nat) : Bool := !(f == [2]) && (decide (maxN (f.headD 0) f.tail < 6) && !f.dropLast.any (· == 5))
noncomputable def fitsL (f t : List Nat) : Bool :=
  !(decide (3 < f.headD 0) && decide (t.headD 0 = 3)) &&
  (if f.getLastD 0 = 5 then decide (f.dropLast.length = (t.take (f.length - 1)).length) && (List.zipWith (fun x y => if x = 4 then x else y) f.dropLast (t.take (f.length - 1)) == f.dropLast)
   else decide (f.length = t.length) && (List.zipWith (fun x y => if x = 4 then x else y) f t == f))
theorem topic1 : ∀ a < 7, topicB (textL [a]) = goodB [a] := by decide +kernel
theorem topic2 : ∀ a < 7, ∀ b < 7, topicB (textL [a, b]) = goodB [a, b] := by decide +kernel
set_option synthInstance.maxSize 1000 in
theorem topic3 : ∀ a < 7, ∀ b < 7, ∀ c < 7, topicB (textL [a, b, c]) = goodB [a, b, c] := by decide +kernel
theorem filter1 : ∀ a < 9, filterB (textL [a]) = soundB [a] := by decide +kernel
theorem filter2 : ∀ a < 9, ∀ b < 9, filterB (textL [a, b]) = soundB [a, b] := by decide +kernel
theorem filter3 : ∀ a < 9, ∀ b < 9, ∀ c < 9, filterB (textL [a, b, c]) = soundB [a, b, c] := by decide +kernel
end Mine
set_option Elab.async false
set_option maxRecDepth 100000
namespace Mine
set_option tactic.hygienic false
noncomputable def goodTs : List (List Nat) := ((List.range 4).map fun a => [a]) ++ ((List.range 4).flatMap fun a => (List.range 4).map fun b => [a, b]) ++ ((List.range 4).flatMap fun a => (List.range 4).flatMap fun b => (List.range 4).map fun c => [a, b, c])
noncomputable def okF (f : List Nat) : Bool := !soundB f || goodTs.all fun t => !goodB t || matchB (textL f) (textL t) == fitsL f t
theorem ok1 : ∀ a < 6, okF [a] = true := by decide +kernel
theorem ok2 : ∀ a < 6, ∀ b < 6, okF [a, b] = true := by decide +kernel
theorem ok30 : ∀ b < 6, ∀ c < 6, okF [0, b, c] = true := by decide +kernel
theorem ok31 : ∀ b < 6, ∀ c < 6, okF [1, b, c] = true := by decide +kernel
theorem ok32 : ∀ b < 6, ∀ c < 6, okF [2, b, c] = true := by decide +kernel
theorem ok33 : ∀ b < 6, ∀ c < 6, okF [3, b, c] = true := by decide +kernel
theorem ok34 : ∀ b < 6, ∀ c < 6, okF [4, b, c] = true := by decide +kernel
theorem ok35 : ∀ b < 6, ∀ c < 6, okF [5, b, c] = true := by decide +kernel
theorem maxN_le : ∀ {l : List Nat} {m k : Nat}, maxN m l < k → m < k ∧ ∀ x ∈ l, x < k
  | [], m, k, h => ⟨h, nofun⟩
  | i :: r, m, k, h => by
    obtain ⟨h1, h2⟩ := maxN_le (l := r) h
    have : m < k ∧ i < k := by split at h1 <;> (first | lia | omega)
    exact ⟨this.1, fun x hx => by rcases List.mem_cons.mp hx with rfl | hx; exact this.2; exact h2 x hx⟩
theorem match_fits {f t : List Nat} (hf : f.length = 1 ∨ f.length = 2 ∨ f.length = 3) (ht : t.length = 1 ∨ t.length = 2 ∨ t.length = 3) (sf : soundB f = true) (gt : goodB t = true) : matchB (textL f) (textL t) = fitsL f t := by
  have key : okF f = true := by
    have h6 : ∀ x ∈ f, x < 6 := by
      simp only [soundB, Bool.and_eq_true, decide_eq_true_eq] at sf
      obtain ⟨a, b⟩ := maxN_le sf.2.1
      cases f with
      | nil => exact nofun
      | cons x r => exact fun y hy => by rcases List.mem_cons.mp hy with rfl | hy; exact a; exact b y hy
    rcases f with _ | ⟨a, _ | ⟨b, _ | ⟨c, _ | ⟨d, r⟩⟩⟩⟩
    · simp at hf
    · exact ok1 a (h6 a (by simp))
    · exact ok2 a (h6 a (by simp)) b (h6 b (by simp))
    · have ha := h6 a (by simp)
      have hb := h6 b (by simp)
      have hc := h6 c (by simp)
      have := c6 a ha
      rcases this with rfl | rfl | rfl | rfl | rfl | rfl
      · exact ok30 b hb c hc
      · exact ok31 b hb c hc
      · exact ok32 b hb c hc
      · exact ok33 b hb c hc
      · exact ok34 b hb c hc
      · exact ok35 b hb c hc
    · simp at hf
  have hm : t ∈ goodTs := by
    have h4 : ∀ x ∈ t, x < 4 := by
      simp only [goodB, Bool.and_eq_true, decide_eq_true_eq] at gt
      obtain ⟨a, b⟩ := maxN_le gt.2
      cases t with
      | nil => exact nofun
      | cons x r => exact fun y hy => by rcases List.mem_cons.mp hy with rfl | hy; exact a; exact b y hy
    rcases t with _ | ⟨a, _ | ⟨b, _ | ⟨c, _ | ⟨d, r⟩⟩⟩⟩
    · simp at ht
    · simp only [goodTs, List.mem_append, List.mem_map, List.mem_range]
      exact .inl (.inl ⟨a, h4 a (by simp), rfl⟩)
    · simp only [goodTs, List.mem_append, List.mem_map, List.mem_flatMap, List.mem_range]
      exact .inl (.inr ⟨a, h4 a (by simp), b, h4 b (by simp), rfl⟩)
    · simp only [goodTs, List.mem_append, List.mem_map, List.mem_flatMap, List.mem_range]
      exact .inr ⟨a, h4 a (by simp), b, h4 b (by simp), c, h4 c (by simp), rfl⟩
    · simp at ht
  unfold okF at key
  rw [sf, Bool.not_true, Bool.false_or, List.all_eq_true] at key
  have := key t hm
  rw [gt, Bool.not_true, Bool.false_or] at this
  simpa using this
theorem topic_good {t : List Nat} (ht : t.length = 1 ∨ t.length = 2 ∨ t.length = 3) (h7 : ∀ x ∈ t, x < 7) : topicB (textL t) = goodB t := by
  rcases t with _ | ⟨a, _ | ⟨b, _ | ⟨c, _ | ⟨d, r⟩⟩⟩⟩
  · simp at ht
  · exact topic1 a (h7 a (by simp))
  · exact topic2 a (h7 a (by simp)) b (h7 b (by simp))
  · exact topic3 a (h7 a (by simp)) b (h7 b (by simp)) c (h7 c (by simp))
  · simp at ht
theorem filter_sound {f : List Nat} (hf : f.length = 1 ∨ f.length = 2 ∨ f.length = 3) (h9 : ∀ x ∈ f, x < 9) : filterB (textL f) = soundB f := by
  rcases f with _ | ⟨a, _ | ⟨b, _ | ⟨c, _ | ⟨d, r⟩⟩⟩⟩
  · simp at hf
  · exact filter1 a (h9 a (by simp))
  · exact filter2 a (h9 a (by simp)) b (h9 b (by simp))
  · exact filter3 a (h9 a (by simp)) b (h9 b (by simp)) c (h9 c (by simp))
  · simp at hf
theorem eq_nats : ∀ {n : Nat} {a b : List Nat}, eqAll (D.eqN (n + 1)) (a.map fun (c : Nat) => D.int c) (b.map fun (c : Nat) => D.int c) = some (a == b)
  | _, [], [] => rfl
  | _, [], _ :: _ => rfl
  | _, _ :: _, [] => rfl
  | n, x :: a, y :: b => by
    simp only [List.map_cons, eqAll]
    rw [eq_nats]
    have : D.eqN (n + 1) (.int (x : Nat)) (.int (y : Nat)) = some (x == y) := by
      show some (decide ((x : Int) = (y : Int))) = _
      by_cases h : x = y
      · subst h; simp
      · rw [decide_eq_false (by (first | lia | omega))]; simp [h]
    rw [this]
    show some ((x == y) && (a == b)) = _
    rfl
theorem eq_natsD {a b : List Nat} : D.eq (natsD a) (natsD b) = some (a == b) := by
  show eqAll (D.eqN 8) _ _ = _
  exact eq_nats
theorem max_nats : ∀ {r : List Nat} {m : Nat}, maxL (m : Nat) (r.map fun (c : Nat) => D.int c) = some ((maxN m r : Nat) : Int)
  | [], m => rfl
  | i :: r, m => by
    show maxL (if (m : Int) < (i : Int) then (i : Int) else (m : Int)) _ = some ((maxN (if m < i then i else m) r : Nat) : Int)
    by_cases h : m < i
    · rw [if_pos (by (first | lia | omega)), if_pos h]; exact max_nats
    · rw [if_neg (by (first | lia | omega)), if_neg h]; exact max_nats
theorem max_natsD {t : List Nat} (h : t ≠ []) : D.max (natsD t) = some (.int ((maxN (t.headD 0) t.tail : Nat))) := by
  cases t with
  | nil => exact absurd rfl h
  | cons a r =>
    show (maxL (a : Nat) (r.map fun (c : Nat) => D.int c)).map D.int = _
    rw [max_nats]; rfl
theorem any_nats {k : Nat} : ∀ {l : List Nat}, D.anyEq (.int (k : Nat)) (l.map fun (c : Nat) => D.int c) = some (l.any (· == k))
  | [] => rfl
  | x :: r => by
    have e : D.eq (.int (x : Nat)) (.int (k : Nat)) = some (x == k) := by
      show some (decide ((x : Int) = (k : Int))) = _
      by_cases h : x = k
      · subst h; simp
      · rw [decide_eq_false (by (first | lia | omega))]; simp [h]
    simp only [List.map_cons, D.anyEq]
    rw [e, any_nats]
    rfl
theorem idx_head {l : List Nat} (h : l ≠ []) : D.idx (natsD l) (.int 0) = some (.int (l.headD 0 : Nat)) := by
  cases l with
  | nil => exact absurd rfl h
  | cons a r => rfl
theorem idx_last {l : List Nat} (h : l ≠ []) : D.idx (natsD l) (.int (-1)) = some (.int (l.getLastD 0 : Nat)) := by
  show at? (l.map fun (c : Nat) => D.int c) (Int.negSucc 0) = _
  have hl : 0 < l.length := List.length_pos_iff.mpr h
  show (if 0 < (l.map fun (c : Nat) => D.int c).length then (l.map fun (c : Nat) => D.int c)[(l.map fun (c : Nat) => D.int c).length - 1 - 0]? else none) = _
  rw [if_pos (by simpa using hl), List.length_map, List.getElem?_map, Nat.sub_zero]
  have : l[l.length - 1]? = some (l.getLastD 0) := by rw [List.getLastD_eq_getLast?, List.getLast?_eq_getElem?, List.getElem?_eq_getElem (by (first | lia | omega))]; rfl
  rw [this]; rfl
theorem cut_last {l : List Nat} : D.cut (natsD l) .none (.int (-1)) = some (natsD l.dropLast) := by
  show some (D.list (cutL (l.map fun (c : Nat) => D.int c) none (some (-1)))) = _
  have : cutL (l.map fun (c : Nat) => D.int c) none (some (-1)) = l.dropLast.map fun (c : Nat) => D.int c := by
    show ((l.map fun (c : Nat) => D.int c).take ((l.map fun (c : Nat) => D.int c).length - 1)).drop 0 = _
    rw [List.drop_zero, List.length_map, ← List.map_take, List.dropLast_eq_take]
  rw [this]; rfl
theorem cut_take {l : List Nat} {k : Nat} : D.cut (natsD l) .none (.int (k : Nat)) = some (natsD (l.take k)) := by
  show some (D.list (cutL (l.map fun (c : Nat) => D.int c) none (some (k : Nat)))) = _
  have : cutL (l.map fun (c : Nat) => D.int c) none (some (k : Nat)) = (l.take k).map fun (c : Nat) => D.int c := by
    show ((l.map fun (c : Nat) => D.int c).take (min k (l.map fun (c : Nat) => D.int c).length)).drop 0 = _
    rw [List.drop_zero, List.length_map, ← List.map_take]
    congr 1
    by_cases h : k ≤ l.length
    · rw [Nat.min_eq_left h]
    · rw [Nat.min_eq_right (by (first | lia | omega)), List.take_of_length_le (by (first | lia | omega)), List.take_of_length_le (by (first | lia | omega))]
  rw [this]; rfl
theorem compZip {step : D → (Option D → Prop) → Prop} (hs : ∀ x y : Nat, ∀ C : Option D → Prop, C (some (.int ((if x = 4 then x else y : Nat)))) → step (.tuple [.int (x : Nat), .int (y : Nat)]) C) : ∀ {f t : List Nat} {acc : List D} {K : List D → Prop}, K (acc ++ (List.zipWith (fun x y => if x = 4 then x else y) f t).map fun (c : Nat) => D.int c) → compGo step (zipL (f.map fun (c : Nat) => D.int c) (t.map fun (c : Nat) => D.int c)) acc K
  | [], t, acc, K, hk => by rw [List.zipWith_nil_left, List.map_nil, List.append_nil] at hk; exact hk
  | x :: f, [], acc, K, hk => by rw [List.zipWith_nil_right, List.map_nil, List.append_nil] at hk; exact hk
  | x :: f, y :: t, acc, K, hk => by
    refine hs x y _ ?_
    refine compZip hs ?_
    rw [List.zipWith_cons_cons, List.map_cons] at hk
    rw [List.append_assoc]; exact hk
end Mine
set_option Elab.async false
set_option maxRecDepth 100000
namespace Mine
set_option tactic.hygienic false
section
variable {H : HSpec} {i : Nat} {K : D → Prop} {X : Prop}
noncomputable def zipB (f t : List Nat) : Bool := decide (f.length = t.length) && (List.zipWith (fun x y => if x = 4 then x else y) f t == f)
theorem lfit_tail {f t : List Nat} (hk : K (.bool (zipB f t))) :
    xSs (PhiUp globD H 100 parF bodF 27) globD H 98 (b_law_fits.drop 2) [(45, .v (natsD f)), (46, .v (natsD t))] (fun _ => K .none) (fun d _ => K d) (fun _ => X) := by
  have el : ∀ {l : List Nat}, (l.map fun (c : Nat) => D.int c).length = l.length := fun {l} => List.length_map _
  refine br_of (fun h => ?_) (fun h => ?_)
  · have h' : ¬ ((f.map fun (c : Nat) => D.int c).length : Int) = ((t.map fun (c : Nat) => D.int c).length : Int) := of_decide_eq_false (nb_t h)
    rw [el, el] at h'
    have e : zipB f t = false := by unfold zipB; rw [decide_eq_false (by (first | lia | omega))]; rfl
    rw [e] at hk; exact hk
  · have h' : ((f.map fun (c : Nat) => D.int c).length : Int) = ((t.map fun (c : Nat) => D.int c).length : Int) := of_decide_eq_true (nb_f h)
    rw [el, el] at h'
    have e : zipB f t = (List.zipWith (fun x y => if x = 4 then x else y) f t == f) := by unfold zipB; rw [decide_eq_true (by (first | lia | omega))]; rfl
    rw [e] at hk
    refine compZip (fun x y C hC => ?_) ?_
    · refine br_of (fun h => ?_) (fun h => ?_)
      · have := of_decide_eq_true h
        rw [if_pos (by (first | lia | omega))] at hC; exact hC
      · have := of_decide_eq_false h
        rw [if_neg (by (first | lia | omega))] at hC; exact hC
    · refine opt_of (eq_natsD (a := List.zipWith (fun x y => if x = 4 then x else y) f t) (b := f)) ?_
      exact hk
theorem law_fits_ok (hi : 27 < i) {f t : List Nat} (hf : f ≠ []) (ht : t ≠ []) (hk : K (.bool (fitsL f t))) : PhiUp globD H 100 parF bodF i 27 [.v (natsD f), .v (natsD t)] K X := by
  rw [phi_lt hi]
  refine ⟨rfl, ?_⟩
  have e0 : fitsL f t = (!(decide (3 < f.headD 0) && decide (t.headD 0 = 3)) && (if f.getLastD 0 = 5 then zipB f.dropLast (t.take (f.length - 1)) else zipB f t)) := rfl
  show xSs _ globD H 100 (b_law_fits.take 2 ++ b_law_fits.drop 2) [(45, .v (natsD f)), (46, .v (natsD t))] _ _ _
  rw [ss_app (by decide)]
  have mid : ∀ {Q : Loc → Prop} {R : D → Loc → Prop} {XX : Loc → Prop}, (!(decide (3 < f.headD 0) && decide (t.headD 0 = 3))) = true →
      (∀ f' t', K (.bool (zipB f' t')) → Q [(45, .v (natsD f')), (46, .v (natsD t'))]) →
      xSs (PhiUp globD H 100 parF bodF 27) globD H 99 ((b_law_fits.drop 1).take 1) [(45, .v (natsD f)), (46, .v (natsD t))] Q R XX := by
    intro Q R XX hb hQ
    rw [e0, hb, Bool.true_and] at hk
    refine opt_of (idx_last hf) ?_
    refine br_of (fun h => ?_) (fun h => ?_)
    · have h' := of_decide_eq_true h
      rw [if_pos (Int.ofNat.inj h')] at hk
      have hl : 0 < f.length := List.length_pos_iff.mpr hf
      have e1 : (((f.map fun (c : Nat) => D.int c).length : Nat) : Int) - 1 = ((f.length - 1 : Nat) : Int) := by rw [List.length_map]; exact (Int.ofNat_sub hl).symm
      have ev : ∀ {a b : D}, some a = some (natsD f.dropLast) → some b = some (natsD (t.take (f.length - 1))) → Q [(45, .v a), (46, .v b)] := fun h1 h2 => by cases h1; cases h2; exact hQ _ _ hk
      exact ev (cut_last (l := f)) (by rw [← cut_take, ← e1]; rfl)
    · have h' := of_decide_eq_false h
      rw [if_neg (fun q => h' (by rw [q]; rfl))] at hk
      exact hQ _ _ hk
  have go : (!(decide (3 < f.headD 0) && decide (t.headD 0 = 3))) = true → xSs (PhiUp globD H 100 parF bodF 27) globD H 99 ((b_law_fits.drop 1).take 1) [(45, .v (natsD f)), (46, .v (natsD t))] (fun σ => xSs (PhiUp globD H 100 parF bodF 27) globD H 98 (b_law_fits.drop 2) σ (fun _ => K .none) (fun d _ => K d) (fun _ => X)) (fun d _ => K d) (fun _ => X) := fun hb => mid hb fun f' t' h => lfit_tail h
  refine opt_of (idx_head hf) ?_
  refine br_of (fun h => ?_) (fun h => ?_)
  · have h' := of_decide_eq_true h
    refine opt_of (idx_head ht) ?_
    refine br_of (fun g => ?_) (fun g => ?_)
    · have g' := of_decide_eq_true g
      rw [e0, decide_eq_true (show 3 < f.headD 0 by (first | lia | omega)), decide_eq_true (show t.headD 0 = 3 from Int.ofNat.inj g')] at hk
      exact hk
    · have g' := of_decide_eq_false g
      exact go (by rw [decide_eq_false (show ¬ t.headD 0 = 3 from fun q => g' (by rw [q]; rfl))]; simp)
  · have h' := of_decide_eq_false h
    refine br_f h ?_
    exact go (by rw [decide_eq_false (show ¬ 3 < f.headD 0 by (first | lia | omega))]; simp)
end
end Mine
set_option Elab.async false
set_option maxRecDepth 100000
namespace Mine
noncomputable def Sub (ρ ρ' : Loc) : Prop := ∀ x l, ρ.get x = some l → ρ'.get x = some l
theorem get_set (ρ : Loc) (x z : Nat) (l : LV) : (ρ.set x l).get z = if x = z then some l else ρ.get z := by
  by_cases h : x = z
  · subst h; rw [if_pos rfl, gs_eq]
  · rw [if_neg h]
    exact gs_ne ρ l (by cases hb : Nat.beq x z with | false => rfl | true => exact absurd (Nat.eq_of_beq_eq_true hb) h)
theorem Sub.refl {ρ : Loc} : Sub ρ ρ := fun _ _ h => h
theorem Sub.set {ρ ρ' : Loc} (h : Sub ρ ρ') (x : Nat) (l : LV) : Sub (ρ.set x l) (ρ'.set x l) := fun z l' hz => by
  rw [get_set] at hz ⊢
  split
  · rename_i e; rw [if_pos e] at hz; exact hz
  · rename_i e; rw [if_neg e] at hz; exact h z l' hz
theorem Sub.trans {a b c : Loc} (h : Sub a b) (g : Sub b c) : Sub a c := fun x l q => g x l (h x l q)
theorem Sub.fold {ρ ρ' : Loc} (h : Sub ρ ρ') (ps : List (Nat × LV)) : Sub (ps.foldl (fun ρ p => ρ.set p.1 p.2) ρ) (ps.foldl (fun ρ p => ρ.set p.1 p.2) ρ') := by
  induction ps generalizing ρ ρ' with
  | nil => exact h
  | cons p r ih => exact ih (h.set p.1 p.2)
theorem Sub.foldD {ρ ρ' : Loc} (h : Sub ρ ρ') (ps : List (Nat × D)) : Sub (ps.foldl (fun ρ p => ρ.set p.1 (.v p.2)) ρ) (ps.foldl (fun ρ p => ρ.set p.1 (.v p.2)) ρ') := by
  induction ps generalizing ρ ρ' with
  | nil => exact h
  | cons p r ih => exact ih (h.set p.1 (.v p.2))
theorem Sub.bind {ρ ρ' : Loc} (h : Sub ρ ρ') (xs : List Nat) (one : Bool) (d : D) {τ : Loc} (e : ρ.bind xs one d = some τ) : ∃ τ', ρ'.bind xs one d = some τ' ∧ Sub τ τ' := by
  cases one with
  | true => cases xs with
    | nil => cases e
    | cons x r => cases r with
      | nil => cases e; exact ⟨_, rfl, h.set _ _⟩
      | cons _ _ => cases e
  | false => cases d with
    | tuple ds =>
      replace e : (if xs.length = ds.length then some ((xs.zip ds).foldl (fun ρ p => ρ.set p.1 (.v p.2)) ρ) else .none) = some τ := e
      by_cases hl : xs.length = ds.length
      · rw [if_pos hl] at e; cases e; exact ⟨_, if_pos hl, h.foldD _⟩
      · rw [if_neg hl] at e; cases e
    | _ => cases e
theorem onlyG (ρ : Loc) (x : Nat) (l : LV) : ∀ {cap : List Nat}, (ρ.only cap).get x = some l → x ∈ cap ∧ ρ.get x = some l
  | [], h => by cases h
  | y :: r, h => by
    simp only [Loc.only] at h
    split at h
    · rename_i d hd
      simp only [Loc.get] at h
      split at h
      · rename_i hb; cases Nat.eq_of_beq_eq_true hb; cases h; exact ⟨List.mem_cons_self, hd⟩
      · obtain ⟨a, b⟩ := onlyG ρ x l h; exact ⟨List.mem_cons_of_mem _ a, b⟩
    · obtain ⟨a, b⟩ := onlyG ρ x l h; exact ⟨List.mem_cons_of_mem _ a, b⟩
theorem get_only (ρ : Loc) (x : Nat) (d : D) : ∀ {cap : List Nat}, x ∈ cap → ρ.get x = some (.v d) → (ρ.only cap).get x = some (.v d)
  | [], h, _ => by cases h
  | y :: r, h, g => by
    simp only [Loc.only]
    by_cases e : y = x
    · subst e
      rw [g]
      simp only [Loc.get, Nat.beq_refl]
    · have hm : x ∈ r := by rcases List.mem_cons.mp h with q | q; exact absurd q.symm e; exact q
      have hb : Nat.beq y x = false := by cases hb : Nat.beq y x with | false => rfl | true => exact absurd (Nat.eq_of_beq_eq_true hb) e
      split
      · simp only [Loc.get, hb]; exact get_only ρ x d hm g
      · exact get_only ρ x d hm g
theorem only_v (ρ : Loc) (x : Nat) (l : LV) : ∀ {cap : List Nat}, (ρ.only cap).get x = some l → ∃ d, l = .v d
  | [], h => by cases h
  | y :: r, h => by
    simp only [Loc.only] at h
    split at h
    · simp only [Loc.get] at h
      split at h
      · cases h; exact ⟨_, rfl⟩
      · exact only_v ρ x l h
    · exact only_v ρ x l h
theorem Sub.only {ρ ρ' : Loc} (h : Sub ρ ρ') (cap : List Nat) : Sub (ρ.only cap) (ρ'.only cap) := fun x l hl => by
  obtain ⟨a, b⟩ := onlyG ρ x l hl
  obtain ⟨d, rfl⟩ := only_v ρ x l hl
  exact get_only ρ' x d a (h x _ b)
theorem opt_mono {α : Type} {o : Option α} {K K' : α → Prop} (h : opt o K) (m : ∀ a, K a → K' a) : opt o K' := by
  cases o with
  | none => exact h
  | some a => exact m a h
theorem br_mono {b : Bool} {P Q P' Q' : Prop} (h : br b P Q) (hp : P → P') (hq : Q → Q') : br b P' Q' := by
  cases b with
  | true => exact hp h
  | false => exact hq h
theorem compGo_mono {s s' : D → (Option D → Prop) → Prop} (hs : ∀ d C C', (∀ o, C o → C' o) → s d C → s' d C') : ∀ {l acc : List D} {K K' : List D → Prop}, (∀ r, K r → K' r) → compGo s l acc K → compGo s' l acc K'
  | [], acc, K, K', hK, h => hK _ h
  | d :: r, acc, K, K', hK, h => by
    refine hs d _ _ (fun o ho => ?_) h
    cases o with
    | none => exact compGo_mono hs hK ho
    | some y => exact compGo_mono hs hK ho
theorem vget {o : Option LV} {K : D → Prop} (h : (match o with | some (.v d) => K d | _ => False)) : ∃ d, o = some (.v d) ∧ K d := by
  split at h
  · exact ⟨_, rfl, h⟩
  · exact h.elim
noncomputable def PhiM (Φ : Phi) : Prop := ∀ f ls (K K' : D → Prop) (X X' : Prop), (∀ d, K d → K' d) → (X → X') → Φ f ls K X → Φ f ls K' X'
noncomputable def HM (H : HSpec) : Prop := ∀ d held (C C' : D → List Int → Prop), (∀ e h, C e h → C' e h) → H d held C → H d held C'
section
variable {Φ : Phi} {G : Nat → D} {H : HSpec}
structure WkE (Φ : Phi) (G : Nat → D) (n : Nat) : Prop where
  e : ∀ {e : E} {ρ ρ' : Loc} {K K' : D → Prop} {X X' : Prop}, Sub ρ ρ' → (∀ d, K d → K' d) → (X → X') → xE Φ G n e ρ K X → xE Φ G n e ρ' K' X'
  and : ∀ {es : List E} {ρ ρ' : Loc} {K K' : D → Prop} {X X' : Prop}, Sub ρ ρ' → (∀ d, K d → K' d) → (X → X') → xAnd Φ G n es ρ K X → xAnd Φ G n es ρ' K' X'
  or : ∀ {es : List E} {ρ ρ' : Loc} {K K' : D → Prop} {X X' : Prop}, Sub ρ ρ' → (∀ d, K d → K' d) → (X → X') → xOr Φ G n es ρ K X → xOr Φ G n es ρ' K' X'
  es : ∀ {es : List E} {ρ ρ' : Loc} {K K' : List D → Prop} {X X' : Prop}, Sub ρ ρ' → (∀ d, K d → K' d) → (X → X') → xEs Φ G n es ρ K X → xEs Φ G n es ρ' K' X'
  as : ∀ {es : List E} {ρ ρ' : Loc} {K K' : List LV → Prop} {X X' : Prop}, Sub ρ ρ' → (∀ d, K d → K' d) → (X → X') → xAs Φ G n es ρ K X → xAs Φ G n es ρ' K' X'
  a : ∀ {e : E} {ρ ρ' : Loc} {K K' : LV → Prop} {X X' : Prop}, Sub ρ ρ' → (∀ d, K d → K' d) → (X → X') → xA Φ G n e ρ K X → xA Φ G n e ρ' K' X'
theorem wkSrc {n : Nat} (ih : WkE Φ G n) {it : E} {ρ ρ' : Loc} {J J' : List D → Prop} {X X' : Prop} (hs : Sub ρ ρ') (step : ∀ items, J items → J' items) (hX : X → X') (h : xSrc Φ G n it ρ J X) : xSrc Φ G n it ρ' J' X' := by
  cases it with
  | var x =>
    have h' : (match ρ.get x with | some (.v d) => opt d.items J | some (.own ds) => J ds | some (.brw ds) => J ds | _ => False) := h
    show (match ρ'.get x with | some (.v d) => opt d.items J' | some (.own ds) => J' ds | some (.brw ds) => J' ds | _ => False)
    cases hg : ρ.get x with
    | none => rw [hg] at h'; exact h'.elim
    | some l =>
      rw [hg] at h'
      rw [hs _ _ hg]
      cases l with
      | v d => exact opt_mono h' fun items hi => step _ hi
      | own ds => exact step _ h'
      | brw ds => exact step _ h'
      | rcv r => exact h'.elim
  | range a b =>
    refine ih.e hs (fun x hx => ih.e hs (fun y hy => ?_) hX hx) hX h
    cases x with
    | int i => cases y with
      | int j => exact ⟨hy.1, step _ hy.2⟩
      | _ => exact hy.elim
    | _ => exact hy.elim
  | zip a b =>
    refine ih.e hs (fun x hx => ih.e hs (fun y hy => ?_) hX hx) hX h
    cases x with
    | list i => cases y with
      | list j => exact step _ hy
      | _ => exact hy.elim
    | _ => exact hy.elim
  | _ => exact ih.e hs (fun d hd => opt_mono hd fun items hi => step _ hi) hX h
theorem wkE (hΦ : PhiM Φ) : ∀ n, WkE Φ G n := by
  intro n
  induction n with
  | zero => exact ⟨fun _ _ _ h => h.elim, fun _ _ _ h => h.elim, fun _ _ _ h => h.elim, fun _ _ _ h => h.elim, fun _ _ _ h => h.elim, fun _ _ _ h => h.elim⟩
  | succ n ih =>
    constructor
    · intro e ρ ρ' K K' X X' hs hK hX h
      cases e with
      | none => exact hK _ h
      | tt b => exact hK _ h
      | int i => exact hK _ h
      | str k => exact hK _ h
      | byt l => exact hK _ h
      | var x =>
        obtain ⟨d, hd, hk⟩ := vget h
        show (match ρ'.get x with | some (.v d) => K' d | _ => False)
        rw [hs x _ hd]; exact hK _ hk
      | glob g => exact hK _ h
      | bin op l r => exact ih.e hs (fun a ha => ih.e hs (fun b hb => opt_mono hb hK) hX ha) hX h
      | not e => exact ih.e hs (fun a ha => opt_mono ha fun b hb => hK _ hb) hX h
      | neg e => exact ih.e hs (fun a ha => by cases a with | int i => exact hK _ ha | _ => exact ha.elim) hX h
      | and es => exact ih.and hs hK hX h
      | or es => exact ih.or hs hK hX h
      | ifx c a b => exact ih.e hs (fun d hd => opt_mono hd fun t ht => br_mono ht (ih.e hs hK hX) (ih.e hs hK hX)) hX h
      | cmp op l r => exact ih.e hs (fun a ha => ih.e hs (fun b hb => opt_mono hb fun t ht => hK _ ht) hX ha) hX h
      | cmp2 o p a b c => exact ih.e hs (fun x hx => ih.e hs (fun y hy => opt_mono hy fun t ht => br_mono ht (ih.e hs (fun z hz => opt_mono hz fun t ht => hK _ ht) hX) (hK _)) hX hx) hX h
      | isty pos e t => exact ih.e hs (fun a ha => hK _ ha) hX h
      | tup es => exact ih.es hs (fun a ha => hK _ ha) hX h
      | lst es => exact ih.es hs (fun a ha => hK _ ha) hX h
      | idx e i => exact ih.e hs (fun a ha => ih.e hs (fun b hb => opt_mono hb hK) hX ha) hX h
      | slc e lo hi => exact ih.e hs (fun a ha => ih.e hs (fun b hb => ih.e hs (fun c hc => opt_mono hc hK) hX hb) hX ha) hX h
      | dget kvs k => exact ih.e hs (fun a ha => by cases a with | str x => exact opt_mono ha hK | _ => exact ha.elim) hX h
      | call f args => exact ih.as hs (fun ls hl => hΦ _ _ _ _ _ _ hK hX hl) hX h
      | len e => exact ih.e hs (fun a ha => opt_mono ha hK) hX h
      | bytesOf e => exact ih.e hs (fun a ha => opt_mono ha hK) hX h
      | maxOf e => exact ih.e hs (fun a ha => opt_mono ha hK) hX h
      | join sep e => exact ih.e hs (fun a ha => opt_mono ha hK) hX h
      | comp elt xs one it ifs cap =>
        rw [xE_comp] at h ⊢
        have step : ∀ {items : List D}, compGo (cstep Φ G n ρ cap xs one elt ifs) items [] (fun ds => K (.list ds)) → compGo (cstep Φ G n ρ' cap xs one elt ifs) items [] (fun ds => K' (.list ds)) := by
          intro items hh
          refine compGo_mono (fun d C C' hC hd => ?_) (fun r hr => hK _ hr) hh
          unfold cstep at hd ⊢
          cases hb : (ρ.only cap).bind xs one d with
          | none => rw [hb] at hd; exact hd.elim
          | some τ =>
            rw [hb] at hd
            obtain ⟨τ', h1, h2⟩ := (hs.only cap).bind xs one d hb
            rw [h1]
            cases ifs with
            | nil => exact ih.e h2 (fun y hy => hC _ hy) id hd
            | cons c r => exact ih.e h2 (fun t ht => opt_mono ht fun t ht => br_mono ht (ih.e h2 (fun y hy => hC _ hy) id) (hC _)) id hd
        exact wkSrc ih hs (fun _ => step) hX h
      | range a b => exact h.elim
      | zip a b => exact h.elim
      | newRecv => exact h.elim
      | hin pos self x =>
        refine ih.e hs (fun a ha => ?_) hX h
        cases a with
        | int i =>
          cases hg : ρ.get self with
          | none => rw [hg] at ha; exact ha.elim
          | some l =>
            rw [hg] at ha
            cases l with
            | rcv held => rw [hs _ _ hg]; exact hK _ ha
            | _ => exact ha.elim
        | _ => exact ha.elim
    · intro es ρ ρ' K K' X X' hs hK hX h
      match es, h with
      | [], h => exact hK _ h
      | [e], h => exact ih.e hs hK hX h
      | e :: e2 :: r, h => exact ih.e hs (fun a ha => opt_mono ha fun t ht => br_mono ht (ih.and hs hK hX) (hK _)) hX h
    · intro es ρ ρ' K K' X X' hs hK hX h
      match es, h with
      | [], h => exact hK _ h
      | [e], h => exact ih.e hs hK hX h
      | e :: e2 :: r, h => exact ih.e hs (fun a ha => opt_mono ha fun t ht => br_mono ht (hK _) (ih.or hs hK hX)) hX h
    · intro es ρ ρ' K K' X X' hs hK hX h
      match es, h with
      | [], h => exact hK _ h
      | e :: r, h => exact ih.e hs (fun a ha => ih.es hs (fun ds hd => hK _ hd) hX ha) hX h
    · intro es ρ ρ' K K' X X' hs hK hX h
      match es, h with
      | [], h => exact hK _ h
      | e :: r, h => exact ih.a hs (fun a ha => ih.as hs (fun ds hd => hK _ hd) hX ha) hX h
    · intro e ρ ρ' K K' X X' hs hK hX h
      cases e with
      | var x =>
        have h' : (match ρ.get x with | some (.v d) => K (.v d) | some (.own ds) => K (.brw ds) | some (.brw ds) => K (.brw ds) | _ => False) := h
        show (match ρ'.get x with | some (.v d) => K' (.v d) | some (.own ds) => K' (.brw ds) | some (.brw ds) => K' (.brw ds) | _ => False)
        cases hg : ρ.get x with
        | none => rw [hg] at h'; exact h'.elim
        | some l =>
          rw [hg] at h'
          rw [hs _ _ hg]
          cases l with
          | rcv r => exact h'.elim
          | _ => exact hK _ h'
      | _ => exact ih.e hs (fun d hd => hK _ hd) hX h
theorem wkLV (hΦ : PhiM Φ) {n : Nat} {own : Bool} {e : E} {ρ ρ' : Loc} {K K' : LV → Prop} {X X' : Prop} (hs : Sub ρ ρ') (hK : ∀ l, K l → K' l) (hX : X → X') (h : xLV Φ G n own e ρ K X) : xLV Φ G n own e ρ' K' X' := by
  have W := wkE (G := G) hΦ n
  cases own with
  | false => cases e with
    | newRecv => exact hK _ h
    | _ => exact W.e hs (fun d hd => hK _ hd) hX h
  | true => cases e with
    | newRecv => exact hK _ h
    | lst es => exact W.es hs (fun d hd => hK _ hd) hX h
    | _ => exact W.e hs (fun d hd => hK _ hd) hX h
theorem wkLVs (hΦ : PhiM Φ) {n : Nat} {ρ ρ' : Loc} {X X' : Prop} (hs : Sub ρ ρ') (hX : X → X') : ∀ {es : List (Bool × E)} {K K' : List LV → Prop}, (∀ l, K l → K' l) → xLVs Φ G n es ρ K X → xLVs Φ G n es ρ' K' X'
  | [], K, K', hK, h => hK _ h
  | (o, e) :: r, K, K', hK, h => wkLV hΦ hs (fun l hl => wkLVs hΦ hs hX (fun ls hls => hK _ hls) hl) hX h
theorem wl_mono {C C' : Loc → (Bool → Prop) → Prop} {B B' : Loc → (Loc → Prop) → Prop} {K K' : Loc → Prop} (hC : ∀ σ σ' (Q Q' : Bool → Prop), Sub σ σ' → (∀ b, Q b → Q' b) → C σ Q → C' σ' Q') (hB : ∀ σ σ' (Q Q' : Loc → Prop), Sub σ σ' → (∀ τ τ', Sub τ τ' → Q τ → Q' τ') → B σ Q → B' σ' Q') (hK : ∀ σ σ', Sub σ σ' → K σ → K' σ') :
    ∀ {k : Nat} {σ σ' : Loc}, Sub σ σ' → wl C B K k σ → wl C' B' K' k σ'
  | 0, _, _, _, h => h
  | k + 1, σ, σ', hs, h => hC σ σ' _ _ hs (fun b hb => br_mono hb (hB σ σ' _ _ hs fun τ τ' ht hq => wl_mono hC hB hK ht hq) (hK σ σ' hs)) h
theorem fl_mono {xs : List Nat} {one : Bool} {B B' : Loc → (Loc → Prop) → Prop} {K K' : Loc → Prop} (hB : ∀ σ σ' (Q Q' : Loc → Prop), Sub σ σ' → (∀ τ τ', Sub τ τ' → Q τ → Q' τ') → B σ Q → B' σ' Q') (hK : ∀ σ σ', Sub σ σ' → K σ → K' σ') :
    ∀ {items : List D} {σ σ' : Loc}, Sub σ σ' → fl (fun σ d => σ.bind xs one d) B K items σ → fl (fun σ d => σ.bind xs one d) B' K' items σ'
  | [], _, _, hs, h => hK _ _ hs h
  | d :: r, σ, σ', hs, h => by
    have h' : opt (σ.bind xs one d) (fun τ => B τ (fl (fun σ d => σ.bind xs one d) B K r)) := h
    show opt (σ'.bind xs one d) (fun τ => B' τ (fl (fun σ d => σ.bind xs one d) B' K' r))
    cases hb : σ.bind xs one d with
    | none => rw [hb] at h'; exact h'.elim
    | some τ =>
      rw [hb] at h'
      obtain ⟨τ', h1, h2⟩ := hs.bind xs one d hb
      rw [h1]
      exact hB τ τ' _ _ h2 (fun _ _ ht hq => fl_mono hB hK ht hq) h'
structure WkS (Φ : Phi) (G : Nat → D) (H : HSpec) (n : Nat) : Prop where
  s : ∀ {s : S} {ρ ρ' : Loc} {K K' X X' : Loc → Prop} {R R' : D → Loc → Prop}, Sub ρ ρ' → (∀ σ σ', Sub σ σ' → K σ → K' σ') → (∀ d σ σ', Sub σ σ' → R d σ → R' d σ') → (∀ σ σ', Sub σ σ' → X σ → X' σ') → xS Φ G H n s ρ K R X → xS Φ G H n s ρ' K' R' X'
  ss : ∀ {s : List S} {ρ ρ' : Loc} {K K' X X' : Loc → Prop} {R R' : D → Loc → Prop}, Sub ρ ρ' → (∀ σ σ', Sub σ σ' → K σ → K' σ') → (∀ d σ σ', Sub σ σ' → R d σ → R' d σ') → (∀ σ σ', Sub σ σ' → X σ → X' σ') → xSs Φ G H n s ρ K R X → xSs Φ G H n s ρ' K' R' X'
theorem wkS (hΦ : PhiM Φ) (hH : HM H) : ∀ n, WkS Φ G H n := by
  intro n
  induction n with
  | zero => exact ⟨fun _ _ _ _ h => h.elim, fun _ _ _ _ h => h.elim⟩
  | succ n ih =>
    have W := wkE (G := G) hΦ n
    constructor
    · intro s ρ ρ' K K' X X' R R' hs hK hR hX h
      cases s with
      | asg x e => exact wkLV hΦ hs (fun l hl => hK _ _ (hs.set x l) hl) (hX _ _ hs) h
      | own x e => exact wkLV hΦ hs (fun l hl => hK _ _ (hs.set x l) hl) (hX _ _ hs) h
      | asgs xs es => exact wkLVs hΦ hs (hX _ _ hs) (fun ls hl => hK _ _ (hs.fold _) hl) h
      | asgT xs e =>
        refine W.e hs (fun d hd => ?_) (hX _ _ hs) h
        cases hb : ρ.bind xs false d with
        | none => rw [hb] at hd; exact hd.elim
        | some τ =>
          rw [hb] at hd
          obtain ⟨τ', h1, h2⟩ := hs.bind xs false d hb
          rw [h1]; exact hK _ _ h2 hd
      | app x e =>
        have h' : (match ρ.get x with | some (.own ds) => xE Φ G n e ρ (fun d => fits (ds.length + 1) = true ∧ K (ρ.set x (.own (ds ++ [d])))) (X ρ) | _ => False) := h
        show (match ρ'.get x with | some (.own ds) => xE Φ G n e ρ' (fun d => fits (ds.length + 1) = true ∧ K' (ρ'.set x (.own (ds ++ [d])))) (X' ρ') | _ => False)
        cases hg : ρ.get x with
        | none => rw [hg] at h'; exact h'.elim
        | some l =>
          rw [hg] at h'
          rw [hs _ _ hg]
          cases l with
          | own ds => exact W.e hs (fun d hd => ⟨hd.1, hK _ _ (hs.set _ _) hd.2⟩) (hX _ _ hs) h'
          | _ => exact h'.elim
      | frz x =>
        have h' : (match ρ.get x with | some (.own ds) => K (ρ.set x (.v (.list ds))) | _ => False) := h
        show (match ρ'.get x with | some (.own ds) => K' (ρ'.set x (.v (.list ds))) | _ => False)
        cases hg : ρ.get x with
        | none => rw [hg] at h'; exact h'.elim
        | some l =>
          rw [hg] at h'
          rw [hs _ _ hg]
          cases l with
          | own ds => exact hK _ _ (hs.set _ _) h'
          | _ => exact h'.elim
      | expr e => exact W.e hs (fun _ hd => hK _ _ hs hd) (hX _ _ hs) h
      | ret e => exact W.e hs (fun _ hd => hR _ _ _ hs hd) (hX _ _ hs) h
      | ifs c a b => exact W.e hs (fun d hd => opt_mono hd fun t ht => br_mono ht (ih.ss hs hK hR hX) (ih.ss hs hK hR hX)) (hX _ _ hs) h
      | whl c b =>
        obtain ⟨k, hk⟩ := h
        exact ⟨k, wl_mono (fun σ σ' Q Q' hq hQ hc => W.e hq (fun d hd => opt_mono hd hQ) (hX _ _ hq) hc) (fun σ σ' Q Q' hq hQ hb => ih.ss hq hQ hR hX hb) hK hs hk⟩
      | «for» xs one it b => exact W.e hs (fun d hd => opt_mono hd fun items hi => fl_mono (fun σ σ' Q Q' hq hQ hb => ih.ss hq hQ hR hX hb) hK hs hi) (hX _ _ hs) h
      | raise => exact hX _ _ hs h
      | «try» b x e =>
        refine ih.ss hs hK hR (fun σ σ' hq hh => ?_) h
        cases e with
        | str k => exact hK _ _ (hq.set _ _) hh
        | byt l => exact hK _ _ (hq.set _ _) hh
        | _ => exact hh.elim
      | ifh r arg right more b =>
        cases hg : ρ.get r with
        | none =>
          have h' : (match ρ.get r with | some (.rcv held) => _ | _ => False) := h
          rw [hg] at h'; exact h'.elim
        | some l =>
          have h' : (match ρ.get r with | some (.rcv held) => _ | _ => False) := h
          show (match ρ'.get r with | some (.rcv held) => _ | _ => False)
          rw [hg] at h'
          rw [hs _ _ hg]
          cases l with
          | rcv held =>
            refine W.e hs (fun d hd => hH _ _ _ _ (fun ev held' hq => ?_) hd) (hX _ _ hs) h'
            have hs' := hs.set r (.rcv held')
            refine W.e hs' (fun w hw => opt_mono hw fun t ht => br_mono ht ?_ (ih.ss hs' hK hR hX)) (hX _ _ hs') hq
            cases more with
            | none => exact hK _ _ hs'
            | some c => exact W.e hs' (fun d hd => opt_mono hd fun t ht => br_mono ht (ih.ss hs' hK hR hX) (hK _ _ hs')) (hX _ _ hs')
          | _ => exact h'.elim
      | hset self x =>
        have h' : (match ρ.get self, ρ.get x with | some (.rcv held), some (.v (.int i)) => fits held.length = true ∧ K (ρ.set self (.rcv (if held.contains i then held else held ++ [i]))) | _, _ => False) := h
        show (match ρ'.get self, ρ'.get x with | some (.rcv held), some (.v (.int i)) => fits held.length = true ∧ K' (ρ'.set self (.rcv (if held.contains i then held else held ++ [i]))) | _, _ => False)
        split at h'
        · rename_i h1 h2
          rw [hs _ _ h1, hs _ _ h2]
          exact ⟨h'.1, hK _ _ (hs.set _ _) h'.2⟩
        · exact h'.elim
      | hdel self x =>
        have h' : (match ρ.get self, ρ.get x with | some (.rcv held), some (.v (.int i)) => fits held.length = true ∧ held.contains i = true ∧ K (ρ.set self (.rcv (held.filter fun j => j != i))) | _, _ => False) := h
        show (match ρ'.get self, ρ'.get x with | some (.rcv held), some (.v (.int i)) => fits held.length = true ∧ held.contains i = true ∧ K' (ρ'.set self (.rcv (held.filter fun j => j != i))) | _, _ => False)
        split at h'
        · rename_i h1 h2
          rw [hs _ _ h1, hs _ _ h2]
          exact ⟨h'.1, h'.2.1, hK _ _ (hs.set _ _) h'.2.2⟩
        · exact h'.elim
    · intro ss ρ ρ' K K' X X' R R' hs hK hR hX h
      cases ss with
      | nil => exact hK _ _ hs h
      | cons s r => exact ih.s hs (fun σ σ' hq hh => ih.ss hq hK hR hX hh) hR hX h
theorem phiUp_mono (hH : HM H) {N : Nat} {par : Nat → List Nat} {bod : Nat → List S} : ∀ i, PhiM (PhiUp G H N par bod i)
  | 0 => fun _ _ _ _ _ _ _ _ h => h.elim
  | i + 1 => fun f ls K K' X X' hK hX h => by
    simp only [PhiUp] at h ⊢
    split
    · rename_i e
      rw [e] at h
      exact ⟨h.1, (wkS (phiUp_mono hH i) hH N).ss .refl (fun _ _ _ h => hK _ h) (fun d _ _ _ h => hK _ h) (fun _ _ _ h => hX h) h.2⟩
    · rename_i e
      rw [e] at h
      exact phiUp_mono hH i f ls K K' X X' hK hX h
theorem hs_mono {N selfN pkN : Nat} {body : List S} : HM (HS G N selfN pkN body) := fun d held C C' hC h => by
  have hΦ : PhiM Φ0 := fun _ _ _ _ _ _ _ _ h => h.elim
  have hH0 : HM H0 := fun _ _ _ _ _ h => h.elim
  have key : ∀ ev σ σ', Sub σ σ' → hk selfN C ev σ → hk selfN C' ev σ' := fun ev σ σ' hs hh => by
    unfold hk at hh ⊢
    split at hh
    · rename_i hg; rw [hs _ _ hg]; exact hC _ _ hh
    · exact hh.elim
  exact (wkS hΦ hH0 N).ss .refl (fun σ σ' hs hh => key _ σ σ' hs hh) (fun d σ σ' hs hh => key _ σ σ' hs hh) (fun _ _ _ h => h) h
end
end Mine
set_option Elab.async false
set_option maxRecDepth 100000
namespace Mine
set_option tactic.hygienic false
noncomputable def SubL : Loc → Loc → Prop
  | [], _ => True
  | (x, l) :: r, ρ' => ρ'.get x = some l ∧ SubL r ρ'
theorem sub_of : ∀ {ρ ρ' : Loc}, SubL ρ ρ' → Sub ρ ρ'
  | [], _, _ => fun _ _ h => by cases h
  | (y, l') :: r, ρ', h => fun x l hx => by
    simp only [Loc.get] at hx
    split at hx
    · rename_i hb; cases Nat.eq_of_beq_eq_true hb; cases hx; exact h.1
    · exact sub_of h.2 x l hx
theorem ss_wk {H : HSpec} (hH : HM H) {i n : Nat} {ss : List S} {ρ ρ' : Loc} {K : Loc → Prop} {KD : D → Prop} {XP : Prop} (hs : Sub ρ ρ') (h : xSs (PhiUp globD H 100 parF bodF i) globD H n ss ρ (fun σ => ∀ σ', Sub σ σ' → K σ') (fun d _ => KD d) (fun _ => XP)) :
    xSs (PhiUp globD H 100 parF bodF i) globD H n ss ρ' K (fun d _ => KD d) (fun _ => XP) :=
  (wkS (phiUp_mono hH i) hH n).ss hs (fun σ σ' hq hh => hh σ' hq) (fun _ _ _ _ h => h) (fun _ _ _ h => h) h
noncomputable def topT : List Nat := [0, 0, 0, 1, 1, 2, 2, 3, 3, 3, 5, 6]
noncomputable def filT : List Nat := [0, 0, 1, 2, 3, 4, 4, 5, 5, 6, 7, 8]
noncomputable def idT : List Nat := [1, 1, 1, 1, 1, 65535, 65535, 65535, 256, 258, 0, 65536]
noncomputable def tabZ (l : List Nat) (z : Int) : Nat := l.getD (z % 12).toNat 0
theorem mod12 (z : Int) : ∃ k : Nat, k < 12 ∧ z % ((11 + 1 : Nat) : Int) = (k : Int) ∧ (z % 12).toNat = k := by
  have h0 : 0 ≤ z % 12 := Int.emod_nonneg z (by decide)
  exact ⟨(z % 12).toNat, (Int.toNat_lt h0).mpr (Int.emod_lt_of_pos z (by decide)), (Int.toNat_of_nonneg h0).symm, rfl⟩
theorem top_idx (z : Int) : D.idx (globD 1) (.int (z % ((11 + 1 : Nat) : Int))) = some (.int (tabZ topT z : Nat)) := by
  obtain ⟨k, h1, h2, h3⟩ := mod12 z
  unfold tabZ
  rw [h2, h3]
  have hc : k = 0 ∨ k = 1 ∨ k = 2 ∨ k = 3 ∨ k = 4 ∨ k = 5 ∨ k = 6 ∨ k = 7 ∨ k = 8 ∨ k = 9 ∨ k = 10 ∨ k = 11 := c12 _ (by assumption)
  rcases hc with rfl | rfl | rfl | rfl | rfl | rfl | rfl | rfl | rfl | rfl | rfl | rfl <;> rfl
theorem fil_idx (z : Int) : D.idx (globD 2) (.int (z % ((11 + 1 : Nat) : Int))) = some (.int (tabZ filT z : Nat)) := by
  obtain ⟨k, h1, h2, h3⟩ := mod12 z
  unfold tabZ
  rw [h2, h3]
  have hc : k = 0 ∨ k = 1 ∨ k = 2 ∨ k = 3 ∨ k = 4 ∨ k = 5 ∨ k = 6 ∨ k = 7 ∨ k = 8 ∨ k = 9 ∨ k = 10 ∨ k = 11 := c12 _ (by assumption)
  rcases hc with rfl | rfl | rfl | rfl | rfl | rfl | rfl | rfl | rfl | rfl | rfl | rfl <;> rfl
theorem id_idx (z : Int) : D.idx (globD 3) (.int (z % ((11 + 1 : Nat) : Int))) = some (.int (tabZ idT z : Nat)) := by
  obtain ⟨k, h1, h2, h3⟩ := mod12 z
  unfold tabZ
  rw [h2, h3]
  have hc : k = 0 ∨ k = 1 ∨ k = 2 ∨ k = 3 ∨ k = 4 ∨ k = 5 ∨ k = 6 ∨ k = 7 ∨ k = 8 ∨ k = 9 ∨ k = 10 ∨ k = 11 := c12 _ (by assumption)
  rcases hc with rfl | rfl | rfl | rfl | rfl | rfl | rfl | rfl | rfl | rfl | rfl | rfl <;> rfl
theorem tab_lt {l : List Nat} {b : Nat} (hl : ∀ x ∈ l, x < b) (hb : 0 < b) (z : Int) : tabZ l z < b := by
  unfold tabZ
  rw [List.getD_eq_getElem?_getD]
  cases h : l[(z % 12).toNat]? with
  | none => exact hb
  | some x => exact hl x (List.mem_of_getElem? h)
noncomputable def intsZ (S : List Int) : D := .list (S.map .int)
theorem sidx {S : List Int} {j : Nat} {z : Int} (hz : z = (j : Nat)) (h : j < S.length) : D.idx (intsZ S) (.int z) = some (.int (S.getD j 0)) := by
  subst hz
  show (S.map D.int)[j]? = _
  rw [List.getElem?_map, List.getElem?_eq_getElem h, List.getD_eq_getElem?_getD, List.getElem?_eq_getElem h]
  rfl
noncomputable def tOf (S : List Int) : List Nat := [tabZ topT (S.getD 0 0), tabZ topT (S.getD 1 0), tabZ topT (S.getD 2 0)].take ((S.getD 3 0 % 3).toNat + 1)
noncomputable def fOf (S : List Int) : List Nat := [tabZ filT (S.getD 4 0), tabZ filT (S.getD 5 0), tabZ filT (S.getD 6 0)].take ((S.getD 7 0 % 3).toNat + 1)
theorem mod3 (z : Int) : z % ((2 + 1 : Nat) : Int) + 1 = (((z % 3).toNat + 1 : Nat) : Int) := by
  exact congrArg (· + 1) (Int.toNat_of_nonneg (Int.emod_nonneg z (by decide : (3 : Int) ≠ 0))).symm
theorem len3 {a b c : Nat} (z : Int) : ([a, b, c].take ((z % 3).toNat + 1)).length = 1 ∨ ([a, b, c].take ((z % 3).toNat + 1)).length = 2 ∨ ([a, b, c].take ((z % 3).toNat + 1)).length = 3 := by
  have h : (z % 3).toNat < 3 := (Int.toNat_lt (Int.emod_nonneg z (by decide))).mpr (Int.emod_lt_of_pos z (by decide))
  generalize (z % 3).toNat = m at h ⊢
  rcases c3 m h with rfl | rfl | rfl
  · exact .inl rfl
  · exact .inr (.inl rfl)
  · exact .inr (.inr rfl)
section
variable {H : HSpec} {i : Nat} {K : D → Prop} {X : Prop}
theorem e_mod {Φ : Phi} {G : Nat → D} {n : Nat} {ρ : Loc} {K' : D → Prop} {z : Int} (h : K' (.int (z % ((11 + 1 : Nat) : Int)))) : xE Φ G (n + 1) (.int 12) ρ (fun b => opt (binop .Mod (.int z) b) K') X := h
theorem e_mod3 {Φ : Phi} {G : Nat → D} {n : Nat} {ρ : Loc} {K' : D → Prop} {z : Int} (h : K' (.int (z % ((2 + 1 : Nat) : Int)))) : xE Φ G (n + 1) (.int 3) ρ (fun b => opt (binop .Mod (.int z) b) K') X := h
theorem e_add1 {Φ : Phi} {G : Nat → D} {n : Nat} {ρ : Loc} {K' : D → Prop} {z : Int} (h : K' (.int (z + 1))) : xE Φ G (n + 1) (.int 1) ρ (fun b => opt (binop .Add (.int z) b) K') X := h
theorem law_A {S : List Int} (hS : 24 ≤ S.length) {P XX : Loc → Prop} {R : D → Loc → Prop} (hP : P [(59, .v (intsZ S)), (46, .v (natsD (tOf S))), (45, .v (natsD (fOf S)))]) :
    xSs (PhiUp globD H 100 parF bodF 35) globD H 100 (b_law.take 3) [(59, .v (intsZ S))] P R XX := by
  refine br_f (decide_eq_false (by show ¬ (((S.map D.int).length : Nat) : Int) < 24; rw [List.length_map]; (first | lia | omega))) ?_
  refine opt_of (sidx (j := 0) rfl (by (first | lia | omega))) ?_
  refine e_mod ?_
  refine opt_of (top_idx _) ?_
  refine opt_of (sidx (j := 1) rfl (by (first | lia | omega))) ?_
  refine e_mod ?_
  refine opt_of (top_idx _) ?_
  refine opt_of (sidx (j := 2) rfl (by (first | lia | omega))) ?_
  refine e_mod ?_
  refine opt_of (top_idx _) ?_
  refine opt_of (sidx (j := 3) rfl (by (first | lia | omega))) ?_
  refine e_mod3 (e_add1 ?_)
  refine opt_of rfl ?_
  refine opt_of (sidx (j := 4) rfl (by (first | lia | omega))) ?_
  refine e_mod ?_
  refine opt_of (fil_idx _) ?_
  refine opt_of (sidx (j := 5) rfl (by (first | lia | omega))) ?_
  refine e_mod ?_
  refine opt_of (fil_idx _) ?_
  refine opt_of (sidx (j := 6) rfl (by (first | lia | omega))) ?_
  refine e_mod ?_
  refine opt_of (fil_idx _) ?_
  refine opt_of (sidx (j := 7) rfl (by (first | lia | omega))) ?_
  refine e_mod3 (e_add1 ?_)
  refine opt_of rfl ?_
  have ev : ∀ {a b : D}, some a = some (natsD (tOf S)) → some b = some (natsD (fOf S)) → P [(59, .v (intsZ S)), (46, .v a), (45, .v b)] := fun h1 h2 => by cases h1; cases h2; exact hP
  refine ev ?_ ?_
  · unfold tOf
    rw [← cut_take, ← mod3]; rfl
  · unfold fOf
    rw [← cut_take, ← mod3]; rfl
theorem law_B5 {t f : List Nat} (hf : f ≠ []) {g : Bool} {P XX : Loc → Prop} {R : D → Loc → Prop} {sv : LV} {tx sx : LV}
    (hP : P [(59, sv), (46, .v (natsD t)), (45, .v (natsD f)), (20, tx), (50, sx), (48, .v (.bool g)), (51, .v (.bool (soundB f)))]) :
    xSs (PhiUp globD H 100 parF bodF 35) globD H 95 ((b_law.drop 5).take 1) [(59, sv), (46, .v (natsD t)), (45, .v (natsD f)), (20, tx), (50, sx), (48, .v (.bool g))] P R XX := by
  have ev : ∀ {s : Bool}, s = soundB f → P [(59, sv), (46, .v (natsD t)), (45, .v (natsD f)), (20, tx), (50, sx), (48, .v (.bool g)), (51, .v (.bool s))] := fun h2 => by rw [h2]; exact hP
  have sndf : soundB f = (!(f == [2]) && (decide (maxN (f.headD 0) f.tail < 6) && !f.dropLast.any (· == 5))) := rfl
  refine opt_of (a := !(f == [2])) (by show (D.eq (natsD f) (natsD [2])).map _ = _; rw [eq_natsD]; rfl) ?_
  refine br_of (fun h1 => ?_) (fun h1 => ?_)
  · refine opt_of (max_natsD hf) ?_
    refine br_of (fun h2 => ?_) (fun h2 => ?_)
    · have h2' := of_decide_eq_true h2
      refine opt_of (a := !f.dropLast.any (· == 5)) (by
        have e := cut_last (l := f)
        have e2 : D.isIn (.int ((5 : Nat) : Int)) (natsD f.dropLast) = some (f.dropLast.any (· == 5)) := any_nats
        have e3 : ∀ {d : D}, some d = some (natsD f.dropLast) → (D.isIn (.int ((5 : Nat) : Int)) d).map (!·) = some (!f.dropLast.any (· == 5)) := fun h => by cases h; rw [e2]; rfl
        exact e3 e) ?_
      refine ev ?_
      rw [sndf, h1, decide_eq_true (by (first | lia | omega))]; rfl
    · have h2' := of_decide_eq_false h2
      refine ev (h2.trans ?_)
      rw [sndf, decide_eq_false (show ¬ maxN (f.headD 0) f.tail < 6 by (first | lia | omega))]; simp
  · refine ev (h1.trans ?_)
    rw [sndf, h1]; rfl
theorem law_B {t f : List Nat} (ht : t.length = 1 ∨ t.length = 2 ∨ t.length = 3) (hf : f.length = 1 ∨ f.length = 2 ∨ f.length = 3) (h7 : ∀ x ∈ t, x < 7) (h9 : ∀ x ∈ f, x < 9) {P XX : Loc → Prop} {R : D → Loc → Prop} {sv : LV}
    (hP : P [(59, sv), (46, .v (natsD t)), (45, .v (natsD f)), (20, .v (.bytes (textL t))), (50, .v (.bytes (textL f))), (48, .v (.bool (goodB t)))]) :
    xSs (PhiUp globD H 100 parF bodF 35) globD H 97 ((b_law.drop 3).take 2) [(59, sv), (46, .v (natsD t)), (45, .v (natsD f))] P R XX := by
  have tne : t ≠ [] := fun h => by rw [h] at ht; simp at ht
  refine law_text_ok (by decide) (by (first | lia | omega)) (fun x hx => by have := h7 x hx; (first | lia | omega)) ?_
  refine law_text_ok (by decide) (by (first | lia | omega)) h9 ?_
  have ev : ∀ {g : Bool}, g = goodB t → P [(59, sv), (46, .v (natsD t)), (45, .v (natsD f)), (20, .v (.bytes (textL t))), (50, .v (.bytes (textL f))), (48, .v (.bool g))] := fun h1 => by rw [h1]; exact hP
  have maxt : goodB t = (!(t == [2]) && decide (maxN (t.headD 0) t.tail < 4)) := rfl
  refine opt_of (a := !(t == [2])) (by show (D.eq (natsD t) (natsD [2])).map _ = _; rw [eq_natsD]; rfl) ?_
  refine br_of (fun h1 => ?_) (fun h1 => ?_)
  · refine opt_of (max_natsD tne) ?_
    refine ev ?_
    rw [maxt, h1, Bool.true_and]
    by_cases h : maxN (t.headD 0) t.tail < 4
    · exact (decide_eq_true (by (first | lia | omega))).trans (decide_eq_true h).symm
    · exact (decide_eq_false (by (first | lia | omega))).trans (decide_eq_false h).symm
  · refine ev (h1.trans ?_)
    rw [maxt, h1]; rfl
/-- what the law asks of the topic and the filter -/
theorem law_C {t f : List Nat} (ht : t.length = 1 ∨ t.length = 2 ∨ t.length = 3) (hf : f.length = 1 ∨ f.length = 2 ∨ f.length = 3) (h7 : ∀ x ∈ t, x < 7) (h9 : ∀ x ∈ f, x < 9) {P XX : Loc → Prop} {R : D → Loc → Prop} {sv : LV} (hz : (textL t).length ≤ 1000) (hzf : (textL f).length ≤ 1000)
    (hP : ∀ σ, Sub [(59, sv), (20, .v (.bytes (textL t))), (50, .v (.bytes (textL f))), (48, .v (.bool (topicB (textL t)))), (51, .v (.bool (filterB (textL f))))] σ → P σ) :
    xSs (PhiUp globD H 100 parF bodF 35) globD H 94 ((b_law.drop 6).take 3) [(59, sv), (46, .v (natsD t)), (45, .v (natsD f)), (20, .v (.bytes (textL t))), (50, .v (.bytes (textL f))), (48, .v (.bool (goodB t))), (51, .v (.bool (soundB f)))] P R XX := by
  have tne : t ≠ [] := fun h => by rw [h] at ht; simp at ht
  have fne : f ≠ [] := fun h => by rw [h] at hf; simp at hf
  have eg := topic_good ht h7
  have es := filter_sound hf h9
  refine is_topic_ok (by decide) _ ?_
  refine is_filter_ok (by decide) _ (by (first | lia | omega)) ?_
  rw [eg, es]
  refine br_f (by show (!((goodB t == goodB t) && ((soundB f == soundB f) && true))) = false; simp) ?_
  refine br_of (fun h1 => ?_) (fun h1 => ?_)
  · refine br_of (fun h2 => ?_) (fun h2 => ?_)
    · refine matches_ok (by decide) _ _ (by (first | lia | omega)) (by (first | lia | omega)) ?_
      refine law_fits_ok (by decide) fne tne ?_
      refine br_f (by show (!(matchB (textL f) (textL t) == fitsL f t)) = false; rw [match_fits hf ht h2 h1]; simp) ?_
      refine hP _ ?_
      rw [eg, es]
      exact sub_of ⟨rfl, rfl, rfl, rfl, rfl, trivial⟩
    · refine hP _ ?_
      rw [eg, es]
      exact sub_of ⟨rfl, rfl, rfl, rfl, rfl, trivial⟩
  · refine br_f h1 ?_
    refine hP _ ?_
    rw [eg, es]
    exact sub_of ⟨rfl, rfl, rfl, rfl, rfl, trivial⟩
end
end Mine
set_option Elab.async false
set_option maxRecDepth 100000
namespace Mine
set_option tactic.hygienic false
noncomputable def k12 (z : Int) : Nat := (z % 12).toNat
theorem k12_lt (z : Int) : k12 z < 12 := by unfold k12; (first | lia | omega)
theorem k12_eq (z : Int) : z % ((11 + 1 : Nat) : Int) = (k12 z : Nat) := by
  exact (Int.toNat_of_nonneg (Int.emod_nonneg z (by decide : (12 : Int) ≠ 0))).symm
noncomputable def pkOf (text sieve : List Nat) (s : Int × Int × Int) : Pk := frameOf (k12 s.1) (tabZ idT s.2.1) (k12 s.2.2) text sieve
noncomputable def frD (p : Pk) : D := .tuple [p.d, p.d, .bytes p.wire, .bool p.w.isSome]
theorem idT_le (z : Int) : tabZ idT z ≤ 65536 := by
  have := tab_lt (l := idT) (b := 65537) (by decide) (by decide) z
  (first | lia | omega)
theorem pkOf_wf {text sieve : List Nat} (ht : text.length ≤ 1000) (hs : sieve.length ≤ 1000) (s : Int × Int × Int) : (pkOf text sieve s).wf := frameOf_wf (k12_lt _) (idT_le _) ht hs
section
variable {H : HSpec} {i : Nat} {K : D → Prop} {X : Prop}
theorem law_probe_z (hi : 34 < i) {z : Int} {x : Nat} (hz : z = (x : Nat)) (hx : x < 12) (hk : K (.bool true)) : PhiUp globD H 100 parF bodF i 34 [.v (.int z)] K X := by
  subst hz; exact law_probe_ok hi hx hk
theorem law_frame_z (hi : 31 < i) {k n c : Nat} {zk zc : Int} {text sieve : List Nat} (hzk : zk = (k : Nat)) (hzc : zc = (c : Nat)) (hk12 : k < 12) (hc : c < 12) (ht : text.length ≤ 1000) (hs : sieve.length ≤ 1000) {p : Pk} (hp : p = frameOf k n c text sieve) (hk : K p.out) :
    PhiUp globD H 100 parF bodF i 31 [.v (.int zk), .v (.int (n : Nat)), .v (.int zc), .v (.bytes text), .v (.bool (topicB text)), .v (.bytes sieve), .v (.bool (filterB sieve))] K X := by
  subst hzk hzc hp; exact law_frame_ok hi hk12 hc ht hs hk
theorem law_D9 {S : List Int} (hS : 24 ≤ S.length) {P XX : Loc → Prop} {R : D → Loc → Prop} {tv uv gv hv : LV} (hP : P [(59, .v (intsZ S)), (20, tv), (50, uv), (48, gv), (51, hv)]) :
    xSs (PhiUp globD H 100 parF bodF 35) globD H 91 ((b_law.drop 9).take 1) [(59, .v (intsZ S)), (20, tv), (50, uv), (48, gv), (51, hv)] P R XX := by
  refine opt_of (sidx (j := 23) rfl (by (first | lia | omega))) ?_
  refine e_mod ?_
  refine law_probe_z (by decide) (k12_eq _) (k12_lt _) ?_
  exact hP
noncomputable def trip (S : List Int) (j : Nat) : Int × Int × Int := (S.getD j 0, S.getD (j + 1) 0, S.getD (j + 2) 0)
noncomputable def tripD (s : Int × Int × Int) : D := .tuple [.int s.1, .int s.2.1, .int s.2.2]
noncomputable def steps (S : List Int) : List (Int × Int × Int) := [trip S 8, trip S 11, trip S 14, trip S 17, trip S 20]
theorem law_D10 {S : List Int} (hS : 24 ≤ S.length) {P XX : Loc → Prop} {R : D → Loc → Prop} {tv uv gv hv : LV} (hP : P [(59, .v (intsZ S)), (20, tv), (50, uv), (48, gv), (51, hv), (42, .v (.tuple ((steps S).map tripD)))]) :
    xSs (PhiUp globD H 100 parF bodF 35) globD H 90 ((b_law.drop 10).take 1) [(59, .v (intsZ S)), (20, tv), (50, uv), (48, gv), (51, hv)] P R XX := by
  refine opt_of (sidx (j := 8) rfl (by (first | lia | omega))) ?_
  refine opt_of (sidx (j := 9) rfl (by (first | lia | omega))) ?_
  refine opt_of (sidx (j := 10) rfl (by (first | lia | omega))) ?_
  refine opt_of (sidx (j := 11) rfl (by (first | lia | omega))) ?_
  refine opt_of (sidx (j := 12) rfl (by (first | lia | omega))) ?_
  refine opt_of (sidx (j := 13) rfl (by (first | lia | omega))) ?_
  refine opt_of (sidx (j := 14) rfl (by (first | lia | omega))) ?_
  refine opt_of (sidx (j := 15) rfl (by (first | lia | omega))) ?_
  refine opt_of (sidx (j := 16) rfl (by (first | lia | omega))) ?_
  refine opt_of (sidx (j := 17) rfl (by (first | lia | omega))) ?_
  refine opt_of (sidx (j := 18) rfl (by (first | lia | omega))) ?_
  refine opt_of (sidx (j := 19) rfl (by (first | lia | omega))) ?_
  refine opt_of (sidx (j := 20) rfl (by (first | lia | omega))) ?_
  refine opt_of (sidx (j := 21) rfl (by (first | lia | omega))) ?_
  refine opt_of (sidx (j := 22) rfl (by (first | lia | omega))) ?_
  exact hP
section
variable {Φ : Phi} {G : Nat → D} {n : Nat} {ρ : Loc} {XX KK : Loc → Prop} {R : D → Loc → Prop}
theorem s_asgT {xs : List Nat} {e : E} (h : xE Φ G n e ρ (fun d => opt (ρ.bind xs false d) KK) (XX ρ)) : xS Φ G H (n + 1) (.asgT xs e) ρ KK R XX := h
theorem e_call {f : Nat} {args : List E} (h : xAs Φ G n args ρ (fun ls => Φ f ls K X) X) : xE Φ G (n + 1) (.call f args) ρ K X := h
theorem as_cons {e : E} {r : List E} {K : List LV → Prop} (h : xA Φ G n e ρ (fun a => xAs Φ G n r ρ (fun ds => K (a :: ds)) X) X) : xAs Φ G (n + 1) (e :: r) ρ K X := h
theorem a_bin {op : PySem.Operator} {l r : E} {K : LV → Prop} (h : xE Φ G n (.bin op l r) ρ (fun d => K (.v d)) X) : xA Φ G (n + 1) (.bin op l r) ρ K X := h
theorem a_idx {l r : E} {K : LV → Prop} (h : xE Φ G n (.idx l r) ρ (fun d => K (.v d)) X) : xA Φ G (n + 1) (.idx l r) ρ K X := h
theorem e_bin {op : PySem.Operator} {l r : E} (h : xE Φ G n l ρ (fun a => xE Φ G n r ρ (fun b => opt (binop op a b) K) X) X) : xE Φ G (n + 1) (.bin op l r) ρ K X := h
theorem e_idx {l r : E} (h : xE Φ G n l ρ (fun a => xE Φ G n r ρ (fun b => opt (a.idx b) K) X) X) : xE Φ G (n + 1) (.idx l r) ρ K X := h
theorem e_glob {g : Nat} (h : K (G g)) : xE Φ G (n + 1) (.glob g) ρ K X := h
theorem s_asgI {x : Nat} {l r : E} (h : xE Φ G n (.idx l r) ρ (fun d => KK (ρ.set x (.v d))) (XX ρ)) : xS Φ G H (n + 1) (.asg x (.idx l r)) ρ KK R XX := h
end
noncomputable def frBody : List S := match b_law.drop 12 with
  | .for _ _ _ b :: _ => b
  | _ => []
noncomputable abbrev frR (sv : LV) (text sieve : List Nat) (dn : List D) : Loc := [(59, sv), (20, .v (.bytes text)), (50, .v (.bytes sieve)), (48, .v (.bool (topicB text))), (51, .v (.bool (filterB sieve))), (61, .own dn)]
theorem fr_body {sv : LV} {text sieve : List Nat} {dn : List D} {a b c : Int} (ht : text.length ≤ 1000) (hs : sieve.length ≤ 1000) (hd : dn.length ≤ 1000) {w XX : Loc → Prop} {R : D → Loc → Prop}
    (hw : ∀ σ, Sub (frR sv text sieve (dn ++ [frD (pkOf text sieve (a, b, c))])) σ → w σ) :
    xSs (PhiUp globD H 100 parF bodF 35) globD H 86 frBody (frR sv text sieve dn ++ [(21, .v (.int a)), (9, .v (.int b)), (29, .v (.int c))]) w R XX := by
  obtain ⟨p, hp⟩ : ∃ p, p = pkOf text sieve (a, b, c) := ⟨_, rfl⟩
  have hpw : p.wf := by rw [hp]; exact pkOf_wf ht hs _
  have hlen := Pk.rest_len hpw
  rw [← hp] at hw
  refine ss_cons (s_asgT (e_call (as_cons (a_bin (e_bin (e_var rfl (e_mod (z := a) ?_)))))))
  refine as_cons (a_idx (e_idx (e_glob (e_bin (e_var rfl (e_mod (z := b) ?_))))))
  refine opt_of (id_idx b) ?_
  refine as_cons (a_bin (e_bin (e_var rfl (e_mod (z := c) ?_))))
  refine law_frame_z (by decide) (k12_eq a) (k12_eq c) (k12_lt a) (k12_lt c) ht hs hp ?_
  refine opt_of (a := frR sv text sieve dn ++ [(21, .v (.int a)), (9, .v (.int b)), (29, .v (.int c)), (30, .v p.d), (18, .v (.int (p.first : Nat))), (2, .v (.bytes p.rest)), (62, .v (.bool p.w.isSome))]) rfl ?_
  refine ss_cons (s_asgI (e_idx (e_call (as_cons (a_bin (e_bin (e_var rfl (e_mod (z := a) ?_))))))))
  refine as_cons (a_idx (e_idx (e_glob (e_bin (e_var rfl (e_mod (z := b) ?_))))))
  refine opt_of (id_idx b) ?_
  refine as_cons (a_bin (e_bin (e_var rfl (e_mod (z := c) ?_))))
  refine law_frame_z (by decide) (k12_eq a) (k12_eq c) (k12_lt a) (k12_lt c) ht hs hp ?_
  refine opt_of (bytesOf_one (Pk.first_lt hpw)) ?_
  refine law_size_ok (by decide) (by (first | lia | omega)) ?_
  have hl4 := wlen_len p.rest.length (by (first | lia | omega))
  refine opt_of (fits_add (a := [p.first]) (b := wlen p.rest.length) (by simp) (by (first | lia | omega))) ?_
  refine opt_of (fits_add (a := [p.first] ++ wlen p.rest.length) (b := p.rest) (by simp; (first | lia | omega)) (by (first | lia | omega))) ?_
  refine And.intro (fits_of (by (first | lia | omega))) ?_
  refine hw _ ?_
  exact sub_of ⟨rfl, rfl, rfl, rfl, rfl, rfl, trivial⟩
/-- the frames are built -/
theorem law_D12 (hH : HM H) {sv : LV} {text sieve : List Nat} {ts : List (Int × Int × Int)} (ht : text.length ≤ 1000) (hs : sieve.length ≤ 1000) (hl : ts.length ≤ 900) {KK : Loc → Prop} {KD : D → Prop} {XP : Prop}
    (hP : ∀ σ, Sub (frR sv text sieve (ts.map fun s => frD (pkOf text sieve s))) σ → KK σ) :
    xSs (PhiUp globD H 100 parF bodF 35) globD H 89 ((b_law.drop 11).take 2) [(42, .v (.tuple (ts.map tripD))), (59, sv), (20, .v (.bytes text)), (50, .v (.bytes sieve)), (48, .v (.bool (topicB text))), (51, .v (.bool (filterB sieve)))] KK (fun d _ => KD d) (fun _ => XP) := by
  refine fl_of (P := fun items σ => ∃ dn td, ts = dn ++ td ∧ items = td.map tripD ∧ Sub (frR sv text sieve (dn.map fun s => frD (pkOf text sieve s))) σ) (fun d r σ w hp hw => ?_) (fun σ hp => ?_) ⟨[], ts, rfl, rfl, sub_of ⟨rfl, rfl, rfl, rfl, rfl, rfl, trivial⟩⟩
  · obtain ⟨dn, td, e1, e2, e3⟩ := hp
    cases td with
    | nil => cases e2
    | cons x td =>
      obtain ⟨a, b, c⟩ := x
      cases e2
      obtain ⟨τ', h1, h2⟩ := e3.bind [21, 9, 29] false (tripD (a, b, c)) (τ := frR sv text sieve (dn.map fun s => frD (pkOf text sieve s)) ++ [(21, .v (.int a)), (9, .v (.int b)), (29, .v (.int c))]) rfl
      show opt (σ.bind [21, 9, 29] false (tripD (a, b, c))) _
      rw [h1]
      have hdl : dn.length ≤ 900 := by rw [e1, List.length_append] at hl; (first | lia | omega)
      refine ss_wk hH h2 (fr_body ht hs (by rw [List.length_map]; (first | lia | omega)) fun σ1 g1 σ2 g2 => ?_)
      refine hw σ2 ⟨dn ++ [(a, b, c)], td, by simp [e1], rfl, ?_⟩
      rw [List.map_append]
      exact g1.trans g2
  · obtain ⟨dn, td, e1, e2, e3⟩ := hp
    have : td = [] := List.map_eq_nil_iff.mp e2.symm
    subst this
    rw [List.append_nil] at e1
    subst e1
    exact hP σ e3
end
end Mine
set_option Elab.async false
set_option maxRecDepth 100000
namespace Mine
set_option tactic.hygienic false
theorem compGo_gen {step : D → (Option D → Prop) → Prop} {g : Pk → D} {f : Pk → D} (hs : ∀ o, ∀ C : Option D → Prop, C (some (f o)) → step (g o) C) : ∀ {ps : List Pk} {acc : List D} {K : List D → Prop}, K (acc ++ ps.map f) → compGo step (ps.map g) acc K
  | [], acc, K, hk => by rw [List.map_nil, List.append_nil] at hk; exact hk
  | o :: r, acc, K, hk => by
    refine hs o _ ?_
    refine compGo_gen hs ?_
    rw [List.append_assoc]; exact hk
noncomputable def wires : List Pk → List Nat
  | [] => []
  | p :: r => p.wire ++ wires r
theorem joinL_wires : ∀ {ps : List Pk}, joinL [] (ps.map fun p => D.bytes p.wire) = some (wires ps)
  | [] => rfl
  | [p] => by show some p.wire = some (p.wire ++ []); rw [List.append_nil]
  | p :: q :: r => by
    have ih := joinL_wires (ps := q :: r)
    show (joinL [] ((q :: r).map fun p => D.bytes p.wire)).map (fun b => p.wire ++ [] ++ b) = _
    rw [ih, List.append_nil]; rfl
theorem wire_len {p : Pk} (hp : p.wf) : p.wire.length ≤ 3010 ∧ 0 < p.wire.length := by
  have h := Pk.rest_len hp
  have h4 := wlen_len p.rest.length (by (first | lia | omega))
  show (frameL p.first p.rest).length ≤ 3010 ∧ 0 < (frameL p.first p.rest).length
  rw [frame_len]; (first | lia | omega)
theorem wires_len : ∀ {ps : List Pk}, (∀ p ∈ ps, p.wf) → (wires ps).length ≤ 3010 * ps.length
  | [], _ => by simp [wires]
  | p :: r, h => by
    have := wires_len (ps := r) fun q hq => h q (List.mem_cons_of_mem _ hq)
    have := (wire_len (h p List.mem_cons_self)).1
    simp only [wires, List.length_append, List.length_cons]; (first | lia | omega)
theorem join_wires {ps : List Pk} (h : ∀ p ∈ ps, p.wf) (hl : ps.length ≤ 100) : D.join [] (.list (ps.map fun p => D.bytes p.wire)) = some (.bytes (wires ps)) := by
  have := wires_len h
  show (match joinL [] (ps.map fun p => D.bytes p.wire) with | some b => gd (fits b.length) (D.bytes b) | .none => .none) = _
  rw [joinL_wires]
  show gd (fits (wires ps).length) _ = _
  rw [fits_of (by (first | lia | omega))]; rfl
theorem mod_len {z : Int} {L : Nat} (h : 0 < L) : binop .Mod (.int z) (.int (L : Nat)) = some (.int (((z % (L : Nat)).toNat : Nat))) := by
  cases L with
  | zero => (first | lia | omega)
  | succ n =>
    show some (D.int (z % ((n + 1 : Nat) : Int))) = _
    have : 0 ≤ z % ((n + 1 : Nat) : Int) := Int.emod_nonneg _ (by (first | lia | omega))
    rw [Int.toNat_of_nonneg this]
theorem wire_cons (p : Pk) : ∃ tl, p.wire = p.first :: tl := ⟨_, (List.append_nil _).symm.trans (frame_cons (more := []))⟩
theorem wire_idx (p : Pk) : D.idx (.bytes p.wire) (.int 0) = some (.int (p.first : Nat)) := by
  obtain ⟨tl, e⟩ := wire_cons p
  rw [e]; rfl
theorem cut_bytes {l : List Nat} {k : Nat} : cutL l none (some (k : Nat)) = l.take k := by
  show (l.take (min k l.length)).drop 0 = _
  rw [List.drop_zero]
  by_cases h : k ≤ l.length
  · rw [Nat.min_eq_left h]
  · rw [Nat.min_eq_right (by (first | lia | omega)), List.take_of_length_le (by (first | lia | omega)), List.take_of_length_le (by (first | lia | omega))]
theorem cut_rest {u v : List Nat} : cutL (u ++ v) (some (u.length : Nat)) none = v := by
  show ((u ++ v).take (u ++ v).length).drop (min u.length (u ++ v).length) = _
  rw [List.take_length, Nat.min_eq_left (by simp)]; simp
section
variable {H : HSpec} {i : Nat} {K : D → Prop} {X : Prop}
theorem Pk.write_no {p : Pk} (hp : p.wf) (hw : p.w = none) (hi : 20 < i) (hX : X) : PhiUp globD H 100 parF bodF i 20 [.v p.d] K X := Pk.write hp hi (by rw [hw]; exact hX)
theorem Pk.write_yes {p : Pk} (hp : p.wf) {b : List Nat} (hw : p.w = some b) (hi : 20 < i) (hk : K (.bytes p.wire)) : PhiUp globD H 100 parF bodF i 20 [.v p.d] K X := Pk.write hp hi (by rw [hw, Pk.w_eq hp hw]; exact hk)
theorem Pk.read_no {p : Pk} (hp : p.wf) (hw : p.w = none) (hi : 23 < i) {more : List Nat} (hX : X) : PhiUp globD H 100 parF bodF i 23 [.v (.bytes (p.wire ++ more))] K X := Pk.read hp hi (by rw [hw]; exact hX)
theorem Pk.read_yes {p : Pk} (hp : p.wf) {b : List Nat} (hw : p.w = some b) (hi : 23 < i) {more : List Nat} (hk : K (.tuple [p.d, .int (p.wire.length : Nat)])) : PhiUp globD H 100 parF bodF i 23 [.v (.bytes (p.wire ++ more))] K X := Pk.read hp hi (by rw [hw]; exact hk)
theorem Pk.cut_l {p : Pk} (hp : p.wf) (hi : 23 < i) {c : Nat} {l : List Nat} (hl : l = p.wire.take c) (hc : c < p.wire.length) (hk : br (decide (0 < c) && (p.first == 56 || p.first == 57)) X (K .none)) : PhiUp globD H 100 parF bodF i 23 [.v (.bytes l)] K X := by
  subst hl; exact Pk.cut hp hi hc hk
theorem law_E {sv : LV} {ps : List Pk} (h : ∀ p ∈ ps, p.wf) (hl : ps.length ≤ 100) {P XX : Loc → Prop} {R : D → Loc → Prop} (hP : P [(59, sv), (61, .v (.list (ps.map frD))), (8, .v (.bytes (wires ps))), (65, .rcv []), (53, .own [])]) :
    xSs (PhiUp globD H 100 parF bodF 35) globD H 87 ((b_law.drop 13).take 4) [(59, sv), (61, .own (ps.map frD))] P R XX := by
  refine compGo_gen (g := frD) (f := fun p => D.bytes p.wire) (fun o C hC => ?_) ?_
  · exact hC
  rw [List.nil_append]
  refine opt_of (join_wires h hl) ?_
  exact hP
noncomputable def lpBody : List S := match b_law.drop 17 with
  | .for _ _ _ b :: _ => b
  | _ => []
noncomputable abbrev lpR (sv rv pv : LV) (data wr : List Nat) (pd : D) (ok : Bool) : Loc := [(59, sv), (8, .v (.bytes data)), (65, rv), (53, pv), (30, .v pd), (63, .v pd), (56, .v (.bytes wr)), (62, .v (.bool ok))]
theorem lp_F1n {sv rv pv : LV} {more wr : List Nat} {p : Pk} (hp : p.wf) (hw : p.w = none) (hwr : wr = p.wire) {P XX : Loc → Prop} {R : D → Loc → Prop} (hP : ∀ v55, P (lpR sv rv pv (wr ++ more) wr p.d false ++ [(55, v55), (66, .v (.str 7)), (41, .v (.str 7))])) :
    xSs (PhiUp globD H 100 parF bodF 35) globD H 81 (lpBody.take 4) (lpR sv rv pv (wr ++ more) wr p.d false) P R XX := by
  refine law_write_ok (by decide) (Pk.write_no hp hw (by decide) ?_)
  refine law_read_ok (by decide) (by rw [hwr]; exact Pk.read_no hp hw (by decide) (by
    rw [← hwr]
    refine opt_of (a := false) (by show (D.eq p.d p.d).map _ = _; rw [p.eqd]; rfl) ?_
    exact hP _))
theorem lp_F1y {sv rv pv : LV} {more b wr : List Nat} {p : Pk} (hp : p.wf) (hw : p.w = some b) (hwr : wr = p.wire) {P XX : Loc → Prop} {R : D → Loc → Prop} (hP : ∀ v55, P (lpR sv rv pv (wr ++ more) wr p.d true ++ [(55, v55), (66, .v (.bytes wr)), (41, .v (.tuple [p.d, .int (wr.length : Nat)]))])) :
    xSs (PhiUp globD H 100 parF bodF 35) globD H 81 (lpBody.take 4) (lpR sv rv pv (wr ++ more) wr p.d true) P R XX := by
  have wy : ∀ {i : Nat} {K : D → Prop} {X : Prop}, 20 < i → K (.bytes wr) → PhiUp globD H 100 parF bodF i 20 [.v p.d] K X := fun h hk => Pk.write_yes hp hw h (by rw [← hwr]; exact hk)
  have ry : ∀ {i : Nat} {K : D → Prop} {X : Prop}, 23 < i → K (.tuple [p.d, .int (wr.length : Nat)]) → PhiUp globD H 100 parF bodF i 23 [.v (.bytes (wr ++ more))] K X := fun h hk => by rw [hwr] at hk ⊢; exact Pk.read_yes hp hw h hk
  refine law_write_ok (by decide) (wy (by decide) ?_)
  refine law_read_ok (by decide) (ry (by decide) ?_)
  have fl : Flat 8 (.list [.bytes wr, .tuple [p.d, .int (wr.length : Nat)]]) := by
    refine .list fun d hd => ?_
    simp at hd
    rcases hd with rfl | rfl
    · exact .bytes
    · refine .tuple fun d hd => ?_
      simp at hd
      rcases hd with rfl | rfl
      · exact p.flat.mono (by (first | lia | omega))
      · exact .int
  refine opt_of (a := false) (by show (D.eq (.list [.bytes wr, .tuple [p.d, .int (wr.length : Nat)]]) _).map _ = _; rw [eq_of_flat fl]; rfl) ?_
  refine opt_of rfl ?_
  refine br_f rfl ?_
  refine opt_of (a := false) (by show (D.eq p.d p.d).map _ = _; rw [p.eqd]; rfl) ?_
  exact hP _
theorem lp_F2 {S : List Int} (hS : 24 ≤ S.length) {rv pv : LV} {data wr : List Nat} {p : Pk} (hp : p.wf) (hwr : wr = p.wire) {pd : D} {ok : Bool} {v1 v2 v3 : LV} {P XX : Loc → Prop} {R : D → Loc → Prop} (hP : ∀ v4 v5, P (lpR (.v (intsZ S)) rv pv data wr pd ok ++ [(55, v1), (66, v2), (41, v3), (67, v4), (68, v5)])) :
    xSs (PhiUp globD H 100 parF bodF 35) globD H 77 ((lpBody.drop 4).take 4) (lpR (.v (intsZ S)) rv pv data wr pd ok ++ [(55, v1), (66, v2), (41, v3)]) P R XX := by
  obtain ⟨hw1, hw2⟩ := wire_len hp
  have wi := wire_idx p
  have cutw : ∀ {i : Nat} {K : D → Prop} {X : Prop} {c : Nat} {l : List Nat}, 23 < i → l = wr.take c → c < wr.length → br (decide (0 < c) && (p.first == 56 || p.first == 57)) X (K .none) → PhiUp globD H 100 parF bodF i 23 [.v (.bytes l)] K X := fun h hl hc hk => by rw [hwr] at hl hc; exact Pk.cut_l hp h hl hc hk
  rw [← hwr] at hw1 hw2 wi
  clear hwr
  refine opt_of (sidx (j := 23) rfl (by (first | lia | omega))) ?_
  refine opt_of (mod_len (z := S.getD 23 0) hw2) ?_
  obtain ⟨c, hc⟩ : ∃ c, c = (S.getD 23 0 % (wr.length : Int)).toNat := ⟨_, rfl⟩
  have hlt : c < wr.length := by
    rw [hc]
    have h1 := Int.emod_nonneg (S.getD 23 0) (show (wr.length : Int) ≠ 0 by (first | lia | omega))
    have h2 := Int.emod_lt_of_pos (S.getD 23 0) (show (0 : Int) < (wr.length : Int) by (first | lia | omega))
    (first | lia | omega)
  rw [← hc]
  clear hc
  by_cases h0 : 0 < c
  · refine br_t (decide_eq_true (by (first | lia | omega))) ?_
    refine opt_of wi ?_
    by_cases hb : p.first = 56 ∨ p.first = 57
    · refine br_t (by
        show (decide ((56 : Int) = ((p.first : Nat) : Int)) || (decide ((57 : Int) = ((p.first : Nat) : Int)) || false)) = true
        rcases hb with h | h <;> rw [h] <;> rfl) ?_
      refine law_read_ok (by decide) (cutw (by decide) cut_bytes hlt ?_)
      refine br_t (by rw [decide_eq_true h0, Bool.true_and]; rcases hb with h | h <;> rw [h] <;> rfl) ?_
      exact hP _ _
    · refine br_f (by
        show (decide ((56 : Int) = ((p.first : Nat) : Int)) || (decide ((57 : Int) = ((p.first : Nat) : Int)) || false)) = false
        rw [decide_eq_false (by (first | lia | omega)), decide_eq_false (by (first | lia | omega))]; rfl) ?_
      refine law_read_ok (by decide) (cutw (by decide) cut_bytes hlt ?_)
      refine br_f (by
        have h1 : (p.first == 56) = false := by simp; (first | lia | omega)
        have h2 : (p.first == 57) = false := by simp; (first | lia | omega)
        rw [h1, h2]; simp) ?_
      exact hP _ _
  · refine br_f (decide_eq_false (by (first | lia | omega))) ?_
    refine br_f (decide_eq_false (by (first | lia | omega))) ?_
    refine law_read_ok (by decide) (cutw (by decide) cut_bytes hlt ?_)
    refine br_f (by rw [decide_eq_false h0]; rfl) ?_
    exact hP _ _
theorem lp_F4 {sv rv pv : LV} {more wr : List Nat} {P XX : Loc → Prop} {R : D → Loc → Prop} (hP : P [(59, sv), (8, .v (.bytes more)), (65, rv), (53, pv), (56, .v (.bytes wr))]) :
    xSs (PhiUp globD H 100 parF bodF 35) globD H 72 (lpBody.drop 9) [(59, sv), (8, .v (.bytes (wr ++ more))), (65, rv), (53, pv), (56, .v (.bytes wr))] P R XX := by
  have ev : ∀ {l : List Nat}, l = more → P [(59, sv), (8, .v (.bytes l)), (65, rv), (53, pv), (56, .v (.bytes wr))] := fun h => by rw [h]; exact hP
  exact ev cut_rest
end
end Mine
set_option Elab.async false
set_option maxRecDepth 100000
namespace Mine
noncomputable def lpIn : List S := match lpBody.drop 8 with
  | .ifs _ a _ :: _ => a
  | _ => []
noncomputable def evBody : List S := match lpIn.drop 4 with
  | .for _ _ _ b :: _ => b
  | _ => []
inductive EvOk : D → Prop
  | dl {t b : List Nat} : EvOk (.tuple [.str 14, .bytes t, .bytes b])
  | sn {k f n : Nat} (hm : (k = 9 ∧ f = 64) ∨ (k = 10 ∧ f = 80) ∨ (k = 11 ∧ f = 112)) (h1 : 1 ≤ n) (h2 : n ≤ 65535) : EvOk (.tuple [.str 13, .tuple [.str k, .int (n : Nat)]])
  | pg : EvOk (.tuple [.str 13, .tuple [.str 1]])
theorem evs_ok {p : Pk} (hp : p.wf) {b : List Nat} (hw : p.w = some b) {past : List Pk} : ∀ e ∈ p.evs past, EvOk e := by
  intro e he
  cases p with
  | pub dup q retain text n body =>
    have hn : q ≠ 0 → 1 ≤ n ∧ n ≤ 65535 := fun hq => by
      have h : (if pubOk dup q text n then some (frameL (48 + 2 * q + 8 * b2n dup + b2n retain) (pubRest q text n body)) else none) = some b := hw
      split at h
      · rename_i h1
        simp only [pubOk, Bool.and_eq_true, if_neg hq, decide_eq_true_eq] at h1
        (first | lia | omega)
      · cases h
    simp only [Pk.evs] at he
    split at he
    · simp at he; subst he; exact .dl
    rename_i h0
    split at he
    · simp at he
      rcases he with rfl | rfl
      · exact .dl
      · exact .sn (f := 64) (.inl ⟨rfl, rfl⟩) (hn h0).1 (hn h0).2
    · split at he
      · simp at he; subst he; exact .sn (f := 80) (.inr (.inl ⟨rfl, rfl⟩)) (hn h0).1 (hn h0).2
      · simp at he
        rcases he with rfl | rfl
        · exact .dl
        · exact .sn (f := 80) (.inr (.inl ⟨rfl, rfl⟩)) (hn h0).1 (hn h0).2
  | ack k f n =>
    have hn : 1 ≤ n ∧ n ≤ 65535 := by
      have h : (if idOk (n : Int) then some (frameL f (idL n)) else none) = some b := hw
      split at h
      · rename_i h1
        have := of_decide_eq_true h1
        (first | lia | omega)
      · cases h
    simp only [Pk.evs] at he
    split at he
    · simp at he; subst he; exact .sn (f := 112) (.inr (.inr ⟨rfl, rfl⟩)) hn.1 hn.2
    · simp at he
  | bare k f =>
    simp only [Pk.evs] at he
    split at he
    · simp at he; subst he; exact .pg
    · simp at he
  | _ => simp [Pk.evs] at he
theorem frame_id {f n : Nat} : frameL f (idL n) = [f, 2] ++ idL n := by
  show ([f] ++ wlen 2) ++ idL n = _
  rw [wlen1 (by decide)]; rfl
theorem frame_nil {f : Nat} : frameL f [] = [f, 0] := by
  show ([f] ++ wlen 0) ++ [] = _
  rw [wlen1 (by decide)]; rfl
section
variable {i : Nat} {K : D → Prop} {X : Prop}
noncomputable abbrev evR (sv rv pv : LV) (data wr : List Nat) (pd : D) : Loc := [(59, sv), (8, .v (.bytes data)), (65, rv), (53, pv), (63, .v pd), (56, .v (.bytes wr))]
theorem ev_body {sv rv pv : LV} {data wr : List Nat} {pd e : D} (he : EvOk e) {P XX : Loc → Prop} {R : D → Loc → Prop} (hP : P (evR sv rv pv data wr pd ++ [(70, .v e)])) :
    xSs (PhiUp globD HH 100 parF bodF 35) globD HH 65 evBody (evR sv rv pv data wr pd ++ [(70, .v e)]) P R XX := by
  cases he with
  | dl => exact hP
  | sn hm h1 h2 =>
    rename_i k f n
    have hid : ackW f (n : Nat) = some (frameL f (idL n)) := if_pos (decide_eq_true (by (first | lia | omega)))
    have wr' : ∀ {i : Nat} {K : D → Prop} {X : Prop}, 20 < i → K (.bytes ([f, 2] ++ idL n)) → PhiUp globD HH 100 parF bodF i 20 [.v (.tuple [.str k, .int (n : Nat)])] K X := fun h hk => write_ack (first := f) h (by rcases hm with h | h | h; exact .inl h; exact .inr (.inl h); exact .inr (.inr (.inr (.inl h)))) (by rw [hid, frame_id]; exact hk)
    refine law_write_ok (by decide) (wr' (by decide) ?_)
    refine law_answer_ok (by decide) hm (by (first | lia | omega)) ?_
    refine br_f beq_self ?_
    exact hP
  | pg =>
    have wr' : ∀ {i : Nat} {K : D → Prop} {X : Prop}, 20 < i → K (.bytes [208, 0]) → PhiUp globD HH 100 parF bodF i 20 [.v (.tuple [.str 1])] K X := fun h hk => write_bare (k := 1) (first := 208) h (.inr (.inl ⟨rfl, rfl⟩)) (by rw [frame_nil]; exact hk)
    refine law_write_ok (by decide) (wr' (by decide) ?_)
    refine law_answer_ping (by decide) ?_
    exact hP
noncomputable abbrev lpX (wr : List Nat) (pd : D) (v1 v4 v5 : LV) : Loc := [(55, v1), (66, .v (.bytes wr)), (41, .v (.tuple [pd, .int (wr.length : Nat)])), (67, v4), (68, v5)]
theorem lp_G0 {sv rv pv : LV} {data wr : List Nat} {p : Pk} {v1 v4 v5 : LV} (hp : p.wf) {P XX : Loc → Prop} {R : D → Loc → Prop} (hP : P (lpR sv rv pv data wr p.d true ++ lpX wr p.d v1 v4 v5)) :
    xSs (PhiUp globD HH 100 parF bodF 35) globD HH 71 (lpIn.take 2) (lpR sv rv pv data wr p.d true ++ lpX wr p.d v1 v4 v5) P R XX := by
  cases p with
  | ack k f n =>
    rcases hp.1 with ⟨rfl, rfl⟩ | ⟨rfl, rfl⟩ | ⟨rfl, rfl⟩ | ⟨rfl, rfl⟩ | ⟨rfl, rfl⟩
    all_goals exact hP
  | bare k f =>
    rcases hp with ⟨rfl, rfl⟩ | ⟨rfl, rfl⟩ | ⟨rfl, rfl⟩
    all_goals exact hP
  | _ => exact hP
theorem lp_G1 {sv : LV} {held : List Int} {past : List Pk} {data wr : List Nat} {p : Pk} {v1 v4 v5 : LV} (hp : p.wf) (hps : ∀ o ∈ past, o.wf) (hh : HeldOk held past) (hl : past.length ≤ 1000) {P XX : Loc → Prop} {R : D → Loc → Prop}
    (hP : ∀ held', HeldOk held' (past ++ [p]) → P (lpR sv (.rcv held') (.own (past.map Pk.d)) data wr p.d true ++ lpX wr p.d v1 v4 v5 ++ [(69, .v (.list (p.evs past)))])) :
    xSs (PhiUp globD HH 100 parF bodF 35) globD HH 69 ((lpIn.drop 2).take 2) (lpR sv (.rcv held) (.own (past.map Pk.d)) data wr p.d true ++ lpX wr p.d v1 v4 v5) P R XX := by
  refine law_due_ok (by decide) hp hps ?_
  refine handle_pk hp hh hl fun held' hh' => ?_
  refine opt_of (eq_of_flat (evs_flat p)) ?_
  refine br_t rfl ?_
  refine opt_of (a := false) (by show (D.eq p.d p.d).map _ = _; rw [p.eqd]; rfl) ?_
  exact hP held' hh'
theorem hH : HM HH := hs_mono
theorem lp_G2 {sv rv pv : LV} {data wr : List Nat} {pd : D} {evs : List D} (he : ∀ e ∈ evs, EvOk e) {KK : Loc → Prop} {KD : D → Prop} {XP : Prop} (hP : ∀ σ, Sub (evR sv rv pv data wr pd) σ → KK σ) :
    xSs (PhiUp globD HH 100 parF bodF 35) globD HH 67 ((lpIn.drop 4).take 1) (evR sv rv pv data wr pd ++ [(69, .v (.list evs))]) KK (fun d _ => KD d) (fun _ => XP) := by
  refine fl_of (P := fun items σ => (∀ e ∈ items, EvOk e) ∧ Sub (evR sv rv pv data wr pd) σ) (fun d r σ w hp hw => ?_) (fun σ hp => ?_) ⟨he, sub_of ⟨rfl, rfl, rfl, rfl, rfl, rfl, trivial⟩⟩
  · obtain ⟨h1, h2⟩ := hp
    obtain ⟨τ', g1, g2⟩ := h2.bind [70] true d (τ := evR sv rv pv data wr pd ++ [(70, .v d)]) rfl
    show opt (σ.bind [70] true d) _
    rw [g1]
    refine ss_wk hH g2 (ev_body (h1 d List.mem_cons_self) fun σ2 q2 => ?_)
    refine hw σ2 ⟨fun e hm => h1 e (List.mem_cons_of_mem _ hm), ?_⟩
    exact Sub.trans (sub_of ⟨rfl, rfl, rfl, rfl, rfl, rfl, trivial⟩) q2
  · exact hP σ hp.2
theorem lp_G3 {sv rv : LV} {past : List D} {data wr : List Nat} {pd : D} (hl : past.length ≤ 1000) {P XX : Loc → Prop} {R : D → Loc → Prop} (hP : P (evR sv rv (.own (past ++ [pd])) data wr pd)) :
    xSs (PhiUp globD HH 100 parF bodF 35) globD HH 66 (lpIn.drop 5) (evR sv rv (.own past) data wr pd) P R XX := by
  exact ⟨fits_of (by (first | lia | omega)), hP⟩
end
end Mine
set_option Elab.async false
set_option maxRecDepth 100000
namespace Mine
set_option tactic.hygienic false
theorem ss_split {Φ : Phi} {G : Nat → D} {H : HSpec} {ss : List S} {K X : Loc → Prop} {R : D → Loc → Prop} {ρ : Loc} {n m : Nat} (k : Nat) (hm : n = m + (ss.take k).length) (hp : 0 < m) (h : xSs Φ G H n (ss.take k) ρ (fun σ => xSs Φ G H m (ss.drop k) σ K R X) R X) : xSs Φ G H n ss ρ K R X := by
  have e : ss = ss.take k ++ ss.drop k := (List.take_append_drop k ss).symm
  rw [e, ss_app (by (first | lia | omega))]
  rw [show n - (ss.take k).length = m by (first | lia | omega)]
  exact h
section
variable {i : Nat} {K : D → Prop} {X : Prop}
theorem lp_in {sv : LV} {held : List Int} {past : List Pk} {data wr : List Nat} {p : Pk} {b : List Nat} {v1 v4 v5 : LV} (hp : p.wf) (hw : p.w = some b) (hps : ∀ o ∈ past, o.wf) (hh : HeldOk held past) (hl : past.length ≤ 1000) {KK : Loc → Prop} {KD : D → Prop} {XP : Prop}
    (hP : ∀ held' σ, HeldOk held' (past ++ [p]) → Sub (evR sv (.rcv held') (.own ((past ++ [p]).map Pk.d)) data wr p.d) σ → KK σ) :
    xSs (PhiUp globD HH 100 parF bodF 35) globD HH 71 lpIn (lpR sv (.rcv held) (.own (past.map Pk.d)) data wr p.d true ++ lpX wr p.d v1 v4 v5) KK (fun d _ => KD d) (fun _ => XP) := by
  refine ss_split (m := 69) 2 rfl (by decide) (lp_G0 hp ?_)
  refine ss_split (m := 67) 2 rfl (by decide) (lp_G1 hp hps hh hl fun held' hh' => ?_)
  refine ss_split (m := 66) 1 rfl (by decide) ?_
  refine ss_wk hH (ρ := [(59, sv), (8, .v (.bytes data)), (65, .rcv held'), (53, .own (past.map Pk.d)), (63, .v p.d), (56, .v (.bytes wr)), (69, .v (.list (p.evs past)))]) (sub_of ⟨rfl, rfl, rfl, rfl, rfl, rfl, rfl, trivial⟩) ?_
  refine lp_G2 (evs_ok hp hw) fun σ1 q1 σ2 q2 => ?_
  refine ss_wk hH (q1.trans q2) (lp_G3 (by rw [List.length_map]; exact hl) fun σ3 q3 => ?_)
  refine hP held' σ3 hh' ?_
  rw [List.map_append]
  exact q3
theorem lp_F3n {sv rv pv : LV} {data wr : List Nat} {pd : D} {v1 v2 v3 v4 v5 : LV} {P XX : Loc → Prop} {R : D → Loc → Prop} (hP : P (lpR sv rv pv data wr pd false ++ [(55, v1), (66, v2), (41, v3), (67, v4), (68, v5)])) :
    xSs (PhiUp globD HH 100 parF bodF 35) globD HH 73 ((lpBody.drop 8).take 1) (lpR sv rv pv data wr pd false ++ [(55, v1), (66, v2), (41, v3), (67, v4), (68, v5)]) P R XX := hP
theorem lp_F3y {sv rv pv : LV} {data wr : List Nat} {pd : D} {v1 v4 v5 : LV} {P XX : Loc → Prop} {R : D → Loc → Prop} (hP : xSs (PhiUp globD HH 100 parF bodF 35) globD HH 71 lpIn (lpR sv rv pv data wr pd true ++ lpX wr pd v1 v4 v5) P R XX) :
    xSs (PhiUp globD HH 100 parF bodF 35) globD HH 73 ((lpBody.drop 8).take 1) (lpR sv rv pv data wr pd true ++ lpX wr pd v1 v4 v5) P R XX := hP
theorem lp_body {S : List Int} (hS : 24 ≤ S.length) {held : List Int} {past : List Pk} {more : List Nat} {p : Pk} (hp : p.wf) (hps : ∀ o ∈ past, o.wf) (hh : HeldOk held past) (hl : past.length ≤ 1000) {KK : Loc → Prop} {KD : D → Prop} {XP : Prop}
    (hP : ∀ held' past' σ, HeldOk held' past' → (∀ o ∈ past', o.wf) → past'.length ≤ past.length + 1 → Sub [(59, .v (intsZ S)), (8, .v (.bytes more)), (65, .rcv held'), (53, .own (past'.map Pk.d))] σ → KK σ) :
    xSs (PhiUp globD HH 100 parF bodF 35) globD HH 81 lpBody (lpR (.v (intsZ S)) (.rcv held) (.own (past.map Pk.d)) (p.wire ++ more) p.wire p.d p.w.isSome) KK (fun d _ => KD d) (fun _ => XP) := by
  obtain ⟨wr, hwr⟩ : ∃ w, w = p.wire := ⟨_, rfl⟩
  rw [← hwr]
  refine ss_split (m := 77) 4 rfl (by decide) ?_
  have fin : ∀ {held' : List Int} {past' : List Pk} {σ : Loc}, HeldOk held' past' → (∀ o ∈ past', o.wf) → past'.length ≤ past.length + 1 → Sub [(59, .v (intsZ S)), (8, .v (.bytes (wr ++ more))), (65, .rcv held'), (53, .own (past'.map Pk.d)), (56, .v (.bytes wr))] σ →
      xSs (PhiUp globD HH 100 parF bodF 35) globD HH 72 (lpBody.drop 9) σ KK (fun d _ => KD d) (fun _ => XP) := by
    intro held' past' σ h1 h2 h3 h4
    refine ss_wk hH h4 (lp_F4 fun σ2 q2 => ?_)
    exact hP held' past' σ2 h1 h2 h3 (Sub.trans (sub_of ⟨rfl, rfl, rfl, rfl, trivial⟩) q2)
  cases hw : p.w with
  | none =>
    refine lp_F1n hp hw hwr fun v55 => ?_
    refine ss_split (m := 73) 4 rfl (by decide) (lp_F2 hS hp hwr fun v4 v5 => ?_)
    refine ss_split (m := 72) 1 rfl (by decide) (lp_F3n ?_)
    exact fin hh hps (by (first | lia | omega)) (sub_of ⟨rfl, rfl, rfl, rfl, rfl, trivial⟩)
  | some b =>
    refine lp_F1y hp hw hwr fun v55 => ?_
    refine ss_split (m := 73) 4 rfl (by decide) (lp_F2 hS hp hwr fun v4 v5 => ?_)
    refine ss_split (m := 72) 1 rfl (by decide) (lp_F3y ?_)
    refine lp_in hp hw hps hh hl fun held' σ h1 h2 => ?_
    refine fin h1 (fun o ho => ?_) (by simp) (Sub.trans (b := evR (.v (intsZ S)) (.rcv held') (.own ((past ++ [p]).map Pk.d)) (wr ++ more) wr p.d) (sub_of ⟨rfl, rfl, rfl, rfl, rfl, trivial⟩) h2)
    rcases List.mem_append.mp ho with q | q
    · exact hps o q
    · simp at q; subst q; exact hp
theorem law_F {S : List Int} (hS : 24 ≤ S.length) {ps : List Pk} (hp : ∀ p ∈ ps, p.wf) (hl : ps.length ≤ 900) {KK : Loc → Prop} {KD : D → Prop} {XP : Prop} (hP : ∀ σ, KK σ) :
    xSs (PhiUp globD HH 100 parF bodF 35) globD HH 83 ((b_law.drop 17).take 1) [(59, .v (intsZ S)), (61, .v (.list (ps.map frD))), (8, .v (.bytes (wires ps))), (65, .rcv []), (53, .own [])] KK (fun d _ => KD d) (fun _ => XP) := by
  refine fl_of (P := fun items σ => ∃ dn td past held, ps = dn ++ td ∧ items = td.map frD ∧ HeldOk held past ∧ (∀ o ∈ past, o.wf) ∧ past.length ≤ dn.length ∧ Sub [(59, .v (intsZ S)), (8, .v (.bytes (wires td))), (65, .rcv held), (53, .own (past.map Pk.d))] σ)
    (fun d r σ w h hw => ?_) (fun σ h => hP σ) ⟨[], ps, [], [], rfl, rfl, held_nil, nofun, Nat.le_refl _, sub_of ⟨rfl, rfl, rfl, rfl, trivial⟩⟩
  obtain ⟨dn, td, past, held, e1, e2, e3, e4, e5, e6⟩ := h
  cases td with
  | nil => cases e2
  | cons p td =>
    cases e2
    have hpw : p.wf := hp p (by rw [e1]; simp)
    have hdl : dn.length ≤ 900 := by rw [e1, List.length_append] at hl; (first | lia | omega)
    obtain ⟨τ', g1, g2⟩ := e6.bind [30, 63, 56, 62] false (frD p) (τ := lpR (.v (intsZ S)) (.rcv held) (.own (past.map Pk.d)) (p.wire ++ wires td) p.wire p.d p.w.isSome) rfl
    show opt (σ.bind [30, 63, 56, 62] false (frD p)) _
    rw [g1]
    refine ss_wk hH g2 (lp_body hS hpw e4 e3 (by (first | lia | omega)) fun held' past' σ1 h1 h2 h3 h4 σ2 q2 => ?_)
    exact hw σ2 ⟨dn ++ [p], td, past', held', by simp [e1], rfl, h1, h2, by simp; (first | lia | omega), h4.trans q2⟩
theorem text_len {l : List Nat} (h : l.length = 1 ∨ l.length = 2 ∨ l.length = 3) : (textL l).length ≤ 1000 := by
  have tl : ∀ {x : Nat}, (tab x).length ≤ 2 := fun {x} => by unfold tab; split <;> decide
  rcases l with _ | ⟨a, _ | ⟨b, _ | ⟨c, _ | ⟨d, r⟩⟩⟩⟩
  · simp at h
  · have := tl (x := a); simp only [textL]; (first | lia | omega)
  · have := tl (x := a); have := tl (x := b); simp only [textL, List.length_append, List.length_cons, List.length_nil]; (first | lia | omega)
  · have := tl (x := a); have := tl (x := b); have := tl (x := c); simp only [textL, List.length_append, List.length_cons, List.length_nil]; (first | lia | omega)
  · simp at h
/-- the law, as its text says -/
theorem law_ok (hi : 35 < i) {S : List Int} (hk : K (.bool true)) : PhiUp globD HH 100 parF bodF i 35 [.v (intsZ S)] K X := by
  rw [phi_lt hi]
  refine ⟨rfl, ?_⟩
  by_cases hS : 24 ≤ S.length
  rotate_left
  · refine br_t (decide_eq_true (by show (((S.map D.int).length : Nat) : Int) < 24; rw [List.length_map]; (first | lia | omega))) ?_
    exact hk
  show xSs _ globD HH 100 b_law [(59, .v (intsZ S))] _ _ _
  have ht : (tOf S).length = 1 ∨ (tOf S).length = 2 ∨ (tOf S).length = 3 := len3 _
  have hf : (fOf S).length = 1 ∨ (fOf S).length = 2 ∨ (fOf S).length = 3 := len3 _
  have h7 : ∀ x ∈ tOf S, x < 7 := fun x hx => by
    have := List.mem_of_mem_take hx
    simp at this
    have lt := tab_lt (l := topT) (b := 7) (by decide) (by decide)
    rcases this with rfl | rfl | rfl <;> exact lt _
  have h9 : ∀ x ∈ fOf S, x < 9 := fun x hx => by
    have := List.mem_of_mem_take hx
    simp at this
    have lt := tab_lt (l := filT) (b := 9) (by decide) (by decide)
    rcases this with rfl | rfl | rfl <;> exact lt _
  have z1 := text_len ht
  have z2 := text_len hf
  refine ss_split (m := 97) 3 rfl (by decide) (law_A hS ?_)
  refine ss_split (m := 95) 2 rfl (by decide) (law_B ht hf h7 h9 ?_)
  refine ss_split (m := 94) 1 rfl (by decide) (law_B5 (fun h => by rw [h] at hf; simp at hf) ?_)
  refine ss_split (m := 91) 3 rfl (by decide) (law_C ht hf h7 h9 z1 z2 fun σ q => ?_)
  refine ss_wk hH q ?_
  generalize textL (tOf S) = text at *
  generalize textL (fOf S) = sieve at *
  refine ss_split (m := 90) 1 rfl (by decide) (law_D9 hS ?_)
  refine ss_split (m := 89) 1 rfl (by decide) (law_D10 hS ?_)
  refine ss_wk hH (ρ := [(42, .v (.tuple ((steps S).map tripD))), (59, .v (intsZ S)), (20, .v (.bytes text)), (50, .v (.bytes sieve)), (48, .v (.bool (topicB text))), (51, .v (.bool (filterB sieve)))]) (sub_of ⟨rfl, rfl, rfl, rfl, rfl, rfl, trivial⟩) ?_
  refine ss_split (m := 87) 2 rfl (by decide) (law_D12 hH (ts := steps S) z1 z2 (by simp [steps]) fun σ2 q2 => ?_)
  have psw : ∀ p ∈ (steps S).map (pkOf text sieve), p.wf := fun p hp => by
    obtain ⟨s, _, rfl⟩ := List.mem_map.mp hp
    exact pkOf_wf z1 z2 s
  refine ss_wk hH (ρ := [(59, .v (intsZ S)), (61, .own (((steps S).map (pkOf text sieve)).map frD))]) (Sub.trans (sub_of ⟨rfl, rfl, trivial⟩) q2) ?_
  refine ss_split (m := 83) 4 rfl (by decide) (law_E psw (by simp [steps]) ?_)
  refine ss_split (m := 82) 1 rfl (by decide) (law_F hS psw (by simp [steps]) fun σ3 => ?_)
  intros
  exact hk
end
end Mine
set_option Elab.async false
set_option maxRecDepth 100000
set_option maxHeartbeats 1000000
namespace Mine
set_option tactic.hygienic false
open PySem PyProof.Rows
theorem lookup_zip : ∀ {ns : List Str} {vs : List Value}, vs.length = ns.length → ∀ n ∈ ns, ((ns.zip vs).lookup n).isSome = true
  | [], _, _, n, h => by cases h
  | x :: ns, [], hl, _, _ => by simp at hl
  | x :: ns, v :: vs, hl, n, h => by
    rw [List.zip_cons_cons, List.lookup_cons]
    by_cases e : n = x
    · subst e; simp
    · have hm : n ∈ ns := by rcases List.mem_cons.mp h with q | q; exact absurd q e; exact q
      have : (n == x) = false := by simpa using e
      rw [this]
      exact lookup_zip (by simpa using hl) n hm
theorem filter_zip : ∀ {ns : List Str} {vs : List Value}, vs.length = ns.length → ns.filter (fun n => ((ns.zip vs).lookup n).isNone) = [] := by
  intro ns vs hl
  rw [List.filter_eq_nil_iff]
  intro n hn
  have := lookup_zip hl n hn
  rw [Option.isSome_iff_ne_none] at this
  simpa using this
theorem fm_congr {α β : Type} {f g : α → Option β} : ∀ {l : List α}, (∀ x ∈ l, f x = g x) → l.filterMap f = l.filterMap g
  | [], _ => rfl
  | x :: r, h => by rw [List.filterMap_cons, List.filterMap_cons, h x List.mem_cons_self, fm_congr fun y hy => h y (List.mem_cons_of_mem _ hy)]
theorem zip_map : ∀ {ns : List Str} {vs : List Value}, vs.length = ns.length → ns.Nodup → ns.filterMap (fun n => ((ns.zip vs).lookup n).map (n, ·)) = ns.zip vs
  | [], [], _, _ => rfl
  | [], _ :: _, hl, _ => by simp at hl
  | x :: ns, [], hl, _ => by simp at hl
  | x :: ns, v :: vs, hl, nd => by
    obtain ⟨h1, h2⟩ := List.nodup_cons.mp nd
    rw [List.filterMap_cons, List.zip_cons_cons]
    have e : (((x, v) :: ns.zip vs).lookup x).map (x, ·) = some (x, v) := by simp [List.lookup_cons]
    rw [e]
    have e2 : ns.filterMap (fun n => (((x, v) :: ns.zip vs).lookup n).map (n, ·)) = ns.filterMap (fun n => ((ns.zip vs).lookup n).map (n, ·)) := by
      refine fm_congr fun n hn => ?_
      have : (n == x) = false := by
        have : n ≠ x := fun q => h1 (q ▸ hn)
        simpa using this
      rw [List.lookup_cons, this]
    show (x, v) :: _ = _
    rw [e2, zip_map (by simpa using hl) h2]
theorem bind_simple {fd : FuncData} {names : List Str} (hp : fd.params.posonlyargs = []) (hk : fd.params.kwonlyargs = []) (hv : fd.params.vararg = none) (hw : fd.params.kwarg = none) (ha : fd.params.args.map (·.arg) = names) (hd : fd.defaults = .none) (nd : names.Nodup) {vs : List Value} (hl : vs.length = names.length) : bindArgs fd ⟨vs, []⟩ = pure (names.zip vs) := by
  obtain ⟨nm, qn, ⟨po, as, va, ko, kd, kw, df⟩, bd, sc, gl, cl, defaults, kwd, doc, pm, an, code, ct, bi⟩ := fd
  cases hp; cases hk; cases hv; cases hw; cases hd
  dsimp only at ha
  have hm := filter_zip hl
  have hz := zip_map hl nd
  have hg : (decide (vs.length > names.length) && true) = false := by rw [hl, decide_eq_false (Nat.lt_irrefl _)]; rfl
  have h0 : names.take (names.length - 0) = names := List.take_length
  refine (if_neg (show ¬ (decide (vs.length > (as.map (·.arg)).length) && true) = true by rw [ha, hg]; decide)).trans ?_
  dsimp only [List.map_nil, List.nil_append, List.forIn_nil, Option.getD_none, List.length_nil, Array.toList]
  rw [ha]
  simp only [List.drop_nil, List.length_nil, List.zip_nil_right]
  refine (if_neg (show ¬ (!(List.filter (fun n => (List.lookup n (names.zip vs)).isNone) (names.take (names.length - 0))).isEmpty) = true by rw [h0, hm]; decide)).trans ?_
  show (pure (List.filterMap (fun n => Option.map (fun x => (n, x)) (List.lookup n (names.zip vs))) (names ++ [])) : Sem _) = _
  rw [List.append_nil, hz]
end Mine
set_option Elab.async false
set_option maxRecDepth 100000
set_option maxHeartbeats 1000000
namespace Mine
open PySem PyProof.Rows PySem.W
noncomputable def simpleB (p : Arguments) (ns : List Str) : Bool := p.posonlyargs.isEmpty && p.kwonlyargs.isEmpty && p.vararg.isNone && p.kwarg.isNone && (p.args.map (·.arg) == ns)
noncomputable def vNone : Value → Bool
  | .none => true
  | _ => false
noncomputable def fdB (N : Nms) (m : Nat) (fd : FuncData) (ps : List Nat) (ts : List S) : Bool :=
  (match fd.body with | .stmts body => chkSs N N.nn m fd.scope body ts | _ => false) && fd.closure.isEmpty && Nat.beq fd.globals mainGlobals && Nat.beq fd.builtins builtinsNs && !fd.scope.isCoroutine && !fd.scope.isGenerator && fd.scope.kind == .function &&
    simpleB fd.params (ps.map N.nm) && vNone fd.defaults && ps.all (fun p => Nat.blt p N.nn && isLoc fd.scope (N.nm p)) && decide ps.Nodup && decide (ps.map N.nm).Nodup
theorem bind_of {fd : FuncData} {ns : List Str} (h1 : simpleB fd.params ns = true) (h2 : vNone fd.defaults = true) (nd : ns.Nodup) {vs : List Value} (hl : vs.length = ns.length) : bindArgs fd ⟨vs, []⟩ = pure (ns.zip vs) := by
  simp only [simpleB, Bool.and_eq_true, List.isEmpty_iff, Option.isNone_iff_eq_none, beq_iff_eq] at h1
  obtain ⟨⟨⟨⟨a1, a2⟩, a3⟩, a4⟩, a5⟩ := h1
  have h3 : fd.defaults = .none := by
    unfold vNone at h2
    split at h2
    · assumption
    · cases h2
  exact bind_simple a1 a2 a3 a4 a5 h3 nd hl
theorem fnF_of {W : Wd} {m : Nat} {fd : FuncData} {ps : List Nat} {ts : List S} (h : fdB W.toNms m fd ps ts = true) : ∃ body, FnF W fd ps body ts m := by
  unfold fdB at h
  simp only [Bool.and_eq_true, Bool.not_eq_true', List.isEmpty_iff, decide_eq_true_eq, List.all_eq_true, beq_iff_eq] at h
  obtain ⟨⟨⟨⟨⟨⟨⟨⟨⟨⟨⟨h1, h2⟩, h3⟩, h4⟩, h5⟩, h6⟩, h7⟩, h8⟩, h9⟩, h10⟩, h11⟩, h12⟩ := h
  split at h1
  · rename_i body hb
    refine ⟨body, ⟨hb, h2, Nat.eq_of_beq_eq_true h3, Nat.eq_of_beq_eq_true h4, h5, h6, h7, fun vs hl => ?_, fun p hp => ?_, h11, h1⟩⟩
    · exact bind_of h8 h9 h12 (by rw [List.length_map]; exact hl)
    · have := h10 p hp
      exact ⟨by simpa using this.1, this.2⟩
  · cases h1
/-- the function that a global names -/
noncomputable def glK (K : Frag) (x : Str) : Option Addr := match nsIn K mainGlobals x with
  | some (some (.ref a)) => some a
  | _ => none
noncomputable def fdK (K : Frag) (a : Addr) : Option FuncData := match K.lookup a with
  | some ⟨_, _, .func fd, _⟩ => some fd
  | _ => none
theorem fdK_of {K : Frag} {h : Heap} (X : K.In h) {a : Addr} {fd : FuncData} (e : fdK K a = some fd) : ∃ o, h.get? a = some o ∧ o.data = .func fd := by
  unfold fdK at e
  split at e
  · rename_i ho; cases e; exact ⟨_, X _ _ ho, rfl⟩
  · cases e
theorem glK_of {K : Frag} {h : Heap} {mg : Str → Option Value} (X : K.In h) (G : h.Ns mainGlobals mg) {x : Str} {a : Addr} (e : glK K x = some a) : mg x = some (.ref a) := by
  unfold glK at e
  split at e
  · rename_i q; cases e; exact mg_of X G q
  · cases e
noncomputable def fnB (K : Frag) (N : Nms) (m f : Nat) (ps : List Nat) (ts : List S) : Bool := match glK K (N.fnm f) with
  | some a => (match fdK K a with
    | some fd => fdB N m fd ps ts && codeIn K fd.code fd.qualname
    | none => false)
  | none => false
theorem fnAt_of {W : Wd} {K : Frag} (X : K.In W.Hb) (G : W.Hb.Ns mainGlobals W.mg) {m f : Nat} {ps : List Nat} {ts : List S} (h : fnB K W.toNms m f ps ts = true) : FnAt W f ps ts m := by
  unfold fnB at h
  split at h
  · rename_i a ha
    split at h
    · rename_i fd hfd
      rw [Bool.and_eq_true] at h
      obtain ⟨o, h1, h2⟩ := fdK_of X hfd
      obtain ⟨body, F⟩ := fnF_of h.1
      exact ⟨a, o, fd, body, glK_of X G ha, h1, h2, codeRec_of X h.2, F⟩
    · cases h
  · cases h

noncomputable def isTyB (v : Value) (c : String) : Bool := match v with
  | .type t => t == c
  | _ => false
noncomputable def seqD (d : Data) : Option (List Value) := match d with
  | .seq vs _ => some vs.toList
  | _ => none
noncomputable def seqOf (K : Frag) (a : Addr) (c : String) : Option (List Value) := match K.lookup a with
  | some o => (match isTyB o.cls c with
    | true => seqD o.data
    | false => none)
  | none => none
theorem isTyB_of {v : Value} {c : String} (h : isTyB v c = true) : v = .type c := by
  cases v with
  | type t => exact congrArg Value.type (eq_of_beq h)
  | _ => exact (Bool.false_ne_true h).elim
theorem seqD_of {d : Data} {vs : List Value} (h : seqD d = some vs) : ∃ ep, d = .seq vs.toArray ep := by
  cases d with
  | seq us ep => cases h; exact ⟨ep, rfl⟩
  | _ => exact no_some h
theorem seqOf_of {K : Frag} {a : Addr} {c : String} {vs : List Value} (h : seqOf K a c = some vs) : ∃ o ep, K.lookup a = some o ∧ o.cls = .type c ∧ o.data = .seq vs.toArray ep := by
  unfold seqOf at h
  cases q : K.lookup a with
  | none => rw [q] at h; cases h
  | some o =>
    rw [q] at h
    cases t : isTyB o.cls c with
    | false => simp only [t] at h; cases h
    | true =>
      simp only [t] at h
      obtain ⟨ep, hd⟩ := seqD_of h
      exact ⟨o, ep, rfl, isTyB_of t, hd⟩
noncomputable def refV (v : Value) : Option Addr := match v with
  | .ref a => some a
  | _ => none
noncomputable def seqV (K : Frag) (v : Value) (c : String) : Option (List Value) := match refV v with
  | some a => seqOf K a c
  | none => none
theorem refV_of {v : Value} {a : Addr} (h : refV v = some a) : v = .ref a := by
  cases v with
  | ref b => cases h; rfl
  | _ => exact no_some h
theorem seqV_of {K : Frag} {v : Value} {c : String} {vs : List Value} (h : seqV K v c = some vs) : ∃ a o ep, v = .ref a ∧ K.lookup a = some o ∧ o.cls = .type c ∧ o.data = .seq vs.toArray ep := by
  unfold seqV at h
  cases q : refV v with
  | none => rw [q] at h; cases h
  | some a =>
    rw [q] at h
    obtain ⟨o, ep, h1⟩ := seqOf_of h
    exact ⟨a, o, ep, refV_of q, h1⟩
/-- a plain value beside a datum -/
noncomputable def flatB (st : Nat → Str) (v : Value) (d : D) : Bool := match d with
  | .none => (match v with | .none => true | _ => false)
  | .bool b => (match v with | .bool a => a == b | _ => false)
  | .int j => (match v with | .int i _ => i == j | _ => false)
  | .str k => (match v with | .str x _ => st k == x && Nat.blt k 32 | _ => false)
  | .bytes l => (match v with | .bytes b _ => b.toList.map UInt8.toNat == l && fits l.length | _ => false)
  | _ => false
theorem flat_of {st : Nat → Str} {O : Addr → Prop} {h : Heap} {v : Value} {d : D} (e : flatB st v d = true) : Den st O h v d := by
  cases d with
  | none => cases v with
    | none => exact .none
    | _ => exact (Bool.false_ne_true e).elim
  | bool b => cases v with
    | bool a => cases eq_of_beq e; exact .bool _
    | _ => exact (Bool.false_ne_true e).elim
  | int b => cases v with
    | int a _ => cases eq_of_beq e; exact .int _ _
    | _ => exact (Bool.false_ne_true e).elim
  | str b => cases v with
    | str a _ => exact .str _ _ _ (eq_of_beq (an e).1) (Nat.le_of_ble_eq_true (an e).2)
    | _ => exact (Bool.false_ne_true e).elim
  | bytes b => cases v with
    | bytes a _ => exact .bytes _ _ _ (eq_of_beq (an e).1) (an e).2
    | _ => exact (Bool.false_ne_true e).elim
  | _ => exact (Bool.false_ne_true e).elim
noncomputable def densX (c : Value → D → Bool) : List Value → List D → Bool
  | vs, [] => vs.isEmpty
  | vs, d :: ds => match vs with
    | [] => false
    | v :: vs => c v d && densX c vs ds
noncomputable def denB (K : Frag) (st : Nat → Str) : Nat → Value → D → Bool
  | 0, _, _ => false
  | n + 1, v, d => match d with
    | .tuple ds => (match seqV K v "tuple" with
      | some vs => densX (denB K st n) vs ds && fits ds.length
      | none => false)
    | .list ds => (match seqV K v "list" with
      | some vs => densX (denB K st n) vs ds && fits ds.length
      | none => false)
    | d => flatB st v d
theorem dens_of {st : Nat → Str} {O : Addr → Prop} {h : Heap} {c : Value → D → Bool} (hc : ∀ v d, c v d = true → Den st O h v d) : ∀ {ds : List D} {vs : List Value}, densX c vs ds = true → Dens st O h vs ds
  | [], [], _ => .nil
  | [], _ :: _, e => by cases e
  | _ :: _, [], e => by cases e
  | d :: ds, v :: vs, e => .cons (hc v d (an e).1) (dens_of hc (an e).2)
theorem den_of {K : Frag} {st : Nat → Str} {h : Heap} (X : K.In h) : ∀ n v d, denB K st n v d = true → Den st (fun _ => False) h v d
  | 0, _, _, e => by cases e
  | n + 1, v, d, e => by
    cases d with
    | tuple ds =>
      replace e : (match seqV K v "tuple" with | some vs => densX (denB K st n) vs ds && fits ds.length | none => false) = true := e
      cases q : seqV K v "tuple" with
      | none => rw [q] at e; cases e
      | some vs =>
        rw [q] at e
        obtain ⟨a, o, ep, rfl, h1, h2, h3⟩ := seqV_of q
        exact .tuple (fun q => q) ⟨o, X _ _ h1, h2, ep, h3⟩ (dens_of (den_of X n) (an e).1) (an e).2
    | list ds =>
      replace e : (match seqV K v "list" with | some vs => densX (denB K st n) vs ds && fits ds.length | none => false) = true := e
      cases q : seqV K v "list" with
      | none => rw [q] at e; cases e
      | some vs =>
        rw [q] at e
        obtain ⟨a, o, ep, rfl, h1, h2, h3⟩ := seqV_of q
        exact .list (fun q => q) ⟨o, X _ _ h1, h2, ep, h3⟩ (dens_of (den_of X n) (an e).1) (an e).2
    | _ => exact flat_of e
noncomputable def glbB (K : Frag) (N : Nms) (g : Nat) (d : D) : Bool := match nsIn K mainGlobals (N.gnm g) with
  | some (some v) => denB K N.st 200 v d
  | _ => false
theorem glob_of {W : Wd} {K : Frag} (X : K.In W.Hb) (G : W.Hb.Ns mainGlobals W.mg) {g : Nat} (h : glbB K W.toNms g (W.G g) = true) : ∃ v, W.mg (W.gnm g) = some v ∧ Den W.st (fun _ => False) W.Hb v (W.G g) := by
  unfold glbB at h
  split at h
  · rename_i v q; exact ⟨v, mg_of X G q, den_of X 200 _ _ h⟩
  · cases h
/-! the class -/
noncomputable def isRef (o : Option (Option Value)) (a : Addr) : Bool := match o with
  | some (some (.ref b)) => Nat.beq b a
  | _ => false
theorem isRef_of {o : Option (Option Value)} {a : Addr} (h : isRef o a = true) : o = some (some (.ref a)) := by
  unfold isRef at h
  split at h
  · cases Nat.eq_of_beq_eq_true h; rfl
  · cases h
noncomputable def isBlt (o : Option (Option Value)) (s : String) : Bool := match o with
  | some (some (.builtin t)) => t == s
  | _ => false
theorem isBlt_of {o : Option (Option Value)} {s : String} (h : isBlt o s = true) : o = some (some (.builtin s)) := by
  unfold isBlt at h
  split at h
  · rw [beq_iff_eq] at h; subst h; rfl
  · cases h
noncomputable def isNon (o : Option (Option Value)) : Bool := match o with
  | some none => true
  | _ => false
theorem isNon_of {o : Option (Option Value)} (h : isNon o = true) : o = some none := by
  unfold isNon at h
  split at h
  · rfl
  · cases h
noncomputable def isTyp (o : Option Value) (s : String) : Bool := match o with
  | some (.type t) => t == s
  | _ => false
theorem isTyp_of {o : Option Value} {s : String} (h : isTyp o s = true) : o = some (.type s) := by
  unfold isTyp at h
  split at h
  · rw [beq_iff_eq] at h; subst h; rfl
  · cases h
noncomputable def refOf (o : Option (Option Value)) : Addr := match o with
  | some (some (.ref b)) => b
  | _ => 0
noncomputable def cK (K : Frag) : Addr := refOf (nsIn K mainGlobals ("Receiver" : Str))
noncomputable def fIK (K : Frag) : Addr := refOf (findIn K (.ref (cK K)) "__init__")
noncomputable def fHK (K : Frag) : Addr := refOf (findIn K (.ref (cK K)) "handle")
noncomputable def rcvB (K : Frag) : Bool :=
  isRef (nsIn K mainGlobals ("Receiver" : Str)) (cK K) && (clsIn K (cK K)).any (·.hasDict) && makesIn K (cK K) && isBlt (findIn K (.ref (cK K)) "__getattribute__") "object.__getattribute__" && isNon (findIn K (.ref (cK K)) "__getattr__") &&
    isBlt (findIn K (.ref (cK K)) "__setattr__") "object.__setattr__" && plainOver K (cK K) && isNon (findIn K (.ref (cK K)) "_held") && isRef (findIn K (.ref (cK K)) "__init__") (fIK K) && isTyp (typeIn K (.ref (fIK K))) "function" &&
    isRef (findIn K (.ref (cK K)) "handle") (fHK K) && isTyp (typeIn K (.ref (fHK K))) "function"
theorem rcv_of {W : Wd} {K : Frag} (X : K.In W.Hb) (G : W.Hb.Ns mainGlobals W.mg) (hr : W.rcv = rcvP W.prog W.w (cK K)) (h : rcvB K = true) : RcvF W K (cK K) (fIK K) (fHK K) := by
  unfold rcvB at h
  simp only [Bool.and_eq_true] at h
  obtain ⟨⟨⟨⟨⟨⟨⟨⟨⟨⟨⟨h1, h2⟩, h3⟩, h4⟩, h5⟩, h6⟩, h7⟩, h8⟩, h9⟩, h10⟩, h11⟩, h12⟩ := h
  exact ⟨X, mg_of X G (isRef_of h1), hr, h2, h3, isBlt_of h4, isNon_of h5, isBlt_of h6, h7, isNon_of h8, isRef_of h9, isTyp_of h10, isRef_of h11, isTyp_of h12⟩
noncomputable def initS (s : Stmt) : Bool := ST 3 s && (Nat.beq (sv s).es.length 1 && (T 10 ((sv s).es.headD (sv s).a) && (T 12 (ev ((sv s).es.headD (sv s).a)).a && (cName ((sv s).es.headD (sv s).a) == ("self" : Str) && ((ev ((sv s).es.headD (sv s).a)).s == ("_held" : Str) && (T 5 (sv s).a && (Nat.beq (ev (sv s).a).keys.length 0 && Nat.beq (ev (sv s).a).es.length 0)))))))
noncomputable def initBody (b : FuncBody) : Bool := match b with
  | .stmts l => Nat.beq l.length 1 && initS (l.headD (.Pass ⟨0, 0, 0, 0⟩))
  | _ => false
theorem initS_of {s : Stmt} (h : initS s = true) : ∃ p1 p2 p3 p4, s = .Assign [.Attribute (.Name "self" p1) "_held" p2] (.Dict [] [] p3) p4 := by
  obtain ⟨h1, h2⟩ := an h
  obtain ⟨a, b⟩ := asg1 h1 h2
  obtain ⟨b1, b⟩ := an b; obtain ⟨b2, b⟩ := an b; obtain ⟨b3, b⟩ := an b; obtain ⟨b4, b⟩ := an b; obtain ⟨b5, b⟩ := an b
  have q1 := at_of b1 b2
  rw [eq_of_beq b3, eq_of_beq b4] at q1
  have q2 := w_dict b5
  rw [no_of (an b).1, no_of (an b).2] at q2
  generalize (sv s).es.headD (sv s).a = t at a q1
  rw [q1, q2] at a
  exact ⟨_, _, _, _, a⟩
theorem initBody_of {b : FuncBody} (h : initBody b = true) : ∃ p1 p2 p3 p4, b = .stmts [.Assign [.Attribute (.Name "self" p1) "_held" p2] (.Dict [] [] p3) p4] := by
  cases b with
  | stmts l =>
    obtain ⟨h1, h2⟩ := an h
    obtain ⟨p1, p2, p3, p4, q⟩ := initS_of h2
    rw [one_of (.Pass ⟨0, 0, 0, 0⟩) h1, q]
    exact ⟨_, _, _, _, rfl⟩
  | _ => cases h
noncomputable def initB (K : Frag) : Bool := match fdK K (fIK K) with
  | some fd => codeIn K fd.code fd.qualname && initBody fd.body && fd.closure.isEmpty && !fd.scope.isCoroutine && !fd.scope.isGenerator && fd.scope.kind == .function && simpleB fd.params [("self" : Str)] && vNone fd.defaults && fd.scope.names.lookup ("self" : Str) == some .local
  | none => false
theorem init_of {W : Wd} {K : Frag} (X : K.In W.Hb) (h : initB K = true) : ∃ fd o p1 p2 p3 p4, InitF W (fIK K) fd o p1 p2 p3 p4 := by
  unfold initB at h
  split at h
  · rename_i fd hfd
    simp only [Bool.and_eq_true, Bool.not_eq_true', List.isEmpty_iff, beq_iff_eq] at h
    obtain ⟨⟨⟨⟨⟨⟨⟨⟨h1, h2⟩, h3⟩, h4⟩, h5⟩, h6⟩, h7⟩, h8⟩, h9⟩ := h
    obtain ⟨o, g1, g2⟩ := fdK_of X hfd
    obtain ⟨p1, p2, p3, p4, hp⟩ := initBody_of h2
    exact ⟨fd, o, p1, p2, p3, p4, ⟨g1, g2, codeRec_of X h1, hp, h3, h4, h5, h6, fun v => bind_of h7 h8 (by simp) rfl, h9⟩⟩
  · cases h
noncomputable def handB (K : Frag) (N : Nms) (m selfN pkN : Nat) (ts : List S) : Bool := match fdK K (fHK K) with
  | some fd => fdB N m fd [selfN, pkN] ts && codeIn K fd.code fd.qualname && !isGlob fd.scope ("Receiver" : Str)
  | none => false
noncomputable def clsB (K : Frag) (N : Nms) (m selfN pkN : Nat) (ts : List S) : Bool := rcvB K && keepIn K (.ref (cK K)) && initB K && handB K N m selfN pkN ts
theorem cls_of {W : Wd} {K : Frag} {m selfN pkN : Nat} {ts : List S} (X : K.In W.Hb) (G : W.Hb.Ns mainGlobals W.mg) (hr : W.rcv = rcvP W.prog W.w (cK K)) (h : clsB K W.toNms m selfN pkN ts = true) : ClsF W K (cK K) (fIK K) (fHK K) selfN pkN m ts := by
  unfold clsB at h
  simp only [Bool.and_eq_true] at h
  obtain ⟨⟨⟨h1, h2⟩, h3⟩, h4⟩ := h
  refine ⟨rcv_of X G hr h1, h2, init_of X h3, ?_⟩
  unfold handB at h4
  split at h4
  · rename_i fd hfd
    simp only [Bool.and_eq_true, Bool.not_eq_true'] at h4
    obtain ⟨o, g1, g2⟩ := fdK_of X hfd
    obtain ⟨body, F⟩ := fnF_of h4.1.1
    exact ⟨fd, o, body, F, g1, g2, codeRec_of X h4.1.2, h4.2⟩
  · cases h4
end Mine
set_option Elab.async false
set_option maxRecDepth 100000
set_option maxHeartbeats 1000000
namespace Mine
open PySem PyProof.Rows PySem.W
noncomputable def allB (K : Frag) : Bool :=
  (List.range 36).all (fun f => fnB K nms 200 f (parF f) (bodF f)) && (List.range 5).all (fun g => glbB K nms g (globD g)) && clsB K nms 200 72 30 b_m_handle && builtIns.all (fun p => isNon (nsIn K mainGlobals p.1))
theorem nth_ge {α : Type} {d : α} : ∀ {l : List α} {n : Nat}, l.length ≤ n → nth d n l = d
  | [], _, _ => by unfold nth; rfl
  | _ :: _, 0, h => absurd h (Nat.not_succ_le_zero _)
  | _ :: r, n + 1, h => (nth_ge (l := r) (n := n) (Nat.le_of_succ_le_succ h) : nth d n r = d)
theorem st_nodup : ((List.range 32).map stF).Nodup := by decide +kernel
theorem nm_nodup : ((List.range 73).map nmF).Nodup := by decide +kernel
theorem inj_of {f : Nat → Str} {n : Nat} (h : ((List.range n).map f).Nodup) : ∀ j k, j < n → k < n → f j = f k → j = k := by
  intro j k hj hk e
  have key : ∀ a b, a < b → b < n → f a ≠ f b := fun a b h1 h2 => by
    have := List.pairwise_iff_getElem.mp h a b (by simp; (first | lia | omega)) (by simp; (first | lia | omega)) h1
    simpa using this
  rcases Nat.lt_trichotomy j k with q | q | q
  · exact absurd e (key j k q hk)
  · exact q
  · exact absurd e.symm (key k j q hj)
theorem bi_boot : ∀ p ∈ builtIns, p.1 ≠ "__name__" ∧ bootBuiltins p.1 = some p.2 := by
  intro p hp
  simp only [builtIns, List.mem_cons, List.not_mem_nil, or_false] at hp
  rcases hp with rfl | rfl | rfl | rfl | rfl | rfl | rfl | rfl
  all_goals exact ⟨by decide, rfl⟩
noncomputable def WOf (prog : Program) (w : World) (K : Frag) (h : Heap) (mg mb : Str → Option Value) : Wd := { toNms := nms, prog := prog, w := w, G := globD, Hb := h, mg := mg, mb := mb, rcv := rcvP prog w (cK K) }
section
variable {prog : Program} {w : World} {K : Frag} {h : Heap} {mg mb : Str → Option Value}
theorem fns_of (X : K.In h) (G : h.Ns mainGlobals mg) (hb : allB K = true) : ∀ f, f < 36 → FnAt (WOf prog w K h mg mb) f (parF f) (bodF f) 200 := by
  unfold allB at hb
  simp only [Bool.and_eq_true] at hb
  intro f hf
  exact fnAt_of (W := WOf prog w K h mg mb) X G (List.all_eq_true.mp hb.1.1.1 f (by simpa using hf))
theorem wok_of (X : K.In h) (G : h.Ns mainGlobals mg) (B : h.Ns builtinsNs mb) (NL : h.NoLimit) (blt : ∀ x : Str, x ≠ "__name__" → mb x = bootBuiltins x) (hb : allB K = true) : WOk (WOf prog w K h mg mb) := by
  have F := fns_of (prog := prog) (w := w) (mb := mb) X G hb
  unfold allB at hb
  simp only [Bool.and_eq_true] at hb
  obtain ⟨⟨⟨h1, h2⟩, h3⟩, h4⟩ := hb
  have C := cls_of (W := WOf prog w K h mg mb) X G rfl h3
  refine { bi := fun p hp => ?_, g := G, b := B, nolimit := NL, inj := inj_of st_nodup, nmInj := inj_of nm_nodup, rcvTo := fun k _ x => rcv_to (W := WOf prog w K h mg mb) k x, glob := fun g => ?_, fn := fun f => ?_, hin := fun S hu hr hq => rcv_hin C.rc S hr hq }
  · exact ⟨mg_none_of X G (isNon_of (List.all_eq_true.mp h4 p hp)), (blt _ (bi_boot p hp).1).trans (bi_boot p hp).2⟩
  · have key : ∀ g, g < 5 → ∃ v, mg (gnF g) = some v ∧ Den stF (fun _ => False) h v (globD g) := fun g hg => glob_of (W := WOf prog w K h mg mb) X G (List.all_eq_true.mp h2 g (by simpa using hg))
    match g with
    | 0 => exact key 0 (by decide)
    | 1 => exact key 1 (by decide)
    | 2 => exact key 2 (by decide)
    | 3 => exact key 3 (by decide)
    | _ + 4 => 
      rename_i k
      cases k with
      | zero => exact key 4 (by decide)
      | succ k => exact key 4 (by decide)
  · have key : ∀ f, f < 36 → ∃ a o fd, mg (fnF f) = some (.ref a) ∧ h.get? a = some o ∧ o.data = .func fd := fun f hf => let ⟨a, o, fd, body, q1, q2, q3, _⟩ := F f hf; ⟨a, o, fd, q1, q2, q3⟩
    by_cases hf : f < 36
    · exact key f hf
    · have : fnF f = fnF 35 := (nth_ge (d := Str.ofString "law") (Nat.le_trans (Nat.le_of_ble_eq_true rfl) (Nat.not_lt.mp hf))).trans (show Str.ofString "law" = fnF 35 from rfl)
      show ∃ a o fd, mg (fnF f) = some (.ref a) ∧ h.get? a = some o ∧ o.data = .func fd
      rw [this]; exact key 35 (by decide)
end
end Mine
set_option Elab.async false
set_option maxRecDepth 100000
set_option maxHeartbeats 1000000
namespace Mine
open PySem PyProof.Rows PySem.W
theorem law_call {prog : Program} {w : World} {K : Frag} {s : Shared} {mg mb : Str → Option Value} (X : K.In s.heap) (G : s.heap.Ns mainGlobals mg) (B : s.heap.Ns builtinsNs mb) (NL : s.heap.NoLimit) (blt : ∀ x : Str, x ≠ "__name__" → mb x = bootBuiltins x) (hb : allB K = true)
    {fa : Addr} (hfa : mg (Str.ofString "law") = some (.ref fa)) {a : Addr} {S : List Int} {vs : List Value} (hl : s.heap.IsList a vs.toArray) (hd : Dens stF (fun _ => False) s.heap vs (S.map .int)) (hz : S.length ≤ 1000) :
    codeAny (model prog w) callerA (.call (.ref fa) ⟨[.ref a], []⟩) (fun r s' => r = .ok (.ret (.bool true)) ∧ ∃ h' tk, s' = { s with heap := h', toks := tk } ∧ ∀ b o, s.heap.get? b = some o → h'.get? b = some o) s := by
  have ok := wok_of (prog := prog) (w := w) X G B NL blt hb
  have F := fns_of (prog := prog) (w := w) (mb := mb) X G hb
  have C := cls_of (W := WOf prog w K s.heap mg mb) (m := 200) (selfN := 72) (pkN := 30) (ts := b_m_handle) X G rfl (by
    unfold allB at hb
    simp only [Bool.and_eq_true] at hb
    exact hb.1.2)
  have S0 : Stn (WOf prog w K s.heap mg mb) callerA [] (fun _ => False) s.heap := { frames := rfl, handled := rfl, stays := fun _ _ e => e, funs := trivial, sub := nofun, fresh := fun _ q => q.elim }
  have R0 : Room callerA (36 + 1) := ⟨by decide +kernel, by decide +kernel⟩
  have A0 : ArgsOk (WOf prog w K s.heap mg mb) (fun _ => False) [] s.heap [.ref a] [.v (intsZ S)] := .cons (Den.list (fun q => q) hl hd (fits_of (by rw [List.length_map]; (first | lia | omega)))) (fun _ _ q => by cases q) .nil
  refine codeAny_mono (run_ok (N := 100) ok C F (f := 35) (by decide) hfa S0 R0 A0 (K' := fun d => d = .bool true) (X := False) (law_ok (by decide) rfl)) fun r s' hr => ?_
  match r, hr with
  | .ok (.ret v), hr =>
    obtain ⟨d, h', tk, e1, rfl, e2, e3⟩ := hr
    cases e3
    exact ⟨rfl, h', tk, e1, fun b o q => e2.keep b o (by simp) q⟩
  | .error e, hr => exact hr.1.elim
end Mine
set_option Elab.async false
set_option maxRecDepth 100000
set_option maxHeartbeats 1000000
namespace Mine
open PySem PyProof.Rows PySem.W
theorem dens_ints {st : Nat → Str} {O : Addr → Prop} {h : Heap} {vs : List Value} {S : List Int} (x : IntsAre vs S) : Dens st O h vs (S.map .int) := by
  induction x with
  | nil => exact .nil
  | cons n t _ ih => exact .cons (.int n t) ih
end Mine
set_option Elab.async false
set_option maxRecDepth 100000
set_option maxHeartbeats 8000000
namespace Mine
open PySem PySem.W PyProof.Rows
/-! ## the head, without the layer's long way: one run of the top in the kernel -/
noncomputable abbrev P2 : Program := PySem.Challenge.rw_sx_r123_2.row.prog
noncomputable def isLaw : Stmt → Bool
  | .FunctionDef n .. => n == Str.ofString "law"
  | _ => false
noncomputable def view2 : Program := { P2 with main := { P2.main with body := P2.main.body.filter isLaw } }
noncomputable def loose2 : List Str := P2.boundNames.filter fun n => !(n == Str.ofString "law")
/-- the whole heap, as a fragment -/
noncomputable def freedB : Data → Bool
  | .freed => true
  | _ => false
noncomputable def fragFrom : List Obj → Nat → Frag
  | [], _ => []
  | o :: r, n => match freedB o.data with
    | true => fragFrom r (n + 1)
    | false => (n, o) :: fragFrom r (n + 1)
noncomputable def fragOf (h : Heap) : Frag := fragFrom h.objs.toList 0
theorem frag_get : ∀ {l : List Obj} {n a : Nat} {o : Obj}, (fragFrom l n).lookup a = some o → n ≤ a ∧ l[a - n]? = some o ∧ freedB o.data = false
  | [], _, _, _, h => by cases h
  | x :: r, n, a, o, h => by
    have up : (fragFrom r (n + 1)).lookup a = some o → n ≤ a ∧ (x :: r)[a - n]? = some o ∧ freedB o.data = false := fun h => by
      obtain ⟨h1, h2, h3⟩ := frag_get h
      refine ⟨by (first | lia | omega), ?_, h3⟩
      rw [show a - n = (a - (n + 1)) + 1 by (first | lia | omega)]
      exact h2
    unfold fragFrom at h
    split at h
    · exact up h
    · rename_i hf
      rw [List.lookup_cons] at h
      split at h
      · rename_i e
        rw [beq_iff_eq] at e
        cases h; subst e
        exact ⟨Nat.le_refl _, by simp, hf⟩
      · exact up h
theorem frag_in (h : Heap) : (fragOf h).In h := fun a o e => by
  obtain ⟨_, h2, h3⟩ := frag_get e
  rw [Nat.sub_zero, Array.getElem?_toList] at h2
  unfold Heap.get?
  rw [h2]
  obtain ⟨c, d, dt, sl⟩ := o
  cases dt with
  | freed => cases h3
  | _ => rfl
/-! the looks at the text, each a theorem of its own -/
theorem wsd_a : namesResolve PySem.Challenge.rw_sx_r123_2.row.prog = true := by kernel_rfl
theorem wsd_b : noRoadLSs { strict := !(importedModules PySem.Challenge.rw_sx_r123_2.row.prog.main.body).all cThrough.contains, foot := none, bare := (["vars", "dir", "locals"] : List Str).filter (readsOut PySem.Challenge.rw_sx_r123_2.row.prog PySem.Challenge.rw_sx_r123_2.row.prog.main.body) } PySem.Challenge.rw_sx_r123_2.row.prog.main.body = true := by kernel_rfl
theorem wsd_c : namesMeet PySem.Challenge.rw_sx_r123_2.row.prog PySem.Challenge.rw_sx_r123_2.row.prog.main.body (fun _ n => attrL n) = true := by kernel_rfl
theorem wsd_d : looksOpen PySem.Challenge.rw_sx_r123_2.row.prog = true := by
  delta looksOpen
  with_reducible refine look_both ?_ wsd_c
  with_reducible refine look_both ?_ wsd_b
  with_reducible refine look_both ?_ (by kernel_rfl)
  with_reducible refine look_both ?_ wsd_a
  kernel_rfl
theorem wsd_e : PySem.Challenge.rw_sx_r123_2.row.wellSaid = true := by
  delta OpenRow.wellSaid OpenRow.partSaid
  iterate 15 with_reducible refine look_both ?_ (by kernel_rfl)
  exact wsd_d
theorem said2 : PySem.Challenge.rw_sx_r123_2.wellSaid = true := by
  delta OpenLaw.wellSaid
  iterate 18 with_reducible refine look_both ?_ (by kernel_rfl)
  exact wsd_e
theorem left2 : LeftO P2 view2 loose2 (fun _ => true) (fun s => allB (fragOf s.heap)) (fun _ => true) 3300 := fun w => by kernel_rfl
end Mine
open PySem PySem.W PyProof.Rows Mine
set_option maxRecDepth 100000
set_option maxHeartbeats 8000000
theorem PySem.Challenge.cw_sx_r123_2_holds : PySem.Challenge.rw_sx_r123_2.Holds := by
  refine holds_law said2 fun said => ?_
  refine holds_open (q := view2) (loose := loose2) (Xt := fun _ => true) (XP := fun _ _ => True) (Yf := fun s => allB (fragOf s.heap)) (Ya := fun _ => true) (YP := fun _ h => ∃ K : Frag, K.In h ∧ allB K = true) (N := 3300) left2 (fun w s e => ⟨_, frag_in s.heap, e⟩) (fun w h h' x k => let ⟨K, h1, h2⟩ := x; ⟨K, h1.keeps k, h2⟩)
    (fun _ _ => trivial) (fun _ _ _ _ _ => trivial) (by rfl) (by rfl) (by rfl) (fun s _ => recFacts_of (R := []) (by rfl)) (by rfl) said (by decide +kernel) ⟨rfl, rfl, rfl, rfl, rfl, by decide +kernel⟩ ?hw ?hc
  case hw => w_witness2
  intro w s₀ s₁ mg mb G Y fa o pm cd doc dV kV ho hd hcd hD hmg hg args vals as hpre hlay hrd hwl hlo
  obtain ⟨K, KX, hK⟩ := Y
  refine Ground.open G ?_
  intro T B D TE TW
  clear hd hcd hD
  wrow_args hpre hlay hrd hwl hlo
  refine enter_call ?_
  clear G
  rename_i S hs hlay0 hL1 hr1 hl2 w4 w3 a vs w0 hL ra w1 r0 hI hr hc hc2
  have hlen : S.length ≤ 1000 := by
    have h63 : ¬ ((63 : Nat) : Int) < (S.length : Int) := hc
    omega
  refine codeAny_mono (law_call KX T.g T.b T.nolimit T.builtins hK hmg hL (dens_ints hI) hlen) fun r s' hr => ?_
  obtain ⟨rfl, h', tk, rfl, hk⟩ := hr
  exact GoodW.toG ⟨.inl ⟨.bool true, .bool true, [], rfl, fun _ => rfl, .bool true, (by wrow_post), fun _ => ⟨List.nodup_nil, nofun⟩⟩, hk, rfl, hg⟩
