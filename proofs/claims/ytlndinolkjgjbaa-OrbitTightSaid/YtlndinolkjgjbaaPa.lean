/-
  Proved here: an evaluator of code on plain values, and what a plain value says of a value of the machine.
  Conditions: those that the theorems name.
-/
import GoSem.Step
import Derived.KernelRfl
import Derived.OrdersIn
import Derived.RangeFuncIn
import Derived.RangeFuncCalls
import Derived.Below
set_option linter.all false
namespace Go.Px

/-! Plain values, types, states -/

inductive Own where
  | no | nil | full | tok (t v : Nat)

/-- the product of some types -/
def Tup (T : Nat → Type) : List Nat → Type
  | [] => Unit
  | [a] => T a
  | a :: b :: r => T a × Tup T (b :: r)

inductive PV (T : Nat → Type) : Type where
  | undef
  | skip
  | int (k : IntKind) (n : Int)
  | bool (b : Bool)
  | sl (E : Nat) (l : List (T E)) (o : Own)
  | bsl (E : Nat) (t v : Nat) (n : Nat)
  | nilp | nilf | nili
  | agg (cs : List (PV T))
  | tup (vs : List (PV T))
  | loc (t v : Nat) (off : Nat)
  | rp (cs : List (PV T))
  | new (cs : List (PV T))
  | clo (f : Nat) (caps : List (PV T))
  | prd (A R : List Nat) (p : Tup T A → Option (Tup T R))
  | seq (A : List Nat) (xs : List (Tup T A))
  | yld
  | ifc (t : Nat) (v : PV T)

structure TI (T : Nat → Type) where
  agg : Bool
  size : Nat
  bytes : Nat
  zero : List (PV T)
  flds : List (Nat × Nat)
  arr : Option (Nat × Nat × Nat)
  slE : Option (Nat × Nat × Nat)
  kind : Option IntKind

structure Tab (T : Nat → Type) where
  info : Nat → Option (TI T)
  enc : (E : Nat) → T E → List (PV T)
  dec : (E : Nat) → List (PV T) → Option (T E)
  meth : List ((Nat × String) × Nat)
  bsl : List Nat := []
  eqs : List (Nat × List Bool) := []

variable {T : Nat → Type} {ρ : Type}

/-- a box: which of its name; whether it is written no more; what it holds -/
structure Bx (T : Nat → Type) where
  ver : Nat
  fz : Bool
  cs : List (PV T)

/-- what has been handed out; at which answer the other one says no; whether it has -/
inductive LG (T : Nat → Type) where
  | no
  | log (A : List Nat) (m : Int) (xs : List (Tup T A)) (dead : Bool)

/-- a frame's state: temporaries, fixed ones, boxes, boxes that are not written here, ends of own rows, and what all other names are at -/
structure St (T : Nat → Type) where
  tm : List (Nat × PV T)
  fx : List (Nat × PV T)
  bx : List (Nat × Bx T)
  hd : List (Nat × Bx T)
  tk : List (Nat × Nat)
  base : Nat
  lg : LG T

def look {α : Type} (t : Nat) : List (Nat × α) → Option α
  | [] => none
  | (a, v) :: r => match Nat.beq a t with
    | true => some v
    | false => look t r

def St.get (s : St T) (t : Nat) : PV T :=
  match look t s.tm with
  | some v => v
  | none => match look t s.fx with
    | some v => v
    | none => .undef

def St.put (s : St T) (t : Nat) (v : PV T) : St T := ⟨(t, v) :: s.tm, s.fx, s.bx, s.hd, s.tk, s.base, s.lg⟩
def St.putD (s : St T) (t : Option Nat) (v : PV T) : St T := match t with | some t => s.put t v | none => s
def St.ent (s : St T) (t : Nat) : Option (Bx T) := match look t s.hd with
  | some e => some e
  | none => look t s.bx
/-- which box of its name is the last -/
def St.bv (s : St T) (t : Nat) : Nat := match s.ent t with
  | some e => e.ver
  | none => s.base
def St.tv (s : St T) (t : Nat) : Nat := match look t s.tk with
  | some v => v
  | none => s.base
/-- a box that may be written: none that is out of sight -/
def St.box (s : St T) (t v : Nat) : Option (List (PV T)) := match look t s.hd with
  | some _ => none
  | none => match look t s.bx with
    | some e => match e.fz with
      | true => none
      | false => match Nat.beq e.ver v with
        | true => some e.cs
        | false => none
    | none => none
/-- a box that may be read: those out of sight too -/
def St.rbox (s : St T) (t v : Nat) : Option (List (PV T)) := match s.ent t with
  | some e => match Nat.beq e.ver v with
    | true => some e.cs
    | false => none
  | none => none
def St.setBx (s : St T) (t : Nat) (e : Bx T) : St T := ⟨s.tm, s.fx, (t, e) :: s.bx, s.hd, s.tk, s.base, s.lg⟩
def St.setCs (s : St T) (t : Nat) (cs : List (PV T)) : St T := match look t s.bx with
  | some e => s.setBx t ⟨e.ver, e.fz, cs⟩
  | none => s

def one1 (i : TI T) (cs : List (PV T)) : PV T :=
  match i.agg with
  | true => .agg (cs.take i.size)
  | false => match cs with | c :: _ => c | [] => .undef

def Tab.val (D : Tab T) (E : Nat) (x : T E) : PV T :=
  match D.info E with
  | some i => match i.agg with
    | true => .agg (D.enc E x)
    | false => match D.enc E x with | c :: _ => c | [] => .undef
  | none => .undef

def Tab.unval (D : Tab T) (E : Nat) (v : PV T) : Option (T E) :=
  match D.info E with
  | some i => match i.agg, v with
    | true, .agg cs => D.dec E cs
    | false, v => D.dec E [v]
    | _, _ => none
  | none => none

def tupVals (D : Tab T) : (A : List Nat) → Tup T A → List (PV T)
  | [], _ => []
  | [a], x => [D.val a x]
  | a :: b :: r, x => D.val a x.1 :: tupVals D (b :: r) x.2

def unvals (D : Tab T) : (A : List Nat) → List (PV T) → Option (Tup T A)
  | [], [] => some ()
  | [a], [v] => D.unval a v
  | a :: b :: r, v :: vs => (D.unval a v).bind fun x => (unvals D (b :: r) vs).bind fun y => some (x, y)
  | _, _ => none

/-- some results as one value -/
def tupVal (D : Tab T) (A : List Nat) (x : Tup T A) : PV T := match tupVals D A x with
  | [v] => v
  | vs => .tup vs

def tupUnval (D : Tab T) : (A : List Nat) → PV T → Option (Tup T A)
  | [a], v => D.unval a v
  | A, .tup vs => unvals D A vs
  | _, _ => none

def constPV (D : Tab T) (ty : Nat) : Value → PV T
  | .int k n => .int k n
  | .bool b => .bool b
  | .slice none 0 0 => match D.info ty with
    | some i => match i.slE with | some (E, _, _) => .sl E [] .nil | none => .undef
    | none => .undef
  | .pointer none => .nilp
  | .nilFunc => .nilf
  | .nilIface => .nili
  | _ => .undef

def St.ev (D : Tab T) (s : St T) (ty : Nat) : Operand → PV T
  | .tmp t => s.get t
  | .const v => constPV D ty v
  | .func f => .clo f []
  | .global _ => .undef

def PV.cells : PV T → List (PV T)
  | .agg cs => cs
  | v => [v]

/-- what one cell of memory can hold, and is known of -/
def PV.cellOk : PV T → Bool
  | .undef => false
  | .skip => false
  | .agg _ => false
  | .tup _ => false
  | .new _ => false
  | _ => true

/-- a value whose cells are known one by one -/
def PV.known : PV T → Bool
  | .agg _ => true
  | v => v.cellOk

/-! What a value mentions -/

mutual
def PV.res : PV T → List Nat
  | .loc t _ _ => [2 * t]
  | .bsl _ t _ _ => [2 * t]
  | .sl _ _ (.tok t _) => [2 * t + 1]
  | .agg cs => resL cs
  | .tup cs => resL cs
  | .rp cs => resL cs
  | .new cs => resL cs
  | .clo _ cs => resL cs
  | .ifc _ v => v.res
  | _ => []
def resL : List (PV T) → List Nat
  | [] => []
  | c :: r => c.res ++ resL r
end

mutual
/-- no name of a frame's is in it -/
def PV.clean : PV T → Bool
  | .loc _ _ _ => false
  | .bsl _ _ _ _ => false
  | .sl _ _ (.tok _ _) => false
  | .new _ => false
  | .yld => false
  | .agg cs => cleanL cs
  | .tup cs => cleanL cs
  | .rp cs => cleanL cs
  | .clo _ cs => cleanL cs
  | .ifc _ v => v.clean
  | _ => true
def cleanL : List (PV T) → Bool
  | [] => true
  | c :: r => match c.clean with | true => cleanL r | false => false
end

mutual
/-- nothing in it lies in boxes that are lent -/
def PV.norp : PV T → Bool
  | .rp _ => false
  | .prd _ _ _ => false
  | .agg cs => norpL cs
  | .tup cs => norpL cs
  | .clo _ cs => norpL cs
  | .ifc _ v => v.norp
  | _ => true
def norpL : List (PV T) → Bool
  | [] => true
  | c :: r => match c.norp with | true => norpL r | false => false
end

/-- what is handed over -/
def cl (v : PV T) : PV T := match v.clean with | true => v | false => .undef

inductive Upd (T : Nat → Type) where
  | box (t : Nat) (cs : List (PV T))
  | fresh (t : Nat) (cs : List (PV T))
  | strip (t : Nat)
  | freeze (t : Nat)
  | log (l : LG T)

def decAll (D : Tab T) (E z : Nat) : Nat → List (PV T) → Option (List (T E))
  | 0, _ => some []
  | m + 1, cs => (D.dec E (cs.take z)).bind fun x => (decAll D E z m (cs.drop z)).bind fun r => some (x :: r)

/-- no tokens -/
def untok : PV T → PV T
  | .sl E l (.tok _ _) => .sl E l .no
  | v => v

/-- cells that point to no box -/
def noLoc (cs : List (PV T)) : Bool := (resL cs).all (fun r => Nat.beq (r % 2) 1)

def St.upd (s : St T) : Upd T → St T
  | .box t cs => s.setCs t cs
  | .fresh t cs => s.setBx t ⟨s.bv t + 1, false, cs⟩
  | .strip t => ⟨s.tm, s.fx, s.bx, s.hd, (t, s.tv t + 1) :: s.tk, s.base, s.lg⟩
  | .freeze t => match look t s.bx with
    | some e => s.setBx t ⟨e.ver, true, e.cs.map untok⟩
    | none => s
  | .log l => ⟨s.tm, s.fx, s.bx, s.hd, s.tk, s.base, l⟩

def St.upds (s : St T) : List (Upd T) → St T
  | [] => s
  | u :: r => St.upds (s.upd u) r

/-- a box of this name can be made -/
def St.free (s : St T) (t : Nat) : Bool := match look t s.hd with | some _ => false | none => true


/-! Reading -/

def idx {α : Type} (l : List α) (i : Int) : Option α := if 0 ≤ i then l[i.toNat]? else none

def pickIdx (i : Int) (k : Nat → Option ρ) : Nat → Nat → Option ρ
  | 0, _ => none
  | n + 1, j => cond (decide (i = (j : Int))) (k j) (pickIdx i k n (j + 1))

def patch (cs : List (PV T)) : Nat → List (PV T) → List (PV T)
  | 0, vs => vs ++ cs.drop vs.length
  | n + 1, vs => match cs with
    | [] => []
    | c :: r => c :: patch r n vs

def St.conv (s : St T) : PV T → PV T
  | .loc t v off => match s.rbox t v with
    | some cs => match noLoc cs with
      | true => .rp ((cs.map untok).drop off)
      | false => .undef
    | none => .undef
  | .sl E l (.tok _ _) => .sl E l .no
  | v => v

def slOf (D : Tab T) (E n : Nat) (cs : List (PV T)) : PV T := match D.info E with
  | some i => match Nat.beq cs.length (n * i.size) && noLoc cs, decAll D E i.size n cs with
    | true, some l => .sl E l .no
    | _, _ => .undef
  | none => .undef

def OUT : Nat := 1000000
def LOG : Nat := 1000001

/-- a result's cell: a slice of an own array is one of what it holds; 'one': it is the only result -/
def viewB (D : Tab T) (s : St T) (one : Bool) : PV T → PV T
  | .bsl E u v n => match s.rbox u v with
    | some cs => match one && !(Nat.beq u OUT) with
      | true => slOf D E n cs
      | false => .undef
    | none => .undef
  | .sl E l (.tok _ _) => .sl E l .no
  | v => v

/-- an argument's cell: boxes that are written no more -/
def St.thawC (D : Tab T) (s : St T) : PV T → PV T
  | .bsl E u v n => match s.ent u with
    | some e => match e.fz && Nat.beq e.ver v with
      | true => slOf D E n e.cs
      | false => .bsl E u v n
    | none => .bsl E u v n
  | .loc u v off => match s.ent u with
    | some e => match e.fz && Nat.beq e.ver v && noLoc e.cs with
      | true => .rp ((e.cs.map untok).drop off)
      | false => .loc u v off
    | none => .loc u v off
  | v => v

def St.thaw (D : Tab T) (s : St T) : PV T → PV T
  | .agg vs => .agg (vs.map (s.thawC D))
  | v => s.thawC D v

/-- an argument as the callee sees it: pointers to own boxes inside closures are to what they hold now -/
def St.view (s : St T) : PV T → PV T
  | .clo f caps => .clo f (caps.map s.conv)
  | .agg vs => .agg (vs.map untok)
  | .sl E l (.tok _ _) => .sl E l .no
  | v => v

/-- a result as the caller sees it: what closures look into is written no more -/
def St.convR (s : St T) : PV T → PV T
  | .loc t v off => match s.rbox t v with
    | some cs => match noLoc cs && norpL cs && !(Nat.beq t OUT) with
      | true => .rp ((cs.map untok).drop off)
      | false => .undef
    | none => .undef
  | v => match v.norp with
    | true => s.conv v
    | false => .undef

def St.viewR (s : St T) (one : Bool) : PV T → PV T
  | .clo f caps => match one with
    | true => cl (.clo f (caps.map s.convR))
    | false => .undef
  | v => match v.norp with
    | true => cl (s.view v)
    | false => .undef

abbrev Specs (T : Nat → Type) := {ρ : Type} → Nat → List (PV T) → List (PV T) → (PV T → List (PV T) → Option ρ) → Option ρ

def firstLoc : List (PV T) → Option (Nat × Nat)
  | [] => none
  | .loc t v _ :: _ => some (t, v)
  | _ :: r => firstLoc r

def outward (t w : Nat) : PV T → PV T
  | .loc u v off => match Nat.beq u t && Nat.beq v w with | true => .loc OUT 0 off | false => .undef
  | v => cl v

/-- a call's result as the caller takes it -/
def adoptRest : List (PV T) → List (PV T)
  | [] => []
  | .new _ :: r => .undef :: adoptRest r
  | .sl E l (.tok _ _) :: r => .sl E l .no :: adoptRest r
  | v :: r => v :: adoptRest r

def adoptL (s : St T) (d : Nat) : List (PV T) → List (PV T) × List (Upd T)
  | [] => ([], [])
  | .new cs :: r => (.loc d (s.bv d + 1) 0 :: adoptRest r, [.fresh d cs])
  | .sl E l (.tok _ _) :: r => (.sl E l (.tok d (s.tv d + 1)) :: adoptRest r, [.strip d])
  | v :: r => (v :: (adoptL s d r).1, (adoptL s d r).2)

def adopt (s : St T) (d : Nat) : PV T → PV T × List (Upd T)
  | .new cs => (.loc d (s.bv d + 1) 0, [.fresh d cs])
  | .sl E l (.tok _ _) => (.sl E l (.tok d (s.tv d + 1)), [.strip d])
  | .tup vs => (.tup (adoptL s d vs).1, (adoptL s d vs).2)
  | v => (v, [])

/-- what updates write -/
def updFoot : List (Upd T) → List Nat
  | [] => []
  | .box t _ :: r => 2 * t :: updFoot r
  | .fresh t _ :: r => 2 * t :: updFoot r
  | .strip t :: r => (2 * t + 1) :: updFoot r
  | .freeze t :: r => 2 * t :: updFoot r
  | .log _ :: r => 2 * LOG :: updFoot r

def evBin (op : BinOp) (x y : PV T) (k : PV T → Option ρ) : Option ρ :=
  match op, x, y with
  | .shl, .int K a, .int _ b => cond (decide (b < 0)) none (k (.int K (K.wrap (a * 2 ^ (min b.toNat K.bits)))))
  | .shr, .int K a, .int _ b => cond (decide (b < 0)) none (k (.int K (a.fdiv (2 ^ (min b.toNat K.bits)))))
  | .add, .int K a, .int K' b => match decide (K = K') with | true => k (.int K (K.wrap (a + b))) | false => none
  | .sub, .int K a, .int K' b => match decide (K = K') with | true => k (.int K (K.wrap (a - b))) | false => none
  | .mul, .int K a, .int K' b => match decide (K = K') with | true => k (.int K (K.wrap (a * b))) | false => none
  | .quo, .int K a, .int K' b => match decide (K = K') with | true => cond (decide (b = 0)) none (k (.int K (K.wrap (a.tdiv b)))) | false => none
  | .rem, .int K a, .int K' b => match decide (K = K') with | true => cond (decide (b = 0)) none (k (.int K (a.tmod b))) | false => none
  | .and, .int K a, .int K' b => match decide (K = K') with | true => k (.int K (K.wrap ((BitVec.ofInt K.bits a &&& BitVec.ofInt K.bits b).toNat))) | false => none
  | .or, .int K a, .int K' b => match decide (K = K') with | true => k (.int K (K.wrap ((BitVec.ofInt K.bits a ||| BitVec.ofInt K.bits b).toNat))) | false => none
  | .eql, .int K a, .int K' b => match decide (K = K') with | true => k (.bool (decide (a = b))) | false => none
  | .neq, .int K a, .int K' b => match decide (K = K') with | true => k (.bool (!(decide (a = b)))) | false => none
  | .lss, .int K a, .int K' b => match decide (K = K') with | true => k (.bool (decide (a < b))) | false => none
  | .leq, .int K a, .int K' b => match decide (K = K') with | true => k (.bool (decide (a ≤ b))) | false => none
  | .gtr, .int K a, .int K' b => match decide (K = K') with | true => k (.bool (decide (b < a))) | false => none
  | .geq, .int K a, .int K' b => match decide (K = K') with | true => k (.bool (decide (b ≤ a))) | false => none
  | _, _, _ => none

/-- '==' of structs: cell by cell -/
def eqCells : List (PV T) → List (PV T) → Option Bool
  | [], [] => some true
  | .int K a :: r, .int K' b :: q => match decide (K = K') with
    | true => match eqCells r q with | some t => some (decide (a = b) && t) | none => none
    | false => none
  | .bool a :: r, .bool b :: q => match eqCells r q with | some t => some ((a == b) && t) | none => none
  | _, _ => none

/-- numbers (true) and truth values (false), as a type has them -/
def kindsOk : List Bool → List (PV T) → Bool
  | [], [] => true
  | true :: r, .int _ _ :: q => kindsOk r q
  | false :: r, .bool _ :: q => kindsOk r q
  | _, _ => false

def maxGo (K : IntKind) (x : Int) : List (PV T) → Option (PV T)
  | [] => some (.int K x)
  | .int _ y :: r => maxGo K (max x y) r
  | _ => none
def minGo (K : IntKind) (x : Int) : List (PV T) → Option (PV T)
  | [] => some (.int K x)
  | .int _ y :: r => minGo K (min x y) r
  | _ => none

def buildCells (D : Tab T) (s : St T) (place : Nat → Option (Nat × Nat)) (cs : List (PV T)) : List (Nat × Operand) → Option (List (PV T))
  | [] => some cs
  | (i, x) :: r => match place i with
    | none => none
    | some (off, n) => match s.ev D 0 x with
      | v => match Nat.beq v.cells.length n && Nat.ble (off + n) cs.length && v.known with
        | true => buildCells D s place (patch cs off v.cells) r
        | false => none

def reps (z : List (PV T)) : Nat → List (PV T) | 0 => [] | n + 1 => z ++ reps z n

def ROOM : Nat := 140737488355328

/-! One operation -/

/-- the boxes that closures among arguments look into -/
def viewReads : List (PV T) → List Nat
  | [] => []
  | .clo _ caps :: r => capReads caps ++ viewReads r
  | _ :: r => viewReads r
  where capReads : List (PV T) → List Nat
  | [] => []
  | .loc t _ _ :: r => 2 * t :: capReads r
  | _ :: r => capReads r

/-- the boxes that arguments point to -/
def argReads : List (PV T) → List Nat
  | [] => []
  | .agg vs :: r => cellReads vs ++ argReads r
  | .bsl _ t _ _ :: r => 2 * t :: argReads r
  | .loc t _ _ :: r => 2 * t :: argReads r
  | _ :: r => argReads r
  where cellReads : List (PV T) → List Nat
  | [] => []
  | .bsl _ t _ _ :: r => 2 * t :: cellReads r
  | .loc t _ _ :: r => 2 * t :: cellReads r
  | _ :: r => cellReads r

/-- a slice of an own array among arguments -/
def bslIn : List (PV T) → Option (Nat × Nat)
  | [] => none
  | .agg vs :: r => match inCells vs with | some t => some t | none => bslIn r
  | .bsl _ t v _ :: _ => some (t, v)
  | _ :: r => bslIn r
  where inCells : List (PV T) → Option (Nat × Nat)
  | [] => none
  | .bsl _ t v _ :: _ => some (t, v)
  | _ :: r => inCells r

/-- none of the second's is in the first -/
def offL (a b : List Nat) : Bool := b.all (fun x => !(a.any (Nat.beq x)))

/-- a call of a known function; no slice of an own array is among the arguments -/
def callK (S : Specs T) (s : St T) (d : Option Nat) (f : Nat) (args : List (PV T)) (k : PV T → List (Upd T) → Option ρ) : Option ρ :=
  match firstLoc args with
  | none => S f (args.map fun a => cl (s.view a)) [] fun v _ => match d with
    | some d => match (adopt s d v).2.all (fun | .fresh t _ => s.free t | _ => true) with
      | true => k (adopt s d v).1 (adopt s d v).2
      | false => none
    | none => k .undef []
  | some (t, w) => match s.box t w with
    | none => none
    | some cs => match cleanL cs && !cs.isEmpty && offL (viewReads args) [2 * t] with
      | true => S f (args.map fun a => outward t w (s.view a)) cs fun v cs' => match d with
        | some d => match (adopt s d v).2 with
          | [] => k (adopt s d v).1 [.box t cs']
          | [.strip d'] => k (adopt s d v).1 [.box t cs', .strip d']
          | _ => none
        | none => k .undef [.box t cs']
      | false => none

/-- a call; a slice of an own array is frozen ahead of it -/
def callF (D : Tab T) (S : Specs T) (s : St T) (d : Option Nat) (f : Nat) (args : List (PV T)) (k : PV T → List (Upd T) → List Nat → Option ρ) : Option ρ :=
  match bslIn (args.map (s.thaw D)) with
  | none => callK S s d f (args.map (s.thaw D)) fun v u => k v u (argReads args ++ viewReads args)
  | some (t, w) => match s.box t w with
    | none => none
    | some cs => match noLoc cs with
      | true => callK S (s.upd (.freeze t)) d f (args.map ((s.upd (.freeze t)).thaw D)) fun v u => k v (.freeze t :: u) (argReads args ++ viewReads args)
      | false => none

/-- is a slice nil? its data do not tell: what follows must not depend on it -/
noncomputable def nilK {α : Type} (l : List α) (a b : Option ρ) : Option ρ :=
  match l with
  | [] => open Classical in if a = b then b else none
  | _ :: _ => b

def methOf (t : Nat) (name : String) : List ((Nat × String) × Nat) → Option Nat
  | [] => none
  | ((u, n), f) :: r => match Nat.beq u t && decide (n = name) with | true => some f | false => methOf t name r

/-- is the first argument a slice, by its type? -/
def slT (D : Tab T) (ts : Array TypeId) : Bool := match ts[0]? with
  | some t => match D.info t with
    | some i => i.slE.isSome
    | none => false
  | none => false

def evOp (D : Tab T) (S : Specs T) (s : St T) (o : Oper) (k : PV T → List (Upd T) → List Nat → Option ρ) : Option ρ :=
  match o.op with
  | .move x => k (s.ev D o.type x) [] []
  | .assign x => k (s.ev D o.type x) [] []
  | .pick c a b => match s.ev D o.type c with
    | .bool t => match s.ev D o.type a, s.ev D o.type b with
      | .bool x, .bool y => k (.bool (cond t x y)) [] []
      | x, y => cond t (k x [] []) (k y [] [])
    | _ => none
  | .alloc E => match o.dst, D.info E with
    | some d, some i => match s.free d with
      | true => k (.loc d (s.bv d + 1) 0) [.fresh d i.zero] []
      | false => none
    | _, _ => none
  | .box E x => match o.dst, D.info E with
    | some d, some i => match s.ev D E x with
      | v => match s.free d && Nat.beq v.cells.length i.size && v.cells.all PV.cellOk with
        | true => k (.loc d (s.bv d + 1) 0) [.fresh d v.cells] []
        | false => none
    | _, _ => none
  | .build t parts => match D.info t with
    | some i => match i.arr with
      | some (_, _, z) => match buildCells D s (fun i => some (i * z, z)) i.zero parts.toList with
        | some cs => k (.agg cs) [] []
        | none => none
      | none => match i.agg with
        | true => match buildCells D s (fun f => i.flds[f]?) i.zero parts.toList with
          | some cs => k (.agg cs) [] []
          | none => none
        | false => none
    | none => none
  | .buildSlice t n parts => match D.info t with
    | some i => match i.slE with
      | some (E, z, _) => match D.info E with
        | some e => match Nat.ble (n * z) 16777216 with
          | true => match buildCells D s (fun i => some (i * z, z)) (reps e.zero n) parts.toList with
            | some cs => match o.dst with
              | none => none
              | some d => match D.bsl.any (Nat.beq d) && s.free d with
                | true => k (.bsl E d (s.bv d + 1) n) [.fresh d cs] []
                | false => (decAll D E z n cs).bind fun l => k (.sl E l .full) [] []
            | none => none
          | false => none
        | none => none
      | none => none
    | none => none
  | .load t a => match D.info t with
    | some i => match s.ev D 0 a with
      | .loc u v off => match s.rbox u v with
        | some cs => match Nat.ble (off + i.size) cs.length with
          | true => k (one1 i (cs.drop off)) [] [2 * u]
          | false => none
        | none => none
      | .rp cs => match Nat.ble i.size cs.length with
        | true => k (one1 i cs) [] []
        | false => none
      | _ => none
    | none => none
  | .store t a x => match D.info t with
    | some i => match s.ev D 0 a with
      | .loc u w off => match s.box u w with
        | some cs => match s.ev D t x with
          | v => match Nat.beq v.cells.length i.size && Nat.ble (off + i.size) cs.length && v.cells.all PV.cellOk with
            | true => k .undef [.box u (patch cs off v.cells)] []
            | false => none
        | none => none
      | _ => none
    | none => none
  | .nilCheck x => match s.ev D 0 x with
    | .loc t v off => k (.loc t v off) [] []
    | .rp cs => k (.rp cs) [] []
    | .clo f caps => k (.clo f caps) [] []
    | _ => none
  | .binOp op xt x y yt => match op, s.ev D xt x, s.ev D yt y with
    | .eql, .agg a, .agg b => match look xt D.eqs, eqCells a b, D.info xt with
      | some ks, some t, some i => match kindsOk ks a && i.agg with | true => k (.bool t) [] [] | false => none
      | _, _, _ => none
    | .neq, .agg a, .agg b => match look xt D.eqs, eqCells a b, D.info xt with
      | some ks, some t, some i => match kindsOk ks a && i.agg with | true => k (.bool (!t)) [] [] | false => none
      | _, _, _ => none
    | .eql, .bool a, .bool b => match look xt D.eqs, D.info xt with
      | some [false], some i => match i.agg with | false => k (.bool (a == b)) [] [] | true => none
      | _, _ => none
    | .neq, .bool a, .bool b => match look xt D.eqs, D.info xt with
      | some [false], some i => match i.agg with | false => k (.bool (!(a == b))) [] [] | true => none
      | _, _ => none
    | op, a, b => evBin op a b fun v => k v [] []
  | .unOp op xt x => match op, s.ev D xt x with
    | .not, .bool b => k (.bool (!b)) [] []
    | .neg, .int K n => k (.int K (K.wrap (0 - n))) [] []
    | _, _ => none
  | .convert src dst x => match D.info src, D.info dst, s.ev D 0 x with
    | some i, some j, .int _ n => match i.kind, j.kind with
      | some _, some K => k (.int K (K.wrap n)) [] []
      | _, _ => none
    | _, _, _ => none
  | .makeFunc fn first captured => match fn, first.toList with
    | .func f, [] => k (.clo f (captured.toList.map (s.ev D 0))) [] []
    | _, _ => none
  | .fieldAddr t x f => match D.info t with
    | some i => match i.flds[f]? with
      | some (off, _) => match s.ev D 0 x with
        | .loc u v o => k (.loc u v (o + off)) [] []
        | .rp cs => k (.rp (cs.drop off)) [] []
        | _ => none
      | none => none
    | none => none
  | .indexAddr t x i => match D.info t with
    | some ti => match ti.arr with
      | some (n, _, z) => match s.ev D 0 x, s.ev D 0 i with
        | .loc u v off, .int _ i => pickIdx i (fun j => k (.loc u v (off + j * z)) [] []) n 0
        | .rp cs, .int _ i => pickIdx i (fun j => k (.rp (cs.drop (j * z))) [] []) n 0
        | _, _ => none
      | none => match ti.slE, s.ev D 0 x, s.ev D 0 i with
        | some (E', _, _), .sl E l _, .int _ i => match Nat.beq E' E with
          | true => (idx l i).bind fun x => k (.rp (D.enc E x)) [] []
          | false => none
        | some (E', z, _), .bsl E u v n, .int _ i => match Nat.beq E' E with
          | true => pickIdx i (fun j => k (.loc u v (j * z)) [] []) n 0
          | false => none
        | _, _, _ => none
    | none => none
  | .index t x i => match D.info t with
    | some ti => match ti.arr with
      | some (n, e, z) => match D.info e, s.ev D 0 x, s.ev D 0 i with
        | some ei, .agg cs, .int _ i => match Nat.beq (n * z) cs.length with
          | true => pickIdx i (fun j => k (one1 ei (cs.drop (j * z))) [] []) n 0
          | false => none
        | _, _, _ => none
      | none => none
    | none => none
  | .slice t x lo hi mx => match D.info t, s.ev D 0 x with
    | some ti, .sl E l _ => match ti.slE with
      | some (E', _, _) => match Nat.beq E' E with
        | true =>
          let n : Int := l.length
          let lo' : PV T := match lo with | some x => s.ev D 0 x | none => .int .i64 0
          let hi' : PV T := match hi with | some x => s.ev D 0 x | none => .int .i64 n
          match lo', hi', mx with
          | .int _ a, .int _ b, none => cond (decide (0 ≤ a) && decide (a ≤ b) && decide (b ≤ n)) (k (.sl E ((l.take b.toNat).drop a.toNat) .no) [] []) none
          | .int _ a, .int _ b, some m => match s.ev D 0 m with
            | .int _ c => match hi with
              | some _ => cond (decide (0 ≤ a) && decide (a ≤ b) && decide (b ≤ n) && decide (b = c)) (k (.sl E ((l.take b.toNat).drop a.toNat) .full) [] []) none
              | none => none
            | _ => none
          | _, _, _ => none
        | false => none
      | none => none
    | some ti, .loc u v 0 => match ti.arr, s.box u v, mx with
      | some (n, E, z), some cs, none => match (match lo with | some x => s.ev D 0 x | none => .int .i64 0), (match hi with | some x => s.ev D 0 x | none => .int .i64 n) with
        | .int _ a, .int _ b => match decide (0 ≤ a) && decide (a ≤ b) && decide (b ≤ n) && Nat.beq cs.length (n * z) && noLoc cs with
          | true => (decAll D E z (b - a).toNat (cs.drop (a.toNat * z))).bind fun l => k (.sl E l .no) [.freeze u] []
          | false => none
        | _, _ => none
      | _, _, _ => none
    | _, _ => none
  | .makeInterface t x => match D.info t with
    | some i => match i.agg || i.slE.isSome with
      | true => k (.ifc t (s.ev D t x)) [] []
      | false => none
    | none => none
  | .typeAssert x _ t ok => match D.info t, s.ev D 0 x, ok with
    | some i, .ifc u v, true => match i.agg with
      | true => match Nat.beq u t with
        | true => k (.tup [v, .bool true]) [] []
        | false => k (.tup [.agg i.zero, .bool false]) [] []
      | false => none
    | _, _, _ => none
  | .extract x i => match s.ev D 0 x with
    | .tup vs => match vs[i]? with
      | some v => k v [] []
      | none => none
    | _ => none
  | .call c => match c.callee with
    | .builtin b => match b, c.args.toList.map (s.ev D ((c.argTypes[0]?).getD 0)), o.dst with
      | .len, [.sl _ l _], _ => match slT D c.argTypes with
        | true => k (.int .i64 l.length) [] []
        | false => none
      | .len, [.bsl _ _ _ n], _ => match slT D c.argTypes with
        | true => k (.int .i64 n) [] []
        | false => none
      | .max, .int K x :: r, _ => match maxGo K x r with
        | some v => k v [] []
        | none => none
      | .min, .int K x :: r, _ => match minGo K x r with
        | some v => k v [] []
        | none => none
      | .append, [.sl E l ow, .sl E' m _], some d => match c.argTypes.toList.map D.info with
        | [some ti, some tj] => match ti.slE, tj.slE, decEq E' E with
          | some (E'', _, by'), some _, .isTrue h => match Nat.beq E'' E with
            | true => match ow with
              | .no => none
              | .tok t v => match Nat.beq v (s.tv t) with
                | true => cond (decide ((l.length + m.length) * by' ≤ ROOM)) (k (.sl E (l ++ h ▸ m) (.tok d ((s.upd (.strip t)).tv d + 1))) [.strip t, .strip d] []) none
                | false => none
              | _ => cond (decide ((l.length + m.length) * by' ≤ ROOM)) (k (.sl E (l ++ h ▸ m) (.tok d (s.tv d + 1))) [.strip d] []) none
            | false => none
          | _, _, _ => none
        | _ => none
      | _, _, _ => none
    | .value f => match s.ev D 0 f with
      | .clo f caps => callF D S s o.dst f (c.args.toList.map (s.ev D o.type) ++ caps) k
      | .yld => match s.lg with
        | .log A m xs false => (unvals D A (c.args.toList.map (s.ev D o.type))).bind fun x =>
          cond (decide ((xs.length : Int) = m)) (k (.bool false) [.log (.log A m (xs ++ [x]) true)] [])
            (k (.bool true) [.log (.log A m (xs ++ [x]) false)] [])
        | _ => none
      | .prd A R p => (unvals D A (c.args.toList.map (s.ev D o.type))).bind fun x => (p x).bind fun y => k (tupVal D R y) [] []
      | _ => none
    | .invoke r name => match s.ev D 0 r with
      | .ifc t v => match methOf t name D.meth with
        | some f => callF D S s o.dst f (v :: c.args.toList.map (s.ev D o.type)) k
        | none => none
      | _ => none
  | _ => none

/-- the same where the order is the text's -/
noncomputable def evOpN (D : Tab T) (S : Specs T) (s : St T) (o : Oper) (k : PV T → List (Upd T) → List Nat → Option ρ) : Option ρ :=
  match o.op with
  | .binOp op xt x y yt => match op, s.ev D xt x, s.ev D yt y with
    | .eql, .sl E l .no, .sl _ _ .nil => match D.info xt with
      | some ti => match ti.slE with
        | some (E', _, _) => match Nat.beq E' E with
          | true => nilK l (k (.bool true) [] []) (k (.bool false) [] [])
          | false => none
        | none => none
      | none => none
    | .neq, .sl E l .no, .sl _ _ .nil => match D.info xt with
      | some ti => match ti.slE with
        | some (E', _, _) => match Nat.beq E' E with
          | true => nilK l (k (.bool false) [] []) (k (.bool true) [] [])
          | false => none
        | none => none
      | none => none
    | _, _, _ => evOp D S s o k
  | _ => evOp D S s o k

/-! Regions -/

def tmpsOf : List Operand → List Nat
  | [] => []
  | .tmp t :: r => t :: tmpsOf r
  | _ :: r => tmpsOf r

/-- what an operation looks at: its operands' temporaries, and its guard's -/
def lookT (ops : Array Oper) (o : Oper) : List Nat :=
  tmpsOf o.op.operands.toList ++ (match o.guard with
    | some (j, _) => match ops[j]? with | some g => (match g.dst with | some d => [d] | none => []) | none => []
    | none => [])

def dstL (o : Oper) : List Nat := match o.dst with | some d => [d] | none => []

/-- the footprint of one that was carried out, in a region that draws -/
structure Mark where
  at_ : Nat
  rd : List Nat
  wr : List Nat
  look : List Nat
  dst : List Nat

/-- neither writes what the other reads or writes -/
def apartM (a b : Mark) : Bool :=
  offL a.rd b.wr && offL a.wr b.wr && offL b.rd a.wr && offL a.look b.dst && offL a.dst b.dst && offL b.look a.dst

def marksOk (bf : Array Nat) : List Mark → Bool
  | [] => true
  | b :: r => r.all (fun a => (bf.getD b.at_ 0).testBit a.at_ || apartM a b) && marksOk bf r

noncomputable def evOps (D : Tab T) (S : Specs T) (ops : Array Oper) : List Oper → St T → (St T → Option ρ) → Option ρ
  | [], s, k => k s
  | o :: r, s, k =>
    let go (s : St T) : Option ρ := evOpN D S s o fun v u _ => evOps D S ops r ((s.upds u).putD o.dst v) k
    let off (s : St T) : Option ρ := evOps D S ops r (s.putD o.dst .skip) k
    match o.guard with
    | none => go s
    | some (j, want) => match ops[j]? with
      | none => none
      | some g => match g.dst with
        | none => none
        | some d => match s.get d with
          | .bool b => match want with
            | true => cond b (go (s.put d (.bool true))) (off (s.put d (.bool false)))
            | false => cond b (off (s.put d (.bool true))) (go (s.put d (.bool false)))
          | .skip => off s
          | _ => none

/-- what must be ahead stands ahead -/
def edgesOk : Nat → List Oper → Bool
  | _, [] => true
  | i, o :: r => o.after.toList.all (fun e => !(Region.binds .any e) || Nat.blt e.on i) && edgesOk (i + 1) r

/-- where the order is drawn -/
def evOpsD (D : Tab T) (S : Specs T) (ops : Array Oper) : List Oper → Nat → List Mark → St T → (St T → Option ρ) → Option ρ
  | [], _, acc, s, k => match marksOk (Region.before ops) acc && edgesOk 0 ops.toList with | true => k s | false => none
  | o :: r, i, acc, s, k =>
    let go (s : St T) : Option ρ := evOp D S s o fun v u f => evOpsD D S ops r (i + 1) (⟨i, f, updFoot u, lookT ops o, dstL o⟩ :: acc) ((s.upds u).putD o.dst v) k
    let off (s : St T) : Option ρ := evOpsD D S ops r (i + 1) (⟨i, [], [], lookT ops o, dstL o⟩ :: acc) (s.putD o.dst .skip) k
    match o.guard with
    | none => go s
    | some (j, want) => match ops[j]? with
      | none => none
      | some g => match g.dst with
        | none => none
        | some d => match s.get d with
          | .bool b => match want with
            | true => cond b (go (s.put d (.bool true))) (off (s.put d (.bool false)))
            | false => cond b (off (s.put d (.bool true))) (go (s.put d (.bool false)))
          | .skip => off s
          | _ => none

/-! Code -/

inductive Ex where
  | normal | exit (id : Nat) | ret

inductive Slot where
  | tmp (t E : Nat)
  | own (t E : Nat)
  | box (t E : Nat) (own : List Nat)
  | arr (t : Nat) (A own : List Nat)
  | var (t E : Nat)
  | log (A : List Nat)

inductive Lp where
  | unroll (n : Nat)
  | inv (slots : List Slot) (fixed hide : List Nat)

def Slot.Ty (T : Nat → Type) : Slot → Type
  | .tmp _ E => T E
  | .own _ E => List (T E)
  | .box _ E _ => T E
  | .arr _ A _ => Tup T A
  | .var _ E => T E
  | .log A => List (Tup T A)

def SlotsTy (T : Nat → Type) : List Slot → Type
  | [] => Unit
  | [s] => s.Ty T
  | s :: r => s.Ty T × SlotsTy T r

/-- a slice of one's own -/
def ownOk (s : St T) : Own → Bool
  | .no => false
  | .nil => true
  | .full => true
  | .tok t v => Nat.beq v (s.tv t)

def ownList (E : Nat) : PV T → Option (List (T E))
  | .sl E' l _ => match decEq E' E with
    | .isTrue h => some (h ▸ l)
    | .isFalse _ => none
  | _ => none

def ownCell (s : St T) : PV T → Bool
  | .sl _ _ o => ownOk s o
  | _ => false

def decTup (D : Tab T) : (A : List Nat) → List (PV T) → Option (Tup T A)
  | [], [] => some ()
  | [a], cs => D.dec a cs
  | a :: b :: r, cs => match D.info a with
    | some i => (D.dec a (cs.take i.size)).bind fun x => (decTup D (b :: r) (cs.drop i.size)).bind fun y => some (x, y)
    | none => none
  | _, _ => none

def encTup (D : Tab T) : (A : List Nat) → Tup T A → List (PV T)
  | [], _ => []
  | [a], x => D.enc a x
  | a :: b :: r, x => D.enc a x.1 ++ encTup D (b :: r) x.2

/-- 's0' is the state ahead of the loop -/
def decSlot (D : Tab T) (s0 s : St T) : (x : Slot) → Option (x.Ty T)
  | .tmp t E => D.unval E (s.get t)
  | .own t E => match ownCell s (s.get t) with
    | true => ownList E (s.get t)
    | false => none
  | .box t E own => match s.box t (s0.bv t) with
    | some cs => match own.all (fun j => match cs[j]? with | some c => ownCell s c | none => false) with
      | true => D.dec E cs
      | false => none
    | none => none
  | .arr t A own => match s.box t (s0.bv t) with
    | some cs => match own.all (fun j => match cs[j]? with | some c => ownCell s c | none => false) with
      | true => decTup D A cs
      | false => none
    | none => none
  | .var t E => match s.get t with
    | .loc u v 0 => match Nat.beq u t, s.box u v with
      | true, some cs => D.dec E cs
      | _, _ => none
    | _ => none
  | .log A => match s.lg with
    | .log A' _ xs false => match decEq A' A with
      | .isTrue h => some (h ▸ xs)
      | .isFalse _ => none
    | _ => none

def decSlots (D : Tab T) (s0 s : St T) : (x : List Slot) → Option (SlotsTy T x)
  | [] => some ()
  | [x] => decSlot D s0 s x
  | x :: y :: r => (decSlot D s0 s x).bind fun a => (decSlots D s0 s (y :: r)).bind fun b => some (a, b)

def nodupN : List Nat → Bool
  | [] => true
  | a :: r => !(r.any (Nat.beq a)) && nodupN r

def Slot.boxId : Slot → List Nat
  | .box t _ _ => [t]
  | .arr t _ _ => [t]
  | .var t _ => [t]
  | _ => []

/-- tokens of slots have numbers of their own -/
def SLOT : Nat := 2000000

/-- the tokens of some cells, with the numbers that they get -/
def cellToks (t : Nat) (cs : List (PV T)) : List Nat → List (Nat × Nat)
  | [] => []
  | j :: r => match cs[j]? with
    | some (.sl _ _ (.tok u _)) => (SLOT + 64 * t + j, u) :: cellToks t cs r
    | _ => cellToks t cs r

/-- the tokens that slots take along, with the numbers that they get -/
def slotToks (s : St T) : List Slot → List (Nat × Nat)
  | [] => []
  | .own t _ :: r => (match s.get t with | .sl _ _ (.tok u _) => [(SLOT + 64 * t, u)] | _ => []) ++ slotToks s r
  | .box t _ own :: r => (match s.box t (s.bv t) with | some cs => cellToks t cs own | none => []) ++ slotToks s r
  | .arr t _ own :: r => (match s.box t (s.bv t) with | some cs => cellToks t cs own | none => []) ++ slotToks s r
  | _ :: r => slotToks s r

/-- the numbers that slots give to tokens -/
def slotTgts : List Slot → List Nat
  | [] => []
  | .own t _ :: r => (SLOT + 64 * t) :: slotTgts r
  | .box t _ own :: r => own.map (fun j => SLOT + 64 * t + j) ++ slotTgts r
  | .arr t _ own :: r => own.map (fun j => SLOT + 64 * t + j) ++ slotTgts r
  | _ :: r => slotTgts r

def hasLog : List Slot → Bool
  | [] => false
  | .log _ :: _ => true
  | _ :: r => hasLog r

/-- slots' values: no token twice; what is logged is among them -/
def takeSlots (D : Tab T) (s0 s : St T) (x : List Slot) : Option (SlotsTy T x) := match nodupN ((slotToks s x).map (·.2)) && nodupN (slotTgts x) && (match s.lg with | .no => true | .log _ _ _ _ => hasLog x) with
  | true => decSlots D s0 s x
  | false => none

def owned (t v : Nat) (own : List Nat) : Nat → List (PV T) → List (PV T)
  | _, [] => []
  | j, .sl E l o :: r => (match own.any (Nat.beq j) with | true => .sl E l (.tok (SLOT + 64 * t + j) v) | false => .sl E l o) :: owned t v own (j + 1) r
  | j, c :: r => c :: owned t v own (j + 1) r

def embSlot (D : Tab T) (s0 s : St T) : (x : Slot) → x.Ty T → St T
  | .tmp t E, v => s.put t (D.val E v)
  | .own t E, v => s.put t (.sl E v (.tok (SLOT + 64 * t) s.base))
  | .box t E own, v => s.setBx t ⟨s0.bv t, false, owned t s.base own 0 (D.enc E v)⟩
  | .arr t A own, v => s.setBx t ⟨s0.bv t, false, owned t s.base own 0 (encTup D A v)⟩
  | .var t E, v => (s.setBx t ⟨s.base, false, D.enc E v⟩).put t (.loc t s.base 0)
  | .log A, v => match s0.lg with
    | .log _ m _ _ => ⟨s.tm, s.fx, s.bx, s.hd, s.tk, s.base, .log A m v false⟩
    | .no => s

def embSlots (D : Tab T) (s0 s : St T) : (x : List Slot) → SlotsTy T x → St T
  | [], _ => s
  | [x], v => embSlot D s0 s x v
  | x :: y :: r, v => embSlot D s0 (embSlots D s0 s (y :: r) v.2) x v.1

def topB : List (Nat × Bx T) → Nat → Nat
  | [], m => m
  | (_, e) :: r, m => topB r (cond (Nat.ble m e.ver) e.ver m)
def topK : List (Nat × Nat) → Nat → Nat
  | [], m => m
  | (_, v) :: r, m => topK r (cond (Nat.ble m v) v m)
/-- above all that is in use -/
def St.top (s : St T) : Nat := topK s.tk (topB s.hd (topB s.bx s.base)) + 1

/-- temporaries that stay -/
def keepT (l : List Nat) : List (Nat × PV T) → List (Nat × PV T)
  | [] => []
  | p :: r => match l.any (Nat.beq p.1) with | true => p :: keepT l r | false => keepT l r

/-- those that have not been made anew -/
def offT (tm : List (Nat × PV T)) : List (Nat × PV T) → List (Nat × PV T)
  | [] => []
  | p :: r => match look p.1 tm with | none => p :: offT tm r | some _ => offT tm r

def St.fxs (s : St T) (fixed : List Nat) : List (Nat × PV T) := keepT fixed s.tm ++ offT s.tm s.fx

/-- some boxes out of sight -/
def St.pick (s : St T) : List Nat → List (Nat × Bx T)
  | [] => []
  | t :: r => match look t s.hd, look t s.bx with
    | none, some e => (t, e) :: s.pick r
    | _, _ => s.pick r

/-- the state in which a loop's rounds begin, but for the slots -/
def St.enter (s : St T) (fixed hide : List Nat) : St T := ⟨[], s.fxs fixed, [], s.pick hide ++ s.hd, [], s.top, .no⟩

/-- nothing that stays is written; no slot's box is out of sight, nor twice -/
def St.enterOk (s : St T) (asg : Nat) (slots : List Slot) (fixed hide : List Nat) : Bool :=
  (s.fxs fixed).all (fun p => !(Nat.testBit asg p.1)) &&
  (slots.flatMap Slot.boxId).all (fun t => (s.pick hide ++ s.hd).all (fun p => !(Nat.beq p.1 t))) && nodupN (slots.flatMap Slot.boxId) && nodupN (s.pick hide |>.map (·.1))

/-- behind a loop -/
def St.leave (s1 s : St T) (hide : List Nat) : St T := ⟨s.tm, s.fx, s1.pick hide ++ s.bx, s1.hd, s.tk, s.base, s.lg⟩

def loopN {σ : Type} (step : σ → Option (σ ⊕ ρ)) : Nat → σ → Option ρ
  | 0, _ => none
  | n + 1, s => match step s with
    | none => none
    | some (.inl s') => loopN step n s'
    | some (.inr r) => some r

open Classical in
noncomputable def loopM {σ : Type} (step : σ → Option (σ ⊕ ρ)) (s : σ) : Option ρ :=
  if h : ∃ n r, loopN step n s = some r then some (Classical.choose (Classical.choose_spec h)) else none

theorem loopN_mono {σ : Type} {step : σ → Option (σ ⊕ ρ)} {r : ρ} : ∀ {n m : Nat} {s : σ}, loopN step n s = some r → n ≤ m → loopN step m s = some r
  | 0, _, _, h, _ => by simp [loopN] at h
  | n + 1, 0, _, _, hm => absurd hm (by omega)
  | n + 1, m + 1, s, h, hm => by
    simp only [loopN] at h ⊢
    cases hs : step s with
    | none => rw [hs] at h; simp at h
    | some x =>
      rw [hs] at h
      cases x with
      | inl s' => exact loopN_mono h (by omega)
      | inr r' => exact h

theorem loopM_some {σ : Type} {step : σ → Option (σ ⊕ ρ)} {s : σ} {r : ρ} : loopM step s = some r ↔ ∃ n, loopN step n s = some r := by
  unfold loopM
  constructor
  · intro h
    split at h
    · rename_i hx
      have := Classical.choose_spec (Classical.choose_spec hx)
      simp at h
      exact ⟨_, h ▸ this⟩
    · simp at h
  · rintro ⟨n, hn⟩
    have hx : ∃ n r, loopN step n s = some r := ⟨n, r, hn⟩
    rw [dif_pos hx]
    have h2 := Classical.choose_spec (Classical.choose_spec hx)
    have a := loopN_mono hn (Nat.le_max_left n (Classical.choose hx))
    have b := loopN_mono h2 (Nat.le_max_right n (Classical.choose hx))
    rw [a] at b
    simpa using b.symm

theorem loopM_eq {σ : Type} (step : σ → Option (σ ⊕ ρ)) (s : σ) : loopM step s = match step s with
    | none => none
    | some (.inl s') => loopM step s'
    | some (.inr r) => some r := by
  cases h : step s with
  | none =>
    cases hl : loopM step s with
    | none => rfl
    | some r =>
      obtain ⟨n, hn⟩ := loopM_some.1 hl
      cases n with
      | zero => simp [loopN] at hn
      | succ n => simp [loopN, h] at hn
  | some x =>
    cases x with
    | inr r => exact loopM_some.2 ⟨1, by simp [loopN, h]⟩
    | inl s' =>
      show loopM step s = loopM step s'
      cases hl : loopM step s' with
      | some r =>
        obtain ⟨n, hn⟩ := loopM_some.1 hl
        have : loopN step (n + 1) s = some r := by simp [loopN, h, hn]
        exact loopM_some.2 ⟨n + 1, this⟩
      | none =>
        cases hl2 : loopM step s with
        | none => rfl
        | some r =>
          obtain ⟨n, hn⟩ := loopM_some.1 hl2
          cases n with
          | zero => simp [loopN] at hn
          | succ n =>
            simp [loopN, h] at hn
            rw [loopM_some.2 ⟨n, hn⟩] at hl
            simp at hl

def unrollN {ρ : Type} (body : (Ex → St T → Option ρ) → St T → Option ρ) (k : Ex → St T → Option ρ) : Nat → St T → Option ρ
  | 0, _ => none
  | m + 1, s => body (fun e s' => match e with | .normal => unrollN body k m s' | e => k e s') s

/-- behind a range over a function the temporaries are what they were -/
def St.after (s1 s : St T) (hide : List Nat) : St T := ⟨s1.tm, s1.fx, s1.pick hide ++ s.bx, s1.hd, s.tk, s.base, s.lg⟩

/-- what an operation writes, as bits -/
def asgOps : List Oper → Nat
  | [] => 0
  | o :: r => match o.dst with | some d => Nat.lor (2 ^ d) (asgOps r) | none => asgOps r

/-- the temporaries that code writes, as bits -/
def asg : Code → Nat
  | .region _ ops _ => asgOps ops.toList
  | .seq a b => Nat.lor (asg a) (asg b)
  | .cond _ a b => Nat.lor (asg a) (asg b)
  | .block _ c => asg c
  | .loop c => asg c
  | .scope c => asg c
  | _ => 0

def asgL : List Nat → Nat
  | [] => 0
  | t :: r => Nat.lor (2 ^ t) (asgL r)

def putAll (s : St T) : List Nat → List (PV T) → St T
  | t :: ts, v :: vs => putAll (s.put t v) ts vs
  | _, _ => s

def forL {σ α : Type} (step : α → σ → Option (σ ⊕ ρ)) (fin : σ → Option ρ) : List α → σ → Option ρ
  | [], s => fin s
  | x :: r, s => (step x s).bind fun y => match y with | .inl s' => forL step fin r s' | .inr z => some z

/-- nothing but boxes -/
def boxSlots : List Slot → Bool
  | [] => true
  | .box _ _ _ :: r => boxSlots r
  | .arr _ _ _ :: r => boxSlots r
  | .log _ :: r => boxSlots r
  | _ => false

noncomputable def evCode (D : Tab T) (S : Specs T) (A : Nat → Option Lp) : Code → Nat → {ρ : Type} → (Ex → St T → Option ρ) → St T → Option ρ
  | .skip, _, _, k, s => k .normal s
  | .label _, _, _, k, s => k .normal s
  | .region _ ops draw, _, _, k, s =>
    match draw with
    | true => evOpsD D S ops ops.toList 0 [] s fun s => k .normal s
    | false => evOps D S ops ops.toList s fun s => k .normal s
  | .seq a b, c, _, k, s => evCode D S A a c (fun e s' => match e with | .normal => evCode D S A b c k s' | e => k e s') s
  | .cond c a b, n, _, k, s => match s.ev D 0 c with
    | .bool t => cond t (evCode D S A a n k s) (evCode D S A b n k s)
    | _ => none
  | .block id c, _, _, k, s => evCode D S A c id (fun e s' => match e with
    | .exit i => match Nat.beq i id with | true => k .normal s' | false => k e s'
    | e => k e s') s
  | .loop c, n, _, k, s => match A n with
    | some (.unroll m) => unrollN (fun k' s' => evCode D S A c n k' s') k m s
    | some (.inv slots fixed hide) => match s.enterOk (asg c) slots fixed hide with
      | true => (takeSlots D s s slots).bind fun s0 =>
        loopM (fun x => evCode D S A c n (fun e s' => match e with
          | .normal => (takeSlots D s s' slots).bind fun y => some (.inl y)
          | e => (k e (s.leave s' hide)).map .inr) (embSlots D s (s.enter fixed hide) slots x)) s0
      | false => none
    | none => none
  | .rangeFunc f params assign body, n, _, k, s => match s.ev D 0 f, A n with
    | .seq As xs, some (.inv slots fixed hide) => match s.enterOk (Nat.lor (asgL params.toList) (Nat.lor (asg assign) (asg body))) slots fixed hide && (boxSlots slots && Nat.beq params.size As.length) with
      | true => (takeSlots D s s slots).bind fun s0 =>
        forL (fun x acc => evCode D S A assign n (fun e s' => match e with
            | .normal => evCode D S A body n (fun e s' => match e with
              | .normal => (takeSlots D s s' slots).bind fun y => some (.inl y)
              | e => (k e (s.after s' hide)).map .inr) s'
            | _ => none) (putAll (embSlots D s (s.enter fixed hide) slots acc) params.toList (tupVals D As x)))
          (fun acc => k .normal (s.after (embSlots D s (s.enter fixed hide) slots acc) hide)) xs s0
      | false => none
    | _, _ => none
  | .exit id, _, _, k, s => k (.exit id) s
  | .ret, _, _, k, s => k .ret s
  | _, _, _, _, _ => none

/-- a result that is a value -/
def resV (D : Tab T) (s : St T) (one : Bool) : PV T → PV T
  | .sl E l (.tok t v) => match Nat.beq v (s.tv t) with | true => .sl E l (.tok t v) | false => .sl E l .no
  | .sl E l o => .sl E l o
  | .agg vs => match norpL vs with | true => cl (.agg (vs.map (viewB D s one))) | false => .undef
  | v => s.viewR one v

def evRes (D : Tab T) (s : St T) (one : Bool) : ResultVar → PV T
  | .tmp t => match s.get t with
    | .loc u v 0 => match s.box u v with
      | some cs => match cleanL cs && norpL cs, Nat.beq u OUT with | true, false => .new cs | _, _ => .undef
      | none => .undef
    | v => resV D s one v
  | .cell a t => match s.get a, D.info t with
    | .loc u v off, some i => match s.rbox u v with
      | some cs => resV D s one (one1 i (cs.drop off))
      | none => .undef
    | .rp cs, some i => match norpL cs with
      | true => cl (untok (one1 i cs))
      | false => .undef
    | _, _ => .undef

/-- can the result be read? -/
def resRun (D : Tab T) (s : St T) : ResultVar → Bool
  | .tmp _ => true
  | .cell a t => match s.get a, D.info t with
    | .loc u v off, some i => match s.rbox u v with
      | some cs => Nat.ble (off + i.size) cs.length
      | none => false
    | .rp cs, some i => Nat.ble i.size cs.length
    | _, _ => false

def isNew : PV T → Bool
  | .new _ => true
  | _ => false

def evRess (D : Tab T) (s : St T) (rs : List ResultVar) : PV T := match rs with
  | [r] => evRes D s true r
  | rs => match (rs.map (evRes D s true)).any isNew with
    | false => .tup (rs.map (evRes D s true))
    | true => .tup (rs.map (evRes D s false))

def argTm (i : Nat) : List (PV T) → List (Nat × PV T)
  | [] => []
  | a :: r => (i, a) :: argTm (i + 1) r

def argSt (args : List (PV T)) (out : List (PV T)) : St T :=
  ⟨argTm 0 args, [], match out with | [] => [] | _ => [(OUT, ⟨0, false, out⟩)], [], [], 0, .no⟩

def operOk (nt : Nat) (o : Oper) : Bool :=
  (match o.dst with | some d => Nat.blt d nt | none => true) && (tmpsOf o.op.operands.toList).all (fun t => Nat.blt t nt)

/-- every temporary that code names is one of the frame's -/
def codeOk (nt : Nat) : Code → Bool
  | .region _ ops _ => ops.toList.all (operOk nt)
  | .seq a b => codeOk nt a && codeOk nt b
  | .cond c a b => (tmpsOf [c]).all (fun t => Nat.blt t nt) && codeOk nt a && codeOk nt b
  | .block _ c => codeOk nt c
  | .loop c => codeOk nt c
  | .rangeFunc f ps a b => (tmpsOf [f]).all (fun t => Nat.blt t nt) && ps.toList.all (fun t => Nat.blt t nt) && codeOk nt a && codeOk nt b
  | .scope c => codeOk nt c
  | _ => true

def resOk (nt : Nat) : ResultVar → Bool
  | .tmp t => Nat.blt t nt
  | .cell t _ => Nat.blt t nt

def fnOk (f : Func) (n : Nat) : Bool := Nat.ble f.ntmps 999999 && Nat.ble n f.ntmps && f.results.toList.all (resOk f.ntmps) && (match f.body with | some c => codeOk f.ntmps c | none => false)

/-- the object as it is left -/
def outK (b : Option (List (PV T))) (out : List (PV T)) (k : List (PV T) → Option ρ) : Option ρ := match b, out with
  | some cs, _ => k cs
  | none, [] => k []
  | none, _ :: _ => none

noncomputable def evFn (D : Tab T) (S : Specs T) (A : Nat → Option Lp) (f : Func) (args : List (PV T)) (out : List (PV T))
    (k : PV T → List (PV T) → Option ρ) : Option ρ :=
  match f.body, fnOk f args.length with
  | some c, true => evCode D S A c 0 (fun e s => match e with
    | .exit _ => none
    | _ => match f.results.toList.all (resRun D s) with
      | true => outK (s.box OUT 0) out (k (evRess D s f.results.toList))
      | false => none) (argSt args out)
  | _, _ => none

/-- a function that yields: what it hands out till its m-th answer is 'no more' -/
noncomputable def evGen (D : Tab T) (S : Specs T) (A : Nat → Option Lp) (f : Func) (As : List Nat) (caps : List (PV T)) (m : Int) : Option (List (Tup T As)) :=
  match f.body, fnOk f (caps.length + 1) with
  | some c, true => evCode D S A c 0 (fun e s => match e with
    | .exit _ => none
    | _ => match s.lg, f.results.toList with
      | .log A' _ xs _, [] => match decEq A' As with
        | .isTrue h => some (h ▸ xs)
        | .isFalse _ => none
      | _, _ => none) ⟨argTm 0 (.yld :: caps), [], [], [], [], 0, .log As m [] false⟩
  | _, _ => none

end Go.Px

namespace Go.Px
variable {T : Nat → Type} {ρ : Type}

def Tab.b (D : Tab T) (l : List Nat) : Tab T := ⟨D.info, D.enc, D.dec, D.meth, l, D.eqs⟩

/-! Codecs -/

structure Cd (T : Nat → Type) (α : Type) where
  enc : α → List (PV T)
  d : List (PV T) → Option (α × List (PV T))

def cdInt (K : IntKind) : Cd T Int where
  enc n := [.int K n]
  d cs := match cs with
    | .int K' n :: r => match decide (K' = K) with | true => some (n, r) | false => none
    | _ => none

def cdBool : Cd T Bool where
  enc b := [.bool b]
  d cs := match cs with | .bool b :: r => some (b, r) | _ => none

def cdSl (E : Nat) : Cd T (List (T E)) where
  enc l := [.sl E l .no]
  d cs := match cs with
    | .sl E' l _ :: r => match decEq E' E with | .isTrue h => some (h ▸ l, r) | .isFalse _ => none
    | _ => none

def Cd.pair {α β : Type} (a : Cd T α) (b : Cd T β) : Cd T (α × β) where
  enc x := a.enc x.1 ++ b.enc x.2
  d cs := (a.d cs).bind fun x => (b.d x.2).bind fun y => some ((x.1, y.1), y.2)

def Cd.map {α β : Type} (c : Cd T β) (f : β → α) (g : α → β) : Cd T α where
  enc x := c.enc (g x)
  d cs := (c.d cs).bind fun x => some (f x.1, x.2)

def cdNo {α : Type} : Cd T α where
  enc _ := []
  d _ := none

def Cd.dec {α : Type} (c : Cd T α) (cs : List (PV T)) : Option α := match c.d cs with
  | some (x, []) => some x
  | _ => none

/-! Arguments and results, typed -/

inductive AK where
  | val (E : Nat)
  | rp (E : Nat)
  | fn (A R : List Nat)
  | seq (A : List Nat)
  | nil (E : Nat)

def AK.Ty (T : Nat → Type) : AK → Type
  | .val E => T E
  | .rp E => T E
  | .fn A R => Tup T A → Option (Tup T R)
  | .seq A => List (Tup T A)
  | .nil _ => Unit

def ArgsTy (T : Nat → Type) : List AK → Type
  | [] => Unit
  | [a] => a.Ty T
  | a :: b :: r => a.Ty T × ArgsTy T (b :: r)

def decFn (A R : List Nat) : (A' R' : List Nat) → (Tup T A' → Option (Tup T R')) → Option (Tup T A → Option (Tup T R)) := fun A' R' p =>
  match decEq A' A, decEq R' R with
  | .isTrue h, .isTrue g => some (h ▸ g ▸ p)
  | _, _ => none

def decArg (D : Tab T) (S : Specs T) : (a : AK) → PV T → Option (a.Ty T)
  | .val E, v => D.unval E v
  | .rp E, .rp cs => D.dec E cs
  | .fn A R, .prd A' R' p => decFn A R A' R' p
  | .fn A R, .clo f caps => match cleanL caps with
    | true => some fun x => S f (tupVals D A x ++ caps) [] fun v _ => tupUnval D R v
    | false => none
  | .seq A, .seq A' xs => match decEq A' A with
    | .isTrue h => some (h ▸ xs)
    | .isFalse _ => none
  | .nil E, .sl E' _ .nil => match Nat.beq E' E with | true => some () | false => none
  | _, _ => none

def decArgs (D : Tab T) (S : Specs T) : (as : List AK) → List (PV T) → Option (ArgsTy T as)
  | [], [] => some ()
  | [a], [v] => decArg D S a v
  | a :: b :: r, v :: vs => (decArg D S a v).bind fun x => (decArgs D S (b :: r) vs).bind fun y => some (x, y)
  | _, _ => none

def encArg (D : Tab T) : (a : AK) → a.Ty T → PV T
  | .val E, x => D.val E x
  | .rp E, x => .rp (D.enc E x)
  | .fn A R, p => .prd A R p
  | .seq A, xs => .seq A xs
  | .nil E, _ => .sl E [] .nil

def encArgs (D : Tab T) : (as : List AK) → ArgsTy T as → List (PV T)
  | [], _ => []
  | [a], x => [encArg D a x]
  | a :: b :: r, x => encArg D a x.1 :: encArgs D (b :: r) x.2

/-- an iterator that is known: what its closure hands out -/
structure GEnt (T : Nat → Type) where
  g : Nat
  A : List Nat
  run : List (PV T) → Option (List (Tup T A))

def findG (g : Nat) : List (GEnt T) → Option (GEnt T)
  | [] => none
  | e :: r => match Nat.beq e.g g with | true => some e | false => findG g r

inductive RK where
  | val (E : Nat)
  | own (E : Nat)
  | new (E : Nat)
  | seq (A : List Nat)
  | ifc (ts : List Nat)

/-- one of some types -/
def SumTy (T : Nat → Type) : List Nat → Type
  | [] => Unit
  | [a] => T a
  | a :: b :: r => T a ⊕ SumTy T (b :: r)

def sumK (D : Tab T) {ρ : Type} (k : PV T → Option ρ) : (ts : List Nat) → SumTy T ts → Option ρ
  | [], _ => none
  | [a], x => k (.ifc a (D.val a x))
  | a :: b :: r, x => Sum.elim (fun y => k (.ifc a (D.val a y))) (fun z => sumK D k (b :: r) z) x

def sumOf (D : Tab T) (t : Nat) (v : PV T) : (ts : List Nat) → Option (SumTy T ts)
  | [] => none
  | [a] => match Nat.beq a t with | true => D.unval a v | false => none
  | a :: b :: r => match Nat.beq a t with
    | true => (D.unval a v).bind fun x => some (.inl x)
    | false => (sumOf D t v (b :: r)).bind fun x => some (.inr x)

def RK.Ty (T : Nat → Type) : RK → Type
  | .val E => T E
  | .own E => List (T E)
  | .new E => T E
  | .seq A => List (Tup T A)
  | .ifc ts => SumTy T ts

def ResTy (T : Nat → Type) : List RK → Type
  | [] => Unit
  | [a] => a.Ty T
  | a :: b :: r => a.Ty T × ResTy T (b :: r)

def encRes (D : Tab T) : (r : RK) → r.Ty T → PV T
  | .val E, x => D.val E x
  | .own E, l => .sl E l (.tok 0 0)
  | .new E, x => .new (D.enc E x)
  | .seq A, xs => .seq A xs
  | .ifc _, _ => .undef

def encRess (D : Tab T) : (rs : List RK) → ResTy T rs → List (PV T)
  | [], _ => []
  | [a], x => [encRes D a x]
  | a :: b :: r, x => encRes D a x.1 :: encRess D (b :: r) x.2

def resK (D : Tab T) {ρ : Type} (rs : List RK) (x : ResTy T rs) (k : PV T → Option ρ) : Option ρ := match rs with
  | [.ifc ts] => sumK D k ts x
  | rs => match encRess D rs x with
    | [v] => k v
    | vs => k (.tup vs)

def decRes (D : Tab T) (G : List (GEnt T)) : (r : RK) → PV T → Option (r.Ty T)
  | .val E, v => D.unval E v
  | .own E, v => match v with
    | .sl _ _ .no => none
    | v => ownList E v
  | .new E, .new cs => D.dec E cs
  | .seq A, .clo g caps => match findG g G with
    | some e => match decEq e.A A with
      | .isTrue h => (e.run caps).bind fun xs => some (h ▸ xs)
      | .isFalse _ => none
    | none => none
  | .ifc ts, .ifc t v => sumOf D t v ts
  | _, _ => none

def decRess (D : Tab T) (G : List (GEnt T)) : (rs : List RK) → List (PV T) → Option (ResTy T rs)
  | [], [] => some ()
  | [a], [v] => decRes D G a v
  | a :: b :: r, v :: vs => (decRes D G a v).bind fun x => (decRess D G (b :: r) vs).bind fun y => some (x, y)
  | _, _ => none

def resUnval (D : Tab T) (G : List (GEnt T)) : (rs : List RK) → PV T → Option (ResTy T rs)
  | [a], v => decRes D G a v
  | rs, .tup vs => decRess D G rs vs
  | _, _ => none

/-! What is known of functions -/

structure Ent (T : Nat → Type) where
  f : Nat
  run : Specs T → {ρ : Type} → List (PV T) → List (PV T) → (PV T → List (PV T) → Option ρ) → Option ρ

def mkEnt (D : Tab T) (f : Nat) (as : List AK) (rs : List RK) (F : ArgsTy T as → Option (ResTy T rs)) : Ent T where
  f := f
  run S _ args obj k := match obj with
    | [] => (decArgs D S as args).bind fun x => (F x).bind fun y => resK D rs y fun v => k v []
    | _ => none

def mkEntO (D : Tab T) (f E : Nat) (as : List AK) (rs : List RK) (F : T E → ArgsTy T as → Option (T E × ResTy T rs)) : Ent T where
  f := f
  run S _ args obj k := match args with
    | .loc u 0 0 :: r => match Nat.beq u OUT with
      | true => (D.dec E obj).bind fun o => (decArgs D S as r).bind fun x => (F o x).bind fun y => resK D rs y.2 fun v => k v (D.enc E y.1)
      | false => none
    | _ => none

def findEnt (f : Nat) : List (Ent T) → Option (Ent T)
  | [] => none
  | e :: r => match Nat.beq e.f f with | true => some e | false => findEnt f r

def SL (l : List (Ent T)) : Nat → Specs T
  | 0, _, _, _, _, _ => none
  | n + 1, _, f, args, obj, k => match findEnt f l with
    | some e => e.run (fun {_} => SL l n) args obj k
    | none => none

def mkGEnt (D : Tab T) (g : Nat) (as : List AK) (A : List Nat) (G : Int → ArgsTy T as → Option (List (Tup T A))) : GEnt T where
  g := g
  A := A
  run caps := (decArgs D (fun {_} _ _ _ _ => none) as caps).bind fun x => G (-1) x

/-- a function without an object, as it is evaluated -/
noncomputable def evPlain (D : Tab T) (l : List (Ent T)) (G : List (GEnt T)) (ann : List (Nat × Lp)) (f : Func) (as : List AK) (rs : List RK) (x : ArgsTy T as) : Option (ResTy T rs) :=
  evFn D (fun {_} => SL l 3) (fun n => look n ann) f (encArgs D as x) [] fun v _ => resUnval D G rs v

noncomputable def evObj (D : Tab T) (l : List (Ent T)) (G : List (GEnt T)) (ann : List (Nat × Lp)) (f : Func) (E : Nat) (as : List AK) (rs : List RK) (o : T E) (x : ArgsTy T as) : Option (T E × ResTy T rs) :=
  evFn D (fun {_} => SL l 3) (fun n => look n ann) f (.loc OUT 0 0 :: encArgs D as x) (D.enc E o) fun v cs => (D.dec E cs).bind fun o' => (resUnval D G rs v).bind fun y => some (o', y)

noncomputable def evIter (D : Tab T) (l : List (Ent T)) (ann : List (Nat × Lp)) (f : Func) (as : List AK) (A : List Nat) (m : Int) (x : ArgsTy T as) : Option (List (Tup T A)) :=
  evGen D (fun {_} => SL l 3) (fun n => look n ann) f A (encArgs D as x) m

end Go.Px

namespace Go.Px
variable {T : Nat → Type}

/-! What a plain value says of a value of the machine -/

/-- every activation, in a round or not -/
def FW (ro : Option Nat) : Fence := { Fence.wide with round := ro }

def Tab.sz (D : Tab T) (E : Nat) : Nat := match D.info E with | some i => i.size | none => 0

/-- cells of data -/
inductive RelD (D : Tab T) (w : World) (ok : Nat → Nat → Prop) : PV T → Value → Prop
  | int (k : IntKind) (n : Int) : RelD D w ok (.int k n) (.int k n)
  | bool (b : Bool) : RelD D w ok (.bool b) (.bool b)
  | sl (E : Nat) (l : List (T E)) (o : Own) (a : Option Addr) (cap : Nat) (f : Nat → Nat → Value)
      (hcap : l.length ≤ cap)
      (ha : ∀ i j x, l[i]? = some x → ∀ c, (D.enc E x)[j]? = some c → ∃ b off, a = some ⟨b, off, none⟩ ∧ w.cell? ⟨b, off + i * D.sz E + j, none⟩ = some (f i j) ∧ ok b (off + i * D.sz E + j))
      (hr : ∀ i j x, l[i]? = some x → ∀ c, (D.enc E x)[j]? = some c → RelD D w ok c (f i j)) :
      RelD D w ok (.sl E l o) (.slice a l.length cap)

/-- blocks of a frame: which cells are settled; the last box of each name, and its block; the end of each name's own row; yield; blocks that were lent -/
structure Gh where
  ok : Nat → Nat → Prop
  bv : Nat → Nat
  bl : Nat → Option Nat
  tv : Nat → Nat
  tk : Nat → Option (Nat × Nat × Nat)
  yl : Option Nat
  rh : Nat → Option Obj

def OwnOK (D : Tab T) (g : Gh) (E n : Nat) : Own → Value → Prop
  | .no, _ => True
  | .nil, v => v = .slice none 0 0
  | .full, v => v = .slice none 0 0 ∨ ∃ a, v = .slice a n n
  | .tok t k, v => k ≤ g.tv t ∧ (k = g.tv t → v = .slice none 0 0 ∨ (∃ a, v = .slice a n n) ∨ ∃ b off cap lim, v = .slice (some ⟨b, off, none⟩) n cap ∧ g.tk t = some (b, off + n * D.sz E, lim) ∧ off + cap * D.sz E ≤ lim)

/-- data as arguments and results -/
inductive RelV (D : Tab T) (w : World) (ok : Nat → Nat → Prop) : PV T → Value → Prop
  | cell {c : PV T} {v : Value} (h : RelD D w ok c v) : RelV D w ok c v
  | agg (cs : List (PV T)) (vs : Array Value) (hn : vs.size = cs.length) (h : ∀ i c, cs[i]? = some c → RelD D w ok c (vs.getD i undef)) : RelV D w ok (.agg cs) (.agg vs)

def RelT (D : Tab T) (w : World) (ok : Nat → Nat → Prop) : PV T → Value → Prop
  | .tup cs, v => ∃ vs, v = .tuple vs ∧ vs.size = cs.length ∧ ∀ i c, cs[i]? = some c → RelV D w ok c (vs.getD i undef)
  | c, v => RelV D w ok c v

/-- memory goes on: what is settled stays -/
structure Evo (w : World) (ok : Nat → Nat → Prop) (w' : World) (ok' : Nat → Nat → Prop) : Prop where
  size : w.heap.size ≤ w'.heap.size
  cell : ∀ b o, ok b o → w'.cell? ⟨b, o, none⟩ = w.cell? ⟨b, o, none⟩
  ok : ∀ b o, ok b o → ok' b o

/-- what a call may do -/
structure Frame1 (w w' : World) (but : Option Nat) : Prop where
  os : w'.os = w.os
  tape : w'.tape = w.tape
  output : w'.output = w.output
  size : w.heap.size ≤ w'.heap.size
  block : ∀ b, b < w.heap.size → some b ≠ but → w'.heap[b]? = w.heap[b]?

def OkIn (w : World) (ok : Nat → Nat → Prop) : Prop := ∀ b o, ok b o → b < w.heap.size

/-- settled cells after a call: those of before, and new ones -/
structure OkNew (w : World) (ok : Nat → Nat → Prop) (w' : World) (ok' : Nat → Nat → Prop) : Prop where
  old : ∀ b o, ok b o → ok' b o
  new : ∀ b o, ok' b o → ok b o ∨ w.heap.size ≤ b
  lt : OkIn w' ok'

/-- a call -/
abbrev CallsW (P : Program) (f : FuncId) (args : Array Value) (w : World) (R : Ending → World → Prop) : Prop := CallsIn Fence.wide 0 P f args w R

def HasBody (P : Program) (f : Nat) : Prop := ∃ fn, P.funcs[f]? = some fn ∧ fn.body.isSome = true ∧ (fn.name == "runtime.NumGoroutine") = false

/-- a function value that computes -/
def PrdOK (P : Program) (D : Tab T) (w : World) (ok : Nat → Nat → Prop) (rh : Nat → Option Obj) (A R : List Nat) (p : Tup T A → Option (Tup T R)) (v : Value) : Prop :=
  ∃ f caps, v = .func (.func f) #[] caps ∧ ∀ x y, p x = some y → HasBody P f ∧ ∀ w' ok', Evo w ok w' ok' → OkIn w' ok' → (∀ b z, rh b = some z → w'.heap[b]? = some z) → ∀ vals : Array Value,
    vals.size = (tupVals D A x).length → (∀ i c, (tupVals D A x)[i]? = some c → RelV D w' ok' c (vals.getD i undef)) →
    CallsW P f (vals ++ caps) w' fun e w'' => ∃ r ok'', e = .returned r ∧ Frame1 w' w'' none ∧ OkNew w' ok' w'' ok'' ∧ RelT D w'' ok'' (tupVal D R y) r

/-- what is around a frame: J: so much has been handed out; whose blocks; what is settled there; in what world -/
structure Outer where
  J : Nat → (Nat → Prop) → (Nat → Nat → Prop) → World → Prop

/-- nothing of M, nothing settled is turned -/
structure Quiet (M : Nat → Prop) (okc : Nat → Nat → Prop) (w w' : World) : Prop where
  os : w'.os = w.os
  tape : w'.tape = w.tape
  output : w'.output = w.output
  size : w.heap.size ≤ w'.heap.size
  block : ∀ b, M b → w'.heap[b]? = w.heap[b]?
  cell : ∀ b o, okc b o → w'.cell? ⟨b, o, none⟩ = w.cell? ⟨b, o, none⟩

def Outer.Stable (V : Outer) : Prop := ∀ n M okc w w', V.J n M okc w → Quiet M okc w w' → V.J n M okc w'

/-- what a round of the one that ranges may do -/
structure RoundDone (M : Nat → Prop) (okc ok : Nat → Nat → Prop) (w : World) (M' : Nat → Prop) (okc' : Nat → Nat → Prop) (w' : World) : Prop where
  os : w'.os = w.os
  tape : w'.tape = w.tape
  output : w'.output = w.output
  size : w.heap.size ≤ w'.heap.size
  mono : ∀ b, M b → M' b
  new : ∀ b, M' b → M b ∨ w.heap.size ≤ b
  lt : ∀ b, M' b → b < w'.heap.size
  block : ∀ b, b < w.heap.size → ¬ M b → w'.heap[b]? = w.heap[b]?
  okc : ∀ b o, okc b o → okc' b o
  oknew : ∀ b o, okc' b o → ok b o ∨ M' b
  cell : ∀ b o, ok b o → w'.cell? ⟨b, o, none⟩ = w.cell? ⟨b, o, none⟩
  oklt : OkIn w' okc'

/-- the answer to yield, where i have been handed out -/
def YieldAt (P : Program) (D : Tab T) (V : Outer) (l : Nat) {A : List Nat} (i : Nat) (x : Tup T A) (b : Bool) : Prop :=
  ∀ M okc w, V.J i M okc w → (∀ b, M b → b < w.heap.size) → ∀ ok, OkIn w ok → (∀ b o, okc b o → ok b o) →
    (∀ b o, ok b o → okc b o ∨ ¬ M b) → ∀ vals : Array Value,
    vals.size = (tupVals D A x).length → (∀ j c, (tupVals D A x)[j]? = some c → RelV D w ok c (vals.getD j undef)) →
    ∃ fn tmps assign body, (Instr.yield l vals).run P w = .ok (.round l fn tmps assign body) w ∧
      RoundIn Fence.wide 0 P l fn tmps assign body w fun e w' => ∃ M' okc', e = .returned (.bool b) ∧ V.J (i + 1) M' okc' w' ∧ RoundDone M okc ok w M' okc' w'

/-- each answer to yield -/
def YieldOK (P : Program) (D : Tab T) (V : Outer) (l : Nat) {A : List Nat} (xs : List (Tup T A)) (m : Int) : Prop :=
  ∀ (i : Nat) (x : Tup T A), xs[i]? = some x → (m < 0 ∨ (i : Int) ≤ m) → YieldAt P D V l i x (!(decide ((i : Int) = m)))

/-- how much is handed out when the m-th answer is 'no more' -/
def handed (n : Nat) (m : Int) : Nat := if m < 0 then n else min n (m.toNat + 1)

/-- an iterator that hands out xs -/
def SeqOK (P : Program) (D : Tab T) (w : World) (ok : Nat → Nat → Prop) (A : List Nat) (xs : List (Tup T A)) (v : Value) : Prop :=
  ∃ g caps, v = .func (.func g) #[] caps ∧ HasBody P g ∧
  ∀ l m (V : Outer), V.Stable → ∀ M okc w', V.J 0 M okc w' → (∀ b, M b ↔ b < w'.heap.size) → Evo w ok w' okc → OkIn w' okc →
    YieldOK P D V l xs m →
    CallsW P g (#[.func (.yield l) #[] #[]] ++ caps) w' fun e w'' => ∃ r M' okc', e = .returned r ∧ V.J (handed xs.length m) M' okc' w'' ∧ w'.heap.size ≤ w''.heap.size ∧
      w''.os = w'.os ∧ w''.tape = w'.tape ∧ w''.output = w'.output

/-- what a plain value says of a value -/
inductive Rel (P : Program) (D : Tab T) (w : World) (g : Gh) : PV T → Value → Prop
  | undef (v : Value) : Rel P D w g .undef v
  | skip : Rel P D w g .skip Go.undef
  | int (k : IntKind) (n : Int) : Rel P D w g (.int k n) (.int k n)
  | bool (b : Bool) : Rel P D w g (.bool b) (.bool b)
  | nilp : Rel P D w g .nilp (.pointer none)
  | nilf : Rel P D w g .nilf .nilFunc
  | nili : Rel P D w g .nili .nilIface
  | sl (E : Nat) (l : List (T E)) (o : Own) (v : Value) (h : RelD D w g.ok (.sl E l .no) v) (ho : OwnOK D g E l.length o v) : Rel P D w g (.sl E l o) v
  | bsl (E t k n b : Nat) (hk : k ≤ g.bv t) (h : k = g.bv t → g.bl t = some b) : Rel P D w g (.bsl E t k n) (.slice (some ⟨b, 0, none⟩) n n)
  | agg (cs : List (PV T)) (vs : Array Value) (hn : vs.size = cs.length) (h : ∀ i c, cs[i]? = some c → Rel P D w g c (vs.getD i Go.undef)) : Rel P D w g (.agg cs) (.agg vs)
  | tup (cs : List (PV T)) (vs : Array Value) (hn : vs.size = cs.length) (h : ∀ i c, cs[i]? = some c → Rel P D w g c (vs.getD i Go.undef)) : Rel P D w g (.tup cs) (.tuple vs)
  | loc (t k off b : Nat) (hk : k ≤ g.bv t) (h : k = g.bv t → g.bl t = some b) : Rel P D w g (.loc t k off) (.pointer (some ⟨b, off, none⟩))
  | rp (cs : List (PV T)) (b off : Nat) (f : Nat → Value) (hc : ∀ i c, cs[i]? = some c → (w.cell? ⟨b, off + i, none⟩ = some (f i) ∧ g.ok b (off + i)) ∨ ∃ vs E z, g.rh b = some (.cells vs E z) ∧ vs[off + i]? = some (f i))
      (h : ∀ i c, cs[i]? = some c → Rel P D w g c (f i)) : Rel P D w g (.rp cs) (.pointer (some ⟨b, off, none⟩))
  | clo (f : Nat) (cs : List (PV T)) (vs : Array Value) (hn : vs.size = cs.length) (h : ∀ i c, cs[i]? = some c → Rel P D w g c (vs.getD i Go.undef)) : Rel P D w g (.clo f cs) (.func (.func f) #[] vs)
  | prd (A R : List Nat) (p : Tup T A → Option (Tup T R)) (v : Value) (h : PrdOK P D w g.ok g.rh A R p v) : Rel P D w g (.prd A R p) v
  | seq (A : List Nat) (xs : List (Tup T A)) (v : Value) (h : SeqOK P D w g.ok A xs v) : Rel P D w g (.seq A xs) v
  | yld (l : Nat) (h : g.yl = some l) : Rel P D w g .yld (.func (.yield l) #[] #[])
  | ifc (t : Nat) (c : PV T) (v : Value) (h : Rel P D w g c v) : Rel P D w g (.ifc t c) (.iface t v)

/-- some cells, one by one -/
def RelL (P : Program) (D : Tab T) (w : World) (g : Gh) (cs : List (PV T)) (vs : Array Value) : Prop :=
  vs.size = cs.length ∧ ∀ i c, cs[i]? = some c → Rel P D w g c (vs.getD i undef)

/-- a box: a block of its own -/
structure BoxOK (P : Program) (D : Tab T) (w : World) (g : Gh) (e : Bx T) (b : Nat) : Prop where
  cells : ∃ vs E, w.heap[b]? = some (.cells vs E (0, 0)) ∧ RelL P D w g e.cs vs
  fz : e.fz = true → ∀ o, o < e.cs.length → g.ok b o
  own : e.fz = false → ∀ o, ¬ g.ok b o

structure Ctx (T : Nat → Type) where
  P : Program
  D : Tab T
  V : Outer
  nt : Nat
  ro : Option Nat
  yl : Option Nat
  pre : LG T → Prop

def LG.len : LG T → Nat
  | .no => 0
  | .log _ _ xs _ => xs.length

def marksD (ds : List Nat) : List Deferred := ds.map fun b => { target := .collected b, args := #[] }

/-- a round's record, and the block for deferred calls -/
def RoundRec (w : World) (M : Nat → Prop) : Option Nat → Prop
  | none => True
  | some l => ∃ r, w.heap[l]? = some (.loop r) ∧ M l

/-- what a frame knows of memory -/
structure WR (C : Ctx T) (s : St T) (g : Gh) (M : Nat → Prop) (okc : Nat → Nat → Prop) (ds : List Nat) (w : World) : Prop where
  bx : ∀ t e, s.ent t = some e → ∃ b, g.bl t = some b ∧ BoxOK C.P C.D w g e b
  nb : ∀ t, s.ent t = none → g.bl t = none
  bv : ∀ t, g.bv t = s.bv t
  tv : ∀ t, g.tv t = s.tv t
  inj : ∀ t t' b, g.bl t = some b → g.bl t' = some b → t = t'
  blM : ∀ t b, g.bl t = some b → ¬ M b
  tks : ∀ t b e, g.tk t = some (b, e) → (∃ vs E, w.heap[b]? = some (.cells vs E (0, 0)) ∧ vs.size = e.2 ∧ e.1 ≤ e.2) ∧ (∀ o, g.ok b o → o < e.1) ∧ ¬ M b
  tkinj : ∀ t t' b e e', g.tk t = some (b, e) → g.tk t' = some (b, e') → t = t'
  tkbl : ∀ t t' b e, g.tk t = some (b, e) → g.bl t' ≠ some b
  okin : OkIn w g.ok
  Mlt : ∀ b, M b → b < w.heap.size
  okcg : ∀ b o, okc b o → g.ok b o
  okM : ∀ b o, g.ok b o → okc b o ∨ ¬ M b
  dsM : ∀ b, b ∈ ds → w.heap[b]? = some (.deferred (some [])) ∧ ¬ M b
  dsnd : ds.Nodup
  rr : RoundRec w M C.ro
  hJ : C.V.J s.lg.len M okc w
  rh : ∀ b x, g.rh b = some x → M b ∧ w.heap[b]? = some x
  yl : g.yl = C.yl
  ry : C.yl ≠ none → ∀ b, g.rh b = none

/-- a frame's state and the machine's -/
structure SR (C : Ctx T) (s : St T) (g : Gh) (M : Nat → Prop) (okc : Nat → Nat → Prop) (ds : List Nat) (a : Act) (w : World) : Prop where
  size : a.tmps.size = C.nt
  defs : a.defers = marksD ds
  tm : ∀ t, t < C.nt → Rel C.P C.D w g (s.get t) (a.tmps.getD t undef)
  wr : WR C s g M okc ds w

end Go.Px

namespace Go.Px
variable {T : Nat → Type}

theorem Evo.refl (w : World) (ok : Nat → Nat → Prop) : Evo w ok w ok := ⟨Nat.le_refl _, fun _ _ _ => rfl, fun _ _ h => h⟩
theorem Evo.trans {w w1 w2 : World} {ok ok1 ok2 : Nat → Nat → Prop} (h : Evo w ok w1 ok1) (k : Evo w1 ok1 w2 ok2) : Evo w ok w2 ok2 :=
  ⟨Nat.le_trans h.size k.size, fun b o hb => (k.cell b o (h.ok b o hb)).trans (h.cell b o hb), fun b o hb => k.ok b o (h.ok b o hb)⟩

theorem Quiet.refl (M : Nat → Prop) (okc : Nat → Nat → Prop) (w : World) : Quiet M okc w w := ⟨rfl, rfl, rfl, Nat.le_refl _, fun _ _ => rfl, fun _ _ _ => rfl⟩
theorem Quiet.trans {M : Nat → Prop} {okc : Nat → Nat → Prop} {w w1 w2 : World} (h : Quiet M okc w w1) (k : Quiet M okc w1 w2) : Quiet M okc w w2 :=
  ⟨k.os.trans h.os, k.tape.trans h.tape, k.output.trans h.output, Nat.le_trans h.size k.size, fun b hb => (k.block b hb).trans (h.block b hb), fun b o hb => (k.cell b o hb).trans (h.cell b o hb)⟩

theorem RelD.mono {D : Tab T} {w w' : World} {ok ok' : Nat → Nat → Prop} (hc : ∀ b o, ok b o → w'.cell? ⟨b, o, none⟩ = w.cell? ⟨b, o, none⟩) (ho : ∀ b o, ok b o → ok' b o)
    {c : PV T} {v : Value} (h : RelD D w ok c v) : RelD D w' ok' c v := by
  induction h with
  | int k n => exact .int k n
  | bool b => exact .bool b
  | sl E l o a cap f hcap ha hr ih =>
    refine .sl E l o a cap f hcap (fun i j x hx c hc' => ?_) ih
    obtain ⟨b, off, e, h1, h2⟩ := ha i j x hx c hc'
    exact ⟨b, off, e, (hc _ _ h2).trans h1, ho _ _ h2⟩

theorem RelD.own {D : Tab T} {w : World} {ok : Nat → Nat → Prop} {E : Nat} {l : List (T E)} {o o' : Own} {v : Value} (h : RelD D w ok (.sl E l o) v) : RelD D w ok (.sl E l o') v := by
  cases h with
  | sl _ _ _ a cap f hcap ha hr => exact .sl E l o' a cap f hcap ha hr

theorem RelV.mono {D : Tab T} {w w' : World} {ok ok' : Nat → Nat → Prop} (hc : ∀ b o, ok b o → w'.cell? ⟨b, o, none⟩ = w.cell? ⟨b, o, none⟩) (ho : ∀ b o, ok b o → ok' b o)
    {c : PV T} {v : Value} (h : RelV D w ok c v) : RelV D w' ok' c v := by
  cases h with
  | cell h => exact .cell (h.mono hc ho)
  | agg cs vs hn h => exact .agg cs vs hn fun i c hi => (h i c hi).mono hc ho

theorem PrdOK.mono {P : Program} {D : Tab T} {w w' : World} {ok ok' : Nat → Nat → Prop} {rh : Nat → Option Obj} (he : Evo w ok w' ok') {A R : List Nat} {p : Tup T A → Option (Tup T R)} {v : Value}
    (h : PrdOK P D w ok rh A R p v) : PrdOK P D w' ok' rh A R p v := by
  obtain ⟨f, caps, e, h⟩ := h
  exact ⟨f, caps, e, fun x y hp => ⟨(h x y hp).1, fun w2 ok2 h2 hi => (h x y hp).2 w2 ok2 (he.trans h2) hi⟩⟩

theorem PrdOK.more {P : Program} {D : Tab T} {w : World} {ok : Nat → Nat → Prop} {rh rh' : Nat → Option Obj} {A R : List Nat} {p : Tup T A → Option (Tup T R)} {v : Value}
    (h : PrdOK P D w ok rh A R p v) (hh : ∀ b x, rh b = some x → rh' b = some x) : PrdOK P D w ok rh' A R p v := by
  obtain ⟨f, caps, e, h⟩ := h
  exact ⟨f, caps, e, fun x y hp => ⟨(h x y hp).1, fun w2 ok2 h2 hi hr => (h x y hp).2 w2 ok2 h2 hi fun b z hz => hr b z (hh b z hz)⟩⟩

theorem SeqOK.mono {P : Program} {D : Tab T} {w w' : World} {ok ok' : Nat → Nat → Prop} (he : Evo w ok w' ok') {A : List Nat} {xs : List (Tup T A)} {v : Value}
    (h : SeqOK P D w ok A xs v) : SeqOK P D w' ok' A xs v := by
  obtain ⟨f, caps, e, hb, h⟩ := h
  exact ⟨f, caps, e, hb, fun l m V hV M okc w2 hJ hM h4 h5 h6 => h l m V hV M okc w2 hJ hM (he.trans h4) h5 h6⟩

/-- names go on: the last box of a name is the same, or a later one -/
structure GhLe (g g' : Gh) : Prop where
  bl : ∀ t, g.bv t < g'.bv t ∨ (g.bv t = g'.bv t ∧ g.bl t = g'.bl t)
  tk : ∀ t, g.tv t < g'.tv t ∨ (g.tv t = g'.tv t ∧ g.tk t = g'.tk t)
  yl : g'.yl = g.yl
  rh : g'.rh = g.rh

theorem GhLe.refl (g : Gh) : GhLe g g := ⟨fun _ => .inr ⟨rfl, rfl⟩, fun _ => .inr ⟨rfl, rfl⟩, rfl, rfl⟩
theorem GhLe.trans {g g1 g2 : Gh} (h : GhLe g g1) (k : GhLe g1 g2) : GhLe g g2 := by
  refine ⟨fun t => ?_, fun t => ?_, k.yl.trans h.yl, k.rh.trans h.rh⟩
  · rcases h.bl t with a | ⟨a, a'⟩ <;> rcases k.bl t with b | ⟨b, b'⟩
    · exact .inl (by omega)
    · exact .inl (by omega)
    · exact .inl (by omega)
    · exact .inr ⟨a.trans b, a'.trans b'⟩
  · rcases h.tk t with a | ⟨a, a'⟩ <;> rcases k.tk t with b | ⟨b, b'⟩
    · exact .inl (by omega)
    · exact .inl (by omega)
    · exact .inl (by omega)
    · exact .inr ⟨a.trans b, a'.trans b'⟩

theorem GhLe.bsome {g g' : Gh} (hg : GhLe g g') {t k b : Nat} (hk : k ≤ g.bv t) (h : k = g.bv t → g.bl t = some b) : k ≤ g'.bv t ∧ (k = g'.bv t → g'.bl t = some b) := by
  rcases hg.bl t with a | ⟨a, a'⟩
  · exact ⟨by omega, fun e => absurd e (by omega)⟩
  · exact ⟨by omega, fun e => a' ▸ h (e.trans a.symm)⟩

theorem OwnOK.mono {D : Tab T} {g g' : Gh} (hg : GhLe g g') {E n : Nat} {o : Own} {v : Value} (h : OwnOK D g E n o v) : OwnOK D g' E n o v := by
  cases o with
  | no => trivial
  | nil => exact h
  | full => exact h
  | tok t k =>
    obtain ⟨hk, h⟩ := h
    rcases hg.tk t with a | ⟨a, a'⟩
    · exact ⟨by omega, fun e => absurd e (by omega)⟩
    · refine ⟨by omega, fun e => ?_⟩
      rcases h (e.trans a.symm) with h | h | ⟨b, off, cap, lim, e, ht, hl⟩
      · exact .inl h
      · exact .inr (.inl h)
      · exact .inr (.inr ⟨b, off, cap, lim, e, a' ▸ ht, hl⟩)

theorem Rel.mono {P : Program} {D : Tab T} {w w' : World} {g g' : Gh} (he : Evo w g.ok w' g'.ok) (hg : GhLe g g') {c : PV T} {v : Value} (h : Rel P D w g c v) : Rel P D w' g' c v := by
  induction h with
  | undef v => exact .undef v
  | skip => exact .skip
  | int k n => exact .int k n
  | bool b => exact .bool b
  | nilp => exact .nilp
  | nilf => exact .nilf
  | nili => exact .nili
  | sl E l o v h ho => exact .sl E l o v (h.mono he.cell he.ok) (ho.mono hg)
  | bsl E t k n b hk h => exact .bsl E t k n b (hg.bsome hk h).1 (hg.bsome hk h).2
  | agg cs vs hn h ih => exact .agg cs vs hn ih
  | tup cs vs hn h ih => exact .tup cs vs hn ih
  | loc t k off b hk h => exact .loc t k off b (hg.bsome hk h).1 (hg.bsome hk h).2
  | rp cs b off f hc h ih =>
    refine .rp cs b off f (fun i c hi => ?_) ih
    rcases hc i c hi with h | h
    · exact .inl ⟨(he.cell _ _ h.2).trans h.1, he.ok _ _ h.2⟩
    · exact .inr (hg.rh ▸ h)
  | clo f cs vs hn h ih => exact .clo f cs vs hn ih
  | prd A R p v h => exact .prd A R p v (hg.rh ▸ h.mono he)
  | seq A xs v h => exact .seq A xs v (h.mono he)
  | yld l h => exact .yld l (hg.yl.trans h)
  | ifc t c v h ih => exact .ifc t c v ih

theorem RelL.mono {P : Program} {D : Tab T} {w w' : World} {g g' : Gh} (he : Evo w g.ok w' g'.ok) (hg : GhLe g g') {cs : List (PV T)} {vs : Array Value} (h : RelL P D w g cs vs) : RelL P D w' g' cs vs :=
  ⟨h.1, fun i c hi => (h.2 i c hi).mono he hg⟩

theorem Rel.untok {P : Program} {D : Tab T} {w : World} {g : Gh} {c : PV T} {v : Value} (h : Rel P D w g c v) : Rel P D w g (untok c) v := by
  cases h with
  | sl E l o v h ho => cases o <;> first | exact .sl E l _ v h ho | exact .sl E l .no v h trivial
  | undef v => exact .undef v
  | skip => exact .skip
  | int k n => exact .int k n
  | bool b => exact .bool b
  | nilp => exact .nilp
  | nilf => exact .nilf
  | nili => exact .nili
  | bsl E t k n b hk h => exact .bsl E t k n b hk h
  | agg cs vs hn h => exact .agg cs vs hn h
  | tup cs vs hn h => exact .tup cs vs hn h
  | loc t k off b hk h => exact .loc t k off b hk h
  | rp cs b off f hc h => exact .rp cs b off f hc h
  | clo f cs vs hn h => exact .clo f cs vs hn h
  | prd A R p v h => exact .prd A R p _ h
  | seq A xs v h => exact .seq A xs _ h
  | yld l h => exact .yld l h
  | ifc t c v h => exact .ifc t c v h

theorem cleanL_get : ∀ {cs : List (PV T)} {i : Nat} {c : PV T}, cleanL cs = true → cs[i]? = some c → c.clean = true
  | [], _, _, _, h => by simp at h
  | d :: r, i, c, h, hi => by
    unfold cleanL at h
    split at h
    · rename_i hd
      cases i with
      | zero => simp at hi; exact hi ▸ hd
      | succ i => exact cleanL_get h (by simpa using hi)
    · simp at h

theorem cleanL_of : ∀ {cs : List (PV T)}, (∀ c, c ∈ cs → c.clean = true) → cleanL cs = true
  | [], _ => rfl
  | d :: r, h => by
    unfold cleanL
    rw [h d (by simp)]
    exact cleanL_of fun c hc => h c (by simp [hc])

theorem norpL_get : ∀ {cs : List (PV T)} {i : Nat} {c : PV T}, norpL cs = true → cs[i]? = some c → c.norp = true
  | [], _, _, _, h => by simp at h
  | d :: r, i, c, h, hi => by
    unfold norpL at h
    split at h
    · rename_i hd
      cases i with
      | zero => simp at hi; exact hi ▸ hd
      | succ i => exact norpL_get h (by simpa using hi)
    · simp at h

theorem norpL_of : ∀ {cs : List (PV T)}, (∀ c, c ∈ cs → c.norp = true) → norpL cs = true
  | [], _ => rfl
  | d :: r, h => by
    unfold norpL
    rw [h d (by simp)]
    exact norpL_of fun c hc => h c (by simp [hc])

/-- a clean value, in another frame that knows what the first one knows -/
theorem Rel.move {P : Program} {D : Tab T} {w w' : World} {g g' : Gh} (he : Evo w g.ok w' g'.ok) (hh : ∀ b x, g.rh b = some x → g'.rh b = some x) {c : PV T} {v : Value} (h : Rel P D w g c v) : c.clean = true → Rel P D w' g' c v := by
  induction h with
  | undef v => exact fun _ => .undef v
  | skip => exact fun _ => .skip
  | int k n => exact fun _ => .int k n
  | bool b => exact fun _ => .bool b
  | nilp => exact fun _ => .nilp
  | nilf => exact fun _ => .nilf
  | nili => exact fun _ => .nili
  | sl E l o v h ho =>
    intro hr
    refine .sl E l o v (h.mono he.cell he.ok) ?_
    cases o with
    | no => trivial
    | nil => exact ho
    | full => exact ho
    | tok t k => simp [PV.clean] at hr
  | bsl E t k n b hk h => intro hr; simp [PV.clean] at hr
  | agg cs vs hn h ih => exact fun hr => .agg cs vs hn fun i c hi => ih i c hi (cleanL_get (by simpa [PV.clean] using hr) hi)
  | tup cs vs hn h ih => exact fun hr => .tup cs vs hn fun i c hi => ih i c hi (cleanL_get (by simpa [PV.clean] using hr) hi)
  | loc t k off b hk h => intro hr; simp [PV.clean] at hr
  | rp cs b off f hc h ih =>
    refine fun hr => .rp cs b off f (fun i c hi => ?_) fun i c hi => ih i c hi (cleanL_get (by simpa [PV.clean] using hr) hi)
    rcases hc i c hi with h | ⟨vs, E, z, h1, h2⟩
    · exact .inl ⟨(he.cell _ _ h.2).trans h.1, he.ok _ _ h.2⟩
    · exact .inr ⟨vs, E, z, hh _ _ h1, h2⟩
  | clo f cs vs hn h ih => exact fun hr => .clo f cs vs hn fun i c hi => ih i c hi (cleanL_get (by simpa [PV.clean] using hr) hi)
  | prd A R p v h => exact fun _ => .prd A R p v ((h.mono he).more hh)
  | seq A xs v h => exact fun _ => .seq A xs v (h.mono he)
  | yld l h => intro hr; simp [PV.clean] at hr
  | ifc t c v h ih => exact fun hr => .ifc t c v (ih (by simpa [PV.clean] using hr))

/-- a clean value that looks into nothing that was lent -/
theorem Rel.moveR {P : Program} {D : Tab T} {w w' : World} {g g' : Gh} (he : Evo w g.ok w' g'.ok) {c : PV T} {v : Value} (h : Rel P D w g c v) : c.clean = true → c.norp = true → Rel P D w' g' c v := by
  induction h with
  | undef v => exact fun _ _ => .undef v
  | skip => exact fun _ _ => .skip
  | int k n => exact fun _ _ => .int k n
  | bool b => exact fun _ _ => .bool b
  | nilp => exact fun _ _ => .nilp
  | nilf => exact fun _ _ => .nilf
  | nili => exact fun _ _ => .nili
  | sl E l o v h ho =>
    intro hr _
    refine .sl E l o v (h.mono he.cell he.ok) ?_
    cases o with
    | no => trivial
    | nil => exact ho
    | full => exact ho
    | tok t k => simp [PV.clean] at hr
  | bsl E t k n b hk h => intro hr; simp [PV.clean] at hr
  | agg cs vs hn h ih => exact fun hr hn' => .agg cs vs hn fun i c hi => ih i c hi (cleanL_get (by simpa [PV.clean] using hr) hi) (norpL_get (by simpa [PV.norp] using hn') hi)
  | tup cs vs hn h ih => exact fun hr hn' => .tup cs vs hn fun i c hi => ih i c hi (cleanL_get (by simpa [PV.clean] using hr) hi) (norpL_get (by simpa [PV.norp] using hn') hi)
  | loc t k off b hk h => intro hr; simp [PV.clean] at hr
  | rp cs b off f hc h ih => intro _ hn; simp [PV.norp] at hn
  | clo f cs vs hn h ih => exact fun hr hn' => .clo f cs vs hn fun i c hi => ih i c hi (cleanL_get (by simpa [PV.clean] using hr) hi) (norpL_get (by simpa [PV.norp] using hn') hi)
  | prd A R p v h => intro _ hn; simp [PV.norp] at hn
  | seq A xs v h => exact fun _ _ => .seq A xs v (h.mono he)
  | yld l h => intro hr; simp [PV.clean] at hr
  | ifc t c v h ih => exact fun hr hn => .ifc t c v (ih (by simpa [PV.clean] using hr) (by simpa [PV.norp] using hn))

theorem Rel.cl {P : Program} {D : Tab T} {w : World} {g : Gh} {c : PV T} {v : Value} (h : Rel P D w g c v) : Rel P D w g (Px.cl c) v := by
  unfold Px.cl
  split
  · exact h
  · exact .undef _

theorem cl_clean (c : PV T) : (Px.cl c).clean = true := by
  unfold Px.cl
  split
  · assumption
  · simp [PV.clean]

/-- what one cell of memory can hold is the value of one cell -/
theorem Rel.oneCell {P : Program} {D : Tab T} {w : World} {g : Gh} {c : PV T} {v : Value} (h : Rel P D w g c v) (hc : c.cellOk = true) : (∀ cs, v ≠ .agg cs) ∧ (∀ vs, v ≠ .tuple vs) := by
  cases h <;> simp [PV.cellOk] at hc <;> try (constructor <;> intro _ h <;> cases h; done)
  case sl E l o h ho => cases h; constructor <;> intro _ h <;> cases h
  case prd A R p h => obtain ⟨f, caps, rfl, _⟩ := h; constructor <;> intro _ h <;> cases h
  case seq A xs h => obtain ⟨f, caps, rfl, _⟩ := h; constructor <;> intro _ h <;> cases h

theorem Value.cells_of {v : Value} (h1 : ∀ cs, v ≠ .agg cs) : v.cells = #[v] := by
  cases v <;> simp [Value.cells]
  case agg cs => exact absurd rfl (h1 cs)

theorem getD_single {v d : Value} {i : Nat} : (#[v] : Array Value).getD i d = if i = 0 then v else d := by
  cases i <;> simp [Array.getD]

/-- the cells of a value that is known cell by cell -/
theorem Rel.cells {P : Program} {D : Tab T} {w : World} {g : Gh} {c : PV T} {v : Value} (h : Rel P D w g c v) (hc : c.known = true) : RelL P D w g c.cells v.cells := by
  by_cases ha : ∃ cs, c = .agg cs
  · obtain ⟨cs, rfl⟩ := ha
    cases h with
    | agg _ vs hn h => exact ⟨hn, h⟩
  · have hk : c.cellOk = true := by cases c <;> first | exact hc | exact absurd ⟨_, rfl⟩ ha
    have h1 : c.cells = [c] := by cases c <;> first | rfl | exact absurd ⟨_, rfl⟩ ha
    rw [h1, Value.cells_of (h.oneCell hk).1]
    refine ⟨rfl, fun i d hd => ?_⟩
    cases i with
    | zero => simp at hd; subst hd; simpa [Array.getD] using h
    | succ i => simp at hd

end Go.Px

namespace Go.Px
variable {T : Nat → Type} {ρ : Type}

/-- a specification that only hands its result on -/
def SpecNat (S : Specs T) : Prop := ∀ {ρ : Type} (f : Nat) (args obj : List (PV T)) (k : PV T → List (PV T) → Option ρ),
  S f args obj k = (S f args obj fun v o => some (v, o)).bind fun x => k x.1 x.2

theorem cond_bind {α β : Type} (b : Bool) (x y : Option α) (f : α → Option β) : (cond b x y).bind f = cond b (x.bind f) (y.bind f) := by cases b <;> rfl

theorem pickIdx_bind {α β : Type} (i : Int) (k : Nat → Option α) (f : α → Option β) : ∀ n j, (pickIdx i k n j).bind f = pickIdx i (fun j => (k j).bind f) n j
  | 0, _ => rfl
  | n + 1, j => by simp only [pickIdx, cond_bind, pickIdx_bind]

theorem evBin_bind {α β : Type} (op : BinOp) (x y : PV T) (k : PV T → Option α) (f : α → Option β) : (evBin op x y k).bind f = evBin op x y (fun v => (k v).bind f) := by
  unfold evBin
  split <;> first | rfl | (simp only [cond_bind]; rfl) | (split <;> first | rfl | (simp only [cond_bind]; rfl))

theorem callK_bind {α β : Type} {S : Specs T} (hS : SpecNat S) (s : St T) (d : Option Nat) (f : Nat) (args : List (PV T)) (k : PV T → List (Upd T) → Option α) (g : α → Option β) :
    (callK S s d f args k).bind g = callK S s d f args (fun v u => (k v u).bind g) := by
  unfold callK
  split
  · rw [hS f (args.map fun a => cl (s.view a)) [] (fun v x => _), hS f (args.map fun a => cl (s.view a)) [] (ρ := β) (fun v x => _), Option.bind_assoc]
    refine congrArg (Option.bind _) (funext fun x => ?_)
    cases d with
    | none => rfl
    | some d => simp only []; split <;> rfl
  · split
    · rfl
    · split
      · rw [hS _ _ _ (fun v x => _), hS _ _ _ (ρ := β) (fun v x => _), Option.bind_assoc]
        refine congrArg (Option.bind _) (funext fun x => ?_)
        cases d with
        | none => rfl
        | some d => simp only []; split <;> rfl
      · rfl

theorem callF_bind {α β : Type} {D : Tab T} {S : Specs T} (hS : SpecNat S) (s : St T) (d : Option Nat) (f : Nat) (args : List (PV T)) (k : PV T → List (Upd T) → List Nat → Option α) (g : α → Option β) :
    (callF D S s d f args k).bind g = callF D S s d f args (fun v u r => (k v u r).bind g) := by
  unfold callF
  split
  · exact callK_bind hS ..
  · split
    · rfl
    · split
      · exact callK_bind hS ..
      · rfl

theorem evOp_bind {α β : Type} {D : Tab T} {S : Specs T} (hS : SpecNat S) (s : St T) (o : Oper) (k : PV T → List (Upd T) → List Nat → Option α) (g : α → Option β) :
    (evOp D S s o k).bind g = evOp D S s o (fun v u r => (k v u r).bind g) := by
  unfold evOp
  cases o.op with
  | call c =>
    simp only []
    cases c.callee with
    | builtin b => 
      simp only []
      split <;> first | rfl | (split <;> first | rfl | (split <;> first | rfl | (split <;> first | rfl | (split <;> first | rfl | (rw [cond_bind]; rfl) | (split <;> first | rfl | (rw [cond_bind]; rfl))))))
    | value f =>
      simp only []
      split
      · exact callF_bind hS ..
      · split
        · simp only [Option.bind_assoc, cond_bind]
        · rfl
      · simp only [Option.bind_assoc]
      · rfl
    | invoke r n =>
      simp only []
      split
      · split
        · exact callF_bind hS ..
        · rfl
      · rfl
  | binOp op xt x y yt =>
    simp only []
    split
    · split <;> first | rfl | (split <;> rfl)
    · split <;> first | rfl | (split <;> rfl)
    · split <;> first | rfl | (split <;> rfl)
    · split <;> first | rfl | (split <;> rfl)
    · exact evBin_bind ..
  | _ => 
    simp only []
    repeat' (first | rfl | (rw [cond_bind]; rfl) | (simp only [cond_bind, pickIdx_bind, Option.bind_assoc]; done) | split)

theorem evOp_eq {D : Tab T} {S : Specs T} (hS : SpecNat S) (s : St T) (o : Oper) (k : PV T → List (Upd T) → List Nat → Option ρ) :
    evOp D S s o k = (evOp D S s o fun v u r => some (v, u, r)).bind fun x => k x.1 x.2.1 x.2.2 := by
  rw [evOp_bind hS]; rfl

theorem evOp_some {D : Tab T} {S : Specs T} (hS : SpecNat S) {s : St T} {o : Oper} {k : PV T → List (Upd T) → List Nat → Option ρ} {r : ρ} (h : evOp D S s o k = some r) :
    ∃ v u f, evOp D S s o (fun v u r => some (v, u, r)) = some (v, u, f) ∧ k v u f = some r := by
  rw [evOp_eq hS] at h
  obtain ⟨x, h1, h2⟩ := Option.bind_eq_some_iff.1 h
  exact ⟨x.1, x.2.1, x.2.2, h1, h2⟩

end Go.Px

