/-
  The plain types that the program uses, and how they lie in memory.
  Conditions: those that the theorems name.
-/
import Derived.Test.YtlndinolkjgjbaaPa
import Derived.Test.YtlndinolkjgjbaaProg
set_option linter.all false
namespace Go.Proofs.Bol
open Go.Px
structure Kit_Ring where
  l : List Int
  at_ : Int
structure Vec where
  X : Int
  Y : Int
structure Body where
  Mu : Int
  Radius : Int
  Track : List Vec
structure World where
  Bodies : List Body
  Home : Int
structure Station where
  ID : Int
  Off : Vec
structure Span where
  Lo : Int
  Hi : Int
structure Catalog where
  Version : Int
  Bias : Span
structure Sky where
  World : World
  Stations : List Station
  Catalogs : List Catalog
structure Drift where
  Light : Span
  Heat : Span
  Gas : Int
structure Box where
  X : Span
  Y : Span
  U : Span
  V : Span
structure State where
  X : Int
  Y : Int
  U : Int
  V : Int
structure Area where
  X : Span
  Y : Span
structure Force_heavy where
  Body : Body
  at_ : Vec
structure Span_wide where
  high : Int
  low : Int
structure Span_signed where
  wide : Span_wide
  below : Bool

def T : Nat → Type
  | 2 => Int
  | 3 => Int
  | 4 => Bool
  | 22 => List Int
  | 24 => List Body
  | 26 => World
  | 27 => List Station
  | 28 => List Catalog
  | 30 => Sky
  | 32 => Span
  | 34 => Drift
  | 36 => Box
  | 38 => State
  | 41 => Int
  | 45 => List Int
  | 63 => Kit_Ring
  | 65 => List Vec
  | 67 => Body
  | 69 => Vec
  | 72 => Station
  | 74 => Catalog
  | 75 => Int × Int × Int × Int
  | 80 => Span × Span × Span × Span
  | 81 => Span × Span × Span × Span
  | 84 => Area
  | 107 => Force_heavy
  | 110 => List Area
  | 121 => List Span
  | 125 => List Vec
  | 129 => Int × Int
  | 136 => Int
  | 138 => Span_wide
  | 140 => Span_signed
  | 159 => (Int × Int) × (Int × Int)
  | _ => Empty

def cd2 : Cd T Int := cdInt .i64
def cd3 : Cd T Int := cdInt .i64
def cd4 : Cd T Bool := cdBool
def cd22 : Cd T (List Int) := cdSl 3
def cd69 : Cd T Vec := Cd.map (Cd.pair cd2 cd2) (fun p => Vec.mk p.1 p.2) (fun x => (x.X, x.Y))
def cd65 : Cd T (List Vec) := cdSl 69
def cd67 : Cd T Body := Cd.map (Cd.pair cd2 (Cd.pair cd2 cd65)) (fun p => Body.mk p.1 p.2.1 p.2.2) (fun x => (x.Mu, x.Radius, x.Track))
def cd24 : Cd T (List Body) := cdSl 67
def cd26 : Cd T World := Cd.map (Cd.pair cd24 cd3) (fun p => World.mk p.1 p.2) (fun x => (x.Bodies, x.Home))
def cd72 : Cd T Station := Cd.map (Cd.pair cd3 cd69) (fun p => Station.mk p.1 p.2) (fun x => (x.ID, x.Off))
def cd27 : Cd T (List Station) := cdSl 72
def cd32 : Cd T Span := Cd.map (Cd.pair cd2 cd2) (fun p => Span.mk p.1 p.2) (fun x => (x.Lo, x.Hi))
def cd74 : Cd T Catalog := Cd.map (Cd.pair cd3 cd32) (fun p => Catalog.mk p.1 p.2) (fun x => (x.Version, x.Bias))
def cd28 : Cd T (List Catalog) := cdSl 74
def cd30 : Cd T Sky := Cd.map (Cd.pair cd26 (Cd.pair cd27 cd28)) (fun p => Sky.mk p.1 p.2.1 p.2.2) (fun x => (x.World, x.Stations, x.Catalogs))
def cd34 : Cd T Drift := Cd.map (Cd.pair cd32 (Cd.pair cd32 cd2)) (fun p => Drift.mk p.1 p.2.1 p.2.2) (fun x => (x.Light, x.Heat, x.Gas))
def cd36 : Cd T Box := Cd.map (Cd.pair cd32 (Cd.pair cd32 (Cd.pair cd32 cd32))) (fun p => Box.mk p.1 p.2.1 p.2.2.1 p.2.2.2) (fun x => (x.X, x.Y, x.U, x.V))
def cd38 : Cd T State := Cd.map (Cd.pair cd2 (Cd.pair cd2 (Cd.pair cd2 cd2))) (fun p => State.mk p.1 p.2.1 p.2.2.1 p.2.2.2) (fun x => (x.X, x.Y, x.U, x.V))
def cd41 : Cd T Int := cdInt .i64
def cd45 : Cd T (List Int) := cdSl 2
def cd63 : Cd T Kit_Ring := Cd.map (Cd.pair cd22 cd3) (fun p => Kit_Ring.mk p.1 p.2) (fun x => (x.l, x.at_))
def cd75 : Cd T (Int × Int × Int × Int) := (Cd.pair cd2 (Cd.pair cd2 (Cd.pair cd2 cd2)))
def cd80 : Cd T (Span × Span × Span × Span) := (Cd.pair cd32 (Cd.pair cd32 (Cd.pair cd32 cd32)))
def cd81 : Cd T (Span × Span × Span × Span) := (Cd.pair cd32 (Cd.pair cd32 (Cd.pair cd32 cd32)))
def cd84 : Cd T Area := Cd.map (Cd.pair cd32 cd32) (fun p => Area.mk p.1 p.2) (fun x => (x.X, x.Y))
def cd107 : Cd T Force_heavy := Cd.map (Cd.pair cd67 cd69) (fun p => Force_heavy.mk p.1 p.2) (fun x => (x.Body, x.at_))
def cd110 : Cd T (List Area) := cdSl 84
def cd121 : Cd T (List Span) := cdSl 32
def cd125 : Cd T (List Vec) := cdSl 69
def cd129 : Cd T (Int × Int) := (Cd.pair cd2 cd2)
def cd136 : Cd T Int := cdInt .u64
def cd138 : Cd T Span_wide := Cd.map (Cd.pair cd136 cd136) (fun p => Span_wide.mk p.1 p.2) (fun x => (x.high, x.low))
def cd140 : Cd T Span_signed := Cd.map (Cd.pair cd138 cd4) (fun p => Span_signed.mk p.1 p.2) (fun x => (x.wide, x.below))
def cd159 : Cd T ((Int × Int) × (Int × Int)) := (Cd.pair cd129 cd129)

def enc : (E : Nat) → T E → List (PV T)
  | 2 => cd2.enc
  | 3 => cd3.enc
  | 4 => cd4.enc
  | 22 => cd22.enc
  | 24 => cd24.enc
  | 26 => cd26.enc
  | 27 => cd27.enc
  | 28 => cd28.enc
  | 30 => cd30.enc
  | 32 => cd32.enc
  | 34 => cd34.enc
  | 36 => cd36.enc
  | 38 => cd38.enc
  | 41 => cd41.enc
  | 45 => cd45.enc
  | 63 => cd63.enc
  | 65 => cd65.enc
  | 67 => cd67.enc
  | 69 => cd69.enc
  | 72 => cd72.enc
  | 74 => cd74.enc
  | 75 => cd75.enc
  | 80 => cd80.enc
  | 81 => cd81.enc
  | 84 => cd84.enc
  | 107 => cd107.enc
  | 110 => cd110.enc
  | 121 => cd121.enc
  | 125 => cd125.enc
  | 129 => cd129.enc
  | 136 => cd136.enc
  | 138 => cd138.enc
  | 140 => cd140.enc
  | 159 => cd159.enc
  | _ => fun _ => []

def dec : (E : Nat) → List (PV T) → Option (T E)
  | 2 => cd2.dec
  | 3 => cd3.dec
  | 4 => cd4.dec
  | 22 => cd22.dec
  | 24 => cd24.dec
  | 26 => cd26.dec
  | 27 => cd27.dec
  | 28 => cd28.dec
  | 30 => cd30.dec
  | 32 => cd32.dec
  | 34 => cd34.dec
  | 36 => cd36.dec
  | 38 => cd38.dec
  | 41 => cd41.dec
  | 45 => cd45.dec
  | 63 => cd63.dec
  | 65 => cd65.dec
  | 67 => cd67.dec
  | 69 => cd69.dec
  | 72 => cd72.dec
  | 74 => cd74.dec
  | 75 => cd75.dec
  | 80 => cd80.dec
  | 81 => cd81.dec
  | 84 => cd84.dec
  | 107 => cd107.dec
  | 110 => cd110.dec
  | 121 => cd121.dec
  | 125 => cd125.dec
  | 129 => cd129.dec
  | 136 => cd136.dec
  | 138 => cd138.dec
  | 140 => cd140.dec
  | 159 => cd159.dec
  | _ => fun _ => none

def infos : List (Nat × TI T) := [
  (2, ⟨false, 1, 8, [.int .i64 0], [], none, none, some .i64⟩),
  (3, ⟨false, 1, 8, [.int .i64 0], [], none, none, some .i64⟩),
  (4, ⟨false, 1, 1, [.bool false], [], none, none, none⟩),
  (22, ⟨false, 1, 24, [.sl 3 [] .nil], [], none, some (3, 1, 8), none⟩),
  (24, ⟨false, 1, 24, [.sl 67 [] .nil], [], none, some (67, 3, 40), none⟩),
  (26, ⟨true, 2, 32, [.sl 67 [] .nil, .int .i64 0], [(0, 1), (1, 1)], none, none, none⟩),
  (27, ⟨false, 1, 24, [.sl 72 [] .nil], [], none, some (72, 3, 24), none⟩),
  (28, ⟨false, 1, 24, [.sl 74 [] .nil], [], none, some (74, 3, 24), none⟩),
  (30, ⟨true, 4, 80, [.sl 67 [] .nil, .int .i64 0, .sl 72 [] .nil, .sl 74 [] .nil], [(0, 2), (2, 1), (3, 1)], none, none, none⟩),
  (32, ⟨true, 2, 16, [.int .i64 0, .int .i64 0], [(0, 1), (1, 1)], none, none, none⟩),
  (34, ⟨true, 5, 40, [.int .i64 0, .int .i64 0, .int .i64 0, .int .i64 0, .int .i64 0], [(0, 2), (2, 2), (4, 1)], none, none, none⟩),
  (36, ⟨true, 8, 64, [.int .i64 0, .int .i64 0, .int .i64 0, .int .i64 0, .int .i64 0, .int .i64 0, .int .i64 0, .int .i64 0], [(0, 2), (2, 2), (4, 2), (6, 2)], none, none, none⟩),
  (38, ⟨true, 4, 32, [.int .i64 0, .int .i64 0, .int .i64 0, .int .i64 0], [(0, 1), (1, 1), (2, 1), (3, 1)], none, none, none⟩),
  (41, ⟨false, 1, 8, [.int .i64 0], [], none, none, some .i64⟩),
  (45, ⟨false, 1, 24, [.sl 2 [] .nil], [], none, some (2, 1, 8), none⟩),
  (63, ⟨true, 2, 32, [.sl 3 [] .nil, .int .i64 0], [(0, 1), (1, 1)], none, none, none⟩),
  (65, ⟨false, 1, 24, [.sl 69 [] .nil], [], none, some (69, 2, 16), none⟩),
  (67, ⟨true, 3, 40, [.int .i64 0, .int .i64 0, .sl 69 [] .nil], [(0, 1), (1, 1), (2, 1)], none, none, none⟩),
  (69, ⟨true, 2, 16, [.int .i64 0, .int .i64 0], [(0, 1), (1, 1)], none, none, none⟩),
  (72, ⟨true, 3, 24, [.int .i64 0, .int .i64 0, .int .i64 0], [(0, 1), (1, 2)], none, none, none⟩),
  (74, ⟨true, 3, 24, [.int .i64 0, .int .i64 0, .int .i64 0], [(0, 1), (1, 2)], none, none, none⟩),
  (75, ⟨true, 4, 32, [.int .i64 0, .int .i64 0, .int .i64 0, .int .i64 0], [], some (4, 2, 1), none, none⟩),
  (80, ⟨true, 8, 64, [.int .i64 0, .int .i64 0, .int .i64 0, .int .i64 0, .int .i64 0, .int .i64 0, .int .i64 0, .int .i64 0], [], some (4, 32, 2), none, none⟩),
  (81, ⟨true, 8, 64, [.int .i64 0, .int .i64 0, .int .i64 0, .int .i64 0, .int .i64 0, .int .i64 0, .int .i64 0, .int .i64 0], [], some (4, 32, 2), none, none⟩),
  (84, ⟨true, 4, 32, [.int .i64 0, .int .i64 0, .int .i64 0, .int .i64 0], [(0, 2), (2, 2)], none, none, none⟩),
  (104, ⟨true, 4, 32, [.int .i64 0, .int .i64 0, .int .i64 0, .int .i64 0], [], some (2, 32, 2), none, none⟩),
  (107, ⟨true, 5, 56, [.int .i64 0, .int .i64 0, .sl 69 [] .nil, .int .i64 0, .int .i64 0], [(0, 3), (3, 2)], none, none, none⟩),
  (110, ⟨false, 1, 24, [.sl 84 [] .nil], [], none, some (84, 4, 32), none⟩),
  (121, ⟨false, 1, 24, [.sl 32 [] .nil], [], none, some (32, 2, 16), none⟩),
  (125, ⟨false, 1, 24, [.sl 69 [] .nil], [], none, some (69, 2, 16), none⟩),
  (129, ⟨true, 2, 16, [.int .i64 0, .int .i64 0], [], some (2, 2, 1), none, none⟩),
  (132, ⟨false, 1, 8, [.int .u64 0], [], none, none, some .u64⟩),
  (136, ⟨false, 1, 8, [.int .u64 0], [], none, none, some .u64⟩),
  (138, ⟨true, 2, 16, [.int .u64 0, .int .u64 0], [(0, 1), (1, 1)], none, none, none⟩),
  (140, ⟨true, 3, 24, [.int .u64 0, .int .u64 0, .bool false], [(0, 2), (2, 1)], none, none, none⟩),
  (151, ⟨false, 1, 8, [.nilf], [], none, none, none⟩),
  (157, ⟨false, 1, 16, [.nili], [], none, none, none⟩),
  (159, ⟨true, 4, 32, [.int .i64 0, .int .i64 0, .int .i64 0, .int .i64 0], [], some (2, 129, 2), none, none⟩)]

def meths : List ((Nat × String) × Nat) := [((107, "bolide/force.distances"), 59), ((107, "bolide/force.edge"), 69), ((107, "bolide/force.pull"), 50), ((107, "bolide/force.to"), 60), ((107, "bolide/force.toward"), 61), ((125, "bolide/sky.at"), 67), ((140, "bolide/span.divide"), 82)]

def eqs : List (Nat × List Bool) := [(4, [false]), (32, [true, true]), (34, [true, true, true, true, true]), (36, [true, true, true, true, true, true, true, true]), (38, [true, true, true, true]), (69, [true, true]), (72, [true, true, true]), (74, [true, true, true]), (84, [true, true, true, true]), (138, [true, true]), (140, [true, true, false])]

def D : Tab T := ⟨fun t => Px.look t infos, enc, dec, meths, [], eqs⟩

end Go.Proofs.Bol
