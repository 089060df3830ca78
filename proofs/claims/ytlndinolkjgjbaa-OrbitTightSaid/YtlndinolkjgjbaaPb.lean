/-
  Proved here: single operations do to memory what the evaluator says.
  Conditions: those that the theorems name.
-/
import Derived.Test.YtlndinolkjgjbaaPa
import Derived.Laws.Entries
import Derived.Laws.StructEq
import Derived.Laws.IdiomCopy
import Derived.Laws.Append
import Derived.Laws.Cells
import Derived.Laws.Tables
import Derived.Laws.Slices
set_option linter.all false
namespace Go.Px
variable {T : Nat → Type} {ρ : Type}

/-! What the table says of the program's types -/

def zeroEq : PV T → Value → Bool
  | .int k n, .int k' n' => decide (k = k') && decide (n = n')
  | .bool b, .bool b' => b == b'
  | .sl _ l .nil, .slice none 0 0 => l.isEmpty
  | .nilp, .pointer none => true
  | .nilf, .nilFunc => true
  | .nili, .nilIface => true
  | _, _ => false

def zerosEq : List (PV T) → List Value → Bool
  | [], [] => true
  | c :: r, v :: q => zeroEq c v && zerosEq r q
  | _, _ => false

def szOf (P : Program) (t : Nat) : Option Nat := (P.info? t).map (·.size)
def byOf (P : Program) (t : Nat) : Option Nat := (P.info? t).map (·.bytes)

def fldsEq (P : Program) : List (Nat × Nat) → List Field → Bool
  | [], [] => true
  | (o, n) :: r, f :: q => Nat.beq f.offset o && (match szOf P f.type with | some m => Nat.beq m n | none => false) && Nat.blt 0 n && fldsEq P r q
  | _, _ => false

def isAggD : TypeDesc → Bool
  | .struct _ => true
  | .array _ _ => true
  | _ => false

/-- one row of the table -/
def tiOk (P : Program) (D : Tab T) (t : Nat) (i : TI T) : Bool :=
  match P.info? t, P.underlying t with
  | some ti, some d =>
    Nat.beq ti.size i.size && Nat.beq ti.bytes i.bytes &&
    (match ti.zero with | some z => zerosEq i.zero z.cells.toList && Nat.beq i.zero.length i.size && (i.agg == (match z with | .agg _ => true | _ => false)) | none => false) &&
    (i.agg == isAggD d) &&
    (match i.agg with | true => true | false => Nat.beq i.size 1) &&
    (match d with | .struct fs => fldsEq P i.flds fs.toList | _ => match i.flds with | [] => true | _ => false) &&
    (match i.arr with
      | some (n, e, z) => (match d with | .array m e' => Nat.beq m n && Nat.beq e' e && (match szOf P e with | some s => Nat.beq s z | none => false) && Nat.beq i.size (n * z) && (match D.info e with | some ei => Nat.beq ei.size z | none => false) | _ => false)
      | none => match d with | .array _ _ => false | _ => true) &&
    (match i.slE with
      | some (E, z, b) => (match d with | .slice e => Nat.beq e E && (match szOf P E with | some s => Nat.beq s z | none => false) && (match byOf P E with | some s => Nat.beq s b | none => false) && Nat.blt 0 z && Nat.blt 0 b && (match D.info E with | some ei => Nat.beq ei.size z | none => false) | _ => false)
      | none => match d with | .slice _ => false | _ => true) &&
    (match i.kind with | some K => (match d with | .int K' => decide (K' = K) | _ => false) | none => true)
  | _, _ => false

/-- a cell with no claim on its row -/
def plainC : PV T → PV T
  | .sl E l _ => .sl E l .no
  | c => c

def isData : PV T → Bool
  | .int _ _ => true
  | .bool _ => true
  | .sl _ _ _ => true
  | _ => false

def methOkP (P : Program) (t : Nat) (name : String) (f : Nat) : Bool := match P.info? t, P.underlying t with
  | some ti, some d => (match ti.methods.find? (·.name == name) with
    | some m => m.path.isEmpty && (match m.func with | some (g, false) => Nat.beq g f | _ => false)
    | none => false) && (match d with | .pointer _ => false | .interface _ => false | _ => true) &&
    (match P.funcs[f]? with | some fn => fn.body.isSome && !(fn.name == "runtime.NumGoroutine") | none => false)
  | _, _ => false

def methsOk (P : Program) : List ((Nat × String) × Nat) → Bool
  | [] => true
  | ((t, n), f) :: r => methOkP P t n f && methsOk P r

def fldsF (P : Program) (F : Nat → Option (List Bool)) : List Field → Nat → Option (List Bool)
  | [], _ => some []
  | f :: r, n => match f.name == "_", Nat.beq f.offset n, F f.type, szOf P f.type with
    | false, true, some ks, some m => match Nat.beq ks.length m with
      | true => match fldsF P F r (n + m) with
        | some kr => some (ks ++ kr)
        | none => none
      | false => none
    | _, _, _, _ => none

/-- a struct of numbers (true) and truth values (false), cell behind cell -/
def flatSz (P : Program) : Nat → Nat → Option (List Bool)
  | 0, _ => none
  | d + 1, t => match P.underlying t with
    | some (.int _) => some [true]
    | some .bool => some [false]
    | some (.struct fs) => match P.stoodInHeld t with
      | true => none
      | false => fldsF P (flatSz P d) fs.toList 0
    | _ => none

def eqTok (P : Program) (t : Nat) (ks : List Bool) : Bool := (flatSz P 40 t == some ks) && !(P.eqGuardType P.depth t)

def eqsOk (P : Program) : List (Nat × List Bool) → Bool
  | [] => true
  | (t, ks) :: r => eqTok P t ks && eqsOk P r

structure TabOK (P : Program) (D : Tab T) : Prop where
  info : ∀ t i, D.info t = some i → tiOk P D t i = true
  encLen : ∀ E x i, D.info E = some i → (D.enc E x).length = i.size
  encData : ∀ E x c, c ∈ D.enc E x → isData c = true ∧ plainC c = c
  dec : ∀ E cs x, D.dec E cs = some x → D.enc E x = cs.map plainC
  meth : methsOk P D.meth = true
  eqs : eqsOk P D.eqs = true
  mixed : P.follows .mixedOrders = true

theorem zeroEq_rel {P : Program} {D : Tab T} {w : World} {g : Gh} {c : PV T} {v : Value} (h : zeroEq c v = true) : Rel P D w g c v := by
  unfold zeroEq at h
  split at h <;> simp at h
  · obtain ⟨rfl, rfl⟩ := h; exact .int _ _
  · subst h; exact .bool _
  · subst h
    refine .sl _ [] .nil _ ?_ rfl
    exact .sl _ [] .no none 0 (fun _ _ => Go.undef) (by simp) (by simp) (by simp)
  · exact .nilp
  · exact .nilf
  · exact .nili

theorem zerosEq_rel {P : Program} {D : Tab T} {w : World} {g : Gh} : ∀ {cs : List (PV T)} {vs : List Value}, zerosEq cs vs = true → RelL P D w g cs vs.toArray
  | [], [], _ => ⟨rfl, by simp⟩
  | c :: r, v :: q, h => by
    simp [zerosEq] at h
    have ih := zerosEq_rel (P := P) (D := D) (w := w) (g := g) h.2
    refine ⟨by simpa using ih.1, fun i d hd => ?_⟩
    cases i with
    | zero => simp at hd; subst hd; simpa [Array.getD] using zeroEq_rel h.1
    | succ i => simp at hd; simpa [Array.getD] using ih.2 i d hd
  | [], _ :: _, h => by simp [zerosEq] at h
  | _ :: _, [], h => by simp [zerosEq] at h

/-- a row's facts -/
structure Row (P : Program) (D : Tab T) (t : Nat) (i : TI T) (ti : TypeInfo) (d : TypeDesc) : Prop where
  hi : P.info? t = some ti
  hd : P.underlying t = some d
  size : ti.size = i.size
  bytes : ti.bytes = i.bytes
  zero : ∃ z, ti.zero = some z ∧ zerosEq i.zero z.cells.toList = true ∧ (i.agg = true ↔ ∃ cs, z = .agg cs)
  zlen : i.zero.length = i.size
  agg : i.agg = isAggD d
  one : i.agg = false → i.size = 1
  flds : ∀ fs, d = .struct fs → fldsEq P i.flds fs.toList = true
  nofl : (∀ fs, d ≠ .struct fs) → i.flds = []
  arr : ∀ n e z, i.arr = some (n, e, z) → d = .array n e ∧ szOf P e = some z ∧ i.size = n * z ∧ ∃ ei, D.info e = some ei ∧ ei.size = z
  noarr : i.arr = none → ∀ n e, d ≠ .array n e
  sl : ∀ E z b, i.slE = some (E, z, b) → d = .slice E ∧ szOf P E = some z ∧ byOf P E = some b ∧ 0 < z ∧ 0 < b ∧ ∃ ei, D.info E = some ei ∧ ei.size = z
  kind : ∀ K, i.kind = some K → d = .int K

theorem TabOK.row {P : Program} {D : Tab T} (h : TabOK P D) {t : Nat} {i : TI T} (ht : D.info t = some i) : ∃ ti d, Row P D t i ti d := by
  have h := h.info t i ht
  unfold tiOk at h
  split at h
  · rename_i ti d h1 h2
    simp only [Bool.and_eq_true] at h
    obtain ⟨⟨⟨⟨⟨⟨⟨⟨a1, a2⟩, a3⟩, a4⟩, a5⟩, a6⟩, a7⟩, a8⟩, a9⟩ := h
    refine ⟨ti, d, h1, h2, Nat.eq_of_beq_eq_true a1, Nat.eq_of_beq_eq_true a2, ?_, ?_, by simpa using a4, ?_, ?_, ?_, ?_, ?_, ?_, ?_⟩
    · split at a3
      · rename_i z hz
        simp only [Bool.and_eq_true] at a3
        refine ⟨z, hz, a3.1.1, ?_⟩
        have h3 := a3.2
        cases z <;> simp_all
      · simp at a3
    · split at a3
      · simp only [Bool.and_eq_true] at a3; exact Nat.eq_of_beq_eq_true a3.1.2
      · simp at a3
    · intro hag; rw [hag] at a5; exact Nat.eq_of_beq_eq_true a5
    · rintro fs rfl; exact a6
    · intro hn
      split at a6
      · exact absurd rfl (hn _)
      · split at a6 <;> simp_all
    · intro n e z hz
      rw [hz] at a7
      simp only at a7
      split at a7
      · simp only [Bool.and_eq_true] at a7
        obtain ⟨⟨⟨⟨b1, b2⟩, b3⟩, b4⟩, b5⟩ := a7
        have := Nat.eq_of_beq_eq_true b1; subst this
        have := Nat.eq_of_beq_eq_true b2; subst this
        refine ⟨rfl, ?_, Nat.eq_of_beq_eq_true b4, ?_⟩
        · split at b3
          · rename_i s hs; rw [hs, Nat.eq_of_beq_eq_true b3]
          · simp at b3
        · split at b5
          · rename_i s hs; exact ⟨_, hs, Nat.eq_of_beq_eq_true b5⟩
          · simp at b5
      · simp at a7
    · intro hz n e hd
      rw [hz, hd] at a7
      simp at a7
    · intro E z b hz
      rw [hz] at a8
      simp only at a8
      split at a8
      · simp only [Bool.and_eq_true] at a8
        obtain ⟨⟨⟨⟨⟨b1, b2⟩, b3⟩, b4⟩, b5⟩, b6⟩ := a8
        have := Nat.eq_of_beq_eq_true b1; subst this
        refine ⟨rfl, ?_, ?_, by simpa using b4, by simpa using b5, ?_⟩
        · split at b2
          · rename_i s hs; rw [hs, Nat.eq_of_beq_eq_true b2]
          · simp at b2
        · split at b3
          · rename_i s hs; rw [hs, Nat.eq_of_beq_eq_true b3]
          · simp at b3
        · split at b6
          · rename_i s hs; exact ⟨_, hs, Nat.eq_of_beq_eq_true b6⟩
          · simp at b6
      · simp at a8
    · intro K hK
      rw [hK] at a9
      simp only at a9
      split at a9
      · simp at a9; rw [a9]
      · simp at a9
  · simp at h

section
variable {P : Program} {w : World}

theorem run_typeInfo {t : Nat} {ti : TypeInfo} (h : P.info? t = some ti) : (typeInfo t).run P w = .ok ti w := by simp [typeInfo, h]
theorem run_sizeOf {t n : Nat} (h : szOf P t = some n) : (sizeOf t).run P w = .ok n w := by
  unfold szOf at h
  cases hi : P.info? t with
  | none => rw [hi] at h; simp at h
  | some ti => rw [hi] at h; simp at h; simp [sizeOf, run_typeInfo hi, h]
theorem run_zeroValue {t : Nat} {ti : TypeInfo} {z : Value} (h : P.info? t = some ti) (hz : ti.zero = some z) : (zeroValue t).run P w = .ok z w := by
  simp [zeroValue, run_typeInfo h, hz]
theorem Row.szOf {D : Tab T} {t : Nat} {i : TI T} {ti : TypeInfo} {d : TypeDesc} (r : Row P D t i ti d) : szOf P t = some i.size := by simp [Px.szOf, r.hi, r.size]
theorem run_isAgg {D : Tab T} {t : Nat} {i : TI T} {ti : TypeInfo} {d : TypeDesc} (r : Row P D t i ti d) : (isAgg t).run P w = .ok i.agg w := by
  rw [r.agg]
  simp only [isAgg, Sem.run_bind, run_underlying r.hd, Result.andThen_ok]
  cases d <;> simp [isAggD]
end

/-! Operands -/

theorem constPV_rel {P : Program} {D : Tab T} {w : World} {g : Gh} {ty : Nat} {v : Value} : Rel P D w g (constPV D ty v) v := by
  unfold constPV
  split <;> first | exact .int _ _ | exact .bool _ | exact .nilp | exact .nilf | exact .nili | exact .undef _ | skip
  split
  · split
    · refine .sl _ [] .nil _ ?_ rfl
      exact .sl _ [] .no none 0 (fun _ _ => Go.undef) (by simp) (by simp) (by simp)
    · exact .undef _
  · exact .undef _

def opdOk (nt : Nat) (x : Operand) : Prop := ∀ t, x = .tmp t → t < nt

theorem SR.ev {C : Ctx T} {s : St T} {g : Gh} {M : Nat → Prop} {okc : Nat → Nat → Prop} {ds : List Nat} {a : Act} {w : World} (h : SR C s g M okc ds a w)
    {ty : Nat} {x : Operand} (hx : opdOk C.nt x) : Rel C.P C.D w g (s.ev C.D ty x) (a.eval x) := by
  cases x with
  | tmp t => exact h.tm t (hx t rfl)
  | const v => exact constPV_rel
  | global _ => exact .undef _
  | func f => exact .clo f [] #[] rfl (by simp)

theorem mem_tmpsOf {l : List Operand} {t : Nat} : .tmp t ∈ l → t ∈ tmpsOf l := by
  induction l with
  | nil => simp
  | cons x r ih =>
    intro h
    rcases List.mem_cons.1 h with rfl | h'
    · simp [tmpsOf]
    · have := ih h'
      cases x <;> simp [tmpsOf, this]

theorem operOk.opd {nt : Nat} {o : Oper} (h : operOk nt o = true) {x : Operand} (hx : x ∈ o.op.operands) : opdOk nt x := by
  rintro t rfl
  unfold operOk at h
  simp only [Bool.and_eq_true] at h
  have := List.all_eq_true.1 h.2 t (mem_tmpsOf (by simpa using hx))
  simpa using this

/-! One step -/

/-- what is reached behind an operation -/
def Post (C : Ctx T) (s' : St T) (g : Gh) (ds : List Nat) (a : Act) (w : World) (dst : Option Nat) (v : PV T) (a' : Act) (w' : World) : Prop :=
  ∃ val g' M' okc', a' = a.put dst val ∧ Rel C.P C.D w' g' v val ∧ WR C s' g' M' okc' ds w' ∧ GhLe g g' ∧ Evo w g.ok w' g'.ok

theorem wpIn_plain {P : Program} {ro : Option Nat} {o : Oper} {a : Act} {w w' : World} {v : Value} {K : Act → World → Prop} {Q : Exit → Act → World → Prop} (hc : ∀ c, o.op ≠ .call c) (hd : ∀ c, o.op ≠ .defer c)
    (h : (execOp a.eval o).run P w = .ok (.value v) w') (hk : K (a.put o.dst v) w') : o.wpIn (FW ro) 0 P a w K Q := by
  refine ⟨fun f _ => trivial, ?_⟩
  rw [Oper.semAt_eq _ _ _ hd, h]
  exact hk

theorem getD_set_ne {xs : Array Value} {d t : Nat} {v x : Value} (h : d ≠ t) : (xs.setIfInBounds d v).getD t x = xs.getD t x := by
  simp only [Array.getD_eq_getD_getElem?, Array.getElem?_setIfInBounds_ne h]

theorem look_put_ne {α : Type} {t u : Nat} {v : α} {l : List (Nat × α)} (h : t ≠ u) : look u ((t, v) :: l) = look u l := by
  have : Nat.beq t u = false := by cases hb : Nat.beq t u with | false => rfl | true => exact absurd (Nat.eq_of_beq_eq_true hb) h
  simp [look, this]

theorem look_put_eq {α : Type} {t : Nat} {v : α} {l : List (Nat × α)} : look t ((t, v) :: l) = some v := by simp [look]

theorem St.get_put_ne {s : St T} {t u : Nat} {v : PV T} (h : t ≠ u) : (s.put t v).get u = s.get u := by simp [St.get, St.put, look_put_ne h]
theorem St.get_put_eq {s : St T} {t : Nat} {v : PV T} : (s.put t v).get t = v := by simp [St.get, St.put, look_put_eq]

/-- memory says nothing of temporaries -/
theorem WR.putD {C : Ctx T} {s : St T} {g : Gh} {M : Nat → Prop} {okc : Nat → Nat → Prop} {ds : List Nat} {w : World} (h : WR C s g M okc ds w) (t : Option Nat) (v : PV T) : WR C (s.putD t v) g M okc ds w := by
  cases t with
  | none => exact h
  | some t => exact ⟨h.bx, h.nb, h.bv, h.tv, h.inj, h.blM, h.tks, h.tkinj, h.tkbl, h.okin, h.Mlt, h.okcg, h.okM, h.dsM, h.dsnd, h.rr, h.hJ, h.rh, h.yl, h.ry⟩

theorem St.upd_tm (s : St T) (u : Upd T) : (s.upd u).tm = s.tm ∧ (s.upd u).fx = s.fx := by
  cases u <;> simp only [St.upd, St.setBx, St.setCs] <;> first | (split <;> exact ⟨rfl, rfl⟩) | exact ⟨rfl, rfl⟩ | simp

theorem St.upds_tm (s : St T) (u : List (Upd T)) : (s.upds u).tm = s.tm ∧ (s.upds u).fx = s.fx := by
  induction u generalizing s with
  | nil => exact ⟨rfl, rfl⟩
  | cons x r ih => simp only [St.upds]; rw [(ih _).1, (ih _).2]; exact St.upd_tm s x

theorem St.upds_get (s : St T) (u : List (Upd T)) (t : Nat) : (s.upds u).get t = s.get t := by simp only [St.get, St.upds_tm]

/-- behind an operation the frame's state holds -/
theorem SR.after {C : Ctx T} {s : St T} {g : Gh} {M : Nat → Prop} {okc : Nat → Nat → Prop} {ds : List Nat} {a a' : Act} {w w' : World} (h : SR C s g M okc ds a w) {u : List (Upd T)} {dst : Option Nat} {v : PV T}
    (hd : ∀ d, dst = some d → d < C.nt) (hp : Post C (s.upds u) g ds a w dst v a' w') :
    ∃ g' M' okc', SR C ((s.upds u).putD dst v) g' M' okc' ds a' w' ∧ GhLe g g' ∧ Evo w g.ok w' g'.ok ∧ (∀ t, dst ≠ some t → a'.tmps.getD t undef = a.tmps.getD t undef) := by
  obtain ⟨val, g', M', okc', rfl, hr, hw, hg, he⟩ := hp
  refine ⟨g', M', okc', ⟨?_, ?_, ?_, hw.putD dst v⟩, hg, he, ?_⟩
  · cases dst <;> simp [Act.put, h.size]
  · cases dst <;> simp [Act.put, h.defs]
  · intro t ht
    cases dst with
    | none =>
      simp only [St.putD, Act.put]
      rw [St.upds_get]
      exact (h.tm t ht).mono he hg
    | some d =>
      simp only [St.putD, Act.put]
      by_cases hdt : d = t
      · subst hdt
        rw [St.get_put_eq]
        have : d < a.tmps.size := by rw [h.size]; exact ht
        simpa [Array.getD, this] using hr
      · rw [St.get_put_ne hdt, St.upds_get]
        rw [getD_set_ne hdt]
        exact (h.tm t ht).mono he hg
  · intro t ht
    cases dst with
    | none => rfl
    | some d =>
      have hdt : d ≠ t := fun e => ht (by rw [e])
      exact getD_set_ne hdt

end Go.Px

namespace Go.Px
variable {T : Nat → Type} {ρ : Type}

theorem GhLe.ok (g : Gh) (ok2 : Nat → Nat → Prop) : GhLe g { g with ok := ok2 } := ⟨fun _ => .inr ⟨rfl, rfl⟩, fun _ => .inr ⟨rfl, rfl⟩, rfl, rfl⟩

theorem heap_lt {w : World} {b : Nat} {x : Obj} (h : w.heap[b]? = some x) : b < w.heap.size := (Array.getElem?_eq_some_iff.1 h).1

theorem cell_eq {w w' : World} {b : Nat} (h : w'.heap[b]? = w.heap[b]?) (o : Nat) : w'.cell? ⟨b, o, none⟩ = w.cell? ⟨b, o, none⟩ := by simp only [World.cell?, h]

theorem WR.bl_lt {C : Ctx T} {s : St T} {g : Gh} {M : Nat → Prop} {okc : Nat → Nat → Prop} {ds : List Nat} {w : World} (h : WR C s g M okc ds w) {t b : Nat} (hb : g.bl t = some b) : b < w.heap.size := by
  cases he : s.ent t with
  | none => rw [h.nb t he] at hb; simp at hb
  | some e =>
    obtain ⟨b', h1, h2⟩ := h.bx t e he
    obtain ⟨vs, E, h3, _⟩ := h2.cells
    rw [hb] at h1
    cases h1
    exact heap_lt h3

/-- what must hold of what is around -/
structure CtxOK (C : Ctx T) : Prop where
  stable : C.V.Stable
  rr : ∀ n M okc w, C.V.J n M okc w → RoundRec w M C.ro
  tab : TabOK C.P C.D
  back : ∀ (A : List Nat) (m : Int) (xs : List (Tup T A)) (x : Tup T A) (d : Bool), C.pre (.log A m (xs ++ [x]) d) → C.pre (.log A m xs false)
  yld : ∀ l, C.yl = some l → ∀ (A : List Nat) (m : Int) (xs : List (Tup T A)) (x : Tup T A), C.pre (.log A m (xs ++ [x]) (decide ((xs.length : Int) = m))) → YieldAt C.P C.D C.V l xs.length x (!(decide ((xs.length : Int) = m)))

/-- memory grows; blocks of X, that nobody else knows, are written -/
theorem WR.grow {C : Ctx T} (hC : CtxOK C) {s : St T} {g : Gh} {M : Nat → Prop} {okc : Nat → Nat → Prop} {ds : List Nat} {w : World} (h : WR C s g M okc ds w) (X : Nat → Prop) {w' : World}
    (hos : w'.os = w.os) (htp : w'.tape = w.tape) (hout : w'.output = w.output) (hsz : w.heap.size ≤ w'.heap.size)
    (hblk : ∀ b, b < w.heap.size → ¬ X b → w'.heap[b]? = w.heap[b]?)
    (hX : ∀ b, X b → ¬ M b ∧ (∀ t, g.bl t ≠ some b) ∧ (∀ t e, g.tk t ≠ some (b, e)) ∧ b ∉ ds)
    (hcell : ∀ b o, g.ok b o → X b → w'.cell? ⟨b, o, none⟩ = w.cell? ⟨b, o, none⟩)
    {ok2 : Nat → Nat → Prop} (hold : ∀ b o, g.ok b o → ok2 b o) (hnew : ∀ b o, ok2 b o → g.ok b o ∨ ((w.heap.size ≤ b ∨ X b) ∧ b < w'.heap.size)) :
    WR C s { g with ok := ok2 } M okc ds w' ∧ Evo w g.ok w' ok2 := by
  have hev : Evo w g.ok w' ok2 := ⟨hsz, fun b o hb => by
    by_cases hx : X b
    · exact hcell b o hb hx
    · exact cell_eq (hblk b (h.okin b o hb) hx) o, hold⟩
  have hq : Quiet M okc w w' := ⟨hos, htp, hout, hsz, fun b hb => hblk b (h.Mlt b hb) fun hx => (hX b hx).1 hb, fun b o hb => hev.cell b o (h.okcg b o hb)⟩
  have hbl : ∀ t b, g.bl t = some b → w'.heap[b]? = w.heap[b]? := fun t b hb => hblk b (h.bl_lt hb) fun hx => (hX b hx).2.1 t hb
  refine ⟨⟨?_, h.nb, h.bv, h.tv, h.inj, h.blM, ?_, h.tkinj, h.tkbl, ?_, fun b hb => Nat.lt_of_lt_of_le (h.Mlt b hb) hsz, fun b o hb => hold b o (h.okcg b o hb), ?_, ?_, h.dsnd, ?_, hC.stable _ _ _ _ _ h.hJ hq, fun b x hx => ⟨(h.rh b x hx).1, (hq.block b (h.rh b x hx).1).trans (h.rh b x hx).2⟩, h.yl, h.ry⟩, hev⟩
  · intro t e he
    obtain ⟨b, h1, h2⟩ := h.bx t e he
    refine ⟨b, h1, ?_, fun hf o ho => hold _ _ (h2.fz hf o ho), fun hf o ho => ?_⟩
    · obtain ⟨vs, E, h3, h4⟩ := h2.cells
      exact ⟨vs, E, (hbl t b h1).trans h3, h4.mono hev (GhLe.ok g ok2)⟩
    · rcases hnew b o ho with h5 | ⟨h5 | h5, _⟩
      · exact h2.own hf o h5
      · have := h.bl_lt h1; omega
      · exact (hX b h5).2.1 t h1
  · intro t b e ht
    obtain ⟨⟨vs, E, h1, h2⟩, h3, h4⟩ := h.tks t b e ht
    have hnx : ¬ X b := fun hx => (hX b hx).2.2.1 t e ht
    refine ⟨⟨vs, E, (hblk b (heap_lt h1) hnx).trans h1, h2⟩, fun o ho => ?_, h4⟩
    rcases hnew b o ho with h5 | ⟨h5 | h5, _⟩
    · exact h3 o h5
    · have := heap_lt h1; omega
    · exact absurd h5 hnx
  · intro b o ho
    rcases hnew b o ho with h5 | ⟨_, h5⟩
    · exact Nat.lt_of_lt_of_le (h.okin b o h5) hsz
    · exact h5
  · intro b o ho
    rcases hnew b o ho with h5 | ⟨h5 | h5, _⟩
    · exact h.okM b o h5
    · exact .inr fun hm => by have := h.Mlt b hm; omega
    · exact .inr (hX b h5).1
  · intro b hb
    obtain ⟨h1, h2⟩ := h.dsM b hb
    exact ⟨(hblk b (heap_lt h1) fun hx => (hX b hx).2.2.2 hb).trans h1, h2⟩
  · exact hC.rr _ _ _ _ (hC.stable _ _ _ _ _ h.hJ hq)

theorem St.ent_setCs {s : St T} {t : Nat} {e : Bx T} {cs : List (PV T)} (hh : look t s.hd = none) (he : look t s.bx = some e) (u : Nat) :
    (s.setCs t cs).ent u = if t = u then some ⟨e.ver, e.fz, cs⟩ else s.ent u := by
  simp only [St.setCs, he, St.setBx, St.ent]
  by_cases htu : t = u
  · subst htu; simp [hh, look_put_eq]
  · simp [look_put_ne htu, htu]

theorem St.bv_of_ent {s s' : St T} (hb : s'.base = s.base) {u : Nat} (h : (s'.ent u).map (·.ver) = (s.ent u).map (·.ver)) : s'.bv u = s.bv u := by
  unfold St.bv
  cases h1 : s'.ent u <;> cases h2 : s.ent u <;> rw [h1, h2] at h <;> simp_all

/-- an own box is written -/
theorem WR.write {C : Ctx T} (hC : CtxOK C) {s : St T} {g : Gh} {M : Nat → Prop} {okc : Nat → Nat → Prop} {ds : List Nat} {w : World} (h : WR C s g M okc ds w) {t : Nat} {e : Bx T} {b0 : Nat}
    (hh : look t s.hd = none) (he : look t s.bx = some e) (hf : e.fz = false) (hb0 : g.bl t = some b0) {w' : World}
    (hos : w'.os = w.os) (htp : w'.tape = w.tape) (hout : w'.output = w.output) (hsz : w.heap.size ≤ w'.heap.size)
    (hblk : ∀ b, b < w.heap.size → b ≠ b0 → w'.heap[b]? = w.heap[b]?)
    {ok2 : Nat → Nat → Prop} (hold : ∀ b o, g.ok b o → ok2 b o) (hnew : ∀ b o, ok2 b o → g.ok b o ∨ (w.heap.size ≤ b ∧ b < w'.heap.size))
    {cs : List (PV T)} {vs : Array Value} {E : Nat} (hc : w'.heap[b0]? = some (.cells vs E (0, 0))) (hr : RelL C.P C.D w' { g with ok := ok2 } cs vs) :
    WR C (s.setCs t cs) { g with ok := ok2 } M okc ds w' ∧ Evo w g.ok w' ok2 := by
  have hent : s.ent t = some e := by simp [St.ent, hh, he]
  have hbox : BoxOK C.P C.D w g e b0 := by
    obtain ⟨b, h1, h2⟩ := h.bx t e hent
    rw [hb0] at h1; cases h1; exact h2
  have hnok : ∀ o, ¬ g.ok b0 o := hbox.own hf
  have hev : Evo w g.ok w' ok2 := ⟨hsz, fun b o hb => cell_eq (hblk b (h.okin b o hb) fun e => hnok o (e ▸ hb)) o, hold⟩
  have hq : Quiet M okc w w' := ⟨hos, htp, hout, hsz, fun b hb => hblk b (h.Mlt b hb) fun e => h.blM t b0 hb0 (e ▸ hb), fun b o hb => hev.cell b o (h.okcg b o hb)⟩
  have hlt := h.bl_lt hb0
  have hbase : (s.setCs t cs).base = s.base := by simp [St.setCs, he, St.setBx]
  have hbv : ∀ u, (s.setCs t cs).bv u = s.bv u := fun u => St.bv_of_ent hbase (by
    rw [St.ent_setCs hh he]; split
    · rename_i e2; subst e2; simp [hent]
    · rfl)
  have htk : (s.setCs t cs).tk = s.tk := by simp [St.setCs, he, St.setBx]
  have hlg : (s.setCs t cs).lg = s.lg := by simp [St.setCs, he, St.setBx]
  refine ⟨⟨?_, ?_, fun u => (h.bv u).trans (hbv u).symm, fun u => (h.tv u).trans (by simp only [St.tv, htk, hbase]), h.inj, h.blM, ?_, h.tkinj, h.tkbl, ?_, fun b hb => Nat.lt_of_lt_of_le (h.Mlt b hb) hsz, fun b o hb => hold b o (h.okcg b o hb), ?_, ?_, h.dsnd, ?_, ?_, fun b x hx => ⟨(h.rh b x hx).1, (hq.block b (h.rh b x hx).1).trans (h.rh b x hx).2⟩, h.yl, h.ry⟩, hev⟩
  · intro u e' he'
    rw [St.ent_setCs hh he] at he'
    split at he'
    · rename_i htu; subst htu
      cases he'
      exact ⟨b0, hb0, ⟨vs, E, hc, hr⟩, fun hf' => absurd hf' (by simp [hf]), fun _ o ho => by
        rcases hnew b0 o ho with h5 | ⟨h5, _⟩
        · exact hnok o h5
        · omega⟩
    · rename_i htu
      obtain ⟨b, h1, h2⟩ := h.bx u e' he'
      have hne : b ≠ b0 := fun e2 => htu (h.inj t u b0 hb0 (e2 ▸ h1))
      refine ⟨b, h1, ?_, fun hf o ho => hold _ _ (h2.fz hf o ho), fun hf o ho => ?_⟩
      · obtain ⟨vs', E', h3, h4⟩ := h2.cells
        exact ⟨vs', E', (hblk b (h.bl_lt h1) hne).trans h3, h4.mono hev (GhLe.ok g ok2)⟩
      · rcases hnew b o ho with h5 | ⟨h5, _⟩
        · exact h2.own hf o h5
        · have := h.bl_lt h1; omega
  · intro u hu
    rw [St.ent_setCs hh he] at hu
    split at hu
    · simp at hu
    · exact h.nb u hu
  · intro u b e' ht
    obtain ⟨⟨vs', E', h1, h2⟩, h3, h4⟩ := h.tks u b e' ht
    have hne : b ≠ b0 := fun e2 => h.tkbl u t b e' ht (e2 ▸ hb0)
    refine ⟨⟨vs', E', (hblk b (heap_lt h1) hne).trans h1, h2⟩, fun o ho => ?_, h4⟩
    rcases hnew b o ho with h5 | ⟨h5, _⟩
    · exact h3 o h5
    · have := heap_lt h1; omega
  · intro b o ho
    rcases hnew b o ho with h5 | ⟨_, h5⟩
    · exact Nat.lt_of_lt_of_le (h.okin b o h5) hsz
    · exact h5
  · intro b o ho
    rcases hnew b o ho with h5 | ⟨h5, _⟩
    · exact h.okM b o h5
    · exact .inr fun hm => by have := h.Mlt b hm; omega
  · intro b hb
    obtain ⟨h1, h2⟩ := h.dsM b hb
    have hne : b ≠ b0 := fun e2 => by
      obtain ⟨vs', E', h3, _⟩ := hbox.cells
      rw [e2] at h1; rw [h1] at h3; cases h3
    exact ⟨(hblk b (heap_lt h1) hne).trans h1, h2⟩
  · exact hC.rr _ _ _ _ (hC.stable _ _ _ _ _ h.hJ hq)
  · rw [hlg]; exact hC.stable _ _ _ _ _ h.hJ hq

/-- a new box -/
def Gh.fresh (g : Gh) (d b : Nat) : Gh := { g with bv := fun t => if d = t then g.bv d + 1 else g.bv t, bl := fun t => if d = t then some b else g.bl t }

theorem GhLe.fresh (g : Gh) (d b : Nat) : GhLe g (g.fresh d b) := by
  refine ⟨fun t => ?_, fun t => .inr ⟨rfl, rfl⟩, rfl, rfl⟩
  simp only [Gh.fresh]
  by_cases h : d = t
  · subst h; simp
  · simp [h]

/-- a block that nobody knows becomes a box -/
theorem WR.fresh {C : Ctx T} (hC : CtxOK C) {s : St T} {g : Gh} {M : Nat → Prop} {okc : Nat → Nat → Prop} {ds : List Nat} {w : World} (h : WR C s g M okc ds w) {d b : Nat} (hfree : s.free d = true)
    {cs : List (PV T)} {vs : Array Value} {E : Nat} (hc : w.heap[b]? = some (.cells vs E (0, 0))) (hr : RelL C.P C.D w g cs vs)
    (hM : ¬ M b) (hbl : ∀ t, g.bl t ≠ some b) (htk : ∀ t e, g.tk t ≠ some (b, e)) (hok : ∀ o, ¬ g.ok b o) :
    WR C (s.upd (.fresh d cs)) (g.fresh d b) M okc ds w := by
  have hh : look d s.hd = none := by
    unfold St.free at hfree
    cases hl : look d s.hd with
    | none => rfl
    | some e => rw [hl] at hfree; simp at hfree
  have hent : ∀ u, (s.upd (.fresh d cs)).ent u = if d = u then some ⟨s.bv d + 1, false, cs⟩ else s.ent u := fun u => by
    simp only [St.upd, St.setBx, St.ent]
    by_cases hdu : d = u
    · subst hdu; simp [hh, look_put_eq]
    · simp [look_put_ne hdu, hdu]
  have hev : Evo w g.ok w (g.fresh d b).ok := Evo.refl _ _
  refine ⟨?_, ?_, ?_, h.tv, ?_, ?_, h.tks, h.tkinj, ?_, h.okin, h.Mlt, h.okcg, h.okM, h.dsM, h.dsnd, h.rr, h.hJ, h.rh, h.yl, h.ry⟩
  · intro u e he
    rw [hent] at he
    split at he
    · rename_i hdu; cases he
      exact ⟨b, by simp [Gh.fresh, hdu], ⟨vs, E, hc, hr.mono hev (GhLe.fresh g d b)⟩, by simp, fun _ => hok⟩
    · rename_i hdu
      obtain ⟨b', h1, h2⟩ := h.bx u e he
      obtain ⟨vs', E', h3, h4⟩ := h2.cells
      exact ⟨b', by simp [Gh.fresh, hdu, h1], ⟨vs', E', h3, h4.mono hev (GhLe.fresh g d b)⟩, h2.fz, h2.own⟩
  · intro u hu
    rw [hent] at hu
    split at hu
    · simp at hu
    · rename_i hdu; simp [Gh.fresh, hdu, h.nb u hu]
  · intro u
    simp only [St.bv, hent, Gh.fresh]
    by_cases hdu : d = u
    · simp only [hdu, if_true, h.bv]; rfl
    · simp only [hdu, if_false]; exact h.bv u
  · intro t t' b' h1 h2
    simp only [Gh.fresh] at h1 h2
    split at h1 <;> split at h2
    · rename_i a b; exact a.symm.trans b
    · cases h1; exact absurd h2 (hbl _)
    · cases h2; exact absurd h1 (hbl _)
    · exact h.inj t t' b' h1 h2
  · intro t b' h1
    simp only [Gh.fresh] at h1
    split at h1
    · cases h1; exact hM
    · exact h.blM t b' h1
  · intro t t' b' e' h1 h2
    simp only [Gh.fresh] at h2
    split at h2
    · cases h2; exact htk _ _ h1
    · exact h.tkbl t t' b' e' h1 h2

/-- an end of an own row, under a new name -/
def Gh.tok (g : Gh) (d : Nat) (x : Option (Nat × Nat × Nat)) : Gh := { g with tv := fun t => if d = t then g.tv d + 1 else g.tv t, tk := fun t => if d = t then x else g.tk t }

theorem GhLe.tok (g : Gh) (d : Nat) (x : Option (Nat × Nat × Nat)) : GhLe g (g.tok d x) := by
  refine ⟨fun t => .inr ⟨rfl, rfl⟩, fun t => ?_, rfl, rfl⟩
  simp only [Gh.tok]
  by_cases h : d = t
  · subst h; simp
  · simp [h]

theorem WR.strip {C : Ctx T} {s : St T} {g : Gh} {M : Nat → Prop} {okc : Nat → Nat → Prop} {ds : List Nat} {w : World} (h : WR C s g M okc ds w) (d : Nat) (x : Option (Nat × Nat × Nat))
    (hx : ∀ b e, x = some (b, e) → (∃ vs E, w.heap[b]? = some (.cells vs E (0, 0)) ∧ vs.size = e.2 ∧ e.1 ≤ e.2) ∧ (∀ o, g.ok b o → o < e.1) ∧ ¬ M b ∧ (∀ t e', d ≠ t → g.tk t ≠ some (b, e')) ∧ (∀ t, g.bl t ≠ some b)) :
    WR C (s.upd (.strip d)) (g.tok d x) M okc ds w := by
  have hev : Evo w g.ok w (g.tok d x).ok := Evo.refl _ _
  refine ⟨?_, h.nb, h.bv, ?_, h.inj, h.blM, ?_, ?_, ?_, h.okin, h.Mlt, h.okcg, h.okM, h.dsM, h.dsnd, h.rr, h.hJ, h.rh, h.yl, h.ry⟩
  · intro u e he
    obtain ⟨b', h1, h2⟩ := h.bx u e he
    obtain ⟨vs', E', h3, h4⟩ := h2.cells
    exact ⟨b', h1, ⟨vs', E', h3, h4.mono hev (GhLe.tok g d x)⟩, h2.fz, h2.own⟩
  · intro u
    simp only [St.tv, St.upd, Gh.tok]
    by_cases hdu : d = u
    · subst hdu; simp [look_put_eq, h.tv]; rfl
    · simp only [look_put_ne hdu, hdu, if_false]; exact h.tv u
  · intro t b e h1
    simp only [Gh.tok] at h1
    split at h1
    · obtain ⟨a1, a2, a3, _⟩ := hx b e h1; exact ⟨a1, a2, a3⟩
    · exact h.tks t b e h1
  · intro t t' b e e' h1 h2
    simp only [Gh.tok] at h1 h2
    split at h1 <;> split at h2
    · rename_i a b; exact a.symm.trans b
    · rename_i hn; exact absurd h2 ((hx b e h1).2.2.2.1 t' e' hn)
    · rename_i hn _; exact absurd h1 ((hx b e' h2).2.2.2.1 t e hn)
    · exact h.tkinj t t' b e e' h1 h2
  · intro t t' b e h1 h2
    simp only [Gh.tok] at h1
    split at h1
    · exact (hx b e h1).2.2.2.2 t' h2
    · exact h.tkbl t t' b e h1 h2

end Go.Px

namespace Go.Px
variable {T : Nat → Type} {ρ : Type}

abbrev k3 : PV T → List (Upd T) → List Nat → Option (PV T × List (Upd T) × List Nat) := fun v u r => some (v, u, r)

abbrev StepOK (C : Ctx T) (s : St T) (g : Gh) (ds : List Nat) (a : Act) (w : World) (o : Oper) (v : PV T) (u : List (Upd T)) (Q : Exit → Act → World → Prop) : Prop :=
  o.wpIn (FW C.ro) 0 C.P a w (Post C (s.upds u) g ds a w o.dst v) Q

section
variable {C : Ctx T} {S : Specs T} {s : St T} {g : Gh} {M : Nat → Prop} {okc : Nat → Nat → Prop} {ds : List Nat} {a : Act} {w : World} {o : Oper} {v : PV T} {u : List (Upd T)} {f : List Nat} {Q : Exit → Act → World → Prop}

theorem step_same (h : SR C s g M okc ds a w) (hc : ∀ c, o.op ≠ .call c) (hd : ∀ c, o.op ≠ .defer c) {val : Value} (hrun : (execOp a.eval o).run C.P w = .ok (.value val) w) (hr : Rel C.P C.D w g v val) (hu : u = []) :
    StepOK C s g ds a w o v u Q := by
  subst hu
  exact wpIn_plain hc hd hrun ⟨val, g, M, okc, rfl, hr, h.wr, GhLe.refl g, Evo.refl _ _⟩

theorem k3_some {v v' : PV T} {u u' : List (Upd T)} {f f' : List Nat} (h : k3 v u f = some (v', u', f')) : v' = v ∧ u' = u := by cases h; exact ⟨rfl, rfl⟩


/-- a run that only looks -/
def Looks (P : Program) (w : World) (x : Sem Value) (val : Value) : Prop := x.run P w = .ok val w

theorem Looks.go {P : Program} {w : World} {x : Sem Value} {val : Value} (h : Looks P w x val) : (do pure (.value (← x)) : Sem Next).run P w = .ok (.value val) w := by
  simp only [Sem.run_bind, Looks] at *
  rw [h]; rfl

theorem step_move {x : Operand} (ho : o.op = .move x) (h : SR C s g M okc ds a w) (hx : opdOk C.nt x) (hev : evOp C.D S s o k3 = some (v, u, f)) : StepOK C s g ds a w o v u Q := by
  simp only [evOp, ho] at hev
  obtain ⟨rfl, rfl⟩ := k3_some hev
  exact step_same h (by simp [ho]) (by simp [ho]) (by simp only [execOp, ho]; rfl) (h.ev hx) rfl

theorem step_assign {x : Operand} (ho : o.op = .assign x) (h : SR C s g M okc ds a w) (hx : opdOk C.nt x) (hev : evOp C.D S s o k3 = some (v, u, f)) : StepOK C s g ds a w o v u Q := by
  simp only [evOp, ho] at hev
  obtain ⟨rfl, rfl⟩ := k3_some hev
  exact step_same h (by simp [ho]) (by simp [ho]) (by simp only [execOp, ho]; rfl) (h.ev hx) rfl

theorem rel_bool {P : Program} {D : Tab T} {w : World} {g : Gh} {b : Bool} {v : Value} (h : Rel P D w g (.bool b) v) : v = .bool b := by cases h; rfl
theorem rel_int {P : Program} {D : Tab T} {w : World} {g : Gh} {k : IntKind} {n : Int} {v : Value} (h : Rel P D w g (.int k n) v) : v = .int k n := by cases h; rfl

theorem step_pick {c x y : Operand} (ho : o.op = .pick c x y) (h : SR C s g M okc ds a w) (hc : opdOk C.nt c) (hx : opdOk C.nt x) (hy : opdOk C.nt y) (hev : evOp C.D S s o k3 = some (v, u, f)) : StepOK C s g ds a w o v u Q := by
  simp only [evOp, ho] at hev
  split at hev
  · rename_i t ht
    have hct := rel_bool (ht ▸ h.ev (ty := o.type) hc)
    have hr : ∀ val, (bif t then a.eval x else a.eval y) = val → (execOp a.eval o).run C.P w = .ok (.value val) w := by
      rintro val rfl
      simp only [execOp, ho, hct]
      cases t <;> simp [asBool]
    split at hev
    · rename_i x' y' hx' hy'
      obtain ⟨rfl, rfl⟩ := k3_some hev
      refine step_same h (by simp [ho]) (by simp [ho]) (hr _ rfl) ?_ rfl
      have e1 := rel_bool (hx' ▸ h.ev (ty := o.type) hx)
      have e2 := rel_bool (hy' ▸ h.ev (ty := o.type) hy)
      cases t
      · simp only [cond_false, e2]; exact .bool _
      · simp only [cond_true, e1]; exact .bool _
    · cases t
      · obtain ⟨rfl, rfl⟩ := k3_some hev
        exact step_same h (by simp [ho]) (by simp [ho]) (hr _ rfl) (h.ev hy) rfl
      · obtain ⟨rfl, rfl⟩ := k3_some hev
        exact step_same h (by simp [ho]) (by simp [ho]) (hr _ rfl) (h.ev hx) rfl
  · simp at hev

theorem step_nilCheck {x : Operand} (ho : o.op = .nilCheck x) (h : SR C s g M okc ds a w) (hx : opdOk C.nt x) (hev : evOp C.D S s o k3 = some (v, u, f)) : StepOK C s g ds a w o v u Q := by
  simp only [evOp, ho] at hev
  have hr := h.ev (ty := 0) hx
  split at hev <;> first | (simp at hev; done) | (
    rename_i he
    rw [he] at hr
    obtain ⟨rfl, rfl⟩ := k3_some hev
    refine step_same (val := a.eval x) h (by simp [ho]) (by simp [ho]) ?_ hr rfl
    generalize hz : a.eval x = z at hr
    simp only [execOp, ho, hz]
    cases hr <;> rfl)

theorem step_unOp {op : UnOp} {xt : Nat} {x : Operand} (ho : o.op = .unOp op xt x) (h : SR C s g M okc ds a w) (hx : opdOk C.nt x) (hev : evOp C.D S s o k3 = some (v, u, f)) : StepOK C s g ds a w o v u Q := by
  simp only [evOp, ho] at hev
  have hr := h.ev (ty := xt) hx
  split at hev
  · rename_i b he
    rw [he] at hr
    obtain ⟨rfl, rfl⟩ := k3_some hev
    refine step_same (val := .bool (!b)) h (by simp [ho]) (by simp [ho]) ?_ (.bool _) rfl
    simp only [execOp, ho, rel_bool hr]
    rfl
  · rename_i K n he
    rw [he] at hr
    obtain ⟨rfl, rfl⟩ := k3_some hev
    refine step_same (val := .int K (K.wrap (0 - n))) h (by simp [ho]) (by simp [ho]) ?_ (.int _ _) rfl
    simp only [execOp, ho, rel_int hr]
    rfl
  · simp at hev

theorem step_convert {src dst : Nat} {x : Operand} (ho : o.op = .convert src dst x) (hC : CtxOK C) (h : SR C s g M okc ds a w) (hx : opdOk C.nt x) (hev : evOp C.D S s o k3 = some (v, u, f)) : StepOK C s g ds a w o v u Q := by
  simp only [evOp, ho] at hev
  have hr := h.ev (ty := 0) hx
  split at hev
  · rename_i i j K n hi hj he
    rw [he] at hr
    split at hev
    · rename_i k1 k2 h1 h2
      obtain ⟨rfl, rfl⟩ := k3_some hev
      obtain ⟨_, _, r1⟩ := hC.tab.row hi
      obtain ⟨_, _, r2⟩ := hC.tab.row hj
      refine step_same (val := .int k2 (k2.wrap n)) h (by simp [ho]) (by simp [ho]) ?_ (.int _ _) rfl
      simp only [execOp, ho, rel_int hr]
      refine Looks.go ?_
      simp [Looks, convert, run_underlying r1.hd, run_underlying r2.hd, r2.kind _ h2, Conv.intToInt]
    · simp at hev
  · simp at hev

theorem getD_map_list {l : List Operand} {F : Operand → Value} {i : Nat} {x : Operand} (h : l[i]? = some x) : (l.map F).toArray.getD i undef = F x := by
  simp [Array.getD_eq_getD_getElem?, h]

theorem SR.evs {xs : Array Operand} {ty : Nat} (h : SR C s g M okc ds a w) (hx : ∀ x, x ∈ xs → opdOk C.nt x) : RelL C.P C.D w g (xs.toList.map (s.ev C.D ty)) (xs.map a.eval) := by
  refine ⟨by simp, fun i c hc => ?_⟩
  simp only [List.getElem?_map, Option.map_eq_some_iff] at hc
  obtain ⟨x, hx', rfl⟩ := hc
  have hm : x ∈ xs := by
    have := List.mem_of_getElem? hx'
    simpa using this
  have : (xs.map a.eval).getD i undef = a.eval x := by
    have := Array.getElem?_toList (xs := xs) (i := i)
    rw [hx'] at this
    simp [Array.getD_eq_getD_getElem?, ← this]
  rw [this]
  exact h.ev (hx x hm)

theorem step_makeFunc {fn : Fn} {first captured : Array Operand} (ho : o.op = .makeFunc fn first captured) (h : SR C s g M okc ds a w) (hx : ∀ x, x ∈ captured → opdOk C.nt x) (hev : evOp C.D S s o k3 = some (v, u, f)) :
    StepOK C s g ds a w o v u Q := by
  simp only [evOp, ho] at hev
  split at hev
  · rename_i fid hfirst
    obtain ⟨rfl, rfl⟩ := k3_some hev
    have hfe : first = #[] := by apply Array.ext'; simpa using hfirst
    obtain ⟨h1, h2⟩ := SR.evs (ty := 0) h hx
    refine step_same (val := .func (.func fid) #[] (captured.map a.eval)) h (by simp [ho]) (by simp [ho]) ?_ (.clo fid _ _ h1 h2) rfl
    simp [execOp, ho, hfe, Instr.makeFunc]
  · simp at hev

theorem addr_add (b off n : Nat) : (⟨b, off, none⟩ : Addr).add n = ⟨b, off + n, none⟩ := Addr.add_lit b off n

theorem Rel.rp_drop {P : Program} {D : Tab T} {w : World} {g : Gh} {cs : List (PV T)} {b off n : Nat} (h : Rel P D w g (.rp cs) (.pointer (some ⟨b, off, none⟩))) : Rel P D w g (.rp (cs.drop n)) (.pointer (some ⟨b, off + n, none⟩)) := by
  cases h with
  | rp _ _ _ F hc hr =>
    refine .rp _ b (off + n) (fun i => F (n + i)) (fun i c hi => ?_) fun i c hi => ?_
    · rw [List.getElem?_drop] at hi
      have := hc _ _ hi
      rwa [← Nat.add_assoc] at this
    · rw [List.getElem?_drop] at hi
      exact hr _ _ hi

theorem rel_rp {P : Program} {D : Tab T} {w : World} {g : Gh} {cs : List (PV T)} {v : Value} (h : Rel P D w g (.rp cs) v) : ∃ b off, v = .pointer (some ⟨b, off, none⟩) := by
  cases h with
  | rp _ b off _ _ _ => exact ⟨b, off, rfl⟩

theorem Rel.loc_add {P : Program} {D : Tab T} {w : World} {g : Gh} {t k off n : Nat} {v : Value} (h : Rel P D w g (.loc t k off) v) :
    ∃ b, v = .pointer (some ⟨b, off, none⟩) ∧ Rel P D w g (.loc t k (off + n)) (.pointer (some ⟨b, off + n, none⟩)) := by
  cases h with
  | loc _ _ _ b hk hb => exact ⟨b, rfl, .loc t k (off + n) b hk hb⟩

theorem fldsEq_get {P : Program} : ∀ {l : List (Nat × Nat)} {fs : List Field} {i : Nat} {x : Nat × Nat}, fldsEq P l fs = true → l[i]? = some x →
    ∃ fd, fs[i]? = some fd ∧ fd.offset = x.1 ∧ szOf P fd.type = some x.2 ∧ 0 < x.2
  | [], _, _, _, _, h => by simp at h
  | (p, n) :: r, [], _, _, h, _ => by simp [fldsEq] at h
  | (p, n) :: r, fd :: q, i, x, h, hi => by
    simp only [fldsEq, Bool.and_eq_true] at h
    obtain ⟨⟨⟨h1, h2⟩, h3⟩, h4⟩ := h
    cases i with
    | zero =>
      simp at hi; subst hi
      refine ⟨fd, rfl, Nat.eq_of_beq_eq_true h1, ?_, by simpa using h3⟩
      split at h2
      · rename_i m hm; rw [hm, Nat.eq_of_beq_eq_true h2]
      · simp at h2
    | succ i => simpa using fldsEq_get h4 (by simpa using hi)

theorem step_fieldAddr {t : Nat} {x : Operand} {fl : Nat} (ho : o.op = .fieldAddr t x fl) (hC : CtxOK C) (h : SR C s g M okc ds a w) (hx : opdOk C.nt x) (hev : evOp C.D S s o k3 = some (v, u, f)) : StepOK C s g ds a w o v u Q := by
  simp only [evOp, ho] at hev
  have hr := h.ev (ty := 0) hx
  split at hev
  · rename_i i hi
    split at hev
    · rename_i off n hfl
      obtain ⟨ti, d, r⟩ := hC.tab.row hi
      have hst : ∃ fs, d = .struct fs := by
        apply Classical.byContradiction
        intro hn
        rw [r.nofl fun fs e => hn ⟨fs, e⟩] at hfl
        simp at hfl
      obtain ⟨fs, rfl⟩ := hst
      obtain ⟨fd, h1, h2, h3, h4⟩ := fldsEq_get (r.flds fs rfl) hfl
      have h1' : fs[fl]? = some fd := by simpa using h1
      have hrun : ∀ b p, a.eval x = .pointer (some ⟨b, p, none⟩) → (execOp a.eval o).run C.P w = .ok (.value (.pointer (some ⟨b, p + off, none⟩))) w := by
        intro b p hp
        simp only [execOp, ho, hp]
        refine Looks.go ?_
        have hn0 : n ≠ 0 := by simp at h4; omega
        simp only [Looks, Instr.fieldAt, Sem.run_bind, run_underlying r.hd, Result.andThen_ok, h1', Instr.sureAddr, Sem.run_pure, fieldPlace, run_sizeOf h3, hn0, if_false, h2, addr_add]
      split at hev
      · rename_i tt k p he
        rw [he] at hr
        obtain ⟨rfl, rfl⟩ := k3_some hev
        obtain ⟨b, e1, e2⟩ := hr.loc_add (n := off)
        exact step_same h (by simp [ho]) (by simp [ho]) (hrun b p e1) e2 rfl
      · rename_i cs he
        rw [he] at hr
        obtain ⟨rfl, rfl⟩ := k3_some hev
        obtain ⟨b, p, e1⟩ := rel_rp hr
        rw [e1] at hr
        exact step_same h (by simp [ho]) (by simp [ho]) (hrun b p e1) hr.rp_drop rfl
      · simp at hev
    · simp at hev
  · simp at hev

theorem step_extract {x : Operand} {i : Nat} (ho : o.op = .extract x i) (h : SR C s g M okc ds a w) (hx : opdOk C.nt x) (hev : evOp C.D S s o k3 = some (v, u, f)) : StepOK C s g ds a w o v u Q := by
  simp only [evOp, ho] at hev
  have hr := h.ev (ty := 0) hx
  split at hev
  · rename_i vs he
    rw [he] at hr
    split at hev
    · rename_i c hc
      obtain ⟨rfl, rfl⟩ := k3_some hev
      generalize hz : a.eval x = z at hr
      cases hr with
      | tup _ ws hn hh =>
        have hi : i < ws.size := by rw [hn]; exact (List.getElem?_eq_some_iff.1 hc).1
        refine step_same (val := ws[i]) h (by simp [ho]) (by simp [ho]) ?_ ?_ rfl
        · simp only [execOp, ho, hz]
          refine Looks.go ?_
          simp [Looks, Instr.extract, Array.getElem?_eq_getElem hi]
        · have := hh i _ hc
          simpa [Array.getD, hi] using this
    · simp at hev
  · simp at hev

theorem step_makeInterface {t : Nat} {x : Operand} (ho : o.op = .makeInterface t x) (hC : CtxOK C) (h : SR C s g M okc ds a w) (hx : opdOk C.nt x)
    (hev : evOp C.D S s o k3 = some (v, u, f)) : StepOK C s g ds a w o v u Q := by
  simp only [evOp, ho] at hev
  split at hev
  · rename_i i hi
    split at hev
    · rename_i hagg
      obtain ⟨rfl, rfl⟩ := k3_some hev
      obtain ⟨ti, d, r⟩ := hC.tab.row hi
      refine step_same (val := .iface t (a.eval x)) h (by simp [ho]) (by simp [ho]) ?_ (.ifc t _ _ (h.ev hx)) rfl
      simp only [execOp, ho]
      refine Looks.go ?_
      simp only [Looks, Instr.makeInterface, Sem.run_bind, run_underlying r.hd, Result.andThen_ok]
      have hn : ∀ ms, d ≠ .interface ms := by
        rintro ms rfl
        have h1 := r.agg
        cases hs : i.slE with
        | none => rw [hs] at hagg; simp at hagg; rw [hagg] at h1; simp [isAggD] at h1
        | some y => exact absurd (r.sl y.1 y.2.1 y.2.2 hs).1 (by simp)
      cases d <;> first | rfl | exact absurd rfl (hn _)
    · simp at hev
  · simp at hev

end
end Go.Px

namespace Go.Px
variable {T : Nat → Type} {ρ : Type}

section
variable {C : Ctx T} {S : Specs T} {s : St T} {g : Gh} {M : Nat → Prop} {okc : Nat → Nat → Prop} {ds : List Nat} {a : Act} {w : World} {o : Oper} {v : PV T} {u : List (Upd T)} {f : List Nat} {Q : Exit → Act → World → Prop}
variable {P : Program} {D : Tab T}

theorem run_load_some {a : Addr} {v : Value} (h : w.cell? a = some v) : (load a).run P w = .ok v w := by simp [h]

/-- a variable is read -/
theorem run_loadVar {t : Nat} {i : TI T} {ti : TypeInfo} {d : TypeDesc} (r : Row P D t i ti d) {cs : List (PV T)} {b off : Nat} {F : Nat → Value} (hl : i.size ≤ cs.length)
    (hc : ∀ j c, cs[j]? = some c → w.cell? ⟨b, off + j, none⟩ = some (F j) ∧ Rel P D w g c (F j)) :
    ∃ val, (loadVar t ⟨b, off, none⟩).run P w = .ok val w ∧ Rel P D w g (one1 i cs) val := by
  simp only [loadVar, Sem.run_bind, run_isAgg r, Result.andThen_ok]
  cases ha : i.agg with
  | true =>
    refine ⟨.agg ((List.range i.size).map F).toArray, ?_, ?_⟩
    · have hld := run_loadCells (P := P) w ⟨b, off, none⟩ i.size F (fun j hj => by
        rw [addr_add]
        exact (hc j _ (List.getElem?_eq_getElem (by omega))).1)
      simp only [if_true, Sem.run_bind, run_sizeOf r.szOf, Result.andThen_ok, hld, Sem.run_pure]
    · simp only [one1, ha]
      refine .agg _ _ (by simp; omega) fun j c hj => ?_
      rw [List.getElem?_take] at hj
      split at hj
      · rename_i hlt
        have := (hc j c hj).2
        simpa [Array.getD_eq_getD_getElem?, hlt] using this
      · simp at hj
  | false =>
    have h1 := r.one ha
    cases cs with
    | nil => simp at hl; omega
    | cons c q =>
      refine ⟨F 0, ?_, ?_⟩
      · have := (hc 0 c rfl).1
        simp only [Nat.add_zero] at this
        simp only [Bool.false_eq_true, if_false, run_load_some this]
      · simp only [one1, ha]
        exact (hc 0 c rfl).2

theorem SR.box_of {u k : Nat} {cs : List (PV T)} (h : WR C s g M okc ds w) (hb : s.rbox u k = some cs) {e : Bx T} (he : s.ent u = some e) : e.cs = cs ∧ e.ver = k := by
  simp only [St.rbox, he] at hb
  split at hb
  · rename_i hv; cases hb; exact ⟨rfl, Nat.eq_of_beq_eq_true hv⟩
  · simp at hb

/-- what a readable box holds -/
theorem WR.rbox {u k : Nat} {cs : List (PV T)} (h : WR C s g M okc ds w) (hb : s.rbox u k = some cs) :
    ∃ b vs E e, s.ent u = some e ∧ e.cs = cs ∧ k = g.bv u ∧ g.bl u = some b ∧ w.heap[b]? = some (.cells vs E (0, 0)) ∧ RelL C.P C.D w g cs vs ∧ BoxOK C.P C.D w g e b := by
  cases he : s.ent u with
  | none => simp [St.rbox, he] at hb
  | some e =>
    obtain ⟨rfl, rfl⟩ := SR.box_of h hb he
    obtain ⟨b, h1, h2⟩ := h.bx u e he
    obtain ⟨vs, E, h3, h4⟩ := h2.cells
    refine ⟨b, vs, E, e, rfl, rfl, ?_, h1, h3, h4, h2⟩
    rw [h.bv, St.bv, he]

theorem cell_of {b o : Nat} {vs : Array Value} {E : Nat} {fz : Nat × Nat} (h : w.heap[b]? = some (.cells vs E fz)) : w.cell? ⟨b, o, none⟩ = vs[o]? := by simp [World.cell?, h]

theorem RelL.get {cs : List (PV T)} {vs : Array Value} (h : RelL P D w g cs vs) {j : Nat} {c : PV T} (hc : cs[j]? = some c) : vs[j]? = some (vs.getD j undef) ∧ Rel P D w g c (vs.getD j undef) := by
  have hj : j < vs.size := by rw [h.1]; exact (List.getElem?_eq_some_iff.1 hc).1
  exact ⟨by simp [Array.getD, hj], h.2 j c hc⟩

/-- a cell that is read through a pointer -/
theorem WR.rp_cell (h : WR C s g M okc ds w) {b o : Nat} {v : Value} (hc : (w.cell? ⟨b, o, none⟩ = some v ∧ g.ok b o) ∨ ∃ vs E z, g.rh b = some (.cells vs E z) ∧ vs[o]? = some v) : w.cell? ⟨b, o, none⟩ = some v := by
  rcases hc with hc | ⟨vs, E, z, h1, h2⟩
  · exact hc.1
  · rw [cell_of (h.rh _ _ h1).2]; exact h2

theorem step_load {t : Nat} {x : Operand} (ho : o.op = .load t x) (hC : CtxOK C) (h : SR C s g M okc ds a w) (hx : opdOk C.nt x) (hev : evOp C.D S s o k3 = some (v, u, f)) : StepOK C s g ds a w o v u Q := by
  simp only [evOp, ho] at hev
  have hr := h.ev (ty := 0) hx
  split at hev
  · rename_i i hi
    obtain ⟨ti, d, r⟩ := hC.tab.row hi
    split at hev
    · rename_i tt k off he
      rw [he] at hr
      split at hev
      · rename_i cs hcs
        split at hev
        · rename_i hle
          obtain ⟨rfl, rfl⟩ := k3_some hev
          obtain ⟨b, vs, E, e, _, _, hk, hbl, hhp, hrel, _⟩ := h.wr.rbox hcs
          generalize hz : a.eval x = z at hr
          cases hr with
          | loc _ _ _ b' hk' hb' =>
            have := hb' hk
            rw [hbl] at this; cases this
            have hle : off + i.size ≤ cs.length := by simpa using hle
            obtain ⟨val, h1, h2⟩ := run_loadVar (w := w) (g := g) r (cs := cs.drop off) (b := b) (off := off) (F := fun j => vs.getD (off + j) undef) (by simp; omega) (fun j c hj => by
              rw [List.getElem?_drop] at hj
              have := hrel.get hj
              exact ⟨by rw [cell_of hhp]; exact this.1, this.2⟩)
            refine step_same (val := val) h (by simp [ho]) (by simp [ho]) ?_ h2 rfl
            simp only [execOp, ho, hz]
            refine Looks.go ?_
            simpa only [Looks, Instr.loadAt, Instr.sureAddr, Sem.run_bind, Sem.run_pure, Result.andThen_ok] using h1
        · simp at hev
      · simp at hev
    · rename_i cs he
      rw [he] at hr
      split at hev
      · rename_i hle
        obtain ⟨rfl, rfl⟩ := k3_some hev
        generalize hz : a.eval x = z at hr
        cases hr with
        | rp _ b off F hc hr' =>
          have hle : i.size ≤ cs.length := by simpa using hle
          obtain ⟨val, h1, h2⟩ := run_loadVar (w := w) (g := g) r (cs := cs) (b := b) (off := off) (F := F) hle (fun j c hj => ⟨h.wr.rp_cell (hc j c hj), hr' j c hj⟩)
          refine step_same (val := val) h (by simp [ho]) (by simp [ho]) ?_ h2 rfl
          simp only [execOp, ho, hz]
          refine Looks.go ?_
          simpa only [Looks, Instr.loadAt, Instr.sureAddr, Sem.run_bind, Sem.run_pure, Result.andThen_ok] using h1
      · simp at hev
    · simp at hev
  · simp at hev

theorem pickIdx_some {i : Int} {k : Nat → Option ρ} {r : ρ} : ∀ {n j : Nat}, pickIdx i k n j = some r → ∃ m : Nat, i = (m : Int) ∧ j ≤ m ∧ m < j + n ∧ k m = some r
  | 0, _, h => by simp [pickIdx] at h
  | n + 1, j, h => by
    simp only [pickIdx] at h
    by_cases hi : i = (j : Int)
    · simp [hi] at h; exact ⟨j, hi, Nat.le_refl _, by omega, h⟩
    · simp [hi] at h
      obtain ⟨m, h1, h2, h3, h4⟩ := pickIdx_some h
      exact ⟨m, h1, by omega, by omega, h4⟩

theorem elem_of {t n e : Nat} (h : P.underlying t = some (.array n e)) : P.arrayLen t = n ∧ P.elem t = e := by simp [Program.arrayLen, Program.elem, h]
theorem elem_of' {t e : Nat} (h : P.underlying t = some (.slice e)) : P.elem t = e := by simp [Program.elem, h]

theorem idx_some {α : Type} {l : List α} {i : Int} {x : α} (h : idx l i = some x) : ∃ n : Nat, i = n ∧ l[n]? = some x := by
  unfold idx at h
  split at h
  · exact ⟨i.toNat, by omega, h⟩
  · simp at h

theorem isData_rel {c : PV T} {w : World} {ok : Nat → Nat → Prop} {v : Value} {g : Gh} (hg : g.ok = ok) (hp : plainC c = c) (h : RelD D w ok c v) : Rel P D w g c v := by
  subst hg
  cases h with
  | int k n => exact .int k n
  | bool b => exact .bool b
  | sl E l ow aa cap F hcap ha hr =>
    have ho : ow = .no := by simp [plainC] at hp; exact hp.symm
    subst ho
    exact .sl E l .no _ (.sl E l .no aa cap F hcap ha hr) trivial

/-- an element of a slice -/
theorem RelD.elem {E : Nat} {l : List (T E)} {ow : Own} {v : Value} {ok : Nat → Nat → Prop} (hD : TabOK P D) (h : RelD D w ok (.sl E l ow) v) {n : Nat} {x : T E} (hx : l[n]? = some x) {i : TI T} (hi : D.info E = some i) (h0 : 0 < i.size) :
    ∃ b off cap, v = .slice (some ⟨b, off, none⟩) l.length cap ∧ ∀ gg : Gh, gg.ok = ok → Rel P D w gg (.rp (D.enc E x)) (.pointer (some ⟨b, off + n * i.size, none⟩)) := by
  have hlen := hD.encLen E x i hi
  have hsz : D.sz E = i.size := by simp [Tab.sz, hi]
  generalize hv : PV.sl E l ow = c at h
  cases h with
  | int => cases hv
  | bool => cases hv
  | sl E' l' ow' aa cap F hcap ha hr =>
    cases hv
    have hc0 : ∃ c, (D.enc E x)[0]? = some c := ⟨_, List.getElem?_eq_getElem (by omega)⟩
    obtain ⟨c0, hc0⟩ := hc0
    obtain ⟨b, off, rfl, _, _⟩ := ha n 0 x hx c0 hc0
    refine ⟨b, off, cap, rfl, fun gg hgg => ?_⟩
    refine .rp _ b (off + n * i.size) (fun j => F n j) (fun j c hj => ?_) fun j c hj => ?_
    · obtain ⟨b', off', e, h1, h2⟩ := ha n j x hx c hj
      cases e
      rw [hsz] at h1 h2
      exact .inl ⟨h1, hgg ▸ h2⟩
    · exact isData_rel hgg (hD.encData E x c (List.mem_of_getElem? hj)).2 (hr n j x hx c hj)

theorem step_indexAddr {t : Nat} {x y : Operand} (ho : o.op = .indexAddr t x y) (hC : CtxOK C) (h : SR C s g M okc ds a w) (hx : opdOk C.nt x) (hy : opdOk C.nt y) (hev : evOp C.D S s o k3 = some (v, u, f)) : StepOK C s g ds a w o v u Q := by
  simp only [evOp, ho] at hev
  have hr := h.ev (ty := 0) hx
  have hr2 := h.ev (ty := 0) hy
  split at hev
  · rename_i ti hti
    obtain ⟨tinf, d, r⟩ := hC.tab.row hti
    split at hev
    · rename_i n el z harr
      obtain ⟨rfl, hse, _, _⟩ := r.arr n el z harr
      have hrun : ∀ b p (m : Nat) K, m < n → a.eval x = .pointer (some ⟨b, p, none⟩) → a.eval y = .int K (m : Int) → (execOp a.eval o).run C.P w = .ok (.value (.pointer (some ⟨b, p + m * z, none⟩))) w := by
        intro b p m K hm hp hq
        simp only [execOp, ho, hp, hq]
        refine Looks.go ?_
        obtain ⟨e1, e2⟩ := elem_of r.hd
        rw [Looks, run_indexAt_array (h := by rw [e1, e2]; exact r.hd), e1, e2, run_sizeOf hse]
        simp [hm, addr_add]
      split at hev
      · rename_i tt k off K i he1 he2
        rw [he1] at hr; rw [he2] at hr2
        obtain ⟨m, rfl, _, hm, hk⟩ := pickIdx_some hev
        obtain ⟨rfl, rfl⟩ := k3_some hk
        obtain ⟨b, e1, e2⟩ := hr.loc_add (n := m * z)
        exact step_same h (by simp [ho]) (by simp [ho]) (hrun b off m K (by omega) e1 (rel_int hr2)) e2 rfl
      · rename_i cs K i he1 he2
        rw [he1] at hr; rw [he2] at hr2
        obtain ⟨m, rfl, _, hm, hk⟩ := pickIdx_some hev
        obtain ⟨rfl, rfl⟩ := k3_some hk
        obtain ⟨b, p, e1⟩ := rel_rp hr
        rw [e1] at hr
        exact step_same h (by simp [ho]) (by simp [ho]) (hrun b p m K (by omega) e1 (rel_int hr2)) hr.rp_drop rfl
      · simp at hev
    · split at hev
      · rename_i E' z by' E l ow K i hsl he1 he2
        rw [he1] at hr; rw [he2] at hr2
        split at hev
        · rename_i hE
          have hE := Nat.eq_of_beq_eq_true hE
          subst hE
          obtain ⟨xx, hxx, hk⟩ := Option.bind_eq_some_iff.1 hev
          obtain ⟨rfl, rfl⟩ := k3_some hk
          obtain ⟨m, rfl, hm⟩ := idx_some hxx
          obtain ⟨rfl, hse, _, hz, _, ei, hei, hez⟩ := r.sl E' z by' hsl
          generalize hzx : a.eval x = zx at hr
          cases hr with
          | sl _ _ _ _ hd _ =>
            obtain ⟨b, off, cap, rfl, hrp⟩ := hd.elem hC.tab hm hei (by omega)
            have hlt : m < l.length := (List.getElem?_eq_some_iff.1 hm).1
            refine step_same (val := .pointer (some ⟨b, off + m * ei.size, none⟩)) h (by simp [ho]) (by simp [ho]) ?_ (hrp g rfl) rfl
            simp only [execOp, ho, hzx, rel_int hr2]
            refine Looks.go ?_
            have e2 := elem_of' r.hd
            rw [Looks, run_indexAt_slice (h := by rw [e2]; exact r.hd), e2, run_sizeOf hse]
            simp [hlt, addr_add, hez]
        · simp at hev
      · rename_i E' z by' E tt k n K i hsl he1 he2
        rw [he1] at hr; rw [he2] at hr2
        split at hev
        · rename_i hE
          have hE := Nat.eq_of_beq_eq_true hE
          subst hE
          obtain ⟨m, rfl, _, hm, hk⟩ := pickIdx_some hev
          obtain ⟨rfl, rfl⟩ := k3_some hk
          obtain ⟨rfl, hse, _, hz, _, ei, hei, hez⟩ := r.sl E' z by' hsl
          generalize hzx : a.eval x = zx at hr
          cases hr with
          | bsl _ _ _ _ b hk hb =>
            refine step_same (val := .pointer (some ⟨b, m * z, none⟩)) h (by simp [ho]) (by simp [ho]) ?_ (.loc tt k (m * z) b hk hb) rfl
            simp only [execOp, ho, hzx, rel_int hr2]
            refine Looks.go ?_
            have e2 := elem_of' r.hd
            rw [Looks, run_indexAt_slice (h := by rw [e2]; exact r.hd), e2, run_sizeOf hse]
            have : m < n := by omega
            simp [this, addr_add]
        · simp at hev
      · simp at hev
  · simp at hev

/-- a part of a value -/
theorem run_part {t : Nat} {i : TI T} {ti : TypeInfo} {d : TypeDesc} (r : Row P D t i ti d) {cs : List (PV T)} {vs : Array Value} {off : Nat} (hl : off + i.size ≤ cs.length) (hr : RelL P D w g cs vs) :
    ∃ val, (part t vs off).run P w = .ok val w ∧ Rel P D w g (one1 i (cs.drop off)) val := by
  simp only [part, Sem.run_bind, run_isAgg r, Result.andThen_ok]
  have hsz := hr.1
  cases ha : i.agg with
  | true =>
    refine ⟨.agg (vs.extract off (off + i.size)), ?_, ?_⟩
    · simp [run_sizeOf r.szOf]
    · simp only [one1, ha]
      refine .agg _ _ (by simp; omega) fun j c hj => ?_
      rw [List.getElem?_take] at hj
      split at hj
      · rename_i hlt
        rw [List.getElem?_drop] at hj
        have h2 := hr.2 _ c hj
        have : (vs.extract off (off + i.size)).getD j undef = vs.getD (off + j) undef := by
          simp only [Array.getD_eq_getD_getElem?, Array.getElem?_extract]
          have : j < min (off + i.size) vs.size - off := by omega
          simp [this]
        rw [this]; exact h2
      · simp at hj
  | false =>
    have h1 := r.one ha
    have hc : ∃ c, cs[off]? = some c := ⟨_, List.getElem?_eq_getElem (by omega)⟩
    obtain ⟨c, hc⟩ := hc
    refine ⟨vs.getD off undef, ?_, ?_⟩
    · have h2 := (hr.get hc).1
      generalize vs.getD off undef = y at h2
      simp [h2]
    · have hd : cs.drop off = c :: cs.drop (off + 1) := by
        have := List.getElem?_eq_some_iff.1 hc
        obtain ⟨h2, rfl⟩ := this
        exact List.drop_eq_getElem_cons h2
      simp only [one1, ha, hd]
      exact hr.2 _ _ hc

theorem step_index {t : Nat} {x y : Operand} (ho : o.op = .index t x y) (hC : CtxOK C) (h : SR C s g M okc ds a w) (hx : opdOk C.nt x) (hy : opdOk C.nt y) (hev : evOp C.D S s o k3 = some (v, u, f)) : StepOK C s g ds a w o v u Q := by
  simp only [evOp, ho] at hev
  have hr := h.ev (ty := 0) hx
  have hr2 := h.ev (ty := 0) hy
  split at hev
  · rename_i ti hti
    obtain ⟨tinf, d, r⟩ := hC.tab.row hti
    split at hev
    · rename_i n el z harr
      obtain ⟨rfl, hse, _, ei', hei', hz⟩ := r.arr n el z harr
      split at hev
      · rename_i ei cs K i hei he1 he2
        rw [he1] at hr; rw [he2] at hr2
        have hee : ei = ei' := by rw [hei] at hei'; exact Option.some.inj hei'
        subst hee
        split at hev
        · rename_i hlen
          have hlen := Nat.eq_of_beq_eq_true hlen
          obtain ⟨m, rfl, _, hm, hk⟩ := pickIdx_some hev
          obtain ⟨rfl, rfl⟩ := k3_some hk
          obtain ⟨_, _, r2⟩ := hC.tab.row hei
          generalize hzx : a.eval x = zx at hr
          cases hr with
          | agg _ vs hn hh =>
            have hmn : m < n := by omega
            have hb : m * z + ei.size ≤ cs.length := by
              rw [← hlen, hz]
              have := Nat.mul_le_mul_right z (Nat.succ_le_of_lt hmn)
              rw [Nat.succ_mul] at this; omega
            obtain ⟨val, h1, h2⟩ := run_part (w := w) (g := g) r2 (cs := cs) (vs := vs) (off := m * z) hb ⟨hn, hh⟩
            refine step_same (val := val) h (by simp [ho]) (by simp [ho]) ?_ h2 rfl
            simp only [execOp, ho, hzx, rel_int hr2]
            refine Looks.go ?_
            simp only [Looks, Instr.index, asIntOf, Sem.run_bind, Sem.run_pure, Result.andThen_ok, run_underlying r.hd]
            simp [hmn, run_sizeOf hse, h1]
        · simp at hev
      · simp at hev
    · simp at hev
  · simp at hev

theorem step_typeAssert {x : Operand} {xt t : Nat} {ok : Bool} (ho : o.op = .typeAssert x xt t ok) (hC : CtxOK C) (h : SR C s g M okc ds a w) (hx : opdOk C.nt x) (hev : evOp C.D S s o k3 = some (v, u, f)) : StepOK C s g ds a w o v u Q := by
  simp only [evOp, ho] at hev
  have hr := h.ev (ty := 0) hx
  split at hev
  · rename_i i t' c hi he
    rw [he] at hr
    obtain ⟨tinf, d, r⟩ := hC.tab.row hi
    split at hev
    · rename_i hagg
      generalize hzx : a.eval x = zx at hr
      cases hr with
      | ifc _ _ vv hv =>
        have hd : ∀ ms, d ≠ .interface ms := by
          rintro ms rfl
          have := r.agg; rw [hagg] at this; simp [isAggD] at this
        obtain ⟨z, hz, hzs, hza⟩ := r.zero
        have hrun : (Instr.typeAssert (.iface t' vv) xt t true).run C.P w = if t' = t then .ok (.tuple #[vv, .bool true]) w else .ok (.tuple #[z, .bool false]) w := by
          simp only [Instr.typeAssert, Sem.run_bind, run_underlying r.hd, Result.andThen_ok]
          cases d <;> first | exact absurd rfl (hd _) | (by_cases e : t' = t <;> simp [e, run_zeroValue r.hi hz])
        split at hev
        · rename_i htt
          have htt := Nat.eq_of_beq_eq_true htt
          subst htt
          obtain ⟨rfl, rfl⟩ := k3_some hev
          refine step_same (val := .tuple #[vv, .bool true]) h (by simp [ho]) (by simp [ho]) ?_ ?_ rfl
          · simp only [execOp, ho, hzx]
            refine Looks.go ?_
            rw [Looks, hrun]; simp
          · refine .tup _ _ rfl fun i c hc => ?_
            match i, hc with
            | 0, hc => simp at hc; subst hc; simpa using hv
            | 1, hc => simp at hc; subst hc; exact .bool true
            | i + 2, hc => simp at hc
        · rename_i htt
          have htt : t' ≠ t := fun e => by subst e; simp at htt
          obtain ⟨rfl, rfl⟩ := k3_some hev
          refine step_same (val := .tuple #[z, .bool false]) h (by simp [ho]) (by simp [ho]) ?_ ?_ rfl
          · simp only [execOp, ho, hzx]
            refine Looks.go ?_
            rw [Looks, hrun]; simp [htt]
          · refine .tup _ _ rfl fun j c hc => ?_
            match j, hc with
            | 0, hc =>
              simp at hc; subst hc
              obtain ⟨cs, rfl⟩ := hza.1 hagg
              have := zerosEq_rel (P := C.P) (D := C.D) (w := w) (g := g) hzs
              simp only [Value.cells] at this
              exact .agg _ _ this.1 this.2
            | 1, hc => simp at hc; subst hc; exact .bool false
            | j + 2, hc => simp at hc
    · simp at hev
  · simp at hev

end
end Go.Px

namespace Go.Px
variable {T : Nat → Type} {ρ : Type}

section
variable {P : Program} {D : Tab T} {w : World} {g : Gh}

theorem eqCells_cons {c d : PV T} {r q : List (PV T)} {t : Bool} (h : eqCells (c :: r) (d :: q) = some t) :
    ∃ t', eqCells r q = some t' ∧ ((∃ K a b, c = .int K a ∧ d = .int K b ∧ t = (decide (a = b) && t')) ∨ (∃ a b, c = .bool a ∧ d = .bool b ∧ t = ((a == b) && t'))) := by
  rw [eqCells.eq_def] at h
  split at h
  · rename_i e1 e2; cases e1
  · rename_i e1 e2
    cases e1; cases e2
    split at h
    · rename_i hK
      have hK := of_decide_eq_true hK
      subst hK
      split at h
      · rename_i t' ht'; cases h; exact ⟨t', ht', .inl ⟨_, _, _, rfl, rfl, rfl⟩⟩
      · simp at h
    · simp at h
  · rename_i e1 e2
    cases e1; cases e2
    split at h
    · rename_i t' ht'; cases h; exact ⟨t', ht', .inr ⟨_, _, rfl, rfl, rfl⟩⟩
    · simp at h
  · simp at h

theorem eqCells_nil {d : List (PV T)} {t : Bool} (h : eqCells [] d = some t) : d = [] ∧ t = true := by
  cases d with
  | nil => simp [eqCells] at h; exact ⟨rfl, h⟩
  | cons _ _ => simp [eqCells] at h

theorem eqCells_split : ∀ (n : Nat) {x y : List (PV T)} {t : Bool}, eqCells x y = some t → ∃ t1 t2, eqCells (x.take n) (y.take n) = some t1 ∧ eqCells (x.drop n) (y.drop n) = some t2 ∧ t = (t1 && t2)
  | 0, x, y, t, h => ⟨true, t, by simp [eqCells], h, by simp⟩
  | n + 1, [], y, t, h => by
    obtain ⟨rfl, rfl⟩ := eqCells_nil h
    exact ⟨true, true, by simp [eqCells], by simp [eqCells], rfl⟩
  | n + 1, c :: r, [], t, h => by rw [eqCells.eq_def] at h; simp at h
  | n + 1, c :: r, d :: q, t, h => by
    obtain ⟨t', h1, h2⟩ := eqCells_cons h
    obtain ⟨t1, t2, h3, h4, h5⟩ := eqCells_split n h1
    rcases h2 with ⟨K, a, b, rfl, rfl, rfl⟩ | ⟨a, b, rfl, rfl, rfl⟩
    · refine ⟨decide (a = b) && t1, t2, ?_, h4, by rw [h5, Bool.and_assoc]⟩
      simp only [List.take_succ_cons, eqCells, h3, decide_true]
    · refine ⟨(a == b) && t1, t2, ?_, h4, by rw [h5, Bool.and_assoc]⟩
      simp only [List.take_succ_cons, eqCells, h3]

theorem eqCells_len : ∀ {xs ys : List (PV T)} {b : Bool}, eqCells xs ys = some b → ys.length = xs.length
  | [], ys, b, h => by obtain ⟨rfl, _⟩ := eqCells_nil h; rfl
  | c :: r, [], b, h => by rw [eqCells.eq_def] at h; simp at h
  | c :: r, c' :: q, b, h => by obtain ⟨t', h1, _⟩ := eqCells_cons h; simp [eqCells_len h1]

theorem kindsOk_len : ∀ {ks : List Bool} {cs : List (PV T)}, kindsOk ks cs = true → cs.length = ks.length
  | [], [], _ => rfl
  | k :: r, [], h => by cases k <;> simp [kindsOk] at h
  | [], _ :: _, h => by simp [kindsOk] at h
  | true :: r, c :: q, h => by cases c <;> first | (simp [kindsOk] at h; done) | (simp only [kindsOk] at h; simp [kindsOk_len h])
  | false :: r, c :: q, h => by cases c <;> first | (simp [kindsOk] at h; done) | (simp only [kindsOk] at h; simp [kindsOk_len h])

theorem kindsOk_split : ∀ {ks kr : List Bool} {cs : List (PV T)}, kindsOk (ks ++ kr) cs = true → kindsOk ks (cs.take ks.length) = true ∧ kindsOk kr (cs.drop ks.length) = true
  | [], kr, cs, h => ⟨by simp [kindsOk], by simpa using h⟩
  | k :: r, kr, [], h => by cases k <;> simp [kindsOk] at h
  | true :: r, kr, c :: q, h => by
    cases c <;> first | (simp [kindsOk] at h; done) | (simp only [List.cons_append, kindsOk] at h; have := kindsOk_split h; simpa [kindsOk] using this)
  | false :: r, kr, c :: q, h => by
    cases c <;> first | (simp [kindsOk] at h; done) | (simp only [List.cons_append, kindsOk] at h; have := kindsOk_split h; simpa [kindsOk] using this)

theorem run_isAgg' {t : Nat} {d : TypeDesc} (h : P.underlying t = some d) : (isAgg t).run P w = .ok (isAggD d) w := by
  simp only [isAgg, Sem.run_bind, run_underlying h, Result.andThen_ok]
  cases d <;> simp [isAggD]

/-- what 'part' hands out -/
def cut (ag : Bool) (xs : Array Value) (p n : Nat) : Value := if ag then .agg (xs.extract p (p + n)) else xs.getD p undef

theorem run_part' {t n p : Nat} {d : TypeDesc} (h : P.underlying t = some d) (hs : szOf P t = some n) {xs : Array Value} (hp : p + n ≤ xs.size) (h1 : isAggD d = false → 1 ≤ n) :
    (part t xs p).run P w = .ok (cut (isAggD d) xs p n) w := by
  simp only [part, Sem.run_bind, run_isAgg' h, Result.andThen_ok, cut]
  cases hd : isAggD d with
  | true => simp [run_sizeOf hs]
  | false =>
    have := h1 hd
    have hlt : p < xs.size := by omega
    simp [Array.getD, hlt]

theorem RelL.take_drop {cs : List (PV T)} {vs : Array Value} (h : RelL P D w g cs vs) {p n : Nat} (hp : p + n ≤ cs.length) : RelL P D w g ((cs.drop p).take n) (vs.extract p (p + n)) := by
  have hsz := h.1
  refine ⟨by simp; omega, fun j c hj => ?_⟩
  rw [List.getElem?_take] at hj
  split at hj
  · rename_i hlt
    rw [List.getElem?_drop] at hj
    have : (vs.extract p (p + n)).getD j undef = vs.getD (p + j) undef := by
      simp only [Array.getD_eq_getD_getElem?, Array.getElem?_extract]
      have : j < min (p + n) vs.size - p := by omega
      simp [this]
    rw [this]; exact h.2 _ c hj
  · simp at hj

/-- a part's cells as a value -/
theorem cut_eq {xs : Array Value} {p n : Nat} {ag : Bool} (h1 : ag = false → 1 ≤ n) (hp : p + n ≤ xs.size) : cut ag xs p n = cut ag (xs.extract p (p + n)) 0 n := by
  cases ag with
  | true => simp only [cut, if_true]; congr 1; simp [Array.extract_extract]
  | false =>
    have := h1 rfl
    simp only [cut, Bool.false_eq_true, if_false, Array.getD_eq_getD_getElem?, Array.getElem?_extract]
    have : 0 < min (p + n) xs.size - p := by omega
    simp [this]

/-- of flat types '==' is cell by cell -/
theorem equalIn_flat : ∀ (d t : Nat) (ks : List Bool), flatSz P d t = some ks → ∀ (e : Nat), d ≤ e → ∀ {xs ys : List (PV T)} {vx vy : Array Value} {b : Bool}, kindsOk ks xs = true → RelL P D w g xs vx → RelL P D w g ys vy → eqCells xs ys = some b →
    ∃ desc, P.underlying t = some desc ∧ (isAggD desc = false → 1 ≤ ks.length) ∧ (Op.equalIn e t (cut (isAggD desc) vx 0 ks.length) (cut (isAggD desc) vy 0 ks.length)).run P w = .ok b w
  | 0, _, _, h, _, _, _, _, _, _, _, _, _, _, _ => by simp [flatSz] at h
  | d + 1, t, ks, h, 0, he, _, _, _, _, _, _, _, _, _ => by omega
  | d + 1, t, ks, h, e + 1, he, xs, ys, vx, vy, b, hk, rx, ry, heq => by
    have hlen := kindsOk_len hk
    unfold flatSz at h
    split at h
    · rename_i K hu
      cases h
      refine ⟨_, hu, fun _ => Nat.le_refl _, ?_⟩
      match xs, hlen with
      | [c], _ =>
        cases c <;> first | (simp [kindsOk] at hk; done) | skip
        rename_i K1 a'
        cases ys with
        | nil => rw [eqCells.eq_def] at heq; simp at heq
        | cons c' q =>
          obtain ⟨t', h1, h2⟩ := eqCells_cons heq
          obtain ⟨rfl, rfl⟩ := eqCells_nil h1
          rcases h2 with ⟨K', a', b', e1, rfl, rfl⟩ | ⟨a', b', e1, rfl, rfl⟩
          · cases e1
            have e1 := rel_int (rx.2 0 _ rfl)
            have e2 := rel_int (ry.2 0 _ rfl)
            simp only [cut, isAggD, Bool.false_eq_true, if_false, e1, e2]
            rw [run_equalIn_int _ _ _ _ _ _ _ hu]
            simp only [Bool.and_true]
            rfl
          · cases e1
    · rename_i hu
      cases h
      refine ⟨_, hu, fun _ => Nat.le_refl _, ?_⟩
      match xs, hlen with
      | [c], _ =>
        cases c <;> first | (simp [kindsOk] at hk; done) | skip
        cases ys with
        | nil => rw [eqCells.eq_def] at heq; simp at heq
        | cons c' q =>
          obtain ⟨t', h1, h2⟩ := eqCells_cons heq
          obtain ⟨rfl, rfl⟩ := eqCells_nil h1
          rcases h2 with ⟨K', a', b', e1, rfl, rfl⟩ | ⟨a', b', e1, rfl, rfl⟩
          · cases e1
          · cases e1
            have e1 := rel_bool (rx.2 0 _ rfl)
            have e2 := rel_bool (ry.2 0 _ rfl)
            simp only [cut, isAggD, Bool.false_eq_true, if_false, e1, e2]
            rw [run_equalIn_bool' _ _ _ _ _ hu]
            simp
    · rename_i fs hu
      split at h
      · simp at h
      · rename_i hst
        refine ⟨_, hu, fun hh => by simp [isAggD] at hh, ?_⟩
        have hfo : P.fieldsOf t = fs := by simp [Program.fieldsOf, hu]
        simp only [cut, isAggD, if_true]
        rw [run_equalIn_agg _ _ _ _ _ (by rw [hfo]; exact hu) hst, hfo]
        have hx0 : vx.extract 0 (0 + ks.length) = vx := by rw [Nat.zero_add, ← hlen, ← rx.1]; simp
        have hylen : ys.length = xs.length := eqCells_len heq
        have hy0 : vy.extract 0 (0 + ks.length) = vy := by rw [Nat.zero_add, ← hlen, ← hylen, ← ry.1]; simp
        rw [hx0, hy0]
        -- the fields, one behind the other
        have key : ∀ (fs : List Field) (n : Nat) (kr : List Bool), fldsF P (flatSz P d) fs n = some kr → ∀ {b : Bool}, n + kr.length = xs.length → kindsOk kr (xs.drop n) = true → eqCells (xs.drop n) (ys.drop n) = some b →
            (Op.eqFields e vx vy fs).run P w = .ok b w := by
          intro fs
          induction fs with
          | nil =>
            intro n kr hf b hn hk' heq'
            simp only [fldsF] at hf
            cases hf
            have : xs.drop n = [] := by apply List.drop_eq_nil_of_le; simp at hn; omega
            rw [this] at heq'
            obtain ⟨_, rfl⟩ := eqCells_nil heq'
            rfl
          | cons fl r ih =>
            intro n kr hf b hn hk' heq'
            unfold fldsF at hf
            split at hf
            · rename_i ks1 m hname hoff hfl hsz
              split at hf
              · rename_i hm
                have hm := Nat.eq_of_beq_eq_true hm
                subst hm
                have hoff := Nat.eq_of_beq_eq_true hoff
                split at hf
                · rename_i kr' hkr
                  cases hf
                  obtain ⟨k1, k2⟩ := kindsOk_split hk'
                  obtain ⟨t1, t2, e1, e2, rfl⟩ := eqCells_split ks1.length heq'
                  rw [List.drop_drop] at k2 e2
                  rw [List.drop_drop] at e2
                  have hb : n + ks1.length ≤ xs.length := by simp at hn; omega
                  obtain ⟨desc, hd, h1, hrun⟩ := equalIn_flat d fl.type ks1 hfl e (by omega) k1 (rx.take_drop hb) (ry.take_drop (by rw [hylen]; exact hb)) e1
                  have p1 := run_part' (w := w) hd hsz (xs := vx) (p := n) (by rw [rx.1]; exact hb) h1
                  have p2 := run_part' (w := w) hd hsz (xs := vy) (p := n) (by rw [ry.1, hylen]; exact hb) h1
                  rw [cut_eq h1 (by rw [rx.1]; exact hb)] at p1
                  rw [cut_eq h1 (by rw [ry.1, hylen]; exact hb)] at p2
                  have hnm : fl.name ≠ "_" := by simpa using hname
                  simp only [Op.eqFields, ne_eq, hnm, not_false_eq_true, if_true, Sem.run_bind, hoff, p1, p2, Result.andThen_ok, hrun]
                  have := ih (n + ks1.length) kr' hkr (b := t2) (by simp at hn; omega) k2 e2
                  cases t1 <;> simp [this]
                · simp at hf
              · simp at hf
            · simp at hf
        exact key fs.toList 0 ks h (by rw [hlen]; simp) (by simpa using hk) (by simpa using heq)
    · simp at h

theorem look_mem {α : Type} {t : Nat} {x : α} : ∀ {l : List (Nat × α)}, look t l = some x → (t, x) ∈ l
  | [], h => by simp [look] at h
  | (u, y) :: r, h => by
    simp only [look] at h
    split at h
    · rename_i hb; cases h; rw [Nat.eq_of_beq_eq_true hb]; exact List.mem_cons_self
    · exact List.mem_cons_of_mem _ (look_mem h)

theorem eqsOk_get : ∀ {l : List (Nat × List Bool)} {t : Nat} {ks : List Bool}, eqsOk P l = true → look t l = some ks → eqTok P t ks = true
  | [], _, _, _, h => by simp [look] at h
  | (u, y) :: r, t, ks, h, hl => by
    simp only [eqsOk, Bool.and_eq_true] at h
    simp only [look] at hl
    split at hl
    · rename_i hb; cases hl; rw [← Nat.eq_of_beq_eq_true hb]; exact h.1
    · exact eqsOk_get h.2 hl

end
end Go.Px

namespace Go.Px
variable {T : Nat → Type} {ρ : Type}

section
variable {C : Ctx T} {S : Specs T} {s : St T} {g : Gh} {M : Nat → Prop} {okc : Nat → Nat → Prop} {ds : List Nat} {a : Act} {w : World} {o : Oper} {v : PV T} {u : List (Upd T)} {f : List Nat} {Q : Exit → Act → World → Prop}
variable {P : Program} {D : Tab T}

theorem evBin_rel {op : BinOp} {x y : PV T} {v' : PV T} {vx vy : Value} {t : Nat} {ox oy : Operand} (he : evBin op x y (fun v => some v) = some v') (rx : Rel P D w g x vx) (ry : Rel P D w g y vy) :
    ∃ val, (do eqGuard op t ox oy vx vy; binOp op t vx vy : Sem Value).run P w = .ok val w ∧ Rel P D w g v' val := by
  unfold evBin at he
  split at he
  all_goals first
    | (have e1 := rel_int rx; have e2 := rel_int ry; subst e1; subst e2; skip)
    | skip
  all_goals first
    | (simp at he; done)
    | (rename_i K a' K' b'
       by_cases hb : b' < 0
       · simp [hb] at he
       · simp [hb] at he
         subst he
         exact ⟨_, by simp [eqGuard, binOp, Op.shift, hb], .int _ _⟩)
    | (split at he
       · rename_i hK
         have hK := of_decide_eq_true hK
         subst hK
         first
           | (cases he; exact ⟨_, by simp [eqGuard, binOp, Op.intArith, Op.intBits, Op.intCmp]; first | done | rfl, by first | exact .int _ _ | exact .bool _⟩)
           | skip
       · simp at he)
    | skip
  all_goals
    split at he
    · rename_i hK
      have hK := of_decide_eq_true hK
      subst hK
      simp only [Bool.cond_eq_ite, decide_eq_true_eq] at he
      split at he
      · simp at he
      · rename_i hb
        cases he
        exact ⟨_, by simp [eqGuard, binOp, Op.intDiv, hb], .int _ _⟩
    · simp at he

theorem evBin_some {op : BinOp} {x y : PV T} {k : PV T → Option ρ} {r : ρ} (h : evBin op x y k = some r) : ∃ v', evBin op x y (fun v => some v) = some v' ∧ k v' = some r := by
  have := evBin_bind op x y (fun v => some v) k
  simp only [Option.bind_some] at this
  rw [← this] at h
  exact Option.bind_eq_some_iff.1 h

theorem step_binOp {op : BinOp} {xt yt : Nat} {x y : Operand} (ho : o.op = .binOp op xt x y yt) (hC : CtxOK C) (h : SR C s g M okc ds a w) (hx : opdOk C.nt x) (hy : opdOk C.nt y) (hev : evOp C.D S s o k3 = some (v, u, f)) : StepOK C s g ds a w o v u Q := by
  simp only [evOp, ho] at hev
  have hr := h.ev (ty := xt) hx
  have hr2 := h.ev (ty := yt) hy
  have hagg : ∀ (A B : List (PV T)) (ks : List Bool) (t : Bool) (i : TI T), s.ev C.D xt x = .agg A → s.ev C.D yt y = .agg B → look xt C.D.eqs = some ks → eqCells A B = some t → C.D.info xt = some i → (kindsOk ks A && i.agg) = true →
      ∃ vx vy, a.eval x = .agg vx ∧ a.eval y = .agg vy ∧ C.P.eqGuardType C.P.depth xt = false ∧ (Op.equalIn 10000 xt (.agg vx) (.agg vy)).run C.P w = .ok t w := by
    intro A B ks t i eA eB hl he hi hk
    rw [eA] at hr; rw [eB] at hr2
    simp only [Bool.and_eq_true] at hk
    have hok := eqsOk_get hC.tab.eqs hl
    simp only [eqTok, Bool.and_eq_true, beq_iff_eq, Bool.not_eq_true'] at hok
    obtain ⟨ti, d, r⟩ := hC.tab.row hi
    generalize hzx : a.eval x = zx at hr
    generalize hzy : a.eval y = zy at hr2
    cases hr with
    | agg _ vx h1 h2 =>
      cases hr2 with
      | agg _ vy h3 h4 =>
        obtain ⟨desc, e1, e2, e3⟩ := equalIn_flat (w := w) 40 xt ks hok.1 10000 (by omega) hk.1 ⟨h1, h2⟩ ⟨h3, h4⟩ he
        rw [r.hd] at e1; cases e1
        have hd : isAggD d = true := by rw [← r.agg]; exact hk.2
        have l1 := kindsOk_len hk.1
        have l2 := eqCells_len he
        have x1 : vx.extract 0 (0 + ks.length) = vx := by rw [Nat.zero_add, ← l1, ← h1]; simp
        have x2 : vy.extract 0 (0 + ks.length) = vy := by rw [Nat.zero_add, ← l1, ← l2, ← h3]; simp
        simp only [cut, hd, if_true, x1, x2] at e3
        exact ⟨vx, vy, rfl, rfl, hok.2, e3⟩
  have hbool : ∀ (A B : Bool) (i : TI T), s.ev C.D xt x = .bool A → s.ev C.D yt y = .bool B → look xt C.D.eqs = some [false] → C.D.info xt = some i → i.agg = false → (Op.equalIn 10000 xt (.bool A) (.bool B)).run C.P w = .ok (A == B) w := by
    intro A B i eA eB hl hi hk
    have hok := eqsOk_get hC.tab.eqs hl
    simp only [eqTok, Bool.and_eq_true, beq_iff_eq, Bool.not_eq_true'] at hok
    obtain ⟨ti, d, r⟩ := hC.tab.row hi
    have hfl := hok.1
    unfold flatSz at hfl
    rw [r.hd] at hfl
    have hag := r.agg
    rw [hk] at hag
    have hd : d = .bool := by cases d <;> simp [isAggD] at hag hfl <;> rfl
    subst hd
    exact run_equalIn_bool' _ _ _ _ _ r.hd
  split at hev
  · split at hev
    · split at hev
      · rename_i eA eB _ _ _ ks t i hl he hi _ hk
        obtain ⟨rfl, rfl⟩ := k3_some hev
        obtain ⟨vx, vy, e1, e2, e3, e4⟩ := hagg _ _ ks t i eA eB hl he hi hk
        refine step_same (val := .bool t) h (by simp [ho]) (by simp [ho]) ?_ (.bool _) rfl
        simp only [execOp, ho, e1, e2]
        refine Looks.go ?_
        simp only [Looks, Sem.run_bind, run_eqGuard_agg w _ _ _ _ _ _ e3, Result.andThen_ok, run_eql_struct, e4]
      · simp at hev
    · simp at hev
  · split at hev
    · split at hev
      · rename_i eA eB _ _ _ ks t i hl he hi _ hk
        obtain ⟨rfl, rfl⟩ := k3_some hev
        obtain ⟨vx, vy, e1, e2, e3, e4⟩ := hagg _ _ ks t i eA eB hl he hi hk
        refine step_same (val := .bool (!t)) h (by simp [ho]) (by simp [ho]) ?_ (.bool _) rfl
        simp only [execOp, ho, e1, e2]
        refine Looks.go ?_
        simp only [Looks, Sem.run_bind, run_eqGuard_agg w _ _ _ _ _ _ e3, Result.andThen_ok, run_neq_struct, e4]
      · simp at hev
    · simp at hev
  · split at hev
    · split at hev
      · rename_i eA eB _ _ i hl hi _ hk
        obtain ⟨rfl, rfl⟩ := k3_some hev
        have e4 := hbool _ _ i eA eB hl hi hk
        rw [eA] at hr; rw [eB] at hr2
        refine step_same (val := .bool _) h (by simp [ho]) (by simp [ho]) ?_ (.bool _) rfl
        simp only [execOp, ho, rel_bool hr, rel_bool hr2]
        refine Looks.go ?_
        simp [Looks, eqGuard, binOp, Op.equal, Op.maxDepth, e4]
      · simp at hev
    · simp at hev
  · split at hev
    · split at hev
      · rename_i eA eB _ _ i hl hi _ hk
        obtain ⟨rfl, rfl⟩ := k3_some hev
        have e4 := hbool _ _ i eA eB hl hi hk
        rw [eA] at hr; rw [eB] at hr2
        refine step_same (val := .bool _) h (by simp [ho]) (by simp [ho]) ?_ (.bool _) rfl
        simp only [execOp, ho, rel_bool hr, rel_bool hr2]
        refine Looks.go ?_
        simp [Looks, eqGuard, binOp, Op.equal, Op.maxDepth, e4]
      · simp at hev
    · simp at hev
  · obtain ⟨v', h1, h2⟩ := evBin_some hev
    obtain ⟨rfl, rfl⟩ := k3_some h2
    obtain ⟨val, h3, h4⟩ := evBin_rel (w := w) (P := C.P) (t := xt) (ox := x) (oy := y) h1 hr hr2
    refine step_same (val := val) h (by simp [ho]) (by simp [ho]) ?_ h4 rfl
    simp only [execOp, ho]
    exact Looks.go h3

end
end Go.Px

