/-
  Proved here: calls, and operations in the order of the text, do what the evaluator says.
  Conditions: those that the theorems name.
-/
import Derived.Test.YtlndinolkjgjbaaPc
import Derived.CallsIn
set_option linter.all false
namespace Go.Px
variable {T : Nat → Type} {ρ : Type}

/-! ## Calls -/

/-- what a frame begins with -/
def G0 (ok : Nat → Nat → Prop) (rh : Nat → Option Obj) (out : Option Nat) : Gh :=
  { ok, bv := fun _ => 0, bl := fun t => if OUT = t then out else none, tv := fun _ => 0, tk := fun _ => none, yl := none, rh }

/-- nothing lent -/
abbrev noH : Nat → Option Obj := fun _ => none

/-- a slice whose row nobody else goes on with -/
def RowNew (D : Tab T) (n0 : Nat) (w : World) (ok : Nat → Nat → Prop) (E n : Nat) (r : Value) : Prop :=
  r = .slice none 0 0 ∨ (∃ a, r = .slice a n n) ∨ ∃ b off cap lim vs E', r = .slice (some ⟨b, off, none⟩) n cap ∧ n ≤ cap ∧ n0 ≤ b ∧ w.heap[b]? = some (.cells vs E' (0, 0)) ∧ vs.size = lim ∧ off + cap * D.sz E ≤ lim ∧ ∀ o, ok b o → o < off + n * D.sz E

/-- one result -/
inductive RelR1 (P : Program) (D : Tab T) (n0 : Nat) (w : World) (ok : Nat → Nat → Prop) : PV T → Value → Prop
  | data (v : PV T) (r : Value) (hc : v.clean = true) (h : Rel P D w (G0 ok noH none) v r) : RelR1 P D n0 w ok v r
  | own (E : Nat) (l : List (T E)) (t k : Nat) (r : Value) (h : RelD D w ok (.sl E l .no) r) (hr : RowNew D n0 w ok E l.length r) : RelR1 P D n0 w ok (.sl E l (.tok t k)) r
  | new (cs : List (PV T)) (b : Nat) (vs : Array Value) (E : Nat) (hb : n0 ≤ b) (hh : w.heap[b]? = some (.cells vs E (0, 0))) (hc : cleanL cs = true) (h : RelL P D w (G0 ok noH none) cs vs) (ho : ∀ o, ¬ ok b o) :
      RelR1 P D n0 w ok (.new cs) (.pointer (some ⟨b, 0, none⟩))

/-- all results -/
def RelR (P : Program) (D : Tab T) (n0 : Nat) (w : World) (ok : Nat → Nat → Prop) : PV T → Value → Prop
  | .tup vs, r => ∃ rs : Array Value, r = .tuple rs ∧ rs.size = vs.length ∧ ∀ i c, vs[i]? = some c → RelR1 P D n0 w ok c (rs.getD i undef)
  | v, r => RelR1 P D n0 w ok v r

/-- the object behind a call -/
def ObjOK (P : Program) (D : Tab T) (w : World) (ok : Nat → Nat → Prop) (rh : Nat → Option Obj) (obj : List (PV T)) : Option Nat → Prop
  | none => obj = []
  | some b => ∃ vs E, w.heap[b]? = some (.cells vs E (0, 0)) ∧ obj ≠ [] ∧ cleanL obj = true ∧ RelL P D w (G0 ok rh none) obj vs ∧ ∀ o, ¬ ok b o

/-- a call of a known function -/
structure CallOK (P : Program) (D : Tab T) (f : Nat) (args obj : List (PV T)) (v : PV T) (obj' : List (PV T)) : Prop where
  body : HasBody P f
  run : ∀ w ok rh out vals, OkIn w ok → (∀ b x, rh b = some x → w.heap[b]? = some x ∧ some b ≠ out) → RelL P D w (G0 ok rh out) args vals → ObjOK P D w ok rh obj out →
    CallsW P f vals w fun e w'' => ∃ r ok'', e = .returned r ∧ Frame1 w w'' out ∧ OkNew w ok w'' ok'' ∧ RelR P D w.heap.size w'' ok'' v r ∧
      (∀ b, out = some b → ObjOK P D w'' ok'' noH obj' (some b))

structure SpecOK (P : Program) (D : Tab T) (S : Specs T) : Prop where
  nat : SpecNat S
  ok : ∀ f args obj v o', S f args obj (fun v o => some (v, o)) = some (v, o') → CallOK P D f args obj v o'

section
variable {C : Ctx T} {S : Specs T} {s : St T} {g : Gh} {M : Nat → Prop} {okc : Nat → Nat → Prop} {ds : List Nat} {a : Act} {w : World} {o : Oper} {v : PV T} {u : List (Upd T)} {f : List Nat} {Q : Exit → Act → World → Prop}
variable {P : Program} {D : Tab T}

/-- more is lent -/
theorem Rel.lend {g : Gh} {rh : Nat → Option Obj} (hh : ∀ b x, g.rh b = some x → rh b = some x) {c : PV T} {v : Value} (h : Rel P D w g c v) : Rel P D w { g with rh := rh } c v := by
  induction h with
  | undef v => exact .undef v
  | skip => exact .skip
  | int k n => exact .int k n
  | bool b => exact .bool b
  | nilp => exact .nilp
  | nilf => exact .nilf
  | nili => exact .nili
  | sl E l o v h ho => exact .sl E l o v h (by cases o <;> exact ho)
  | bsl E t k n b hk h => exact .bsl E t k n b hk h
  | agg cs vs hn h ih => exact .agg cs vs hn ih
  | tup cs vs hn h ih => exact .tup cs vs hn ih
  | loc t k off b hk h => exact .loc t k off b hk h
  | rp cs b off f hc h ih =>
    refine .rp cs b off f (fun i c hi => ?_) ih
    rcases hc i c hi with h | ⟨vs, E, z, h1, h2⟩
    · exact .inl h
    · exact .inr ⟨vs, E, z, hh _ _ h1, h2⟩
  | clo f cs vs hn h ih => exact .clo f cs vs hn ih
  | prd A R p v h => exact .prd A R p v (h.more hh)
  | seq A xs v h => exact .seq A xs v h
  | yld l h => exact .yld l h
  | ifc t c v h ih => exact .ifc t c v ih

theorem RelL.map {g g' : Gh} {w w' : World} {F : PV T → PV T} {cs : List (PV T)} {vs : Array Value} (h : RelL P D w g cs vs) (hF : ∀ c v, c ∈ cs → Rel P D w g c v → Rel P D w' g' (F c) v) : RelL P D w' g' (cs.map F) vs := by
  refine ⟨by simp [h.1], fun i c hi => ?_⟩
  rw [List.getElem?_map] at hi
  obtain ⟨d, h1, rfl⟩ := Option.map_eq_some_iff.1 hi
  exact hF d _ (List.mem_of_getElem? h1) (h.2 i d h1)

theorem RelL.imp {g g' : Gh} {w w' : World} {cs : List (PV T)} {vs : Array Value} (h : RelL P D w g cs vs) (hF : ∀ c v, c ∈ cs → Rel P D w g c v → Rel P D w' g' c v) : RelL P D w' g' cs vs :=
  ⟨h.1, fun i c hi => hF c _ (List.mem_of_getElem? hi) (h.2 i c hi)⟩

theorem cleanL_mem {cs : List (PV T)} {c : PV T} (h : cleanL cs = true) (hc : c ∈ cs) : c.clean = true := by
  obtain ⟨i, hi, e⟩ := List.getElem_of_mem hc
  exact cleanL_get h (i := i) (by rw [List.getElem?_eq_getElem hi, e])

/-- the box behind a pointer, lent -/
theorem Rel.lent {cs : List (PV T)} {vs : Array Value} {b E : Nat} {rh : Nat → Option Obj} {g : Gh} (hr : RelL P D w g cs vs) (hh : ∀ b x, g.rh b = some x → rh b = some x) (hb : rh b = some (.cells vs E (0, 0))) (off : Nat) :
    Rel P D w { g with rh := rh } (.rp ((cs.map Px.untok).drop off)) (.pointer (some ⟨b, off, none⟩)) := by
  refine .rp _ b off (fun i => vs.getD (off + i) Go.undef) (fun i c hi => ?_) fun i c hi => ?_
  · rw [List.getElem?_drop, List.getElem?_map] at hi
    obtain ⟨d, h1, rfl⟩ := Option.map_eq_some_iff.1 hi
    exact .inr ⟨vs, E, _, hb, (hr.get h1).1⟩
  · rw [List.getElem?_drop, List.getElem?_map] at hi
    obtain ⟨d, h1, rfl⟩ := Option.map_eq_some_iff.1 hi
    exact ((hr.get h1).2.untok).lend hh

/-- boxes in what closures captured -/
def capBoxes : List (PV T) → List Nat := viewReads.capReads

theorem mem_capReads {caps : List (PV T)} {t v off : Nat} (h : (.loc t v off) ∈ caps) : 2 * t ∈ viewReads.capReads caps := by
  induction caps with
  | nil => simp at h
  | cons c r ih =>
    rcases List.mem_cons.1 h with rfl | h'
    · simp [viewReads.capReads]
    · have := ih h'
      cases c <;> simp [viewReads.capReads, this]

theorem mem_viewReads {args : List (PV T)} {f : Nat} {caps : List (PV T)} {x : Nat} (h : (.clo f caps) ∈ args) (hx : x ∈ viewReads.capReads caps) : x ∈ viewReads args := by
  induction args with
  | nil => simp at h
  | cons c r ih =>
    rcases List.mem_cons.1 h with rfl | h'
    · simp [viewReads, hx]
    · have := ih h'
      cases c <;> simp [viewReads, this]

/-- what a captured variable is, lent -/
theorem WR.conv (h : WR C s g M okc ds w) {rh : Nat → Option Obj} (hh : ∀ b x, g.rh b = some x → rh b = some x) {c : PV T} {v : Value} (hr : Rel C.P C.D w g c v)
    (hb : ∀ t k off, c = .loc t k off → ∀ b x, g.bl t = some b → w.heap[b]? = some x → rh b = some x) : Rel C.P C.D w { g with rh := rh } (s.conv c) v := by
  unfold St.conv
  split
  · rename_i t k off
    split
    · rename_i cs hcs
      split
      · obtain ⟨b, vs, E, e, h1, h2, h3, h4, h5, h6, h7⟩ := h.rbox hcs
        generalize hv : v = vv at hr
        cases hr with
        | loc _ _ _ b' hk hb' =>
          have := hb' h3
          rw [h4] at this; cases this
          exact Rel.lent h6 hh (hb t k off rfl b _ h4 h5) off
      · exact .undef _
    · exact .undef _
  · rename_i E l t k
    exact (hr.untok).lend hh
  · exact hr.lend hh

/-- what an argument is to the callee -/
theorem WR.view (h : WR C s g M okc ds w) {rh : Nat → Option Obj} (hh : ∀ b x, g.rh b = some x → rh b = some x) {c : PV T} {v : Value} (hr : Rel C.P C.D w g c v)
    (hb : ∀ f caps, c = .clo f caps → ∀ t k off, (.loc t k off) ∈ caps → ∀ b x, g.bl t = some b → w.heap[b]? = some x → rh b = some x) : Rel C.P C.D w { g with rh := rh } (s.view c) v := by
  unfold St.view
  split
  · rename_i f caps
    generalize hv : v = vv at hr
    cases hr with
    | clo _ _ vs hn hr =>
      have := RelL.map (w' := w) (g' := { g with rh := rh }) (F := s.conv) ⟨hn, hr⟩ fun c v hc hr => h.conv hh hr (fun t k off e => hb f caps rfl t k off (e ▸ hc))
      exact .clo _ _ _ this.1 this.2
  · rename_i vs
    generalize hv : v = vv at hr
    cases hr with
    | agg _ vs hn hr =>
      have := RelL.map (w' := w) (g' := { g with rh := rh }) (F := untok) ⟨hn, hr⟩ fun c v hc hr => (hr.untok).lend hh
      exact .agg _ _ this.1 this.2
  · exact (hr.untok).lend hh
  · exact hr.lend hh

/-- a settled row in a box that is written no more -/
theorem WR.slOf (hC : CtxOK C) {E n b : Nat} {cs : List (PV T)} {vs : Array Value} {E' : Nat} (h5 : w.heap[b]? = some (.cells vs E' (0, 0))) (h6 : RelL C.P C.D w g cs vs) (hok : ∀ o, o < cs.length → g.ok b o) :
    Rel C.P C.D w g (slOf C.D E n cs) (.slice (some ⟨b, 0, none⟩) n n) := by
  unfold Px.slOf
  split
  · rename_i i hi
    split
    · rename_i l h1 h2
      have hlen := (decAll_get h2).1
      refine .sl E l .no _ (RelD.of_cells (F := fun j => vs.getD j Go.undef) hC.tab hi h2 (Nat.le_refl _) (fun j c hj _ => ?_) .no) trivial
      obtain ⟨a1, a2⟩ := h6.get hj
      refine ⟨by rw [cell_of h5, Nat.zero_add]; exact a1, by rw [Nat.zero_add]; exact hok j (List.getElem?_eq_some_iff.1 hj).1, a2⟩
    · exact .undef _
  · exact .undef _

theorem WR.thawC (hC : CtxOK C) (h : WR C s g M okc ds w) {c : PV T} {v : Value} (hr : Rel C.P C.D w g c v) : Rel C.P C.D w g (s.thawC C.D c) v := by
  unfold St.thawC
  split
  · rename_i E u k n
    split
    · rename_i e hent
      split
      · rename_i hf
        simp only [Bool.and_eq_true] at hf
        obtain ⟨hf, hk⟩ := hf
        have hk := Nat.eq_of_beq_eq_true hk
        obtain ⟨b, h1, h2⟩ := h.bx u e hent
        obtain ⟨vs, E', h3, h4⟩ := h2.cells
        generalize hv : v = vv at hr
        cases hr with
        | bsl _ _ _ _ b' hk' hb' =>
          have := hb' (by rw [h.bv, St.bv, hent, ← hk])
          rw [h1] at this; cases this
          exact WR.slOf hC h3 h4 (h2.fz hf)
      · exact hr
    · exact hr
  · rename_i u k off
    split
    · rename_i e hent
      split
      · rename_i hf
        simp only [Bool.and_eq_true] at hf
        obtain ⟨⟨hf, hk⟩, hn⟩ := hf
        have hk := Nat.eq_of_beq_eq_true hk
        obtain ⟨b, h1, h2⟩ := h.bx u e hent
        obtain ⟨vs, E', h3, h4⟩ := h2.cells
        generalize hv : v = vv at hr
        cases hr with
        | loc _ _ _ b' hk' hb' =>
          have := hb' (by rw [h.bv, St.bv, hent, ← hk])
          rw [h1] at this; cases this
          refine .rp _ b off (fun i => vs.getD (off + i) Go.undef) (fun i c hi => ?_) fun i c hi => ?_
          · rw [List.getElem?_drop, List.getElem?_map] at hi
            obtain ⟨d, h5, rfl⟩ := Option.map_eq_some_iff.1 hi
            exact .inl ⟨by rw [cell_of h3]; exact (h4.get h5).1, h2.fz hf _ (List.getElem?_eq_some_iff.1 h5).1⟩
          · rw [List.getElem?_drop, List.getElem?_map] at hi
            obtain ⟨d, h5, rfl⟩ := Option.map_eq_some_iff.1 hi
            exact (h4.get h5).2.untok
      · exact hr
    · exact hr
  · exact hr

theorem WR.thaw (hC : CtxOK C) (h : WR C s g M okc ds w) {c : PV T} {v : Value} (hr : Rel C.P C.D w g c v) : Rel C.P C.D w g (s.thaw C.D c) v := by
  unfold St.thaw
  split
  · rename_i vs
    generalize hv : v = vv at hr
    cases hr with
    | agg _ vs hn hr =>
      have := RelL.map (w' := w) (g' := g) (F := s.thawC C.D) ⟨hn, hr⟩ fun c v _ hr => h.thawC hC hr
      exact .agg _ _ this.1 this.2
  · exact h.thawC hC hr

end
end Go.Px

namespace Go.Px
variable {T : Nat → Type} {ρ : Type}

section
variable {C : Ctx T} {S : Specs T} {s : St T} {g : Gh} {M : Nat → Prop} {okc : Nat → Nat → Prop} {ds : List Nat} {a : Act} {w : World} {o : Oper} {v : PV T} {u : List (Upd T)} {f : List Nat} {Q : Exit → Act → World → Prop}
variable {P : Program} {D : Tab T}

/-- what is known with nothing lent is known -/
theorem Rel.of_g0 {c : PV T} {r : Value} (h : Rel P D w (G0 g.ok noH none) c r) (hc : c.clean = true) : Rel P D w g c r :=
  Rel.move (g := G0 g.ok noH none) (g' := g) (Evo.refl w g.ok) (fun _ _ e => by cases e) h hc

/-- blocks that the frame has not seen -/
structure Unseen (g : Gh) (M : Nat → Prop) (n0 : Nat) : Prop where
  M : ∀ b, n0 ≤ b → ¬ M b
  bl : ∀ t b, n0 ≤ b → g.bl t ≠ some b
  tk : ∀ t b e, n0 ≤ b → g.tk t ≠ some (b, e)

theorem RelR1.plain {n0 : Nat} {r : Value} (h : RelR1 P D n0 w g.ok v r) (hv : v.clean = true) : Rel P D w g v r := by
  cases h with
  | data _ _ hc h => exact h.of_g0 hc
  | own => simp [PV.clean] at hv
  | new => simp [PV.clean] at hv

/-- a row of its own, under a name -/
theorem WR.adopt_tok (h : WR C s g M okc ds w) {n0 : Nat} (hu : Unseen g M n0) (d : Nat) {E : Nat} {l : List (T E)} {r : Value} (hd : RelD C.D w g.ok (.sl E l .no) r) (hr : RowNew C.D n0 w g.ok E l.length r) :
    ∃ g', Rel C.P C.D w g' (.sl E l (.tok d (s.tv d + 1))) r ∧ WR C (s.upd (.strip d)) g' M okc ds w ∧ GhLe g g' ∧ g'.ok = g.ok := by
  have key : ∀ x, (x = none ∧ (r = .slice none 0 0 ∨ ∃ a, r = .slice a l.length l.length)) ∨ (∃ b off cap lim, r = .slice (some ⟨b, off, none⟩) l.length cap ∧ x = some (b, off + l.length * C.D.sz E, lim) ∧ off + cap * C.D.sz E ≤ lim) →
      Rel C.P C.D w (g.tok d x) (.sl E l (.tok d (s.tv d + 1))) r := by
    intro x hx
    refine .sl E l _ r hd ⟨by simp [Gh.tok, h.tv], fun _ => ?_⟩
    rcases hx with ⟨_, h1⟩ | ⟨b, off, cap, lim, h1, h2, h3⟩
    · rcases h1 with h1 | h1
      · exact .inl h1
      · exact .inr (.inl h1)
    · exact .inr (.inr ⟨b, off, cap, lim, h1, by simp [Gh.tok, h2], h3⟩)
  rcases hr with h1 | h1 | ⟨b, off, cap, lim, vs, E', h1, h2, h3, h4, h5, h6, h7⟩
  · exact ⟨_, key none (.inl ⟨rfl, .inl h1⟩), h.strip d none (fun _ _ e => by cases e), GhLe.tok g d none, rfl⟩
  · exact ⟨_, key none (.inl ⟨rfl, .inr h1⟩), h.strip d none (fun _ _ e => by cases e), GhLe.tok g d none, rfl⟩
  · refine ⟨_, key (some (b, off + l.length * C.D.sz E, lim)) (.inr ⟨b, off, cap, lim, h1, rfl, h6⟩), h.strip d _ (fun b' e he => ?_), GhLe.tok g d _, rfl⟩
    cases he
    have hle : l.length * C.D.sz E ≤ cap * C.D.sz E := Nat.mul_le_mul_right _ h2
    exact ⟨⟨vs, E', h4, h5, by show off + l.length * C.D.sz E ≤ lim; omega⟩, h7, hu.M b h3, fun t e' _ => hu.tk t b e' h3, fun t => hu.bl t b h3⟩

theorem WR.adopt_new (hC : CtxOK C) (h : WR C s g M okc ds w) {n0 : Nat} (hu : Unseen g M n0) {d : Nat} (hfree : s.free d = true) {cs : List (PV T)} {b : Nat} {vs : Array Value} {E : Nat} (hb : n0 ≤ b) (hh : w.heap[b]? = some (.cells vs E (0, 0))) (hc : cleanL cs = true)
    (hr : RelL C.P C.D w (G0 g.ok noH none) cs vs) (ho : ∀ o, ¬ g.ok b o) :
    ∃ g', Rel C.P C.D w g' (.loc d (s.bv d + 1) 0) (.pointer (some ⟨b, 0, none⟩)) ∧ WR C (s.upd (.fresh d cs)) g' M okc ds w ∧ GhLe g g' ∧ g'.ok = g.ok := by
  have hr' : RelL C.P C.D w g cs vs := hr.imp fun c v hc' hr => hr.of_g0 (cleanL_mem hc hc')
  refine ⟨g.fresh d b, .loc d _ 0 b (by simp [Gh.fresh, h.bv]) (fun _ => by simp [Gh.fresh]), h.fresh hC hfree hh hr' (hu.M b hb) (fun t => hu.bl t b hb) (fun t e => hu.tk t b e hb) ho, GhLe.fresh g d b, rfl⟩

/-- results behind the one that is kept -/
theorem adoptRest_ok {g : Gh} {n0 : Nat} : ∀ {cs : List (PV T)} {R : Nat → Value}, (∀ i c, cs[i]? = some c → RelR1 P D n0 w g.ok c (R i)) → ∀ i c, (adoptRest cs)[i]? = some c → Rel P D w g c (R i)
  | [], _, _, i, c, hi => by simp [adoptRest] at hi
  | v :: r, R, h, i, c, hi => by
    have ih := adoptRest_ok (cs := r) (R := fun i => R (i + 1)) fun i c hi => h (i + 1) c hi
    have h0 := h 0 v rfl
    cases i with
    | succ i =>
      refine ih i c ?_
      cases v <;> first | exact hi | skip
      case sl E l ow => cases ow <;> exact hi
    | zero =>
      generalize hR : R 0 = rr at h0
      cases h0 with
      | data _ _ hc h1 =>
        have h2 : Rel P D w g v rr := h1.of_g0 hc
        cases v <;> first | (simp only [adoptRest, List.getElem?_cons_zero, Option.some.injEq] at hi; subst hi; (try rw [hR]); exact h2) | skip
        case sl E l ow => cases ow <;> first | (simp only [adoptRest, List.getElem?_cons_zero, Option.some.injEq] at hi; subst hi; (try rw [hR]); exact h2) | (simp [PV.clean] at hc)
        case new => simp [PV.clean] at hc
      | own E l t k _ hd _ =>
        simp only [adoptRest, List.getElem?_cons_zero, Option.some.injEq] at hi; subst hi; try rw [hR]
        exact .sl E l .no _ hd trivial
      | new => simp only [adoptRest, List.getElem?_cons_zero, Option.some.injEq] at hi; subst hi; exact .undef _

theorem adoptRest_len : ∀ (cs : List (PV T)), (adoptRest cs).length = cs.length
  | [] => rfl
  | v :: r => by
    cases v <;> simp only [adoptRest, List.length_cons, adoptRest_len r]
    case sl E l ow => cases ow <;> simp only [adoptRest, List.length_cons, adoptRest_len r]

theorem adoptL_len {d : Nat} : ∀ (cs : List (PV T)), (adoptL s d cs).1.length = cs.length
  | [] => rfl
  | v :: r => by
    cases v <;> simp only [adoptL, List.length_cons, adoptRest_len r, adoptL_len r]
    case sl E l ow => cases ow <;> simp only [adoptL, List.length_cons, adoptRest_len r, adoptL_len r]

def freeU (s : St T) (u : List (Upd T)) : Bool := u.all (fun | .fresh t _ => s.free t | _ => true)

theorem WR.adoptL (hC : CtxOK C) (h : WR C s g M okc ds w) {n0 : Nat} (hu : Unseen g M n0) {d : Nat} : ∀ {cs : List (PV T)} {R : Nat → Value}, (∀ i c, cs[i]? = some c → RelR1 C.P C.D n0 w g.ok c (R i)) → freeU s (Px.adoptL s d cs).2 = true →
    ∃ g', (∀ i c, (Px.adoptL s d cs).1[i]? = some c → Rel C.P C.D w g' c (R i)) ∧ WR C (s.upds (Px.adoptL s d cs).2) g' M okc ds w ∧ GhLe g g' ∧ g'.ok = g.ok
  | [], _, _, _ => ⟨g, fun i c hi => by simp [Px.adoptL] at hi, h, GhLe.refl g, rfl⟩
  | v :: r, R, hr, hf => by
    have h0 := hr 0 v rfl
    have hrest : ∀ i c, r[i]? = some c → RelR1 C.P C.D n0 w g.ok c (R (i + 1)) := fun i c hi => hr (i + 1) c hi
    generalize hR : R 0 = rr at h0
    cases h0 with
    | data _ _ hc h1 =>
      have h2 : Rel C.P C.D w g v rr := h1.of_g0 hc
      have he : Px.adoptL s d (v :: r) = (v :: (Px.adoptL s d r).1, (Px.adoptL s d r).2) := by
        cases v <;> first | rfl | skip
        case sl E l ow => cases ow <;> first | rfl | (simp [PV.clean] at hc)
        case new => simp [PV.clean] at hc
      rw [he] at hf ⊢
      obtain ⟨g', a1, a2, a3, a4⟩ := h.adoptL hC hu (R := fun i => R (i + 1)) hrest hf
      refine ⟨g', fun i c hi => ?_, a2, a3, a4⟩
      cases i with
      | zero => simp at hi; subst hi; (try rw [hR]); exact h2.mono (by rw [a4]; exact Evo.refl _ _) a3
      | succ i => exact a1 i c (by simpa using hi)
    | own E l t k _ hd hrow =>
      obtain ⟨g', a1, a2, a3, a4⟩ := h.adopt_tok hu d hd hrow
      refine ⟨g', fun i c hi => ?_, a2, a3, a4⟩
      cases i with
      | zero => simp [Px.adoptL] at hi; subst hi; (try rw [hR]); exact a1
      | succ i =>
        simp [Px.adoptL] at hi
        exact (adoptRest_ok (R := fun i => R (i + 1)) hrest i c hi).mono (by rw [a4]; exact Evo.refl _ _) a3
    | new cs b vs E hb hh hc h1 ho =>
      obtain ⟨g', a1, a2, a3, a4⟩ := h.adopt_new hC hu (d := d) (by simpa [freeU, Px.adoptL] using hf) hb hh hc h1 ho
      refine ⟨g', fun i c hi => ?_, a2, a3, a4⟩
      cases i with
      | zero => simp [Px.adoptL] at hi; subst hi; (try rw [hR]); exact a1
      | succ i =>
        simp [Px.adoptL] at hi
        exact (adoptRest_ok (R := fun i => R (i + 1)) hrest i c hi).mono (by rw [a4]; exact Evo.refl _ _) a3

theorem WR.adopt (hC : CtxOK C) (h : WR C s g M okc ds w) {n0 : Nat} (hu : Unseen g M n0) {d : Nat} {r : Value} (hr : RelR C.P C.D n0 w g.ok v r) (hf : freeU s (Px.adopt s d v).2 = true) :
    ∃ g', Rel C.P C.D w g' (Px.adopt s d v).1 r ∧ WR C (s.upds (Px.adopt s d v).2) g' M okc ds w ∧ GhLe g g' ∧ g'.ok = g.ok := by
  by_cases htup : ∃ vs, v = .tup vs
  · obtain ⟨vs, rfl⟩ := htup
    obtain ⟨rs, rfl, hn, hr⟩ := hr
    obtain ⟨g', a1, a2, a3, a4⟩ := h.adoptL hC hu (d := d) hr hf
    exact ⟨g', .tup _ _ (by rw [hn, adoptL_len]) a1, a2, a3, a4⟩
  · have hr1 : RelR1 C.P C.D n0 w g.ok v r := by
      cases v <;> first | exact hr | exact absurd ⟨_, rfl⟩ htup
    cases hr1 with
    | data _ _ hc h1 =>
      have h2 : Rel C.P C.D w g v r := h1.of_g0 hc
      have he : Px.adopt s d v = (v, []) := by
        cases v <;> first | rfl | skip
        case sl E l ow => cases ow <;> first | rfl | (simp [PV.clean] at hc)
        case new => simp [PV.clean] at hc
        case tup vs => exact absurd ⟨_, rfl⟩ htup
      rw [he]
      exact ⟨g, h2, h, GhLe.refl g, rfl⟩
    | own E l t k _ hd hrow => exact h.adopt_tok hu d hd hrow
    | new cs b vs E hb hh hc h1 ho => exact h.adopt_new hC hu (d := d) (by simpa [freeU, Px.adopt] using hf) hb hh hc h1 ho

end
end Go.Px

namespace Go.Px
variable {T : Nat → Type} {ρ : Type}

/-- what a call leaves in the caller's frame -/
def CallPost (C : Ctx T) (s' : St T) (g : Gh) (ds : List Nat) (w : World) (v : PV T) (e : Ending) (w' : World) : Prop :=
  ∃ r g' M' okc', e = .returned r ∧ Rel C.P C.D w' g' v r ∧ WR C s' g' M' okc' ds w' ∧ GhLe g g' ∧ Evo w g.ok w' g'.ok

section
variable {C : Ctx T} {S : Specs T} {s : St T} {g : Gh} {M : Nat → Prop} {okc : Nat → Nat → Prop} {ds : List Nat} {a : Act} {w : World} {o : Oper} {v : PV T} {u : List (Upd T)} {f : List Nat} {Q : Exit → Act → World → Prop}
variable {P : Program} {D : Tab T}

theorem WR.unseen (h : WR C s g M okc ds w) : Unseen g M w.heap.size :=
  ⟨fun b hb hM => by have := h.Mlt b hM; omega, fun t b hb e => by have := h.bl_lt e; omega, fun t b e hb he => by
    obtain ⟨⟨vs, E, h1, _⟩, _⟩ := h.tks t b e he
    have := heap_lt h1; omega⟩

theorem firstLoc_none : ∀ {args : List (PV T)}, firstLoc args = none → ∀ t k off, (.loc t k off) ∉ args
  | [], _, _, _, _, h => by simp at h
  | c :: r, h, t, k, off, hm => by
    rcases List.mem_cons.1 hm with rfl | hm
    · simp [firstLoc] at h
    · refine firstLoc_none (args := r) ?_ t k off hm
      cases c <;> first | exact h | (simp [firstLoc] at h)

theorem beq_self (n : Nat) : Nat.beq n n = true := by simp

theorem callK_ok (hC : CtxOK C) (hS : SpecOK C.P C.D S) (h : WR C s g M okc ds w) {args : List (PV T)} {vals : Array Value} (hr : RelL C.P C.D w g args vals) {fn : Nat} {d : Option Nat}
    (hev : callK S s d fn args (fun v u => some (v, u)) = some (v, u)) : HasBody C.P fn ∧ CallsW C.P fn vals w (CallPost C (s.upds u) g ds w v) := by
  unfold callK at hev
  split at hev
  · -- no object
    rw [hS.nat] at hev
    obtain ⟨⟨v0, o0⟩, h1, h2⟩ := Option.bind_eq_some_iff.1 hev
    have hcall := hS.ok _ _ _ _ _ h1
    refine ⟨hcall.body, ?_⟩
    have hh : ∀ b x, g.rh b = some x → w.heap[b]? = some x := fun b x hx => (h.rh b x hx).2
    refine (hcall.run w g.ok (fun b => w.heap[b]?) none vals h.okin (fun b x hx => ⟨hx, by simp⟩) ?_ rfl).mono ?_
    · refine hr.map fun c v _ hrel => ?_
      have := h.view hh hrel (fun f caps _ t k off _ b x _ hx => hx)
      exact Rel.move (g := { g with rh := fun b => w.heap[b]? }) (g' := G0 g.ok (fun b => w.heap[b]?) none) (Evo.refl w g.ok) (fun b x e => e) this.cl (cl_clean _)
    · rintro e w' ⟨r, ok'', rfl, hF, hN, hres, _⟩
      obtain ⟨hW, hE⟩ := h.grow hC (fun _ => False) hF.os hF.tape hF.output hF.size (fun b hb _ => hF.block b hb (by simp)) (fun _ hx => hx.elim) (fun _ _ _ hx => hx.elim) hN.old
        (ok2 := ok'') (fun b o hb => by
          rcases hN.new b o hb with h5 | h5
          · exact .inl h5
          · exact .inr ⟨.inl h5, hN.lt b o hb⟩)
      have hun : Unseen { g with ok := ok'' } M w.heap.size := ⟨h.unseen.M, h.unseen.bl, h.unseen.tk⟩
      cases d with
      | none =>
        cases h2
        exact ⟨r, _, M, okc, rfl, .undef _, hW, GhLe.ok g ok'', hE⟩
      | some d =>
        simp only at h2
        split at h2
        · rename_i hfree
          cases h2
          obtain ⟨g', a1, a2, a3, a4⟩ := hW.adopt hC hun (d := d) hres hfree
          exact ⟨r, g', M, okc, rfl, a1, a2, (GhLe.ok g ok'').trans a3, by rw [a4]; exact hE⟩
        · simp at h2
  · rename_i t k hloc
    split at hev
    · simp at hev
    · rename_i cs hcs
      split at hev
      · rename_i hchk
        simp only [Bool.and_eq_true] at hchk
        obtain ⟨⟨hcl, hne⟩, hoff⟩ := hchk
        rw [hS.nat] at hev
        obtain ⟨⟨v0, o0⟩, h1, h2⟩ := Option.bind_eq_some_iff.1 hev
        have hcall := hS.ok _ _ _ _ _ h1
        refine ⟨hcall.body, ?_⟩
        obtain ⟨hhd, e, he, hf, hver, rfl⟩ := St.box_some hcs
        have hent : s.ent t = some e := by simp [St.ent, hhd, he]
        obtain ⟨b0, hb0, hbox⟩ := h.bx t e hent
        obtain ⟨vs, E, hc, hcr⟩ := hbox.cells
        have hkv : k = g.bv t := by rw [h.bv, St.bv, hent, ← hver]
        let rh : Nat → Option Obj := fun b => if b = b0 then none else w.heap[b]?
        have hh : ∀ b x, g.rh b = some x → rh b = some x := fun b x hx => by
          have := h.rh b x hx
          have hne : b ≠ b0 := fun e => h.blM t b0 hb0 (e ▸ this.1)
          simp only [rh, hne, if_false]; exact this.2
        refine (hcall.run w g.ok rh (some b0) vals h.okin (fun b x hx => ?_) ?_ ⟨vs, E, hc, ?_, hcl, ?_, hbox.own hf⟩).mono ?_
        · simp only [rh] at hx
          split at hx
          · simp at hx
          · rename_i hne; exact ⟨hx, by simpa using hne⟩
        · refine hr.map fun c v hcm hrel => ?_
          unfold outward
          by_cases hl : ∃ t' k' off, c = .loc t' k' off
          · obtain ⟨t', k', off, rfl⟩ := hl
            simp only [St.view]
            split
            · rename_i hm
              simp only [Bool.and_eq_true] at hm
              have e1 := Nat.eq_of_beq_eq_true hm.1
              have e2 := Nat.eq_of_beq_eq_true hm.2
              subst e1; subst e2
              cases hrel with
              | loc _ _ _ b hk hb =>
                have := hb hkv
                rw [hb0] at this; cases this
                exact .loc OUT 0 off b0 (by simp [G0]) (fun _ => by simp [G0])
            · exact .undef _
          · have h3 := h.view hh hrel (fun f caps e t' k' off hm b x hb hx => by
              subst e
              have hne : b ≠ b0 := by
                rintro rfl
                have := h.inj t' t b hb hb0
                subst this
                have := List.all_eq_true.1 hoff (2 * t') (by simp)
                have hin := mem_viewReads hcm (mem_capReads hm)
                simp at this
                exact this (2 * t') hin rfl
              simp only [rh, hne, if_false]; exact hx)
            have h4 : Rel C.P C.D w (G0 g.ok rh (some b0)) (cl (s.view c)) v :=
              Rel.move (g := { g with rh := rh }) (g' := G0 g.ok rh (some b0)) (Evo.refl w g.ok) (fun b x e => e) h3.cl (cl_clean _)
            split
            · rename_i hv
              exfalso
              cases c <;> simp only [St.view] at hv <;> first | (cases hv; done) | skip
              case sl E l ow => cases ow <;> cases hv
              case loc => exact hl ⟨_, _, _, rfl⟩
            · exact h4
        · intro e; rw [e] at hne; simp at hne
        · exact hcr.imp fun c v hcm hrel => Rel.move (g := { g with rh := rh }) (g' := G0 g.ok rh none) (Evo.refl w g.ok) (fun b x e => e) (hrel.lend hh) (cleanL_mem hcl hcm)
        · rintro e' w' ⟨r, ok'', rfl, hF, hN, hres, hobj⟩
          obtain ⟨vs', E', g1, g2, g3, g4, g5⟩ := hobj b0 rfl
          have hcr' : RelL C.P C.D w' { g with ok := ok'' } o0 vs' := g4.imp fun c v hcm hrel => Rel.of_g0 (g := { g with ok := ok'' }) hrel (cleanL_mem g3 hcm)
          obtain ⟨hW, hE⟩ := h.write hC hhd he hf hb0 hF.os hF.tape hF.output hF.size (fun b hb hne => hF.block b hb (by simpa using hne)) hN.old
            (ok2 := ok'') (fun b o hb => by
              rcases hN.new b o hb with h5 | h5
              · exact .inl h5
              · exact .inr ⟨h5, hN.lt b o hb⟩) (cs := o0) g1 hcr'
          have hun : Unseen { g with ok := ok'' } M w.heap.size := ⟨h.unseen.M, h.unseen.bl, h.unseen.tk⟩
          cases d with
          | none =>
            cases h2
            exact ⟨r, _, M, okc, rfl, .undef _, hW, GhLe.ok g ok'', hE⟩
          | some d =>
            have hbv : ∀ x, (s.setCs t o0).bv x = s.bv x := fun x => by rw [← hW.bv, ← h.bv]
            have htv : ∀ x, (s.setCs t o0).tv x = s.tv x := fun x => by rw [← hW.tv, ← h.tv]
            have hadL : ∀ cs : List (PV T), adoptL (s.setCs t o0) d cs = adoptL s d cs := by
              intro cs
              induction cs with
              | nil => rfl
              | cons c r ih =>
                cases c with
                | sl E l ow => cases ow <;> simp only [adoptL, htv, ih]
                | new cs => simp only [adoptL, hbv]
                | _ => simp only [adoptL, ih]
            have had : adopt (s.setCs t o0) d v0 = adopt s d v0 := by
              cases v0 with
              | sl E l ow => cases ow <;> first | rfl | (simp only [adopt, htv]; done)
              | new cs => simp only [adopt, hbv]
              | tup vs => simp only [adopt, hadL]
              | _ => rfl
            simp only at h2
            split at h2
            · rename_i hu
              cases h2
              obtain ⟨g', a1, a2, a3, a4⟩ := hW.adopt hC hun (d := d) hres (by rw [had, hu]; rfl)
              rw [had] at a1 a2
              rw [hu] at a2
              exact ⟨r, g', M, okc, rfl, a1, a2, (GhLe.ok g ok'').trans a3, by rw [a4]; exact hE⟩
            · rename_i d' hu
              cases h2
              obtain ⟨g', a1, a2, a3, a4⟩ := hW.adopt hC hun (d := d) hres (by rw [had, hu]; rfl)
              rw [had] at a1 a2
              rw [hu] at a2
              exact ⟨r, g', M, okc, rfl, a1, a2, (GhLe.ok g ok'').trans a3, by rw [a4]; exact hE⟩
            · simp at h2
      · simp at hev

end
end Go.Px

namespace Go.Px
variable {T : Nat → Type} {ρ : Type}

/-- blocks that a frame writes -/
def OwnB (g : Gh) (ds : List Nat) (b : Nat) : Prop := (∃ t, g.bl t = some b) ∨ (∃ t e, g.tk t = some (b, e)) ∨ b ∈ ds

section
variable {C : Ctx T} {S : Specs T} {s : St T} {g : Gh} {M : Nat → Prop} {okc : Nat → Nat → Prop} {ds : List Nat} {a : Act} {w : World} {o : Oper} {v : PV T} {u : List (Upd T)} {f : List Nat} {Q : Exit → Act → World → Prop}
variable {P : Program} {D : Tab T}

/-- the same memory, with something else around it -/
theorem WR.shift (h : WR C s g M okc ds w) (V' : Outer) (ro' : Option Nat) (pre' : LG T → Prop) {s' : St T} {M' : Nat → Prop} {okc' ok' : Nat → Nat → Prop} {w' : World}
    (hent : ∀ t, s'.ent t = s.ent t) (hbv : ∀ t, s'.bv t = s.bv t) (htv : ∀ t, s'.tv t = s.tv t)
    (hsz : w.heap.size ≤ w'.heap.size) (hown : ∀ b, OwnB g ds b → w'.heap[b]? = w.heap[b]?) (hcell : ∀ b o, g.ok b o → w'.cell? ⟨b, o, none⟩ = w.cell? ⟨b, o, none⟩)
    (hok : ∀ b o, g.ok b o → ok' b o) (hnew : ∀ b o, ok' b o → g.ok b o ∨ ¬ OwnB g ds b) (hin : OkIn w' ok') (hM : ∀ b, OwnB g ds b → ¬ M' b)
    (hlt : ∀ b, M' b → b < w'.heap.size) (hcg : ∀ b o, okc' b o → ok' b o) (hcM : ∀ b o, ok' b o → okc' b o ∨ ¬ M' b) (hrr : RoundRec w' M' ro') (hJ : V'.J s'.lg.len M' okc' w')
    (hrh : ∀ b x, g.rh b = some x → M' b ∧ w'.heap[b]? = some x) :
    WR ⟨C.P, C.D, V', C.nt, ro', C.yl, pre'⟩ s' { g with ok := ok' } M' okc' ds w' ∧ Evo w g.ok w' ok' := by
  have hev : Evo w g.ok w' ok' := ⟨hsz, hcell, hok⟩
  refine ⟨⟨?_, fun t ht => h.nb t (hent t ▸ ht), fun t => (h.bv t).trans (hbv t).symm, fun t => (h.tv t).trans (htv t).symm, h.inj, fun t b hb => hM b (.inl ⟨t, hb⟩), ?_, h.tkinj, h.tkbl, hin, hlt, hcg, hcM, ?_, h.dsnd, hrr, hJ, hrh, h.yl, h.ry⟩, hev⟩
  · intro t e he
    rw [hent] at he
    obtain ⟨b, h1, h2⟩ := h.bx t e he
    obtain ⟨vs, E, h3, h4⟩ := h2.cells
    have ho : OwnB g ds b := .inl ⟨t, h1⟩
    refine ⟨b, h1, ⟨vs, E, (hown b ho).trans h3, h4.mono hev (GhLe.ok g ok')⟩, fun hf o ho => hok _ _ (h2.fz hf o ho), fun hf o ho' => ?_⟩
    rcases hnew b o ho' with h5 | h5
    · exact h2.own hf o h5
    · exact h5 ho
  · intro t b e ht
    obtain ⟨⟨vs, E, h1, h2⟩, h3, h4⟩ := h.tks t b e ht
    have ho : OwnB g ds b := .inr (.inl ⟨t, e, ht⟩)
    refine ⟨⟨vs, E, (hown b ho).trans h1, h2⟩, fun o ho' => ?_, hM b ho⟩
    rcases hnew b o ho' with h5 | h5
    · exact h3 o h5
    · exact absurd ho h5
  · intro b hb
    obtain ⟨h1, h2⟩ := h.dsM b hb
    have ho : OwnB g ds b := .inr (.inr hb)
    exact ⟨(hown b ho).trans h1, hM b ho⟩

/-! ### Data -/

theorem unval_rel (hD : TabOK P D) {E : Nat} {x : T E} {r : Value} (h : D.unval E v = some x) (hr : Rel P D w g v r) : RelV D w g.ok (D.val E x) r := by
  unfold Tab.unval at h
  split at h
  · rename_i i hi
    split at h
    · rename_i cs hag
      have he := hD.dec E _ x h
      simp only [Tab.val, hi, hag, he]
      cases hr with
      | agg _ vs hn hr =>
        refine .agg _ _ (by simp [hn]) fun j c hj => ?_
        rw [List.getElem?_map] at hj
        obtain ⟨d, h1, rfl⟩ := Option.map_eq_some_iff.1 hj
        refine (hr j d h1).data (hD.encData E x _ ?_).1
        rw [he]
        exact List.mem_map_of_mem (List.mem_of_getElem? h1)
    · rename_i hag
      have he := hD.dec E _ x h
      simp only [Tab.val, hi, hag, he, List.map_cons]
      refine .cell (hr.data (hD.encData E x _ ?_).1)
      rw [he]; simp
    · simp at h
  · simp at h

theorem unvals_rel (hD : TabOK P D) : ∀ {A : List Nat} {vs : List (PV T)} {x : Tup T A} {R : Nat → Value}, unvals D A vs = some x → (∀ i c, vs[i]? = some c → Rel P D w g c (R i)) →
    vs.length = (tupVals D A x).length ∧ ∀ i c, (tupVals D A x)[i]? = some c → RelV D w g.ok c (R i) := by
  intro A
  induction A with
  | nil =>
    intro vs x R h hr
    cases vs with
    | nil => exact ⟨rfl, fun i c hi => by simp [tupVals] at hi⟩
    | cons v r => cases h
  | cons a A ih =>
    intro vs x R h hr
    cases vs with
    | nil => cases A <;> cases h
    | cons v r =>
      cases A with
      | nil =>
        cases r with
        | nil =>
          refine ⟨rfl, fun i c hi => ?_⟩
          cases i with
          | zero => simp [tupVals] at hi; subst hi; exact unval_rel hD h (hr 0 v rfl)
          | succ i => simp [tupVals] at hi
        | cons v' r' => cases h
      | cons b A =>
        change ((D.unval a v).bind fun x => (unvals D (b :: A) r).bind fun y => some (x, y)) = some x at h
        obtain ⟨y, h1, h2⟩ := Option.bind_eq_some_iff.1 h
        obtain ⟨z, h3, h4⟩ := Option.bind_eq_some_iff.1 h2
        cases h4
        obtain ⟨e1, e2⟩ := ih (R := fun i => R (i + 1)) h3 fun i c hi => hr (i + 1) c hi
        refine ⟨by simp [tupVals, e1], fun i c hi => ?_⟩
        cases i with
        | zero => simp [tupVals] at hi; subst hi; exact unval_rel hD h1 (hr 0 v rfl)
        | succ i => exact e2 i c (by simpa [tupVals] using hi)

/-- data of a type are values -/
theorem val_rel (hD : TabOK P D) {E : Nat} {x : T E} {r : Value} (h : RelV D w g.ok (D.val E x) r) : Rel P D w g (D.val E x) r := by
  unfold Tab.val at h ⊢
  split
  · rename_i i hi
    rw [hi] at h
    simp only at h
    split
    · rename_i hag
      rw [hag] at h
      simp only at h
      cases h with
      | cell h => cases h
      | agg _ vs hn h => exact .agg _ _ hn fun j c hj => isData_rel rfl (hD.encData E x c (List.mem_of_getElem? hj)).2 (h j c hj)
    · rename_i hag
      rw [hag] at h
      simp only at h
      split
      · rename_i c q he
        rw [he] at h
        simp only at h
        have hc := hD.encData E x c (by rw [he]; simp)
        cases h with
        | cell h => exact isData_rel rfl hc.2 h
        | agg => simp [isData] at hc
      · exact .undef _
  · exact .undef _

theorem tupVals_val {A : List Nat} : ∀ {x : Tup T A} {i : Nat} {c : PV T}, (tupVals D A x)[i]? = some c → ∃ (E : Nat) (y : T E), c = D.val E y := by
  intro x i c h
  match A, x, h with
  | [], _, h => simp [tupVals] at h
  | [a], x, h =>
    cases i with
    | zero => simp [tupVals] at h; exact ⟨a, x, h.symm⟩
    | succ i => simp [tupVals] at h
  | a :: b :: r, x, h =>
    cases i with
    | zero => simp [tupVals] at h; exact ⟨a, x.1, h.symm⟩
    | succ i => exact tupVals_val (A := b :: r) (x := x.2) (i := i) (by simpa [tupVals] using h)

theorem tupVal_rel (hD : TabOK P D) {A : List Nat} {x : Tup T A} {r : Value} (h : RelT D w g.ok (tupVal D A x) r) : Rel P D w g (tupVal D A x) r := by
  unfold tupVal at h ⊢
  split
  · rename_i v hv
    rw [hv] at h
    obtain ⟨E, y, rfl⟩ := tupVals_val (D := D) (x := x) (i := 0) (c := v) (by rw [hv]; rfl)
    have h' : RelV D w g.ok (D.val E y) r := by
      have hn : ∀ cs, D.val E y ≠ .tup cs := by
        intro cs e
        unfold RelT at h
        simp only [e] at h
        obtain ⟨vs, _⟩ := h
        unfold Tab.val at e
        split at e
        · split at e
          · cases e
          · split at e
            · rename_i c q he
              have := (hD.encData E y c (by rw [he]; simp)).1
              rw [e] at this; simp [isData] at this
            · cases e
        · cases e
      simp only at h
      revert h hn
      generalize D.val E y = z
      intro h hn
      cases z <;> first | exact h | exact absurd rfl (hn _)
    exact val_rel hD h'
  · rename_i hne
    have h' : RelT D w g.ok (.tup (tupVals D A x)) r := by
      revert h
      split
      · rename_i v hv; exact absurd hv (hne v)
      · exact id
    obtain ⟨vs, rfl, hn, h2⟩ := h'
    refine .tup _ _ hn fun i c hi => ?_
    obtain ⟨E, y, rfl⟩ := tupVals_val hi
    exact val_rel hD (h2 i _ hi)

/-! ### Calls -/

theorem wpIn_call {ro : Option Nat} {c : Call} {d : Deferred} {fn : Nat} {args : Array Value} {R : Ending → World → Prop} {K : Act → World → Prop} (ho : o.op = .call c)
    (hres : (resolve a.eval c o.type).run P w = .ok d w) (hinv : (invoke d.target d.args).run P w = .ok (.enter fn args) w) (hc : CallsW P fn args w R)
    (hk : ∀ e w', R e w' → ∃ r, e = .returned r ∧ K (a.put o.dst r) w') : o.wpIn (FW ro) 0 P a w K Q := by
  refine ⟨fun f _ => trivial, ?_⟩
  rw [Oper.semAt_eq _ _ _ (by simp [ho])]
  have : (execOp a.eval o).run P w = .ok (.enter fn args) w := by
    simp only [execOp, ho, Sem.run_bind, hres, Result.andThen_ok, hinv]
  rw [this, Oper.uponIn_enter]
  refine ⟨fun h => by simp [FW, Fence.wide] at h, ?_⟩
  have hc' : CallsIn (FW ro) 0 P fn args w R := hc
  refine hc'.mono fun e w' he => ?_
  obtain ⟨r, rfl, hK⟩ := hk e w' he
  exact hK

theorem run_callFunc {fn : Nat} {args : Array Value} (h : HasBody P fn) : (callFunc fn args).run P w = .ok (.enter fn args) w := by
  obtain ⟨f, h1, h2, h3⟩ := h
  have h2' : f.body ≠ none := by cases hb : f.body <;> simp_all
  have h3' : ¬ f.name = "runtime.NumGoroutine" := by simpa using h3
  simp [callFunc, h1, h2', h3']

end
end Go.Px

namespace Go.Px
variable {T : Nat → Type} {ρ : Type}

section
variable {C : Ctx T} {S : Specs T} {s : St T} {g : Gh} {M : Nat → Prop} {okc : Nat → Nat → Prop} {ds : List Nat} {a : Act} {w : World} {o : Oper} {v : PV T} {u : List (Upd T)} {f : List Nat} {Q : Exit → Act → World → Prop}
variable {P : Program} {D : Tab T}

theorem callK_some {hS : SpecNat S} {s : St T} {d : Option Nat} {fn : Nat} {args : List (PV T)} {k : PV T → List (Upd T) → Option ρ} {r : ρ} (h : callK S s d fn args k = some r) :
    ∃ v u, callK S s d fn args (fun v u => some (v, u)) = some (v, u) ∧ k v u = some r := by
  have : callK S s d fn args k = (callK S s d fn args fun v u => some (v, u)).bind fun x => k x.1 x.2 := by
    rw [callK_bind hS]; rfl
  rw [this] at h
  obtain ⟨x, h1, h2⟩ := Option.bind_eq_some_iff.1 h
  exact ⟨x.1, x.2, h1, h2⟩

theorem callF_ok (hC : CtxOK C) (hS : SpecOK C.P C.D S) (h : WR C s g M okc ds w) {args : List (PV T)} {vals : Array Value} (hr : RelL C.P C.D w g args vals) {fn : Nat} {d : Option Nat}
    (hev : callF C.D S s d fn args k3 = some (v, u, f)) : HasBody C.P fn ∧ CallsW C.P fn vals w (CallPost C (s.upds u) g ds w v) := by
  unfold callF at hev
  split at hev
  · obtain ⟨v1, u1, h1, h2⟩ := callK_some (hS := hS.nat) hev
    cases h2
    exact callK_ok hC hS h (hr.map fun c v _ hrel => h.thaw hC hrel) h1
  · rename_i t k hb
    split at hev
    · simp at hev
    · rename_i cs hcs
      split at hev
      · rename_i hn
        obtain ⟨v1, u1, h1, h2⟩ := callK_some (hS := hS.nat) hev
        cases h2
        obtain ⟨hhd, e, he, hf, hver, rfl⟩ := St.box_some hcs
        have hent : s.ent t = some e := by simp [St.ent, hhd, he]
        obtain ⟨b0, hb0, hbox⟩ := h.bx t e hent
        obtain ⟨ok2, h3, h4, h5⟩ := h.freeze hhd he hb0
        have hr2 : RelL C.P C.D w { g with ok := ok2 } args vals := hr.mono h5 (GhLe.ok g ok2)
        obtain ⟨a1, a2⟩ := callK_ok hC hS h4 (hr2.map fun c v _ hrel => h4.thaw hC hrel) h1
        refine ⟨a1, a2.mono ?_⟩
        rintro e w' ⟨r, g', M', okc', b1, b2, b3, b4, b5⟩
        exact ⟨r, g', M', okc', b1, b2, b3, (GhLe.ok g ok2).trans b4, h5.trans b5⟩
      · simp at hev

theorem CallPost.k {K : Act → World → Prop} {dst : Option Nat} (hK : ∀ a' w', Post C (s.upds u) g ds a w dst v a' w' → K a' w') : ∀ e w', CallPost C (s.upds u) g ds w v e w' → ∃ r, e = .returned r ∧ K (a.put dst r) w' := by
  rintro e w' ⟨r, g', M', okc', b1, b2, b3, b4, b5⟩
  exact ⟨r, b1, hK _ _ ⟨r, g', M', okc', rfl, b2, b3, b4, b5⟩⟩

theorem RelL.append {cs ds : List (PV T)} {vs us : Array Value} (h : RelL P D w g cs vs) (k : RelL P D w g ds us) : RelL P D w g (cs ++ ds) (vs ++ us) := by
  refine ⟨by simp [h.1, k.1], fun i c hi => ?_⟩
  rw [List.getElem?_append] at hi
  split at hi
  · rename_i hlt
    have := h.2 i c hi
    have hl : i < vs.size := by rw [h.1]; exact hlt
    simpa [Array.getD, Array.getElem_append, hl, Nat.lt_of_lt_of_le hl (Nat.le_add_right _ _)] using this
  · rename_i hge
    have hl : i - cs.length < ds.length := (List.getElem?_eq_some_iff.1 hi).1
    have := k.2 _ c hi
    have h1 : ¬ i < vs.size := by rw [h.1]; exact hge
    have h2 : i < vs.size + us.size := by rw [h.1, k.1]; omega
    have h3 : i - vs.size < us.size := by rw [h.1, k.1]; omega
    rw [← h.1] at this
    simpa [Array.getD, Array.getElem_append, h1, h2, h3] using this

theorem RelL.cons {c : PV T} {ds : List (PV T)} {x : Value} {us : Array Value} (h : Rel P D w g c x) (k : RelL P D w g ds us) : RelL P D w g (c :: ds) (#[x] ++ us) := by
  have h1 : RelL P D w g [c] #[x] := ⟨rfl, fun i d hd => by
    cases i with
    | zero => simp at hd; subst hd; simpa [Array.getD] using h
    | succ i => simp at hd⟩
  exact h1.append k

theorem methsOk_get : ∀ {l : List ((Nat × String) × Nat)} {t : Nat} {name : String} {fn : Nat}, methsOk P l = true → methOf t name l = some fn → methOkP P t name fn = true
  | [], _, _, _, _, h => by simp [methOf] at h
  | ((t', n), f) :: r, t, name, fn, h, hm => by
    simp only [methsOk, Bool.and_eq_true] at h
    simp only [methOf] at hm
    split at hm
    · rename_i he
      simp only [Bool.and_eq_true, decide_eq_true_eq] at he
      cases hm
      have := Nat.eq_of_beq_eq_true he.1
      rw [← this, ← he.2]; exact h.1
    · exact methsOk_get h.2 hm

theorem run_invoke {t : Nat} {name : String} {fn : Nat} {x : Value} {args : Array Value} (h : methOkP P t name fn = true) :
    (invoke (.fn (.method name) #[]) (#[.iface t x] ++ args)).run P w = .ok (.enter fn (#[x] ++ args)) w := by
  unfold methOkP at h
  split at h
  · rename_i ti d hi hd
    simp only [Bool.and_eq_true] at h
    obtain ⟨⟨h1, h2⟩, h3⟩ := h
    split at h1
    · rename_i m hm
      simp only [Bool.and_eq_true] at h1
      have hb : HasBody P fn := by
        split at h3
        · rename_i f hf
          simp only [Bool.and_eq_true, Bool.not_eq_true'] at h3
          exact ⟨f, hf, h3.1, h3.2⟩
        · simp at h3
      have hpath : m.path.toList = [] := by simpa using h1.1
      have hfunc : m.func = some (fn, false) := by
        have := h1.2
        split at this
        · rename_i g hg; rw [hg, Nat.eq_of_beq_eq_true this]
        · simp at this
      have hrec : ∀ wr, (receiverAt t (.val x) false wr).run P w = .ok x w := by
        intro wr
        simp only [receiverAt, Sem.run_bind, run_underlying hd, Result.andThen_ok]
        cases d <;> first | rfl | simp at h2
      have hmeth : ∀ n, (method (n + 1) t x name).run P w = .ok (fn, x) w := by
        intro n
        simp only [method, Sem.run_bind, run_typeInfo hi, Result.andThen_ok, hm, hpath, follow, Sem.run_pure, hfunc, hrec]
      simp only [invoke, Array.getElem?_append]
      simp [callMethod, Made.depth, hmeth, run_callFunc hb]
    · simp at h1
  · simp at h

set_option maxHeartbeats 1000000 in
theorem step_call {c : Call} (ho : o.op = .call c) (hC : CtxOK C) (hS : SpecOK C.P C.D S) (h : SR C s g M okc ds a w) (hx : ∀ x, x ∈ o.op.operands → opdOk C.nt x)
    (hpre : ∀ l, u = [.log l] → C.pre l) (hev : evOp C.D S s o k3 = some (v, u, f)) : StepOK C s g ds a w o v u Q := by
  obtain ⟨callee, args, ats⟩ := c
  cases callee with
  | builtin b => exact step_builtin ho hC h (fun x hm => hx x (by simp [ho, Op.operands, Call.operands, hm])) hev
  | value x =>
    have hxa : ∀ y, y ∈ args → opdOk C.nt y := fun y hm => hx y (by simp [ho, Op.operands, Call.operands, hm])
    have hxx : opdOk C.nt x := hx x (by simp [ho, Op.operands, Call.operands])
    simp only [evOp, ho] at hev
    have hrx := h.ev (ty := 0) hxx
    have hra := SR.evs (ty := o.type) h hxa
    split at hev
    · rename_i fn caps he
      rw [he] at hrx
      generalize hz : a.eval x = z at hrx
      cases hrx with
      | clo _ _ vs hn hh =>
        obtain ⟨a1, a2⟩ := callF_ok hC hS h.wr (hra.append ⟨hn, hh⟩) hev
        refine wpIn_call ho (d := { target := .fn (.func fn) vs, args := args.map a.eval }) ?_ ?_ a2 (CallPost.k fun _ _ => id)
        · simp [resolve, hz, Deferred.ofValue]
        · simp [invoke, run_callFunc a1]
    · rename_i he
      rw [he] at hrx
      generalize hz : a.eval x = z at hrx
      cases hrx with
      | yld l hl =>
        split at hev
        · rename_i A m xs hlg
          obtain ⟨y, h1, h2⟩ := Option.bind_eq_some_iff.1 hev
          have hyl : C.yl = some l := by rw [← h.wr.yl]; exact hl
          obtain ⟨e1, e2⟩ := unvals_rel hC.tab (R := fun i => (args.map a.eval).getD i undef) h1 (fun i c hi => hra.2 i c hi)
          have key : ∀ dead : Bool, dead = decide ((xs.length : Int) = m) → v = .bool (!dead) → u = [.log (.log A m (xs ++ [y]) dead)] → StepOK C s g ds a w o v u Q := by
            rintro dead rfl rfl rfl
            have hy := hC.yld l hyl A m xs y (hpre _ rfl)
            obtain ⟨fn, tmps, assign, body, hrun, hround⟩ := hy M okc w (by have := h.wr.hJ; rw [hlg] at this; exact this) h.wr.Mlt g.ok h.wr.okin h.wr.okcg h.wr.okM (args.map a.eval) (by rw [← e1]; simp) e2
            refine ⟨fun f _ => trivial, ?_⟩
            rw [Oper.semAt_eq _ _ _ (by simp [ho])]
            have : (execOp a.eval o).run C.P w = .ok (.round l fn tmps assign body) w := by
              simp only [execOp, ho, resolve, hz, Deferred.ofValue, Sem.run_bind, Sem.run_pure, Result.andThen_ok, invoke]
              simpa using hrun
            rw [this, Oper.uponIn_round]
            refine ⟨fun h => by simp [FW, Fence.wide] at h, ?_⟩
            have hround' : RoundIn (FW C.ro) 0 C.P l fn tmps assign body w _ := hround
            refine hround'.mono ?_
            rintro e w' ⟨M', okc', rfl, hJ, hd⟩
            have hok2 : ∀ b o, (g.ok b o ∨ okc' b o) → g.ok b o ∨ M' b := fun b o hh => hh.elim .inl (hd.oknew b o)
            have hownM : ∀ b, OwnB g ds b → ¬ M b := by
              rintro b (⟨t, hb⟩ | ⟨t, e, hb⟩ | hb)
              · exact h.wr.blM t b hb
              · exact (h.wr.tks t b e hb).2.2
              · exact (h.wr.dsM b hb).2
            have hownlt : ∀ b, OwnB g ds b → b < w.heap.size := by
              rintro b (⟨t, hb⟩ | ⟨t, e, hb⟩ | hb)
              · exact h.wr.bl_lt hb
              · obtain ⟨⟨vs, E, h3, _⟩, _⟩ := h.wr.tks t b e hb; exact heap_lt h3
              · exact heap_lt (h.wr.dsM b hb).1
            have hownM' : ∀ b, OwnB g ds b → ¬ M' b := fun b hb hm => by
              rcases hd.new b hm with h3 | h3
              · exact hownM b hb h3
              · have := hownlt b hb; omega
            obtain ⟨hW, hE⟩ := h.wr.shift C.V C.ro C.pre (s' := s.upd (.log (.log A m (xs ++ [y]) (decide ((xs.length : Int) = m))))) (M' := M') (okc' := okc') (ok' := fun b o => g.ok b o ∨ okc' b o) (w' := w')
              (fun _ => rfl) (fun _ => rfl) (fun _ => rfl) hd.size (fun b hb => hd.block b (hownlt b hb) (hownM b hb)) hd.cell (fun _ _ => .inl)
              (fun b o hh => (hok2 b o hh).imp id fun hm hb => hownM' b hb hm)
              (fun b o hh => hh.elim (fun h3 => Nat.lt_of_lt_of_le (h.wr.okin b o h3) hd.size) (hd.oklt b o)) hownM' hd.lt (fun _ _ => .inr)
              (fun b o hh => hh.elim (fun h3 => by
                rcases h.wr.okM b o h3 with h4 | h4
                · exact .inl (hd.okc b o h4)
                · refine .inr fun hm => ?_
                  rcases hd.new b hm with h5 | h5
                  · exact h4 h5
                  · have := h.wr.okin b o h3; omega) .inl)
              (hC.rr _ _ _ _ hJ) (by simpa [St.upd, LG.len] using hJ) (fun b x hx => by rw [h.wr.ry (by simp [hyl])] at hx; cases hx)
            exact ⟨_, _, M', okc', rfl, .bool _, hW, GhLe.ok g _, hE⟩
          by_cases hm : (xs.length : Int) = m
          · simp only [hm, decide_true, cond_true] at h2
            cases h2
            exact key true (by simp [hm]) (by simp) (by simp)
          · simp only [hm, decide_false, cond_false] at h2
            cases h2
            exact key false (by simp [hm]) (by simp) (by simp)
        · simp at hev
    · rename_i A R p he
      rw [he] at hrx
      generalize hz : a.eval x = z at hrx
      cases hrx with
      | prd _ _ _ _ hp =>
        obtain ⟨fn, caps, rfl, hp⟩ := hp
        obtain ⟨y, h1, h2⟩ := Option.bind_eq_some_iff.1 hev
        obtain ⟨r, h3, h4⟩ := Option.bind_eq_some_iff.1 h2
        cases h4
        obtain ⟨e1, e2⟩ := unvals_rel hC.tab (R := fun i => (args.map a.eval).getD i undef) h1 (fun i c hi => hra.2 i c hi)
        obtain ⟨hb, hp⟩ := hp y r h3
        have hc := hp w g.ok (Evo.refl _ _) h.wr.okin (fun b z hz => (h.wr.rh b z hz).2) (args.map a.eval) (by rw [← e1]; simp) e2
        refine wpIn_call ho (d := { target := .fn (.func fn) caps, args := args.map a.eval }) ?_ ?_ hc ?_
        · simp [resolve, hz, Deferred.ofValue]
        · simp [invoke, run_callFunc hb]
        · rintro e w' ⟨r', ok'', rfl, hF, hN, hres⟩
          obtain ⟨hW, hE⟩ := h.wr.grow hC (fun _ => False) hF.os hF.tape hF.output hF.size (fun b hb _ => hF.block b hb (by simp)) (fun _ hx => hx.elim) (fun _ _ _ hx => hx.elim) hN.old
            (ok2 := ok'') (fun b o hb => by
              rcases hN.new b o hb with h5 | h5
              · exact .inl h5
              · exact .inr ⟨.inl h5, hN.lt b o hb⟩)
          exact ⟨r', rfl, r', _, M, okc, rfl, tupVal_rel (g := { g with ok := ok'' }) hC.tab hres, hW, GhLe.ok g ok'', hE⟩
    · simp at hev
  | invoke x name =>
    have hxa : ∀ y, y ∈ args → opdOk C.nt y := fun y hm => hx y (by simp [ho, Op.operands, Call.operands, hm])
    have hxx : opdOk C.nt x := hx x (by simp [ho, Op.operands, Call.operands])
    simp only [evOp, ho] at hev
    have hrx := h.ev (ty := 0) hxx
    have hra := SR.evs (ty := o.type) h hxa
    split at hev
    · rename_i t c he
      rw [he] at hrx
      generalize hz : a.eval x = z at hrx
      cases hrx with
      | ifc _ _ y hy =>
        split at hev
        · rename_i fn hm
          have hmo := methsOk_get hC.tab.meth hm
          obtain ⟨a1, a2⟩ := callF_ok hC hS h.wr (RelL.cons hy hra) hev
          refine wpIn_call ho (d := { target := .fn (.method name) #[], args := #[a.eval x] ++ args.map a.eval }) ?_ ?_ a2 (CallPost.k fun _ _ => id)
          · simp [resolve]
          · rw [hz]; exact run_invoke hmo
        · simp at hev
    · simp at hev

end
end Go.Px

namespace Go.Px
variable {T : Nat → Type} {ρ : Type}

section
variable {C : Ctx T} {S : Specs T} {s : St T} {g : Gh} {M : Nat → Prop} {okc : Nat → Nat → Prop} {ds : List Nat} {a : Act} {w : World} {o : Oper} {v : PV T} {u : List (Upd T)} {f : List Nat} {Q : Exit → Act → World → Prop}
variable {P : Program} {D : Tab T}

/-! ### What operations log -/

def noLog (u : List (Upd T)) : Bool := u.all fun | .log _ => false | _ => true

theorem upd_lg {x : Upd T} (h : ∀ l, x ≠ .log l) : (s.upd x).lg = s.lg := by
  cases x <;> simp only [St.upd, St.setBx, St.setCs] <;> first | (split <;> rfl) | rfl | exact absurd rfl (h _)

theorem upds_lg : ∀ {u : List (Upd T)} {s : St T}, noLog u = true → (s.upds u).lg = s.lg
  | [], _, _ => rfl
  | x :: r, s, h => by
    simp only [noLog, List.all_cons, Bool.and_eq_true] at h
    simp only [St.upds]
    rw [upds_lg (u := r) h.2]
    refine upd_lg fun l e => ?_
    subst e
    simp at h

theorem upd_hd (s : St T) (x : Upd T) : (s.upd x).hd = s.hd := by
  cases x <;> simp only [St.upd, St.setBx, St.setCs] <;> first | (split <;> rfl) | rfl

theorem upds_hd : ∀ (u : List (Upd T)) (s : St T), (s.upds u).hd = s.hd
  | [], _ => rfl
  | x :: r, s => by simp only [St.upds]; rw [upds_hd r, upd_hd]

theorem putD_hd (s : St T) (d : Option Nat) (v : PV T) : (s.putD d v).hd = s.hd := by cases d <;> rfl
theorem putD_lg (s : St T) (d : Option Nat) (v : PV T) : (s.putD d v).lg = s.lg := by cases d <;> rfl

theorem adoptL_noLog {d : Nat} : ∀ (cs : List (PV T)), noLog (adoptL s d cs).2 = true
  | [] => rfl
  | c :: r => by
    cases c with
    | sl E l ow => cases ow <;> first | exact adoptL_noLog r | rfl
    | new cs => rfl
    | _ => exact adoptL_noLog r

theorem adopt_noLog {d : Nat} (v : PV T) : noLog (adopt s d v).2 = true := by
  cases v with
  | sl E l ow => cases ow <;> rfl
  | tup vs => exact adoptL_noLog vs
  | _ => rfl

theorem callK_noLog (hS : SpecNat S) {d : Option Nat} {fn : Nat} {args : List (PV T)} (hev : callK S s d fn args (fun v u => some (v, u)) = some (v, u)) : noLog u = true := by
  unfold callK at hev
  split at hev
  · rw [hS] at hev
    obtain ⟨⟨v0, o0⟩, h1, h2⟩ := Option.bind_eq_some_iff.1 hev
    cases d with
    | none => cases h2; rfl
    | some d =>
      simp only at h2
      split at h2
      · cases h2; exact adopt_noLog v0
      · simp at h2
  · split at hev
    · simp at hev
    · split at hev
      · rw [hS] at hev
        obtain ⟨⟨v0, o0⟩, h1, h2⟩ := Option.bind_eq_some_iff.1 hev
        cases d with
        | none => cases h2; rfl
        | some d =>
          simp only at h2
          split at h2
          · cases h2; rfl
          · cases h2; rfl
          · simp at h2
      · simp at hev

theorem callF_noLog (hS : SpecNat S) {d : Option Nat} {fn : Nat} {args : List (PV T)} (hev : callF D S s d fn args k3 = some (v, u, f)) : noLog u = true := by
  unfold callF at hev
  split at hev
  · obtain ⟨v1, u1, h1, h2⟩ := callK_some (hS := hS) hev
    cases h2
    exact callK_noLog hS h1
  · split at hev
    · simp at hev
    · split at hev
      · obtain ⟨v1, u1, h1, h2⟩ := callK_some (hS := hS) hev
        cases h2
        have := callK_noLog hS h1
        simpa [noLog] using this
      · simp at hev

/-- nothing is logged -/
def NL (r : Option (PV T × List (Upd T) × List Nat)) : Prop := ∀ v u f, r = some (v, u, f) → noLog u = true

theorem NL.none : NL (T := T) none := fun _ _ _ h => by cases h
theorem NL.some {v : PV T} {u : List (Upd T)} {f : List Nat} (h : noLog u = true) : NL (some (v, u, f)) := fun _ _ _ h' => by cases h'; exact h
theorem NL.bind {α : Type} {x : Option α} {F : α → Option (PV T × List (Upd T) × List Nat)} (h : ∀ y, NL (F y)) : NL (x.bind F) := fun v u f h' => by
  obtain ⟨y, _, h2⟩ := Option.bind_eq_some_iff.1 h'
  exact h y v u f h2
theorem NL.cond {b : Bool} {x y : Option (PV T × List (Upd T) × List Nat)} (h1 : NL x) (h2 : NL y) : NL (_root_.cond b x y) := by cases b; exact h2; exact h1
theorem NL.pick {i : Int} {F : Nat → Option (PV T × List (Upd T) × List Nat)} (h : ∀ j, NL (F j)) : ∀ n j, NL (pickIdx i F n j)
  | 0, _ => NL.none
  | n + 1, j => NL.cond (h j) (NL.pick h n (j + 1))
theorem NL.evBin {op : BinOp} {x y : PV T} : NL (evBin op x y fun v => k3 v [] []) := fun v u f h => by
  obtain ⟨v', _, h2⟩ := evBin_some h
  cases h2; rfl
theorem NL.ite {p : Prop} [Decidable p] {x y : Option (PV T × List (Upd T) × List Nat)} (h1 : NL x) (h2 : NL y) : NL (if p then x else y) := by split; exact h1; exact h2

theorem evOp_NL (hc : ∀ c, o.op ≠ .call c) : NL (evOp D S s o k3) := by
  unfold evOp
  cases ho : o.op with
  | call c => exact absurd ho (hc c)
  | _ =>
    simp only []
    repeat' (first | exact NL.none | exact NL.some rfl | exact NL.evBin | (refine NL.cond ?_ ?_) | (refine NL.bind fun _ => ?_) | (refine NL.pick (fun _ => ?_) _ _) | split)

theorem evOp_noLog (hS : SpecNat S) (hev : evOp D S s o k3 = some (v, u, f)) : noLog u = true ∨ ∃ A m xs x d, s.lg = .log A m xs false ∧ u = [.log (.log A m (xs ++ [x]) d)] := by
  cases ho : o.op with
  | call c =>
    unfold evOp at hev
    obtain ⟨callee, args, ats⟩ := c
    rw [ho] at hev
    cases callee with
    | builtin b =>
      left
      refine (?_ : NL _) v u f hev
      simp only []
      repeat' (first | exact NL.none | exact NL.some rfl | exact NL.evBin | (refine NL.cond ?_ ?_) | (refine NL.bind fun _ => ?_) | split)
    | value x =>
      simp only [] at hev
      split at hev
      · exact .inl (callF_noLog hS hev)
      · split at hev
        · rename_i A m xs hlg
          obtain ⟨y, h1, h2⟩ := Option.bind_eq_some_iff.1 hev
          rw [cond_eq_ite] at h2
          split at h2 <;> cases h2 <;> exact .inr ⟨A, m, xs, y, _, hlg, rfl⟩
        · simp at hev
      · obtain ⟨y, h1, h2⟩ := Option.bind_eq_some_iff.1 hev
        obtain ⟨r, h3, h4⟩ := Option.bind_eq_some_iff.1 h2
        cases h4; exact .inl rfl
      · simp at hev
    | invoke x name =>
      simp only [] at hev
      split at hev
      · split at hev
        · exact .inl (callF_noLog hS hev)
        · simp at hev
      · simp at hev
  | _ => exact .inl (evOp_NL (fun c => by simp [ho]) v u f hev)

def LG.m? : LG T → Option Int
  | .no => none
  | .log _ m _ _ => some m

theorem evOp_m (hS : SpecNat S) (hev : evOp D S s o k3 = some (v, u, f)) : (s.upds u).lg.m? = s.lg.m? := by
  rcases evOp_noLog hS hev with h1 | ⟨A, m, xs, x, d, h1, rfl⟩
  · rw [upds_lg h1]
  · rw [h1]; rfl

/-- what was logged stays logged -/
theorem evOp_pre (hC : CtxOK C) (hS : SpecNat S) (hev : evOp C.D S s o k3 = some (v, u, f)) (h : C.pre (s.upds u).lg) : C.pre s.lg := by
  rcases evOp_noLog hS hev with h1 | ⟨A, m, xs, x, d, h1, rfl⟩
  · rwa [upds_lg h1] at h
  · rw [h1]
    exact hC.back A m xs x d h

end
end Go.Px

namespace Go.Px
variable {T : Nat → Type} {ρ : Type}

section
variable {C : Ctx T} {S : Specs T} {s : St T} {g : Gh} {M : Nat → Prop} {okc : Nat → Nat → Prop} {ds : List Nat} {a : Act} {w : World} {o : Oper} {v : PV T} {u : List (Upd T)} {f : List Nat} {Q : Exit → Act → World → Prop}
variable {P : Program} {D : Tab T}

theorem step_evOp (hC : CtxOK C) (hS : SpecOK C.P C.D S) (h : SR C s g M okc ds a w) (hok : operOk C.nt o = true) (hpre : ∀ l, u = [.log l] → C.pre l) (hev : evOp C.D S s o k3 = some (v, u, f)) : StepOK C s g ds a w o v u Q := by
  have hx : ∀ x, x ∈ o.op.operands → opdOk C.nt x := fun x hm => operOk.opd hok hm
  cases ho : o.op with
  | move x => exact step_move ho h (hx _ (by simp [ho, Op.operands])) hev
  | assign x => exact step_assign ho h (hx _ (by simp [ho, Op.operands])) hev
  | pick c x y => exact step_pick ho h (hx _ (by simp [ho, Op.operands])) (hx _ (by simp [ho, Op.operands])) (hx _ (by simp [ho, Op.operands])) hev
  | alloc E => exact step_alloc ho hC h hev
  | box E x => exact step_box ho hC h (hx _ (by simp [ho, Op.operands])) hev
  | build t parts => exact step_build ho hC h (fun i x hm => hx _ (by simp [ho, Op.operands]; exact ⟨i, by simpa using hm⟩)) hev
  | buildSlice t n parts => exact step_buildSlice ho hC h (fun i x hm => hx _ (by simp [ho, Op.operands]; exact ⟨i, by simpa using hm⟩)) hev
  | load t x => exact step_load ho hC h (hx _ (by simp [ho, Op.operands])) hev
  | store t x y => exact step_store ho hC h (hx _ (by simp [ho, Op.operands])) (hx _ (by simp [ho, Op.operands])) hev
  | nilCheck x => exact step_nilCheck ho h (hx _ (by simp [ho, Op.operands])) hev
  | binOp op xt x y yt => exact step_binOp ho hC h (hx _ (by simp [ho, Op.operands])) (hx _ (by simp [ho, Op.operands])) hev
  | unOp op xt x => exact step_unOp ho h (hx _ (by simp [ho, Op.operands])) hev
  | convert src dst x => exact step_convert ho hC h (hx _ (by simp [ho, Op.operands])) hev
  | makeFunc fn first cap => exact step_makeFunc ho h (fun x hm => hx _ (by simp [ho, Op.operands, hm])) hev
  | fieldAddr t x fl => exact step_fieldAddr ho hC h (hx _ (by simp [ho, Op.operands])) hev
  | indexAddr t x y => exact step_indexAddr ho hC h (hx _ (by simp [ho, Op.operands])) (hx _ (by simp [ho, Op.operands])) hev
  | index t x y => exact step_index ho hC h (hx _ (by simp [ho, Op.operands])) (hx _ (by simp [ho, Op.operands])) hev
  | slice t x lo hi mx => exact step_slice ho hC h (hx _ (by simp [ho, Op.operands])) (fun y e => hx _ (by simp [ho, Op.operands, e])) (fun y e => hx _ (by simp [ho, Op.operands, e])) (fun y e => hx _ (by simp [ho, Op.operands, e])) hev
  | makeInterface t x => exact step_makeInterface ho hC h (hx _ (by simp [ho, Op.operands])) hev
  | typeAssert x xt t ok => exact step_typeAssert ho hC h (hx _ (by simp [ho, Op.operands])) hev
  | extract x i => exact step_extract ho h (hx _ (by simp [ho, Op.operands])) hev
  | call c => exact step_call ho hC hS h hx hpre hev
  | _ => simp [evOp, ho] at hev

/-- one operation, in the order of the text -/
theorem stepN (hC : CtxOK C) (hS : SpecOK C.P C.D S) (h : SR C s g M okc ds a w) (hok : operOk C.nt o = true) {k : PV T → List (Upd T) → List Nat → Option ρ} {r : ρ} (hev : evOpN C.D S s o k = some r) :
    ∃ v u f, k v u f = some r ∧ (s.upds u).lg.m? = s.lg.m? ∧ ((∀ l, u = [.log l] → C.pre l) → ∀ Q, StepOK C s g ds a w o v u Q) := by
  have plain : evOp C.D S s o k = some r → ∃ v u f, k v u f = some r ∧ (s.upds u).lg.m? = s.lg.m? ∧ ((∀ l, u = [.log l] → C.pre l) → ∀ Q, StepOK C s g ds a w o v u Q) := fun hev => by
    obtain ⟨v, u, f, h1, h2⟩ := evOp_some hS.nat hev
    exact ⟨v, u, f, h2, evOp_m hS.nat h1, fun hp Q => step_evOp hC hS h hok hp h1⟩
  unfold evOpN at hev
  split at hev
  · rename_i op xt x y yt ho
    have hx : opdOk C.nt x := operOk.opd hok (by simp [ho, Op.operands])
    have hy : opdOk C.nt y := operOk.opd hok (by simp [ho, Op.operands])
    split at hev
    · rename_i E l E2 l2 ex ey
      split at hev
      · rename_i ti hi
        split at hev
        · rename_i E' z b hs
          split at hev
          · rename_i hE
            have := Nat.eq_of_beq_eq_true hE; subst this
            obtain ⟨t, h1, h2⟩ := step_nilCmp ho (.inl rfl) hC h hx hy ex ey hi hs
            simp only [if_true] at h2
            refine ⟨.bool t, [], [], ?_, rfl, fun _ => h2⟩
            unfold nilK at hev
            split at hev
            · split at hev
              · rename_i he; cases t <;> simp_all
              · simp at hev
            · rename_i hd tl; rw [h1 (by simp)]; exact hev
          · simp at hev
        · simp at hev
      · simp at hev
    · rename_i E l E2 l2 ex ey
      split at hev
      · rename_i ti hi
        split at hev
        · rename_i E' z b hs
          split at hev
          · rename_i hE
            have := Nat.eq_of_beq_eq_true hE; subst this
            obtain ⟨t, h1, h2⟩ := step_nilCmp ho (.inr rfl) hC h hx hy ex ey hi hs
            have hne : ¬ (BinOp.neq = BinOp.eql) := by intro e; cases e
            simp only [hne, if_false] at h2
            refine ⟨.bool (!t), [], [], ?_, rfl, fun _ => h2⟩
            unfold nilK at hev
            split at hev
            · split at hev
              · rename_i he; cases t <;> simp_all
              · simp at hev
            · rename_i hd tl; rw [h1 (by simp)]; exact hev
          · simp at hev
        · simp at hev
      · simp at hev
    · exact plain hev
  · exact plain hev

theorem evOpN_pre (hC : CtxOK C) (hS : SpecNat S) {k : PV T → List (Upd T) → List Nat → Option ρ} {r : ρ} (hev : evOpN C.D S s o k = some r) (hk : ∀ v u f, k v u f = some r → (s.upds u).lg.m? = s.lg.m? → C.pre (s.upds u).lg) : C.pre s.lg := by
  have plain : evOp C.D S s o k = some r → C.pre s.lg := fun hev => by
    obtain ⟨v, u, f, h1, h2⟩ := evOp_some hS hev
    exact evOp_pre hC hS h1 (hk v u f h2 (evOp_m hS h1))
  have nil : ∀ {α : Type} {l : List α} {b1 b2 : Bool}, nilK l (k (.bool b1) [] []) (k (.bool b2) [] []) = some r → C.pre s.lg := fun {α l b1 b2} h => by
    unfold nilK at h
    split at h
    · split at h
      · exact hk _ _ _ h rfl
      · simp at h
    · exact hk _ _ _ h rfl
  unfold evOpN at hev
  repeat' (first | (simp at hev; done) | exact plain hev | exact nil hev | split at hev)

/-! ### Runs of operations, in the order of the text -/

/-- what stays from one state to a later one -/
structure Keep (W : Nat → Prop) (s : St T) (g : Gh) (a : Act) (w : World) (s' : St T) (g' : Gh) (a' : Act) (w' : World) : Prop where
  gle : GhLe g g'
  evo : Evo w g.ok w' g'.ok
  tmp : ∀ t, ¬ W t → a'.tmps.getD t undef = a.tmps.getD t undef
  hd : s'.hd = s.hd

theorem Keep.refl (W : Nat → Prop) (s : St T) (g : Gh) (a : Act) (w : World) : Keep W s g a w s g a w := ⟨GhLe.refl g, Evo.refl _ _, fun _ _ => rfl, rfl⟩
theorem Keep.trans {W W1 W2 : Nat → Prop} {s s1 s2 : St T} {g g1 g2 : Gh} {a a1 a2 : Act} {w w1 w2 : World} (h : Keep W1 s g a w s1 g1 a1 w1) (k : Keep W2 s1 g1 a1 w1 s2 g2 a2 w2) (h1 : ∀ t, W1 t → W t) (h2 : ∀ t, W2 t → W t) :
    Keep W s g a w s2 g2 a2 w2 :=
  ⟨h.gle.trans k.gle, h.evo.trans k.evo, fun t ht => (k.tmp t fun e => ht (h2 t e)).trans (h.tmp t fun e => ht (h1 t e)), k.hd.trans h.hd⟩

/-- what a continuation owes at a state -/
def QOK (C : Ctx T) (Q : Exit → Act → World → Prop) (W : Nat → Prop) (s : St T) (g : Gh) (a : Act) (w : World) (e : Exit) (s' : St T) : Prop :=
  ∀ g' M' okc' ds' a' w', SR C s' g' M' okc' ds' a' w' → Keep W s g a w s' g' a' w' → Q e a' w'

theorem QOK.shift {W W1 W2 : Nat → Prop} {s1 : St T} {g1 : Gh} {a1 : Act} {w1 : World} {e : Exit} {s' : St T} (h : QOK C Q W s g a w e s') (hk : Keep W1 s g a w s1 g1 a1 w1) (h1 : ∀ t, W1 t → W t) (h2 : ∀ t, W2 t → W t) :
    QOK C Q W2 s1 g1 a1 w1 e s' :=
  fun g' M' okc' ds' a' w' hsr hk' => h g' M' okc' ds' a' w' hsr (hk.trans hk' h1 h2)

theorem SR.reput (h : SR C s g M okc ds a w) {d : Nat} (hv : s.get d = v) : SR C (s.put d v) g M okc ds a w := by
  refine ⟨h.size, h.defs, fun t ht => ?_, h.wr.putD (some d) v⟩
  by_cases hdt : d = t
  · subst hdt; rw [St.get_put_eq, ← hv]; exact h.tm d ht
  · rw [St.get_put_ne hdt]; exact h.tm t ht

/-- is an operation carried out? -/
theorem wanted_none (hg : o.guard = none) (y : Nat → Option Bool) : Region.wanted o y = true := by simp [Region.wanted, hg]

theorem yielded_bool {ops : Array Oper} {gd : Oper} {j d : Nat} {b : Bool} (h : SR C s g M okc ds a w) (hj : ops[j]? = some gd) (hd : gd.dst = some d) (hlt : d < C.nt) (hv : s.get d = .bool b) : yielded ops a.tmps j = some b := by
  have := h.tm d hlt
  rw [hv] at this
  have hb := rel_bool this
  have hsz : d < a.tmps.size := by rw [h.size]; exact hlt
  have : a.tmps[d]? = some (.bool b) := by
    rw [Array.getElem?_eq_getElem hsz]
    simpa [Array.getD, hsz] using hb
  simp [yielded, hj, hd, this]

theorem yielded_skip {ops : Array Oper} {gd : Oper} {j d : Nat} (h : SR C s g M okc ds a w) (hj : ops[j]? = some gd) (hd : gd.dst = some d) (hlt : d < C.nt) (hv : s.get d = .skip) : yielded ops a.tmps j = none := by
  have := h.tm d hlt
  rw [hv] at this
  have hsz : d < a.tmps.size := by rw [h.size]; exact hlt
  have hu : a.tmps[d]? = some undef := by
    rw [Array.getElem?_eq_getElem hsz]
    generalize hz : a.tmps.getD d undef = z at this
    cases this
    simpa [Array.getD, hsz] using hz
  simp [yielded, hj, hd, hu, undef]

theorem SR.off (h : SR C s g M okc ds a w) (hok : ∀ d, o.dst = some d → d < C.nt) : SR C (s.putD o.dst .skip) g M okc ds (a.put o.dst undef) w ∧ (∀ t, o.dst ≠ some t → (a.put o.dst undef).tmps.getD t undef = a.tmps.getD t undef) := by
  obtain ⟨g', M', okc', h1, _⟩ := SR.after (u := []) (v := .skip) (a' := a.put o.dst undef) (w' := w) h hok ⟨undef, g, M, okc, rfl, .skip, h.wr, GhLe.refl g, Evo.refl _ _⟩
  refine ⟨⟨h1.size, h1.defs, fun t ht => ?_, h.wr.putD o.dst .skip⟩, fun t ht => ?_⟩
  · cases hd : o.dst with
    | none => exact h.tm t ht
    | some d =>
      simp only [St.putD, Act.put]
      by_cases hdt : d = t
      · subst hdt
        rw [St.get_put_eq]
        have : d < a.tmps.size := by rw [h.size]; exact ht
        have hu : (a.tmps.setIfInBounds d undef).getD d undef = undef := by simp [Array.getD, this]
        rw [hu]; exact .skip
      · rw [St.get_put_ne hdt, getD_set_ne hdt]; exact h.tm t ht
  · cases hd : o.dst with
    | none => rfl
    | some d =>
      have hdt : d ≠ t := fun e => ht (by rw [hd, e])
      exact getD_set_ne hdt

def wrs (l : List Oper) (t : Nat) : Prop := ∃ o, o ∈ l ∧ o.dst = some t

theorem operOk.dst {n : Nat} (h : operOk n o = true) : ∀ d, o.dst = some d → d < n := by
  intro d hd
  unfold operOk at h
  simp only [Bool.and_eq_true] at h
  have := h.1
  rw [hd] at this
  simpa using this

theorem evOps_pre (hC : CtxOK C) (hS : SpecNat S) {ops : Array Oper} {k : St T → Option ρ} {r : ρ} : ∀ (l : List Oper) (s : St T), evOps C.D S ops l s k = some r → (∀ s', k s' = some r → s'.lg.m? = s.lg.m? → C.pre s'.lg) → C.pre s.lg
  | [], s, h, hk => hk s h rfl
  | o :: l, s, h, hk => by
    have go : ∀ s1 : St T, s1.lg = s.lg → (evOpN C.D S s1 o fun v u _ => evOps C.D S ops l ((s1.upds u).putD o.dst v) k) = some r → C.pre s.lg := fun s1 e h => by
      rw [← e]
      refine evOpN_pre hC hS h fun v u f h2 hm => ?_
      have := evOps_pre hC hS l _ h2 fun s' h3 h4 => hk s' h3 (h4.trans (by rw [putD_lg, hm, e]))
      rwa [putD_lg] at this
    have off : ∀ s1 : St T, s1.lg = s.lg → evOps C.D S ops l (s1.putD o.dst .skip) k = some r → C.pre s.lg := fun s1 e h => by
      have := evOps_pre hC hS l _ h fun s' h3 h4 => hk s' h3 (h4.trans (by rw [putD_lg, e]))
      rwa [putD_lg, e] at this
    simp only [evOps] at h
    split at h
    · exact go s rfl h
    · split at h
      · simp at h
      · split at h
        · simp at h
        · split at h
          · split at h <;> rw [cond_eq_ite] at h <;> split at h
            · refine go _ ?_ h; rfl
            · refine off _ ?_ h; rfl
            · refine off _ ?_ h; rfl
            · refine go _ ?_ h; rfl
          · exact off _ rfl h
          · simp at h

theorem evOps_ok (hC : CtxOK C) (hS : SpecOK C.P C.D S) {ops : Array Oper} (hops : ∀ (j : Nat) (o : Oper), ops[j]? = some o → operOk C.nt o = true) {k : St T → Option ρ} {r : ρ} : ∀ (l : List Oper) (i : Nat) {s : St T} {g : Gh} {M : Nat → Prop} {okc : Nat → Nat → Prop} {a : Act} {w : World},
    ops.toList.drop i = l → evOps C.D S ops l s k = some r → SR C s g M okc ds a w → (∀ s', k s' = some r → s'.lg.m? = s.lg.m? → C.pre s'.lg ∧ QOK C Q (wrs l) s g a w .normal s') →
    wpOpsIn (FW C.ro) 0 C.P ops Q (List.range' i l.length) a w
  | [], i, s, g, M, okc, a, w, _, h, hsr, hk => by
    simp only [List.length_nil, List.range'_zero, wpOpsIn]
    exact (hk s h rfl).2 g M okc ds a w hsr (Keep.refl _ _ _ _ _)
  | o :: l, i, s, g, M, okc, a, w, hl, h, hsr, hk => by
    have ho : ops[i]? = some o := by
      have := congrArg List.head? hl
      simpa [List.head?_drop] using this
    have hl' : ops.toList.drop (i + 1) = l := by
      have := congrArg List.tail hl
      simpa [List.tail_drop] using this
    have hoo := hops i o ho
    simp only [List.length_cons, List.range'_succ, wpOpsIn, ho]
    have go : ∀ {s1 : St T}, s1.lg = s.lg → SR C s1 g M okc ds a w → Keep (fun _ => False) s g a w s1 g a w → (evOpN C.D S s1 o fun v u _ => evOps C.D S ops l ((s1.upds u).putD o.dst v) k) = some r →
        o.wpIn (FW C.ro) 0 C.P a w (wpOpsIn (FW C.ro) 0 C.P ops Q (List.range' (i + 1) l.length)) Q := fun {s1} he hsr hk1 h => by
      obtain ⟨v, u, f, h1, hm, h2⟩ := stepN hC hS hsr hoo h
      have hk' : ∀ s', k s' = some r → s'.lg.m? = ((s1.upds u).putD o.dst v).lg.m? → C.pre s'.lg ∧ QOK C Q (wrs (o :: l)) s g a w .normal s' := fun s' h3 h4 => hk s' h3 (h4.trans (by rw [putD_lg, hm, he]))
      have hpre : ∀ l, u = [.log l] → C.pre l := fun l' e => by
        have := evOps_pre hC hS.nat l _ h1 fun s' h3 h4 => (hk' s' h3 h4).1
        rw [putD_lg, e] at this
        exact this
      refine Oper.wpIn_mono (fun a' w' hp => ?_) (h2 hpre Q)
      obtain ⟨g', M', okc', b1, b2, b3, b4⟩ := hsr.after (operOk.dst hoo) hp
      have hkeep : Keep (fun t => o.dst = some t) s g a w ((s1.upds u).putD o.dst v) g' a' w' :=
        ⟨b2, b3, fun t ht => b4 t ht, by rw [putD_hd, upds_hd]; exact hk1.hd⟩
      refine evOps_ok hC hS hops l (i + 1) hl' h1 b1 fun s' h3 h4 => ⟨(hk' s' h3 h4).1, (hk' s' h3 h4).2.shift hkeep (fun t e => ⟨o, by simp, e⟩) fun t ⟨o', e1, e2⟩ => ⟨o', by simp [e1], e2⟩⟩
    have off : ∀ {s1 : St T}, s1.lg = s.lg → SR C s1 g M okc ds a w → Keep (fun _ => False) s g a w s1 g a w → evOps C.D S ops l (s1.putD o.dst .skip) k = some r →
        wpOpsIn (FW C.ro) 0 C.P ops Q (List.range' (i + 1) l.length) (a.put o.dst undef) w := fun {s1} he hsr hk1 h => by
      have hk' : ∀ s', k s' = some r → s'.lg.m? = (s1.putD o.dst .skip).lg.m? → C.pre s'.lg ∧ QOK C Q (wrs (o :: l)) s g a w .normal s' := fun s' h3 h4 => hk s' h3 (h4.trans (by rw [putD_lg, he]))
      obtain ⟨b1, b4⟩ := hsr.off (operOk.dst hoo)
      have hkeep : Keep (fun t => o.dst = some t) s g a w (s1.putD o.dst .skip) g (a.put o.dst undef) w :=
        ⟨GhLe.refl g, Evo.refl _ _, fun t ht => b4 t ht, by rw [putD_hd]; exact hk1.hd⟩
      refine evOps_ok hC hS hops l (i + 1) hl' h b1 fun s' h3 h4 => ⟨(hk' s' h3 h4).1, (hk' s' h3 h4).2.shift hkeep (fun t e => ⟨o, by simp, e⟩) fun t ⟨o', e1, e2⟩ => ⟨o', by simp [e1], e2⟩⟩
    simp only [evOps] at h
    split at h
    · rename_i hg
      rw [if_pos (wanted_none hg _)]
      exact go rfl hsr (Keep.refl _ _ _ _ _) h
    · rename_i j want hg
      split at h
      · simp at h
      · rename_i gd hj
        split at h
        · simp at h
        · rename_i d hd
          have hlt := operOk.dst (hops j gd hj) d hd
          split at h
          · rename_i b hb
            have hy := yielded_bool hsr hj hd hlt hb
            have hkp : ∀ v, Keep (fun _ => False) s g a w (s.put d v) g a w := fun v => ⟨GhLe.refl g, Evo.refl _ _, fun _ _ => rfl, rfl⟩
            split at h
            · -- wanted: true
              cases b with
              | true =>
                rw [if_pos (by simp [Region.wanted, hg, hy])]
                exact go (by rfl) (hsr.reput hb) (hkp _) h
              | false =>
                rw [if_neg (by simp [Region.wanted, hg, hy])]
                exact ⟨fun _ _ => trivial, off (by rfl) (hsr.reput hb) (hkp _) h⟩
            · cases b with
              | true =>
                rw [if_neg (by simp [Region.wanted, hg, hy])]
                exact ⟨fun _ _ => trivial, off (by rfl) (hsr.reput hb) (hkp _) h⟩
              | false =>
                rw [if_pos (by simp [Region.wanted, hg, hy])]
                exact go (by rfl) (hsr.reput hb) (hkp _) h
          · rename_i hb
            have hy := yielded_skip hsr hj hd hlt hb
            rw [if_neg (by simp [Region.wanted, hg, hy])]
            exact ⟨fun _ _ => trivial, off rfl hsr (Keep.refl _ _ _ _ _) h⟩
          · simp at h

end
end Go.Px

