/-
  Proved here: further operations do what the evaluator says.
  Conditions: those that the theorems name.
-/
import Derived.Test.YtlndinolkjgjbaaPb
set_option linter.all false
namespace Go.Px
variable {T : Nat → Type} {ρ : Type}

section
variable {C : Ctx T} {S : Specs T} {s : St T} {g : Gh} {M : Nat → Prop} {okc : Nat → Nat → Prop} {ds : List Nat} {a : Act} {w : World} {o : Oper} {v : PV T} {u : List (Upd T)} {f : List Nat} {Q : Exit → Act → World → Prop}
variable {P : Program} {D : Tab T}

theorem step_nilCmp {op : BinOp} {xt yt : Nat} {x y : Operand} {E E2 : Nat} {l : List (T E)} {l2 : List (T E2)} {ti : TI T} {z b : Nat} (ho : o.op = .binOp op xt x y yt) (hop : op = .eql ∨ op = .neq) (hC : CtxOK C) (h : SR C s g M okc ds a w)
    (hx : opdOk C.nt x) (hy : opdOk C.nt y) (ex : s.ev C.D xt x = .sl E l .no) (ey : s.ev C.D yt y = .sl E2 l2 .nil) (hi : C.D.info xt = some ti) (hs : ti.slE = some (E, z, b)) :
    ∃ t : Bool, (l ≠ [] → t = false) ∧ ∀ Q, StepOK C s g ds a w o (.bool (if op = .eql then t else !t)) [] Q := by
  have hr := h.ev (ty := xt) hx
  have hr2 := h.ev (ty := yt) hy
  rw [ex] at hr; rw [ey] at hr2
  obtain ⟨tinf, d, r⟩ := hC.tab.row hi
  obtain ⟨rfl, _, _, hz, _, ei, hei, hez⟩ := r.sl E z b hs
  generalize hzx : a.eval x = zx at hr
  generalize hzy : a.eval y = zy at hr2
  cases hr2 with
  | sl _ _ _ _ hd2 ho2 =>
    cases ho2
    cases hr with
    | sl _ _ _ _ hd ho1 =>
      have hcase : (∃ aa cap, zx = .slice aa l.length cap) ∧ (l ≠ [] → zx ≠ .slice none l.length 0 ∧ ∃ aa cap, zx = .slice (some aa) l.length cap) := by
        constructor
        · generalize hv : PV.sl E l Own.no = c at hd
          cases hd with
          | int => cases hv
          | bool => cases hv
          | sl => cases hv; exact ⟨_, _, rfl⟩
        · intro hl
          cases l with
          | nil => exact absurd rfl hl
          | cons e r =>
            obtain ⟨b', off, cap, rfl, _⟩ := hd.elem hC.tab (n := 0) (x := e) rfl hei (by omega)
            exact ⟨by simp, _, _, rfl⟩
      obtain ⟨⟨aa, cap, rfl⟩, h2⟩ := hcase
      refine ⟨aa.isNone, fun hl => ?_, fun Q => ?_⟩
      · obtain ⟨_, aa', cap', e⟩ := h2 hl
        cases e; rfl
      · have heq : (Op.equalIn 10000 xt (.slice aa l.length cap) (.slice none 0 0)).run C.P w = .ok aa.isNone w := by
          have hd1 : ∀ d, (Op.equalIn (d + 1) xt (.slice aa l.length cap) (.slice none 0 0)).run C.P w = .ok aa.isNone w := fun d => by
            cases aa <;> simp only [Op.equalIn, Sem.run_bind, run_underlying r.hd, Result.andThen_ok] <;> rfl
          exact hd1 9999
        refine step_same (val := .bool (if op = .eql then aa.isNone else !aa.isNone)) h (by simp [ho]) (by simp [ho]) ?_ (.bool _) rfl
        simp only [execOp, ho, hzx, hzy]
        refine Looks.go ?_
        rcases hop with rfl | rfl <;> simp [Looks, eqGuard, binOp, Op.equal, Op.maxDepth, heq]

/-- a box is written no more -/
theorem WR.freeze {t : Nat} {e : Bx T} {b0 : Nat} (h : WR C s g M okc ds w) (hh : look t s.hd = none) (he : look t s.bx = some e) (hb0 : g.bl t = some b0) :
    ∃ ok2, (∀ b o, ok2 b o ↔ g.ok b o ∨ (b = b0 ∧ o < e.cs.length)) ∧ WR C (s.upd (.freeze t)) { g with ok := ok2 } M okc ds w ∧ Evo w g.ok w ok2 := by
  have hent : s.ent t = some e := by simp [St.ent, hh, he]
  have hbox : BoxOK C.P C.D w g e b0 := by
    obtain ⟨b, h1, h2⟩ := h.bx t e hent
    rw [hb0] at h1; cases h1; exact h2
  have hent' : ∀ u, (s.upd (.freeze t)).ent u = if t = u then some ⟨e.ver, true, e.cs.map untok⟩ else s.ent u := fun u => by
    simp only [St.upd, he, St.setBx, St.ent]
    by_cases htu : t = u
    · subst htu; simp [hh, look_put_eq]
    · simp [look_put_ne htu, htu]
  have hbase : (s.upd (.freeze t)).base = s.base := by simp [St.upd, he, St.setBx]
  have htk : (s.upd (.freeze t)).tk = s.tk := by simp [St.upd, he, St.setBx]
  have hlg : (s.upd (.freeze t)).lg = s.lg := by simp [St.upd, he, St.setBx]
  have hbv : ∀ u, (s.upd (.freeze t)).bv u = s.bv u := fun u => St.bv_of_ent hbase (by
    rw [hent']; split
    · rename_i e2; subst e2; simp [hent]
    · rfl)
  let ok2 : Nat → Nat → Prop := fun b o => g.ok b o ∨ (b = b0 ∧ o < e.cs.length)
  have hev : Evo w g.ok w ok2 := ⟨Nat.le_refl _, fun _ _ _ => rfl, fun _ _ h => .inl h⟩
  refine ⟨ok2, fun _ _ => Iff.rfl, ⟨?_, ?_, fun u => (h.bv u).trans (hbv u).symm, fun u => (h.tv u).trans (by simp only [St.tv, htk, hbase]), h.inj, h.blM, ?_, h.tkinj, h.tkbl, ?_, h.Mlt, fun b o hb => .inl (h.okcg b o hb), ?_, h.dsM, h.dsnd, h.rr, by rw [hlg]; exact h.hJ, h.rh, h.yl, h.ry⟩, hev⟩
  · intro u e' he'
    rw [hent'] at he'
    obtain ⟨vs, E, h3, h4⟩ := hbox.cells
    split at he'
    · rename_i htu; subst htu; cases he'
      refine ⟨b0, hb0, ⟨vs, E, h3, ?_⟩, fun _ o ho => .inr ⟨rfl, by simpa using ho⟩, by simp⟩
      refine ⟨by simpa using h4.1, fun i c hc => ?_⟩
      simp only [List.getElem?_map, Option.map_eq_some_iff] at hc
      obtain ⟨c', h5, rfl⟩ := hc
      exact ((h4.2 i c' h5).mono hev (GhLe.ok g ok2)).untok
    · rename_i htu
      obtain ⟨b, h1, h2⟩ := h.bx u e' he'
      have hne : b ≠ b0 := fun e2 => htu (h.inj t u b0 hb0 (e2 ▸ h1))
      obtain ⟨vs', E', h5, h6⟩ := h2.cells
      exact ⟨b, h1, ⟨vs', E', h5, h6.mono hev (GhLe.ok g ok2)⟩, fun hf' o ho => .inl (h2.fz hf' o ho), fun hf' o ho => ho.elim (h2.own hf' o) fun x => hne x.1⟩
  · intro u hu
    rw [hent'] at hu
    split at hu
    · simp at hu
    · exact h.nb u hu
  · intro u b e' ht
    obtain ⟨h1, h2, h3⟩ := h.tks u b e' ht
    have hne : b ≠ b0 := fun e2 => h.tkbl u t b e' ht (e2 ▸ hb0)
    exact ⟨h1, fun o ho => ho.elim (h2 o) fun x => absurd x.1 hne, h3⟩
  · intro b o ho
    rcases ho with ho | ⟨rfl, _⟩
    · exact h.okin b o ho
    · exact h.bl_lt hb0
  · intro b o ho
    rcases ho with ho | ⟨rfl, _⟩
    · exact h.okM b o ho
    · exact .inr (h.blM t _ hb0)

/-- what 'box' says: a box that may be written -/
theorem St.box_some {t k : Nat} {cs : List (PV T)} (h : s.box t k = some cs) : look t s.hd = none ∧ ∃ e, look t s.bx = some e ∧ e.fz = false ∧ e.ver = k ∧ e.cs = cs := by
  unfold St.box at h
  split at h
  · simp at h
  · rename_i hh
    split at h
    · rename_i e he
      split at h
      · simp at h
      · rename_i hf
        split at h
        · rename_i hv; cases h; exact ⟨hh, e, he, hf, Nat.eq_of_beq_eq_true hv, rfl⟩
        · simp at h
    · simp at h

theorem St.box_rbox {t k : Nat} {cs : List (PV T)} (h : s.box t k = some cs) : s.rbox t k = some cs := by
  obtain ⟨h1, e, h2, h3, h4, h5⟩ := St.box_some h
  subst h4; subst h5
  simp [St.rbox, St.ent, h1, h2]

/-- data out of a cell -/
theorem Rel.data {c : PV T} {v : Value} (h : Rel P D w g c v) (hd : isData (plainC c) = true) : RelD D w g.ok (plainC c) v := by
  cases h with
  | int k n => exact .int k n
  | bool b => exact .bool b
  | sl E l ow v h ho => exact h
  | undef => simp [plainC, isData] at hd
  | skip => simp [plainC, isData] at hd
  | nilp => simp [plainC, isData] at hd
  | nilf => simp [plainC, isData] at hd
  | nili => simp [plainC, isData] at hd
  | bsl => simp [plainC, isData] at hd
  | agg => simp [plainC, isData] at hd
  | tup => simp [plainC, isData] at hd
  | loc => simp [plainC, isData] at hd
  | rp => simp [plainC, isData] at hd
  | clo => simp [plainC, isData] at hd
  | prd => simp [plainC, isData] at hd
  | seq => simp [plainC, isData] at hd
  | yld => simp [plainC, isData] at hd
  | ifc => simp [plainC, isData] at hd

theorem decAll_get {E z : Nat} : ∀ {n : Nat} {cs : List (PV T)} {l : List (T E)}, decAll D E z n cs = some l → l.length = n ∧ ∀ i x, l[i]? = some x → D.dec E ((cs.drop (i * z)).take z) = some x
  | 0, cs, l, h => by simp [decAll] at h; subst h; exact ⟨rfl, by simp⟩
  | n + 1, cs, l, h => by
    simp only [decAll] at h
    obtain ⟨x, h1, h2⟩ := Option.bind_eq_some_iff.1 h
    obtain ⟨r, h3, h4⟩ := Option.bind_eq_some_iff.1 h2
    cases h4
    obtain ⟨e1, e2⟩ := decAll_get h3
    refine ⟨by simp [e1], fun i y hy => ?_⟩
    cases i with
    | zero => simp at hy; subst hy; simpa using h1
    | succ i =>
      have := e2 i y (by simpa using hy)
      rw [List.drop_drop] at this
      rw [Nat.succ_mul, Nat.add_comm]
      exact this

/-- a row of settled cells as a slice -/
theorem RelD.of_cells (hD : TabOK P D) {E n b off cap : Nat} {cs : List (PV T)} {l : List (T E)} {ei : TI T} (hei : D.info E = some ei) (hl : decAll D E ei.size n cs = some l) (hcap : n ≤ cap) {F : Nat → Value}
    (hc : ∀ j c, cs[j]? = some c → j < n * ei.size → w.cell? ⟨b, off + j, none⟩ = some (F j) ∧ g.ok b (off + j) ∧ Rel P D w g c (F j)) (ow : Own) : RelD D w g.ok (.sl E l ow) (.slice (some ⟨b, off, none⟩) n cap) := by
  obtain ⟨h1, h2⟩ := decAll_get hl
  have hsz : D.sz E = ei.size := by simp [Tab.sz, hei]
  have key : ∀ i j x, l[i]? = some x → ∀ c, (D.enc E x)[j]? = some c → j < ei.size ∧ i * ei.size + j < n * ei.size ∧ ∃ c', cs[i * ei.size + j]? = some c' ∧ c = plainC c' := by
    intro i j x hx c hc'
    have he := hD.dec E _ x (h2 i x hx)
    have hi : i < n := by rw [← h1]; exact (List.getElem?_eq_some_iff.1 hx).1
    have hj : j < ei.size := by
      have := (List.getElem?_eq_some_iff.1 hc').1
      rwa [hD.encLen E x ei hei] at this
    rw [he, List.getElem?_map, List.getElem?_take, if_pos hj, List.getElem?_drop] at hc'
    simp only [Option.map_eq_some_iff] at hc'
    obtain ⟨c', h5, h6⟩ := hc'
    have : i * ei.size + ei.size ≤ n * ei.size := by rw [← Nat.succ_mul]; exact Nat.mul_le_mul_right _ hi
    exact ⟨hj, by omega, c', h5, h6.symm⟩
  rw [← h1]
  refine .sl E l ow (some ⟨b, off, none⟩) cap (fun i j => F (i * ei.size + j)) (by omega) (fun i j x hx c hc' => ?_) fun i j x hx c hc' => ?_
  · obtain ⟨hj, hlt, c', h5, _⟩ := key i j x hx c hc'
    obtain ⟨a1, a2, _⟩ := hc _ c' h5 hlt
    rw [hsz]
    exact ⟨b, off, rfl, by rw [Nat.add_assoc]; exact a1, by rw [Nat.add_assoc]; exact a2⟩
  · obtain ⟨hj, hlt, c', h5, rfl⟩ := key i j x hx c hc'
    obtain ⟨_, _, a3⟩ := hc _ c' h5 hlt
    exact a3.data (hD.encData E x _ (List.mem_of_getElem? hc')).1

/-- a part of a slice -/
theorem RelD.sub {E : Nat} {l : List (T E)} {ow ow' : Own} {aa : Option Addr} {n cap lo hi : Nat} {ok : Nat → Nat → Prop} (h : RelD D w ok (.sl E l ow) (.slice aa n cap)) (h1 : lo ≤ hi) (h2 : hi ≤ l.length) (m : Nat) (hm : hi ≤ m) (hlm : m = lo → hi = lo) :
    RelD D w ok (.sl E ((l.take hi).drop lo) ow') (.slice (if m = lo then aa else aa.map (·.add (lo * D.sz E))) (hi - lo) (m - lo)) := by
  have hlen : ((l.take hi).drop lo).length = hi - lo := by simp; omega
  rw [← hlen]
  generalize hv : PV.sl E l ow = c at h
  generalize hvv : Value.slice aa n cap = vv at h
  cases h with
  | int => cases hv
  | bool => cases hv
  | sl E' l' ow2 aa' cap' F hcap ha hr =>
    cases hv; cases hvv
    have hget : ∀ i x, ((l.take hi).drop lo)[i]? = some x → l[lo + i]? = some x := by
      intro i x hx
      rw [List.getElem?_drop, List.getElem?_take] at hx
      split at hx
      · exact hx
      · simp at hx
    refine .sl E _ ow' _ _ (fun i j => F (lo + i) j) (by rw [hlen]; omega) (fun i j x hx c hc => ?_) fun i j x hx c hc => hr _ j x (hget i x hx) c hc
    obtain ⟨b, off, rfl, a1, a2⟩ := ha _ j x (hget i x hx) c hc
    have hne : m ≠ lo := by
      intro e
      have h3 := hlm e
      have := (List.getElem?_eq_some_iff.1 hx).1
      rw [hlen] at this; omega
    refine ⟨b, off + lo * D.sz E, ?_, ?_, ?_⟩
    · simp [hne, addr_add]
    · rw [Nat.add_mul] at a1
      rw [show off + lo * D.sz E + i * D.sz E + j = off + (lo * D.sz E + i * D.sz E) + j by omega]
      exact a1
    · rw [Nat.add_mul] at a2
      rw [show off + lo * D.sz E + i * D.sz E + j = off + (lo * D.sz E + i * D.sz E) + j by omega]
      exact a2

end
end Go.Px

namespace Go.Px
variable {T : Nat → Type} {ρ : Type}

section
variable {C : Ctx T} {S : Specs T} {s : St T} {g : Gh} {M : Nat → Prop} {okc : Nat → Nat → Prop} {ds : List Nat} {a : Act} {w : World} {o : Oper} {v : PV T} {u : List (Upd T)} {f : List Nat} {Q : Exit → Act → World → Prop}
variable {P : Program} {D : Tab T}

theorem run_bound {k : IntKind} {A : Nat} {y : Nat} {code : BoundsCode} (h : A ≤ y) : (Instr.sliceBound (.int k (A : Int)) y code).run P w = .ok A w := by
  rw [run_sliceBound w k A y code (by omega) (by omega)]; simp

theorem run_bounds {isSl : Bool} {len cap A B : Nat} {lo hi : Option Value} (hlo : (lo = none ∧ A = 0) ∨ ∃ k, lo = some (.int k (A : Int))) (hhi : (hi = none ∧ B = len) ∨ ∃ k, hi = some (.int k (B : Int))) (h1 : A ≤ B) (h2 : B ≤ cap) :
    (Instr.sliceBounds isSl len cap lo hi none).run P w = .ok (A, B, cap) w := by
  rcases hlo with ⟨rfl, rfl⟩ | ⟨k, rfl⟩ <;> rcases hhi with ⟨rfl, rfl⟩ | ⟨k', rfl⟩ <;> simp [Instr.sliceBounds, run_bound h1, run_bound h2]

theorem run_bounds3 {isSl : Bool} {len cap A B : Nat} {lo : Option Value} {k' k2 : IntKind} (hlo : (lo = none ∧ A = 0) ∨ ∃ k, lo = some (.int k (A : Int))) (h1 : A ≤ B) (h2 : B ≤ cap) :
    (Instr.sliceBounds isSl len cap lo (some (.int k' (B : Int))) (some (.int k2 (B : Int)))).run P w = .ok (A, B, B) w := by
  rcases hlo with ⟨rfl, rfl⟩ | ⟨k, rfl⟩ <;> simp [Instr.sliceBounds, run_bound h1, run_bound h2, run_bound (Nat.le_refl B)]

theorem lo_of {lo : Option Operand} {A : Int} {K : IntKind} (h : SR C s g M okc ds a w) (hx : ∀ x, lo = some x → opdOk C.nt x) (he : (match lo with | some x => s.ev C.D 0 x | none => .int .i64 0) = .int K A) (h0 : 0 ≤ A) :
    (lo.map a.eval = none ∧ A.toNat = 0) ∨ ∃ k, lo.map a.eval = some (.int k (A.toNat : Int)) := by
  cases lo with
  | none => simp at he; left; exact ⟨rfl, by omega⟩
  | some x =>
    right
    have hr := h.ev (ty := 0) (hx x rfl)
    simp only at he
    rw [he] at hr
    exact ⟨K, by simp [rel_int hr, Int.toNat_of_nonneg h0]⟩

theorem hi_of {hi : Option Operand} {B : Int} {K : IntKind} {n : Nat} (h : SR C s g M okc ds a w) (hx : ∀ x, hi = some x → opdOk C.nt x) (he : (match hi with | some x => s.ev C.D 0 x | none => .int .i64 (n : Int)) = .int K B) (h0 : 0 ≤ B) :
    (hi.map a.eval = none ∧ B.toNat = n) ∨ ∃ k, hi.map a.eval = some (.int k (B.toNat : Int)) := by
  cases hi with
  | none => simp at he; left; exact ⟨rfl, by omega⟩
  | some x =>
    right
    have hr := h.ev (ty := 0) (hx x rfl)
    simp only at he
    rw [he] at hr
    exact ⟨K, by simp [rel_int hr, Int.toNat_of_nonneg h0]⟩

theorem relD_sl_inv {E : Nat} {l : List (T E)} {ow : Own} {vv : Value} {ok : Nat → Nat → Prop} (h : RelD D w ok (.sl E l ow) vv) : ∃ aa cap, vv = .slice aa l.length cap ∧ l.length ≤ cap := by
  generalize hv : PV.sl E l ow = c at h
  cases h with
  | int => cases hv
  | bool => cases hv
  | sl => cases hv; exact ⟨_, _, rfl, by assumption⟩

theorem step_slice {t : Nat} {x : Operand} {lo hi mx : Option Operand} (ho : o.op = .slice t x lo hi mx) (hC : CtxOK C) (h : SR C s g M okc ds a w) (hx : opdOk C.nt x) (hlo : ∀ x, lo = some x → opdOk C.nt x) (hhi : ∀ x, hi = some x → opdOk C.nt x) (hmx : ∀ x, mx = some x → opdOk C.nt x)
    (hev : evOp C.D S s o k3 = some (v, u, f)) : StepOK C s g ds a w o v u Q := by
  simp only [evOp, ho] at hev
  have hr := h.ev (ty := 0) hx
  split at hev
  · rename_i ti E l ow hti he
    rw [he] at hr
    obtain ⟨tinf, d, r⟩ := hC.tab.row hti
    split at hev
    · rename_i E' z by' hsl
      split at hev
      · rename_i hE
        have hE := Nat.eq_of_beq_eq_true hE
        subst hE
        obtain ⟨rfl, hse, _, hz, _, ei, hei, hez⟩ := r.sl E' z by' hsl
        generalize hzx : a.eval x = zx at hr
        cases hr with
        | sl _ _ _ _ hd _ =>
          obtain ⟨aa, cap, rfl, hcap⟩ := relD_sl_inv hd
          have e2 := elem_of' r.hd
          have hsz : C.D.sz E' = z := by simp [Tab.sz, hei, hez]
          split at hev
          · rename_i K1 A K2 B h1 h2
            simp only [Bool.cond_eq_ite, Bool.and_eq_true, decide_eq_true_eq] at hev
            split at hev
            · rename_i hb
              obtain ⟨rfl, rfl⟩ := k3_some hev
              obtain ⟨⟨hA, hAB⟩, hB⟩ := hb
              refine step_same (val := .slice (if cap = A.toNat then aa else aa.map (·.add (A.toNat * C.D.sz E'))) (B.toNat - A.toNat) (cap - A.toNat)) h (by simp [ho]) (by simp [ho]) ?_ (.sl _ _ _ _ (hd.sub (by omega) (by omega) cap (by omega) (by omega)) trivial) rfl
              simp only [execOp, ho, hzx]
              refine Looks.go ?_
              have hb := run_bounds (P := C.P) (w := w) (isSl := true) (len := l.length) (cap := cap) (lo_of h hlo h1 hA) (hi_of h hhi h2 (by omega)) (by omega) (by omega)
              simp only [Looks, Instr.sliceAt, Sem.run_bind, run_underlying r.hd, Result.andThen_ok, Instr.slice, Option.map_none, hb, run_sizeOf hse, Sem.run_pure, hsz]
            · simp at hev
          · rename_i K1 A K2 B m h1 h2
            split at hev
            · rename_i K3 c hm
              split at hev
              case h_2 => simp at hev
              rename_i hh0
              simp only [Bool.cond_eq_ite, Bool.and_eq_true, decide_eq_true_eq] at hev
              split at hev
              · rename_i hb
                obtain ⟨rfl, rfl⟩ := k3_some hev
                obtain ⟨⟨⟨hA, hAB⟩, hB⟩, hc⟩ := hb
                subst hc
                have hlen : ((l.take B.toNat).drop A.toNat).length = B.toNat - A.toNat := by simp; omega
                refine step_same (val := .slice (if B.toNat = A.toNat then aa else aa.map (·.add (A.toNat * C.D.sz E'))) (B.toNat - A.toNat) (B.toNat - A.toNat)) h (by simp [ho]) (by simp [ho]) ?_ (.sl _ _ _ _ (hd.sub (by omega) (by omega) B.toNat (by omega) (by omega)) (.inr ⟨_, by rw [hlen]⟩)) rfl
                simp only [execOp, ho, hzx]
                refine Looks.go ?_
                have e3 := rel_int (hm ▸ h.ev (ty := 0) (hmx m rfl))
                rcases hi_of (n := l.length) h hhi h2 (by omega) with ⟨h3, _⟩ | ⟨k', h3⟩
                · simp at h3
                · have hb := run_bounds3 (P := C.P) (w := w) (isSl := true) (len := l.length) (cap := cap) (k' := k') (k2 := K3) (lo_of h hlo h1 hA) (B := B.toNat) (by omega) (by omega)
                  have e4 : (B.toNat : Int) = B := Int.toNat_of_nonneg (by omega)
                  rw [e4] at h3 hb
                  simp only [Looks, Instr.sliceAt, Sem.run_bind, run_underlying r.hd, Result.andThen_ok, Instr.slice, Option.map_some, e3, h3, hb, run_sizeOf hse, Sem.run_pure, hsz]
              · simp at hev
            · simp at hev
          · simp at hev
      · simp at hev
    · simp at hev
  · rename_i ti tt k hti he
    rw [he] at hr
    obtain ⟨tinf, d, r⟩ := hC.tab.row hti
    split at hev
    · rename_i n E z cs harr hbox
      obtain ⟨rfl, hse, hisz, ei, hei, hez⟩ := r.arr n E z harr
      split at hev
      · rename_i K1 A K2 B h1 h2
        split at hev
        · rename_i hb
          simp only [Bool.and_eq_true, decide_eq_true_eq] at hb
          obtain ⟨⟨⟨⟨hA, hAB⟩, hB⟩, hlen⟩, hno⟩ := hb
          have hlen := Nat.eq_of_beq_eq_true hlen
          obtain ⟨ll, hll, hk⟩ := Option.bind_eq_some_iff.1 hev
          obtain ⟨rfl, rfl⟩ := k3_some hk
          obtain ⟨hh, e, hbx, hfz, hver, hcs⟩ := St.box_some hbox
          obtain ⟨b, vs, El, e', hent, hec, hk', hbl, hhp, hrel, hBox⟩ := h.wr.rbox (St.box_rbox hbox)
          generalize hzx : a.eval x = zx at hr
          cases hr with
          | loc _ _ _ b' hkk hb' =>
            have := hb' hk'
            rw [hbl] at this; cases this
            obtain ⟨ok2, hok2, hwr, hevo⟩ := h.wr.freeze hh hbx hbl
            have hub : (match hi with | some x => s.ev C.D 0 x | none => .int .i64 (n : Int)) = .int K2 B := h2
            have hbd := run_bounds (P := C.P) (w := w) (isSl := false) (len := n) (cap := n) (lo_of h hlo h1 hA) (hi_of h hhi hub (by omega)) (by omega) (by omega)
            have hrun : (execOp a.eval o).run C.P w = .ok (.value (.slice (some ⟨b, if n = A.toNat then 0 else A.toNat * z, none⟩) (B.toNat - A.toNat) (n - A.toNat))) w := by
              simp only [execOp, ho, hzx]
              refine Looks.go ?_
              simp only [Looks, Instr.sliceAt, Sem.run_bind, run_underlying r.hd, Result.andThen_ok, Instr.sureAddr, Option.map_none, hbd, run_sizeOf hse, Sem.run_pure, addr_add]
              by_cases hn : n = A.toNat <;> simp [hn]
            refine wpIn_plain (by simp [ho]) (by simp [ho]) hrun ⟨_, _, M, okc, rfl, ?_, hwr, GhLe.ok g ok2, hevo⟩
            have hdl := (decAll_get hll).1
            refine .sl E ll .no _ ?_ trivial
            have hBA : (B - A).toNat = B.toNat - A.toNat := by omega
            rw [hBA] at hll
            subst hez
            have := RelD.of_cells (w := w) (g := { g with ok := ok2 }) hC.tab hei (n := B.toNat - A.toNat) (b := b) (off := if n = A.toNat then 0 else A.toNat * ei.size) (cap := n - A.toNat) hll (by omega)
              (F := fun j => vs.getD (A.toNat * ei.size + j) undef) (fun j c hj hlt => by
                rw [List.getElem?_drop] at hj
                have hne : n ≠ A.toNat := by
                  intro e2
                  have : B.toNat - A.toNat = 0 := by omega
                  rw [this] at hlt; omega
                have hg := hrel.get hj
                rw [if_neg hne]
                refine ⟨by rw [cell_of hhp]; exact hg.1, (hok2 _ _).2 (.inr ⟨rfl, ?_⟩), hg.2.mono hevo (GhLe.ok g ok2)⟩
                rw [hcs]; exact (List.getElem?_eq_some_iff.1 hj).1) .no
            exact this
        · simp at hev
      · simp at hev
    · simp at hev
  · simp at hev

end
end Go.Px

namespace Go.Px
variable {T : Nat → Type} {ρ : Type}

section
variable {C : Ctx T} {S : Specs T} {s : St T} {g : Gh} {M : Nat → Prop} {okc : Nat → Nat → Prop} {ds : List Nat} {a : Act} {w : World} {o : Oper} {v : PV T} {u : List (Upd T)} {f : List Nat} {Q : Exit → Act → World → Prop}
variable {P : Program} {D : Tab T}

theorem patch_len : ∀ {off : Nat} {cs vs : List (PV T)}, off + vs.length ≤ cs.length → (patch cs off vs).length = cs.length
  | 0, cs, vs, h => by simp [patch]; omega
  | n + 1, [], vs, h => by simp at h
  | n + 1, c :: r, vs, h => by
    simp only [patch, List.length_cons]
    rw [patch_len (by simp at h; omega)]

theorem patch_get : ∀ {off : Nat} {cs vs : List (PV T)} {i : Nat}, off + vs.length ≤ cs.length → (patch cs off vs)[i]? = if off ≤ i ∧ i < off + vs.length then vs[i - off]? else cs[i]?
  | 0, cs, vs, i, h => by
    simp only [patch]
    by_cases hi : i < vs.length
    · rw [List.getElem?_append_left hi]; simp [hi]
    · rw [List.getElem?_append_right (by omega), List.getElem?_drop]
      simp [hi]; congr 1; omega
  | n + 1, [], vs, i, h => by simp at h
  | n + 1, c :: r, vs, i, h => by
    simp only [patch]
    cases i with
    | zero => simp
    | succ i =>
      simp only [List.getElem?_cons_succ]
      rw [patch_get (by simp at h; omega)]
      by_cases hi : n ≤ i ∧ i < n + vs.length
      · rw [if_pos hi, if_pos (by omega)]; congr 1; omega
      · rw [if_neg hi, if_neg (by omega)]

/-- cells written over others -/
def over (cs : Array Value) (off : Nat) (l : List Value) (x : Array Value) : Prop :=
  x.size = cs.size ∧ ∀ i, x.getD i undef = if off ≤ i ∧ i < off + l.length then l.getD (i - off) undef else cs.getD i undef

theorem over_step {cs x : Array Value} {off : Nat} {v : Value} {l : List Value} (h : off < cs.size) (hx : over (cs.setIfInBounds off v) (off + 1) l x) : over cs off (v :: l) x := by
  refine ⟨by rw [hx.1]; simp, fun i => ?_⟩
  rw [hx.2]
  by_cases h1 : off + 1 ≤ i ∧ i < off + 1 + l.length
  · rw [if_pos h1, if_pos (by simp; omega)]
    have : i - off = (i - (off + 1)) + 1 := by omega
    rw [this, List.getD_cons_succ]
  · rw [if_neg h1]
    by_cases h2 : i = off
    · subst h2
      rw [if_pos (by simp)]
      simp [Array.getD, h]
    · rw [if_neg (by simp; omega), getD_set_ne (fun e => h2 e.symm)]

theorem over_nil (cs : Array Value) (off : Nat) : over cs off [] cs := ⟨rfl, fun i => by simp; omega⟩

theorem fold_over (off : Nat) : ∀ (l : List Value) (k : Nat) (cs : Array Value), off + k + l.length ≤ cs.size →
    over cs (off + k) l ((l.zipIdx k).foldl (fun cs (p : Value × Nat) => cs.setIfInBounds (off + p.2) p.1) cs)
  | [], k, cs, _ => over_nil cs _
  | v :: l, k, cs, h => by
    simp only [List.zipIdx_cons, List.foldl_cons]
    refine over_step (by simp at h; omega) ?_
    have := fold_over off l (k + 1) (cs.setIfInBounds (off + k) v) (by simp at h ⊢; omega)
    rwa [← Nat.add_assoc] at this

theorem over_rel {cs : List (PV T)} {vs : Array Value} {dd : List (PV T)} {us x : Array Value} {off : Nat} (h : RelL P D w g cs vs) (hd : RelL P D w g dd us) (ho : over vs off us.toList x) (hl : off + dd.length ≤ cs.length) : RelL P D w g (patch cs off dd) x := by
  have hus : us.toList.length = dd.length := by simpa using hd.1
  refine ⟨by rw [ho.1, patch_len hl]; exact h.1, fun i c hi => ?_⟩
  rw [patch_get hl] at hi
  rw [ho.2, hus]
  split at hi
  · rename_i hin
    rw [if_pos hin]
    have := hd.2 _ c hi
    simpa [Array.getD_eq_getD_getElem?] using this
  · rename_i hin
    rw [if_neg hin]
    exact h.2 i c hi

theorem setCells_over (b : Nat) {E : Nat} : ∀ (l : List Value) (off : Nat) (w : World) (vs : Array Value), w.heap[b]? = some (.cells vs E (0, 0)) → off + l.length ≤ vs.size →
    ∃ x, over vs off l x ∧ (w.setCells b off l).heap[b]? = some (.cells x E (0, 0)) ∧ (∀ b', b' ≠ b → (w.setCells b off l).heap[b']? = w.heap[b']?) ∧ (w.setCells b off l).heap.size = w.heap.size ∧
      (w.setCells b off l).os = w.os ∧ (w.setCells b off l).tape = w.tape ∧ (w.setCells b off l).output = w.output
  | [], off, w, vs, h, _ => ⟨vs, over_nil vs off, h, fun _ _ => rfl, rfl, rfl, rfl, rfl⟩
  | v :: l, off, w, vs, h, hl => by
    have hb : (w.setCell ⟨b, off, none⟩ v).heap[b]? = some (.cells (vs.setIfInBounds off v) E (0, 0)) := by
      simp [World.setCell, Array.getElem?_modify, h]
    have ho : ∀ b', b' ≠ b → (w.setCell ⟨b, off, none⟩ v).heap[b']? = w.heap[b']? := fun b' hne => by
      simp [World.setCell, Array.getElem?_modify, Ne.symm hne]
    obtain ⟨x, h1, h2, h3, h4, h5, h6, h7⟩ := setCells_over b l (off + 1) (w.setCell ⟨b, off, none⟩ v) _ hb (by simp at hl ⊢; omega)
    refine ⟨x, over_step (by simp at hl; omega) h1, h2, fun b' hne => (h3 b' hne).trans (ho b' hne), h4.trans (by simp [World.setCell]), h5, h6, h7⟩

/-! Values that are built -/

theorem fill_rel {place : Nat → Option (Nat × Nat)} {place' : Nat → Option (Nat × Nat)} (hp : ∀ i x, place i = some x → place' i = some x) (h : SR C s g M okc ds a w) : ∀ {parts : List (Nat × Operand)} {cs cs' : List (PV T)} {vs : Array Value},
    (∀ i x, (i, x) ∈ parts → opdOk C.nt x) → RelL C.P C.D w g cs vs → buildCells C.D s place cs parts = some cs' →
    ∃ vs', Instr.fill place' vs (parts.map fun p => (p.1, a.eval p.2)) = some vs' ∧ RelL C.P C.D w g cs' vs'
  | [], cs, cs', vs, _, hr, hb => by simp [buildCells] at hb; subst hb; exact ⟨vs, rfl, hr⟩
  | (i, x) :: r, cs, cs', vs, hx, hr, hb => by
    simp only [buildCells] at hb
    split at hb
    · simp at hb
    · rename_i off n hpl
      split at hb
      · rename_i hc
        simp only [Bool.and_eq_true] at hc
        obtain ⟨⟨h1, h2⟩, h3⟩ := hc
        have h1 := Nat.eq_of_beq_eq_true h1
        have h2 : off + n ≤ cs.length := by simpa using h2
        have hv := h.ev (ty := 0) (hx i x List.mem_cons_self)
        have hvc := hv.cells h3
        have hs1 : (a.eval x).cells.size = n := by rw [hvc.1, h1]
        have hov := fold_over off (a.eval x).cells.toList 0 vs (by simp only [Array.length_toList, hs1]; rw [hr.1]; omega)
        rw [Nat.add_zero] at hov
        have hrel := over_rel hr hvc hov (by rw [h1]; exact h2)
        obtain ⟨vs', e1, e2⟩ := fill_rel hp h (fun i x hm => hx i x (List.mem_cons_of_mem _ hm)) hrel hb
        refine ⟨vs', ?_, e2⟩
        simp only [List.map_cons, Instr.fill, hp _ _ hpl]
        have hng : ¬ ((a.eval x).cells.size ≠ n || decide (off + (a.eval x).cells.size > vs.size)) = true := by
          rw [hs1, hr.1]; simp; omega
        have : ((a.eval x).cells.zipIdx.foldl (fun cs x => match x with | (c, j) => cs.setIfInBounds (off + j) c) vs) = List.foldl (fun cs (p : Value × Nat) => cs.setIfInBounds (off + p.2) p.1) vs (a.eval x).cells.toList.zipIdx := by
          rw [← Array.foldl_toList, Array.toList_zipIdx]
        rw [this]
        simp only [hs1, ne_eq, not_true_eq_false, decide_false, Bool.false_or]
        rw [if_neg (by simp only [decide_eq_true_eq]; rw [hr.1]; omega)]
        exact e1
      · simp at hb

theorem RelL.nonagg {cs : List (PV T)} {z : Value} (h : RelL P D w g cs z.cells.toList.toArray) : RelL P D w g cs z.cells := by simpa using h

theorem step_build {t : Nat} {parts : Array (Nat × Operand)} (ho : o.op = .build t parts) (hC : CtxOK C) (h : SR C s g M okc ds a w) (hx : ∀ i x, (i, x) ∈ parts.toList → opdOk C.nt x) (hev : evOp C.D S s o k3 = some (v, u, f)) : StepOK C s g ds a w o v u Q := by
  simp only [evOp, ho] at hev
  split at hev
  · rename_i i hi
    obtain ⟨ti, d, r⟩ := hC.tab.row hi
    obtain ⟨z, hz, hzs, hza⟩ := r.zero
    have hzr : RelL C.P C.D w g i.zero z.cells := RelL.nonagg (zerosEq_rel hzs)
    have hpm : (parts.map fun p => (p.1, a.eval p.2)).toList = parts.toList.map fun p => (p.1, a.eval p.2) := by simp
    split at hev
    · rename_i n e zz harr
      split at hev
      · rename_i cs hcs
        obtain ⟨rfl, rfl⟩ := k3_some hev
        obtain ⟨rfl, hse, _, _⟩ := r.arr n e zz harr
        obtain ⟨vs', h1, h2⟩ := fill_rel (place' := fun i => some (i * zz, zz)) (fun i x hx => hx) h hx hzr hcs
        refine step_same (val := .agg vs') h (by simp [ho]) (by simp [ho]) ?_ (.agg _ _ h2.1 h2.2) rfl
        simp only [execOp, ho]
        refine Looks.go ?_
        simp only [Looks, Instr.build, Sem.run_bind, run_zeroValue r.hi hz, Result.andThen_ok, run_underlying r.hd, run_sizeOf hse, hpm, h1]
        rfl
      · simp at hev
    · rename_i harr
      split at hev
      · rename_i hagg
        split at hev
        · rename_i cs hcs
          obtain ⟨rfl, rfl⟩ := k3_some hev
          have hst : ∃ fs, d = .struct fs := by
            have := r.agg; rw [hagg] at this
            cases d <;> simp [isAggD] at this
            · rename_i n e; exact absurd rfl (r.noarr harr n e)
            · exact ⟨_, rfl⟩
          obtain ⟨fs, rfl⟩ := hst
          have hfl := r.flds fs rfl
          have hpl : ∀ (l : List (Nat × Nat)) (q : List Field), fldsEq C.P l q = true → q.mapM (fun f => (C.P.info? f.type).map fun i => (f.offset, i.size)) = some l := by
            intro l
            induction l with
            | nil => intro q hq; cases q <;> simp [fldsEq] at hq; rfl
            | cons x l ih =>
              obtain ⟨x1, x2⟩ := x
              intro q hq
              cases q with
              | nil => simp [fldsEq] at hq
              | cons fd q =>
                simp only [fldsEq, Bool.and_eq_true] at hq
                obtain ⟨⟨⟨a1, a2⟩, _⟩, a4⟩ := hq
                have a1 := Nat.eq_of_beq_eq_true a1
                split at a2
                · rename_i m hm
                  have a2 := Nat.eq_of_beq_eq_true a2
                  simp only [szOf, Option.map_eq_some_iff] at hm
                  obtain ⟨ii, b1, b2⟩ := hm
                  simp [List.mapM_cons, b1, ih q a4, a1, b2, a2]
                · simp at a2
          have hpl := hpl _ _ hfl
          obtain ⟨vs', h1, h2⟩ := fill_rel (place' := fun f => i.flds[f]?) (fun i x hx => hx) h hx hzr hcs
          refine step_same (val := .agg vs') h (by simp [ho]) (by simp [ho]) ?_ (.agg _ _ h2.1 h2.2) rfl
          simp only [execOp, ho]
          refine Looks.go ?_
          have hplaces := run_places (P := C.P) w _ _ hpl
          have hplaces' : (fs.mapM fun f => (do pure (f.offset, ← sizeOf f.type) : Sem (Nat × Nat))).run C.P w = .ok i.flds.toArray w := by
            have : (fun f : Field => (do pure (f.offset, ← sizeOf f.type) : Sem (Nat × Nat))) = fun f => Prod.mk f.offset <$> sizeOf f.type := by
              funext f; rfl
            rw [this, Array.mapM_eq_mapM_toList]
            simp [hplaces]
          have hfun : (fun x : Nat => i.flds.toArray[x]?) = fun f : Nat => i.flds[f]? := by funext x; simp
          simp only [Looks, Instr.build, Sem.run_bind, run_zeroValue r.hi hz, Result.andThen_ok, run_underlying r.hd, hplaces', hpm, hfun, h1]
          rfl
        · simp at hev
      · simp at hev
  · simp at hev

end
end Go.Px

namespace Go.Px
variable {T : Nat → Type} {ρ : Type}

section
variable {C : Ctx T} {S : Specs T} {s : St T} {g : Gh} {M : Nat → Prop} {okc : Nat → Nat → Prop} {ds : List Nat} {a : Act} {w : World} {o : Oper} {v : PV T} {u : List (Upd T)} {f : List Nat} {Q : Exit → Act → World → Prop}
variable {P : Program} {D : Tab T}

theorem heap_alloc_lt {w : World} {x : Obj} {b : Nat} (h : b < w.heap.size) : (w.alloc x).heap[b]? = w.heap[b]? := by
  show (w.heap.push x)[b]? = _
  rw [Array.getElem?_push, if_neg (by omega)]
theorem heap_alloc_eq {w : World} {x : Obj} : (w.alloc x).heap[w.heap.size]? = some x := by
  show (w.heap.push x)[w.heap.size]? = _
  rw [Array.getElem?_push, if_pos rfl]

theorem size_alloc {w : World} {x : Obj} : (w.alloc x).heap.size = w.heap.size + 1 := by
  show (w.heap.push x).size = _
  simp

/-- a new block; some of its cells are settled at once -/
theorem WR.alloc (hC : CtxOK C) (h : WR C s g M okc ds w) (x : Obj) {ok2 : Nat → Nat → Prop} (hold : ∀ b o, g.ok b o → ok2 b o) (hnew : ∀ b o, ok2 b o → g.ok b o ∨ b = w.heap.size) :
    WR C s { g with ok := ok2 } M okc ds (w.alloc x) ∧ Evo w g.ok (w.alloc x) ok2 :=
  h.grow hC (fun _ => False) (w' := w.alloc x) rfl rfl rfl (by rw [size_alloc]; omega) (fun b hb _ => heap_alloc_lt hb) (fun _ hx => hx.elim) (fun _ _ _ hx => hx.elim) hold (fun b o hb => by
    rcases hnew b o hb with h1 | h1
    · exact .inl h1
    · exact .inr ⟨.inl (by omega), by rw [size_alloc]; omega⟩)

theorem Gh.ok_eta (g : Gh) : { g with ok := g.ok } = g := rfl

theorem WR.new_box (hC : CtxOK C) (h : WR C s g M okc ds w) {d : Nat} (hfree : s.free d = true) {cs : List (PV T)} {vs : Array Value} (E : Nat) (hr : RelL C.P C.D w g cs vs) :
    WR C (s.upd (.fresh d cs)) (g.fresh d w.heap.size) M okc ds (w.alloc (.cells vs E)) ∧ GhLe g (g.fresh d w.heap.size) ∧ Evo w g.ok (w.alloc (.cells vs E)) (g.fresh d w.heap.size).ok ∧
      Rel C.P C.D (w.alloc (.cells vs E)) (g.fresh d w.heap.size) (.loc d (s.bv d + 1) 0) (.pointer (some ⟨w.heap.size, 0, none⟩)) := by
  obtain ⟨h1, h2⟩ := h.alloc hC (.cells vs E) (ok2 := g.ok) (fun _ _ h => h) (fun _ _ h => .inl h)
  have h1 : WR C s g M okc ds (w.alloc (.cells vs E)) := h1
  have hlt : ∀ {b : Nat} {x : Obj}, w.heap[b]? = some x → b ≠ w.heap.size := fun hb => by have := heap_lt hb; omega
  refine ⟨h1.fresh hC hfree (b := w.heap.size) (E := E) heap_alloc_eq (hr.mono h2 (GhLe.refl g)) (fun hm => by have := h.Mlt _ hm; omega) (fun t hb => by have := h.bl_lt hb; omega) (fun t e ht => ?_) (fun o ho => by have := h.okin _ _ ho; omega), GhLe.fresh g d _, h2, ?_⟩
  · obtain ⟨⟨vs', E', h3, _⟩, _⟩ := h.tks t _ e ht
    have := heap_lt h3; omega
  · refine .loc d _ 0 w.heap.size ?_ fun _ => ?_
    · simp [Gh.fresh, h.bv]
    · simp [Gh.fresh]

theorem step_alloc {E : Nat} (ho : o.op = .alloc E) (hC : CtxOK C) (h : SR C s g M okc ds a w) (hev : evOp C.D S s o k3 = some (v, u, f)) : StepOK C s g ds a w o v u Q := by
  simp only [evOp, ho] at hev
  split at hev
  · rename_i d i hd hi
    split at hev
    · rename_i hfree
      obtain ⟨rfl, rfl⟩ := k3_some hev
      obtain ⟨ti, td, r⟩ := hC.tab.row hi
      obtain ⟨z, hz, hzs, hza⟩ := r.zero
      have hzr : RelL C.P C.D w g i.zero z.cells := RelL.nonagg (zerosEq_rel hzs)
      obtain ⟨h1, h2, h3, h4⟩ := h.wr.new_box hC hfree E hzr
      refine wpIn_plain (by simp [ho]) (by simp [ho]) (v := .pointer (some ⟨w.heap.size, 0, none⟩)) (w' := w.alloc (.cells z.cells E)) ?_ ⟨_, _, M, okc, rfl, h4, h1, h2, h3⟩
      simp only [execOp, ho, Instr.alloc, Sem.run_bind, run_zeroValue r.hi hz, Result.andThen_ok, newVar, newRow, run_newObj, Sem.run_pure]
      rfl
    · simp at hev
  · simp at hev

theorem step_box {E : Nat} {x : Operand} (ho : o.op = .box E x) (hC : CtxOK C) (h : SR C s g M okc ds a w) (hx : opdOk C.nt x) (hev : evOp C.D S s o k3 = some (v, u, f)) : StepOK C s g ds a w o v u Q := by
  simp only [evOp, ho] at hev
  have hr := h.ev (ty := E) hx
  split at hev
  · rename_i d i hd hi
    split at hev
    · rename_i hb
      simp only [Bool.and_eq_true] at hb
      obtain ⟨⟨hfree, hlen⟩, hall⟩ := hb
      obtain ⟨rfl, rfl⟩ := k3_some hev
      have hkn : (s.ev C.D E x).known = true := by
        cases hv : s.ev C.D E x <;> rw [hv] at hall <;> first | rfl | (simpa [PV.cells, PV.known] using hall)
      have hc := hr.cells hkn
      obtain ⟨h1, h2, h3, h4⟩ := h.wr.new_box hC hfree E hc
      refine wpIn_plain (by simp [ho]) (by simp [ho]) (v := .pointer (some ⟨w.heap.size, 0, none⟩)) (w' := w.alloc (.cells (a.eval x).cells E)) ?_ ⟨_, _, M, okc, rfl, h4, h1, h2, h3⟩
      simp only [execOp, ho, Instr.box, newVar, newRow, Sem.run_bind, run_newObj, Result.andThen_ok, Sem.run_pure]
      rfl
    · simp at hev
  · simp at hev

theorem reps_get : ∀ {n : Nat} {z : List (PV T)} {i : Nat}, i < n * z.length → (reps z n)[i]? = z[i % z.length]?
  | 0, z, i, h => by simp at h
  | n + 1, z, i, h => by
    simp only [reps]
    by_cases hi : i < z.length
    · rw [List.getElem?_append_left hi, Nat.mod_eq_of_lt hi]
    · have h2 : i - z.length < n * z.length := by
        rw [Nat.succ_mul] at h
        generalize n * z.length = q at h ⊢
        omega
      rw [List.getElem?_append_right (by omega), reps_get h2, ← Nat.mod_eq_sub_mod (by omega)]

theorem reps_len (z : List (PV T)) : ∀ n, (reps z n).length = n * z.length
  | 0 => by simp [reps]
  | n + 1 => by simp [reps, reps_len z n, Nat.succ_mul]; omega

/-- a new row, settled -/
theorem WR.new_row (hC : CtxOK C) (h : WR C s g M okc ds w) {cs : List (PV T)} {vs : Array Value} (E : Nat) (hr : RelL C.P C.D w g cs vs) :
    ∃ g', g' = { g with ok := fun b o => g.ok b o ∨ (b = w.heap.size ∧ o < vs.size) } ∧ WR C s g' M okc ds (w.alloc (.cells vs E)) ∧ GhLe g g' ∧ Evo w g.ok (w.alloc (.cells vs E)) g'.ok ∧ RelL C.P C.D (w.alloc (.cells vs E)) g' cs vs ∧
      ∀ j c, cs[j]? = some c → (w.alloc (.cells vs E)).cell? ⟨w.heap.size, 0 + j, none⟩ = some (vs.getD j undef) ∧ g'.ok w.heap.size (0 + j) ∧ Rel C.P C.D (w.alloc (.cells vs E)) g' c (vs.getD j undef) := by
  obtain ⟨h1, h2⟩ := h.alloc hC (.cells vs E) (ok2 := fun b o => g.ok b o ∨ (b = w.heap.size ∧ o < vs.size)) (fun _ _ h => .inl h) (fun _ _ h => h.imp id fun x => x.1)
  have h3 := hr.mono h2 (GhLe.ok g _)
  refine ⟨_, rfl, h1, GhLe.ok g _, h2, h3, fun j c hj => ?_⟩
  have hg := h3.get hj
  rw [Nat.zero_add, cell_of heap_alloc_eq]
  exact ⟨hg.1, .inr ⟨rfl, (Array.getElem?_eq_some_iff.1 hg.1).1⟩, hg.2⟩

theorem step_buildSlice {t n : Nat} {parts : Array (Nat × Operand)} (ho : o.op = .buildSlice t n parts) (hC : CtxOK C) (h : SR C s g M okc ds a w) (hx : ∀ i x, (i, x) ∈ parts.toList → opdOk C.nt x) (hev : evOp C.D S s o k3 = some (v, u, f)) : StepOK C s g ds a w o v u Q := by
  simp only [evOp, ho] at hev
  split at hev
  · rename_i i hi
    obtain ⟨ti, d, r⟩ := hC.tab.row hi
    split at hev
    · rename_i E z by' hsl
      obtain ⟨rfl, hse, _, hz0, _, ei, hei, hez⟩ := r.sl E z by' hsl
      split at hev
      · rename_i e he
        rw [hei] at he; cases he
        obtain ⟨te, de, re⟩ := hC.tab.row hei
        obtain ⟨zv, hzv, hzs, _⟩ := re.zero
        have hzr : RelL C.P C.D w g ei.zero zv.cells := RelL.nonagg (zerosEq_rel hzs)
        split at hev
        · rename_i hle
          have hle : n * z ≤ 16777216 := by simpa using hle
          split at hev
          · rename_i cs hcs
            have hzl : zv.cells.size = z := by rw [hzr.1, re.zlen, hez]
            -- the cells before the parts
            have hbase : ∃ vs0, (∀ w : World, ((if n * z = 0 then pure #[] else do pure (← zeroValue E).cells : Sem (Array Value)) >>= fun zero => pure ((Array.range (n * z)).map (zero[· % zero.size]!))).run C.P w = .ok vs0 w) ∧ RelL C.P C.D w g (reps ei.zero n) vs0 := by
              by_cases h0 : n * z = 0
              · have hn : n = 0 := by rcases Nat.mul_eq_zero.1 h0 with h | h <;> omega
                subst hn
                exact ⟨#[], fun w => by simp, by simp [reps, RelL]⟩
              · refine ⟨(Array.range (n * z)).map (zv.cells[· % zv.cells.size]!), fun w => by simp [h0, run_zeroValue re.hi hzv], ?_⟩
                refine ⟨by simp [reps_len, re.zlen, hez], fun j c hj => ?_⟩
                have hj' : j < n * ei.zero.length := by
                  have := (List.getElem?_eq_some_iff.1 hj).1
                  rwa [reps_len] at this
                rw [reps_get hj'] at hj
                have hg := hzr.get hj
                rw [re.zlen, hez] at hj' hg
                have : ((Array.range (n * z)).map (zv.cells[· % zv.cells.size]!)).getD j undef = zv.cells.getD (j % z) undef := by
                  simp only [Array.getD_eq_getD_getElem?, Array.getElem?_map, Array.getElem?_range, hj', if_true, Option.map_some, Option.getD_some, hzl]
                  rw [hg.1]
                  have hlt : j % z < zv.cells.size := by rw [hzl]; exact Nat.mod_lt _ hz0
                  rw [getElem!_pos zv.cells (j % z) hlt, Option.getD_some]
                  have := hg.1
                  rw [Array.getElem?_eq_getElem hlt] at this
                  exact Option.some.inj this
                rw [this]; exact hg.2
            obtain ⟨vs0, hv0, hr0⟩ := hbase
            obtain ⟨vs', h1, h2⟩ := fill_rel (place' := fun i => some (i * z, z)) (fun i x hx => hx) h hx hr0 hcs
            have hpm : (parts.map fun p => (p.1, a.eval p.2)).toList = parts.toList.map fun p => (p.1, a.eval p.2) := by simp
            have hrun : (execOp a.eval o).run C.P w = .ok (.value (.slice (some ⟨w.heap.size, 0, none⟩) n n)) (w.alloc (.cells vs' E)) := by
              simp only [execOp, ho]
              have hv0 := hv0 w
              simp only [Sem.run_bind] at hv0
              have hgt : ¬ n * z > 2 ^ 24 := by omega
              simp only [Instr.buildSlice, Sem.run_bind, run_underlying r.hd, Result.andThen_ok, run_sizeOf hse, hgt, if_false, hpm]
              by_cases h0 : n * z = 0
              · rw [if_pos h0] at hv0 ⊢
                simp only [Sem.run_pure, Result.andThen_ok] at hv0
                injection hv0 with hv0
                simp only [bind_pure_comp, pure_bind]
                rw [hv0, h1]
                simp [newRow]
              · simp only [h0, if_false, Sem.run_bind, run_zeroValue re.hi hzv, Sem.run_pure, Result.andThen_ok] at hv0 ⊢
                injection hv0 with hv0
                rw [hv0, h1]
                simp [newRow]
            split at hev
            · simp at hev
            · rename_i d hd
              split at hev
              · rename_i hb
                simp only [Bool.and_eq_true] at hb
                obtain ⟨rfl, rfl⟩ := k3_some hev
                obtain ⟨b1, b2, b3, b4⟩ := h.wr.new_box hC hb.2 E h2
                refine wpIn_plain (by simp [ho]) (by simp [ho]) hrun ⟨_, _, M, okc, rfl, ?_, b1, b2, b3⟩
                generalize hg' : g.fresh d w.heap.size = g' at b4
                generalize hp' : Value.pointer (some ⟨w.heap.size, 0, none⟩) = p' at b4
                cases b4 with
                | loc _ _ _ b hk hbb => cases hp'; exact .bsl E d _ n _ hk hbb
              · obtain ⟨l, hl, hk⟩ := Option.bind_eq_some_iff.1 hev
                obtain ⟨rfl, rfl⟩ := k3_some hk
                obtain ⟨g', hg', b1, b2, b3, b4, b5⟩ := h.wr.new_row hC E h2
                have hll := (decAll_get hl).1
                subst hez
                refine wpIn_plain (by simp [ho]) (by simp [ho]) hrun ⟨_, g', M, okc, rfl, ?_, b1, b2, b3⟩
                refine .sl E l .full _ (RelD.of_cells hC.tab hei hl (Nat.le_refl n) (F := fun j => vs'.getD j undef) (fun j c hj _ => b5 j c hj) .no) (.inr ⟨_, by rw [hll]⟩)
          · simp at hev
        · simp at hev
      · simp at hev
    · simp at hev
  · simp at hev

theorem oneCell_of {v : Value} (h : (∀ cs, v ≠ .agg cs) ∧ (∀ vs, v ≠ .tuple vs)) : v.oneCell' = true := by
  cases v <;> first | rfl | exact absurd rfl (h.1 _) | exact absurd rfl (h.2 _)

/-- a value is stored into an own box -/
theorem step_store {t : Nat} {x y : Operand} (ho : o.op = .store t x y) (hC : CtxOK C) (h : SR C s g M okc ds a w) (hx : opdOk C.nt x) (hy : opdOk C.nt y) (hev : evOp C.D S s o k3 = some (v, u, f)) : StepOK C s g ds a w o v u Q := by
  simp only [evOp, ho] at hev
  have hr := h.ev (ty := 0) hx
  have hr2 := h.ev (ty := t) hy
  split at hev
  · rename_i i hi
    obtain ⟨ti, d, r⟩ := hC.tab.row hi
    split at hev
    · rename_i uu k off he
      rw [he] at hr
      split at hev
      · rename_i cs hcs
        split at hev
        · rename_i hb
          simp only [Bool.and_eq_true] at hb
          obtain ⟨⟨hlen, hle⟩, hall⟩ := hb
          have hlen := Nat.eq_of_beq_eq_true hlen
          have hle : off + i.size ≤ cs.length := by simpa using hle
          obtain ⟨rfl, rfl⟩ := k3_some hev
          obtain ⟨hh, e, hbx, hfz, hver, hec⟩ := St.box_some hcs
          obtain ⟨b, vs, E, e', hent, hec', hk, hbl, hhp, hrel, hBox⟩ := h.wr.rbox (St.box_rbox hcs)
          have hkn : (s.ev C.D t y).known = true := by
            cases hv : s.ev C.D t y <;> rw [hv] at hall <;> first | rfl | (simpa [PV.cells, PV.known] using hall)
          have hc := hr2.cells hkn
          generalize hzx : a.eval x = zx at hr
          cases hr with
          | loc _ _ _ b' hk' hb' =>
            have := hb' hk
            rw [hbl] at this; cases this
            have hsz : (a.eval y).cells.size = i.size := by rw [hc.1, hlen]
            obtain ⟨xx, o1, o2, o3, o4, o5, o6, o7⟩ := setCells_over b (a.eval y).cells.toList off w vs hhp (by simp only [Array.length_toList, hsz]; rw [hrel.1]; exact hle)
            have hrun : (execOp a.eval o).run C.P w = .ok .skip (w.setCells b off (a.eval y).cells.toList) := by
              simp only [execOp, ho, hzx, Instr.storeAt, Instr.sureAddr, Sem.run_bind, Sem.run_pure, Result.andThen_ok, storeVar, run_sizeOf r.szOf]
              rw [if_neg (by rw [hsz]; simp)]
              have hst := run_storeCells_cells (P := C.P) b off (a.eval y).cells.toList 0 w (fun j hj => by
                rw [cell_of hhp, Nat.add_zero]
                have : off + j < vs.size := by simp only [Array.length_toList, hsz] at hj; rw [hrel.1]; omega
                simp [this]) (fun j hj => by simp [World.frozen?, hhp]) (fun vv hv => by
                  obtain ⟨j, hj⟩ := List.mem_iff_getElem?.1 hv
                  have hjl : j < (s.ev C.D t y).cells.length := by
                    have := (List.getElem?_eq_some_iff.1 hj).1
                    simp only [Array.length_toList, hsz] at this; rw [hlen]; exact this
                  have hcj := List.getElem?_eq_getElem hjl
                  have hgd := hc.get hcj
                  rw [Array.getElem?_toList] at hj
                  rw [hj] at hgd
                  have : vv = (a.eval y).cells.getD j undef := Option.some.inj hgd.1
                  rw [this]
                  exact oneCell_of (hgd.2.oneCell (List.all_eq_true.1 hall _ (List.getElem_mem hjl))))
              rw [Nat.add_zero] at hst
              simp [hst]
            have hrel' : RelL C.P C.D w g (patch cs off (s.ev C.D t y).cells) xx := over_rel hrel hc o1 (by rw [hlen]; exact hle)
            have hevo : Evo w g.ok (w.setCells b off (a.eval y).cells.toList) g.ok := ⟨by rw [o4]; exact Nat.le_refl _, fun b2 o2' hb2 => cell_eq (o3 b2 (fun e2 => hBox.own (by
                have h7 : s.ent uu = some e := by simp [St.ent, hh, hbx]
                rw [h7] at hent; cases hent; exact hfz) o2' (e2 ▸ hb2))) o2', fun _ _ h => h⟩
            obtain ⟨w1, w2⟩ := h.wr.write hC hh hbx hfz hbl o5 o6 o7 (by rw [o4]; exact Nat.le_refl _) (fun b2 _ hne => o3 b2 hne) (ok2 := g.ok) (fun _ _ h => h) (fun _ _ h => .inl h) o2 (hrel'.mono hevo (GhLe.refl g))
            refine ⟨fun _ _ => trivial, ?_⟩
            rw [Oper.semAt_eq _ _ _ (by simp [ho]), hrun]
            exact ⟨undef, g, M, okc, rfl, .undef _, w1, GhLe.refl g, w2⟩
        · simp at hev
      · simp at hev
    · simp at hev
  · simp at hev

end
end Go.Px

namespace Go.Px
variable {T : Nat → Type} {ρ : Type}

section
variable {C : Ctx T} {S : Specs T} {s : St T} {g : Gh} {M : Nat → Prop} {okc : Nat → Nat → Prop} {ds : List Nat} {a : Act} {w : World} {o : Oper} {v : PV T} {u : List (Upd T)} {f : List Nat} {Q : Exit → Act → World → Prop}
variable {P : Program} {D : Tab T}

/-- a call of a builtin, as it is carried out -/
theorem wpIn_builtin {ro : Option Nat} {b : Builtin} {args : Array Operand} {ats : Array TypeId} {w' : World} {val : Value} {K : Act → World → Prop} (ho : o.op = .call { callee := .builtin b, args := args, argTypes := ats })
    (h : (builtin b ats o.type (args.map fun | .const _ => true | _ => false) (args.map a.eval)).run P w = .ok (.value val) w') (hk : K (a.put o.dst val) w') : o.wpIn (FW ro) 0 P a w K Q := by
  refine ⟨fun f _ => trivial, ?_⟩
  rw [Oper.semAt_eq _ _ _ (by simp [ho])]
  have : (execOp a.eval o).run P w = .ok (.value val) w' := by
    simp only [execOp, ho, resolve, Sem.run_bind, Sem.run_pure, Result.andThen_ok, invoke]
    exact h
  rw [this]
  exact hk

theorem slT_row (hC : CtxOK C) {ats : Array TypeId} (h : slT C.D ats = true) : ∃ t E, ats[0]? = some t ∧ C.P.underlying t = some (.slice E) := by
  unfold slT at h
  split at h
  · rename_i t ht
    split at h
    · rename_i i hi
      obtain ⟨ti, d, r⟩ := hC.tab.row hi
      cases hs : i.slE with
      | none => rw [hs] at h; simp at h
      | some x =>
        obtain ⟨rfl, _⟩ := r.sl x.1 x.2.1 x.2.2 hs
        exact ⟨t, x.1, ht, r.hd⟩
    · simp at h
  · simp at h

theorem maxGo_rel {K : IntKind} : ∀ {r : List (PV T)} {x : Int} {v : PV T} {vs : List Value}, maxGo K x r = some v → vs.length = r.length → (∀ (i : Nat) c, r[i]? = some c → ∃ y, vs[i]? = some y ∧ Rel P D w g c y) →
    ∃ n, v = .int K n ∧ (vs.foldlM Builtin.max2 (.int K x)).run P w = .ok (.int K n) w
  | [], x, v, vs, h, hl, _ => by
    simp [maxGo] at h; subst h
    have : vs = [] := by simpa using hl
    subst this
    exact ⟨x, rfl, rfl⟩
  | c :: r, x, v, vs, h, hl, hr => by
    cases c <;> first | (simp [maxGo] at h; done) | skip
    rename_i K' y
    simp only [maxGo] at h
    cases vs with
    | nil => simp at hl
    | cons z q =>
      obtain ⟨z', h1, h2⟩ := hr 0 _ rfl
      simp at h1; subst h1
      have := rel_int h2; subst this
      obtain ⟨n, e1, e2⟩ := maxGo_rel (vs := q) h (by simpa using hl) (fun i c hi => by simpa using hr (i + 1) c (by simpa using hi))
      refine ⟨n, e1, ?_⟩
      rw [List.foldlM_cons]
      simp only [Sem.run_bind, Builtin.max2, Sem.run_pure, Result.andThen_ok]
      have : (if y > x then y else x) = max x y := by simp only [Int.max_def]; split <;> split <;> omega
      rw [this]; exact e2

theorem minGo_rel {K : IntKind} : ∀ {r : List (PV T)} {x : Int} {v : PV T} {vs : List Value}, minGo K x r = some v → vs.length = r.length → (∀ (i : Nat) c, r[i]? = some c → ∃ y, vs[i]? = some y ∧ Rel P D w g c y) →
    ∃ n, v = .int K n ∧ (vs.foldlM Builtin.min2 (.int K x)).run P w = .ok (.int K n) w
  | [], x, v, vs, h, hl, _ => by
    simp [minGo] at h; subst h
    have : vs = [] := by simpa using hl
    subst this
    exact ⟨x, rfl, rfl⟩
  | c :: r, x, v, vs, h, hl, hr => by
    cases c <;> first | (simp [minGo] at h; done) | skip
    rename_i K' y
    simp only [minGo] at h
    cases vs with
    | nil => simp at hl
    | cons z q =>
      obtain ⟨z', h1, h2⟩ := hr 0 _ rfl
      simp at h1; subst h1
      have := rel_int h2; subst this
      obtain ⟨n, e1, e2⟩ := minGo_rel (vs := q) h (by simpa using hl) (fun i c hi => by simpa using hr (i + 1) c (by simpa using hi))
      refine ⟨n, e1, ?_⟩
      rw [List.foldlM_cons]
      simp only [Sem.run_bind, Builtin.min2, Sem.run_pure, Result.andThen_ok]
      have : (if y < x then y else x) = min x y := by simp only [Int.min_def]; split <;> split <;> omega
      rw [this]; exact e2

/-- a slice's elements, cell by cell -/
theorem RelD.row (hD : TabOK P D) {E : Nat} {l : List (T E)} {ow : Own} {vv : Value} {ok : Nat → Nat → Prop} (h : RelD D w ok (.sl E l ow) vv) {ei : TI T} (hei : D.info E = some ei) (h0 : 0 < ei.size) :
    ∃ (aa : Option Addr) (cap : Nat) (vals : List Value), vv = .slice aa l.length cap ∧ l.length ≤ cap ∧ vals.length = l.length * ei.size ∧
      (l ≠ [] → ∃ b off, aa = some ⟨b, off, none⟩) ∧
      (∀ b off, aa = some ⟨b, off, none⟩ → ∀ j y, vals[j]? = some y → w.cell? ⟨b, off + j, none⟩ = some y ∧ ok b (off + j)) ∧
      (∀ i x j c, l[i]? = some x → (D.enc E x)[j]? = some c → RelD D w ok c (vals.getD (i * ei.size + j) undef)) ∧ (∀ y ∈ vals, y.oneCell' = true) := by
  have hsz : D.sz E = ei.size := by simp [Tab.sz, hei]
  generalize hv : PV.sl E l ow = c at h
  cases h with
  | int => cases hv
  | bool => cases hv
  | sl E' l' ow' aa cap F hcap ha hr =>
    cases hv
    have hdiv : ∀ {k}, k < l.length * ei.size → k / ei.size < l.length ∧ k % ei.size < ei.size := fun {k} hk => ⟨by rw [Nat.div_lt_iff_lt_mul h0]; exact hk, Nat.mod_lt _ h0⟩
    have hcx : ∀ {k}, k < l.length * ei.size → ∃ x c, l[k / ei.size]? = some x ∧ (D.enc E x)[k % ei.size]? = some c := fun {k} hk => by
      obtain ⟨h1, h2⟩ := hdiv hk
      exact ⟨_, _, List.getElem?_eq_getElem h1, List.getElem?_eq_getElem (by rw [hD.encLen E _ ei hei]; exact h2)⟩
    refine ⟨aa, cap, (List.range (l.length * ei.size)).map fun k => F (k / ei.size) (k % ei.size), rfl, hcap, by simp, fun hl => ?_, fun b off e j y hj => ?_, fun i x j c hx hc => ?_, fun y hy => ?_⟩
    · have : 0 < l.length := List.length_pos_iff.2 hl
      obtain ⟨x, c, hx, hc⟩ := hcx (k := 0) (Nat.mul_pos this h0)
      obtain ⟨b, off, e, _⟩ := ha _ _ x hx c hc
      exact ⟨b, off, e⟩
    · have hjl : j < l.length * ei.size := by
        have := (List.getElem?_eq_some_iff.1 hj).1
        simpa using this
      obtain ⟨x, c, hx, hc⟩ := hcx hjl
      obtain ⟨b', off', e2, h1, h2⟩ := ha _ _ x hx c hc
      rw [e] at e2; cases e2
      have hy : F (j / ei.size) (j % ei.size) = y := by
        rw [List.getElem?_map, List.getElem?_range hjl] at hj
        simpa using hj
      rw [hsz, Nat.add_assoc, Nat.mul_comm, Nat.div_add_mod] at h1 h2
      exact ⟨by rw [h1, hy], h2⟩
    · have hi : i < l.length := (List.getElem?_eq_some_iff.1 hx).1
      have hj : j < ei.size := by
        have := (List.getElem?_eq_some_iff.1 hc).1
        rwa [hD.encLen E x ei hei] at this
      have hlt : i * ei.size + j < l.length * ei.size := by
        have := Nat.mul_le_mul_right ei.size (Nat.succ_le_of_lt hi)
        rw [Nat.succ_mul] at this; omega
      have e1 : (i * ei.size + j) / ei.size = i := by
        rw [Nat.add_comm, Nat.add_mul_div_right _ _ h0, Nat.div_eq_of_lt hj]; omega
      have e2 : (i * ei.size + j) % ei.size = j := by
        rw [Nat.add_comm, Nat.add_mul_mod_self_right, Nat.mod_eq_of_lt hj]
      have : ((List.range (l.length * ei.size)).map fun k => F (k / ei.size) (k % ei.size)).getD (i * ei.size + j) undef = F i j := by
        rw [List.getD_eq_getElem?_getD, List.getElem?_map, List.getElem?_range hlt]
        simp [e1, e2]
      rw [this]
      exact hr i j x hx c hc
    · simp only [List.mem_map, List.mem_range] at hy
      obtain ⟨k, hk, rfl⟩ := hy
      obtain ⟨x, c, hx, hc⟩ := hcx hk
      have := hr _ _ x hx c hc
      generalize F (k / ei.size) (k % ei.size) = y at this
      cases this <;> rfl

/-- the other way round -/
theorem RelD.of_row (hD : TabOK P D) {E : Nat} {l : List (T E)} {ow : Own} {ok : Nat → Nat → Prop} {ei : TI T} (hei : D.info E = some ei) {b off cap : Nat} {vals : List Value} (hcap : l.length ≤ cap) (hlen : vals.length = l.length * ei.size)
    (hc : ∀ (j : Nat) y, vals[j]? = some y → w.cell? ⟨b, off + j, none⟩ = some y ∧ ok b (off + j))
    (hr : ∀ (i : Nat) x (j : Nat) c, l[i]? = some x → (D.enc E x)[j]? = some c → RelD D w ok c (vals.getD (i * ei.size + j) undef)) : RelD D w ok (.sl E l ow) (.slice (some ⟨b, off, none⟩) l.length cap) := by
  have hsz : D.sz E = ei.size := by simp [Tab.sz, hei]
  refine .sl E l ow _ cap (fun i j => vals.getD (i * ei.size + j) undef) hcap (fun i j x hx c hcc => ?_) fun i j x hx c hcc => hr i x j c hx hcc
  have hi : i < l.length := (List.getElem?_eq_some_iff.1 hx).1
  have hj : j < ei.size := by
    have := (List.getElem?_eq_some_iff.1 hcc).1
    rwa [hD.encLen E x ei hei] at this
  have hlt : i * ei.size + j < vals.length := by
    rw [hlen]
    have := Nat.mul_le_mul_right ei.size (Nat.succ_le_of_lt hi)
    rw [Nat.succ_mul] at this; omega
  have hg : vals[i * ei.size + j]? = some (vals.getD (i * ei.size + j) undef) := by rw [List.getD_eq_getElem?_getD, List.getElem?_eq_getElem hlt]; rfl
  obtain ⟨h1, h2⟩ := hc _ _ hg
  rw [hsz]
  exact ⟨b, off, rfl, by rw [Nat.add_assoc]; exact h1, by rw [Nat.add_assoc]; exact h2⟩

end
end Go.Px

namespace Go.Px
variable {T : Nat → Type} {ρ : Type}

section
variable {C : Ctx T} {S : Specs T} {s : St T} {g : Gh} {M : Nat → Prop} {okc : Nat → Nat → Prop} {ds : List Nat} {a : Act} {w : World} {o : Oper} {v : PV T} {u : List (Upd T)} {f : List Nat} {Q : Exit → Act → World → Prop}
variable {P : Program} {D : Tab T}

theorem run_first {aa : Option Addr} {n sz cap : Nat} {vals : List Value} (hl : vals.length = n * sz) (hs : n ≠ 0 → ∃ b off, aa = some ⟨b, off, none⟩)
    (hc : ∀ b off, aa = some ⟨b, off, none⟩ → ∀ (j : Nat) y, vals[j]? = some y → w.cell? ⟨b, off + j, none⟩ = some y) : (Builtin.firstCells sz n (.slice aa n cap)).run P w = .ok vals.toArray w := by
  by_cases hn : n = 0
  · subst hn
    have : vals = [] := by simpa using hl
    subst this
    cases aa with
    | none => rfl
    | some x => simp [Builtin.firstCells, loadCells, loadCellsFrom]
  · obtain ⟨b, off, rfl⟩ := hs hn
    have := run_loadCells_list (P := P) w ⟨b, off, none⟩ vals (fun j y hj => by rw [addr_add]; exact hc b off rfl j y hj)
    rw [hl] at this
    simpa [Builtin.firstCells] using this

/-- cells behind a slice -/
def putAt (aa : Option Addr) (n : Nat) (l : List Value) : Sem Unit := match aa with | some x => storeCells (x.add n) l | none => pure ()

theorem run_app_room {t0 t1 ty E E1 n cap m c sz : Nat} {aa bb : Option Addr} {news : Array Value} (h0 : P.underlying t0 = some (.slice E)) (h1 : P.underlying t1 = some (.slice E1)) (hs : szOf P E = some sz)
    (hn : (Builtin.firstCells sz m (.slice bb m c)).run P w = .ok news w) (hroom : n + m ≤ cap) :
    (Builtin.append_ #[t0, t1] ty #[.slice aa n cap, .slice bb m c]).run P w =
      ((putAt aa (n * sz) news.toList).run P w).andThen fun _ w' => .ok (.slice aa (n + m) cap) w' := by
  simp only [Builtin.append_, List.getElem?_toArray, List.getElem?_cons_zero, List.getElem?_cons_succ, Sem.run_bind, run_underlying h0, run_underlying h1, Result.andThen_ok, run_sizeOf hs, Sem.run_pure, Builtin.lenOf, Bool.false_eq_true, if_false, hroom, if_true, Bool.not_false, hn]
  cases aa <;> simp [putAt]

theorem run_app_grow {t0 t1 ty E E1 n cap m c sz : Nat} {ei : TypeInfo} {z : Value} {aa bb : Option Addr} {olds news : Array Value} (h0 : P.underlying t0 = some (.slice E)) (h1 : P.underlying t1 = some (.slice E1)) (hi : P.info? E = some ei) (hz : ei.zero = some z) (hsz : ei.size = sz)
    (ho : (Builtin.firstCells sz n (.slice aa n cap)).run P w.drew = .ok olds w.drew) (hn : (Builtin.firstCells sz m (.slice bb m c)).run P w.drew = .ok news w.drew) (hg : cap < n + m) (hb : (n + m) * ei.bytes ≤ 140737488355328) (hb1 : 0 < ei.bytes) :
    (Builtin.append_ #[t0, t1] ty #[.slice aa n cap, .slice bb m c]).run P w =
      .ok (.slice (some ⟨w.heap.size, 0, none⟩) (n + m) (grownCap w (n + m) cap E)) (w.drew.alloc (.cells (olds ++ news ++ Builtin.zeroCells z.cells (grownCap w (n + m) cap E - (n + m))) E)) := by
  have hle : n + m ≤ 140737488355328 := Nat.le_trans (Nat.le_mul_of_pos_right _ hb1) hb
  have hroom : ¬ (n + m ≤ cap) := by omega
  have h63' : ¬ (9223372036854775807 < ((n : Int) + (m : Int))) := by omega
  have h48' : ¬ (281474976710656 < Builtin.nextslicecap (n + m) cap * ei.bytes) := by have := growslice_fits (need := n + m) (old := cap) (bytes := ei.bytes) hg hb; omega
  simp [Builtin.append_, run_underlying h0, run_underlying h1, sizeOf, typeInfo, zeroValue, hi, hz, Builtin.lenOf, hroom, h63', h48', Question.forced, hsz, ho, hn, newRow, grownCap, (by omega : ei.bytes ≠ 0)]

end
end Go.Px

namespace Go.Px
variable {T : Nat → Type} {ρ : Type}

section
variable {C : Ctx T} {S : Specs T} {s : St T} {g : Gh} {M : Nat → Prop} {okc : Nat → Nat → Prop} {ds : List Nat} {a : Act} {w : World} {o : Oper} {v : PV T} {u : List (Upd T)} {f : List Nat} {Q : Exit → Act → World → Prop}
variable {P : Program} {D : Tab T}

/-- the cells of two slices, one behind the other -/
theorem rows_append (hD : TabOK P D) {E : Nat} {l m : List (T E)} {ok : Nat → Nat → Prop} {ei : TI T} (hei : D.info E = some ei) {olds news : List Value} (ho : olds.length = l.length * ei.size)
    (h1 : ∀ (i : Nat) x (j : Nat) c, l[i]? = some x → (D.enc E x)[j]? = some c → RelD D w ok c (olds.getD (i * ei.size + j) undef))
    (h2 : ∀ (i : Nat) x (j : Nat) c, m[i]? = some x → (D.enc E x)[j]? = some c → RelD D w ok c (news.getD (i * ei.size + j) undef)) :
    ∀ (i : Nat) x (j : Nat) c, (l ++ m)[i]? = some x → (D.enc E x)[j]? = some c → RelD D w ok c ((olds ++ news).getD (i * ei.size + j) undef) := by
  intro i x j c hx hc
  have hj : j < ei.size := by
    have := (List.getElem?_eq_some_iff.1 hc).1
    rwa [hD.encLen E x ei hei] at this
  by_cases hi : i < l.length
  · rw [List.getElem?_append_left hi] at hx
    have hlt : i * ei.size + j < olds.length := by
      rw [ho]
      have := Nat.mul_le_mul_right ei.size (Nat.succ_le_of_lt hi)
      rw [Nat.succ_mul] at this; omega
    have := h1 i x j c hx hc
    rw [List.getD_eq_getElem?_getD] at this ⊢
    rwa [List.getElem?_append_left hlt]
  · rw [List.getElem?_append_right (by omega)] at hx
    have hge : olds.length ≤ i * ei.size + j := by
      rw [ho]
      have := Nat.mul_le_mul_right ei.size (Nat.le_of_not_lt hi)
      omega
    have := h2 _ x j c hx hc
    rw [List.getD_eq_getElem?_getD] at this ⊢
    rw [List.getElem?_append_right hge, ho]
    rwa [show i * ei.size + j - l.length * ei.size = (i - l.length) * ei.size + j by
      have := Nat.mul_le_mul_right ei.size (Nat.le_of_not_lt hi)
      rw [Nat.sub_mul]; omega]

/-- drawing changes nothing that is known -/
theorem WR.drew (hC : CtxOK C) (h : WR C s g M okc ds w) : WR C s g M okc ds w.drew ∧ Evo w g.ok w.drew g.ok :=
  h.grow hC (fun _ => False) (w' := w.drew) (ok2 := g.ok) rfl rfl rfl (Nat.le_refl _) (fun _ _ _ => rfl) (fun _ hx => hx.elim) (fun _ _ _ hx => hx.elim) (fun _ _ h => h) (fun _ _ h => .inl h)


theorem row_len {E : Nat} {l m : List (T E)} {ei : TI T} {olds news : List Value} (ho : olds.length = l.length * ei.size) (hn : news.length = m.length * ei.size) : (olds ++ news).length = (l ++ m).length * ei.size := by
  simp [ho, hn, Nat.add_mul]

/-- a new row for both, with an end of its own -/
theorem WR.app_grow (hC : CtxOK C) (h : WR C s g M okc ds w) (d : Nat) {E : Nat} {l m : List (T E)} {ei : TI T} (hei : C.D.info E = some ei) {olds news : List Value} (ho : olds.length = l.length * ei.size) (hn : news.length = m.length * ei.size)
    (h1 : ∀ (i : Nat) x (j : Nat) c, l[i]? = some x → (C.D.enc E x)[j]? = some c → RelD C.D w g.ok c (olds.getD (i * ei.size + j) undef))
    (h2 : ∀ (i : Nat) x (j : Nat) c, m[i]? = some x → (C.D.enc E x)[j]? = some c → RelD C.D w g.ok c (news.getD (i * ei.size + j) undef)) {cap' : Nat} {zs : Array Value} (hcap : l.length + m.length ≤ cap') (hz : zs.size = (cap' - (l.length + m.length)) * ei.size) :
    ∃ g', WR C (s.upd (.strip d)) g' M okc ds (w.drew.alloc (.cells (olds.toArray ++ news.toArray ++ zs) E)) ∧ GhLe g g' ∧ Evo w g.ok (w.drew.alloc (.cells (olds.toArray ++ news.toArray ++ zs) E)) g'.ok ∧
      Rel C.P C.D (w.drew.alloc (.cells (olds.toArray ++ news.toArray ++ zs) E)) g' (.sl E (l ++ m) (.tok d (s.tv d + 1))) (.slice (some ⟨w.heap.size, 0, none⟩) (l.length + m.length) cap') := by
  obtain ⟨hd, he⟩ := h.drew hC
  have hlen := row_len ho hn
  let ok2 : Nat → Nat → Prop := fun b o => g.ok b o ∨ (b = w.heap.size ∧ o < (olds ++ news).length)
  obtain ⟨hw, he2⟩ := hd.alloc hC (.cells (olds.toArray ++ news.toArray ++ zs) E) (ok2 := ok2) (fun _ _ h => .inl h) (fun _ _ h => h.imp id fun x => x.1)
  have heap : (w.drew.alloc (.cells (olds.toArray ++ news.toArray ++ zs) E)).heap[w.heap.size]? = some (.cells (olds.toArray ++ news.toArray ++ zs) E (0, 0)) := heap_alloc_eq (w := w.drew)
  have hev := he.trans he2
  let g2 : Gh := { g with ok := ok2 }
  have hsz : (olds.toArray ++ news.toArray ++ zs).size = cap' * ei.size := by
    simp only [Array.size_append, List.size_toArray, ho, hn, hz, ← Nat.add_mul]
    congr 1; omega
  have hs := hw.strip d (some (w.heap.size, (olds ++ news).length, cap' * ei.size)) (fun b e hbe => by
    cases hbe
    refine ⟨⟨_, E, heap, hsz, ?_⟩, fun o hok => ?_, fun hm => by have := h.Mlt _ hm; omega, fun t e' _ ht => ?_, fun t hb => by have := h.bl_lt hb; omega⟩
    · rw [hlen]; exact Nat.mul_le_mul_right _ (by simpa using hcap)
    · rcases hok with hok | hok
      · have := h.okin _ _ hok; omega
      · exact hok.2
    · obtain ⟨⟨vs', E', h3, _⟩, _⟩ := h.tks t _ e' ht
      have := heap_lt h3; omega)
  have hg : GhLe g (g2.tok d (some (w.heap.size, (olds ++ news).length, cap' * ei.size))) := (GhLe.ok g ok2).trans (GhLe.tok g2 d _)
  refine ⟨_, hs, hg, hev, ?_⟩
  have hll : l.length + m.length = (l ++ m).length := by simp
  rw [hll]
  refine .sl E (l ++ m) _ _ ?_ ?_
  · refine RelD.of_row hC.tab hei (by simpa using hcap) hlen (fun j y hj => ?_) fun i x j c hx hc => ?_
    · rw [Nat.zero_add, cell_of heap]
      have hjl := (List.getElem?_eq_some_iff.1 hj).1
      refine ⟨?_, .inr ⟨rfl, hjl⟩⟩
      rw [Array.getElem?_append_left (by simpa using hjl)]
      have : olds.toArray ++ news.toArray = (olds ++ news).toArray := by simp
      rw [this]
      simpa using hj
    · exact (rows_append hC.tab hei ho h1 h2 i x j c hx hc).mono hev.cell hev.ok
  · refine ⟨by simp [Gh.tok, g2, h.tv], fun _ => .inr (.inr ⟨w.heap.size, 0, cap', cap' * ei.size, rfl, ?_, ?_⟩)⟩
    · have : C.D.sz E = ei.size := by simp [Tab.sz, hei]
      simp [Gh.tok, g2, hlen, this, ho, hn, Nat.add_mul]
    · have : C.D.sz E = ei.size := by simp [Tab.sz, hei]
      rw [this]; omega


theorem Gh.tok_tk (g : Gh) (t : Nat) (x : Option (Nat × Nat × Nat)) (u : Nat) : (g.tok t x).tk u = if t = u then x else g.tk u := rfl

/-- behind an own row's end -/
theorem WR.app_room (hC : CtxOK C) (h : WR C s g M okc ds w) (t d : Nat) {E : Nat} {l m : List (T E)} {ei : TI T} (hei : C.D.info E = some ei) {olds news : List Value} (ho : olds.length = l.length * ei.size) (hn : news.length = m.length * ei.size) {b off cap lim : Nat}
    (htk : g.tk t = some (b, off + l.length * ei.size, lim)) (hlim : off + cap * ei.size ≤ lim) (hroom : l.length + m.length ≤ cap)
    (hold : ∀ (j : Nat) y, olds[j]? = some y → w.cell? ⟨b, off + j, none⟩ = some y ∧ g.ok b (off + j))
    (h1 : ∀ (i : Nat) x (j : Nat) c, l[i]? = some x → (C.D.enc E x)[j]? = some c → RelD C.D w g.ok c (olds.getD (i * ei.size + j) undef))
    (h2 : ∀ (i : Nat) x (j : Nat) c, m[i]? = some x → (C.D.enc E x)[j]? = some c → RelD C.D w g.ok c (news.getD (i * ei.size + j) undef)) :
    ∃ g', WR C ((s.upd (.strip t)).upd (.strip d)) g' M okc ds (w.setCells b (off + l.length * ei.size) news) ∧ GhLe g g' ∧ Evo w g.ok (w.setCells b (off + l.length * ei.size) news) g'.ok ∧
      Rel C.P C.D (w.setCells b (off + l.length * ei.size) news) g' (.sl E (l ++ m) (.tok d ((s.upd (.strip t)).tv d + 1))) (.slice (some ⟨b, off, none⟩) (l.length + m.length) cap) ∧
      (∀ j, j < news.length → (w.cell? ⟨b, off + l.length * ei.size + j, none⟩).isSome = true) ∧ (∀ j, j < news.length → w.frozen? ⟨b, off + l.length * ei.size + j, none⟩ = false) := by
  obtain ⟨⟨vs, El, hhp, hvs, hle⟩, hoke, hM⟩ := h.tks t b _ htk
  simp only at hvs hle hoke
  have hfit : off + l.length * ei.size + news.length ≤ vs.size := by
    rw [hvs, hn, Nat.add_assoc, ← Nat.add_mul]
    have := Nat.mul_le_mul_right ei.size hroom
    omega
  obtain ⟨xx, o1, o2, o3, o4, o5, o6, o7⟩ := setCells_over b news (off + l.length * ei.size) w vs hhp hfit
  have hsz : C.D.sz E = ei.size := by simp [Tab.sz, hei]
  have hw1 := h.strip t none (fun _ _ e => by cases e)
  let ok2 : Nat → Nat → Prop := fun b' o => g.ok b' o ∨ (b' = b ∧ o < off + l.length * ei.size + news.length ∧ off + l.length * ei.size ≤ o)
  have hcell' : ∀ o, w.cell? ⟨b, o, none⟩ = vs[o]? := fun o => cell_of hhp
  have hcell'' : ∀ o, (w.setCells b (off + l.length * ei.size) news).cell? ⟨b, o, none⟩ = xx[o]? := fun o => cell_of o2
  have hxx : ∀ o, o < vs.size → xx[o]? = some (if off + l.length * ei.size ≤ o ∧ o < off + l.length * ei.size + news.length then news.getD (o - (off + l.length * ei.size)) undef else vs.getD o undef) := fun o ho' => by
    have h3 := o1.2 o
    have h4 : o < xx.size := by rw [o1.1]; exact ho'
    rw [Array.getElem?_eq_getElem h4]
    congr 1
    rw [← h3]
    simp [Array.getD, h4]
  have holdc : ∀ o, o < off + l.length * ei.size → (w.setCells b (off + l.length * ei.size) news).cell? ⟨b, o, none⟩ = w.cell? ⟨b, o, none⟩ := fun o ho' => by
    have hlt : o < vs.size := by omega
    rw [hcell', hcell'', hxx o hlt, if_neg (by omega), Array.getElem?_eq_getElem hlt]
    simp [Array.getD, hlt]
  obtain ⟨hw2, he2⟩ := hw1.grow hC (fun b' => b' = b) (w' := w.setCells b (off + l.length * ei.size) news) (ok2 := ok2) o5 o6 o7 (by rw [o4]; exact Nat.le_refl _) (fun b' _ hne => o3 b' hne)
    (fun b' hb' => by
      subst hb'
      refine ⟨hM, fun t' hb => h.tkbl t t' b' _ htk hb, fun t' e ht => ?_, fun hd => ?_⟩
      · rw [Gh.tok_tk] at ht
        split at ht
        · cases ht
        · rename_i hne; exact hne (h.tkinj t t' b' _ _ htk ht)
      · have := (h.dsM _ hd).1; rw [hhp] at this; cases this)
    (fun b' o hok hb' => by subst hb'; exact holdc o (hoke o hok)) (fun _ _ h => .inl h) (fun b' o hok => by
      rcases hok with hok | ⟨rfl, _⟩
      · exact .inl hok
      · exact .inr ⟨.inr rfl, by rw [o4]; exact heap_lt hhp⟩)
  have hlen := row_len ho hn
  have hw3 := hw2.strip d (some (b, off + (l ++ m).length * ei.size, lim)) (fun b' e hbe => by
    cases hbe
    have hll : off + (l ++ m).length * ei.size = off + l.length * ei.size + news.length := by rw [hn]; simp [Nat.add_mul]; omega
    refine ⟨⟨xx, El, o2, by rw [o1.1]; exact hvs, ?_⟩, fun o hok => ?_, hM, fun t' e' _ ht => ?_, fun t' hb => h.tkbl t t' b _ htk hb⟩
    · simp only; rw [hll]; omega
    · simp only; rw [hll]
      rcases hok with hok | ⟨_, hok, _⟩
      · have := hoke o hok; omega
      · exact hok
    · have ht : (g.tok t none).tk t' = some (b, e') := ht
      rw [Gh.tok_tk] at ht
      split at ht
      · cases ht
      · rename_i hne; exact hne (h.tkinj t t' b _ _ htk ht))
  refine ⟨_, hw3, ((GhLe.tok g t none).trans (GhLe.ok _ ok2)).trans (GhLe.tok _ d _), he2, ?_, fun j hj => ?_, fun j hj => by simp [World.frozen?, hhp]⟩
  · have hll : l.length + m.length = (l ++ m).length := by simp
    rw [hll]
    refine .sl E (l ++ m) _ _ ?_ ?_
    · refine RelD.of_row hC.tab hei (by simpa using hroom) hlen (fun j y hj => ?_) fun i x j c hx hc => ?_
      · by_cases hjl : j < olds.length
        · rw [List.getElem?_append_left hjl] at hj
          obtain ⟨a1, a2⟩ := hold j y hj
          exact ⟨by rw [holdc _ (by rw [← ho]; omega)]; exact a1, .inl a2⟩
        · rw [List.getElem?_append_right (by omega)] at hj
          have hjn := (List.getElem?_eq_some_iff.1 hj).1
          rw [ho] at hj hjn hjl
          refine ⟨?_, .inr ⟨rfl, by omega, by omega⟩⟩
          rw [hcell'', hxx _ (by omega), if_pos (by omega)]
          rw [List.getD_eq_getElem?_getD, show off + j - (off + l.length * ei.size) = j - l.length * ei.size by omega, hj]
          rfl
      · exact (rows_append hC.tab hei ho h1 h2 i x j c hx hc).mono he2.cell he2.ok
    · refine ⟨?_, fun _ => .inr (.inr ⟨b, off, cap, lim, rfl, ?_, by rw [hsz]; exact hlim⟩)⟩
      · simp only [Gh.tok, if_true]
        have := hw1.tv d
        simp only [Gh.tok] at this
        rw [this]; exact Nat.le_refl _
      · simp [Gh.tok, hsz]
  · rw [hcell']
    have : off + l.length * ei.size + j < vs.size := by omega
    simp [this]

end
end Go.Px

namespace Go.Px
variable {T : Nat → Type} {ρ : Type}

section
variable {C : Ctx T} {S : Specs T} {s : St T} {g : Gh} {M : Nat → Prop} {okc : Nat → Nat → Prop} {ds : List Nat} {a : Act} {w : World} {o : Oper} {v : PV T} {u : List (Upd T)} {f : List Nat} {Q : Exit → Act → World → Prop}
variable {P : Program} {D : Tab T}

theorem map_cons {α β : Type} {F : α → β} {l : List α} {y : β} {r : List β} (h : l.map F = y :: r) : ∃ x q, l = x :: q ∧ F x = y ∧ q.map F = r := by
  cases l with
  | nil => simp at h
  | cons x q => simp at h; exact ⟨x, q, rfl, h.1, h.2⟩

theorem arr_of {α : Type} {xs : Array α} {l : List α} (h : xs.toList = l) : xs = l.toArray := by rw [← h]

set_option maxHeartbeats 2000000 in
theorem step_builtin {b : Builtin} {args : Array Operand} {ats : Array TypeId} (ho : o.op = .call { callee := .builtin b, args := args, argTypes := ats }) (hC : CtxOK C) (h : SR C s g M okc ds a w) (hx : ∀ x, x ∈ args → opdOk C.nt x)
    (hev : evOp C.D S s o k3 = some (v, u, f)) : StepOK C s g ds a w o v u Q := by
  simp only [evOp, ho] at hev
  have hrel := SR.evs (ty := (ats[0]?).getD 0) h hx
  have hat : ∀ (i : Nat) c, (args.toList.map (s.ev C.D ((ats[0]?).getD 0)))[i]? = some c → ∃ y, (args.map a.eval)[i]? = some y ∧ Rel C.P C.D w g c y := fun i c hi => by
    obtain ⟨e1, e2⟩ := hrel.get hi
    exact ⟨_, e1, e2⟩
  split at hev
  · -- len of a slice
    rename_i E l ow hargs
    split at hev
    · rename_i hs
      obtain ⟨rfl, rfl⟩ := k3_some hev
      obtain ⟨t, E', h0, hu⟩ := slT_row hC hs
      obtain ⟨y, e1, e2⟩ := hat 0 _ (by rw [hargs]; rfl)
      generalize hyy : y = yy at e2
      cases e2 with
      | sl _ _ _ _ hd _ =>
        obtain ⟨aa, cap, rfl, _⟩ := relD_sl_inv hd
        refine wpIn_builtin ho (w' := w) (val := .int .i64 l.length) ?_ ⟨_, g, M, okc, rfl, .int _ _, h.wr, GhLe.refl g, Evo.refl _ _⟩
        simp [builtin, Builtin.len_, h0, e1, hyy, run_underlying hu, goInt]
    · simp at hev
  · rename_i E t k n hargs
    split at hev
    · rename_i hs
      obtain ⟨rfl, rfl⟩ := k3_some hev
      obtain ⟨t', E', h0, hu⟩ := slT_row hC hs
      obtain ⟨y, e1, e2⟩ := hat 0 _ (by rw [hargs]; rfl)
      generalize hyy : y = yy at e2
      cases e2 with
      | bsl _ _ _ _ b hk hb =>
        refine wpIn_builtin ho (w' := w) (val := .int .i64 n) ?_ ⟨_, g, M, okc, rfl, .int _ _, h.wr, GhLe.refl g, Evo.refl _ _⟩
        simp [builtin, Builtin.len_, h0, e1, hyy, run_underlying hu, goInt]
    · simp at hev
  · rename_i K x r hargs
    split at hev
    · rename_i v' hv'
      obtain ⟨rfl, rfl⟩ := k3_some hev
      have hzl : (args.map a.eval).toList.length = r.length + 1 := by
        have := congrArg List.length hargs
        simp at this ⊢; omega
      have hat' : ∀ (i : Nat) c, (PV.int K x :: r)[i]? = some c → ∃ y, (args.map a.eval).toList[i]? = some y ∧ Rel C.P C.D w g c y := fun i c hi => by
        obtain ⟨y, e1, e2⟩ := hat i c (by rw [hargs]; exact hi)
        exact ⟨y, by rw [Array.getElem?_toList]; exact e1, e2⟩
      generalize hz : (args.map a.eval).toList = zs at hzl hat'
      cases zs with
      | nil => simp at hzl
      | cons z q =>
        obtain ⟨z', e1, e2⟩ := hat' 0 _ rfl
        simp at e1; subst e1
        have := rel_int e2; subst this
        obtain ⟨n, rfl, e4⟩ := maxGo_rel (P := C.P) (D := C.D) (w := w) (g := g) (vs := q) hv' (by simpa using hzl) (fun i c hi => by simpa using hat' (i + 1) c (by simpa using hi))
        refine wpIn_builtin ho (w' := w) (val := .int K n) ?_ ⟨_, g, M, okc, rfl, .int _ _, h.wr, GhLe.refl g, Evo.refl _ _⟩
        simp only [builtin, Builtin.max_, hz]
        exact (by simp only [Sem.run_bind, e4]; rfl)
    · simp at hev
  · rename_i K x r hargs
    split at hev
    · rename_i v' hv'
      obtain ⟨rfl, rfl⟩ := k3_some hev
      have hzl : (args.map a.eval).toList.length = r.length + 1 := by
        have := congrArg List.length hargs
        simp at this ⊢; omega
      have hat' : ∀ (i : Nat) c, (PV.int K x :: r)[i]? = some c → ∃ y, (args.map a.eval).toList[i]? = some y ∧ Rel C.P C.D w g c y := fun i c hi => by
        obtain ⟨y, e1, e2⟩ := hat i c (by rw [hargs]; exact hi)
        exact ⟨y, by rw [Array.getElem?_toList]; exact e1, e2⟩
      generalize hz : (args.map a.eval).toList = zs at hzl hat'
      cases zs with
      | nil => simp at hzl
      | cons z q =>
        obtain ⟨z', e1, e2⟩ := hat' 0 _ rfl
        simp at e1; subst e1
        have := rel_int e2; subst this
        obtain ⟨n, rfl, e4⟩ := minGo_rel (P := C.P) (D := C.D) (w := w) (g := g) (vs := q) hv' (by simpa using hzl) (fun i c hi => by simpa using hat' (i + 1) c (by simpa using hi))
        refine wpIn_builtin ho (w' := w) (val := .int K n) ?_ ⟨_, g, M, okc, rfl, .int _ _, h.wr, GhLe.refl g, Evo.refl _ _⟩
        simp only [builtin, Builtin.min_, hz]
        exact (by simp only [Sem.run_bind, e4]; rfl)
    · simp at hev
  · rename_i E l ow E' m ow' d hargs hd
    split at hev
    · rename_i ti tj hts
      split at hev
      · rename_i E'' z by' x1 hE hs1 hs2 hdec
        subst hE
        split at hev
        · rename_i hEE
          have hEE := Nat.eq_of_beq_eq_true hEE
          subst hEE
          obtain ⟨t0, q0, hq0, hi0, hq0'⟩ := map_cons hts
          obtain ⟨t1, q1, rfl, hi1, hq1'⟩ := map_cons hq0'
          have hq1 : q1 = [] := by simpa using hq1'
          subst hq1
          have hats : ats = #[t0, t1] := arr_of hq0
          obtain ⟨_, _, r0⟩ := hC.tab.row hi0
          obtain ⟨_, _, r1⟩ := hC.tab.row hi1
          obtain ⟨rfl, hse, hbe, hz0, hb0, ei, hei, hez⟩ := r0.sl _ _ _ hs1
          obtain ⟨y1, y2, y3⟩ := x1
          obtain ⟨rfl, _⟩ := r1.sl _ _ _ hs2
          obtain ⟨te, de, re⟩ := hC.tab.row hei
          obtain ⟨zv, hzv, hzs, _⟩ := re.zero
          have hzl : zv.cells.size = ei.size := by
            have := (zerosEq_rel (P := C.P) (D := C.D) (w := w) (g := g) hzs).1
            rw [re.zlen] at this; simpa using this
          obtain ⟨va, ea, ra⟩ := hat 0 _ (by rw [hargs]; rfl)
          obtain ⟨vb, eb, rb⟩ := hat 1 _ (by rw [hargs]; rfl)
          have hargv : args.map a.eval = #[va, vb] := by
            apply Array.ext'
            have hl : (args.map a.eval).toList.length = 2 := by
              have := congrArg List.length hargs
              simpa using this
            generalize hz : (args.map a.eval).toList = zs at hl
            have ea' : zs[0]? = some va := by rw [← hz, Array.getElem?_toList]; exact ea
            have eb' : zs[1]? = some vb := by rw [← hz, Array.getElem?_toList]; exact eb
            match zs, hl with
            | [x, y], _ => simp at ea' eb'; subst ea'; subst eb'; rfl
          -- what both slices are
          have hRa : RelD C.D w g.ok (.sl E'' l .no) va ∧ OwnOK C.D g E'' l.length ow va := by cases ra with | sl _ _ _ _ h1 h2 => exact ⟨h1, h2⟩
          have hRb : RelD C.D w g.ok (.sl E'' m .no) vb := by cases rb with | sl _ _ _ _ h1 h2 => exact h1
          obtain ⟨aa, cap, olds, rfl, hcap, holen, hone, holdc, holdr, _⟩ := hRa.1.row hC.tab hei (by omega)
          obtain ⟨bb, cap2, news, rfl, hcap2, hnlen, hnne, hnewc, hnewr, hone2⟩ := hRb.row hC.tab hei (by omega)
          have hfn : (Builtin.firstCells ei.size m.length (.slice bb m.length cap2)).run C.P w = .ok news.toArray w := run_first hnlen (fun hne => hnne (fun e => by subst e; exact hne rfl)) (fun b off e j y hj => (hnewc b off e j y hj).1)
          have hse : szOf C.P E'' = some ei.size := by rw [hez]; exact hse
          have hby : te.bytes = by' := by simpa [byOf, re.hi] using hbe
          have hrest : ∀ {w' : World} {val : Value} {u' : List (Upd T)} {v' : PV T}, (Builtin.append_ #[t0, t1] o.type #[.slice aa l.length cap, .slice bb m.length cap2]).run C.P w = .ok val w' → (∃ g', WR C (s.upds u') g' M okc ds w' ∧ GhLe g g' ∧ Evo w g.ok w' g'.ok ∧ Rel C.P C.D w' g' v' val) →
              StepOK C s g ds a w o v' u' Q := by
            rintro w' val u' v' hrun ⟨g', b1, b2, b3, b4⟩
            refine wpIn_builtin ho (w' := w') (val := val) ?_ ⟨val, g', M, okc, rfl, b4, b1, b2, b3⟩
            rw [hargv, hats]
            simp only [builtin, Sem.run_bind, hrun]
            rfl
          -- it grows
          have hgrow : ∀ (s' : St T) (g' : Gh), WR C s' g' M okc ds w → g'.ok = g.ok → ¬ (l.length + m.length ≤ cap) → (l.length + m.length) * by' ≤ ROOM → ∃ w' val, (Builtin.append_ #[t0, t1] o.type #[.slice aa l.length cap, .slice bb m.length cap2]).run C.P w = .ok val w' ∧
              ∃ g'', WR C (s'.upd (.strip d)) g'' M okc ds w' ∧ GhLe g' g'' ∧ Evo w g'.ok w' g''.ok ∧ Rel C.P C.D w' g'' (.sl E'' (l ++ m) (.tok d (s'.tv d + 1))) val := by
            intro s' g' hW hok hnr hbb
            have hfo : (Builtin.firstCells ei.size l.length (.slice aa l.length cap)).run C.P w.drew = .ok olds.toArray w.drew := run_first holen (fun hne => hone (fun e => by subst e; exact hne rfl)) (fun b off e j y hj => (holdc b off e j y hj).1)
            have hfn' : (Builtin.firstCells ei.size m.length (.slice bb m.length cap2)).run C.P w.drew = .ok news.toArray w.drew := run_first hnlen (fun hne => hnne (fun e => by subst e; exact hne rfl)) (fun b off e j y hj => (hnewc b off e j y hj).1)
            have hrun := run_app_grow (P := C.P) (w := w) (ty := o.type) r0.hd r1.hd re.hi hzv re.size hfo hfn' (by omega) (by rw [hby]; exact hbb) (by omega)
            refine ⟨_, _, hrun, ?_⟩
            have hcap' : l.length + m.length ≤ grownCap w (l.length + m.length) cap E'' := grownCap_ge w (l.length + m.length) cap E''
            exact hW.app_grow hC d hei holen hnlen (by rw [hok]; exact holdr) (by rw [hok]; exact hnewr) hcap' (by rw [size_zeroCells, hzl])
          -- nothing is appended to a full row
          have hfull : ∀ (s' : St T) (g' : Gh), WR C s' g' M okc ds w → g'.ok = g.ok → l.length + m.length ≤ cap → (Value.slice aa l.length cap = .slice none 0 0 ∨ ∃ x, Value.slice aa l.length cap = .slice x l.length l.length) → ∃ w' val, (Builtin.append_ #[t0, t1] o.type #[.slice aa l.length cap, .slice bb m.length cap2]).run C.P w = .ok val w' ∧
              ∃ g'', WR C (s'.upd (.strip d)) g'' M okc ds w' ∧ GhLe g' g'' ∧ Evo w g'.ok w' g''.ok ∧ Rel C.P C.D w' g'' (.sl E'' (l ++ m) (.tok d (s'.tv d + 1))) val := by
            intro s' g' hW hok hr hv
            have hm : m = [] := by
              apply List.eq_nil_of_length_eq_zero
              rcases hv with e | ⟨x, e⟩
              · injection e with _ e2 e3; omega
              · injection e with _ _ e; omega
            subst hm
            have hnews : news = [] := by simpa using hnlen
            subst hnews
            have hrun := run_app_room (P := C.P) (w := w) (ty := o.type) (aa := aa) r0.hd r1.hd hse hfn hr
            have hst' : (putAt aa (l.length * ei.size) ([] : List Value).toArray.toList).run C.P w = .ok () w := by cases aa <;> rfl
            rw [hst'] at hrun
            refine ⟨w, _, hrun, _, hW.strip d none (fun _ _ e => by cases e), GhLe.tok g' d none, Evo.refl _ _, ?_⟩
            have e1 : l ++ [] = l := by simp
            rw [e1]
            refine .sl E'' l _ _ (by show RelD C.D w g'.ok _ _; rw [hok]; simpa using hRa.1) ⟨by simp [Gh.tok, hW.tv], fun _ => ?_⟩
            rcases hv with e | ⟨x, e⟩
            · exact .inl (by simpa using e)
            · exact .inr (.inl ⟨x, by simpa using e⟩)
          cases ow with
          | no => simp at hev
          | nil =>
            simp only [Bool.cond_eq_ite, decide_eq_true_eq] at hev
            split at hev
            · rename_i hb
              obtain ⟨rfl, rfl⟩ := k3_some hev
              by_cases hr : l.length + m.length ≤ cap
              · obtain ⟨w', val, c1, c2⟩ := hfull s g h.wr rfl hr (.inl hRa.2)
                exact hrest c1 c2
              · obtain ⟨w', val, c1, c2⟩ := hgrow s g h.wr rfl hr hb
                exact hrest c1 c2
            · simp at hev
          | full =>
            simp only [Bool.cond_eq_ite, decide_eq_true_eq] at hev
            split at hev
            · rename_i hb
              obtain ⟨rfl, rfl⟩ := k3_some hev
              by_cases hr : l.length + m.length ≤ cap
              · obtain ⟨w', val, c1, c2⟩ := hfull s g h.wr rfl hr hRa.2
                exact hrest c1 c2
              · obtain ⟨w', val, c1, c2⟩ := hgrow s g h.wr rfl hr hb
                exact hrest c1 c2
            · simp at hev
          | tok t k =>
            simp only at hev
            split at hev
            · rename_i hkk
              have hkk := Nat.eq_of_beq_eq_true hkk
              simp only [Bool.cond_eq_ite, decide_eq_true_eq] at hev
              split at hev
              · rename_i hb
                obtain ⟨rfl, rfl⟩ := k3_some hev
                have hw1 := h.wr.strip t none (fun _ _ e => by cases e)
                have hg1 := GhLe.tok g t none
                have wrap : (∃ w' val, (Builtin.append_ #[t0, t1] o.type #[.slice aa l.length cap, .slice bb m.length cap2]).run C.P w = .ok val w' ∧
                    ∃ g'', WR C ((s.upd (.strip t)).upd (.strip d)) g'' M okc ds w' ∧ GhLe (g.tok t none) g'' ∧ Evo w (g.tok t none).ok w' g''.ok ∧ Rel C.P C.D w' g'' (.sl E'' (l ++ m) (.tok d ((s.upd (.strip t)).tv d + 1))) val) → StepOK C s g ds a w o (.sl E'' (l ++ m) (.tok d ((s.upd (.strip t)).tv d + 1))) [.strip t, .strip d] Q := by
                  rintro ⟨w', val, c1, g'', c2, c3, c4, c5⟩
                  exact hrest c1 ⟨g'', c2, hg1.trans c3, c4, c5⟩
                by_cases hr : l.length + m.length ≤ cap
                · rcases hRa.2.2 (by rw [h.wr.tv]; exact hkk) with e | e | ⟨b, off, cap0, lim, e, htk, hlim⟩
                  · exact wrap (hfull _ _ hw1 rfl hr (.inl e))
                  · exact wrap (hfull _ _ hw1 rfl hr (.inr e))
                  · injection e with e1 _ e3
                    subst e1; subst e3
                    have hsz : C.D.sz E'' = ei.size := by simp [Tab.sz, hei]
                    rw [hsz] at htk hlim
                    obtain ⟨g'', c1, c2, c3, c4, c5, c6⟩ := h.wr.app_room hC t d hei holen hnlen htk hlim hr (fun j y hj => holdc b off rfl j y hj) holdr hnewr
                    refine hrest (w' := w.setCells b (off + l.length * ei.size) news) ?_ ⟨g'', c1, c2, c3, c4⟩
                    rw [run_app_room (P := C.P) (w := w) (ty := o.type) (aa := some ⟨b, off, none⟩) r0.hd r1.hd hse hfn hr]
                    have hst := run_storeCells_cells (P := C.P) b (off + l.length * ei.size) news 0 w (by simpa using c5) (by simpa using c6) hone2
                    rw [Nat.add_zero] at hst
                    simp only [putAt, addr_add, hst, Result.andThen_ok]
                · exact wrap (hgrow _ _ hw1 rfl hr hb)
              · simp at hev
            · simp at hev
        · simp at hev
      · simp at hev
    · simp at hev
  · simp at hev

end
end Go.Px

