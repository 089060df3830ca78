/-
  Proved here: operations in a drawn order do what the evaluator says.
  Conditions: those that the theorems name.
-/
import Derived.Test.YtlndinolkjgjbaaPd
import Derived.OrdersIn
set_option linter.all false
namespace Go.Px
variable {T : Nat → Type} {ρ : Type}

/-! ## Where an operation looks -/

/-- two states are one at some temporaries and some names -/
structure Ag (s s' : St T) (L K : List Nat) : Prop where
  hd : s'.hd = s.hd
  base : s'.base = s.base
  tm : ∀ t, t ∈ L → s'.get t = s.get t
  bx : ∀ t, 2 * t ∈ K → look t s'.bx = look t s.bx
  tk : ∀ t, 2 * t + 1 ∈ K → look t s'.tk = look t s.tk
  lg : 2 * LOG ∈ K → s'.lg = s.lg

section
variable {S : Specs T} {s s' : St T} {o : Oper} {v : PV T} {u : List (Upd T)} {f L K : List Nat} {D : Tab T}

theorem Ag.sub {L' K' : List Nat} (h : Ag s s' L K) (h1 : ∀ t, t ∈ L' → t ∈ L) (h2 : ∀ t, t ∈ K' → t ∈ K) : Ag s s' L' K' :=
  ⟨h.hd, h.base, fun t ht => h.tm t (h1 t ht), fun t ht => h.bx t (h2 _ ht), fun t ht => h.tk t (h2 _ ht), fun ht => h.lg (h2 _ ht)⟩
theorem Ag.refl (s : St T) (L K : List Nat) : Ag s s L K := ⟨rfl, rfl, fun _ _ => rfl, fun _ _ => rfl, fun _ _ => rfl, fun _ => rfl⟩
theorem Ag.trans {s1 s2 s3 : St T} (h : Ag s1 s2 L K) (k : Ag s2 s3 L K) : Ag s1 s3 L K :=
  ⟨k.hd.trans h.hd, k.base.trans h.base, fun t ht => (k.tm t ht).trans (h.tm t ht), fun t ht => (k.bx t ht).trans (h.bx t ht), fun t ht => (k.tk t ht).trans (h.tk t ht), fun ht => (k.lg ht).trans (h.lg ht)⟩
theorem Ag.symm {s1 s2 : St T} (h : Ag s1 s2 L K) : Ag s2 s1 L K :=
  ⟨h.hd.symm, h.base.symm, fun t ht => (h.tm t ht).symm, fun t ht => (h.bx t ht).symm, fun t ht => (h.tk t ht).symm, fun ht => (h.lg ht).symm⟩

theorem Ag.ent (h : Ag s s' L K) {t : Nat} (ht : 2 * t ∈ K) : s'.ent t = s.ent t := by simp only [St.ent, h.hd, h.bx t ht]
theorem Ag.bv (h : Ag s s' L K) {t : Nat} (ht : 2 * t ∈ K) : s'.bv t = s.bv t := by simp only [St.bv, h.ent ht, h.base]
theorem Ag.tv (h : Ag s s' L K) {t : Nat} (ht : 2 * t + 1 ∈ K) : s'.tv t = s.tv t := by simp only [St.tv, h.tk t ht, h.base]
theorem Ag.rbox (h : Ag s s' L K) {t k : Nat} (ht : 2 * t ∈ K) : s'.rbox t k = s.rbox t k := by simp only [St.rbox, h.ent ht]
theorem Ag.box (h : Ag s s' L K) {t k : Nat} (ht : 2 * t ∈ K) : s'.box t k = s.box t k := by simp only [St.box, h.hd, h.bx t ht]
theorem Ag.free (h : Ag s s' L K) (t : Nat) : s'.free t = s.free t := by simp only [St.free, h.hd]
theorem Ag.ev (h : Ag s s' L K) {ty : Nat} {x : Operand} (hx : ∀ t, x = .tmp t → t ∈ L) : s'.ev D ty x = s.ev D ty x := by
  cases x with
  | tmp t => exact h.tm t (hx t rfl)
  | _ => rfl

/-- the same updates leave the same -/
theorem Ag.upd (h : Ag s s' L K) (x : Upd T) : Ag (s.upd x) (s'.upd x) L K := by
  have hget : ∀ t, t ∈ L → (s'.upd x).get t = (s.upd x).get t := fun t ht => by
    have := h.tm t ht
    simp only [St.get, St.upd_tm] at this ⊢
    exact this
  cases x with
  | box t cs =>
    simp only [St.upd, St.setCs] at hget ⊢
    refine ⟨?_, ?_, hget, fun t' ht => ?_, fun t' ht => ?_, fun ht => ?_⟩
    · have := h.hd; split <;> split <;> simpa [St.setBx] using this
    · have := h.base; split <;> split <;> simpa [St.setBx] using this
    · by_cases he : t = t'
      · subst he
        have := h.bx t ht
        rw [this]
        split <;> simp_all [St.setBx, look_put_eq]
      · have := h.bx t' ht
        split <;> split <;> simpa [St.setBx, look_put_ne he] using this
    · have := h.tk t' ht; split <;> split <;> simpa [St.setBx] using this
    · have := h.lg ht; split <;> split <;> simpa [St.setBx] using this
  | fresh t cs =>
    simp only [St.upd, St.setBx] at hget ⊢
    refine ⟨h.hd, h.base, hget, fun t' ht => ?_, h.tk, h.lg⟩
    by_cases he : t = t'
    · subst he; simp only [look_put_eq, h.bv ht]
    · simp only [look_put_ne he]; exact h.bx t' ht
  | strip t =>
    simp only [St.upd] at hget ⊢
    refine ⟨h.hd, h.base, hget, h.bx, fun t' ht => ?_, h.lg⟩
    by_cases he : t = t'
    · subst he; simp only [look_put_eq, h.tv ht]
    · simp only [look_put_ne he]; exact h.tk t' ht
  | freeze t =>
    simp only [St.upd] at hget ⊢
    refine ⟨?_, ?_, hget, fun t' ht => ?_, fun t' ht => ?_, fun ht => ?_⟩
    · have := h.hd; split <;> split <;> simpa [St.setBx] using this
    · have := h.base; split <;> split <;> simpa [St.setBx] using this
    · by_cases he : t = t'
      · subst he
        have := h.bx t ht
        rw [this]
        split <;> simp_all [St.setBx, look_put_eq]
      · have := h.bx t' ht
        split <;> split <;> simpa [St.setBx, look_put_ne he] using this
    · have := h.tk t' ht; split <;> split <;> simpa [St.setBx] using this
    · have := h.lg ht; split <;> split <;> simpa [St.setBx] using this
  | log l => exact ⟨h.hd, h.base, hget, h.bx, h.tk, fun _ => rfl⟩

theorem Ag.upds (u : List (Upd T)) : ∀ {s s' : St T}, Ag s s' L K → Ag (s.upds u) (s'.upds u) L K := by
  induction u with
  | nil => exact fun h => h
  | cons x r ih => exact fun h => ih (h.upd x)

/-- what is not written stays -/
theorem Ag.upd_off (s : St T) (x : Upd T) (hK : ∀ k, k ∈ K → k ∉ updFoot [x]) : Ag s (s.upd x) L K := by
  have hget : ∀ t, t ∈ L → (s.upd x).get t = s.get t := fun t _ => by simp only [St.get, St.upd_tm]
  cases x with
  | box t cs =>
    simp only [St.upd, St.setCs] at hget ⊢
    have hne : ∀ t', 2 * t' ∈ K → t ≠ t' := fun t' ht e => hK _ ht (by simp [updFoot, e])
    refine ⟨?_, ?_, hget, fun t' ht => ?_, fun t' ht => ?_, fun ht => ?_⟩
    all_goals (split <;> first | rfl | simp [St.setBx, look_put_ne (hne _ ht)])
  | fresh t cs =>
    have hne : ∀ t', 2 * t' ∈ K → t ≠ t' := fun t' ht e => hK _ ht (by simp [updFoot, e])
    exact ⟨rfl, rfl, hget, fun t' ht => by simp only [St.upd, St.setBx, look_put_ne (hne t' ht)], fun _ _ => rfl, fun _ => rfl⟩
  | strip t =>
    have hne : ∀ t', 2 * t' + 1 ∈ K → t ≠ t' := fun t' ht e => hK _ ht (by simp [updFoot, e])
    exact ⟨rfl, rfl, hget, fun _ _ => rfl, fun t' ht => by simp only [St.upd, look_put_ne (hne t' ht)], fun _ => rfl⟩
  | freeze t =>
    simp only [St.upd] at hget ⊢
    have hne : ∀ t', 2 * t' ∈ K → t ≠ t' := fun t' ht e => hK _ ht (by simp [updFoot, e])
    refine ⟨?_, ?_, hget, fun t' ht => ?_, fun t' ht => ?_, fun ht => ?_⟩
    all_goals (split <;> first | rfl | simp [St.setBx, look_put_ne (hne _ ht)])
  | log l => exact ⟨rfl, rfl, hget, fun _ _ => rfl, fun _ _ => rfl, fun ht => absurd (by simp [updFoot]) (hK _ ht)⟩

theorem updFoot_cons (x : Upd T) (r : List (Upd T)) : updFoot (x :: r) = updFoot [x] ++ updFoot r := by cases x <;> rfl

theorem Ag.upds_off : ∀ (u : List (Upd T)) (s : St T), (∀ k, k ∈ K → k ∉ updFoot u) → Ag s (s.upds u) L K
  | [], s, _ => Ag.refl s L K
  | x :: r, s, h => by
    have h' : ∀ k, k ∈ K → k ∉ updFoot [x] ∧ k ∉ updFoot r := fun k hk => by
      have := h k hk
      rw [updFoot_cons, List.mem_append, not_or] at this
      exact this
    exact (Ag.upd_off s x fun k hk => (h' k hk).1).trans (Ag.upds_off r _ fun k hk => (h' k hk).2)

theorem Ag.putD (h : Ag s s' L K) (d : Option Nat) (v : PV T) : Ag (s.putD d v) (s'.putD d v) L K := by
  cases d with
  | none => exact h
  | some d =>
    refine ⟨h.hd, h.base, fun t ht => ?_, h.bx, h.tk, h.lg⟩
    simp only [St.putD]
    by_cases e : d = t
    · subst e; rw [St.get_put_eq, St.get_put_eq]
    · rw [St.get_put_ne e, St.get_put_ne e]; exact h.tm t ht

theorem Ag.putD_off (s : St T) (d : Option Nat) (v : PV T) (h : ∀ t, t ∈ L → d ≠ some t) : Ag s (s.putD d v) L K := by
  cases d with
  | none => exact Ag.refl s L K
  | some d => exact ⟨rfl, rfl, fun t ht => St.get_put_ne fun e => h t ht (by rw [e]), fun _ _ => rfl, fun _ _ => rfl, fun _ => rfl⟩

/-! ### The same operation in another state -/

theorem map_ev (h : Ag s s' L K) {ty : Nat} {l : List Operand} (hl : ∀ t, t ∈ tmpsOf l → t ∈ L) : l.map (s'.ev D ty) = l.map (s.ev D ty) := by
  refine List.map_congr_left fun x hx => h.ev fun t e => hl t (mem_tmpsOf (e ▸ hx))

theorem buildCells_ag (h : Ag s s' L K) {place : Nat → Option (Nat × Nat)} : ∀ {parts : List (Nat × Operand)} {cs : List (PV T)}, (∀ t, t ∈ tmpsOf (parts.map (·.2)) → t ∈ L) → buildCells D s' place cs parts = buildCells D s place cs parts
  | [], _, _ => rfl
  | (i, x) :: r, cs, hl => by
    have hx : s'.ev D 0 x = s.ev D 0 x := h.ev fun t e => hl t (by subst e; simp [tmpsOf])
    have ih : ∀ {cs : List (PV T)}, buildCells D s' place cs r = buildCells D s place cs r := buildCells_ag h fun t ht => hl t (by
      cases x <;> simp [tmpsOf] <;> first | exact .inr ht | exact ht)
    simp only [buildCells, hx, ih]

theorem adoptL_ag (h : Ag s s' L K) {d : Nat} : ∀ {cs : List (PV T)}, (∀ k, k ∈ updFoot (adoptL s d cs).2 → k ∈ K) → adoptL s' d cs = adoptL s d cs
  | [], _ => rfl
  | c :: r, hk => by
    cases c with
    | new cs =>
      have : s'.bv d = s.bv d := h.bv (hk _ (by simp [adoptL, updFoot]))
      simp only [adoptL, this]
    | sl E l ow =>
      cases ow with
      | tok t k =>
        have : s'.tv d = s.tv d := h.tv (hk _ (by simp [adoptL, updFoot]))
        simp only [adoptL, this]
      | _ => have := adoptL_ag h (cs := r) hk; simp only [adoptL, this]
    | _ => have := adoptL_ag h (cs := r) hk; simp only [adoptL, this]

theorem adopt_ag (h : Ag s s' L K) {d : Nat} {v : PV T} (hk : ∀ k, k ∈ updFoot (adopt s d v).2 → k ∈ K) : adopt s' d v = adopt s d v := by
  cases v with
  | new cs =>
    have : s'.bv d = s.bv d := h.bv (hk _ (by simp [adopt, updFoot]))
    simp only [adopt, this]
  | sl E l ow =>
    cases ow with
    | tok t k =>
      have : s'.tv d = s.tv d := h.tv (hk _ (by simp [adopt, updFoot]))
      simp only [adopt, this]
    | _ => rfl
  | tup vs => have := adoptL_ag h (cs := vs) hk; simp only [adopt, this]
  | _ => rfl

theorem conv_ag (h : Ag s s' L K) {c : PV T} (hk : ∀ t k off, c = .loc t k off → 2 * t ∈ K) : s'.conv c = s.conv c := by
  cases c with
  | loc t k off => simp only [St.conv, h.rbox (hk t k off rfl)]
  | sl E l ow => cases ow <;> rfl
  | _ => rfl

theorem view_ag (h : Ag s s' L K) {args : List (PV T)} {c : PV T} (hc : c ∈ args) (hk : ∀ k, k ∈ viewReads args → k ∈ K) : s'.view c = s.view c := by
  cases c with
  | clo f caps =>
    simp only [St.view]
    congr 1
    refine List.map_congr_left fun x hx => conv_ag h fun t k off e => hk _ (mem_viewReads hc (mem_capReads (e ▸ hx)))
  | sl E l ow => cases ow <;> rfl
  | _ => rfl

theorem view_map_ag (h : Ag s s' L K) {args : List (PV T)} (hk : ∀ k, k ∈ viewReads args → k ∈ K) (F : PV T → PV T) : (args.map fun a => F (s'.view a)) = args.map fun a => F (s.view a) :=
  List.map_congr_left fun x hx => by rw [view_ag h hx hk]

theorem callK_ag (hS : SpecNat S) (h : Ag s s' L K) {d : Option Nat} {fn : Nat} {args : List (PV T)} (hr : ∀ k, k ∈ viewReads args → k ∈ K) (hw : ∀ k, k ∈ updFoot u → k ∈ K)
    (hev : callK S s d fn args (fun v u => some (v, u)) = some (v, u)) : callK S s' d fn args (fun v u => some (v, u)) = some (v, u) := by
  have hn : ∀ {ρ : Type} (f : Nat) (args obj : List (PV T)) (k : PV T → List (PV T) → Option ρ), S f args obj k = (S f args obj fun v o => some (v, o)).bind fun x => k x.1 x.2 := hS
  unfold callK at hev ⊢
  split at hev
  · rename_i hl
    rw [hS] at hev
    obtain ⟨⟨v0, o0⟩, h1, h2⟩ := Option.bind_eq_some_iff.1 hev
    rw [view_map_ag h hr cl]
    have : (fun t => s'.free t) = fun t => s.free t := funext fun t => h.free t
    simp only []
    have h1 : (S fn (List.map (fun a => cl (s.view a)) args) [] fun v o => some (v, o)) = some (v0, o0) := h1
    rw [hn, h1]
    cases d with
    | none => exact h2
    | some d =>
      simp only [Option.bind_some] at h2 ⊢
      split at h2
      · rename_i hf
        cases h2
        rw [adopt_ag h hw]
        simp only [h.free, hf]
      · simp at h2
  · rename_i t k hl
    split at hev
    · simp at hev
    · rename_i cs hcs
      split at hev
      · rename_i hc
        rw [hS] at hev
        obtain ⟨⟨v0, o0⟩, h1, h2⟩ := Option.bind_eq_some_iff.1 hev
        have ht : 2 * t ∈ K := by
          refine hw _ ?_
          cases d with
          | none => cases h2; simp [updFoot]
          | some d =>
            simp only at h2
            split at h2
            · cases h2; simp [updFoot]
            · cases h2; simp [updFoot]
            · simp at h2
        rw [view_map_ag h hr (outward t k), h.box ht, hcs]
        simp only [hc]
        have h1 : (S fn (List.map (fun a => outward t k (s.view a)) args) cs fun v o => some (v, o)) = some (v0, o0) := h1
        rw [hn, h1]
        cases d with
        | none => exact h2
        | some d =>
          simp only [Option.bind_some] at h2 ⊢
          have had : adopt s' d v0 = adopt s d v0 := by
            refine adopt_ag h fun k hk => hw k ?_
            split at h2
            · rename_i hu; rw [hu] at hk; simp [updFoot] at hk
            · rename_i d' hu; cases h2; rw [hu] at hk; simp [updFoot] at hk ⊢; exact .inr hk
            · simp at h2
          rw [had]; exact h2
      · simp at hev

theorem thawC_ag (h : Ag s s' L K) {c : PV T} (hk : ∀ k, k ∈ argReads.cellReads [c] → k ∈ K) : s'.thawC D c = s.thawC D c := by
  cases c with
  | loc t k off => simp only [St.thawC, h.ent (hk (2 * t) (by simp [argReads.cellReads]))]
  | bsl E t k n => simp only [St.thawC, h.ent (hk (2 * t) (by simp [argReads.cellReads]))]
  | _ => rfl

theorem cellReads_cons (c : PV T) (r : List (PV T)) : argReads.cellReads (c :: r) = argReads.cellReads [c] ++ argReads.cellReads r := by cases c <;> rfl

theorem thawCs_ag (h : Ag s s' L K) : ∀ {cs : List (PV T)}, (∀ k, k ∈ argReads.cellReads cs → k ∈ K) → cs.map (s'.thawC D) = cs.map (s.thawC D)
  | [], _ => rfl
  | c :: r, hk => by
    simp only [List.map_cons]
    rw [thawC_ag h fun k hk' => hk k (by rw [cellReads_cons]; simp [hk']), thawCs_ag h fun k hk' => hk k (by rw [cellReads_cons]; simp [hk'])]

theorem thaw_ag (h : Ag s s' L K) {c : PV T} (hk : ∀ k, k ∈ argReads [c] → k ∈ K) : s'.thaw D c = s.thaw D c := by
  cases c with
  | agg vs =>
    simp only [St.thaw]
    rw [thawCs_ag h fun k hk' => hk k (by simp [argReads, hk'])]
  | loc t k off => exact thawC_ag (D := D) (c := .loc t k off) h (by simpa [argReads, argReads.cellReads] using hk)
  | bsl E t k n => exact thawC_ag (D := D) (c := .bsl E t k n) h (by simpa [argReads, argReads.cellReads] using hk)
  | _ => rfl

theorem argReads_cons (c : PV T) (r : List (PV T)) : argReads (c :: r) = argReads [c] ++ argReads r := by cases c <;> simp [argReads]

theorem thaws_ag (h : Ag s s' L K) : ∀ {cs : List (PV T)}, (∀ k, k ∈ argReads cs → k ∈ K) → cs.map (s'.thaw D) = cs.map (s.thaw D)
  | [], _ => rfl
  | c :: r, hk => by
    simp only [List.map_cons]
    rw [thaw_ag h fun k hk' => hk k (by rw [argReads_cons]; simp [hk']), thaws_ag h fun k hk' => hk k (by rw [argReads_cons]; simp [hk'])]

theorem viewReads_cons (c : PV T) (r : List (PV T)) : viewReads (c :: r) = viewReads [c] ++ viewReads r := by cases c <;> simp [viewReads]

/-- thawing makes no closures -/
theorem viewReads_thaw (s : St T) : ∀ {cs : List (PV T)} {k : Nat}, k ∈ viewReads (cs.map (s.thaw D)) → k ∈ viewReads cs
  | [], _, h => h
  | c :: r, k, h => by
    rw [List.map_cons, viewReads_cons, List.mem_append] at h
    rw [viewReads_cons, List.mem_append]
    rcases h with h | h
    · refine .inl ?_
      cases c with
      | agg vs => exact h
      | loc t k off =>
        simp only [St.thaw, St.thawC] at h
        repeat' (first | exact h | split at h)
      | bsl E t k n =>
        simp only [St.thaw, St.thawC, slOf] at h
        repeat' (first | exact h | split at h)
      | _ => exact h
    · exact .inr (viewReads_thaw s h)

theorem callF_ag (hS : SpecNat S) (h : Ag s s' L K) {d : Option Nat} {fn : Nat} {args : List (PV T)} (hr : ∀ k, k ∈ f → k ∈ K) (hw : ∀ k, k ∈ updFoot u → k ∈ K)
    (hev : callF D S s d fn args k3 = some (v, u, f)) : callF D S s' d fn args k3 = some (v, u, f) := by
  have hf : f = argReads args ++ viewReads args := by
    unfold callF at hev
    split at hev
    · obtain ⟨v1, u1, h1, h2⟩ := callK_some (hS := hS) hev
      cases h2; rfl
    · split at hev
      · simp at hev
      · split at hev
        · obtain ⟨v1, u1, h1, h2⟩ := callK_some (hS := hS) hev
          cases h2; rfl
        · simp at hev
  subst hf
  have ha : ∀ k, k ∈ argReads args → k ∈ K := fun k hk => hr k (by simp [hk])
  have hv : ∀ k, k ∈ viewReads args → k ∈ K := fun k hk => hr k (by simp [hk])
  have hth := thaws_ag (D := D) h ha
  have hkk : ∀ {s : St T} {args : List (PV T)} {v1 : PV T} {u1 : List (Upd T)} {k : PV T → List (Upd T) → Option (PV T × List (Upd T) × List Nat)}, callK S s d fn args (fun v u => some (v, u)) = some (v1, u1) → callK S s d fn args k = k v1 u1 := fun {s args v1 u1 k} he => by
    have : callK S s d fn args k = (callK S s d fn args fun v u => some (v, u)).bind fun x => k x.1 x.2 := by
      rw [callK_bind hS]; rfl
    rw [this, he]; rfl
  unfold callF at hev ⊢
  rw [hth]
  split at hev
  · rename_i hb
    simp only [hb]
    obtain ⟨v1, u1, h1, h2⟩ := callK_some (hS := hS) hev
    cases h2
    rw [hkk (callK_ag hS h (fun k hk => hv k (viewReads_thaw s hk)) hw h1)]
  · rename_i t k hb
    simp only [hb]
    split at hev
    · simp at hev
    · rename_i cs hcs
      split at hev
      · rename_i hn
        obtain ⟨v1, u1, h1, h2⟩ := callK_some (hS := hS) hev
        cases h2
        have ht : 2 * t ∈ K := hw _ (by simp [updFoot])
        have hag := h.upd (.freeze t)
        have hth2 := thaws_ag (D := D) hag ha
        rw [h.box ht, hcs]
        simp only [hn, hth2]
        rw [hkk (callK_ag hS hag (fun k hk => hv k (viewReads_thaw _ hk)) (fun k hk => hw k (by simp [updFoot, hk])) h1)]
      · simp at hev

end
end Go.Px

namespace Go.Px
variable {T : Nat → Type} {ρ : Type}

section
variable {S : Specs T} {s s' : St T} {o : Oper} {v : PV T} {u : List (Upd T)} {f L K : List Nat} {D : Tab T}

theorem mem_tmps_of {o : Oper} {L : List Nat} (hL : ∀ t, t ∈ tmpsOf o.op.operands.toList → t ∈ L) {x : Operand} (hx : x ∈ o.op.operands) : ∀ t, x = .tmp t → t ∈ L := fun t e => hL t (mem_tmpsOf (by rw [← e]; simpa using hx))

set_option maxHeartbeats 1000000 in
theorem evOp_ag (hS : SpecNat S) (h : Ag s s' L K) (hL : ∀ t, t ∈ tmpsOf o.op.operands.toList → t ∈ L) (hr : ∀ k, k ∈ f → k ∈ K) (hw : ∀ k, k ∈ updFoot u → k ∈ K)
    (hev : evOp D S s o k3 = some (v, u, f)) : evOp D S s' o k3 = some (v, u, f) := by
  have he : ∀ {x : Operand} {ty : Nat}, x ∈ o.op.operands → s'.ev D ty x = s.ev D ty x := fun hx => h.ev (mem_tmps_of hL hx)
  cases ho : o.op with
  | move x => have h1 := fun ty => he (x := x) (ty := ty) (by simp [ho, Op.operands]); simpa only [evOp, ho, h1] using hev
  | assign x => have h1 := fun ty => he (x := x) (ty := ty) (by simp [ho, Op.operands]); simpa only [evOp, ho, h1] using hev
  | pick c x y =>
    have h1 := fun ty => he (x := c) (ty := ty) (by simp [ho, Op.operands])
    have h2 := fun ty => he (x := x) (ty := ty) (by simp [ho, Op.operands])
    have h3 := fun ty => he (x := y) (ty := ty) (by simp [ho, Op.operands])
    simpa only [evOp, ho, h1, h2, h3] using hev
  | alloc E =>
    simp only [evOp, ho, h.free] at hev ⊢
    split at hev
    · rename_i d i e1 e2
      try simp only [e1, e2]
      split at hev
      · rename_i e3
        cases hev
        try simp only [e3, h.bv (t := d) (hw (2 * d) (by simp [updFoot]))]
      · simp at hev
    · simp at hev
  | box E x =>
    have h1 := fun ty => he (x := x) (ty := ty) (by simp [ho, Op.operands])
    simp only [evOp, ho, h.free, h1] at hev ⊢
    split at hev
    · rename_i d i e1 e2
      try simp only [e1, e2]
      split at hev
      · rename_i e3
        cases hev
        try simp only [e3, h.bv (t := d) (hw (2 * d) (by simp [updFoot]))]
      · simp at hev
    · simp at hev
  | build t parts =>
    have hp : ∀ place cs, buildCells D s' place cs parts.toList = buildCells D s place cs parts.toList := fun place cs => buildCells_ag h fun t ht => hL t (by simpa [ho, Op.operands] using ht)
    simpa only [evOp, ho, hp] using hev
  | buildSlice t n parts =>
    have hp : ∀ place cs, buildCells D s' place cs parts.toList = buildCells D s place cs parts.toList := fun place cs => buildCells_ag h fun t ht => hL t (by simpa [ho, Op.operands] using ht)
    simp only [evOp, ho, hp, h.free] at hev ⊢
    split at hev
    · split at hev
      · split at hev
        · split at hev
          · split at hev
            · split at hev
              · simp at hev
              · rename_i d _
                split at hev
                · rename_i e7
                  cases hev
                  simp only [*, h.bv (t := d) (hw (2 * d) (by simp [updFoot]))]
                · simp only [*]
            · simp at hev
          · simp at hev
        · simp at hev
      · simp at hev
    · simp at hev
  | load t x =>
    have h1 := fun ty => he (x := x) (ty := ty) (by simp [ho, Op.operands])
    simp only [evOp, ho, h1] at hev ⊢
    split at hev
    · rename_i i e1
      try simp only [e1]
      split at hev
      · rename_i q k off e2
        try simp only [e2]
        split at hev
        · rename_i cs e3
          split at hev
          · rename_i e4
            cases hev
            simp only [h.rbox (t := q) (hr (2 * q) (by simp)), e3, e4]
          · simp at hev
        · simp at hev
      · rename_i cs e2
        (try simp only [e2]); exact hev
      · simp at hev
    · simp at hev
  | store t x y =>
    have h1 := fun ty => he (x := x) (ty := ty) (by simp [ho, Op.operands])
    have h2 := fun ty => he (x := y) (ty := ty) (by simp [ho, Op.operands])
    simp only [evOp, ho, h1, h2] at hev ⊢
    split at hev
    · rename_i i e1
      try simp only [e1]
      split at hev
      · rename_i q k off e2
        try simp only [e2]
        split at hev
        · rename_i cs e3
          split at hev
          · rename_i e4
            cases hev
            simp only [h.box (t := q) (hw (2 * q) (by simp [updFoot])), e3, e4]
          · simp at hev
        · simp at hev
      · simp at hev
    · simp at hev
  | nilCheck x => have h1 := fun ty => he (x := x) (ty := ty) (by simp [ho, Op.operands]); simpa only [evOp, ho, h1] using hev
  | binOp op xt x y yt =>
    have h1 := fun ty => he (x := x) (ty := ty) (by simp [ho, Op.operands])
    have h2 := fun ty => he (x := y) (ty := ty) (by simp [ho, Op.operands])
    simpa only [evOp, ho, h1, h2] using hev
  | unOp op xt x => have h1 := fun ty => he (x := x) (ty := ty) (by simp [ho, Op.operands]); simpa only [evOp, ho, h1] using hev
  | convert src dst x => have h1 := fun ty => he (x := x) (ty := ty) (by simp [ho, Op.operands]); simpa only [evOp, ho, h1] using hev
  | makeFunc fn first cap =>
    have hm : ∀ ty, cap.toList.map (s'.ev D ty) = cap.toList.map (s.ev D ty) := fun ty => List.map_congr_left fun x hx => he (by simp [ho, Op.operands]; exact .inr (by simpa using hx))
    simpa only [evOp, ho, hm] using hev
  | fieldAddr t x fl => have h1 := fun ty => he (x := x) (ty := ty) (by simp [ho, Op.operands]); simpa only [evOp, ho, h1] using hev
  | indexAddr t x y =>
    have h1 := fun ty => he (x := x) (ty := ty) (by simp [ho, Op.operands])
    have h2 := fun ty => he (x := y) (ty := ty) (by simp [ho, Op.operands])
    simpa only [evOp, ho, h1, h2] using hev
  | index t x y =>
    have h1 := fun ty => he (x := x) (ty := ty) (by simp [ho, Op.operands])
    have h2 := fun ty => he (x := y) (ty := ty) (by simp [ho, Op.operands])
    simpa only [evOp, ho, h1, h2] using hev
  | slice t x lo hi mx =>
    have h1 := fun ty => he (x := x) (ty := ty) (by simp [ho, Op.operands])
    have hlo' : ∀ y, lo = some y → s'.ev D 0 y = s.ev D 0 y := fun y e => he (by simp [ho, Op.operands, e])
    have hhi' : ∀ y, hi = some y → s'.ev D 0 y = s.ev D 0 y := fun y e => he (by simp [ho, Op.operands, e])
    have hmx : ∀ y, mx = some y → s'.ev D 0 y = s.ev D 0 y := fun y e => he (by simp [ho, Op.operands, e])
    cases lo <;> cases hi <;> cases mx <;> simp only [evOp, ho, h1, hlo', hhi', hmx] at hev ⊢
    all_goals
      split at hev
      · repeat' (first | exact hev | (simp at hev; done) | (rw [hmx _ (by assumption)]) | split at hev)
      · rename_i ti q k e1 e2
        have fin : ∀ {n E z : Nat} {cs : List (PV T)} {A : Nat} {l : Option (List (T E))}, (l.bind fun l => k3 (PV.sl E l Own.no) [Upd.freeze q] []) = some (v, u, f) → s'.box q k = s.box q k := fun {n E z cs A l} hh => by
          obtain ⟨l, e8, e9⟩ := Option.bind_eq_some_iff.1 hh
          cases e9
          exact h.box (hw (2 * q) (by simp [updFoot]))
        have hb : s'.box q k = s.box q k := by
          repeat' (first | (simp at hev; done) | exact fin (n := 0) (z := 0) (cs := []) (A := 0) hev | split at hev)
        rw [hb]
        exact hev
      · simp at hev
  | makeInterface t x => have h1 := fun ty => he (x := x) (ty := ty) (by simp [ho, Op.operands]); simpa only [evOp, ho, h1] using hev
  | typeAssert x xt t ok => have h1 := fun ty => he (x := x) (ty := ty) (by simp [ho, Op.operands]); simpa only [evOp, ho, h1] using hev
  | extract x i => have h1 := fun ty => he (x := x) (ty := ty) (by simp [ho, Op.operands]); simpa only [evOp, ho, h1] using hev
  | call c =>
    obtain ⟨callee, args, ats⟩ := c
    have hm : ∀ ty, args.toList.map (s'.ev D ty) = args.toList.map (s.ev D ty) := fun ty => List.map_congr_left fun x hx => he (by simp [ho, Op.operands, Call.operands]; cases callee <;> simp [show x ∈ args by simpa using hx])
    cases callee with
    | builtin b =>
      simp only [evOp, ho, hm] at hev ⊢
      split at hev
      all_goals (rename_i hargs; try simp only [hargs])
      any_goals exact hev
      all_goals skip
      split at hev
      · rename_i ti tj e1
        try simp only [e1]
        split at hev
        · rename_i e2 e3 e4
          try simp only [e2, e3, e4]
          split at hev
          · rename_i e5
            try simp only [e5]
            split at hev
            · simp at hev
            · split at hev
              · rename_i e6
                rw [cond_eq_ite] at hev
                split at hev
                · rename_i e7
                  cases hev
                  have a1 := hw _ (List.Mem.head _)
                  have a2 := hw _ (List.Mem.tail _ (List.Mem.head _))
                  have hA : ∀ t, Ag (s.upd (.strip t)) (s'.upd (.strip t)) L K := fun t => h.upd _
                  simp only [h.tv a1, e6, (hA _).tv a2, e7, cond_true]
                · simp at hev
              · simp at hev
            · rw [cond_eq_ite] at hev
              split at hev
              · rename_i e7
                cases hev
                have a1 := hw _ (List.Mem.head _)
                simp only [h.tv a1, e7, cond_true]
              · simp at hev
          · simp at hev
        · simp at hev
      · simp at hev
    | value x =>
      have h1 := fun ty => he (x := x) (ty := ty) (by simp [ho, Op.operands, Call.operands])
      simp only [evOp, ho, hm, h1] at hev ⊢
      split at hev
      · rename_i e1
        try simp only [e1]
        exact callF_ag hS h hr hw hev
      · rename_i e1
        try simp only [e1]
        split at hev
        · rename_i A m xs e2
          have hlg : s'.lg = s.lg := by
            refine h.lg (hw _ ?_)
            obtain ⟨y, e3, e4⟩ := Option.bind_eq_some_iff.1 hev
            rw [cond_eq_ite] at e4
            split at e4 <;> cases e4 <;> simp [updFoot]
          rw [hlg, e2]; exact hev
        · simp at hev
      · rename_i e1
        (try simp only [e1]); exact hev
      · simp at hev
    | invoke x name =>
      have h1 := fun ty => he (x := x) (ty := ty) (by simp [ho, Op.operands, Call.operands])
      simp only [evOp, ho, hm, h1] at hev ⊢
      split at hev
      · rename_i e1
        try simp only [e1]
        split at hev
        · rename_i e2
          try simp only [e2]
          exact callF_ag hS h hr hw hev
        · simp at hev
      · simp at hev
  | _ => simp [evOp, ho] at hev

end
end Go.Px

namespace Go.Px
variable {T : Nat → Type} {ρ : Type}

/-! ## Regions that draw their order -/

/-- what came of an operation -/
structure Rc (T : Nat → Type) where
  v : PV T
  u : List (Upd T)
  f : List Nat

def app (s : St T) (o : Oper) (r : Rc T) : St T := (s.upds r.u).putD o.dst r.v

/-- states that are told apart by nothing -/
def Eqv (s s' : St T) : Prop := ∀ L K, Ag s s' L K

def Want (ops : Array Oper) (s : St T) (o : Oper) : Prop := o.guard = none ∨ ∃ j want gd d, o.guard = some (j, want) ∧ ops[j]? = some gd ∧ gd.dst = some d ∧ s.get d = .bool want
def Unw (ops : Array Oper) (s : St T) (o : Oper) : Prop := ∃ j want gd d, o.guard = some (j, want) ∧ ops[j]? = some gd ∧ gd.dst = some d ∧ (s.get d = .bool (!want) ∨ s.get d = .skip)

def Does (D : Tab T) (S : Specs T) (ops : Array Oper) (s : St T) (o : Oper) (r : Rc T) : Prop :=
  (Want ops s o ∧ evOp D S s o k3 = some (r.v, r.u, r.f)) ∨ (Unw ops s o ∧ r = ⟨.skip, [], []⟩)

/-- those that are listed, in the order of the text -/
def sel (F : Nat → Bool) : St T → List (Oper × Rc T) → Nat → St T
  | s, [], _ => s
  | s, x :: r, i => sel F (match F i with | true => app s x.1 x.2 | false => s) r (i + 1)

section
variable {C : Ctx T} {S : Specs T} {s s' : St T} {g : Gh} {M : Nat → Prop} {okc : Nat → Nat → Prop} {ds : List Nat} {a : Act} {w : World} {o : Oper} {v : PV T} {u : List (Upd T)} {f L K : List Nat} {Q : Exit → Act → World → Prop}
variable {P : Program} {D : Tab T} {ops : Array Oper}

theorem Eqv.refl (s : St T) : Eqv s s := fun L K => Ag.refl s L K
theorem Eqv.trans {s1 s2 s3 : St T} (h : Eqv s1 s2) (k : Eqv s2 s3) : Eqv s1 s3 := fun L K => (h L K).trans (k L K)
theorem Eqv.symm {s1 s2 : St T} (h : Eqv s1 s2) : Eqv s2 s1 := fun L K => (h L K).symm
theorem Eqv.app (h : Eqv s s') (o : Oper) (r : Rc T) : Eqv (app s o r) (app s' o r) := fun L K => ((h L K).upds r.u).putD o.dst r.v
theorem Eqv.put {d : Nat} (hv : s.get d = v) : Eqv s (s.put d v) := fun L K => ⟨rfl, rfl, fun t _ => by
  by_cases e : d = t
  · subst e; rw [St.get_put_eq, hv]
  · exact St.get_put_ne e, fun _ _ => rfl, fun _ _ => rfl, fun _ => rfl⟩

theorem Ag.app (h : Ag s s' L K) (o : Oper) (r : Rc T) : Ag (Px.app s o r) (Px.app s' o r) L K := (h.upds r.u).putD o.dst r.v
theorem Ag.app_off (s : St T) (o : Oper) (r : Rc T) (h1 : ∀ k, k ∈ K → k ∉ updFoot r.u) (h2 : ∀ t, t ∈ L → o.dst ≠ some t) : Ag s (Px.app s o r) L K :=
  (Ag.upds_off r.u s h1).trans (Ag.putD_off _ o.dst r.v h2)

theorem Eqv.sr (h : Eqv s s') (k : SR C s g M okc ds a w) : SR C s' g M okc ds a w := by
  have hent : ∀ t, s'.ent t = s.ent t := fun t => (h [] [2 * t]).ent (by simp)
  have hbv : ∀ t, s'.bv t = s.bv t := fun t => (h [] [2 * t]).bv (by simp)
  have htv : ∀ t, s'.tv t = s.tv t := fun t => (h [] [2 * t + 1]).tv (by simp)
  have hlg : s'.lg = s.lg := (h [] [2 * LOG]).lg (by simp)
  refine ⟨k.size, k.defs, fun t ht => ?_, ?_⟩
  · rw [(h [t] []).tm t (by simp)]; exact k.tm t ht
  · have W := k.wr
    exact ⟨fun t e he => W.bx t e (hent t ▸ he), fun t ht => W.nb t (hent t ▸ ht), fun t => (W.bv t).trans (hbv t).symm, fun t => (W.tv t).trans (htv t).symm, W.inj, W.blM, W.tks, W.tkinj, W.tkbl, W.okin, W.Mlt, W.okcg, W.okM, W.dsM, W.dsnd, W.rr, by rw [hlg]; exact W.hJ, W.rh, W.yl, W.ry⟩

/-- an operation does the same where all that it looks at is the same -/
theorem Does.ag (hS : SpecNat S) {r : Rc T} (h : Ag s s' L K) (hL : ∀ t, t ∈ lookT ops o → t ∈ L) (hr : ∀ k, k ∈ r.f → k ∈ K) (hw : ∀ k, k ∈ updFoot r.u → k ∈ K) (hd : Does D S ops s o r) : Does D S ops s' o r := by
  have hg : ∀ {j : Nat} {want : Bool} {gd : Oper} {d : Nat}, o.guard = some (j, want) → ops[j]? = some gd → gd.dst = some d → s'.get d = s.get d := fun h1 h2 h3 => by
    refine h.tm _ (hL _ ?_)
    unfold lookT
    rw [h1]
    simp only [h2, h3]
    simp
  rcases hd with ⟨h1, h2⟩ | ⟨⟨j, want, gd, d, h1, h2, h3, h4⟩, h5⟩
  · refine .inl ⟨?_, evOp_ag hS h (fun t ht => hL t (by unfold lookT; simp [ht])) hr hw h2⟩
    rcases h1 with h1 | ⟨j, want, gd, d, h1, h3, h4, h5⟩
    · exact .inl h1
    · exact .inr ⟨j, want, gd, d, h1, h3, h4, (hg h1 h3 h4).trans h5⟩
  · exact .inr ⟨⟨j, want, gd, d, h1, h2, h3, by rw [hg h1 h2 h3]; exact h4⟩, h5⟩

theorem Does.eqv (hS : SpecNat S) {r : Rc T} (h : Eqv s s') (hd : Does D S ops s o r) : Does D S ops s' o r :=
  hd.ag hS (h (lookT ops o) (r.f ++ updFoot r.u)) (fun _ => id) (fun k hk => by simp [hk]) (fun k hk => by simp [hk])

/-- one after the other -/
def Chain (D : Tab T) (S : Specs T) (ops : Array Oper) : St T → List (Oper × Rc T) → Prop
  | _, [] => True
  | s, x :: r => Does D S ops s x.1 x.2 ∧ Chain D S ops (app s x.1 x.2) r

def stt : St T → List (Oper × Rc T) → St T
  | s, [] => s
  | s, x :: r => stt (app s x.1 x.2) r

theorem Chain.eqv (hS : SpecNat S) : ∀ {l : List (Oper × Rc T)} {s s' : St T}, Eqv s s' → Chain D S ops s l → Chain D S ops s' l
  | [], _, _, _, _ => trivial
  | x :: r, _, _, h, hc => ⟨hc.1.eqv hS h, Chain.eqv hS (h.app x.1 x.2) hc.2⟩

theorem Eqv.stt : ∀ (l : List (Oper × Rc T)) {s s' : St T}, Eqv s s' → Eqv (stt s l) (stt s' l)
  | [], _, _, h => h
  | x :: r, _, _, h => Eqv.stt r (h.app x.1 x.2)

def markOf (ops : Array Oper) (i : Nat) (x : Oper × Rc T) : Mark := ⟨i, x.2.f, updFoot x.2.u, lookT ops x.1, dstL x.1⟩

def marksFrom (ops : Array Oper) : Nat → List (Oper × Rc T) → List Mark
  | _, [] => []
  | i, x :: r => markOf ops i x :: marksFrom ops (i + 1) r

theorem evOpsD_run (hS : SpecNat S) {k : St T → Option ρ} {r : ρ} : ∀ (l : List Oper) (i : Nat) (acc : List Mark) (s : St T), evOpsD D S ops l i acc s k = some r →
    ∃ items s', items.map (·.1) = l ∧ Chain D S ops s items ∧ Eqv (stt s items) s' ∧ k s' = some r ∧ marksOk (Region.before ops) ((marksFrom ops i items).reverse ++ acc) = true ∧ edgesOk 0 ops.toList = true
  | [], i, acc, s, h => by
    simp only [evOpsD] at h
    split at h
    · rename_i hm
      simp only [Bool.and_eq_true] at hm
      exact ⟨[], s, rfl, trivial, Eqv.refl s, h, hm.1, hm.2⟩
    · simp at h
  | o :: l, i, acc, s, h => by
    have go : ∀ s1 : St T, Eqv s s1 → Want ops s o → (evOp D S s1 o fun v u f => evOpsD D S ops l (i + 1) (⟨i, f, updFoot u, lookT ops o, dstL o⟩ :: acc) ((s1.upds u).putD o.dst v) k) = some r →
        ∃ items s', items.map (·.1) = o :: l ∧ Chain D S ops s items ∧ Eqv (stt s items) s' ∧ k s' = some r ∧ marksOk (Region.before ops) ((marksFrom ops i items).reverse ++ acc) = true ∧ edgesOk 0 ops.toList = true := fun s1 he hw h => by
      obtain ⟨v, u, f, h1, h2⟩ := evOp_some hS h
      obtain ⟨items, s', a1, a2, a3, a4, a5, a6⟩ := evOpsD_run hS l (i + 1) _ _ h2
      have hap : Eqv (app s1 o ⟨v, u, f⟩) (app s o ⟨v, u, f⟩) := (he.app o ⟨v, u, f⟩).symm
      refine ⟨(o, ⟨v, u, f⟩) :: items, s', by simp [a1], ⟨?_, Chain.eqv hS hap a2⟩, (Eqv.stt items hap.symm).trans a3, a4, by simpa [marksFrom, markOf] using a5, a6⟩
      refine .inl ⟨hw, evOp_ag hS (he.symm (tmpsOf o.op.operands.toList) (f ++ updFoot u)) (fun _ => id) (fun k hk => by simp [hk]) (fun k hk => by simp [hk]) h1⟩
    have off : ∀ s1 : St T, Eqv s s1 → Unw ops s o → evOpsD D S ops l (i + 1) (⟨i, [], [], lookT ops o, dstL o⟩ :: acc) (s1.putD o.dst .skip) k = some r →
        ∃ items s', items.map (·.1) = o :: l ∧ Chain D S ops s items ∧ Eqv (stt s items) s' ∧ k s' = some r ∧ marksOk (Region.before ops) ((marksFrom ops i items).reverse ++ acc) = true ∧ edgesOk 0 ops.toList = true := fun s1 he hw h => by
      obtain ⟨items, s', a1, a2, a3, a4, a5, a6⟩ := evOpsD_run hS l (i + 1) _ _ h
      have hap : Eqv (app s1 o ⟨.skip, [], []⟩) (app s o ⟨.skip, [], []⟩) := (he.app o ⟨.skip, [], []⟩).symm
      exact ⟨(o, ⟨.skip, [], []⟩) :: items, s', by simp [a1], ⟨.inr ⟨hw, rfl⟩, Chain.eqv hS hap a2⟩, (Eqv.stt items hap.symm).trans a3, a4, by simpa [marksFrom, markOf, updFoot] using a5, a6⟩
    simp only [evOpsD] at h
    split at h
    · rename_i hg
      exact go s (Eqv.refl s) (.inl hg) h
    · rename_i j want hg
      split at h
      · simp at h
      · rename_i gd hj
        split at h
        · simp at h
        · rename_i d hd
          split at h
          · rename_i b hb
            split at h
            · cases b with
              | true => exact go _ (Eqv.put hb) (.inr ⟨j, true, gd, d, hg, hj, hd, hb⟩) h
              | false => exact off _ (Eqv.put hb) ⟨j, true, gd, d, hg, hj, hd, .inl hb⟩ h
            · cases b with
              | true => exact off _ (Eqv.put hb) ⟨j, false, gd, d, hg, hj, hd, .inl hb⟩ h
              | false => exact go _ (Eqv.put hb) (.inr ⟨j, false, gd, d, hg, hj, hd, hb⟩) h
          · rename_i hb
            exact off _ (Eqv.refl s) ⟨j, want, gd, d, hg, hj, hd, .inr hb⟩ h
          · simp at h

/-! ### Sets of operations -/

theorem sel_ag {F F' : Nat → Bool} : ∀ (l : List (Oper × Rc T)) (i : Nat) {s s' : St T}, Ag s s' L K →
    (∀ n x, l[n]? = some x → F (i + n) ≠ F' (i + n) → (∀ k, k ∈ K → k ∉ updFoot x.2.u) ∧ ∀ t, t ∈ L → x.1.dst ≠ some t) → Ag (sel F s l i) (sel F' s' l i) L K
  | [], _, _, _, h, _ => h
  | x :: r, i, s, s', h, hd => by
    simp only [sel]
    refine sel_ag r (i + 1) ?_ fun n y hy hne => hd (n + 1) y (by simpa using hy) (by rw [show i + (n + 1) = i + 1 + n by omega]; exact hne)
    have h0 := hd 0 x rfl
    simp only [Nat.add_zero] at h0
    cases hF : F i <;> cases hF' : F' i <;> simp only
    · exact h
    · obtain ⟨a1, a2⟩ := h0 (by simp [hF, hF'])
      exact h.trans (Ag.app_off s' x.1 x.2 a1 a2)
    · obtain ⟨a1, a2⟩ := h0 (by simp [hF, hF'])
      exact (Ag.app_off s x.1 x.2 a1 a2).symm.trans h
    · exact h.app x.1 x.2

theorem sel_congr {F F' : Nat → Bool} : ∀ (l : List (Oper × Rc T)) (i : Nat) (s : St T), (∀ n, n < l.length → F (i + n) = F' (i + n)) → sel F s l i = sel F' s l i
  | [], _, _, _ => rfl
  | x :: r, i, s, h => by
    simp only [sel]
    rw [show F i = F' i from h 0 (by simp)]
    exact sel_congr r (i + 1) _ fun n hn => by rw [show i + 1 + n = i + (n + 1) by omega]; exact h (n + 1) (by simpa using hn)

theorem sel_none (F : Nat → Bool) : ∀ (l : List (Oper × Rc T)) (i : Nat) (s : St T), (∀ n, n < l.length → F (i + n) = false) → sel F s l i = s
  | [], _, _, _ => rfl
  | x :: r, i, s, h => by
    simp only [sel]
    rw [show F i = false from h 0 (by simp)]
    exact sel_none F r (i + 1) s fun n hn => by rw [show i + 1 + n = i + (n + 1) by omega]; exact h (n + 1) (by simpa using hn)

theorem sel_all (F : Nat → Bool) : ∀ (l : List (Oper × Rc T)) (i : Nat) (s : St T), (∀ n, n < l.length → F (i + n) = true) → sel F s l i = stt s l
  | [], _, _, _ => rfl
  | x :: r, i, s, h => by
    simp only [sel, stt]
    rw [show F i = true from h 0 (by simp)]
    exact sel_all F r (i + 1) _ fun n hn => by rw [show i + 1 + n = i + (n + 1) by omega]; exact h (n + 1) (by simpa using hn)

theorem Chain.does : ∀ {l : List (Oper × Rc T)} {s : St T} {n : Nat} {x : Oper × Rc T} (i : Nat), Chain D S ops s l → l[n]? = some x → Does D S ops (sel (fun j => decide (j < i + n)) s l i) x.1 x.2
  | [], _, _, _, _, _, h => by simp at h
  | y :: r, s, n, x, i, hc, hn => by
    cases n with
    | zero =>
      simp at hn; subst hn
      rw [sel_none]
      · exact hc.1
      · intro n _; simp
    | succ n =>
      have := Chain.does (i + 1) hc.2 (n := n) (x := x) (by simpa using hn)
      simp only [sel]
      have hd : decide (i < i + (n + 1)) = true := by simp
      rw [hd]
      have he : i + (n + 1) = i + 1 + n := by omega
      rw [he]; exact this

theorem sel_hd (F : Nat → Bool) : ∀ (l : List (Oper × Rc T)) (i : Nat) (s : St T), (sel F s l i).hd = s.hd
  | [], _, _ => rfl
  | x :: r, i, s => by
    simp only [sel]
    rw [sel_hd F r]
    split
    · unfold app; rw [putD_hd, upds_hd]
    · rfl

/-- what two that are apart leave does not hang on their order -/
theorem app_comm {o1 o2 : Oper} {r1 r2 : Rc T} (hu : ∀ k, k ∈ updFoot r1.u → k ∉ updFoot r2.u) (hd : ∀ t, o1.dst = some t → o2.dst ≠ some t) (s : St T) : Eqv (app (app s o1 r1) o2 r2) (app (app s o2 r2) o1 r1) := by
  have key : ∀ {L K : List Nat}, (∀ k, k ∈ K → k ∉ updFoot r2.u) → (∀ t, t ∈ L → o2.dst ≠ some t) → Ag (app (app s o1 r1) o2 r2) (app (app s o2 r2) o1 r1) L K := fun h1 h2 =>
    (Ag.app_off (app s o1 r1) o2 r2 h1 h2).symm.trans ((Ag.app_off s o2 r2 h1 h2).app o1 r1)
  have key' : ∀ {L K : List Nat}, (∀ k, k ∈ K → k ∉ updFoot r1.u) → (∀ t, t ∈ L → o1.dst ≠ some t) → Ag (app (app s o1 r1) o2 r2) (app (app s o2 r2) o1 r1) L K := fun h1 h2 =>
    ((Ag.app_off s o1 r1 h1 h2).symm.app o2 r2).trans (Ag.app_off (app s o2 r2) o1 r1 h1 h2)
  have hK : ∀ k, (k ∉ updFoot r2.u) ∨ (k ∉ updFoot r1.u) := fun k => by
    by_cases h : k ∈ updFoot r1.u
    · exact .inl (hu k h)
    · exact .inr h
  have one : ∀ k, Ag (app (app s o1 r1) o2 r2) (app (app s o2 r2) o1 r1) [] [k] := fun k => by
    rcases hK k with h | h
    · exact key (fun k' hk' => by simp at hk'; subst hk'; exact h) (fun t ht => by simp at ht)
    · exact key' (fun k' hk' => by simp at hk'; subst hk'; exact h) (fun t ht => by simp at ht)
  intro L K
  refine ⟨(one 0).hd, (one 0).base, fun t _ => ?_, fun t _ => (one (2 * t)).bx t (by simp), fun t _ => (one (2 * t + 1)).tk t (by simp), fun _ => (one (2 * LOG)).lg (by simp)⟩
  by_cases h : o1.dst = some t
  · exact (key (L := [t]) (K := []) (fun k hk => by simp at hk) (fun t' ht => by simp at ht; subst ht; exact hd t' h)).tm t (by simp)
  · exact (key' (L := [t]) (K := []) (fun k hk => by simp at hk) (fun t' ht => by simp at ht; subst ht; exact h)).tm t (by simp)

/-- one more, behind those that are apart from it -/
theorem sel_push {F : Nat → Bool} {y : Oper × Rc T} : ∀ (l : List (Oper × Rc T)) (i : Nat) (s : St T),
    (∀ n x, l[n]? = some x → F (i + n) = true → (∀ k, k ∈ updFoot y.2.u → k ∉ updFoot x.2.u) ∧ ∀ t, y.1.dst = some t → x.1.dst ≠ some t) → Eqv (app (sel F s l i) y.1 y.2) (sel F (app s y.1 y.2) l i)
  | [], _, _, _ => Eqv.refl _
  | x :: r, i, s, h => by
    simp only [sel]
    have ih := fun s => sel_push (F := F) (y := y) r (i + 1) s fun n z hz hF => h (n + 1) z (by simpa using hz) (by rw [show i + (n + 1) = i + 1 + n by omega]; exact hF)
    cases hF : F i with
    | false => exact ih s
    | true =>
      obtain ⟨a1, a2⟩ := h 0 x rfl (by simpa using hF)
      refine (ih (app s x.1 x.2)).trans fun L K => ?_
      have := (app_comm a1 a2 s).symm
      exact sel_ag r (i + 1) (this L K) fun n z _ hne => absurd rfl hne

theorem sel_insert {F : Nat → Bool} {y : Oper × Rc T} {m : Nat} : ∀ (l : List (Oper × Rc T)) (i : Nat) (s : St T), l[m]? = some y → F (i + m) = false →
    (∀ n x, m < n → l[n]? = some x → F (i + n) = true → (∀ k, k ∈ updFoot y.2.u → k ∉ updFoot x.2.u) ∧ ∀ t, y.1.dst = some t → x.1.dst ≠ some t) →
    Eqv (app (sel F s l i) y.1 y.2) (sel (fun j => F j || decide (j = i + m)) s l i) := by
  induction m with
  | zero =>
    intro l i s hy hF h
    cases l with
    | nil => simp at hy
    | cons x r =>
      simp at hy; subst hy
      have hF' : F i = false := by simpa using hF
      simp only [sel, hF', Nat.add_zero, decide_true, Bool.or_true]
      refine (sel_push r (i + 1) s fun n z hz hFz => h (n + 1) z (by omega) (by simpa using hz) (by rw [show i + (n + 1) = i + 1 + n by omega]; exact hFz)).trans ?_
      rw [sel_congr (F := fun j => F j || decide (j = i)) (F' := F)]
      · exact Eqv.refl _
      · intro n _
        have : decide (i + 1 + n = i) = false := by simp; omega
        simp [this]
  | succ m ih =>
    intro l i s hy hF h
    cases l with
    | nil => simp at hy
    | cons x r =>
      simp only [sel]
      have hne : decide (i = i + (m + 1)) = false := by simp
      simp only [hne, Bool.or_false]
      have he : i + (m + 1) = i + 1 + m := by omega
      rw [he]
      exact ih r (i + 1) _ (by simpa using hy) (by rw [← he]; exact hF) fun n z hn hz hFz => h (n + 1) z (by omega) (by simpa using hz) (by rw [show i + (n + 1) = i + 1 + n by omega]; exact hFz)

end
end Go.Px

namespace Go.Px
variable {T : Nat → Type} {ρ : Type}

section
variable {C : Ctx T} {S : Specs T} {s s' : St T} {g : Gh} {M : Nat → Prop} {okc : Nat → Nat → Prop} {ds : List Nat} {a : Act} {w : World} {o : Oper} {v : PV T} {u : List (Upd T)} {f L K : List Nat} {Q : Exit → Act → World → Prop}
variable {P : Program} {D : Tab T} {ops : Array Oper}

/-! ### What stands ahead -/

theorem edgesOk_get : ∀ {l : List Oper} {i n : Nat} {o : Oper}, edgesOk i l = true → l[n]? = some o → ∀ e ∈ o.after, Region.binds .any e = true → e.on < i + n
  | [], _, _, _, _, h => by simp at h
  | x :: r, i, n, o, h, hn => by
    simp only [edgesOk, Bool.and_eq_true] at h
    cases n with
    | zero =>
      simp at hn; subst hn
      intro e he hb
      have := List.all_eq_true.1 h.1 e (by simpa using he)
      rw [hb] at this
      simpa using this
    | succ n =>
      intro e he hb
      have := edgesOk_get h.2 (n := n) (by simpa using hn) e he hb
      omega

theorem orFold_bit {α : Type} (F : Nat → α → Nat) (hF : ∀ s e j, (F s e).testBit j = true → s.testBit j = true ∨ (F 0 e).testBit j = true) : ∀ (l : List α) (s j : Nat), (l.foldl F s).testBit j = true → s.testBit j = true ∨ ∃ e ∈ l, (F 0 e).testBit j = true
  | [], s, j, h => .inl h
  | e :: r, s, j, h => by
    rcases orFold_bit F hF r (F s e) j h with h1 | ⟨e', h1, h2⟩
    · rcases hF s e j h1 with h3 | h3
      · exact .inl h3
      · exact .inr ⟨e, by simp, h3⟩
    · exact .inr ⟨e', by simp [h1], h2⟩

/-- what one stands behind -/
def befStep (acc : Array Nat) (o : Oper) : Array Nat := acc.push (o.after.foldl (fun s e => if Region.binds .any e then s ||| 2 ^ e.on ||| acc.getD e.on 0 else s) 0)

theorem before_size : ∀ (l : List Oper) (acc : Array Nat), (l.foldl befStep acc).size = acc.size + l.length
  | [], _ => rfl
  | o :: r, acc => by simp only [List.foldl_cons]; rw [before_size r]; simp [befStep]; omega

theorem before_old : ∀ (l : List Oper) (acc : Array Nat) (i : Nat), i < acc.size → (l.foldl befStep acc).getD i 0 = acc.getD i 0
  | [], _, _, _ => rfl
  | o :: r, acc, i, h => by
    simp only [List.foldl_cons]
    rw [before_old r _ i (by simp [befStep]; omega)]
    simp [befStep, Array.getElem?_push, Nat.ne_of_lt h]

theorem before_bit : ∀ (l : List Oper) (acc : Array Nat) (n j : Nat) (o : Oper), l[n]? = some o → ((l.foldl befStep acc).getD (acc.size + n) 0).testBit j = true →
    ∃ e ∈ o.after, Region.binds .any e = true ∧ (e.on = j ∨ (e.on < acc.size + n ∧ ((l.foldl befStep acc).getD e.on 0).testBit j = true))
  | [], _, _, _, _, h, _ => by simp at h
  | x :: r, acc, n, j, o, hn, h => by
    simp only [List.foldl_cons] at h ⊢
    cases n with
    | zero =>
      simp at hn; subst hn
      rw [Nat.add_zero, before_old r _ acc.size (by simp [befStep])] at h
      have h' : (x.after.toList.foldl (fun s e => if Region.binds .any e then s ||| 2 ^ e.on ||| acc.getD e.on 0 else s) 0).testBit j = true := by
        simpa [befStep] using h
      rcases orFold_bit _ (fun s e j hb => by
        by_cases hx : Region.binds .any e = true
        · simp only [hx, if_true, Nat.testBit_or, Bool.or_eq_true] at hb ⊢
          rcases hb with (hb | hb) | hb
          · exact .inl hb
          · exact .inr (.inl (.inr hb))
          · exact .inr (.inr hb)
        · simp only [hx] at hb; exact .inl hb) _ 0 j h' with h1 | ⟨e, h1, h2⟩
      · simp at h1
      · by_cases hx : Region.binds .any e = true
        · refine ⟨e, by simpa using h1, hx, ?_⟩
          simp only [hx, if_true, Nat.testBit_or, Bool.or_eq_true, Nat.zero_testBit, Bool.false_eq_true, false_or] at h2
          rcases h2 with h2 | h2
          · left
            rw [Nat.testBit_two_pow] at h2
            simpa using h2
          · right
            have hlt : e.on < acc.size := by
              rcases Nat.lt_or_ge e.on acc.size with h3 | h3
              · exact h3
              · simp [Array.getElem?_eq_none h3] at h2
            refine ⟨by omega, ?_⟩
            rw [before_old r _ e.on (by simp [befStep]; omega)]
            have : (befStep acc x).getD e.on 0 = acc.getD e.on 0 := by simp [befStep, Array.getElem?_push, Nat.ne_of_lt hlt]
            rw [this]; exact h2
        · simp only [hx] at h2; simp at h2
    | succ n =>
      have := before_bit r (befStep acc x) n j o (by simpa using hn) (by rw [show (befStep acc x).size + n = acc.size + (n + 1) by simp [befStep]; omega]; exact h)
      obtain ⟨e, h1, h2, h3⟩ := this
      refine ⟨e, h1, h2, h3.imp id fun ⟨h4, h5⟩ => ⟨?_, h5⟩⟩
      have : (befStep acc x).size = acc.size + 1 := by simp [befStep]
      omega

theorem before_eq (ops : Array Oper) : Region.before ops = ops.toList.foldl befStep #[] := by
  unfold Region.before
  rw [← Array.foldl_toList]
  rfl

/-- nothing that is listed waits for one that is not -/
def Closed (ops : Array Oper) (F : Nat → Bool) : Prop := ∀ i o, ops[i]? = some o → F i = true → ∀ e ∈ o.after, Region.binds .any e = true → F e.on = true

theorem closed_before {F : Nat → Bool} (hc : Closed ops F) : ∀ (i j : Nat) (o : Oper), ops[i]? = some o → (∀ e ∈ o.after, Region.binds .any e = true → F e.on = true) → ((Region.before ops).getD i 0).testBit j = true → F j = true := by
  intro i
  induction i using Nat.strongRecOn with
  | _ i ih =>
    intro j o ho hall hb
    rw [before_eq] at hb
    obtain ⟨e, h1, h2, h3⟩ := before_bit ops.toList #[] i j o (by simpa using ho) (by simpa using hb)
    have he := hall e h1 h2
    rcases h3 with rfl | ⟨h4, h5⟩
    · exact he
    · have hlt : e.on < i := by simpa using h4
      have hsz : e.on < ops.size := Nat.lt_trans hlt (Array.getElem?_eq_some_iff.1 ho).1
      refine ih e.on hlt j ops[e.on] (Array.getElem?_eq_getElem hsz) (fun e' h6 h7 => hc e.on _ (Array.getElem?_eq_getElem hsz) he e' h6 h7) ?_
      rw [before_eq]; exact h5

/-! ### Marks -/

theorem marksOk_pair {bf : Array Nat} : ∀ {l : List Mark}, marksOk bf l = true → l.Pairwise fun b a => (bf.getD b.at_ 0).testBit a.at_ = true ∨ apartM a b = true
  | [], _ => .nil
  | b :: r, h => by
    simp only [marksOk, Bool.and_eq_true] at h
    refine .cons (fun a ha => ?_) (marksOk_pair h.2)
    have := List.all_eq_true.1 h.1 a ha
    simpa using this

theorem marksFrom_get {ops : Array Oper} : ∀ {l : List (Oper × Rc T)} {i n : Nat} {x : Oper × Rc T}, l[n]? = some x → (marksFrom ops i l)[n]? = some (markOf ops (i + n) x)
  | [], _, _, _, h => by simp at h
  | y :: r, i, n, x, h => by
    cases n with
    | zero => simp at h; subst h; simp [marksFrom]
    | succ n =>
      have := marksFrom_get (ops := ops) (i := i + 1) (n := n) (x := x) (by simpa using h)
      simp only [marksFrom, List.getElem?_cons_succ, this]
      rw [show i + 1 + n = i + (n + 1) by omega]

theorem marks_pair {items : List (Oper × Rc T)} (h : marksOk (Region.before ops) ((marksFrom ops 0 items).reverse ++ []) = true) {i j : Nat} {x y : Oper × Rc T} (hij : i < j) (hx : items[i]? = some x) (hy : items[j]? = some y) :
    ((Region.before ops).getD j 0).testBit i = true ∨ apartM (markOf ops i x) (markOf ops j y) = true := by
  rw [List.append_nil] at h
  have hp := marksOk_pair h
  rw [List.pairwise_reverse] at hp
  have h1 := marksFrom_get (ops := ops) (i := 0) hx
  have h2 := marksFrom_get (ops := ops) (i := 0) hy
  rw [Nat.zero_add] at h1 h2
  obtain ⟨l1, e1⟩ := List.getElem?_eq_some_iff.1 h1
  obtain ⟨l2, e2⟩ := List.getElem?_eq_some_iff.1 h2
  have := List.pairwise_iff_getElem.1 hp i j l1 l2 hij
  rw [e1, e2] at this
  exact this

theorem offL_not {a b : List Nat} (h : offL a b = true) : ∀ k, k ∈ b → k ∉ a := by
  intro k hk ha
  have := List.all_eq_true.1 h k hk
  simp only [Bool.not_eq_true', List.any_eq_false] at this
  exact this k ha (by simp)

theorem apartM_spec {a b : Mark} (h : apartM a b = true) : (∀ k, k ∈ b.wr → k ∉ a.rd) ∧ (∀ k, k ∈ b.wr → k ∉ a.wr) ∧ (∀ k, k ∈ a.wr → k ∉ b.rd) ∧ (∀ k, k ∈ b.dst → k ∉ a.look) ∧ (∀ k, k ∈ b.dst → k ∉ a.dst) ∧ (∀ k, k ∈ a.dst → k ∉ b.look) := by
  simp only [apartM, Bool.and_eq_true] at h
  obtain ⟨⟨⟨⟨⟨h1, h2⟩, h3⟩, h4⟩, h5⟩, h6⟩ := h
  exact ⟨offL_not h1, offL_not h2, offL_not h3, offL_not h4, offL_not h5, offL_not h6⟩

theorem mem_dstL {o : Oper} {t : Nat} : t ∈ dstL o ↔ o.dst = some t := by
  unfold dstL
  cases o.dst <;> simp [eq_comm]

/-- the count of those that are not listed yet -/
def unl (F : Nat → Bool) : Nat → Nat
  | 0 => 0
  | n + 1 => unl F n + cond (F n) 0 1

theorem unl_zero {F : Nat → Bool} : ∀ {n : Nat}, unl F n = 0 → ∀ i, i < n → F i = true
  | 0, _, i, h => by omega
  | n + 1, h, i, hi => by
    simp only [unl] at h
    by_cases e : i = n
    · subst e
      cases hF : F i with
      | true => rfl
      | false => rw [hF] at h; simp at h
    · exact unl_zero (n := n) (by omega) i (by omega)

theorem unl_off {F : Nat → Bool} {m : Nat} : ∀ {n : Nat}, n ≤ m → unl (fun j => F j || decide (j = m)) n = unl F n
  | 0, _ => rfl
  | n + 1, h => by
    have hd : decide (n = m) = false := by simp; omega
    simp only [unl, hd, Bool.or_false]
    rw [unl_off (n := n) (by omega)]

theorem unl_set {F : Nat → Bool} {m : Nat} (hF : F m = false) : ∀ {n : Nat}, m < n → unl F n = unl (fun j => F j || decide (j = m)) n + 1
  | 0, h => by omega
  | n + 1, h => by
    by_cases e : m = n
    · subst e
      simp only [unl, hF, decide_true, Bool.or_true, cond_true, cond_false]
      rw [unl_off (Nat.le_refl _)]
    · have hd : decide (n = m) = false := by simp; omega
      simp only [unl, hd, Bool.or_false]
      rw [unl_set hF (n := n) (by omega)]; omega

/-- a state's log as operations in the order of the text leave it -/
theorem chain_pre (hC : CtxOK C) (hS : SpecNat S) : ∀ {items : List (Oper × Rc T)} {s : St T}, Chain C.D S ops s items → C.pre (stt s items).lg → C.pre s.lg ∧ ∀ (n : Nat) (x : Oper × Rc T), items[n]? = some x → ∀ l, x.2.u = [.log l] → C.pre l
  | [], s, _, h => ⟨h, fun n x hx => by simp at hx⟩
  | y :: r, s, hc, h => by
    obtain ⟨h1, h2⟩ := chain_pre hC hS hc.2 h
    unfold app at h1
    rw [putD_lg] at h1
    refine ⟨?_, fun n x hx l hl => ?_⟩
    · rcases hc.1 with ⟨_, h3⟩ | ⟨_, h3⟩
      · exact evOp_pre hC hS h3 h1
      · rw [h3] at h1; exact h1
    · cases n with
      | zero =>
        simp at hx; subst hx
        rw [hl] at h1; exact h1
      | succ n => exact h2 n x (by simpa using hx) l hl

theorem chain_m (hS : SpecNat S) : ∀ {items : List (Oper × Rc T)} {s : St T}, Chain D S ops s items → (stt s items).lg.m? = s.lg.m?
  | [], s, _ => rfl
  | y :: r, s, hc => by
    have h2 := chain_m hS hc.2
    simp only [stt]
    rw [h2]
    unfold app
    rw [putD_lg]
    rcases hc.1 with ⟨_, h3⟩ | ⟨_, h3⟩
    · exact evOp_m hS h3
    · rw [h3]; rfl

theorem items_get {items : List (Oper × Rc T)} (h : items.map (·.1) = ops.toList) {i : Nat} {o : Oper} (ho : ops[i]? = some o) : ∃ rc, items[i]? = some (o, rc) := by
  have : (items.map (·.1))[i]? = some o := by rw [h]; simpa using ho
  rw [List.getElem?_map] at this
  obtain ⟨x, h1, rfl⟩ := Option.map_eq_some_iff.1 this
  exact ⟨x.2, h1⟩

theorem want_ok (hops : ∀ (j : Nat) (o : Oper), ops[j]? = some o → operOk C.nt o = true) (h : SR C s g M okc ds a w) (hw : Want ops s o) : Region.wanted o (yielded ops a.tmps) = true := by
  rcases hw with hw | ⟨j, want, gd, d, h1, h2, h3, h4⟩
  · exact wanted_none hw _
  · have := yielded_bool h h2 h3 (operOk.dst (hops j gd h2) d h3) h4
    simp [Region.wanted, h1, this]

theorem unw_ok (hops : ∀ (j : Nat) (o : Oper), ops[j]? = some o → operOk C.nt o = true) (h : SR C s g M okc ds a w) (hw : Unw ops s o) : ¬ Region.wanted o (yielded ops a.tmps) = true := by
  obtain ⟨j, want, gd, d, h1, h2, h3, h4⟩ := hw
  have hlt := operOk.dst (hops j gd h2) d h3
  rcases h4 with h4 | h4
  · have := yielded_bool h h2 h3 hlt h4
    cases want <;> simp [Region.wanted, h1, this]
  · have := yielded_skip h h2 h3 hlt h4
    simp [Region.wanted, h1, this]

theorem drawn_go (hC : CtxOK C) (hS : SpecOK C.P C.D S) (hops : ∀ (j : Nat) (o : Oper), ops[j]? = some o → operOk C.nt o = true) {items : List (Oper × Rc T)} {s0 : St T} {g0 : Gh} {a0 : Act} {w0 : World}
    (hi : items.map (·.1) = ops.toList) (hch : Chain C.D S ops s0 items) (hmk : marksOk (Region.before ops) ((marksFrom ops 0 items).reverse ++ []) = true) (hed : edgesOk 0 ops.toList = true)
    (hpre : ∀ (n : Nat) (x : Oper × Rc T), items[n]? = some x → ∀ l, x.2.u = [.log l] → C.pre l) (hQ : QOK C Q (wrs ops.toList) s0 g0 a0 w0 .normal (stt s0 items)) :
    ∀ (fuel : Nat) (listed : Array Bool) (F : Nat → Bool) {g : Gh} {M : Nat → Prop} {okc : Nat → Nat → Prop} {a : Act} {w : World}, listed.size = ops.size → (∀ i, i < ops.size → listed[i]? = some (F i)) → Closed ops F → unl F ops.size ≤ fuel →
      SR C (sel F s0 items 0) g M okc ds a w → Keep (wrs ops.toList) s0 g0 a0 w0 (sel F s0 items 0) g a w → wpAnyIn (FW C.ro) 0 C.P .any ops Q fuel listed a w := by
  have hlen : items.length = ops.size := by have := congrArg List.length hi; simpa using this
  have hgd : ∀ {listed : Array Bool} {F : Nat → Bool}, listed.size = ops.size → (∀ i, i < ops.size → listed[i]? = some (F i)) → ∀ i b, i < ops.size → listed.getD i b = F i := fun h1 h2 i b hlt => by simp [h2 i hlt]
  have final : ∀ {F : Nat → Bool} {g : Gh} {M : Nat → Prop} {okc : Nat → Nat → Prop} {a : Act} {w : World}, (∀ i, i < ops.size → F i = true) → SR C (sel F s0 items 0) g M okc ds a w → Keep (wrs ops.toList) s0 g0 a0 w0 (sel F s0 items 0) g a w → Q .normal a w := fun {F g M okc a w} hall hsr hk => by
    rw [sel_all F items 0 s0 fun n hn => by rw [Nat.zero_add]; exact hall n (by omega)] at hsr hk
    exact hQ g M okc ds a w hsr hk
  have last : ∀ {listed : Array Bool} {F : Nat → Bool}, listed.size = ops.size → (∀ i, i < ops.size → listed[i]? = some (F i)) → Region.ready .any ops listed = [] → ∀ i, i < ops.size → F i = true := by
    intro listed F h1 h2 hr i
    induction i using Nat.strongRecOn with
    | _ i ih =>
      intro hlt
      cases hF : F i with
      | true => rfl
      | false =>
        exfalso
        have : i ∈ Region.ready .any ops listed := mem_ready.2 ⟨by rw [hgd h1 h2 i true hlt, hF], ops[i], Array.getElem?_eq_getElem hlt, fun e he hb => by
          have := edgesOk_get hed (n := i) (o := ops[i]) (by simp [hlt]) e he hb
          rw [hgd h1 h2 e.on false (by omega)]
          exact ih e.on (by omega) (by omega)⟩
        rw [hr] at this; simp at this
  intro fuel
  induction fuel with
  | zero =>
    intro listed F g M okc a w h1 h2 hcl hun hsr hk
    have hall := unl_zero (F := F) (n := ops.size) (by omega)
    refine ⟨?_, final hall hsr hk⟩
    rw [List.eq_nil_iff_forall_not_mem]
    intro i hm
    obtain ⟨h3, o, h4, _⟩ := mem_ready.1 hm
    have hlt := (Array.getElem?_eq_some_iff.1 h4).1
    rw [hgd h1 h2 i true hlt, hall i hlt] at h3
    simp at h3
  | succ fuel ih =>
    intro listed F g M okc a w h1 h2 hcl hun hsr hk
    refine ⟨fun hr => final (last h1 h2 hr) hsr hk, fun i hm => ?_⟩
    obtain ⟨h3, o, h4, h5⟩ := mem_ready.1 hm
    have hlt := (Array.getElem?_eq_some_iff.1 h4).1
    rw [hgd h1 h2 i true hlt] at h3
    have h5' : ∀ e ∈ o.after, Region.binds .any e = true → F e.on = true := fun e he hb => by
      have hon := edgesOk_get hed (n := i) (o := o) (by simpa using h4) e he hb
      have := h5 e he hb
      rwa [hgd h1 h2 e.on false (by omega)] at this
    obtain ⟨rc, h6⟩ := items_get hi h4
    have hoo := hops i o h4
    have hmem : o ∈ ops.toList := List.mem_of_getElem? (by simpa using h4)
    -- who is apart from it
    have hap : ∀ n x, items[n]? = some x → n ≠ i → F n ≠ decide (n < i) → (∀ k, k ∈ updFoot x.2.u → k ∉ rc.f ∧ k ∉ updFoot rc.u) ∧ ∀ t, x.1.dst = some t → t ∉ lookT ops o ∧ o.dst ≠ some t := by
      intro n x hx hne hF
      rcases Nat.lt_or_gt_of_ne hne with hlt' | hgt
      · have hFn : F n = false := by simpa [hlt'] using hF
        rcases marks_pair hmk hlt' hx h6 with hb | hb
        · rw [closed_before hcl i n o h4 h5' hb] at hFn; simp at hFn
        · obtain ⟨b1, b2, b3, b4, b5, b6⟩ := apartM_spec hb
          exact ⟨fun k hk => ⟨b3 k hk, fun h => b2 k h hk⟩, fun t ht => ⟨b6 t (mem_dstL.2 ht), fun h => b5 t (mem_dstL.2 h) (mem_dstL.2 ht)⟩⟩
      · have hFn : F n = true := by
          have : decide (n < i) = false := by simp; omega
          rw [this] at hF; simpa using hF
        have hn : n < ops.size := by rw [← hlen]; exact (List.getElem?_eq_some_iff.1 hx).1
        rcases marks_pair hmk hgt h6 hx with hb | hb
        · have := closed_before hcl n i ops[n] (Array.getElem?_eq_getElem hn) (hcl n _ (Array.getElem?_eq_getElem hn) hFn) hb
          rw [this] at h3; simp at h3
        · obtain ⟨b1, b2, b3, b4, b5, b6⟩ := apartM_spec hb
          exact ⟨fun k hk => ⟨b1 k hk, b2 k hk⟩, fun t ht => ⟨b4 t (mem_dstL.2 ht), fun h => b5 t (mem_dstL.2 ht) (mem_dstL.2 h)⟩⟩
    -- it does here what it does in the order of the text
    have hdo : Does C.D S ops (sel F s0 items 0) o rc := by
      have := hch.does 0 h6
      rw [Nat.zero_add] at this
      refine this.ag hS.nat (L := lookT ops o) (K := rc.f ++ updFoot rc.u) (sel_ag items 0 (Ag.refl _ _ _) fun n x hx hne => ?_) (fun _ => id) (fun k hk => by simp [hk]) (fun k hk => by simp [hk])
      rw [Nat.zero_add] at hne
      by_cases hni : n = i
      · subst hni
        rw [h3] at hne; simp at hne
      · obtain ⟨b1, b2⟩ := hap n x hx hni (fun e => hne e.symm)
        refine ⟨fun k hk hk' => ?_, fun t ht e => (b2 t e).1 ht⟩
        rcases List.mem_append.1 hk with hk | hk
        · exact (b1 k hk').1 hk
        · exact (b1 k hk').2 hk
    have hins : Eqv (app (sel F s0 items 0) o rc) (sel (fun j => F j || decide (j = i)) s0 items 0) := by
      have := sel_insert (F := F) (y := (o, rc)) (m := i) items 0 s0 h6 (by rw [Nat.zero_add]; exact h3) (fun n x hn hx hF => by
        rw [Nat.zero_add] at hF
        obtain ⟨b1, b2⟩ := hap n x hx (by omega) (by rw [hF]; simp; omega)
        exact ⟨fun k hk hk' => (b1 k hk').2 hk, fun t ht e => (b2 t e).2 ht⟩)
      rw [Nat.zero_add] at this; exact this
    -- on behind it
    have hcl' : Closed ops (fun j => F j || decide (j = i)) := by
      intro n o' hn hF e he hb
      simp only [Bool.or_eq_true, decide_eq_true_eq] at hF ⊢
      rcases hF with hF | hF
      · exact .inl (hcl n o' hn hF e he hb)
      · subst hF
        rw [h4] at hn; cases hn
        exact .inl (h5' e he hb)
    have hun' : unl (fun j => F j || decide (j = i)) ops.size ≤ fuel := by
      have := unl_set h3 hlt
      omega
    have h1' : (listed.setIfInBounds i true).size = ops.size := by simp [h1]
    have h2' : ∀ n, n < ops.size → (listed.setIfInBounds i true)[n]? = some (F n || decide (n = i)) := by
      intro n hn
      by_cases hni : i = n
      · subst hni
        simp [Array.getElem?_setIfInBounds, h1, hn]
      · have : decide (n = i) = false := by simp; omega
        rw [this, Bool.or_false, Array.getElem?_setIfInBounds_ne hni]; exact h2 n hn
    have next : ∀ {g' : Gh} {M' : Nat → Prop} {okc' : Nat → Nat → Prop} {a' : Act} {w' : World}, SR C (app (sel F s0 items 0) o rc) g' M' okc' ds a' w' → GhLe g g' → Evo w g.ok w' g'.ok → (∀ t, o.dst ≠ some t → a'.tmps.getD t undef = a.tmps.getD t undef) →
        wpAnyIn (FW C.ro) 0 C.P .any ops Q fuel (listed.setIfInBounds i true) a' w' := fun {g' M' okc' a' w'} b1 b2 b3 b4 => by
      refine ih _ _ h1' h2' hcl' hun' (hins.sr b1) ?_
      refine hk.trans (W2 := fun t => o.dst = some t) ⟨b2, b3, fun t ht => b4 t ht, by rw [sel_hd, sel_hd]⟩ (fun _ => id) fun t ht => ⟨o, hmem, ht⟩
    unfold wpOpIn
    simp only [h4]
    rcases hdo with ⟨hw, he⟩ | ⟨hw, rfl⟩
    · rw [if_pos (want_ok hops hsr hw)]
      refine Oper.wpIn_mono (fun a' w' hp => ?_) (step_evOp hC hS hsr hoo (fun l hl => hpre i (o, rc) h6 l hl) he)
      obtain ⟨g', M', okc', b1, b2, b3, b4⟩ := hsr.after (operOk.dst hoo) hp
      exact next b1 b2 b3 b4
    · rw [if_neg (unw_ok hops hsr hw)]
      obtain ⟨b1, b4⟩ := hsr.off (operOk.dst hoo)
      exact ⟨fun _ _ => trivial, next (g' := g) (by simpa [app, St.upds] using b1) (GhLe.refl g) (Evo.refl _ _) b4⟩

theorem evOpsD_pre (hC : CtxOK C) (hS : SpecNat S) {k : St T → Option ρ} {r : ρ} (h : evOpsD C.D S ops ops.toList 0 [] s k = some r) (hk : ∀ s', k s' = some r → s'.lg.m? = s.lg.m? → C.pre s'.lg) : C.pre s.lg := by
  obtain ⟨items, s', a1, a2, a3, a4, _, _⟩ := evOpsD_run hS _ _ _ _ h
  refine (chain_pre hC hS a2 ?_).1
  have := (a3 [] [2 * LOG]).lg (by simp)
  rw [← this]; exact hk s' a4 (by rw [this]; exact chain_m hS a2)

theorem evOpsD_ok (hC : CtxOK C) (hS : SpecOK C.P C.D S) (hops : ∀ (j : Nat) (o : Oper), ops[j]? = some o → operOk C.nt o = true) {k : St T → Option ρ} {r : ρ} {id : Nat}
    (h : evOpsD C.D S ops ops.toList 0 [] s k = some r) (hsr : SR C s g M okc ds a w) (hk : ∀ s', k s' = some r → s'.lg.m? = s.lg.m? → C.pre s'.lg ∧ QOK C Q (wrs ops.toList) s g a w .normal s') :
    (Code.region id ops true).wpIn (FW C.ro) 0 C.P Q a w := by
  obtain ⟨items, s', a1, a2, a3, a4, a5, a6⟩ := evOpsD_run hS.nat _ _ _ _ h
  obtain ⟨h1, h2⟩ := hk s' a4 (by rw [(a3 [] [2 * LOG]).lg (by simp)]; exact chain_m hS.nat a2)
  have hpre := (chain_pre hC hS.nat a2 (by
    have := (a3 [] [2 * LOG]).lg (by simp)
    rw [← this]; exact h1)).2
  have hdr := hsr.wr.drew hC
  refine wpIn_region_any hC.tab.mixed ?_
  have hs0 : sel (fun _ => false) s items 0 = s := sel_none _ _ _ _ fun _ _ => rfl
  refine drawn_go (s0 := s) (g0 := g) (a0 := a) (w0 := w) hC hS hops a1 a2 a5 a6 hpre (fun g' M' okc' ds' a' w' hsr' hk' => ?_) ops.size _ (fun _ => false) (by simp) (fun i hi => by simp [hi]) (fun _ _ _ h => by simp at h) ?_ (g := g) (M := M) (okc := okc) (ds := ds) ?_ ?_
  · exact h2 g' M' okc' ds' a' w' (a3.sr hsr') ⟨hk'.gle, hk'.evo, hk'.tmp, ((a3 [] []).hd).trans hk'.hd⟩
  · have : ∀ n, unl (fun _ => false) n = n := by intro n; induction n with
      | zero => rfl
      | succ n ih => simp [unl, ih]
    rw [this]; exact Nat.le_refl _
  · rw [hs0]
    exact ⟨hsr.size, hsr.defs, fun t ht => (hsr.tm t ht).mono hdr.2 (GhLe.refl g), hdr.1⟩
  · rw [hs0]
    exact ⟨GhLe.refl g, hdr.2, fun _ _ => rfl, rfl⟩

end
end Go.Px

