/-
  Proved here: loops do what the evaluator says.
  Conditions: those that the theorems name.
-/
import Derived.Test.YtlndinolkjgjbaaPe
import Derived.RangeFuncNested
set_option linter.all false
namespace Go.Px
variable {T : Nat → Type} {ρ : Type}

/-! ## Into a loop, and out of it -/

section
variable {C : Ctx T} {S : Specs T} {s s' s0 : St T} {g g0 : Gh} {M : Nat → Prop} {okc : Nat → Nat → Prop} {ds : List Nat} {a : Act} {w : World} {o : Oper} {v : PV T} {u : List (Upd T)} {f L K : List Nat} {Q : Exit → Act → World → Prop}
variable {P : Program} {D : Tab T} {ops : Array Oper}

/-- only what is asked of a state counts -/
theorem SR.same (hget : ∀ t, s'.get t = s.get t) (hent : ∀ t, s'.ent t = s.ent t) (hbv : ∀ t, s'.bv t = s.bv t) (htv : ∀ t, s'.tv t = s.tv t) (hlg : s'.lg = s.lg) (k : SR C s g M okc ds a w) : SR C s' g M okc ds a w := by
  refine ⟨k.size, k.defs, fun t ht => ?_, ?_⟩
  · rw [hget]; exact k.tm t ht
  · have W := k.wr
    exact ⟨fun t e he => W.bx t e (hent t ▸ he), fun t ht => W.nb t (hent t ▸ ht), fun t => (W.bv t).trans (hbv t).symm, fun t => (W.tv t).trans (htv t).symm, W.inj, W.blM, W.tks, W.tkinj, W.tkbl, W.okin, W.Mlt, W.okcg, W.okM, W.dsM, W.dsnd, W.rr, by rw [hlg]; exact W.hJ, W.rh, W.yl, W.ry⟩

/-! ### Slots and their values -/

def AllS (R : (sl : Slot) → sl.Ty T → Prop) : (x : List Slot) → SlotsTy T x → Prop
  | [], _ => True
  | [s], v => R s v
  | s :: y :: r, v => R s v.1 ∧ AllS R (y :: r) v.2

theorem decSlots_all : ∀ {x : List Slot} {v : SlotsTy T x}, decSlots D s0 s x = some v → AllS (fun sl y => decSlot D s0 s sl = some y) x v := by
  intro x
  induction x with
  | nil => intro v _; trivial
  | cons sl r ih =>
    cases r with
    | nil => intro v h; exact h
    | cons y r =>
      intro v h
      change ((decSlot D s0 s sl).bind fun a => (decSlots D s0 s (y :: r)).bind fun b => some (a, b)) = some v at h
      obtain ⟨a, h1, h2⟩ := Option.bind_eq_some_iff.1 h
      obtain ⟨b, h3, h4⟩ := Option.bind_eq_some_iff.1 h2
      cases h4
      exact ⟨h1, ih h3⟩

theorem emb_ind {Pst : St T → Prop} {R : (sl : Slot) → sl.Ty T → Prop} : ∀ {x : List Slot} {v : SlotsTy T x}, AllS R x v → Pst s → (∀ st sl y, sl ∈ x → R sl y → Pst st → Pst (embSlot D s0 st sl y)) → Pst (embSlots D s0 s x v) := by
  intro x
  induction x with
  | nil => intro v _ h _; exact h
  | cons sl r ih =>
    cases r with
    | nil => intro v h h0 hs; exact hs s sl v (by simp) h h0
    | cons y r =>
      intro v h h0 hs
      exact hs _ sl v.1 (by simp) h.1 (ih h.2 h0 fun st sl' y' hm hr hp => hs st sl' y' (by simp at hm ⊢; exact .inr hm) hr hp)

theorem AllS.of {R : (sl : Slot) → sl.Ty T → Prop} (h : ∀ sl y, R sl y) : ∀ {x : List Slot} {v : SlotsTy T x}, AllS R x v := by
  intro x
  induction x with
  | nil => intro v; trivial
  | cons sl r ih =>
    cases r with
    | nil => intro v; exact h sl v
    | cons y r => intro v; exact ⟨h sl v.1, ih⟩

theorem emb_same {x : List Slot} {v : SlotsTy T x} : (embSlots D s0 s x v).hd = s.hd ∧ (embSlots D s0 s x v).tk = s.tk ∧ (embSlots D s0 s x v).base = s.base ∧ (embSlots D s0 s x v).fx = s.fx := by
  refine emb_ind (R := fun _ _ => True) (Pst := fun st => st.hd = s.hd ∧ st.tk = s.tk ∧ st.base = s.base ∧ st.fx = s.fx) (AllS.of fun _ _ => trivial) ⟨rfl, rfl, rfl, rfl⟩ fun st sl y _ _ h => ?_
  cases sl <;> simp only [embSlot, St.put, St.setBx] <;> first | exact h | skip
  split <;> exact h

theorem look_cons {α : Type} {t u : Nat} {x y : α} {l : List (Nat × α)} (h : look u ((t, x) :: l) = some y) : (t = u ∧ x = y) ∨ look u l = some y := by
  by_cases e : t = u
  · subst e; rw [look_put_eq] at h; exact .inl ⟨rfl, by simpa using h⟩
  · rw [look_put_ne e] at h; exact .inr h

/-- where a box of slots comes from -/
def SlotBx (D : Tab T) (s0 : St T) (base : Nat) (sl : Slot) (y : sl.Ty T) (t : Nat) (e : Bx T) : Prop := match sl, y with
  | .box t' E own, v => t = t' ∧ e = ⟨s0.bv t', false, owned t' base own 0 (D.enc E v)⟩
  | .arr t' A own, v => t = t' ∧ e = ⟨s0.bv t', false, owned t' base own 0 (encTup D A v)⟩
  | .var t' E, v => t = t' ∧ e = ⟨base, false, D.enc E v⟩
  | _, _ => False

def SlotTm (D : Tab T) (base : Nat) (sl : Slot) (y : sl.Ty T) (t : Nat) (c : PV T) : Prop := match sl, y with
  | .tmp t' E, v => t = t' ∧ c = D.val E v
  | .own t' E, v => t = t' ∧ c = .sl E v (.tok (SLOT + 64 * t') base)
  | .var t' _, _ => t = t' ∧ c = .loc t' base 0
  | _, _ => False

theorem emb_bx {R : (sl : Slot) → sl.Ty T → Prop} {x : List Slot} {v : SlotsTy T x} (h : AllS R x v) (hs : s.bx = []) {t : Nat} {e : Bx T} (ht : look t (embSlots D s0 s x v).bx = some e) :
    ∃ sl y, sl ∈ x ∧ R sl y ∧ SlotBx D s0 s.base sl y t e := by
  have : (embSlots D s0 s x v).base = s.base ∧ ∀ t e, look t (embSlots D s0 s x v).bx = some e → ∃ sl y, sl ∈ x ∧ R sl y ∧ SlotBx D s0 s.base sl y t e := by
    refine emb_ind (Pst := fun st => st.base = s.base ∧ ∀ t e, look t st.bx = some e → ∃ sl y, sl ∈ x ∧ R sl y ∧ SlotBx D s0 s.base sl y t e) h ⟨rfl, fun t e h => by rw [hs] at h; simp [look] at h⟩ fun st sl y hm hr hp => ?_
    obtain ⟨hb, hp⟩ := hp
    cases sl with
    | tmp t' E => exact ⟨hb, hp⟩
    | own t' E => exact ⟨hb, hp⟩
    | box t' E own =>
      refine ⟨hb, fun t e he => ?_⟩
      rcases look_cons he with ⟨rfl, rfl⟩ | he
      · exact ⟨_, y, hm, hr, rfl, by rw [hb]⟩
      · exact hp t e he
    | arr t' A own =>
      refine ⟨hb, fun t e he => ?_⟩
      rcases look_cons he with ⟨rfl, rfl⟩ | he
      · exact ⟨_, y, hm, hr, rfl, by rw [hb]⟩
      · exact hp t e he
    | var t' E =>
      refine ⟨hb, fun t e he => ?_⟩
      rcases look_cons he with ⟨rfl, rfl⟩ | he
      · exact ⟨_, y, hm, hr, rfl, by rw [hb]⟩
      · exact hp t e he
    | log A =>
      simp only [embSlot]
      split <;> exact ⟨hb, hp⟩
  exact this.2 t e ht

theorem emb_tm {R : (sl : Slot) → sl.Ty T → Prop} {x : List Slot} {v : SlotsTy T x} (h : AllS R x v) (hs : s.tm = []) {t : Nat} {c : PV T} (ht : look t (embSlots D s0 s x v).tm = some c) :
    ∃ sl y, sl ∈ x ∧ R sl y ∧ SlotTm D s.base sl y t c := by
  have : (embSlots D s0 s x v).base = s.base ∧ ∀ t c, look t (embSlots D s0 s x v).tm = some c → ∃ sl y, sl ∈ x ∧ R sl y ∧ SlotTm D s.base sl y t c := by
    refine emb_ind (Pst := fun st => st.base = s.base ∧ ∀ t c, look t st.tm = some c → ∃ sl y, sl ∈ x ∧ R sl y ∧ SlotTm D s.base sl y t c) h ⟨rfl, fun t e h => by rw [hs] at h; simp [look] at h⟩ fun st sl y hm hr hp => ?_
    obtain ⟨hb, hp⟩ := hp
    cases sl with
    | tmp t' E =>
      refine ⟨hb, fun t e he => ?_⟩
      rcases look_cons he with ⟨rfl, rfl⟩ | he
      · exact ⟨_, y, hm, hr, rfl, rfl⟩
      · exact hp t e he
    | own t' E =>
      refine ⟨hb, fun t e he => ?_⟩
      rcases look_cons he with ⟨rfl, rfl⟩ | he
      · exact ⟨_, y, hm, hr, rfl, by rw [hb]⟩
      · exact hp t e he
    | box t' E own => exact ⟨hb, hp⟩
    | arr t' A own => exact ⟨hb, hp⟩
    | var t' E =>
      refine ⟨hb, fun t e he => ?_⟩
      rcases look_cons he with ⟨rfl, rfl⟩ | he
      · exact ⟨_, y, hm, hr, rfl, by rw [hb]⟩
      · exact hp t e he
    | log A =>
      simp only [embSlot]
      split <;> exact ⟨hb, hp⟩
  exact this.2 t c ht

theorem emb_has {t : Nat} : ∀ {x : List Slot} {v : SlotsTy T x} {sl : Slot}, sl ∈ x → t ∈ sl.boxId → ∃ e, look t (embSlots D s0 s x v).bx = some e := by
  have step : ∀ {st : St T} {sl : Slot} {y : sl.Ty T} {e : Bx T}, look t st.bx = some e → ∃ e, look t (embSlot D s0 st sl y).bx = some e := by
    intro st sl y e h
    cases sl with
    | tmp t' E => exact ⟨e, h⟩
    | own t' E => exact ⟨e, h⟩
    | box t' E own => by_cases he : t' = t; · subst he; exact ⟨_, look_put_eq⟩
                      · exact ⟨e, (look_put_ne he).trans h⟩
    | arr t' E own => by_cases he : t' = t; · subst he; exact ⟨_, look_put_eq⟩
                      · exact ⟨e, (look_put_ne he).trans h⟩
    | var t' E => by_cases he : t' = t; · subst he; exact ⟨_, look_put_eq⟩
                  · exact ⟨e, (look_put_ne he).trans h⟩
    | log A => simp only [embSlot]; split <;> exact ⟨e, h⟩
  have here : ∀ {st : St T} {sl : Slot} {y : sl.Ty T}, t ∈ sl.boxId → ∃ e, look t (embSlot D s0 st sl y).bx = some e := by
    intro st sl y h
    cases sl <;> simp [Slot.boxId] at h <;> subst h <;> exact ⟨_, look_put_eq⟩
  intro x
  induction x with
  | nil => intro v sl hm; simp at hm
  | cons sl r ih =>
    cases r with
    | nil =>
      intro v sl' hm ht
      simp at hm; subst hm
      exact here ht
    | cons y r =>
      intro v sl' hm ht
      rcases List.mem_cons.1 hm with rfl | hm
      · exact here ht
      · obtain ⟨e, he⟩ := ih (v := v.2) hm ht
        exact step he

theorem nodupN_get : ∀ {l : List Nat}, nodupN l = true → l.Nodup
  | [], _ => .nil
  | a :: r, h => by
    simp only [nodupN, Bool.and_eq_true, Bool.not_eq_true', List.any_eq_false] at h
    refine List.nodup_cons.2 ⟨fun hm => ?_, nodupN_get h.2⟩
    exact h.1 a hm (by simp)

theorem flat_one {α : Type} {F : α → List Nat} : ∀ {l : List α} {x y : α} {t : Nat}, (l.flatMap F).Nodup → x ∈ l → y ∈ l → t ∈ F x → t ∈ F y → x = y
  | [], _, _, _, _, h, _, _, _ => by simp at h
  | a :: r, x, y, t, hn, hx, hy, h1, h2 => by
    rw [List.flatMap_cons, List.nodup_append] at hn
    obtain ⟨n1, n2, n3⟩ := hn
    rcases List.mem_cons.1 hx with e1 | hx' <;> rcases List.mem_cons.1 hy with e2 | hy'
    · rw [e1, e2]
    · exact absurd rfl (n3 t (e1 ▸ h1) t (List.mem_flatMap.2 ⟨y, hy', h2⟩))
    · exact absurd rfl (n3 t (e2 ▸ h2) t (List.mem_flatMap.2 ⟨x, hx', h1⟩))
    · exact flat_one n2 hx' hy' h1 h2

theorem look_of_mem {α : Type} {t : Nat} {x : α} : ∀ {l : List (Nat × α)}, (l.map (·.1)).Nodup → (t, x) ∈ l → look t l = some x
  | [], _, h => by simp at h
  | p :: r, hn, h => by
    simp only [List.map_cons, List.nodup_cons] at hn
    rcases List.mem_cons.1 h with rfl | h
    · exact look_put_eq
    · have : p.1 ≠ t := fun e => hn.1 (List.mem_map.2 ⟨(t, x), h, e.symm⟩)
      show look t ((p.1, p.2) :: r) = some x
      rw [look_put_ne this]; exact look_of_mem hn.2 h

theorem map_fst_inj {l : List (Nat × Nat)} (hn : (l.map (·.2)).Nodup) {a b u : Nat} (h1 : (a, u) ∈ l) (h2 : (b, u) ∈ l) : a = b := by
  induction l with
  | nil => simp at h1
  | cons p r ih =>
    simp only [List.map_cons, List.nodup_cons] at hn
    rcases List.mem_cons.1 h1 with e1 | h1 <;> rcases List.mem_cons.1 h2 with e2 | h2
    · rw [← e2] at e1; exact congrArg Prod.fst e1
    · exact absurd (List.mem_map.2 ⟨(b, u), h2, by rw [← e1]⟩) hn.1
    · exact absurd (List.mem_map.2 ⟨(a, u), h1, by rw [← e2]⟩) hn.1
    · exact ih hn.2 h1 h2

theorem cellToks_tgt {t : Nat} {cs : List (PV T)} : ∀ {own : List Nat} , ((cellToks t cs own).map (·.1)).Sublist (own.map fun j => SLOT + 64 * t + j)
  | [] => by simp [cellToks]
  | j :: r => by
    simp only [cellToks]
    split
    · simp only [List.map_cons]; exact (cellToks_tgt (own := r)).cons_cons _
    · simp only [List.map_cons]; exact (cellToks_tgt (own := r)).cons _

theorem slotToks_tgt {s : St T} : ∀ {x : List Slot}, ((slotToks s x).map (·.1)).Sublist (slotTgts x)
  | [] => by simp [slotToks]
  | sl :: r => by
    have ih := slotToks_tgt (s := s) (x := r)
    cases sl with
    | own t E =>
      simp only [slotToks, slotTgts, List.map_append]
      split
      · simpa using ih
      · simpa using ih.cons _
    | box t E own =>
      simp only [slotToks, slotTgts, List.map_append]
      split
      · exact cellToks_tgt.append ih
      · exact (List.nil_sublist _).append ih
    | arr t E own =>
      simp only [slotToks, slotTgts, List.map_append]
      split
      · exact cellToks_tgt.append ih
      · exact (List.nil_sublist _).append ih
    | _ => exact ih

theorem cellToks_mem {t : Nat} {cs : List (PV T)} {j u k E : Nat} {l : List (T E)} : ∀ {own : List Nat}, j ∈ own → cs[j]? = some (.sl E l (.tok u k)) → (SLOT + 64 * t + j, u) ∈ cellToks t cs own
  | [], h, _ => by simp at h
  | i :: r, h, hc => by
    simp only [cellToks]
    rcases List.mem_cons.1 h with rfl | h
    · rw [hc]; simp
    · have := cellToks_mem (t := t) h hc
      split
      · exact List.mem_cons_of_mem _ this
      · exact this

theorem slotToks_own {x : List Slot} {t E k u E' : Nat} {l : List (T E')} (h : .own t E ∈ x) (hg : s.get t = .sl E' l (.tok u k)) : (SLOT + 64 * t, u) ∈ slotToks s x := by
  induction x with
  | nil => simp at h
  | cons sl r ih =>
    rcases List.mem_cons.1 h with rfl | h
    · simp [slotToks, hg]
    · have := ih h
      cases sl <;> simp [slotToks, this]

theorem slotToks_cell {x : List Slot} {t k u j E' : Nat} {own : List Nat} {cs : List (PV T)} {l : List (T E')} (h : (∃ E, .box t E own ∈ x) ∨ ∃ A, .arr t A own ∈ x) (hj : j ∈ own) (hb : s.box t (s.bv t) = some cs) (hc : cs[j]? = some (.sl E' l (.tok u k))) : (SLOT + 64 * t + j, u) ∈ slotToks s x := by
  induction x with
  | nil => simp at h
  | cons sl r ih =>
    have hm := cellToks_mem (t := t) hj hc
    rcases h with ⟨E, h⟩ | ⟨A, h⟩
    · rcases List.mem_cons.1 h with rfl | h
      · simp [slotToks, hb, hm]
      · have := ih (.inl ⟨E, h⟩)
        cases sl <;> simp [slotToks, this]
    · rcases List.mem_cons.1 h with rfl | h
      · simp [slotToks, hb, hm]
      · have := ih (.inr ⟨A, h⟩)
        cases sl <;> simp [slotToks, this]

/-! ### Versions -/

theorem topB_le : ∀ (l : List (Nat × Bx T)) (m : Nat), m ≤ topB l m ∧ ∀ t e, look t l = some e → e.ver ≤ topB l m
  | [], m => ⟨Nat.le_refl _, fun t e h => by simp [look] at h⟩
  | (u, e) :: r, m => by
    obtain ⟨h1, h2⟩ := topB_le r (cond (Nat.ble m e.ver) e.ver m)
    have h3 : m ≤ cond (Nat.ble m e.ver) e.ver m ∧ e.ver ≤ cond (Nat.ble m e.ver) e.ver m := by
      cases hb : Nat.ble m e.ver with
      | true => exact ⟨Nat.le_of_ble_eq_true hb, Nat.le_refl _⟩
      | false =>
        have : ¬ m ≤ e.ver := fun h => by rw [Nat.ble_eq_true_of_le h] at hb; simp at hb
        exact ⟨Nat.le_refl _, by simp; omega⟩
    refine ⟨Nat.le_trans h3.1 h1, fun t e' he => ?_⟩
    rcases look_cons he with ⟨_, rfl⟩ | he
    · exact Nat.le_trans h3.2 h1
    · exact h2 t e' he

theorem topK_le : ∀ (l : List (Nat × Nat)) (m : Nat), m ≤ topK l m ∧ ∀ t v, look t l = some v → v ≤ topK l m
  | [], m => ⟨Nat.le_refl _, fun t e h => by simp [look] at h⟩
  | (u, e) :: r, m => by
    obtain ⟨h1, h2⟩ := topK_le r (cond (Nat.ble m e) e m)
    have h3 : m ≤ cond (Nat.ble m e) e m ∧ e ≤ cond (Nat.ble m e) e m := by
      cases hb : Nat.ble m e with
      | true => exact ⟨Nat.le_of_ble_eq_true hb, Nat.le_refl _⟩
      | false =>
        have : ¬ m ≤ e := fun h => by rw [Nat.ble_eq_true_of_le h] at hb; simp at hb
        exact ⟨Nat.le_refl _, by simp; omega⟩
    refine ⟨Nat.le_trans h3.1 h1, fun t e' he => ?_⟩
    rcases look_cons he with ⟨_, rfl⟩ | he
    · exact Nat.le_trans h3.2 h1
    · exact h2 t e' he

theorem St.bv_top (s : St T) (t : Nat) : s.bv t < s.top := by
  have h1 := topB_le s.bx s.base
  have h2 := topB_le s.hd (topB s.bx s.base)
  have h3 := topK_le s.tk (topB s.hd (topB s.bx s.base))
  unfold St.top St.bv St.ent
  have h4 := h2.1; have h5 := h3.1; have h6 := h1.1
  cases hh : look t s.hd with
  | some e => simp only; have := h2.2 t e hh; omega
  | none =>
    cases hb : look t s.bx with
    | some e => simp only; have := h1.2 t e hb; omega
    | none => simp only; omega

theorem St.tv_top (s : St T) (t : Nat) : s.tv t < s.top := by
  have h1 := topB_le s.bx s.base
  have h2 := topB_le s.hd (topB s.bx s.base)
  have h3 := topK_le s.tk (topB s.hd (topB s.bx s.base))
  unfold St.top St.tv
  have h4 := h2.1; have h5 := h3.1; have h6 := h1.1
  cases hh : look t s.tk with
  | some e => simp only; have := h3.2 t e hh; omega
  | none => simp only; omega

/-! ### Boxes out of sight -/

theorem pick_look {hide : List Nat} {t : Nat} {e : Bx T} : look t (s.pick hide) = some e → look t s.hd = none ∧ look t s.bx = some e := by
  induction hide with
  | nil => intro h; simp [St.pick, look] at h
  | cons u r ih =>
    intro h
    unfold St.pick at h
    split at h
    · rename_i e' h1 h2
      rcases look_cons h with ⟨rfl, rfl⟩ | h
      · exact ⟨h1, h2⟩
      · exact ih h
    · exact ih h

theorem look_append {α : Type} {t : Nat} : ∀ {l r : List (Nat × α)}, look t (l ++ r) = match look t l with | some x => some x | none => look t r
  | [], r => rfl
  | (u, x) :: l, r => by
    by_cases e : u = t
    · subst e; simp only [List.cons_append, look_put_eq]
    · simp only [List.cons_append, look_put_ne e]; exact look_append

theorem hid_ent {hide : List Nat} {t : Nat} {e : Bx T} (h : look t (s.pick hide ++ s.hd) = some e) : s.ent t = some e := by
  rw [look_append] at h
  cases hp : look t (s.pick hide) with
  | some e' =>
    rw [hp] at h; cases h
    obtain ⟨h1, h2⟩ := pick_look hp
    simp [St.ent, h1, h2]
  | none =>
    rw [hp] at h
    simp only at h
    simp [St.ent, h]

/-- out of a loop, the boxes are as they were in it -/
theorem leave_ent {hide : List Nat} {t : Nat} (h : s'.hd = s0.pick hide ++ s0.hd) (r : St T) (hb : r.bx = s0.pick hide ++ s'.bx) (hh : r.hd = s0.hd) : r.ent t = s'.ent t := by
  unfold St.ent
  rw [hb, hh, h, look_append, look_append]
  cases hp : look t (s0.pick hide) with
  | some e =>
    obtain ⟨h1, h2⟩ := pick_look hp
    simp only [h1]
  | none => simp only

theorem keepT_get {fixed : List Nat} {t : Nat} {c : PV T} : ∀ {l : List (Nat × PV T)}, look t (keepT fixed l) = some c → look t l = some c ∧ t ∈ fixed
  | [], h => by simp [keepT, look] at h
  | p :: r, h => by
    show look t ((p.1, p.2) :: r) = some c ∧ t ∈ fixed
    unfold keepT at h
    split at h
    · rename_i hf
      have h : look t ((p.1, p.2) :: keepT fixed r) = some c := h
      by_cases e : p.1 = t
      · rw [e, look_put_eq] at h
        rw [e, look_put_eq]
        refine ⟨h, ?_⟩
        simp only [List.any_eq_true] at hf
        obtain ⟨x, h1, h2⟩ := hf
        have := Nat.eq_of_beq_eq_true h2
        rw [← e, this]; exact h1
      · rw [look_put_ne e] at h ⊢
        exact keepT_get h
    · rename_i hf
      obtain ⟨h1, h2⟩ := keepT_get h
      refine ⟨?_, h2⟩
      have : p.1 ≠ t := fun e => by
        have : fixed.any (Nat.beq p.1) = true := List.any_eq_true.2 ⟨t, h2, by rw [e]; simp⟩
        rw [this] at hf; simp at hf
      rw [look_put_ne this]; exact h1

theorem offT_get {tm : List (Nat × PV T)} {t : Nat} {c : PV T} : ∀ {l : List (Nat × PV T)}, look t (offT tm l) = some c → look t l = some c ∧ look t tm = none
  | [], h => by simp [offT, look] at h
  | p :: r, h => by
    show look t ((p.1, p.2) :: r) = some c ∧ look t tm = none
    unfold offT at h
    split at h
    · rename_i hn
      have h : look t ((p.1, p.2) :: offT tm r) = some c := h
      by_cases e : p.1 = t
      · rw [e, look_put_eq] at h
        rw [e, look_put_eq]
        exact ⟨h, e ▸ hn⟩
      · rw [look_put_ne e] at h ⊢
        exact offT_get h
    · rename_i x hs
      obtain ⟨h1, h2⟩ := offT_get h
      have : p.1 ≠ t := fun e => by rw [e, h2] at hs; simp at hs
      rw [look_put_ne this]; exact ⟨h1, h2⟩

theorem fxs_get {fixed : List Nat} {t : Nat} {c : PV T} (h : look t (s.fxs fixed) = some c) : s.get t = c := by
  unfold St.fxs at h
  rw [look_append] at h
  unfold St.get
  cases hk : look t (keepT fixed s.tm) with
  | some c' =>
    rw [hk] at h; cases h
    rw [(keepT_get hk).1]
  | none =>
    rw [hk] at h
    simp only at h
    obtain ⟨h1, h2⟩ := offT_get h
    simp only [h1, h2]

end
end Go.Px

namespace Go.Px
variable {T : Nat → Type} {ρ : Type}

mutual
/-- its names are below -/
def PV.low (n : Nat) : PV T → Bool
  | .loc _ k _ => Nat.blt k n
  | .bsl _ _ k _ => Nat.blt k n
  | .sl _ _ (.tok _ k) => Nat.blt k n
  | .agg cs => lowL n cs
  | .tup cs => lowL n cs
  | .rp cs => lowL n cs
  | .clo _ cs => lowL n cs
  | .ifc _ v => v.low n
  | _ => true
def lowL (n : Nat) : List (PV T) → Bool
  | [] => true
  | c :: r => c.low n && lowL n r
end

section
variable {C : Ctx T} {S : Specs T} {s s' s0 : St T} {g g0 g2 : Gh} {M : Nat → Prop} {okc : Nat → Nat → Prop} {ds : List Nat} {a : Act} {w w0 : World} {o : Oper} {v : PV T} {u : List (Upd T)} {f L K : List Nat} {Q : Exit → Act → World → Prop}
variable {P : Program} {D : Tab T} {ops : Array Oper}

theorem lowL_get {n : Nat} : ∀ {cs : List (PV T)} {i : Nat} {c : PV T}, lowL n cs = true → cs[i]? = some c → c.low n = true
  | [], _, _, _, h => by simp at h
  | d :: r, i, c, h, hi => by
    simp only [lowL, Bool.and_eq_true] at h
    cases i with
    | zero => simp at hi; exact hi ▸ h.1
    | succ i => exact lowL_get h.2 (by simpa using hi)

theorem lowL_of {n : Nat} : ∀ {cs : List (PV T)}, (∀ (i : Nat) (c : PV T), cs[i]? = some c → c.low n = true) → lowL n cs = true
  | [], _ => rfl
  | d :: r, h => by
    simp only [lowL, Bool.and_eq_true]
    exact ⟨h 0 d rfl, lowL_of fun i c hi => h (i + 1) c (by simpa using hi)⟩

theorem Rel.low {n : Nat} (hb : ∀ t, g.bv t < n) (ht : ∀ t, g.tv t < n) {c : PV T} {v : Value} (h : Rel P D w g c v) : c.low n = true := by
  induction h with
  | loc t k off b hk h => have := hb t; simp [PV.low]; omega
  | bsl E t k n' b hk h => have := hb t; simp [PV.low]; omega
  | sl E l ow v h ho =>
    cases ow with
    | tok t k => have := ht t; have := ho.1; simp [PV.low]; omega
    | _ => rfl
  | agg cs vs hn h ih => exact lowL_of ih
  | tup cs vs hn h ih => exact lowL_of ih
  | rp cs b off f hc h ih => exact lowL_of ih
  | clo f cs vs hn h ih => exact lowL_of ih
  | ifc t c v h ih => exact ih
  | _ => rfl

/-- names begin anew -/
theorem Rel.reset {n : Nat} (ho : g2.ok = g.ok) (hy : g2.yl = g.yl) (hr : g2.rh = g.rh) (hb : ∀ t, g2.bv t = n ∨ (g2.bv t = g.bv t ∧ g2.bl t = g.bl t)) (ht : ∀ t, g2.tv t = n) {c : PV T} {v : Value} (h : Rel P D w g c v) : c.low n = true → Rel P D w g2 c v := by
  have hloc : ∀ {t k b : Nat}, k < n → k ≤ g.bv t → (k = g.bv t → g.bl t = some b) → k ≤ g2.bv t ∧ (k = g2.bv t → g2.bl t = some b) := fun {t k b} h1 h2 h3 => by
    rcases hb t with e | ⟨e, e'⟩
    · rw [e]; exact ⟨by omega, fun h => by omega⟩
    · rw [e, e']; exact ⟨h2, h3⟩
  induction h with
  | undef v => exact fun _ => .undef v
  | skip => exact fun _ => .skip
  | int k n => exact fun _ => .int k n
  | bool b => exact fun _ => .bool b
  | nilp => exact fun _ => .nilp
  | nilf => exact fun _ => .nilf
  | nili => exact fun _ => .nili
  | sl E l ow v h hw =>
    intro hl
    refine .sl E l ow v (by rw [ho]; exact h) ?_
    cases ow with
    | no => trivial
    | nil => exact hw
    | full => exact hw
    | tok t k =>
      have hk : k < n := by simpa [PV.low] using hl
      refine ⟨by rw [ht]; omega, fun e => ?_⟩
      rw [ht] at e; omega
  | bsl E t k n' b hk h => intro hl; obtain ⟨a1, a2⟩ := hloc (by simpa [PV.low] using hl) hk h; exact .bsl E t k n' b a1 a2
  | agg cs vs hn h ih => exact fun hl => .agg cs vs hn fun i c hi => ih i c hi (lowL_get hl hi)
  | tup cs vs hn h ih => exact fun hl => .tup cs vs hn fun i c hi => ih i c hi (lowL_get hl hi)
  | loc t k off b hk h => intro hl; obtain ⟨a1, a2⟩ := hloc (by simpa [PV.low] using hl) hk h; exact .loc t k off b a1 a2
  | rp cs b off f hc h ih =>
    refine fun hl => .rp cs b off f (fun i c hi => ?_) fun i c hi => ih i c hi (lowL_get hl hi)
    rw [ho, hr]; exact hc i c hi
  | clo f cs vs hn h ih => exact fun hl => .clo f cs vs hn fun i c hi => ih i c hi (lowL_get hl hi)
  | prd A R p v h => exact fun _ => .prd A R p v (by rw [ho, hr]; exact h)
  | seq A xs v h => exact fun _ => .seq A xs v (by rw [ho]; exact h)
  | yld l h => exact fun _ => .yld l (hy.trans h)
  | ifc t c v h ih => exact fun hl => .ifc t c v (ih hl)

theorem owned_get {t b : Nat} {own : List Nat} : ∀ {cs : List (PV T)} {i j : Nat} {c : PV T}, (owned t b own i cs)[j]? = some c →
    (cs[j]? = some c ∧ ¬ ((i + j) ∈ own ∧ ∃ E l o, c = .sl E l o)) ∨ (∃ (E : Nat) (l : List (T E)) (o : Own), cs[j]? = some (.sl E l o) ∧ (i + j) ∈ own ∧ c = .sl E l (.tok (SLOT + 64 * t + (i + j)) b))
  | [], i, j, c, h => by simp [owned] at h
  | d :: r, i, j, c, h => by
    by_cases hsl : ∃ (E : Nat) (l : List (T E)) (o : Own), d = .sl E l o
    · obtain ⟨E, l, o, rfl⟩ := hsl
      simp only [owned] at h
      cases j with
      | zero =>
        simp only [List.getElem?_cons_zero, Option.some.injEq] at h
        split at h
        · rename_i hown
          refine .inr ⟨E, l, o, rfl, ?_, by simpa using h.symm⟩
          obtain ⟨x, h1, h2⟩ := List.any_eq_true.1 hown
          have := Nat.eq_of_beq_eq_true h2
          simpa [this] using h1
        · rename_i hown
          refine .inl ⟨by simpa using h, fun hh => ?_⟩
          have : own.any (Nat.beq i) = true := List.any_eq_true.2 ⟨i, by simpa using hh.1, by simp⟩
          rw [this] at hown; simp at hown
      | succ j =>
        have := owned_get (cs := r) (i := i + 1) (j := j) (by simpa using h)
        rw [show i + 1 + j = i + (j + 1) by omega] at this
        simpa using this
    · have he : owned t b own i (d :: r) = d :: owned t b own (i + 1) r := by
        cases d <;> first | rfl | exact absurd ⟨_, _, _, rfl⟩ hsl
      rw [he] at h
      cases j with
      | zero =>
        simp at h; subst h
        exact .inl ⟨rfl, fun hh => hsl hh.2⟩
      | succ j =>
        have := owned_get (cs := r) (i := i + 1) (j := j) (by simpa using h)
        rw [show i + 1 + j = i + (j + 1) by omega] at this
        simpa using this

theorem owned_len {t b : Nat} {own : List Nat} : ∀ {cs : List (PV T)} {i : Nat}, (owned t b own i cs).length = cs.length
  | [], _ => rfl
  | d :: r, i => by cases d <;> simp [owned, owned_len (cs := r)]

theorem decTup_enc (hD : TabOK P D) : ∀ {A : List Nat} {cs : List (PV T)} {x : Tup T A}, decTup D A cs = some x → encTup D A x = cs.map plainC ∧ ∀ c, c ∈ encTup D A x → isData c = true ∧ plainC c = c := by
  intro A
  induction A with
  | nil =>
    intro cs x h
    cases cs with
    | nil => exact ⟨rfl, fun c hc => by simp [encTup] at hc⟩
    | cons c r => cases h
  | cons a A ih =>
    intro cs x h
    cases A with
    | nil => exact ⟨hD.dec a cs x h, fun c hc => hD.encData a x c hc⟩
    | cons b A =>
      have h : (match D.info a with
        | some i => (D.dec a (cs.take i.size)).bind fun x => (decTup D (b :: A) (cs.drop i.size)).bind fun y => some (x, y)
        | none => none) = some x := h
      split at h
      · rename_i i hi
        obtain ⟨y, h1, h2⟩ := Option.bind_eq_some_iff.1 h
        obtain ⟨z, h3, h4⟩ := Option.bind_eq_some_iff.1 h2
        cases h4
        obtain ⟨e1, e2⟩ := ih h3
        have e0 := hD.dec a _ y h1
        refine ⟨?_, fun c hc => ?_⟩
        · show D.enc a y ++ encTup D (b :: A) z = _
          rw [e0, e1, ← List.map_append, List.take_append_drop]
        · have hc : c ∈ D.enc a y ++ encTup D (b :: A) z := hc
          rcases List.mem_append.1 hc with hc | hc
          · exact hD.encData a y c hc
          · exact e2 c hc
      · simp at h

theorem ownOk_move (htv : ∀ t, g.tv t = s'.tv t) {E n τ top : Nat} {ow : Own} {r : Value} (h : OwnOK D g E n ow r) (ho : ownOk s' ow = true) (h1 : ∀ u k, ow = .tok u k → g2.tk τ = g.tk u) (h2 : g2.tv τ = top) : OwnOK D g2 E n (.tok τ top) r := by
  refine ⟨by omega, fun _ => ?_⟩
  cases ow with
  | no => simp [ownOk] at ho
  | nil => exact .inl h
  | full => rcases h with h | h; exact .inl h; exact .inr (.inl h)
  | tok u k =>
    have hk : k = s'.tv u := by simpa [ownOk] using ho
    rcases h.2 (by rw [htv]; exact hk) with h3 | h3 | ⟨b, off, cap, lim, h3, h4, h5⟩
    · exact .inl h3
    · exact .inr (.inl h3)
    · exact .inr (.inr ⟨b, off, cap, lim, h3, by rw [h1 u k rfl]; exact h4, h5⟩)

theorem var_inv {t E : Nat} {y : T E} (h : decSlot D s0 s' (.var t E) = some y) : ∃ k cs, s'.get t = .loc t k 0 ∧ s'.box t k = some cs ∧ D.dec E cs = some y := by
  change (match s'.get t with
    | .loc u v 0 => match Nat.beq u t, s'.box u v with
      | true, some cs => D.dec E cs
      | _, _ => none
    | _ => none) = some y at h
  generalize s'.get t = z at h ⊢
  cases z with
  | loc u k off =>
    cases off with
    | succ n => cases h
    | zero =>
      change (match Nat.beq u t, s'.box u k with
        | true, some cs => D.dec E cs
        | _, _ => none) = some y at h
      cases hb : Nat.beq u t <;> cases hc : s'.box u k <;> rw [hb, hc] at h <;> first | cases h | skip
      have := Nat.eq_of_beq_eq_true hb
      subst this
      exact ⟨k, _, rfl, hc, h⟩
  | _ => cases h

/-- the temporaries that slots are in -/
def Slot.tmId : Slot → List Nat
  | .tmp t _ => [t]
  | .own t _ => [t]
  | .var t _ => [t]
  | _ => []

/-- the ghost of a loop's head -/
def gEnter (st2 s' : St T) (slots : List Slot) (g : Gh) : Gh :=
  { ok := g.ok, bv := st2.bv, bl := fun t => match st2.ent t with | some _ => g.bl t | none => none, tv := st2.tv,
    tk := fun t => match look t (slotToks s' slots) with | some u => g.tk u | none => none, yl := g.yl, rh := g.rh }

/-- **a loop's head**: s0 and what is known there; s' the state at hand -/
theorem enter_ok (hC : CtxOK C) {slots : List Slot} {fixed hide : List Nat} {x : SlotsTy T slots} {M0 : Nat → Prop} {okc0 : Nat → Nat → Prop} {ds0 : List Nat} {A : Nat} (h0 : WR C s0 g0 M0 okc0 ds0 w0) (hok : s0.enterOk A slots fixed hide = true)
    (W : WR C s' g M okc ds w) (hsize : a.tmps.size = C.nt) (hdefs : a.defers = marksD ds) (htm : ∀ sl t, sl ∈ slots → t ∈ sl.tmId → t < C.nt → Rel C.P C.D w g (s'.get t) (a.tmps.getD t undef)) (hg : GhLe g0 g) (he : Evo w0 g0.ok w g.ok) (hhid : ∀ t e, look t (s0.pick hide ++ s0.hd) = some e → s'.ent t = some e) (hfx : ∀ t c, t < C.nt → look t (s0.fxs fixed) = some c → Rel C.P C.D w0 g0 c (a.tmps.getD t undef))
    (hlg : (embSlots C.D s0 (s0.enter fixed hide) slots x).lg.len = s'.lg.len) (hx : takeSlots C.D s0 s' slots = some x) :
    ∃ g2, SR C (embSlots C.D s0 (s0.enter fixed hide) slots x) g2 M okc ds a w ∧ GhLe g0 g2 ∧ g2.ok = g.ok ∧ (∀ b, OwnB g2 [] b → OwnB g [] b) := by
  have hD := hC.tab
  unfold takeSlots at hx
  split at hx
  · rename_i hchk
    simp only [Bool.and_eq_true] at hchk
    obtain ⟨⟨hn1, hn2⟩, _⟩ := hchk
    have hn1 := nodupN_get hn1
    have hn2 : ((slotToks s' slots).map (·.1)).Nodup := (nodupN_get hn2).sublist slotToks_tgt
    have hall := decSlots_all hx
    simp only [St.enterOk, Bool.and_eq_true] at hok
    obtain ⟨⟨⟨_, hnh⟩, hnb⟩, _⟩ := hok
    have hnb := nodupN_get hnb
    generalize hst : embSlots C.D s0 (s0.enter fixed hide) slots x = st2 at hlg ⊢
    obtain ⟨ehd, etk, ebase, efx⟩ := emb_same (D := C.D) (s0 := s0) (s := s0.enter fixed hide) (x := slots) (v := x)
    rw [hst] at ehd etk ebase efx
    have ehd : st2.hd = s0.pick hide ++ s0.hd := ehd
    have etk : st2.tk = [] := etk
    have ebase : st2.base = s0.top := ebase
    have efx : st2.fx = s0.fxs fixed := efx
    have htv2 : ∀ t, st2.tv t = s0.top := fun t => by simp [St.tv, etk, look, ebase]
    -- a slot's box is in sight
    have hvis : ∀ sl t, sl ∈ slots → t ∈ sl.boxId → look t st2.hd = none := fun sl t h1 h2 => by
      have := List.all_eq_true.1 hnh t (List.mem_flatMap.2 ⟨sl, h1, h2⟩)
      rw [ehd]
      have key : ∀ (l : List (Nat × Bx T)), l.all (fun p => !(Nat.beq p.1 t)) = true → look t l = none := by
        intro l
        induction l with
        | nil => intro _; rfl
        | cons p r ih =>
          intro hh
          simp only [List.all_cons, Bool.and_eq_true] at hh
          have : p.1 ≠ t := fun e => by have := hh.1; simp [e] at this
          show look t ((p.1, p.2) :: r) = none
          rw [look_put_ne this]; exact ih hh.2
      exact key _ this
    -- a slot's box, as it was
    have hbxin : ∀ {t k : Nat} {cs : List (PV T)}, s'.box t k = some cs → ∃ b vs E, g.bl t = some b ∧ g.bv t = k ∧ w.heap[b]? = some (.cells vs E (0, 0)) ∧ RelL C.P C.D w g cs vs ∧ ∀ o, ¬ g.ok b o := fun {t k cs} hb => by
      obtain ⟨h1, e, h2, h3, h4, rfl⟩ := St.box_some hb
      have hent : s'.ent t = some e := by simp [St.ent, h1, h2]
      obtain ⟨b, h5, h6⟩ := W.bx t e hent
      obtain ⟨vs, E, h7, h8⟩ := h6.cells
      exact ⟨b, vs, E, h5, by rw [W.bv, St.bv, hent]; exact h4, h7, h8, h6.own h3⟩
    -- entries of the head
    have hent2 : ∀ {t e}, st2.ent t = some e → (look t st2.hd = some e ∧ s'.ent t = some e) ∨ (look t st2.hd = none ∧ ∃ sl y, sl ∈ slots ∧ decSlot C.D s0 s' sl = some y ∧ SlotBx C.D s0 s0.top sl y t e) := fun {t e} hh => by
      unfold St.ent at hh
      cases hl : look t st2.hd with
      | some e' =>
        rw [hl] at hh; cases hh
        exact .inl ⟨rfl, hhid t e (by rw [← ehd]; exact hl)⟩
      | none =>
        rw [hl] at hh
        simp only at hh
        rw [← hst] at hh
        obtain ⟨sl, y, h1, h2, h3⟩ := emb_bx (s := s0.enter fixed hide) hall rfl hh
        exact .inr ⟨rfl, sl, y, h1, h2, h3⟩
    -- the names of boxes
    have hbv2 : ∀ t, (st2.bv t = s0.top) ∨ (st2.bv t = g.bv t ∧ ∃ e, st2.ent t = some e) := fun t => by
      cases hh : st2.ent t with
      | none => exact .inl (by simp [St.bv, hh, ebase])
      | some e =>
        rcases hent2 hh with ⟨_, h2⟩ | ⟨_, sl, y, h1, h2, h3⟩
        · exact .inr ⟨by rw [W.bv]; simp [St.bv, hh, h2], e, rfl⟩
        · cases sl with
          | box t' E own =>
            obtain ⟨rfl, rfl⟩ := h3
            simp only [decSlot] at h2
            split at h2
            · rename_i cs hcs
              obtain ⟨b, vs, E', _, h5, _⟩ := hbxin hcs
              exact .inr ⟨by rw [h5]; simp [St.bv, hh], _, rfl⟩
            · simp at h2
          | arr t' E own =>
            obtain ⟨rfl, rfl⟩ := h3
            simp only [decSlot] at h2
            split at h2
            · rename_i cs hcs
              obtain ⟨b, vs, E', _, h5, _⟩ := hbxin hcs
              exact .inr ⟨by rw [h5]; simp [St.bv, hh], _, rfl⟩
            · simp at h2
          | var t' E =>
            obtain ⟨rfl, rfl⟩ := h3
            exact .inl (by simp [St.bv, hh])
          | tmp => exact h3.elim
          | own => exact h3.elim
          | log => exact h3.elim
    obtain ⟨g2, hg2⟩ : ∃ g2, g2 = gEnter st2 s' slots g := ⟨_, rfl⟩
    have hbl2 : ∀ {t e}, st2.ent t = some e → g2.bl t = g.bl t := fun {t e} hh => by rw [hg2]; simp [gEnter, hh]
    have hblx : ∀ {t b}, g2.bl t = some b → g.bl t = some b := fun {t b} hh => by
      rw [hg2] at hh
      simp only [gEnter] at hh
      split at hh
      · exact hh
      · simp at hh
    have htkx : ∀ {t row}, g2.tk t = some row → ∃ u, (t, u) ∈ slotToks s' slots ∧ g.tk u = some row := fun {t row} hh => by
      rw [hg2] at hh
      simp only [gEnter] at hh
      split at hh
      · rename_i u hu; exact ⟨u, look_mem hu, hh⟩
      · simp at hh
    have htk2 : ∀ {t u}, (t, u) ∈ slotToks s' slots → g2.tk t = g.tk u := fun {t u} hh => by
      rw [hg2]; simp only [gEnter, look_of_mem hn2 hh]
    have hok2 : g2.ok = g.ok := by rw [hg2]; rfl
    have hbvg : ∀ t, g2.bv t = st2.bv t := fun t => by rw [hg2]; rfl
    have htvg : ∀ t, g2.tv t = s0.top := fun t => by rw [hg2]; exact htv2 t
    have hyl2 : g2.yl = g.yl := by rw [hg2]; rfl
    have hrh2 : g2.rh = g.rh := by rw [hg2]; rfl
    -- a row of one's own
    have hown : ∀ {E : Nat} {l : List (T E)} {ow : Own} {r : Value} {τ : Nat}, Rel C.P C.D w g (.sl E l ow) r → ownOk s' ow = true → (∀ u k, ow = .tok u k → (τ, u) ∈ slotToks s' slots) → Rel C.P C.D w g2 (.sl E l (.tok τ s0.top)) r := fun {E l ow r τ} hr ho hm => by
      cases hr with
      | sl _ _ _ _ hd hw =>
        exact .sl E l _ r (by rw [hok2]; exact hd) (ownOk_move W.tv hw ho (fun u k e => htk2 (hm u k e)) (htvg τ))
    have hdata : ∀ {c : PV T} {r : Value}, Rel C.P C.D w g c r → isData (plainC c) = true → plainC (plainC c) = plainC c → Rel C.P C.D w g2 (plainC c) r := fun hr h1 h2 => isData_rel (g := g2) hok2 h2 (hr.data h1)
    -- cells of a slot's box
    have hcells : ∀ {t : Nat} {own : List Nat} {cs enc : List (PV T)} {vs : Array Value}, RelL C.P C.D w g cs vs → enc = cs.map plainC → (∀ c, c ∈ enc → isData c = true ∧ plainC c = c) → (∀ j, j ∈ own → ∃ c, cs[j]? = some c ∧ ownCell s' c = true) →
        (∀ (j u k E : Nat) (l : List (T E)), j ∈ own → cs[j]? = some (.sl E l (.tok u k)) → (SLOT + 64 * t + j, u) ∈ slotToks s' slots) → RelL C.P C.D w g2 (owned t s0.top own 0 enc) vs := fun {t own cs enc vs} hr henc hdat ho hm => by
      refine ⟨by rw [owned_len, henc]; simp [hr.1], fun j c hj => ?_⟩
      rcases owned_get hj with ⟨h1, _⟩ | ⟨E, l, ow, h1, h2, rfl⟩
      · have hd := hdat c (List.mem_of_getElem? h1)
        rw [henc, List.getElem?_map] at h1
        obtain ⟨c', h3, rfl⟩ := Option.map_eq_some_iff.1 h1
        exact hdata (hr.2 j c' h3) hd.1 hd.2
      · rw [Nat.zero_add] at h2 ⊢
        rw [henc, List.getElem?_map] at h1
        obtain ⟨c', h3, h4⟩ := Option.map_eq_some_iff.1 h1
        obtain ⟨c'', h5, h6⟩ := ho j h2
        rw [h3] at h5; cases h5
        cases c' <;> simp [plainC] at h4
        rename_i E' l' ow'
        obtain ⟨rfl, h4, rfl⟩ := h4
        cases h4
        exact hown (hr.2 j _ h3) h6 fun u k e => hm j u k _ _ h2 (by rw [h3, e])
    have hboxes : ∀ t e, st2.ent t = some e → ∃ b, g2.bl t = some b ∧ BoxOK C.P C.D w g2 e b := fun t e hh => by
      rcases hent2 hh with ⟨hl, h2⟩ | ⟨hl, sl, y, h1, h2, h3⟩
      · obtain ⟨b, h3, h4⟩ := W.bx t e h2
        refine ⟨b, (hbl2 hh).trans h3, ?_, by rw [hok2]; exact h4.fz, by rw [hok2]; exact h4.own⟩
        obtain ⟨vs, E, h5, h6⟩ := h4.cells
        refine ⟨vs, E, h5, h6.imp fun c r hc hr => ?_⟩
        refine hr.reset (n := s0.top) hok2 hyl2 hrh2 (fun t => ?_) htvg ?_
        · rw [hbvg]
          rcases hbv2 t with h7 | ⟨h7, e', h8⟩
          · exact .inl h7
          · exact .inr ⟨h7, hbl2 h8⟩
        · -- its names are older than the loop
          obtain ⟨b0, h7, h8⟩ := h0.bx t e (hid_ent (by rw [← ehd]; exact hl))
          obtain ⟨vs0, E0, _, h9⟩ := h8.cells
          obtain ⟨i, hi, e1⟩ := List.getElem_of_mem hc
          have := h9.2 i c (by rw [List.getElem?_eq_getElem hi, e1])
          exact this.low (fun t => by rw [h0.bv]; exact s0.bv_top t) (fun t => by rw [h0.tv]; exact s0.tv_top t)
      · have hownall : ∀ {own : List Nat} {cs : List (PV T)}, own.all (fun j => match cs[j]? with | some c => ownCell s' c | none => false) = true → ∀ j, j ∈ own → ∃ c, cs[j]? = some c ∧ ownCell s' c = true := fun {own cs} hh j hj => by
          have := List.all_eq_true.1 hh j hj
          split at this
          · rename_i c hc; exact ⟨c, hc, this⟩
          · simp at this
        cases sl with
        | box t' E own =>
          obtain ⟨rfl, rfl⟩ := h3
          simp only [decSlot] at h2
          split at h2
          · rename_i cs hcs
            split at h2
            · rename_i hall'
              obtain ⟨b, vs, E', h4, h5, h6, h7, h8⟩ := hbxin hcs
              have hbv' : s'.bv t = s0.bv t := by rw [← W.bv]; exact h5
              exact ⟨b, (hbl2 hh).trans h4, ⟨vs, E', h6, hcells h7 (hD.dec E cs y h2) (fun c hc => hD.encData E y c hc) (hownall hall') fun j u k E'' l h9 h10 => slotToks_cell (.inl ⟨E, h1⟩) h9 (by rw [hbv']; exact hcs) h10⟩, fun hf => by simp at hf, fun _ => by rw [hok2]; exact h8⟩
            · simp at h2
          · simp at h2
        | arr t' A own =>
          obtain ⟨rfl, rfl⟩ := h3
          simp only [decSlot] at h2
          split at h2
          · rename_i cs hcs
            split at h2
            · rename_i hall'
              obtain ⟨b, vs, E', h4, h5, h6, h7, h8⟩ := hbxin hcs
              have hbv' : s'.bv t = s0.bv t := by rw [← W.bv]; exact h5
              obtain ⟨e1, e2⟩ := decTup_enc hD h2
              exact ⟨b, (hbl2 hh).trans h4, ⟨vs, E', h6, hcells h7 e1 e2 (hownall hall') fun j u k E'' l h9 h10 => slotToks_cell (.inr ⟨A, h1⟩) h9 (by rw [hbv']; exact hcs) h10⟩, fun hf => by simp at hf, fun _ => by rw [hok2]; exact h8⟩
            · simp at h2
          · simp at h2
        | var t' E =>
          obtain ⟨rfl, rfl⟩ := h3
          obtain ⟨k', cs, hget, hcs, h2⟩ := var_inv h2
          obtain ⟨b, vs, E', h4, h5, h6, h7, h8⟩ := hbxin hcs
          refine ⟨b, (hbl2 hh).trans h4, ⟨vs, E', h6, ?_⟩, fun hf => by simp at hf, fun _ => by rw [hok2]; exact h8⟩
          have henc := hD.dec E cs y h2
          refine ⟨by rw [henc]; simp [h7.1], fun j c hj => ?_⟩
          have hd := hD.encData E y c (List.mem_of_getElem? hj)
          rw [henc, List.getElem?_map] at hj
          obtain ⟨c', h9, rfl⟩ := Option.map_eq_some_iff.1 hj
          exact hdata (h7.2 j c' h9) hd.1 hd.2
        | tmp => exact h3.elim
        | own => exact h3.elim
        | log => exact h3.elim
    have hgle : GhLe g0 g2 := by
      refine ⟨fun t => ?_, fun t => .inl (by rw [htvg, h0.tv]; exact s0.tv_top t), by rw [hyl2]; exact hg.yl, by rw [hrh2]; exact hg.rh⟩
      have hlt := s0.bv_top t
      rw [hbvg, h0.bv]
      rcases hbv2 t with h7 | ⟨h7, e', h8⟩
      · exact .inl (by rw [h7]; exact hlt)
      · rw [h7, hbl2 h8]
        rcases hg.bl t with h9 | ⟨h9, h10⟩
        · exact .inl (by rw [← h0.bv]; exact h9)
        · exact .inr ⟨by rw [← h0.bv]; exact h9, h10⟩
    refine ⟨g2, ⟨hsize, hdefs, fun t ht => ?_, ?_⟩, hgle, hok2, fun b hb => by
      rcases hb with ⟨t, hb⟩ | ⟨t, e, hb⟩ | hb
      · exact .inl ⟨t, hblx hb⟩
      · obtain ⟨u, _, h2⟩ := htkx hb
        exact .inr (.inl ⟨u, e, h2⟩)
      · simp at hb⟩
    · -- temporaries
      unfold St.get
      split
      · rename_i c hc
        rw [← hst] at hc
        obtain ⟨sl, y, h1, h2, h3⟩ := emb_tm (s := s0.enter fixed hide) hall rfl hc
        cases sl with
        | tmp t' E =>
          obtain ⟨rfl, rfl⟩ := h3
          have hr := htm _ t h1 (by simp [Slot.tmId]) ht
          have h2 : C.D.unval E (s'.get t) = some y := h2
          have := unval_rel hD h2 hr
          exact val_rel (g := g2) hD (by rw [hok2]; exact this)
        | own t' E =>
          obtain ⟨rfl, rfl⟩ := h3
          have hr := htm _ t h1 (by simp [Slot.tmId]) ht
          simp only [decSlot] at h2
          split at h2
          · rename_i ho
            generalize hz : s'.get t = z at h2 ho hr
            cases z <;> simp [ownCell] at ho
            rename_i E' l' ow'
            simp only [ownList] at h2
            split at h2
            · rename_i hE _
              subst hE
              cases h2
              exact hown hr ho fun u k e => slotToks_own h1 (by rw [hz, e])
            · simp at h2
          · simp at h2
        | var t' E =>
          obtain ⟨rfl, rfl⟩ := h3
          have hr := htm _ t h1 (by simp [Slot.tmId]) ht
          obtain ⟨k', cs, hget, hcs, h2⟩ := var_inv h2
          rw [hget] at hr
          generalize hz : a.tmps.getD t undef = z at hr
          cases hr with
          | loc _ _ _ b hk hb =>
            obtain ⟨b', vs, E', h4, h5, _⟩ := hbxin hcs
            obtain ⟨e, he'⟩ := emb_has (D := C.D) (s0 := s0) (s := s0.enter fixed hide) (t := t) (v := x) h1 (by simp [Slot.boxId])
            rw [hst] at he'
            have hvis' := hvis _ t h1 (by simp [Slot.boxId])
            have hent : st2.ent t = some e := by simp [St.ent, hvis', he']
            have hver : st2.bv t = s0.top := by
              rcases hent2 hent with ⟨h6, _⟩ | ⟨_, sl, y', h6, h7, h8⟩
              · rw [hvis'] at h6; simp at h6
              · have hsl : sl = .var t E := by
                  refine flat_one (F := Slot.boxId) (t := t) hnb h6 h1 ?_ (by simp [Slot.boxId])
                  cases sl <;> first | exact h8.elim | (obtain ⟨rfl, _⟩ := h8; simp [Slot.boxId])
                subst hsl
                obtain ⟨_, rfl⟩ := h8
                simp [St.bv, hent]
            exact .loc t s0.top 0 b (by rw [hbvg, hver]; exact Nat.le_refl _) fun _ => by rw [hbl2 hent]; exact hb h5.symm
        | box => exact h3.elim
        | arr => exact h3.elim
        | log => exact h3.elim
      · split
        · rename_i c hc
          rw [efx] at hc
          exact (hfx t c ht hc).mono (by rw [hok2]; exact he) hgle
        · exact .undef _
    · refine ⟨hboxes, fun t ht => by rw [hg2]; simp [gEnter, ht], fun t => hbvg t, fun t => by rw [htvg, htv2], fun t t' b h1 h2 => W.inj t t' b (hblx h1) (hblx h2), fun t b h1 => W.blM t b (hblx h1), fun t b e h1 => ?_, fun t t' b e e' h1 h2 => ?_, fun t t' b e h1 h2 => ?_, by rw [hok2]; exact W.okin, W.Mlt, by rw [hok2]; exact W.okcg, by rw [hok2]; exact W.okM, W.dsM, W.dsnd, W.rr, by rw [hlg]; exact W.hJ, by rw [hrh2]; exact W.rh, by rw [hyl2]; exact W.yl, by rw [hrh2]; exact W.ry⟩
      · obtain ⟨u, _, h2⟩ := htkx h1
        rw [hok2]; exact W.tks u b e h2
      · obtain ⟨u, h3, h4⟩ := htkx h1
        obtain ⟨u', h5, h6⟩ := htkx h2
        have := W.tkinj u u' b e e' h4 h6
        subst this
        exact map_fst_inj hn1 h3 h5
      · obtain ⟨u, h3, h4⟩ := htkx h1
        exact W.tkbl u t' b e h4 (hblx h2)
  · simp at hx

end
end Go.Px

namespace Go.Px
variable {T : Nat → Type} {ρ : Type}

/-! ## Code: what stays -/

section
variable {C : Ctx T} {S : Specs T} {s s' s0 : St T} {g g0 : Gh} {M : Nat → Prop} {okc : Nat → Nat → Prop} {ds : List Nat} {a : Act} {w : World} {o : Oper} {v : PV T} {u : List (Upd T)} {f L K : List Nat} {Q : Exit → Act → World → Prop}
variable {P : Program} {D : Tab T} {ops : Array Oper} {A : Nat → Option Lp}

/-- what is logged goes on -/
structure LgInv (C : Ctx T) (l l' : LG T) : Prop where
  m : l'.m? = l.m?
  pre : C.pre l' → C.pre l

theorem LgInv.refl (C : Ctx T) (l : LG T) : LgInv C l l := ⟨rfl, id⟩
theorem LgInv.trans {l l1 l2 : LG T} (h : LgInv C l l1) (k : LgInv C l1 l2) : LgInv C l l2 := ⟨k.m.trans h.m, fun hp => h.pre (k.pre hp)⟩

theorem evOp_lgInv (hC : CtxOK C) (hS : SpecNat S) (hev : evOp C.D S s o k3 = some (v, u, f)) : LgInv C s.lg (s.upds u).lg := by
  refine ⟨?_, evOp_pre hC hS hev⟩
  rcases evOp_noLog hS hev with h1 | ⟨A, m, xs, x, d, h1, rfl⟩
  · rw [upds_lg h1]
  · rw [h1]; rfl

theorem evOpN_lgInv (hC : CtxOK C) (hS : SpecNat S) {k : PV T → List (Upd T) → List Nat → Option ρ} {r : ρ} (hev : evOpN C.D S s o k = some r) : ∃ v u f, k v u f = some r ∧ LgInv C s.lg (s.upds u).lg := by
  have plain : evOp C.D S s o k = some r → ∃ v u f, k v u f = some r ∧ LgInv C s.lg (s.upds u).lg := fun hev => by
    obtain ⟨v, u, f, h1, h2⟩ := evOp_some hS hev
    exact ⟨v, u, f, h2, evOp_lgInv hC hS h1⟩
  have nil : ∀ {α : Type} {l : List α} {b1 b2 : Bool}, nilK l (k (.bool b1) [] []) (k (.bool b2) [] []) = some r → ∃ v u f, k v u f = some r ∧ LgInv C s.lg (s.upds u).lg := fun {α l b1 b2} h => by
    unfold nilK at h
    split at h
    · split at h
      · exact ⟨_, _, _, h, LgInv.refl _ _⟩
      · simp at h
    · exact ⟨_, _, _, h, LgInv.refl _ _⟩
  unfold evOpN at hev
  repeat' (first | (simp at hev; done) | exact plain hev | exact nil hev | split at hev)

theorem evOps_inv (hC : CtxOK C) (hS : SpecNat S) {k : St T → Option ρ} {r : ρ} : ∀ (l : List Oper) (s : St T), evOps C.D S ops l s k = some r → ∃ s', k s' = some r ∧ s'.hd = s.hd ∧ LgInv C s.lg s'.lg
  | [], s, h => ⟨s, h, rfl, LgInv.refl _ _⟩
  | o :: l, s, h => by
    have go : ∀ s1 : St T, s1.hd = s.hd → s1.lg = s.lg → (evOpN C.D S s1 o fun v u _ => evOps C.D S ops l ((s1.upds u).putD o.dst v) k) = some r → ∃ s', k s' = some r ∧ s'.hd = s.hd ∧ LgInv C s.lg s'.lg := fun s1 e1 e2 h => by
      obtain ⟨v, u, f, h1, h2⟩ := evOpN_lgInv hC hS h
      obtain ⟨s', a1, a2, a3⟩ := evOps_inv hC hS l _ h1
      rw [putD_hd, upds_hd] at a2
      rw [putD_lg] at a3
      rw [e2] at h2
      exact ⟨s', a1, a2.trans e1, h2.trans a3⟩
    have off : ∀ s1 : St T, s1.hd = s.hd → s1.lg = s.lg → evOps C.D S ops l (s1.putD o.dst .skip) k = some r → ∃ s', k s' = some r ∧ s'.hd = s.hd ∧ LgInv C s.lg s'.lg := fun s1 e1 e2 h => by
      obtain ⟨s', a1, a2, a3⟩ := evOps_inv hC hS l _ h
      rw [putD_hd] at a2
      rw [putD_lg, e2] at a3
      exact ⟨s', a1, a2.trans e1, a3⟩
    simp only [evOps] at h
    split at h
    · exact go s rfl rfl h
    · split at h
      · simp at h
      · split at h
        · simp at h
        · split at h
          · split at h <;> rw [cond_eq_ite] at h <;> split at h
            · refine go _ ?_ ?_ h <;> rfl
            · refine off _ ?_ ?_ h <;> rfl
            · refine off _ ?_ ?_ h <;> rfl
            · refine go _ ?_ ?_ h <;> rfl
          · exact off _ rfl rfl h
          · simp at h

theorem chain_inv (hC : CtxOK C) (hS : SpecNat S) : ∀ {items : List (Oper × Rc T)} {s : St T}, Chain C.D S ops s items → (stt s items).hd = s.hd ∧ LgInv C s.lg (stt s items).lg
  | [], s, _ => ⟨rfl, LgInv.refl _ _⟩
  | y :: r, s, hc => by
    obtain ⟨h1, h2⟩ := chain_inv hC hS hc.2
    simp only [stt]
    unfold app at h1 h2 ⊢
    rw [putD_hd, upds_hd] at h1
    rw [putD_lg] at h2
    refine ⟨h1, LgInv.trans ?_ h2⟩
    rcases hc.1 with ⟨_, h3⟩ | ⟨_, h3⟩
    · exact evOp_lgInv hC hS h3
    · rw [h3]; exact LgInv.refl _ _

theorem evOpsD_inv (hC : CtxOK C) (hS : SpecNat S) {k : St T → Option ρ} {r : ρ} (h : evOpsD C.D S ops ops.toList 0 [] s k = some r) : ∃ s', k s' = some r ∧ s'.hd = s.hd ∧ LgInv C s.lg s'.lg := by
  obtain ⟨items, s', a1, a2, a3, a4, _, _⟩ := evOpsD_run hS _ _ _ _ h
  obtain ⟨h1, h2⟩ := chain_inv hC hS a2
  have hlg := (a3 [] [2 * LOG]).lg (by simp)
  exact ⟨s', a4, ((a3 [] []).hd).trans h1, by rw [hlg]; exact h2⟩

/-! ### The log at a loop's head -/

theorem emb_log_other {sl : Slot} {y : sl.Ty T} (h : ∀ A, sl ≠ .log A) : (embSlot D s0 s sl y).lg = s.lg := by
  cases sl <;> first | rfl | exact absurd rfl (h _)

theorem emb_lg0 : ∀ {x : List Slot} {v : SlotsTy T x}, hasLog x = false → (embSlots D s0 s x v).lg = s.lg := by
  intro x
  induction x with
  | nil => intro v _; rfl
  | cons sl r ih =>
    intro v h
    have hn : ∀ A, sl ≠ .log A := fun A e => by subst e; simp [hasLog] at h
    have hr : hasLog r = false := by cases sl <;> first | exact h | exact absurd rfl (hn _)
    cases r with
    | nil => exact emb_log_other hn
    | cons y r => exact (emb_log_other hn).trans (ih hr)

theorem emb_lg1 (hm : s'.lg.m? = s0.lg.m?) : ∀ {x : List Slot} {v : SlotsTy T x}, hasLog x = true → AllS (fun sl y => decSlot D s0 s' sl = some y) x v → (embSlots D s0 s x v).lg = s'.lg := by
  have here : ∀ {st : St T} {B : List Nat} {y : Slot.Ty T (.log B)}, decSlot D s0 s' (.log B) = some y → (embSlot D s0 st (.log B) y).lg = s'.lg := by
    intro st B y h
    have h : (match s'.lg with
      | .log A' _ xs false => match decEq A' B with
        | .isTrue h => some (h ▸ xs)
        | .isFalse _ => none
      | _ => none) = some y := h
    split at h
    · rename_i A' m xs hl
      split at h
      · rename_i hA _
        subst hA
        cases h
        rw [hl] at hm
        show (match s0.lg with
          | .log _ m _ _ => (⟨st.tm, st.fx, st.bx, st.hd, st.tk, st.base, .log A' m xs false⟩ : St T)
          | .no => st).lg = s'.lg
        cases h0 : s0.lg with
        | no => rw [h0] at hm; simp [LG.m?] at hm
        | log A2 m2 x2 d2 => rw [h0] at hm; simp [LG.m?] at hm; simp [hm, hl]
      · simp at h
    · simp at h
  intro x
  induction x with
  | nil => intro v h; simp [hasLog] at h
  | cons sl r ih =>
    intro v h hall
    by_cases hl : ∃ B, sl = .log B
    · obtain ⟨B, rfl⟩ := hl
      cases r with
      | nil => exact here hall
      | cons y r => exact here hall.1
    · have hn : ∀ A, sl ≠ .log A := fun A e => hl ⟨A, e⟩
      have hr : hasLog r = true := by cases sl <;> first | exact h | exact absurd rfl (hn _)
      cases r with
      | nil => simp [hasLog] at hr
      | cons y r => exact (emb_log_other hn).trans (ih hr hall.2)

/-- the head's log is the one at hand -/
theorem head_lg {x : List Slot} {v : SlotsTy T x} (hm : s'.lg.m? = s0.lg.m?) (hs : s.lg = .no) (h : takeSlots D s0 s' x = some v) : (embSlots D s0 s x v).lg = s'.lg := by
  unfold takeSlots at h
  split at h
  · rename_i hc
    simp only [Bool.and_eq_true] at hc
    cases hl : hasLog x with
    | true => exact emb_lg1 hm hl (decSlots_all h)
    | false =>
      rw [emb_lg0 hl, hs]
      have := hc.2
      split at this
      · rename_i h2; exact h2.symm
      · rw [hl] at this; simp at this
  · simp at h

/-! ### Code -/

theorem unroll_inv {body : (Ex → St T → Option ρ) → St T → Option ρ} {k : Ex → St T → Option ρ} {r : ρ} (hb : ∀ (k' : Ex → St T → Option ρ) s, body k' s = some r → ∃ e s', k' e s' = some r ∧ s'.hd = s.hd ∧ LgInv C s.lg s'.lg) :
    ∀ (m : Nat) (s : St T), unrollN body k m s = some r → ∃ e s', k e s' = some r ∧ s'.hd = s.hd ∧ LgInv C s.lg s'.lg
  | 0, s, h => by simp [unrollN] at h
  | m + 1, s, h => by
    simp only [unrollN] at h
    obtain ⟨e, s1, h1, h2, h3⟩ := hb _ s h
    cases e with
    | normal =>
      obtain ⟨e', s2, h4, h5, h6⟩ := unroll_inv hb m s1 h1
      exact ⟨e', s2, h4, h5.trans h2, h3.trans h6⟩
    | exit id => exact ⟨_, s1, h1, h2, h3⟩
    | ret => exact ⟨_, s1, h1, h2, h3⟩

theorem evCode_inv (hC : CtxOK C) (hS : SpecNat S) : ∀ (c : Code) (n : Nat) {ρ : Type} (k : Ex → St T → Option ρ) (s : St T) (r : ρ), evCode C.D S A c n k s = some r → ∃ e s', k e s' = some r ∧ s'.hd = s.hd ∧ LgInv C s.lg s'.lg := by
  intro c
  induction c with
  | skip => exact fun n ρ k s r h => ⟨_, s, h, rfl, LgInv.refl _ _⟩
  | label l => exact fun n ρ k s r h => ⟨_, s, h, rfl, LgInv.refl _ _⟩
  | exit id => exact fun n ρ k s r h => ⟨_, s, h, rfl, LgInv.refl _ _⟩
  | ret => exact fun n ρ k s r h => ⟨_, s, h, rfl, LgInv.refl _ _⟩
  | region id ops draw =>
    intro n ρ k s r h
    simp only [evCode] at h
    cases draw with
    | true => obtain ⟨s', h1, h2, h3⟩ := evOpsD_inv hC hS h; exact ⟨_, s', h1, h2, h3⟩
    | false => obtain ⟨s', h1, h2, h3⟩ := evOps_inv hC hS _ _ h; exact ⟨_, s', h1, h2, h3⟩
  | seq a b iha ihb =>
    intro n ρ k s r h
    simp only [evCode] at h
    obtain ⟨e, s1, h1, h2, h3⟩ := iha _ _ _ _ h
    cases e with
    | normal =>
      obtain ⟨e', s2, h4, h5, h6⟩ := ihb _ _ _ _ h1
      exact ⟨e', s2, h4, h5.trans h2, h3.trans h6⟩
    | exit id => exact ⟨_, s1, h1, h2, h3⟩
    | ret => exact ⟨_, s1, h1, h2, h3⟩
  | cond c a b iha ihb =>
    intro n ρ k s r h
    simp only [evCode] at h
    split at h
    · rw [cond_eq_ite] at h
      split at h
      · exact iha _ _ _ _ h
      · exact ihb _ _ _ _ h
    · simp at h
  | block id c ih =>
    intro n ρ k s r h
    simp only [evCode] at h
    obtain ⟨e, s1, h1, h2, h3⟩ := ih _ _ _ _ h
    cases e with
    | normal => exact ⟨_, s1, h1, h2, h3⟩
    | exit i =>
      simp only at h1
      split at h1
      · exact ⟨_, s1, h1, h2, h3⟩
      · exact ⟨_, s1, h1, h2, h3⟩
    | ret => exact ⟨_, s1, h1, h2, h3⟩
  | loop c ih =>
    intro n ρ k s r h
    simp only [evCode] at h
    split at h
    · rename_i m _
      exact unroll_inv (fun k' s hb => ih n k' s r hb) m s h
    · rename_i slots fixed hide _
      split at h
      · rename_i hok
        obtain ⟨x0, h1, h2⟩ := Option.bind_eq_some_iff.1 h
        obtain ⟨N, h3⟩ := loopM_some.1 h2
        have key : ∀ (N : Nat) (x : SlotsTy T slots) (s1 : St T), takeSlots C.D s s1 slots = some x → LgInv C s.lg s1.lg → loopN (fun x => evCode C.D S A c n (fun e s' => match e with
            | .normal => (takeSlots C.D s s' slots).bind fun y => some (.inl y)
            | e => (k e (s.leave s' hide)).map .inr) (embSlots C.D s (s.enter fixed hide) slots x)) N x = some r → ∃ e s', k e s' = some r ∧ s'.hd = s.hd ∧ LgInv C s.lg s'.lg := by
          intro N
          induction N with
          | zero => intro x s1 _ _ h; simp [loopN] at h
          | succ N ihN =>
            intro x s1 ht hl h
            have hhead := head_lg (s := s.enter fixed hide) hl.m rfl ht
            simp only [loopN] at h
            split at h
            · simp at h
            · rename_i y hy
              obtain ⟨e, s2, h5, h6, h7⟩ := ih n _ _ _ hy
              rw [hhead] at h7
              cases e with
              | normal =>
                simp only at h5
                obtain ⟨z, h8, h9⟩ := Option.bind_eq_some_iff.1 h5
                cases h9
                exact ihN _ s2 h8 (hl.trans h7) h
              | exit i => cases hk : k (.exit i) (s.leave s2 hide) <;> simp [hk] at h5
              | ret => cases hk : k .ret (s.leave s2 hide) <;> simp [hk] at h5
            · rename_i y hy
              obtain ⟨e, s2, h5, h6, h7⟩ := ih n _ _ _ hy
              rw [hhead] at h7
              cases h
              have hl2 := hl.trans h7
              cases e with
              | normal =>
                simp only at h5
                obtain ⟨z, h8, h9⟩ := Option.bind_eq_some_iff.1 h5
                cases h9
              | exit i =>
                cases hk : k (.exit i) (s.leave s2 hide) with
                | none => simp [hk] at h5
                | some q => simp [hk] at h5; subst h5; exact ⟨_, _, hk, rfl, hl2⟩
              | ret =>
                cases hk : k .ret (s.leave s2 hide) with
                | none => simp [hk] at h5
                | some q => simp [hk] at h5; subst h5; exact ⟨_, _, hk, rfl, hl2⟩
        exact key N x0 s h1 (LgInv.refl _ _) h3
      · simp at h
    · simp at h
  | rangeFunc f params assign body iha ihb =>
    intro n ρ k s r h
    simp only [evCode] at h
    split at h
    · rename_i As xs slots fixed hide _ _
      split at h
      · rename_i hok
        obtain ⟨x0, h1, h2⟩ := Option.bind_eq_some_iff.1 h
        have key : ∀ (xs : List (Tup T As)) (x : SlotsTy T slots) (s1 : St T), takeSlots C.D s s1 slots = some x → LgInv C s.lg s1.lg → forL (fun x acc => evCode C.D S A assign n (fun e s' => match e with
            | .normal => evCode C.D S A body n (fun e s' => match e with
              | .normal => (takeSlots C.D s s' slots).bind fun y => some (.inl y)
              | e => (k e (s.after s' hide)).map .inr) s'
            | _ => none) (putAll (embSlots C.D s (s.enter fixed hide) slots acc) params.toList (tupVals C.D As x)))
          (fun acc => k .normal (s.after (embSlots C.D s (s.enter fixed hide) slots acc) hide)) xs x = some r → ∃ e s', k e s' = some r ∧ s'.hd = s.hd ∧ LgInv C s.lg s'.lg := by
          intro xs
          induction xs with
          | nil =>
            intro x s1 ht hl h
            have hhead := head_lg (s := s.enter fixed hide) hl.m rfl ht
            refine ⟨_, _, h, rfl, ?_⟩
            show LgInv C s.lg (embSlots C.D s (s.enter fixed hide) slots x).lg
            rw [hhead]; exact hl
          | cons p xs ihx =>
            intro x s1 ht hl h
            have hhead := head_lg (s := s.enter fixed hide) hl.m rfl ht
            simp only [forL] at h
            obtain ⟨y, hy, h⟩ := Option.bind_eq_some_iff.1 h
            have hput : ∀ (ts : List Nat) (vs : List (PV T)) (q : St T), (putAll q ts vs).lg = q.lg := by
              intro ts
              induction ts with
              | nil => intro vs q; rfl
              | cons t ts iht => intro vs q; cases vs with
                | nil => rfl
                | cons v vs => exact iht vs (q.put t v)
            obtain ⟨e, s2, h5, h6, h7⟩ := iha n _ _ _ hy
            rw [hput, hhead] at h7
            cases e with
            | normal =>
              simp only at h5
              obtain ⟨e, s3, h8, h9, h10⟩ := ihb n _ _ _ h5
              have hl3 := hl.trans (h7.trans h10)
              cases e with
              | normal =>
                simp only at h8
                obtain ⟨z, h11, h12⟩ := Option.bind_eq_some_iff.1 h8
                cases h12
                exact ihx _ s3 h11 hl3 h
              | exit i =>
                cases hk : k (.exit i) (s.after s3 hide) with
                | none => simp [hk] at h8
                | some q => simp [hk] at h8; subst h8; cases h; exact ⟨_, _, hk, rfl, hl3⟩
              | ret =>
                cases hk : k .ret (s.after s3 hide) with
                | none => simp [hk] at h8
                | some q => simp [hk] at h8; subst h8; cases h; exact ⟨_, _, hk, rfl, hl3⟩
            | exit i => simp at h5
            | ret => simp at h5
        exact key xs x0 s h1 (LgInv.refl _ _) h2
      · simp at h
    · simp at h
  | _ => intro n ρ k s r h; simp [evCode] at h

end
end Go.Px

namespace Go.Px
variable {T : Nat → Type} {ρ : Type}

/-! ## A range over a function -/

def toEx : Ex → Exit
  | .normal => .normal
  | .exit i => .exit i
  | .ret => .ret

def exCode : Ex → Option Code
  | .normal => none
  | .exit i => some (.exit i)
  | .ret => some .ret

/-- what code writes -/
def wrc (c : Code) (t : Nat) : Prop := (asg c).testBit t = true

/-- code does as it is evaluated -/
def CodeOK (S : Specs T) (A : Nat → Option Lp) (c : Code) : Prop := ∀ (C : Ctx T), CtxOK C → SpecOK C.P C.D S → ∀ (n : Nat) {ρ : Type} (k : Ex → St T → Option ρ) (s : St T) (r : ρ) {g : Gh} {M : Nat → Prop} {okc : Nat → Nat → Prop} {ds : List Nat} {a : Act} {w : World} {Q : Exit → Act → World → Prop},
  codeOk C.nt c = true → evCode C.D S A c n k s = some r → SR C s g M okc ds a w → (∀ e s', k e s' = some r → s'.lg.m? = s.lg.m? → C.pre s'.lg ∧ QOK C Q (wrc c) s g a w (toEx e) s') → c.wpIn (FW C.ro) 0 C.P Q a w

section
variable {C : Ctx T} {S : Specs T} {s s' s0 : St T} {g g0 : Gh} {M : Nat → Prop} {okc : Nat → Nat → Prop} {ds : List Nat} {a : Act} {w : World} {o : Oper} {v : PV T} {u : List (Upd T)} {f L K : List Nat} {Q : Exit → Act → World → Prop}
variable {P : Program} {D : Tab T} {ops : Array Oper} {A : Nat → Option Lp}

/-- the same memory, with something else around it, and other marks -/
theorem WR.shift2 (h : WR C s g M okc ds w) (V' : Outer) (ro' : Option Nat) (pre' : LG T → Prop) {s' : St T} {M' : Nat → Prop} {okc' ok' : Nat → Nat → Prop} {ds' : List Nat} {w' : World}
    (hent : ∀ t, s'.ent t = s.ent t) (hbv : ∀ t, s'.bv t = s.bv t) (htv : ∀ t, s'.tv t = s.tv t)
    (hsz : w.heap.size ≤ w'.heap.size) (hown : ∀ b, OwnB g [] b → w'.heap[b]? = w.heap[b]?) (hcell : ∀ b o, g.ok b o → w'.cell? ⟨b, o, none⟩ = w.cell? ⟨b, o, none⟩)
    (hok : ∀ b o, g.ok b o → ok' b o) (hnew : ∀ b o, ok' b o → g.ok b o ∨ ¬ OwnB g [] b) (hin : OkIn w' ok') (hM : ∀ b, OwnB g [] b → ¬ M' b)
    (hlt : ∀ b, M' b → b < w'.heap.size) (hcg : ∀ b o, okc' b o → ok' b o) (hcM : ∀ b o, ok' b o → okc' b o ∨ ¬ M' b) (hrr : RoundRec w' M' ro') (hJ : V'.J s'.lg.len M' okc' w')
    (hrh : ∀ b x, g.rh b = some x → M' b ∧ w'.heap[b]? = some x) (hds : ∀ b, b ∈ ds' → w'.heap[b]? = some (.deferred (some [])) ∧ ¬ M' b) (hnd : ds'.Nodup) :
    WR ⟨C.P, C.D, V', C.nt, ro', C.yl, pre'⟩ s' { g with ok := ok' } M' okc' ds' w' ∧ Evo w g.ok w' ok' := by
  have h0 : WR C s g M okc [] w := ⟨h.bx, h.nb, h.bv, h.tv, h.inj, h.blM, h.tks, h.tkinj, h.tkbl, h.okin, h.Mlt, h.okcg, h.okM, fun b hb => by simp at hb, .nil, h.rr, h.hJ, h.rh, h.yl, h.ry⟩
  obtain ⟨W, E⟩ := h0.shift V' ro' pre' hent hbv htv hsz hown hcell hok hnew hin hM hlt hcg hcM hrr hJ hrh
  exact ⟨⟨W.bx, W.nb, W.bv, W.tv, W.inj, W.blM, W.tks, W.tkinj, W.tkbl, W.okin, W.Mlt, W.okcg, W.okM, hds, hnd, W.rr, W.hJ, W.rh, W.yl, W.ry⟩, E⟩

theorem WR.own_lt (h : WR C s g M okc ds w) {b : Nat} (hb : OwnB g [] b) : ∃ vs E, w.heap[b]? = some (.cells vs E (0, 0)) := by
  rcases hb with ⟨t, hb⟩ | ⟨t, e, hb⟩ | hb
  · cases he : s.ent t with
    | none => rw [h.nb t he] at hb; simp at hb
    | some e =>
      obtain ⟨b', h1, h2⟩ := h.bx t e he
      obtain ⟨vs, E, h3, _⟩ := h2.cells
      rw [hb] at h1; cases h1
      exact ⟨vs, E, h3⟩
  · obtain ⟨⟨vs, E, h1, _⟩, _⟩ := h.tks t b e hb
    exact ⟨vs, E, h1⟩
  · simp at hb

theorem WR.own_M (h : WR C s g M okc ds w) {b : Nat} (hb : OwnB g [] b) : ¬ M b := by
  rcases hb with ⟨t, hb⟩ | ⟨t, e, hb⟩ | hb
  · exact h.blM t b hb
  · exact (h.tks t b e hb).2.2
  · simp at hb

/-- what a round knows of what is around it -/
structure RJ (V : Outer) (w0 : World) (Mc0 Mo0 : Nat → Prop) (ok0 : Nat → Nat → Prop) (l : Nat) (rl : Loop) (n : Nat) (Mc : Nat → Prop) (okc : Nat → Nat → Prop) (w : World) (Mo : Nat → Prop) (oko : Nat → Nat → Prop) : Prop where
  J : V.J n Mo oko w
  sub : ∀ b, Mo b → Mc b
  ext : ∀ b, Mc0 b → Mc b
  bnd : ∀ b, Mc b → Mc0 b ∨ Mo b
  old : ∀ b, Mo0 b → Mo b
  new : ∀ b, Mo b → Mo0 b ∨ w0.heap.size ≤ b
  cg : ∀ b o, oko b o → okc b o
  cM : ∀ b o, okc b o → oko b o ∨ ¬ Mo b
  cb : ∀ b o, okc b o → ok0 b o ∨ Mo b ∨ ¬ Mc0 b
  os : w.os = w0.os
  tape : w.tape = w0.tape
  output : w.output = w0.output
  size : w0.heap.size ≤ w.heap.size
  same : ∀ b, Mc0 b → ¬ Mo0 b → b ≠ l → w.heap[b]? = w0.heap[b]?
  rec_ : w.heap[l]? = some (.loop rl)

def roundV (V : Outer) (w0 : World) (Mc0 Mo0 : Nat → Prop) (ok0 : Nat → Nat → Prop) (l : Nat) (rl : Loop) : Outer where
  J n Mc okc w := ∃ Mo oko, RJ V w0 Mc0 Mo0 ok0 l rl n Mc okc w Mo oko

theorem roundCtx (hC : CtxOK C) {w0 : World} {Mc0 Mo0 : Nat → Prop} {ok0 : Nat → Nat → Prop} {l : Nat} {r0 : Loop} (hlM : Mc0 l) (hlo : ¬ Mo0 l) (hM0 : ∀ b, Mc0 b → b < w0.heap.size) :
    CtxOK (⟨C.P, C.D, roundV C.V w0 Mc0 Mo0 ok0 l r0, C.nt, some l, C.yl, C.pre⟩ : Ctx T) := by
  refine ⟨?_, ?_, hC.tab, hC.back, ?_⟩
  · rintro n Mc okc w w' ⟨Mo, oko, h⟩ q
    refine ⟨Mo, oko, hC.stable _ _ _ _ _ h.J ⟨q.os, q.tape, q.output, q.size, fun b hb => q.block b (h.sub b hb), fun b o hb => q.cell b o (h.cg b o hb)⟩, h.sub, h.ext, h.bnd, h.old, h.new, h.cg, h.cM, h.cb,
      q.os.trans h.os, q.tape.trans h.tape, q.output.trans h.output, Nat.le_trans h.size q.size, fun b h1 h2 h3 => (q.block b (h.ext b h1)).trans (h.same b h1 h2 h3), (q.block l (h.ext l hlM)).trans h.rec_⟩
  · rintro n Mc okc w ⟨Mo, oko, h⟩
    exact ⟨r0, h.rec_, h.ext l hlM⟩
  · intro l' hl' B m xs x hp Mc okc w hJ hlt ok hin hcg hcM vals hv1 hv2
    obtain ⟨Mo, oko, h⟩ := hJ
    obtain ⟨fn, tmps, assign, body, h1, h2⟩ := hC.yld l' hl' B m xs x hp Mo oko w h.J (fun b hb => hlt b (h.sub b hb)) ok hin (fun b o hb => hcg b o (h.cg b o hb))
      (fun b o hb => by
        rcases hcM b o hb with h3 | h3
        · exact h.cM b o h3
        · exact .inr fun h4 => h3 (h.sub b h4)) vals hv1 hv2
    refine ⟨fn, tmps, assign, body, h1, h2.mono ?_⟩
    rintro e w' ⟨Mo2, oko2, rfl, hJ2, hd⟩
    refine ⟨fun b => Mc b ∨ Mo2 b, fun b o => okc b o ∨ oko2 b o, rfl, ⟨Mo2, oko2, hJ2, fun b hb => .inr hb, fun b hb => .inl (h.ext b hb), fun b hb => ?_, fun b hb => hd.mono b (h.old b hb), fun b hb => ?_, fun b o hb => .inr hb, fun b o hb => ?_, fun b o hb => ?_,
      hd.os.trans h.os, hd.tape.trans h.tape, hd.output.trans h.output, Nat.le_trans h.size hd.size, fun b h3 h4 h7 => ?_, ?_⟩, ⟨hd.os, hd.tape, hd.output, hd.size, fun b hb => .inl hb, fun b hb => ?_, fun b hb => ?_, fun b hb hn => hd.block b hb fun h3 => hn (h.sub b h3), fun b o hb => .inl hb, fun b o hb => ?_, hd.cell, fun b o hb => ?_⟩⟩
    · rcases hb with hb | hb
      · rcases h.bnd b hb with h3 | h3
        · exact .inl h3
        · exact .inr (hd.mono b h3)
      · exact .inr hb
    · rcases hd.new b hb with h3 | h3
      · exact h.new b h3
      · exact .inr (Nat.le_trans h.size h3)
    · rcases hb with hb | hb
      · rcases h.cM b o hb with h3 | h3
        · exact .inl (hd.okc b o h3)
        · refine .inr fun h4 => ?_
          rcases hd.new b h4 with h5 | h5
          · exact h3 h5
          · have := hin b o (hcg b o hb); omega
      · exact .inl hb
    · rcases hb with hb | hb
      · rcases h.cb b o hb with h3 | h3 | h3
        · exact .inl h3
        · exact .inr (.inl (hd.mono b h3))
        · exact .inr (.inr h3)
      · rcases hd.oknew b o hb with h3 | h3
        · rcases hcM b o h3 with h4 | h4
          · rcases h.cb b o h4 with h3 | h3 | h3
            · exact .inl h3
            · exact .inr (.inl (hd.mono b h3))
            · exact .inr (.inr h3)
          · exact .inr (.inr fun h5 => h4 (h.ext b h5))
        · exact .inr (.inl h3)
    · have hnm : ¬ Mo b := fun h5 => by
        rcases h.new b h5 with h6 | h6
        · exact h4 h6
        · have := hM0 b h3; omega
      exact (hd.block b (hlt b (h.ext b h3)) hnm).trans (h.same b h3 h4 h7)
    · have hnm : ¬ Mo l := fun h5 => by
        rcases h.new l h5 with h6 | h6
        · exact hlo h6
        · have := hM0 l hlM; omega
      exact (hd.block l (hlt l (h.ext l hlM)) hnm).trans h.rec_
    · rcases hb with hb | hb
      · exact .inl hb
      · rcases hd.new b hb with h3 | h3
        · exact .inl (h.sub b h3)
        · exact .inr h3
    · rcases hb with hb | hb
      · exact Nat.lt_of_lt_of_le (hlt b hb) hd.size
      · exact hd.lt b hb
    · rcases hb with hb | hb
      · exact .inl (hcg b o hb)
      · rcases hd.oknew b o hb with h3 | h3
        · exact .inl h3
        · exact .inr (.inr h3)
    · rcases hb with hb | hb
      · exact Nat.lt_of_lt_of_le (hin b o (hcg b o hb)) hd.size
      · exact hd.oklt b o hb

/-! ### The rounds, as they are evaluated -/

theorem forL_cases {σ α : Type} {step : α → σ → Option (σ ⊕ ρ)} {fin : σ → Option ρ} {r : ρ} : ∀ {xs : List α} {x0 : σ}, forL step fin xs x0 = some r →
    (∃ acc : Nat → σ, acc 0 = x0 ∧ (∀ i x, xs[i]? = some x → step x (acc i) = some (.inl (acc (i + 1)))) ∧ fin (acc xs.length) = some r) ∨
    (∃ i x, ∃ acc : Nat → σ, acc 0 = x0 ∧ xs[i]? = some x ∧ (∀ j y, j < i → xs[j]? = some y → step y (acc j) = some (.inl (acc (j + 1)))) ∧ step x (acc i) = some (.inr r))
  | [], x0, h => .inl ⟨fun _ => x0, rfl, fun i x hx => by simp at hx, h⟩
  | y :: ys, x0, h => by
    simp only [forL] at h
    obtain ⟨z, h1, h2⟩ := Option.bind_eq_some_iff.1 h
    cases z with
    | inl x1 =>
      rcases forL_cases (xs := ys) h2 with ⟨acc, a1, a2, a3⟩ | ⟨i, x, acc, a1, a2, a3, a4⟩
      · refine .inl ⟨fun i => match i with | 0 => x0 | i + 1 => acc i, rfl, fun i x hx => ?_, a3⟩
        cases i with
        | zero => simp at hx; subst hx; simp only [a1]; exact h1
        | succ i => exact a2 i x (by simpa using hx)
      · refine .inr ⟨i + 1, x, fun i => match i with | 0 => x0 | i + 1 => acc i, rfl, by simpa using a2, fun j y' hj hy => ?_, a4⟩
        cases j with
        | zero => simp at hy; subst hy; simp only [a1]; exact h1
        | succ j => exact a3 j y' (by omega) (by simpa using hy)
    | inr z => cases h2; exact .inr ⟨0, y, fun _ => x0, rfl, rfl, fun j _ hj => by omega, h1⟩

theorem putAll_same {s : St T} : ∀ (ts : List Nat) (vs : List (PV T)) (s : St T), (putAll s ts vs).hd = s.hd ∧ (putAll s ts vs).bx = s.bx ∧ (putAll s ts vs).tk = s.tk ∧ (putAll s ts vs).base = s.base ∧ (putAll s ts vs).lg = s.lg
  | [], _, _ => ⟨rfl, rfl, rfl, rfl, rfl⟩
  | t :: ts, [], _ => ⟨rfl, rfl, rfl, rfl, rfl⟩
  | t :: ts, v :: vs, q => putAll_same (s := s) ts vs (q.put t v)

theorem tupVals_len : ∀ {A : List Nat} {x : Tup T A}, (tupVals D A x).length = A.length := by
  intro A
  induction A with
  | nil => intro x; rfl
  | cons a A ih =>
    intro x
    cases A with
    | nil => rfl
    | cons b A => simp only [tupVals, List.length_cons]; rw [ih]; rfl

/-- parameters are set -/
theorem putAll_rel {nt : Nat} {R : Nat → Value} : ∀ (ts : List Nat) (vs : List (PV T)) (vals : List Value) (q : St T) (tm : Array Value), tm.size = nt → (∀ t, t ∈ ts → t < nt) → vals.length = vs.length → (∀ (i : Nat) (c : PV T), vs[i]? = some c → ∃ x, vals[i]? = some x ∧ Rel P D w g c x) →
    (∀ t, t < nt → Rel P D w g (q.get t) (tm.getD t undef)) → ((ts.zip vals).foldl (fun tmps (p : Nat × Value) => tmps.setIfInBounds p.1 p.2) tm).size = nt ∧
    ∀ t, t < nt → Rel P D w g ((putAll q ts vs).get t) (((ts.zip vals).foldl (fun tmps (p : Nat × Value) => tmps.setIfInBounds p.1 p.2) tm).getD t undef)
  | [], vs, vals, q, tm, h1, _, _, _, h => ⟨by simpa using h1, by simpa [putAll] using h⟩
  | t :: ts, [], vals, q, tm, h1, _, h3, _, h => by
    have : vals = [] := by cases vals; rfl; simp at h3
    subst this
    exact ⟨by simpa using h1, by simpa [putAll] using h⟩
  | t :: ts, v :: vs, [], q, tm, _, _, h3, _, _ => by simp at h3
  | t :: ts, v :: vs, x :: vals, q, tm, h1, h2, h3, h4, h => by
    simp only [List.zip_cons_cons, List.foldl_cons, putAll]
    have hlt := h2 t (by simp)
    obtain ⟨x', e1, e2⟩ := h4 0 v rfl
    simp at e1; subst e1
    refine putAll_rel (R := R) ts vs vals (q.put t v) _ (by simp [h1]) (fun t' ht => h2 t' (by simp [ht])) (by simpa using h3) (fun i c hi => h4 (i + 1) c (by simpa using hi)) fun t' ht' => ?_
    by_cases e : t = t'
    · subst e
      rw [St.get_put_eq]
      have : (tm.setIfInBounds t x).getD t undef = x := by simp [Array.getD, h1, hlt]
      rw [this]; exact e2
    · rw [St.get_put_ne e]
      have : (tm.setIfInBounds t x).getD t' undef = tm.getD t' undef := getD_set_ne e
      rw [this]; exact h t' ht'

theorem boxSlots_tm : ∀ {l : List Slot}, boxSlots l = true → ∀ sl, sl ∈ l → sl.tmId = []
  | [], _, sl, h => by simp at h
  | x :: r, hb, sl, h => by
    cases x <;> simp only [boxSlots] at hb <;> first | (simp at hb; done) | skip
    all_goals
      rcases List.mem_cons.1 h with rfl | h
      · rfl
      · exact boxSlots_tm hb sl h

/-- **the mark of a loop that stands outermost, the record** -/
theorem enter_loop (hC : CtxOK C) (h : SR C s g M okc ds a w) (fn : FuncId) (ps : Array Tmp) (assign body : Code) : ∃ l mark ds1 w1 Dd,
    (Instr.enterLoop fn a.tmps ps assign body C.ro).run C.P w = .ok (l, mark) w1 ∧ mark ++ a.defers = marksD ds1 ∧ SR C s g M okc ds1 { a with defers := mark ++ a.defers } w1 ∧ Evo w g.ok w1 g.ok ∧
    w1.heap[l]? = some (.loop { state := .ready, pending := none, fn, tmps := a.tmps, params := ps, assign, body, defers := Dd }) ∧ ¬ M l ∧ ¬ OwnB g ds1 l ∧ w1.os = w.os ∧ w1.tape = w.tape ∧ w1.output = w.output := by
  have W := h.wr
  have hev : ∀ (w : World) (x : Obj), Evo w g.ok (w.alloc x) g.ok → True := fun _ _ _ => trivial
  have alloc1 : ∀ {ds : List Nat} {w : World} (x : Obj), WR C s g M okc ds w → WR C s g M okc ds (w.alloc x) ∧ Evo w g.ok (w.alloc x) g.ok := fun {ds w} x W => by
    have := W.alloc hC x (ok2 := g.ok) (fun _ _ => id) (fun _ _ => .inl)
    exact this
  cases hro : C.ro with
  | none =>
    obtain ⟨W1, E1⟩ := alloc1 (.deferred (some [])) W
    have hD : (w.alloc (.deferred (some []))).heap[w.heap.size]? = some (.deferred (some [])) := World.alloc_heap_new w _
    have hnM : ¬ M w.heap.size := fun hm => by have := W.Mlt _ hm; omega
    have W1' : WR C s g M okc (w.heap.size :: ds) (w.alloc (.deferred (some []))) := by
      refine ⟨W1.bx, W1.nb, W1.bv, W1.tv, W1.inj, W1.blM, W1.tks, W1.tkinj, W1.tkbl, W1.okin, W1.Mlt, W1.okcg, W1.okM, fun b hb => ?_, ?_, W1.rr, W1.hJ, W1.rh, W1.yl, W1.ry⟩
      · rcases List.mem_cons.1 hb with rfl | hb
        · exact ⟨hD, hnM⟩
        · exact W1.dsM b hb
      · refine List.nodup_cons.2 ⟨fun hb => ?_, W.dsnd⟩
        have := heap_lt (W.dsM _ hb).1; omega
    obtain ⟨W2, E2⟩ := alloc1 (.loop { state := .ready, pending := none, fn, tmps := a.tmps, params := ps, assign, body, defers := w.heap.size }) W1'
    have hE := E1.trans E2
    have hl : ((w.alloc (.deferred (some []))).alloc (.loop { state := .ready, pending := none, fn, tmps := a.tmps, params := ps, assign, body, defers := w.heap.size })).heap[w.heap.size + 1]? = some (.loop { state := .ready, pending := none, fn, tmps := a.tmps, params := ps, assign, body, defers := w.heap.size }) := by
      have := World.alloc_heap_new (w.alloc (.deferred (some []))) (.loop { state := .ready, pending := none, fn, tmps := a.tmps, params := ps, assign, body, defers := w.heap.size })
      rwa [World.size_alloc] at this
    refine ⟨w.heap.size + 1, _, w.heap.size :: ds, _, w.heap.size, run_enterLoop_outer _ _ _ _ _, by simp [marksD, h.defs], ⟨h.size, by simp [marksD, h.defs], fun t ht => (h.tm t ht).mono hE (GhLe.refl g), W2⟩, hE, hl, fun hm => by have := W.Mlt _ hm; omega, ?_, rfl, rfl, rfl⟩
    rintro (⟨t, hb⟩ | ⟨t, e, hb⟩ | hb)
    · have := W.bl_lt hb; omega
    · obtain ⟨⟨vs, E, h1, _⟩, _⟩ := W.tks t _ e hb
      have := heap_lt h1; omega
    · rcases List.mem_cons.1 hb with hb | hb
      · omega
      · have := heap_lt (W.dsM _ hb).1; omega
  | some l0 =>
    have hrr := W.rr
    rw [hro] at hrr
    obtain ⟨r0, hl0, _⟩ := hrr
    obtain ⟨W2, hE⟩ := alloc1 (.loop { state := .ready, pending := none, fn, tmps := a.tmps, params := ps, assign, body, defers := r0.defers }) W
    have hl : (w.alloc (.loop { state := .ready, pending := none, fn, tmps := a.tmps, params := ps, assign, body, defers := r0.defers })).heap[w.heap.size]? = some (.loop { state := .ready, pending := none, fn, tmps := a.tmps, params := ps, assign, body, defers := r0.defers }) := World.alloc_heap_new w _
    refine ⟨w.heap.size, [], ds, _, r0.defers, run_enterLoop_inner hl0 _ _ _ _ _, by simp [h.defs], ⟨h.size, by simp [h.defs], fun t ht => (h.tm t ht).mono hE (GhLe.refl g), W2⟩, hE, hl, fun hm => by have := W.Mlt _ hm; omega, ?_, rfl, rfl, rfl⟩
    rintro (⟨t, hb⟩ | ⟨t, e, hb⟩ | hb)
    · have := W.bl_lt hb; omega
    · obtain ⟨⟨vs, E, h1, _⟩, _⟩ := W.tks t _ e hb
      have := heap_lt h1; omega
    · have := heap_lt (W.dsM _ hb).1; omega

end
end Go.Px

