/-
  Proved here: a function whose evaluation is known keeps its contract.
  Conditions: those that the theorems name.
-/
import Derived.Test.YtlndinolkjgjbaaPg
set_option linter.all false
namespace Go.Px
variable {T : Nat → Type} {ρ : Type}

section
variable {C : Ctx T} {S : Specs T} {s s' s0 : St T} {g g0 : Gh} {M : Nat → Prop} {okc : Nat → Nat → Prop} {ds : List Nat} {a : Act} {w : World} {o : Oper} {v : PV T} {u : List (Upd T)} {f L K : List Nat} {Q : Exit → Act → World → Prop}
variable {P : Program} {D : Tab T} {ops : Array Oper} {A : Nat → Option Lp}

theorem run_mapM_list {α β : Type} {F : α → Sem β} {w : World} : ∀ {l : List α} {vs : List β}, vs.length = l.length → (∀ (i : Nat) x, l[i]? = some x → ∃ v, vs[i]? = some v ∧ (F x).run P w = .ok v w) → (l.mapM F).run P w = .ok vs w
  | [], vs, h, _ => by
    have : vs = [] := by cases vs; rfl; simp at h
    subst this
    simp
  | x :: l, [], h, _ => by simp at h
  | x :: l, v :: vs, h, hr => by
    obtain ⟨v', h1, h2⟩ := hr 0 x rfl
    simp at h1; subst h1
    have ih := run_mapM_list (F := F) (w := w) (l := l) (vs := vs) (by simpa using h) (fun i y hi => hr (i + 1) y (by simpa using hi))
    simp [List.mapM_cons, h2, ih]

theorem results_eq {fn : Func} {tmps : Array Value} : results fn tmps = (fn.results.mapM (resSem tmps) >>= fun vs => pure (if h : vs.size = 1 then vs[0] else .tuple vs)) := by
  have hf : (fun x : ResultVar => (match x with
    | .tmp t => (pure (tmps.getD t undef) : Sem Value)
    | .cell a t => do loadVar t (← asAddr (tmps.getD a undef)))) = resSem tmps := by funext x; cases x <;> rfl
  exact congrArg (fun f : ResultVar → Sem Value => (fn.results.mapM f >>= fun vs => pure (if h : vs.size = 1 then vs[0] else .tuple vs))) hf

def resOf : List Value → Value
  | [v] => v
  | vs => .tuple vs.toArray

theorem run_results {fn : Func} {tmps : Array Value} {vs : List Value} (h : vs.length = fn.results.toList.length) (hr : ∀ (i : Nat) x, fn.results.toList[i]? = some x → ∃ v, vs[i]? = some v ∧ (resSem tmps x).run P w = .ok v w) :
    (results fn tmps).run P w = .ok (resOf vs) w := by
  rw [results_eq]
  have h2 : (fn.results.mapM (resSem tmps)).run P w = .ok vs.toArray w := by
    have e : fn.results = fn.results.toList.toArray := by simp
    rw [e, List.mapM_toArray]
    have := run_mapM_list (P := P) (F := resSem tmps) (w := w) h hr
    simp [this]
  rw [Sem.run_bind, h2]
  simp only [Result.andThen_ok, Sem.run_pure]
  congr 1
  cases vs with
  | nil => rfl
  | cons v q => cases q with
    | nil => rfl
    | cons v' q => simp [resOf]

theorem RelR_of1 {n0 : Nat} {ok : Nat → Nat → Prop} {r : Value} (h : RelR1 P D n0 w ok v r) : RelR P D n0 w ok v r := by
  by_cases ht : ∃ vs, v = .tup vs
  · obtain ⟨vs, rfl⟩ := ht
    cases h with
    | data _ _ hc hr =>
      cases hr with
      | tup _ us hn hr => exact ⟨us, rfl, hn, fun i c hi => .data _ _ (cleanL_get (by simpa [PV.clean] using hc) hi) (hr i c hi)⟩
  · cases v <;> first | exact h | exact absurd ⟨_, rfl⟩ ht

/-- all results, read -/
theorem evRess_ok (hC : CtxOK C) (h : SR C s g M okc ds a w) {n0 : Nat} (htk : ∀ t b e, g.tk t = some (b, e) → n0 ≤ b) (hbl : ∀ t b, g.bl t = some b → t ≠ OUT → n0 ≤ b) {fn : Func} (hrn : fn.results.toList.all (resRun C.D s) = true) (hok : fn.results.toList.all (resOk C.nt) = true) :
    ∃ val one, (results fn a.tmps).run C.P w = .ok val w ∧ RelR C.P C.D n0 w (okOf g w one) (evRess C.D s fn.results.toList) val := by
  have hall : ∀ {one : Bool} r, r ∈ fn.results.toList → ∃ val, (resSem a.tmps r).run C.P w = .ok val w ∧ (isNew (evRes C.D s one r) = true → RelR1 C.P C.D n0 w g.ok (evRes C.D s one r) val) ∧ (isNew (evRes C.D s one r) = false → RelR1 C.P C.D n0 w (okOf g w one) (evRes C.D s one r) val) := fun {one} r hr => evRes_ok hC h htk hbl (List.all_eq_true.1 hrn r hr) (List.all_eq_true.1 hok r hr)
  generalize hl : fn.results.toList = l at hall
  by_cases h1 : ∃ r, l = [r]
  · obtain ⟨r, rfl⟩ := h1
    obtain ⟨val, e1, e2, e3⟩ := hall (one := true) r (by simp)
    have hrun := run_results (P := C.P) (fn := fn) (tmps := a.tmps) (w := w) (vs := [val]) (by rw [hl]; rfl) (fun i x hi => by
      rw [hl] at hi
      cases i with
      | zero => simp at hi; subst hi; exact ⟨val, rfl, e1⟩
      | succ i => simp at hi)
    show ∃ val one, _ ∧ RelR C.P C.D n0 w (okOf g w one) (evRes C.D s true r) val
    cases hn : isNew (evRes C.D s true r) with
    | true => exact ⟨val, false, hrun, RelR_of1 (e2 hn)⟩
    | false => exact ⟨val, true, hrun, RelR_of1 (e3 hn)⟩
  · -- several
    have go : ∀ one : Bool, (∀ r, r ∈ l → one = true → isNew (evRes C.D s true r) = false) → ∃ val, (results fn a.tmps).run C.P w = .ok val w ∧ RelR C.P C.D n0 w (okOf g w one) (.tup (l.map (evRes C.D s one))) val := fun one hno => by
      have hvals : ∃ vals : List Value, vals.length = l.length ∧ ∀ (i : Nat) r, l[i]? = some r → ∃ val, vals[i]? = some val ∧ (resSem a.tmps r).run C.P w = .ok val w ∧ RelR1 C.P C.D n0 w (okOf g w one) (evRes C.D s one r) val := by
        clear hl h1
        induction l with
        | nil => exact ⟨[], rfl, fun i r hr => by simp at hr⟩
        | cons r l ih =>
          obtain ⟨vals, h2, h3⟩ := ih (fun r' hr' => hall r' (by simp [hr'])) (fun r' hr' => hno r' (by simp [hr']))
          obtain ⟨val, e1, e2, e3⟩ := hall (one := one) r (by simp)
          have e4 : RelR1 C.P C.D n0 w (okOf g w one) (evRes C.D s one r) val := by
            cases one with
            | true => exact e3 (hno r (by simp) rfl)
            | false =>
              cases hn : isNew (evRes C.D s false r) with
              | true => exact e2 hn
              | false => exact e3 hn
          refine ⟨val :: vals, by simp [h2], fun i r' hr' => ?_⟩
          cases i with
          | zero => simp at hr'; subst hr'; exact ⟨val, rfl, e1, e4⟩
          | succ i => simpa using h3 i r' (by simpa using hr')
      obtain ⟨vals, h2, h3⟩ := hvals
      have hrun := run_results (P := C.P) (fn := fn) (tmps := a.tmps) (w := w) (vs := vals) (by rw [hl, h2]) (fun i x hi => by
        rw [hl] at hi
        obtain ⟨val, e1, e2, _⟩ := h3 i x hi
        exact ⟨val, e1, e2⟩)
      have hm : resOf vals = .tuple vals.toArray := by
        cases vals with
        | nil => rfl
        | cons v q => cases q with
          | nil =>
            exfalso
            refine h1 ?_
            cases l with
            | nil => simp at h2
            | cons r q => cases q with
              | nil => exact ⟨r, rfl⟩
              | cons r' q => simp at h2
          | cons v' q => rfl
      rw [hm] at hrun
      refine ⟨_, hrun, vals.toArray, rfl, by simp [h2], fun i c hi => ?_⟩
      rw [List.getElem?_map] at hi
      obtain ⟨r, e1, rfl⟩ := Option.map_eq_some_iff.1 hi
      obtain ⟨val, e2, _, e3⟩ := h3 i r e1
      have : vals.toArray.getD i undef = val := by simp [Array.getD_eq_getD_getElem?, e2]
      rw [this]; exact e3
    have he : evRess C.D s l = (match (l.map (evRes C.D s true)).any isNew with
      | false => .tup (l.map (evRes C.D s true))
      | true => .tup (l.map (evRes C.D s false))) := by
      cases l with
      | nil => rfl
      | cons r q => cases q with
        | nil => exact absurd ⟨r, rfl⟩ h1
        | cons r' q => rfl
    rw [he]
    split
    · rename_i hany
      obtain ⟨val, e1, e2⟩ := go true fun r hr _ => by
        have := List.any_eq_false.1 hany _ (List.mem_map.2 ⟨r, hr, rfl⟩)
        simpa using this
      exact ⟨val, true, e1, e2⟩
    · obtain ⟨val, e1, e2⟩ := go false fun r hr h => by simp at h
      exact ⟨val, false, e1, e2⟩

end
end Go.Px

namespace Go.Px
variable {T : Nat → Type} {ρ : Type}

section
variable {C : Ctx T} {S : Specs T} {s s' s0 : St T} {g g0 : Gh} {M : Nat → Prop} {okc : Nat → Nat → Prop} {ds : List Nat} {a : Act} {w : World} {o : Oper} {v : PV T} {u : List (Upd T)} {f L K : List Nat} {Q : Exit → Act → World → Prop}
variable {P : Program} {D : Tab T} {ops : Array Oper} {A : Nat → Option Lp}

/-- what is around a plain frame -/
def plainV (w0 : World) (M0 : Nat → Prop) (ok0 : Nat → Nat → Prop) : Outer where
  J _ M okc w := M = M0 ∧ okc = ok0 ∧ w.os = w0.os ∧ w.tape = w0.tape ∧ w.output = w0.output ∧ w0.heap.size ≤ w.heap.size ∧ ∀ b, M0 b → w.heap[b]? = w0.heap[b]?

theorem plainCtx (hD : TabOK P D) (w0 : World) (M0 : Nat → Prop) (ok0 : Nat → Nat → Prop) (nt : Nat) : CtxOK (⟨P, D, plainV w0 M0 ok0, nt, none, none, fun _ => True⟩ : Ctx T) := by
  refine ⟨?_, fun _ _ _ _ _ => trivial, hD, fun _ _ _ _ _ _ => trivial, fun l h => by simp at h⟩
  rintro n M okc w w' ⟨rfl, rfl, h1, h2, h3, h4, h5⟩ q
  exact ⟨rfl, rfl, q.os.trans h1, q.tape.trans h2, q.output.trans h3, Nat.le_trans h4 q.size, fun b hb => (q.block b hb).trans (h5 b hb)⟩

theorem argTm_get : ∀ {args : List (PV T)} {i t : Nat}, look t (argTm i args) = if i ≤ t then args[t - i]? else none
  | [], i, t => by simp [argTm, look]
  | x :: r, i, t => by
    simp only [argTm]
    by_cases e : i = t
    · subst e; simp [look_put_eq]
    · rw [look_put_ne e, argTm_get (args := r)]
      by_cases h1 : i + 1 ≤ t
      · rw [if_pos h1, if_pos (by omega)]
        have : t - i = (t - (i + 1)) + 1 := by omega
        rw [this]; simp
      · rw [if_neg h1, if_neg (by omega)]

/-- a frame at its begin -/
theorem args_tm {g : Gh} {nt : Nat} {args : List (PV T)} {vals : Array Value} (h : RelL P D w g args vals) {st : St T} (htm : st.tm = argTm 0 args) (hfx : st.fx = []) (hn : args.length ≤ nt) :
    (vals ++ Array.replicate (nt - vals.size) undef).size = nt ∧ ∀ t, t < nt → Rel P D w g (st.get t) ((vals ++ Array.replicate (nt - vals.size) undef).getD t undef) := by
  have hs : vals.size = args.length := h.1
  refine ⟨by simp; omega, fun t ht => ?_⟩
  unfold St.get
  rw [htm, argTm_get, if_pos (Nat.zero_le _), hfx]
  simp only [Nat.sub_zero, look]
  cases hc : args[t]? with
  | none => exact .undef _
  | some c =>
    have hlt : t < args.length := (List.getElem?_eq_some_iff.1 hc).1
    have := h.2 t c hc
    have hlt' : t < vals.size := by omega
    simpa [Array.getD, hlt', Array.getElem_append, show t < vals.size + (nt - vals.size) by omega] using this

theorem evFn_some {f : Func} {args out : List (PV T)} {k : PV T → List (PV T) → Option ρ} {r : ρ} (h : evFn D S A f args out k = some r) : ∃ c, f.body = some c ∧ fnOk f args.length = true ∧
    evCode D S A c 0 (fun e s => match e with
    | .exit _ => none
    | _ => match f.results.toList.all (resRun D s) with
      | true => outK (s.box OUT 0) out (k (evRess D s f.results.toList))
      | false => none) (argSt args out) = some r := by
  unfold evFn at h
  split at h
  · rename_i c hb hok
    exact ⟨c, hb, hok, h⟩
  · simp at h

theorem outK_some {b : Option (List (PV T))} {out : List (PV T)} {k : List (PV T) → Option ρ} {r : ρ} (h : outK b out k = some r) : ∃ o0, (out = [] ∨ b = some o0) ∧ k o0 = some r := by
  unfold outK at h
  split at h
  · exact ⟨_, .inr rfl, h⟩
  · exact ⟨[], .inl rfl, h⟩
  · simp at h

/-- **a function's contract out of its evaluation** -/
theorem fn_ok (hD : TabOK P D) (hS : SpecOK P D S) {fi : Nat} {f : Func} (hf : P.funcs[fi]? = some f) {args obj : List (PV T)} {k : PV T → List (PV T) → Option ρ} {r : ρ} (h : evFn D S A f args obj k = some r)
    {w : World} {ok : Nat → Nat → Prop} {rh : Nat → Option Obj} {out : Option Nat} {vals : Array Value} (hin : OkIn w ok) (hrh : ∀ b x, rh b = some x → w.heap[b]? = some x ∧ some b ≠ out) (hargs : RelL P D w (G0 ok rh out) args vals) (hobj : ObjOK P D w ok rh obj out) :
    CallsW P fi vals w fun e w'' => ∃ v0 o0 rv ok'', k v0 o0 = some r ∧ e = .returned rv ∧ Frame1 w w'' out ∧ OkNew w ok w'' ok'' ∧ RelR P D w.heap.size w'' ok'' v0 rv ∧
      (∀ b, out = some b → ∃ g vs E, g.ok = ok'' ∧ w''.heap[b]? = some (.cells vs E (0, 0)) ∧ RelL P D w'' g o0 vs ∧ ∀ o, ¬ ok'' b o) := by
  obtain ⟨c, hb, hok, hev⟩ := evFn_some h
  simp only [fnOk, Bool.and_eq_true] at hok
  obtain ⟨⟨⟨hnt, hna⟩, hres⟩, hcode⟩ := hok
  rw [hb] at hcode
  have hna : args.length ≤ f.ntmps := by simpa using hna
  have hnt : f.ntmps ≤ 999999 := by simpa using hnt
  obtain ⟨M0, hM0⟩ : ∃ M0 : Nat → Prop, M0 = fun b => b < w.heap.size ∧ some b ≠ out := ⟨_, rfl⟩
  have hC := plainCtx (nt := f.ntmps) hD w M0 ok
  obtain ⟨q1, q2⟩ := args_tm (st := argSt args obj) (nt := f.ntmps) hargs rfl rfl hna
  have hobn : out = none ∨ ∃ b vs E, out = some b ∧ w.heap[b]? = some (.cells vs E (0, 0)) ∧ obj ≠ [] ∧ cleanL obj = true ∧ RelL P D w (G0 ok rh none) obj vs ∧ ∀ o, ¬ ok b o := by
    cases out with
    | none => exact .inl rfl
    | some b => obtain ⟨vs, E, h1, h2, h3, h4, h5⟩ := hobj; exact .inr ⟨b, vs, E, rfl, h1, h2, h3, h4, h5⟩
  have hent : ∀ t e, (argSt args obj).ent t = some e → t = OUT ∧ e = ⟨0, false, obj⟩ ∧ obj ≠ [] := fun t e he => by
    simp only [St.ent, argSt, look] at he
    split at he
    · simp [look] at he
    · rename_i hne
      by_cases ht : OUT = t
      · subst ht
        rw [look_put_eq] at he
        exact ⟨rfl, by simpa using he.symm, fun e => hne e⟩
      · rw [look_put_ne ht] at he; simp [look] at he
  have hblO : ∀ t b, (G0 ok rh out).bl t = some b → t = OUT ∧ out = some b := fun t b hb => by
    simp only [G0] at hb
    split at hb
    · rename_i e; exact ⟨e.symm, hb⟩
    · simp at hb
  have hW : WR (⟨P, D, plainV w M0 ok, f.ntmps, none, none, fun _ => True⟩ : Ctx T) (argSt args obj) (G0 ok rh out) M0 ok [] w := by
    refine ⟨fun t e he => ?_, fun t ht => ?_, fun t => ?_, fun t => ?_, fun t t' b h1 h2 => ?_, fun t b h1 => ?_, fun t b e h1 => by simp [G0] at h1, fun t t' b e e' h1 => by simp [G0] at h1, fun t t' b e h1 => by simp [G0] at h1, hin, fun b hb => by rw [hM0] at hb; exact hb.1, fun _ _ => id, fun _ _ => .inl, fun b hb => by simp at hb, .nil, trivial, ⟨rfl, rfl, rfl, rfl, rfl, Nat.le_refl _, fun _ _ => rfl⟩, fun b x hx => ?_, rfl, fun h => absurd rfl h⟩
    · obtain ⟨rfl, rfl, hne⟩ := hent t e he
      rcases hobn with rfl | ⟨b, vs, E, rfl, h1, h2, h3, h4, h5⟩
      · exact absurd hobj hne
      · exact ⟨b, by simp [G0], ⟨vs, E, h1, h4.imp fun c r hc hr => Rel.move (g := G0 ok rh none) (g' := G0 ok rh (some b)) (Evo.refl w ok) (fun _ _ e => e) hr (cleanL_mem h3 hc)⟩, fun hf => by simp at hf, fun _ => h5⟩
    · cases hbl : (G0 ok rh out).bl t with
      | none => rfl
      | some b =>
        obtain ⟨rfl, hbo⟩ := hblO t b hbl
        rcases hobn with h1 | ⟨b', vs, E, rfl, h1, h2, _⟩
        · rw [h1] at hbo; simp at hbo
        · exfalso
          cases obj with
          | nil => exact h2 rfl
          | cons x q => simp [St.ent, argSt, look] at ht
    · show 0 = _
      unfold St.bv
      cases he : (argSt args obj).ent t with
      | none => rfl
      | some e => obtain ⟨_, rfl, _⟩ := hent t e he; rfl
    · simp [G0, St.tv, argSt, look]
    · exact (hblO t b h1).1.trans (hblO t' b h2).1.symm
    · rw [hM0]; exact fun h => h.2 (hblO t b h1).2.symm
    · rw [hM0]
      obtain ⟨h1, h2⟩ := hrh b x hx
      exact ⟨⟨heap_lt h1, h2⟩, h1⟩
  have hsr : SR (⟨P, D, plainV w M0 ok, f.ntmps, none, none, fun _ => True⟩ : Ctx T) (argSt args obj) (G0 ok rh out) M0 ok [] { tmps := vals ++ Array.replicate (f.ntmps - vals.size) undef, defers := [] } w := ⟨q1, rfl, q2, hW⟩
  refine callsIn_of_wp_marks (F := FW none) hf hb trivial ?_
  refine evCode_ok c _ hC hS 0 _ _ r hcode hev hsr fun e s1 hk1 hm1 => ⟨trivial, fun g1 M1 okc1 ds1 a1 w1 hsr1 hkeep1 => ?_⟩
  have fin : ∀ {o0 : List (PV T)}, f.results.toList.all (resRun D s1) = true → (out = none ∨ s1.box OUT 0 = some o0) → k (evRess D s1 f.results.toList) o0 = some r → LeavesInM (FW none) 0 P f a1.tmps (fun e w'' => ∃ v0 o0 rv ok'', k v0 o0 = some r ∧ e = .returned rv ∧ Frame1 w w'' out ∧ OkNew w ok w'' ok'' ∧ RelR P D w.heap.size w'' ok'' v0 rv ∧
      (∀ b, out = some b → ∃ g vs E, g.ok = ok'' ∧ w''.heap[b]? = some (.cells vs E (0, 0)) ∧ RelL P D w'' g o0 vs ∧ ∀ o, ¬ ok'' b o)) a1.defers .returning w1 := fun {o0} hr1 hbx hr2 => by
    have hd := hsr1.defs
    obtain ⟨tmps, defers⟩ := a1
    simp only at hd
    subst hd
    refine leaves_ok hC ds1 w1 hsr1 fun w5 hsr5 => ?_
    have W5 := hsr5.wr
    obtain ⟨e1, e2, f1, f2, f3, f4, f5⟩ := W5.hJ
    have e1 := e1.symm
    have e2 := e2.symm
    subst e1; subst e2
    have hnew : ∀ b, ¬ M0 b → b < w5.heap.size → w.heap.size ≤ b ∨ some b = out := fun b hb _ => by
      rw [hM0] at hb
      by_cases h1 : b < w.heap.size
      · exact .inr (Classical.byContradiction fun h2 => hb ⟨h1, h2⟩)
      · exact .inl (by omega)
    -- the object's block
    have hbout : ∀ b, out = some b → g1.bl OUT = some b ∧ ∃ e, s1.ent OUT = some e ∧ e.fz = false ∧ e.cs = o0 := fun b hb => by
      rcases hbx with h1 | h1
      · rw [h1] at hb; simp at hb
      · obtain ⟨h2, e, h3, h4, h5, h6⟩ := St.box_some h1
        have hent : s1.ent OUT = some e := by simp [St.ent, h2, h3]
        refine ⟨?_, e, hent, h4, h6⟩
        rcases hkeep1.gle.bl OUT with h7 | ⟨_, h7⟩
        · rw [W5.bv] at h7
          simp [St.bv, hent, h5, G0] at h7
        · rw [← h7]; simp [G0, hb]
    have htk : ∀ t b e, g1.tk t = some (b, e) → w.heap.size ≤ b := fun t b e h1 => by
      obtain ⟨⟨vs, E, h2, _⟩, _, h3⟩ := W5.tks t b e h1
      rcases hnew b h3 (heap_lt h2) with h4 | h4
      · exact h4
      · exact absurd (hbout b h4.symm).1 (W5.tkbl t OUT b e h1)
    have hbl : ∀ t b, g1.bl t = some b → t ≠ OUT → w.heap.size ≤ b := fun t b h1 h2 => by
      rcases hnew b (W5.blM t b h1) (W5.bl_lt h1) with h4 | h4
      · exact h4
      · exact absurd (W5.inj t OUT b h1 (hbout b h4.symm).1) h2
    obtain ⟨val, one, h1, h3⟩ := evRess_ok hC hsr5 htk hbl hr1 hres
    obtain ⟨ok5, hok5⟩ : ∃ ok5, ok5 = okOf g1 w5 one := ⟨_, rfl⟩
    rw [← hok5] at h3
    have hold : ∀ b o, g1.ok b o → ok5 b o := by rw [hok5]; exact okOf_old
    have h2 : ok5 = g1.ok ∨ ok5 = okAll g1 w5 := by
      cases one with
      | true => exact .inr hok5
      | false => exact .inl hok5
    refine ⟨val, h1, _, _, val, ok5, hr2, rfl, ⟨f1, f2, f3, f4, fun b h4 h5 => f5 b (by rw [hM0]; exact ⟨h4, h5⟩)⟩, ?_, h3, ?_⟩
    · refine ⟨fun b o h4 => hold b o (hkeep1.evo.ok b o h4), fun b o h4 => ?_, fun b o h4 => ?_⟩
      · have hg : g1.ok b o → ok b o ∨ w.heap.size ≤ b := fun h5 => by
          rcases W5.okM b o h5 with h6 | h6
          · exact .inl h6
          · rcases hnew b h6 (W5.okin b o h5) with h7 | h7
            · exact .inr h7
            · obtain ⟨e1, e, e2, e3, _⟩ := hbout b h7.symm
              obtain ⟨b', e4, e5⟩ := W5.bx OUT e e2
              rw [e1] at e4; cases e4
              exact absurd h5 (e5.own e3 o)
        rcases h2 with h2 | h2 <;> rw [h2] at h4
        · exact hg h4
        · rcases h4 with h4 | ⟨t, vs, E, h5, h6, h7, h8⟩
          · exact hg h4
          · exact .inr (hbl t b h6 h5)
      · rcases h2 with h2 | h2 <;> rw [h2] at h4
        · exact W5.okin b o h4
        · rcases h4 with h4 | ⟨t, vs, E, h5, h6, h7, h8⟩
          · exact W5.okin b o h4
          · exact heap_lt h7
    · intro b hb'
      obtain ⟨e1, e, e2, e3, e4⟩ := hbout b hb'
      obtain ⟨b', e5, e6⟩ := W5.bx OUT e e2
      rw [e1] at e5; cases e5
      obtain ⟨vs, E, e7, e8⟩ := e6.cells
      refine ⟨{ g1 with ok := ok5 }, vs, E, rfl, e7, ?_, fun o h4 => ?_⟩
      · rw [← e4]
        exact e8.mono ⟨Nat.le_refl _, fun _ _ _ => rfl, hold⟩ (GhLe.ok g1 ok5)
      · rcases h2 with h2 | h2 <;> rw [h2] at h4
        · exact e6.own e3 o h4
        · rcases h4 with h4 | ⟨t, vs', E', h5, h6, h7, h8⟩
          · exact e6.own e3 o h4
          · exact h5 (W5.inj t OUT b h6 e1)
  have hout : outK (s1.box OUT 0) obj (k (evRess D s1 f.results.toList)) = some r → ∃ o0, (out = none ∨ s1.box OUT 0 = some o0) ∧ k (evRess D s1 f.results.toList) o0 = some r := fun h1 => by
    obtain ⟨o0, h2, h3⟩ := outK_some h1
    refine ⟨o0, h2.imp (fun h2 => ?_) id, h3⟩
    rcases hobn with h4 | ⟨b, vs, E, _, _, h4, _⟩
    · exact h4
    · exact absurd h2 h4
  cases e with
  | exit i => simp at hk1
  | normal =>
    simp only at hk1
    split at hk1
    · rename_i hr1
      obtain ⟨o0, h1, h2⟩ := hout hk1
      exact fin hr1 h1 h2
    · simp at hk1
  | ret =>
    simp only at hk1
    split at hk1
    · rename_i hr1
      obtain ⟨o0, h1, h2⟩ := hout hk1
      exact fin hr1 h1 h2
    · simp at hk1

end
end Go.Px

namespace Go.Px
variable {T : Nat → Type} {ρ : Type}

section
variable {C : Ctx T} {S : Specs T} {s s' s0 : St T} {g g0 : Gh} {M : Nat → Prop} {okc : Nat → Nat → Prop} {ds : List Nat} {a : Act} {w : World} {o : Oper} {v : PV T} {u : List (Upd T)} {f L K : List Nat} {Q : Exit → Act → World → Prop}
variable {P : Program} {D : Tab T} {ops : Array Oper} {A : Nat → Option Lp}

/-! ## Functions that yield -/

/-- what is around a frame that yields -/
def genV (V : Outer) (w0 : World) : Outer where
  J n M okc w := V.J n M okc w ∧ w.os = w0.os ∧ w.tape = w0.tape ∧ w.output = w0.output ∧ w0.heap.size ≤ w.heap.size

/-- a log that can still become what is handed out -/
def genPre (As : List Nat) (m : Int) (ys : List (Tup T As)) : LG T → Prop
  | .no => True
  | .log A' m' zs _ => m' = m ∧ ∃ h : A' = As, (h ▸ zs) <+: ys

theorem handed_le (n : Nat) (m : Int) : handed n m ≤ n := by
  unfold handed
  split <;> omega

theorem genCtx (hD : TabOK P D) {V : Outer} (hV : V.Stable) {w0 : World} {As : List Nat} {xs ys : List (Tup T As)} {m : Int} {l nt : Nat} (hys : ys = xs.take (handed xs.length m)) (hY : YieldOK P D V l xs m) :
    CtxOK (⟨P, D, genV V w0, nt, none, some l, genPre As m ys⟩ : Ctx T) := by
  refine ⟨?_, fun _ _ _ _ _ => trivial, hD, ?_, ?_⟩
  · rintro n M okc w w' ⟨h1, h2, h3, h4, h5⟩ q
    exact ⟨hV _ _ _ _ _ h1 q, q.os.trans h2, q.tape.trans h3, q.output.trans h4, Nat.le_trans h5 q.size⟩
  · rintro A' m' zs x d ⟨h1, rfl, h2⟩
    exact ⟨h1, rfl, (List.prefix_append zs [x]).trans h2⟩
  · rintro l' hl' A' m' zs x ⟨rfl, rfl, h2⟩
    have hl' : l = l' := by simpa using hl'
    subst hl'
    have h2 : zs ++ [x] <+: ys := h2
    have hlen : zs.length + 1 ≤ ys.length := by have := h2.length_le; simpa using this
    have hx : ys[zs.length]? = some x := by
      obtain ⟨t, ht⟩ := h2
      rw [← ht]; simp
    have hh := handed_le xs.length m'
    have hyl : ys.length = handed xs.length m' := by rw [hys, List.length_take]; omega
    have hx' : xs[zs.length]? = some x := by
      rw [hys, List.getElem?_take] at hx
      split at hx
      · exact hx
      · simp at hx
    have hi : m' < 0 ∨ (zs.length : Int) ≤ m' := by
      by_cases hm : m' < 0
      · exact .inl hm
      · right
        rw [hyl] at hlen
        unfold handed at hlen
        rw [if_neg hm] at hlen
        omega
    have hy := hY zs.length x hx' hi
    intro M okc w hJ hlt ok hin hcg hcM vals hv1 hv2
    obtain ⟨j1, j2, j3, j4, j5⟩ := hJ
    obtain ⟨fn, tmps, assign, body, h3, h4⟩ := hy M okc w j1 hlt ok hin hcg hcM vals hv1 hv2
    refine ⟨fn, tmps, assign, body, h3, h4.mono ?_⟩
    rintro e w' ⟨M', okc', rfl, hJ', hd⟩
    exact ⟨M', okc', rfl, ⟨hJ', hd.os.trans j2, hd.tape.trans j3, hd.output.trans j4, Nat.le_trans j5 hd.size⟩, hd⟩

theorem evGen_some {f : Func} {As : List Nat} {caps : List (PV T)} {m : Int} {ys : List (Tup T As)} (h : evGen D S A f As caps m = some ys) : ∃ c, f.body = some c ∧ fnOk f (caps.length + 1) = true ∧
    evCode D S A c 0 (fun e s => match e with
    | .exit _ => none
    | _ => match s.lg, f.results.toList with
      | .log A' _ xs _, [] => match decEq A' As with
        | .isTrue h => some (h ▸ xs)
        | .isFalse _ => none
      | _, _ => none) ⟨argTm 0 (.yld :: caps), [], [], [], [], 0, .log As m [] false⟩ = some ys := by
  unfold evGen at h
  split at h
  · rename_i c hb hok
    exact ⟨c, hb, hok, h⟩
  · simp at h

def NameOk (f : Func) : Prop := (f.name == "runtime.NumGoroutine") = false

theorem gen_ok (hD : TabOK P D) (hS : SpecOK P D S) {gi : Nat} {f : Func} (hf : P.funcs[gi]? = some f) (hn : NameOk f) {As : List Nat} {caps : List (PV T)} {xs : List (Tup T As)} (hev : ∀ m, evGen D S A f As caps m = some (xs.take (handed xs.length m)))
    {w : World} {ok : Nat → Nat → Prop} {cvals : Array Value} (hc : cleanL caps = true) (hcaps : RelL P D w (G0 ok noH none) caps cvals) : SeqOK P D w ok As xs (.func (.func gi) #[] cvals) := by
  obtain ⟨c0, hb0, _, _⟩ := evGen_some (hev 0)
  refine ⟨gi, cvals, rfl, ⟨f, hf, by rw [hb0]; rfl, hn⟩, fun l m V hV M okc w' hJ hM hE hin hY => ?_⟩
  obtain ⟨c, hb, hok, hevc⟩ := evGen_some (hev m)
  obtain ⟨ys, hys⟩ : ∃ ys, ys = xs.take (handed xs.length m) := ⟨_, rfl⟩
  rw [← hys] at hevc
  have hyl : ys.length = handed xs.length m := by rw [hys, List.length_take]; have := handed_le xs.length m; omega
  simp only [fnOk, Bool.and_eq_true] at hok
  obtain ⟨⟨⟨hnt, hna⟩, hres⟩, hcode⟩ := hok
  rw [hb] at hcode
  have hna : caps.length + 1 ≤ f.ntmps := by simpa using hna
  have hC := genCtx (P := P) (D := D) (w0 := w') (nt := f.ntmps) hD hV hys hY
  obtain ⟨g1, hg1⟩ : ∃ g1 : Gh, g1 = { G0 okc noH none with yl := some l } := ⟨_, rfl⟩
  have hbl : ∀ t, g1.bl t = none := fun t => by rw [hg1]; simp [G0]
  have hargs : RelL P D w' g1 (.yld :: caps) (#[.func (.yield l) #[] #[]] ++ cvals) := by
    refine RelL.cons (.yld l (by rw [hg1])) (hcaps.imp fun c r hcm hr => ?_)
    exact Rel.move (g := G0 ok noH none) (g' := g1) (by rw [hg1]; exact hE) (fun _ _ e => by cases e) hr (cleanL_mem hc hcm)
  obtain ⟨q1, q2⟩ := args_tm (st := (⟨argTm 0 (.yld :: caps), [], [], [], [], 0, .log As m [] false⟩ : St T)) (nt := f.ntmps) hargs rfl rfl (by simpa using hna)
  have hW : WR (⟨P, D, genV V w', f.ntmps, none, some l, genPre As m ys⟩ : Ctx T) (⟨argTm 0 (.yld :: caps), [], [], [], [], 0, .log As m [] false⟩ : St T) g1 M okc [] w' := by
    refine ⟨fun t e he => by simp [St.ent, look] at he, fun t _ => hbl t, fun t => by rw [hg1]; simp [G0, St.bv, St.ent, look], fun t => by rw [hg1]; simp [G0, St.tv, look], fun t t' b h1 => by rw [hbl] at h1; simp at h1, fun t b h1 => by rw [hbl] at h1; simp at h1, fun t b e h1 => by rw [hg1] at h1; simp [G0] at h1,
      fun t t' b e e' h1 => by rw [hg1] at h1; simp [G0] at h1, fun t t' b e h1 => by rw [hg1] at h1; simp [G0] at h1, by rw [hg1]; exact hin, fun b hb => (hM b).1 hb, by rw [hg1]; exact fun _ _ => id, by rw [hg1]; exact fun _ _ => .inl, fun b hb => by simp at hb, .nil, trivial, ⟨hJ, rfl, rfl, rfl, Nat.le_refl _⟩,
      fun b x hx => by rw [hg1] at hx; simp [G0] at hx, by rw [hg1], fun _ b => by rw [hg1]; rfl⟩
  refine callsIn_of_wp_marks (F := FW none) hf hb trivial ?_
  refine evCode_ok c _ hC hS 0 _ _ ys hcode hevc ⟨q1, rfl, q2, hW⟩ fun e s1 hk1 hm1 => ?_
  have key : (match s1.lg, f.results.toList with
      | .log A' _ xs _, [] => match decEq A' As with
        | .isTrue h => some (h ▸ xs)
        | .isFalse _ => none
      | _, _ => none) = some ys → f.results.toList = [] ∧ ∃ d, s1.lg = .log As m ys d := fun h => by
    split at h
    · rename_i A' m' zs d hlg hr
      split at h
      · rename_i hA _
        subst hA
        cases h
        rw [hlg] at hm1
        have : m' = m := by simpa [LG.m?] using hm1
        subst this
        exact ⟨hr, d, hlg⟩
      · simp at h
    · simp at h
  have key2 : f.results.toList = [] ∧ ∃ d, s1.lg = .log As m ys d := by
    cases e with
    | exit i => simp at hk1
    | normal => exact key hk1
    | ret => exact key hk1
  obtain ⟨hr0, d, hlg⟩ := key2
  refine ⟨by rw [hlg]; exact ⟨rfl, rfl, List.prefix_refl _⟩, fun g2 M2 okc2 ds2 a2 w2 hsr2 _ => ?_⟩
  have fin : LeavesInM (FW none) 0 P f a2.tmps (fun e w'' => ∃ r M' okc', e = .returned r ∧ V.J (handed xs.length m) M' okc' w'' ∧ w'.heap.size ≤ w''.heap.size ∧ w''.os = w'.os ∧ w''.tape = w'.tape ∧ w''.output = w'.output) a2.defers .returning w2 := by
    have hd := hsr2.defs
    obtain ⟨tmps, defers⟩ := a2
    simp only at hd
    subst hd
    refine leaves_ok hC ds2 w2 hsr2 fun w5 hsr5 => ?_
    obtain ⟨j1, j2, j3, j4, j5⟩ := hsr5.wr.hJ
    have hrun := run_results (P := P) (fn := f) (tmps := tmps) (w := w5) (vs := []) (by rw [hr0]; rfl) (fun i x hi => by rw [hr0] at hi; simp at hi)
    refine ⟨_, hrun, _, M2, okc2, rfl, ?_, j5, j2, j3, j4⟩
    rw [hlg] at j1
    rw [← hyl]; exact j1
  cases e with
  | exit i => simp at hk1
  | normal => exact fin
  | ret => exact fin

end
end Go.Px

namespace Go.Px
variable {T : Nat → Type} {ρ : Type}

section
variable {C : Ctx T} {S : Specs T} {s s' s0 : St T} {g g0 : Gh} {M : Nat → Prop} {okc : Nat → Nat → Prop} {ds : List Nat} {a : Act} {w : World} {o : Oper} {v : PV T} {u : List (Upd T)} {f L K : List Nat} {Q : Exit → Act → World → Prop}
variable {P : Program} {D : Tab T} {ops : Array Oper} {A : Nat → Option Lp} {ok : Nat → Nat → Prop} {rh : Nat → Option Obj} {out : Option Nat}

/-! ## Arguments and results, typed -/

theorem data_clean {c : PV T} (h1 : isData c = true) (h2 : plainC c = c) : c.clean = true ∧ c.norp = true := by
  cases c <;> simp [isData] at h1 <;> first | exact ⟨rfl, rfl⟩ | skip
  rename_i E l ow
  simp [plainC] at h2
  subst h2
  exact ⟨rfl, rfl⟩

theorem encs_clean (hD : TabOK P D) {E : Nat} {x : T E} : cleanL (D.enc E x) = true ∧ norpL (D.enc E x) = true :=
  ⟨cleanL_of fun c hc => (data_clean (hD.encData E x c hc).1 (hD.encData E x c hc).2).1, norpL_of fun c hc => (data_clean (hD.encData E x c hc).1 (hD.encData E x c hc).2).2⟩

theorem val_clean (hD : TabOK P D) {E : Nat} {x : T E} : (D.val E x).clean = true ∧ (D.val E x).norp = true := by
  unfold Tab.val
  split
  · split
    · exact ⟨by simpa [PV.clean] using (encs_clean (x := x) hD).1, by simpa [PV.norp] using (encs_clean (x := x) hD).2⟩
    · split
      · rename_i c q he
        have := hD.encData E x c (by rw [he]; simp)
        exact data_clean this.1 this.2
      · exact ⟨rfl, rfl⟩
  · exact ⟨rfl, rfl⟩

/-- cells that are decoded -/
theorem dec_rel (hD : TabOK P D) {E : Nat} {cs : List (PV T)} {x : T E} (h : D.dec E cs = some x) {vs : Array Value} (hr : RelL P D w g cs vs) {g' : Gh} (hg : g'.ok = g.ok) : RelL P D w g' (D.enc E x) vs := by
  have he := hD.dec E cs x h
  refine ⟨by rw [he]; simp [hr.1], fun i c hi => ?_⟩
  have hd := hD.encData E x c (List.mem_of_getElem? hi)
  rw [he, List.getElem?_map] at hi
  obtain ⟨d, h1, rfl⟩ := Option.map_eq_some_iff.1 hi
  exact isData_rel (g := g') hg hd.2 ((hr.2 i d h1).data hd.1)

/-- a result that is data -/
theorem unval_res (hD : TabOK P D) {n0 E : Nat} {x : T E} {r : Value} (h : D.unval E v = some x) (hr : RelR1 P D n0 w ok v r) : RelV D w ok (D.val E x) r := by
  cases hr with
  | data _ _ hc hr => exact unval_rel (g := G0 ok noH none) hD h hr
  | own E' l t k _ hd hr =>
    have h' : D.unval E (.sl E' l .no) = some x → RelV D w ok (D.val E x) r := fun h => unval_rel (g := G0 ok noH none) hD h (.sl E' l .no r hd trivial)
    -- the claim on the row is not asked for
    unfold Tab.unval at h
    split at h
    · rename_i i hi
      split at h
      · rename_i cs e; cases e
      · rename_i hag
        have he := hD.dec E _ x h
        simp only [Tab.val, hi, hag, he, List.map_cons, plainC]
        exact .cell hd
      · simp at h
    · simp at h
  | new cs b vs E' hb hh hc h1 ho =>
    unfold Tab.unval at h
    split at h
    · split at h
      · rename_i e; cases e
      · have he := hD.dec E _ x h
        have := (hD.encData E x (.new cs) (by rw [he]; simp [plainC])).1
        simp [isData] at this
      · simp at h
    · simp at h

theorem unvals_res (hD : TabOK P D) {n0 : Nat} : ∀ {A : List Nat} {vs : List (PV T)} {x : Tup T A} {R : Nat → Value}, unvals D A vs = some x → (∀ i c, vs[i]? = some c → RelR1 P D n0 w ok c (R i)) →
    vs.length = (tupVals D A x).length ∧ ∀ i c, (tupVals D A x)[i]? = some c → RelV D w ok c (R i) := by
  intro A
  induction A with
  | nil =>
    intro vs x R h hr
    cases vs with
    | nil => exact ⟨rfl, fun i c hi => by simp [tupVals] at hi⟩
    | cons v r => cases h
  | cons a A ih =>
    intro vs x R h hr
    cases vs with
    | nil => cases A <;> cases h
    | cons v r =>
      cases A with
      | nil =>
        cases r with
        | nil =>
          refine ⟨rfl, fun i c hi => ?_⟩
          cases i with
          | zero => simp [tupVals] at hi; subst hi; exact unval_res hD h (hr 0 v rfl)
          | succ i => simp [tupVals] at hi
        | cons v' r' => cases h
      | cons b A =>
        change ((D.unval a v).bind fun x => (unvals D (b :: A) r).bind fun y => some (x, y)) = some x at h
        obtain ⟨y, h1, h2⟩ := Option.bind_eq_some_iff.1 h
        obtain ⟨z, h3, h4⟩ := Option.bind_eq_some_iff.1 h2
        cases h4
        obtain ⟨e1, e2⟩ := ih (R := fun i => R (i + 1)) h3 fun i c hi => hr (i + 1) c hi
        refine ⟨by simp [tupVals, e1], fun i c hi => ?_⟩
        cases i with
        | zero => simp [tupVals] at hi; subst hi; exact unval_res hD h1 (hr 0 v rfl)
        | succ i => exact e2 i c (by simpa [tupVals] using hi)

theorem val_notup (hD : TabOK P D) {E : Nat} {x : T E} : ∀ vs, D.val E x ≠ .tup vs := by
  intro cs e
  unfold Tab.val at e
  split at e
  · split at e
    · cases e
    · split at e
      · rename_i c q he
        have := (hD.encData E x c (by rw [he]; simp)).1
        rw [e] at this; simp [isData] at this
      · cases e
  · cases e

/-- what a call's result is, as data -/
theorem tupUnval_res (hD : TabOK P D) {n0 : Nat} {A : List Nat} {x : Tup T A} {r : Value} (h : tupUnval D A v = some x) (hr : RelR P D n0 w ok v r) : RelT D w ok (tupVal D A x) r := by
  have several : ∀ {vs : List (PV T)}, v = .tup vs → unvals D A vs = some x → (∀ a, A ≠ [a]) → RelT D w ok (tupVal D A x) r := fun {vs} hv hu hne => by
    subst hv
    obtain ⟨rs, rfl, hn, hr⟩ := hr
    obtain ⟨e1, e2⟩ := unvals_res hD (R := fun i => rs.getD i undef) hu hr
    have : tupVal D A x = .tup (tupVals D A x) := by
      unfold tupVal
      split
      · rename_i v hv
        have hl := tupVals_len (D := D) (x := x)
        rw [hv] at hl
        cases A with
        | nil => simp at hl
        | cons a A => cases A with
          | nil => exact absurd rfl (hne a)
          | cons b A => simp at hl
      · rfl
    rw [this]
    exact ⟨rs, rfl, by rw [hn, e1], e2⟩
  cases A with
  | nil =>
    cases v <;> first | (cases h; done) | skip
    rename_i vs
    exact several rfl h (fun a => by simp)
  | cons a A =>
    cases A with
    | nil =>
      have h : D.unval a v = some x := h
      have hv : RelR1 P D n0 w ok v r := by
        by_cases ht : ∃ vs, v = .tup vs
        · obtain ⟨vs, rfl⟩ := ht
          exfalso
          unfold Tab.unval at h
          split at h
          · split at h
            · rename_i e; cases e
            · have he := hD.dec a _ x h
              have := (hD.encData a x (.tup vs) (by rw [he]; simp [plainC])).1
              simp [isData] at this
            · simp at h
          · simp at h
        · cases v <;> first | exact hr | exact absurd ⟨_, rfl⟩ ht
      have := unval_res hD h hv
      have hn := val_notup (x := x) hD (E := a)
      show RelT D w ok (D.val a x) r
      revert this hn
      generalize D.val a x = z
      intro this hn
      cases z <;> first | exact this | exact absurd rfl (hn _)
    | cons b A =>
      cases v <;> first | (cases h; done) | skip
      rename_i vs
      exact several rfl h (fun a => by simp)

theorem decArg_rel (hD : TabOK P D) (hS : SpecOK P D S) (hin : ∀ b x, rh b = some x → w.heap[b]? = some x) {as : AK} {x : as.Ty T} {r : Value} (h : decArg D S as v = some x) (hr : Rel P D w (G0 ok rh out) v r) : Rel P D w (G0 ok rh none) (encArg D as x) r := by
  cases as with
  | val E =>
    have h : D.unval E v = some x := by cases v <;> exact h
    exact val_rel (g := G0 ok rh none) hD (unval_rel (g := G0 ok rh out) hD h hr)
  | rp E =>
    cases v <;> first | (cases h; done) | skip
    rename_i cs
    have h : D.dec E cs = some x := h
    cases hr with
    | rp _ b off F hc hr' =>
      have he := hD.dec E cs x h
      refine .rp _ b off F (fun i c hi => ?_) fun i c hi => ?_
      · rw [he, List.getElem?_map] at hi
        obtain ⟨d, h1, rfl⟩ := Option.map_eq_some_iff.1 hi
        exact hc i d h1
      · have hd := hD.encData E x c (List.mem_of_getElem? hi)
        rw [he, List.getElem?_map] at hi
        obtain ⟨d, h1, rfl⟩ := Option.map_eq_some_iff.1 hi
        exact isData_rel (g := G0 ok rh none) rfl hd.2 ((hr' i d h1).data hd.1)
  | fn A R =>
    cases v <;> first | (cases h; done) | skip
    · rename_i fi caps
      have h : (match cleanL caps with
        | true => some fun x => S fi (tupVals D A x ++ caps) [] fun v _ => tupUnval D R v
        | false => none) = some x := h
      split at h
      · rename_i hcl
        cases h
        cases hr with
        | clo _ _ vs hn hr' =>
          refine .prd A R _ _ ⟨fi, vs, rfl, fun y z hp => ?_⟩
          have hp : (S fi (tupVals D A y ++ caps) [] fun v _ => tupUnval D R v) = some z := hp
          have hnat : ∀ {ρ : Type} (f : Nat) (args obj : List (PV T)) (k : PV T → List (PV T) → Option ρ), S f args obj k = (S f args obj fun v o => some (v, o)).bind fun x => k x.1 x.2 := hS.nat
          rw [hnat] at hp
          obtain ⟨⟨v0, o0⟩, h1, h2⟩ := Option.bind_eq_some_iff.1 hp
          have hcall := hS.ok _ _ _ _ _ h1
          refine ⟨hcall.body, fun w' ok' hE hin' hrh vals hvn hv => ?_⟩
          have hargs : RelL P D w' (G0 ok' rh none) (tupVals D A y ++ caps) (vals ++ vs) := by
            refine RelL.append ⟨hvn, fun i c hi => ?_⟩ (RelL.imp ⟨hn, hr'⟩ fun c r hcm hrc => ?_)
            · obtain ⟨E, q, rfl⟩ := tupVals_val hi
              exact val_rel (g := G0 ok' rh none) hD (hv i _ hi)
            · exact Rel.move (g := G0 ok rh out) (g' := G0 ok' rh none) hE (fun _ _ e => e) hrc (cleanL_mem hcl hcm)
          refine (hcall.run w' ok' rh none (vals ++ vs) hin' (fun b z hz => ⟨hrh b z hz, by simp⟩) hargs rfl).mono ?_
          rintro e w'' ⟨r, ok'', rfl, hF, hN, hres, _⟩
          exact ⟨r, ok'', rfl, hF, hN, tupUnval_res hD h2 hres⟩
      · simp at h
    · rename_i A' R' p
      have h : decFn A R A' R' p = some x := h
      unfold decFn at h
      split at h
      · rename_i hA hR _ _
        subst hA; subst hR
        cases h
        cases hr with
        | prd _ _ _ _ hp => exact .prd _ _ _ _ hp
      · simp at h
  | seq A =>
    cases v <;> first | (cases h; done) | skip
    rename_i A' xs
    have h : (match decEq A' A with
      | .isTrue h => some (h ▸ xs)
      | .isFalse _ => none) = some x := h
    split at h
    · rename_i hA _
      subst hA
      cases h
      cases hr with
      | seq _ _ _ hs => exact .seq _ _ _ hs
    · simp at h
  | nil E =>
    cases v <;> first | (cases h; done) | skip
    rename_i E' l ow
    cases ow <;> first | (cases h; done) | skip
    cases hr with
    | sl _ _ _ _ hd ho =>
      have ho : r = .slice none 0 0 := ho
      subst ho
      exact .sl E [] .nil _ (.sl E [] .no none 0 (fun _ _ => Go.undef) (by simp) (by simp) (by simp)) rfl

theorem decArgs_rel (hD : TabOK P D) (hS : SpecOK P D S) (hin : ∀ b x, rh b = some x → w.heap[b]? = some x) : ∀ {as : List AK} {vs : List (PV T)} {x : ArgsTy T as} {R : Nat → Value}, decArgs D S as vs = some x → (∀ i c, vs[i]? = some c → Rel P D w (G0 ok rh out) c (R i)) →
    (encArgs D as x).length = vs.length ∧ ∀ i c, (encArgs D as x)[i]? = some c → Rel P D w (G0 ok rh none) c (R i) := by
  intro as
  induction as with
  | nil =>
    intro vs x R h hr
    cases vs with
    | nil => exact ⟨rfl, fun i c hi => by simp [encArgs] at hi⟩
    | cons v r => cases h
  | cons a as ih =>
    intro vs x R h hr
    cases vs with
    | nil => cases as <;> cases h
    | cons v r =>
      cases as with
      | nil =>
        cases r with
        | nil =>
          refine ⟨rfl, fun i c hi => ?_⟩
          cases i with
          | zero => simp [encArgs] at hi; subst hi; exact decArg_rel hD hS hin h (hr 0 v rfl)
          | succ i => simp [encArgs] at hi
        | cons v' r' => cases h
      | cons b as =>
        change ((decArg D S a v).bind fun x => (decArgs D S (b :: as) r).bind fun y => some (x, y)) = some x at h
        obtain ⟨y, h1, h2⟩ := Option.bind_eq_some_iff.1 h
        obtain ⟨z, h3, h4⟩ := Option.bind_eq_some_iff.1 h2
        cases h4
        obtain ⟨e1, e2⟩ := ih (R := fun i => R (i + 1)) h3 fun i c hi => hr (i + 1) c hi
        refine ⟨by simp [encArgs, e1], fun i c hi => ?_⟩
        cases i with
        | zero => simp [encArgs] at hi; subst hi; exact decArg_rel hD hS hin h1 (hr 0 v rfl)
        | succ i => exact e2 i c (by simpa [encArgs] using hi)

/-! ### Results -/

/-- an iterator that is known -/
def GOK (P : Program) (D : Tab T) (e : GEnt T) : Prop := ∀ caps xs, e.run caps = some xs → ∀ w ok cvals, cleanL caps = true → RelL P D w (G0 ok noH none) caps cvals → SeqOK P D w ok e.A xs (.func (.func e.g) #[] cvals)

theorem findG_mem {g : Nat} {e : GEnt T} : ∀ {l : List (GEnt T)}, findG g l = some e → e ∈ l ∧ e.g = g
  | [], h => by simp [findG] at h
  | x :: r, h => by
    simp only [findG] at h
    split at h
    · rename_i hb; cases h; exact ⟨by simp, Nat.eq_of_beq_eq_true hb⟩
    · obtain ⟨h1, h2⟩ := findG_mem h; exact ⟨by simp [h1], h2⟩

theorem decRes_rel (hD : TabOK P D) {G : List (GEnt T)} (hG : ∀ e, e ∈ G → GOK P D e) {n0 : Nat} {rk : RK} (hk : ∀ ts, rk ≠ .ifc ts) {y : rk.Ty T} {r : Value} (h : decRes D G rk v = some y) (hr : RelR1 P D n0 w ok v r) : RelR1 P D n0 w ok (encRes D rk y) r := by
  cases rk with
  | val E =>
    have h : D.unval E v = some y := by cases v <;> exact h
    exact .data _ _ (val_clean hD).1 (val_rel (g := G0 ok noH none) hD (unval_res hD h hr))
  | own E =>
    have hl : ∃ (l : List (T E)) (ow : Own), v = .sl E l ow ∧ ow ≠ .no ∧ y = l := by
      cases v with
      | sl E' l ow =>
        have hown : ow ≠ .no ∧ ownList E (.sl E' l ow) = some y := by
          cases ow <;> first | (cases h; done) | exact ⟨by simp, h⟩
        have h2 := hown.2
        simp only [ownList] at h2
        split at h2
        · rename_i hE _
          subst hE
          cases h2
          exact ⟨_, ow, rfl, hown.1, rfl⟩
        · simp at h2
      | _ => cases h
    obtain ⟨l, ow, rfl, hne, rfl⟩ := hl
    show RelR1 P D n0 w ok (.sl E y (.tok 0 0)) r
    cases hr with
    | data _ _ hc hr =>
      cases hr with
      | sl _ _ _ _ hd ho =>
        refine .own E y 0 0 r hd ?_
        cases ow with
        | no => exact absurd rfl hne
        | nil => exact .inl ho
        | full => rcases ho with ho | ho; exact .inl ho; exact .inr (.inl ho)
        | tok t k => simp [PV.clean] at hc
    | own _ _ t k _ hd hr => exact .own E y 0 0 r hd hr
  | new E =>
    cases v <;> first | (cases h; done) | skip
    rename_i cs
    have h : D.dec E cs = some y := h
    cases hr with
    | data _ _ hc _ => simp [PV.clean] at hc
    | new _ b vs E' hb hh hc h1 ho => exact .new _ b vs E' hb hh (encs_clean hD).1 (dec_rel hD h h1 rfl) ho
  | seq A =>
    cases v <;> first | (cases h; done) | skip
    rename_i gi caps
    have h : (match findG gi G with
      | some e => match decEq e.A A with
        | .isTrue h => (e.run caps).bind fun xs => some (h ▸ xs)
        | .isFalse _ => none
      | none => none) = some y := h
    split at h
    · rename_i e he
      split at h
      · rename_i hA _
        obtain ⟨xs, h1, h2⟩ := Option.bind_eq_some_iff.1 h
        obtain ⟨hm, hgi⟩ := findG_mem he
        subst hA
        cases h2
        cases hr with
        | data _ _ hc hr =>
          cases hr with
          | clo _ _ vs hn hr' =>
            subst hgi
            exact .data _ _ rfl (.seq _ _ _ (hG e hm caps xs h1 w ok vs (clean_clo hc) ⟨hn, hr'⟩))
      · simp at h
    · simp at h
  | ifc ts => exact absurd rfl (hk ts)

theorem decRess_rel (hD : TabOK P D) {G : List (GEnt T)} (hG : ∀ e, e ∈ G → GOK P D e) {n0 : Nat} : ∀ {rs : List RK} {vs : List (PV T)} {y : ResTy T rs} {R : Nat → Value}, decRess D G rs vs = some y → (∀ i c, vs[i]? = some c → RelR1 P D n0 w ok c (R i)) →
    (encRess D rs y).length = vs.length ∧ ∀ i c, (encRess D rs y)[i]? = some c → RelR1 P D n0 w ok c (R i) := by
  have one : ∀ {rk : RK} {v : PV T} {y : rk.Ty T} {r : Value}, decRes D G rk v = some y → RelR1 P D n0 w ok v r → RelR1 P D n0 w ok (encRes D rk y) r := fun {rk v y r} h hr => by
    by_cases hk : ∃ ts, rk = .ifc ts
    · obtain ⟨ts, rfl⟩ := hk
      exact .data _ _ rfl (.undef _)
    · exact decRes_rel hD hG (fun ts e => hk ⟨ts, e⟩) h hr
  intro rs
  induction rs with
  | nil =>
    intro vs y R h hr
    cases vs with
    | nil => exact ⟨rfl, fun i c hi => by simp [encRess] at hi⟩
    | cons v r => cases h
  | cons a rs ih =>
    intro vs y R h hr
    cases vs with
    | nil => cases rs <;> cases h
    | cons v r =>
      cases rs with
      | nil =>
        cases r with
        | nil =>
          refine ⟨rfl, fun i c hi => ?_⟩
          cases i with
          | zero => simp [encRess] at hi; subst hi; exact one h (hr 0 v rfl)
          | succ i => simp [encRess] at hi
        | cons v' r' => cases h
      | cons b rs =>
        change ((decRes D G a v).bind fun x => (decRess D G (b :: rs) r).bind fun y => some (x, y)) = some y at h
        obtain ⟨x, h1, h2⟩ := Option.bind_eq_some_iff.1 h
        obtain ⟨z, h3, h4⟩ := Option.bind_eq_some_iff.1 h2
        cases h4
        obtain ⟨e1, e2⟩ := ih (R := fun i => R (i + 1)) h3 fun i c hi => hr (i + 1) c hi
        refine ⟨by simp [encRess, e1], fun i c hi => ?_⟩
        cases i with
        | zero => simp [encRess] at hi; subst hi; exact one h1 (hr 0 v rfl)
        | succ i => exact e2 i c (by simpa [encRess] using hi)

theorem sum_rel (hD : TabOK P D) {n0 t : Nat} {c : PV T} {r : Value} (hr : RelR1 P D n0 w ok (.ifc t c) r) : ∀ {ts : List Nat} {y : SumTy T ts} {v' : PV T}, sumOf D t c ts = some y → sumK D (fun v => some v) ts y = some v' → RelR1 P D n0 w ok v' r := by
  have key : ∀ {a : Nat} {x : T a}, a = t → D.unval a c = some x → RelR1 P D n0 w ok (.ifc a (D.val a x)) r := fun {a x} ha hx => by
    subst ha
    cases hr with
    | data _ _ hc hr =>
      cases hr with
      | ifc _ _ vv hr =>
        exact .data _ _ (by simpa [PV.clean] using (val_clean (x := x) hD).1) (.ifc _ _ _ (val_rel (g := G0 ok noH none) hD (unval_rel (g := G0 ok noH none) hD hx hr)))
  intro ts
  induction ts with
  | nil => intro y v' h; cases h
  | cons a ts ih =>
    intro y v' h hk
    cases ts with
    | nil =>
      have h : (match Nat.beq a t with | true => D.unval a c | false => none) = some y := h
      split at h
      · rename_i hb
        cases hk
        exact key (Nat.eq_of_beq_eq_true hb) h
      · simp at h
    | cons b ts =>
      have h : (match Nat.beq a t with
        | true => (D.unval a c).bind fun x => some (.inl x)
        | false => (sumOf D t c (b :: ts)).bind fun x => some (.inr x)) = some y := h
      split at h
      · rename_i hb
        obtain ⟨x, h1, h2⟩ := Option.bind_eq_some_iff.1 h
        cases h2
        cases hk
        exact key (Nat.eq_of_beq_eq_true hb) h1
      · obtain ⟨x, h1, h2⟩ := Option.bind_eq_some_iff.1 h
        cases h2
        exact ih h1 hk

theorem encRess_len : ∀ {rs : List RK} {y : ResTy T rs}, (encRess D rs y).length = rs.length := by
  intro rs
  induction rs with
  | nil => intro y; rfl
  | cons a rs ih =>
    intro y
    cases rs with
    | nil => rfl
    | cons b rs => simp only [encRess, List.length_cons]; rw [ih]; rfl

/-- what a call's results are, as they are handed on -/
theorem resUnval_rel (hD : TabOK P D) {G : List (GEnt T)} (hG : ∀ e, e ∈ G → GOK P D e) {n0 : Nat} {rs : List RK} {y : ResTy T rs} {r : Value} {v' : PV T} (h : resUnval D G rs v = some y) (hr : RelR P D n0 w ok v r) (hk : resK D rs y (fun v => some v) = some v') : RelR P D n0 w ok v' r := by
  have several : ∀ {vs : List (PV T)}, v = .tup vs → decRess D G rs vs = some y → (∀ a, rs ≠ [a]) → RelR P D n0 w ok v' r := fun {vs} hv hu hne => by
    subst hv
    obtain ⟨us, rfl, hn, hr⟩ := hr
    obtain ⟨e1, e2⟩ := decRess_rel hD hG (R := fun i => us.getD i undef) hu hr
    have hv' : v' = .tup (encRess D rs y) := by
      unfold resK at hk
      split at hk
      · rename_i ts; exact absurd rfl (hne _)
      · split at hk
        · rename_i v0 hv0
          have hl : (encRess D rs y).length = rs.length := encRess_len
          rw [hv0] at hl
          cases rs with
          | nil => simp at hl
          | cons a rs => cases rs with
            | nil => exact absurd rfl (hne a)
            | cons b rs => simp at hl
        · exact (Option.some.inj hk).symm
    rw [hv']
    exact ⟨us, rfl, by rw [hn, e1], e2⟩
  cases rs with
  | nil =>
    cases v <;> first | (cases h; done) | skip
    exact several rfl h (fun a => by simp)
  | cons a rs =>
    cases rs with
    | nil =>
      have h : decRes D G a v = some y := h
      have hnt : ∀ vs, v = .tup vs → False := fun vs e => by
        subst e
        cases a with
        | val E =>
          have h : D.unval E (.tup vs) = some y := h
          unfold Tab.unval at h
          split at h
          · split at h
            · rename_i e; cases e
            · have he := hD.dec E _ y h
              have := (hD.encData E y (.tup vs) (by rw [he]; simp [plainC])).1
              simp [isData] at this
            · simp at h
          · simp at h
        | _ => cases h
      have hv : RelR1 P D n0 w ok v r := by cases v <;> first | exact hr | exact (hnt _ rfl).elim
      by_cases hka : ∃ ts, a = .ifc ts
      · obtain ⟨ts, rfl⟩ := hka
        cases v <;> first | (cases h; done) | skip
        exact RelR_of1 (sum_rel hD hv h hk)
      · have hk' : v' = encRes D a y := by
          cases a <;> first | exact absurd ⟨_, rfl⟩ hka | exact (Option.some.inj hk).symm
        rw [hk']
        exact RelR_of1 (decRes_rel hD hG (fun ts e => hka ⟨ts, e⟩) h hv)
    | cons b rs =>
      cases v <;> first | (cases h; done) | skip
      exact several rfl h (fun a => by simp)

end
end Go.Px

namespace Go.Px
variable {T : Nat → Type} {ρ : Type}

section
variable {S : Specs T} {g g' : Gh} {w : World} {v : PV T} {ok : Nat → Nat → Prop} {rh : Nat → Option Obj} {out : Option Nat} {P : Program} {D : Tab T} {l : List Nat}

/-! ## Two tables that differ only in which arrays are sliced -/

theorem RelD.b (l : List Nat) {c : PV T} {v : Value} (h : RelD D w ok c v) : RelD (D.b l) w ok c v := by
  induction h with
  | int k n => exact .int k n
  | bool b => exact .bool b
  | sl E xs o a cap f hcap ha hr ih => exact .sl E xs o a cap f hcap ha ih

theorem RelD_b : RelD (D.b l) = RelD D := by
  funext w ok c v
  exact propext ⟨fun h => RelD.b (D := D.b l) D.bsl h, RelD.b l⟩

theorem RelV.b (l : List Nat) {c : PV T} {v : Value} (h : RelV D w ok c v) : RelV (D.b l) w ok c v := by
  cases h with
  | cell h => exact .cell (h.b l)
  | agg cs vs hn h => exact .agg cs vs hn fun i c hi => (h i c hi).b l

theorem RelV_b : RelV (D.b l) = RelV D := by
  funext w ok c v
  exact propext ⟨fun h => RelV.b (D := D.b l) D.bsl h, RelV.b l⟩

theorem RelT_b : RelT (D.b l) = RelT D := by
  funext w ok c v
  cases c <;> simp only [RelT, RelV_b]

theorem tupVals_b : ∀ {A : List Nat} {x : Tup T A}, tupVals (D.b l) A x = tupVals D A x
  | [], _ => rfl
  | [a], _ => rfl
  | a :: b :: r, x => by
    show D.val a x.1 :: tupVals (D.b l) (b :: r) x.2 = D.val a x.1 :: tupVals D (b :: r) x.2
    rw [tupVals_b]

theorem tupVal_b {A : List Nat} {x : Tup T A} : tupVal (D.b l) A x = tupVal D A x := by
  unfold tupVal; rw [tupVals_b]

theorem unvals_b : ∀ {A : List Nat} {vs : List (PV T)}, unvals (D.b l) A vs = unvals D A vs
  | [], [] => rfl
  | [], _ :: _ => rfl
  | [a], [] => rfl
  | [a], [v] => rfl
  | [a], _ :: _ :: _ => rfl
  | a :: b :: r, [] => rfl
  | a :: b :: r, v :: vs => by
    show ((D.unval a v).bind fun x => (unvals (D.b l) (b :: r) vs).bind fun y => some (x, y)) = ((D.unval a v).bind fun x => (unvals D (b :: r) vs).bind fun y => some (x, y))
    rw [unvals_b]

theorem unval_b : (D.b l).unval = D.unval := rfl
theorem dec_b : (D.b l).dec = D.dec := rfl

theorem tupUnval_b {A : List Nat} {v : PV T} : tupUnval (D.b l) A v = tupUnval D A v := by
  unfold tupUnval
  simp only [unvals_b, unval_b]

theorem PrdOK_b {A R : List Nat} {p : Tup T A → Option (Tup T R)} {v : Value} : PrdOK P (D.b l) w ok rh A R p v = PrdOK P D w ok rh A R p v := by
  unfold PrdOK
  simp only [tupVals_b, tupVal_b, RelV_b, RelT_b]

theorem SeqOK_b {A : List Nat} {xs : List (Tup T A)} {v : Value} : SeqOK P (D.b l) w ok A xs v = SeqOK P D w ok A xs v := by
  unfold SeqOK YieldOK YieldAt
  simp only [tupVals_b, RelV_b]

theorem Rel.b (l : List Nat) {c : PV T} {v : Value} (h : Rel P D w g c v) : Rel P (D.b l) w g c v := by
  induction h with
  | undef v => exact .undef v
  | skip => exact .skip
  | int k n => exact .int k n
  | bool b => exact .bool b
  | nilp => exact .nilp
  | nilf => exact .nilf
  | nili => exact .nili
  | sl E xs o v h ho => exact .sl E xs o v (h.b l) (by cases o <;> exact ho)
  | bsl E t k n b hk h => exact .bsl E t k n b hk h
  | agg cs vs hn h ih => exact .agg cs vs hn ih
  | tup cs vs hn h ih => exact .tup cs vs hn ih
  | loc t k off b hk h => exact .loc t k off b hk h
  | rp cs b off f hc h ih => exact .rp cs b off f hc ih
  | clo f cs vs hn h ih => exact .clo f cs vs hn ih
  | prd A R p v h => exact .prd A R p v (by rw [PrdOK_b]; exact h)
  | seq A xs v h => exact .seq A xs v (by rw [SeqOK_b]; exact h)
  | yld k h => exact .yld k h
  | ifc t c v h ih => exact .ifc t c v ih

theorem Rel_b : Rel P (D.b l) = Rel P D := by
  funext w g c v
  exact propext ⟨fun h => Rel.b (D := D.b l) D.bsl h, Rel.b l⟩

theorem RelL_b : RelL P (D.b l) = RelL P D := by
  funext w g cs vs
  simp only [RelL, Rel_b]

theorem RelR1.b (l : List Nat) {n0 : Nat} {c : PV T} {v : Value} (h : RelR1 P D n0 w ok c v) : RelR1 P (D.b l) n0 w ok c v := by
  cases h with
  | data _ _ hc h => exact .data _ _ hc (h.b l)
  | own E xs t k _ h hr => exact .own E xs t k _ (h.b l) hr
  | new cs b vs E hb hh hc h ho => exact .new cs b vs E hb hh hc (by rw [RelL_b]; exact h) ho

theorem RelR1_b : RelR1 P (D.b l) = RelR1 P D := by
  funext n0 w ok c v
  exact propext ⟨fun h => RelR1.b (D := D.b l) D.bsl h, RelR1.b l⟩

theorem RelR_b : RelR P (D.b l) = RelR P D := by
  funext n0 w ok c v
  cases c <;> simp only [RelR, RelR1_b]

theorem ObjOK_b {obj : List (PV T)} : ObjOK P (D.b l) w ok rh obj out = ObjOK P D w ok rh obj out := by
  cases out <;> simp only [ObjOK, RelL_b]

theorem CallOK.b (l : List Nat) {f : Nat} {args obj obj' : List (PV T)} {v : PV T} (h : CallOK P D f args obj v obj') : CallOK P (D.b l) f args obj v obj' := by
  refine ⟨h.body, ?_⟩
  simp only [RelL_b, ObjOK_b, RelR_b]
  exact h.run

theorem SpecOK.b (l : List Nat) (h : SpecOK P D S) : SpecOK P (D.b l) S := ⟨h.nat, fun f args obj v o' e => (h.ok f args obj v o' e).b l⟩

theorem TabOK.b (l : List Nat) (h : TabOK P D) : TabOK P (D.b l) where
  info := h.info
  encLen := h.encLen
  encData := h.encData
  dec := h.dec
  meth := h.meth
  eqs := h.eqs
  mixed := h.mixed

theorem GOK.b (l : List Nat) {e : GEnt T} (h : GOK P D e) : GOK P (D.b l) e := by
  intro caps xs he w ok cvals hc hr
  rw [SeqOK_b]
  rw [RelL_b] at hr
  exact h caps xs he w ok cvals hc hr

theorem decArg_b {as : AK} {v : PV T} : decArg (D.b l) S as v = decArg D S as v := by
  unfold decArg
  simp only [tupVals_b, tupUnval_b, unval_b, dec_b]

theorem decArgs_b : ∀ {as : List AK} {vs : List (PV T)}, decArgs (D.b l) S as vs = decArgs D S as vs
  | [], [] => rfl
  | [], _ :: _ => rfl
  | [a], [] => rfl
  | [a], [v] => decArg_b
  | [a], _ :: _ :: _ => rfl
  | a :: b :: r, [] => rfl
  | a :: b :: r, v :: vs => by
    show ((decArg (D.b l) S a v).bind fun x => (decArgs (D.b l) S (b :: r) vs).bind fun y => some (x, y)) = ((decArg D S a v).bind fun x => (decArgs D S (b :: r) vs).bind fun y => some (x, y))
    rw [decArg_b, decArgs_b]

theorem sumK_b {k : PV T → Option ρ} : ∀ {ts : List Nat} {y : SumTy T ts}, sumK (D.b l) k ts y = sumK D k ts y
  | [], _ => rfl
  | [a], _ => rfl
  | a :: b :: r, .inl y => rfl
  | a :: b :: r, .inr z => by
    show sumK (D.b l) k (b :: r) z = sumK D k (b :: r) z
    exact sumK_b

theorem encRess_b : ∀ {rs : List RK} {y : ResTy T rs}, encRess (D.b l) rs y = encRess D rs y
  | [], _ => rfl
  | [a], y => by cases a <;> rfl
  | a :: b :: r, y => by
    show encRes (D.b l) a y.1 :: encRess (D.b l) (b :: r) y.2 = encRes D a y.1 :: encRess D (b :: r) y.2
    rw [encRess_b]
    cases a <;> rfl

theorem resK_b {rs : List RK} {y : ResTy T rs} {k : PV T → Option ρ} : resK (D.b l) rs y k = resK D rs y k := by
  unfold resK
  split
  · exact sumK_b
  · rw [encRess_b]

end
end Go.Px

namespace Go.Px
variable {T : Nat → Type} {ρ : Type}

section
variable {S : Specs T} {g g' : Gh} {w : World} {v : PV T} {ok : Nat → Nat → Prop} {rh : Nat → Option Obj} {out : Option Nat} {P : Program} {D : Tab T} {l : List (Ent T)} {G : List (GEnt T)} {ann : List (Nat × Lp)} {f : Func} {as : List AK} {rs : List RK} {fi : Nat} {bs : List Nat}

/-! ## What is known of functions -/

structure EntOK (P : Program) (D : Tab T) (e : Ent T) : Prop where
  nat : ∀ (S : Specs T) {ρ : Type} (args obj : List (PV T)) (k : PV T → List (PV T) → Option ρ), e.run S args obj k = (e.run S args obj fun v o => some (v, o)).bind fun x => k x.1 x.2
  ok : ∀ (S : Specs T), SpecOK P D S → ∀ args obj v o', e.run S args obj (fun v o => some (v, o)) = some (v, o') → CallOK P D e.f args obj v o'

theorem findEnt_mem {f : Nat} {e : Ent T} : ∀ {l : List (Ent T)}, findEnt f l = some e → e ∈ l ∧ e.f = f
  | [], h => by simp [findEnt] at h
  | x :: r, h => by
    simp only [findEnt] at h
    split at h
    · rename_i hb; cases h; exact ⟨by simp, Nat.eq_of_beq_eq_true hb⟩
    · obtain ⟨h1, h2⟩ := findEnt_mem h; exact ⟨by simp [h1], h2⟩

theorem SL_ok (hl : ∀ e, e ∈ l → EntOK P D e) : ∀ n, SpecOK P D (fun {_} => SL l n)
  | 0 => ⟨fun f args obj k => rfl, fun f args obj v o' h => by simp [SL] at h⟩
  | n + 1 => by
    have ih := SL_ok hl n
    refine ⟨fun f args obj k => ?_, fun f args obj v o' h => ?_⟩
    · simp only [SL]
      cases he : findEnt f l with
      | none => rfl
      | some e => exact (hl e (findEnt_mem he).1).nat _ args obj k
    · simp only [SL] at h
      cases he : findEnt f l with
      | none => rw [he] at h; simp at h
      | some e =>
        rw [he] at h
        obtain ⟨h1, rfl⟩ := findEnt_mem he
        exact (hl e h1).ok _ ih args obj v o' h

theorem sumK_nat {D : Tab T} {k : PV T → Option ρ} : ∀ {ts : List Nat} {y : SumTy T ts}, sumK D k ts y = (sumK D some ts y).bind k
  | [], _ => rfl
  | [a], _ => rfl
  | a :: b :: r, .inl y => rfl
  | a :: b :: r, .inr z => by
    show sumK D k (b :: r) z = (sumK D some (b :: r) z).bind k
    exact sumK_nat

theorem resK_nat {D : Tab T} {y : ResTy T rs} {k : PV T → Option ρ} : resK D rs y k = (resK D rs y some).bind k := by
  unfold resK
  split
  · exact sumK_nat
  · split <;> rfl

theorem resK_some {D : Tab T} {y : ResTy T rs} {k : PV T → Option ρ} {r : ρ} (h : resK D rs y k = some r) : ∃ v, resK D rs y (fun v => some v) = some v ∧ k v = some r := by
  rw [resK_nat] at h
  exact Option.bind_eq_some_iff.1 h

theorem encArg_clean (hD : TabOK P D) {a : AK} {x : a.Ty T} : (encArg D a x).clean = true := by
  cases a with
  | val E => exact (val_clean (x := x) hD).1
  | rp E => exact (encs_clean (x := x) hD).1
  | fn A R => rfl
  | seq A => rfl
  | nil E => rfl

theorem encArgs_clean (hD : TabOK P D) : ∀ {as : List AK} {x : ArgsTy T as}, cleanL (encArgs D as x) = true
  | [], _ => rfl
  | [a], x => by
    have h : (encArg D a x).clean = true := encArg_clean hD
    show cleanL [encArg D a x] = true
    simp only [cleanL, h]
  | a :: b :: r, x => by
    have h : (encArg D a x.1).clean = true := encArg_clean hD
    show cleanL (encArg D a x.1 :: encArgs D (b :: r) x.2) = true
    simp only [cleanL, h]
    exact encArgs_clean hD

/-- a function without an object -/
theorem mkEnt_ok (hD : TabOK P D) (hl : ∀ e, e ∈ l → EntOK P D e) (hG : ∀ e, e ∈ G → GOK P D e) (hf : P.funcs[fi]? = some f) (hn : NameOk f) {F : ArgsTy T as → Option (ResTy T rs)} (hF : ∀ x, evPlain (D.b bs) l G ann f as rs x = F x) :
    EntOK P D (mkEnt D fi as rs F) := by
  refine ⟨fun S ρ args obj k => ?_, fun S hS args obj v o' h => ?_⟩
  · cases obj with
    | cons c r => rfl
    | nil =>
      show ((decArgs D S as args).bind fun x => (F x).bind fun y => resK D rs y fun v => k v []) = ((decArgs D S as args).bind fun x => (F x).bind fun y => resK D rs y fun v => some (v, [])).bind fun x => k x.1 x.2
      cases decArgs D S as args with
      | none => rfl
      | some x =>
        show ((F x).bind fun y => resK D rs y fun v => k v []) = ((F x).bind fun y => resK D rs y fun v => some (v, [])).bind fun x => k x.1 x.2
        cases F x with
        | none => rfl
        | some y =>
          show (resK D rs y fun v => k v []) = (resK D rs y fun v => some (v, ([] : List (PV T)))).bind fun x => k x.1 x.2
          rw [resK_nat, resK_nat (k := fun v => some (v, ([] : List (PV T)))), Option.bind_assoc]
          rfl
  · cases obj with
    | cons c r => cases h
    | nil =>
      have h : ((decArgs D S as args).bind fun x => (F x).bind fun y => resK D rs y fun v => some (v, ([] : List (PV T)))) = some (v, o') := h
      obtain ⟨x, h1, h2⟩ := Option.bind_eq_some_iff.1 h
      obtain ⟨y, h3, h4⟩ := Option.bind_eq_some_iff.1 h2
      obtain ⟨v', h5, h6⟩ := resK_some h4
      cases h6
      rw [← hF x] at h3
      have h3 : evFn (D.b bs) (fun {_} => SL l 3) (fun n => look n ann) f (encArgs (D.b bs) as x) [] (fun v _ => resUnval (D.b bs) G rs v) = some y := h3
      obtain ⟨c, hb, _, _⟩ := evFn_some h3
      refine ⟨⟨f, hf, by rw [hb]; rfl, hn⟩, fun w ok rh out vals hin hrh hargs hobj => ?_⟩
      have hout : out = none := by
        cases out with
        | none => rfl
        | some b => obtain ⟨_, _, _, h, _⟩ := hobj; exact absurd rfl h
      subst hout
      have hS' := (SL_ok hl 3).b bs
      have h1' : decArgs (D.b bs) S as args = some x := by rw [decArgs_b]; exact h1
      have hargs' : RelL P (D.b bs) w (G0 ok rh none) args vals := by rw [RelL_b]; exact hargs
      obtain ⟨e1, e2⟩ := decArgs_rel (hD.b bs) (hS.b bs) (fun b x hb => (hrh b x hb).1) (out := none) (R := fun i => vals.getD i undef) h1' hargs'.2
      refine (fn_ok (hD.b bs) hS' hf h3 hin hrh (vals := vals) ⟨by rw [e1]; exact hargs'.1, e2⟩ rfl).mono ?_
      rintro e w'' ⟨v0, o0, rv, ok'', hk, rfl, hF1, hO, hR, _⟩
      refine ⟨rv, ok'', rfl, hF1, hO, ?_, fun b hb => by simp at hb⟩
      have := resUnval_rel (hD.b bs) (fun e he => (hG e he).b bs) hk hR (v' := v) (by rw [resK_b]; exact h5)
      rw [RelR_b] at this
      exact this

/-- a function with an object -/
theorem mkEntO_ok (hD : TabOK P D) (hl : ∀ e, e ∈ l → EntOK P D e) (hG : ∀ e, e ∈ G → GOK P D e) (hf : P.funcs[fi]? = some f) (hn : NameOk f) {E : Nat} {i : TI T} (hi : D.info E = some i) (hz : 0 < i.size) {F : T E → ArgsTy T as → Option (T E × ResTy T rs)}
    (hF : ∀ o x, evObj (D.b bs) l G ann f E as rs o x = F o x) : EntOK P D (mkEntO D fi E as rs F) := by
  have hne : ∀ x : T E, D.enc E x ≠ [] := fun x e => by
    have := hD.encLen E x i hi
    rw [e] at this
    simp at this
    omega
  refine ⟨fun S ρ args obj k => ?_, fun S hS args obj v o' h => ?_⟩
  · simp only [mkEntO]
    split
    · split
      · cases D.dec E obj with
        | none => rfl
        | some o =>
          rename_i r _ _
          show ((decArgs D S as r).bind fun x => (F o x).bind fun y => resK D rs y.2 fun v => k v (D.enc E y.1)) = ((decArgs D S as r).bind fun x => (F o x).bind fun y => resK D rs y.2 fun v => some (v, D.enc E y.1)).bind fun x => k x.1 x.2
          cases decArgs D S as r with
          | none => rfl
          | some x =>
            show ((F o x).bind fun y => resK D rs y.2 fun v => k v (D.enc E y.1)) = ((F o x).bind fun y => resK D rs y.2 fun v => some (v, D.enc E y.1)).bind fun x => k x.1 x.2
            cases F o x with
            | none => rfl
            | some y =>
              show (resK D rs y.2 fun v => k v (D.enc E y.1)) = (resK D rs y.2 fun v => some (v, D.enc E y.1)).bind fun x => k x.1 x.2
              rw [resK_nat, resK_nat (k := fun v => some (v, D.enc E y.1)), Option.bind_assoc]
              rfl
      · rfl
    · rfl
  · simp only [mkEntO] at h
    split at h
    · rename_i u r
      split at h
      · rename_i hu
        have hu := Nat.eq_of_beq_eq_true hu
        subst hu
        obtain ⟨o, h0, h⟩ := Option.bind_eq_some_iff.1 h
        obtain ⟨x, h1, h2⟩ := Option.bind_eq_some_iff.1 h
        obtain ⟨⟨o2, y⟩, h3, h4⟩ := Option.bind_eq_some_iff.1 h2
        obtain ⟨v', h5, h6⟩ := resK_some h4
        cases h6
        rw [← hF o x] at h3
        have h3 : evFn (D.b bs) (fun {_} => SL l 3) (fun n => look n ann) f (.loc OUT 0 0 :: encArgs (D.b bs) as x) (D.enc E o) (fun v cs => (D.dec E cs).bind fun o' => (resUnval (D.b bs) G rs v).bind fun y => some (o', y)) = some (o2, y) := h3
        obtain ⟨c, hb, _, _⟩ := evFn_some h3
        refine ⟨⟨f, hf, by rw [hb]; rfl, hn⟩, fun w ok rh out vals hin hrh hargs hobj => ?_⟩
        have hS' := (SL_ok hl 3).b bs
        have h1' : decArgs (D.b bs) S as r = some x := by rw [decArgs_b]; exact h1
        have hargs' : RelL P (D.b bs) w (G0 ok rh out) (.loc OUT 0 0 :: r) vals := by rw [RelL_b]; exact hargs
        obtain ⟨e1, e2⟩ := decArgs_rel (hD.b bs) (hS.b bs) (fun b x hb => (hrh b x hb).1) (out := out) (R := fun i => vals.getD (i + 1) undef) h1' (fun i c hi => hargs'.2 (i + 1) c (by simpa using hi))
        have hobj' : ObjOK P (D.b bs) w ok rh (D.enc E o) out := by
          rw [ObjOK_b]
          cases out with
          | none =>
            have : obj = [] := hobj
            subst this
            have := hD.dec E [] o h0
            exact absurd this (hne o)
          | some b =>
            obtain ⟨vs, E', q1, q2, q3, q4, q5⟩ := hobj
            exact ⟨vs, E', q1, hne o, (encs_clean hD).1, dec_rel hD h0 q4 rfl, q5⟩
        have hin' : RelL P (D.b bs) w (G0 ok rh out) (.loc OUT 0 0 :: encArgs (D.b bs) as x) vals := by
          refine ⟨by rw [hargs'.1]; simp [e1], fun i c hi => ?_⟩
          cases i with
          | zero =>
            simp at hi
            subst hi
            exact hargs'.2 0 _ rfl
          | succ i =>
            have hi : (encArgs (D.b bs) as x)[i]? = some c := by simpa using hi
            exact Rel.move (g := G0 ok rh none) (g' := G0 ok rh out) (Evo.refl w ok) (fun _ _ e => e) (e2 i c hi) (cleanL_mem (encArgs_clean (hD.b bs)) (List.mem_of_getElem? hi))
        refine (fn_ok (hD.b bs) hS' hf h3 hin hrh hin' hobj').mono ?_
        rintro e w'' ⟨v0, o0, rv, ok'', hk, rfl, hF1, hO, hR, hob⟩
        obtain ⟨o3, k1, k2⟩ := Option.bind_eq_some_iff.1 hk
        obtain ⟨y', k3, k4⟩ := Option.bind_eq_some_iff.1 k2
        cases k4
        refine ⟨rv, ok'', rfl, hF1, hO, ?_, fun b hb => ?_⟩
        · have := resUnval_rel (hD.b bs) (fun e he => (hG e he).b bs) k3 hR (v' := v) (by rw [resK_b]; exact h5)
          rw [RelR_b] at this
          exact this
        · obtain ⟨g, vs, E', q1, q2, q3, q4⟩ := hob b hb
          rw [RelL_b] at q3
          exact ⟨vs, E', q2, hne _, (encs_clean hD).1, dec_rel (g' := G0 ok'' noH none) hD k1 q3 q1.symm, q4⟩
      · simp at h
    · simp at h

/-- an iterator -/
theorem mkGEnt_ok (hD : TabOK P D) (hl : ∀ e, e ∈ l → EntOK P D e) (hf : P.funcs[fi]? = some f) (hn : NameOk f) {A : List Nat} {G : Int → ArgsTy T as → Option (List (Tup T A))} (hF : ∀ m x, evIter (D.b bs) l ann f as A m x = G m x)
    (hm : ∀ x xs, G (-1) x = some xs → ∀ m, G m x = some (xs.take (handed xs.length m))) : GOK P D (mkGEnt D fi as A G) := by
  intro caps xs h w ok cvals hc hr
  have h : ((decArgs D (fun {_} _ _ _ _ => none) as caps).bind fun x => G (-1) x) = some xs := h
  obtain ⟨x, h1, h2⟩ := Option.bind_eq_some_iff.1 h
  have hS : SpecOK P D (fun {_} _ _ _ _ => none) := ⟨fun f args obj k => rfl, fun f args obj v o' h => by simp at h⟩
  have h1' : decArgs (D.b bs) (fun {_} _ _ _ _ => none) as caps = some x := by rw [decArgs_b]; exact h1
  have hr' : RelL P (D.b bs) w (G0 ok noH none) caps cvals := by rw [RelL_b]; exact hr
  obtain ⟨e1, e2⟩ := decArgs_rel (hD.b bs) (hS.b bs) (fun b x hb => by simp at hb) (out := none) (R := fun i => cvals.getD i undef) h1' hr'.2
  have := gen_ok (hD.b bs) ((SL_ok hl 3).b bs) (A := fun n => look n ann) hf hn (As := A) (caps := encArgs (D.b bs) as x) (xs := xs) (fun m => (hF m x).trans (hm x xs h2 m)) (ok := ok) (encArgs_clean (hD.b bs)) ⟨by rw [e1]; exact hr'.1, e2⟩
  exact Eq.mp (SeqOK_b (A := A)) this

end
end Go.Px

namespace Go.Px
variable {T : Nat → Type} {α β : Type}

/-! ## Codecs -/

structure Cd.OK (c : Cd T α) (n : Nat) : Prop where
  len : ∀ x, (c.enc x).length = n
  data : ∀ x p, p ∈ c.enc x → isData p = true ∧ plainC p = p
  dec : ∀ cs x r, c.d cs = some (x, r) → ∃ pre, cs = pre ++ r ∧ c.enc x = pre.map plainC

theorem cdInt_ok {K : IntKind} : (cdInt K : Cd T Int).OK 1 := by
  refine ⟨fun x => rfl, fun x p hp => ?_, fun cs x r h => ?_⟩
  · have : p = .int K x := by simpa [cdInt] using hp
    subst this
    exact ⟨rfl, rfl⟩
  · simp only [cdInt] at h
    split at h
    · rename_i K' n q
      split at h
      · rename_i hK
        cases h
        have hK := of_decide_eq_true hK
        subst hK
        exact ⟨[.int K' x], rfl, rfl⟩
      · simp at h
    · simp at h

theorem cdBool_ok : (cdBool : Cd T Bool).OK 1 := by
  refine ⟨fun x => rfl, fun x p hp => ?_, fun cs x r h => ?_⟩
  · have : p = .bool x := by simpa [cdBool] using hp
    subst this
    exact ⟨rfl, rfl⟩
  · simp only [cdBool] at h
    split at h
    · rename_i b q
      cases h
      exact ⟨[.bool x], rfl, rfl⟩
    · simp at h

theorem cdSl_ok {E : Nat} : (cdSl E : Cd T (List (T E))).OK 1 := by
  refine ⟨fun x => rfl, fun x p hp => ?_, fun cs x r h => ?_⟩
  · have : p = .sl E x .no := by simpa [cdSl] using hp
    subst this
    exact ⟨rfl, rfl⟩
  · simp only [cdSl] at h
    split at h
    · rename_i E' l o q
      split at h
      · rename_i hE _
        subst hE
        cases h
        exact ⟨[.sl E' l o], rfl, rfl⟩
      · simp at h
    · simp at h

theorem pair_ok {a : Cd T α} {b : Cd T β} {n m : Nat} (ha : a.OK n) (hb : b.OK m) : (Cd.pair a b).OK (n + m) := by
  refine ⟨fun x => ?_, fun x p hp => ?_, fun cs x r h => ?_⟩
  · show (a.enc x.1 ++ b.enc x.2).length = n + m
    rw [List.length_append, ha.len, hb.len]
  · have : p ∈ a.enc x.1 ++ b.enc x.2 := hp
    rcases List.mem_append.1 this with h | h
    · exact ha.data _ _ h
    · exact hb.data _ _ h
  · have h : ((a.d cs).bind fun x => (b.d x.2).bind fun y => some ((x.1, y.1), y.2)) = some (x, r) := h
    obtain ⟨⟨u, q⟩, h1, h2⟩ := Option.bind_eq_some_iff.1 h
    obtain ⟨⟨z, s⟩, h3, h4⟩ := Option.bind_eq_some_iff.1 h2
    cases h4
    obtain ⟨p1, e1, e2⟩ := ha.dec _ _ _ h1
    obtain ⟨p2, e3, e4⟩ := hb.dec _ _ _ h3
    have e3 : q = p2 ++ s := e3
    refine ⟨p1 ++ p2, by rw [e1, e3, List.append_assoc], ?_⟩
    show a.enc u ++ b.enc z = _
    rw [e2, e4, List.map_append]

theorem map_ok {c : Cd T β} {f : β → α} {g : α → β} {n : Nat} (hc : c.OK n) (hgf : ∀ x, g (f x) = x) : (Cd.map c f g).OK n := by
  refine ⟨fun x => hc.len _, fun x p hp => hc.data _ p hp, fun cs x r h => ?_⟩
  have h : ((c.d cs).bind fun x => some (f x.1, x.2)) = some (x, r) := h
  obtain ⟨⟨u, q⟩, h1, h2⟩ := Option.bind_eq_some_iff.1 h
  cases h2
  obtain ⟨p1, e1, e2⟩ := hc.dec _ _ _ h1
  refine ⟨p1, e1, ?_⟩
  show c.enc (g (f u)) = _
  rw [hgf, e2]

theorem Cd.OK.full {c : Cd T α} {n : Nat} (hc : c.OK n) {cs : List (PV T)} {x : α} (h : c.dec cs = some x) : c.enc x = cs.map plainC := by
  unfold Cd.dec at h
  split at h
  · rename_i y h1
    cases h
    obtain ⟨p, e1, e2⟩ := hc.dec _ _ _ h1
    rw [e1, e2, List.append_nil]
  · simp at h

/-- one type of a table -/
structure GoodT (D : Tab T) (E : Nat) : Prop where
  len : ∀ x i, D.info E = some i → (D.enc E x).length = i.size
  data : ∀ x c, c ∈ D.enc E x → isData c = true ∧ plainC c = c
  dec : ∀ cs x, D.dec E cs = some x → D.enc E x = cs.map plainC

theorem good_of {D : Tab T} {E n : Nat} {c : Cd T (T E)} (hc : c.OK n) (he : D.enc E = c.enc) (hd : D.dec E = c.dec) {i : TI T} (hi : D.info E = some i) (hn : i.size = n) : GoodT D E :=
  ⟨fun x j hj => by rw [hi] at hj; cases hj; rw [he, hc.len, hn], fun x p hp => by rw [he] at hp; exact hc.data x p hp, fun cs x h => by rw [hd] at h; rw [he]; exact hc.full h⟩

theorem forall_cons {α : Type} {P : α → Prop} {a : α} {l : List α} (h : P a) (hl : ∀ x, x ∈ l → P x) : ∀ x, x ∈ a :: l → P x := fun x hx => by
  rcases List.mem_cons.1 hx with rfl | hx
  · exact h
  · exact hl x hx

theorem forall_nil {α : Type} {P : α → Prop} : ∀ x, x ∈ ([] : List α) → P x := fun x hx => by simp at hx

/-- rows that are checked -/
def infosOk (P : Program) (D : Tab T) : List (Nat × TI T) → Bool
  | [] => true
  | (t, i) :: r => match tiOk P D t i with | true => infosOk P D r | false => false

theorem infosOk_mem {P : Program} {D : Tab T} {t : Nat} {i : TI T} : ∀ {l : List (Nat × TI T)}, infosOk P D l = true → (t, i) ∈ l → tiOk P D t i = true
  | [], _, h => by simp at h
  | (a, b) :: r, h, hm => by
    simp only [infosOk] at h
    split at h
    · rename_i hb
      rcases List.mem_cons.1 hm with e | hm
      · cases e; exact hb
      · exact infosOk_mem h hm
    · simp at h

theorem tab_ok {P : Program} {D : Tab T} {infos : List (Nat × TI T)} {ids : List Nat} (hi : ∀ t, D.info t = look t infos) (h1 : infosOk P D infos = true) (h2 : ∀ E, T E → E ∈ ids) (h3 : ∀ E, E ∈ ids → GoodT D E)
    (h4 : methsOk P D.meth = true) (h5 : eqsOk P D.eqs = true) (h6 : P.follows .mixedOrders = true) : TabOK P D where
  info t i h := infosOk_mem h1 (look_mem (by rw [← hi]; exact h))
  encLen E x i h := (h3 E (h2 E x)).len x i h
  encData E x c h := (h3 E (h2 E x)).data x c h
  dec E cs x h := (h3 E (h2 E x)).dec cs x h
  meth := h4
  eqs := h5
  mixed := h6

end Go.Px

namespace Go.Px
variable {T : Nat → Type}

section
variable {w : World} {v : PV T} {ok : Nat → Nat → Prop} {rh : Nat → Option Obj} {out : Option Nat} {P : Program} {D : Tab T}

theorem nameOk {f : Func} (h : (f.name == "runtime.NumGoroutine") = false) : NameOk f := h
theorem entNil : ∀ e, e ∈ ([] : List (Ent T)) → EntOK P D e := fun e h => by simp at h
theorem entCons {a : Ent T} {l : List (Ent T)} (h : EntOK P D a) (hl : ∀ e, e ∈ l → EntOK P D e) : ∀ e, e ∈ a :: l → EntOK P D e := fun e he => by
  rcases List.mem_cons.1 he with rfl | he
  · exact h
  · exact hl e he
theorem genNil : ∀ e, e ∈ ([] : List (GEnt T)) → GOK P D e := fun e h => by simp at h
theorem genCons {a : GEnt T} {l : List (GEnt T)} (h : GOK P D a) (hl : ∀ e, e ∈ l → GOK P D e) : ∀ e, e ∈ a :: l → GOK P D e := fun e he => by
  rcases List.mem_cons.1 he with rfl | he
  · exact h
  · exact hl e he

theorem mkEnt_nat {fi : Nat} {as : List AK} {rs : List RK} {F : ArgsTy T as → Option (ResTy T rs)} (S : Specs T) {ρ : Type} (args obj : List (PV T)) (k : PV T → List (PV T) → Option ρ) :
    (mkEnt D fi as rs F).run S args obj k = ((mkEnt D fi as rs F).run S args obj fun v o => some (v, o)).bind fun x => k x.1 x.2 := by
  cases obj with
  | cons c r => rfl
  | nil =>
    show ((decArgs D S as args).bind fun x => (F x).bind fun y => resK D rs y fun v => k v []) = ((decArgs D S as args).bind fun x => (F x).bind fun y => resK D rs y fun v => some (v, [])).bind fun x => k x.1 x.2
    cases decArgs D S as args with
    | none => rfl
    | some x =>
      show ((F x).bind fun y => resK D rs y fun v => k v []) = ((F x).bind fun y => resK D rs y fun v => some (v, [])).bind fun x => k x.1 x.2
      cases F x with
      | none => rfl
      | some y =>
        show (resK D rs y fun v => k v []) = (resK D rs y fun v => some (v, ([] : List (PV T)))).bind fun x => k x.1 x.2
        rw [resK_nat, resK_nat (k := fun v => some (v, ([] : List (PV T)))), Option.bind_assoc]
        rfl

/-- a function of one plain value that leaves memory alone -/
theorem fun1_ok (hD : TabOK P D) {fi A R : Nat} {F : T A → Option (T R)} (hb : HasBody P fi)
    (h : ∀ x y, F x = some y → ∀ w ok v, RelV D w ok (D.val A x) v → CallsW P fi #[v] w fun e w' => ∃ r, e = .returned r ∧ w' = w ∧ RelV D w ok (D.val R y) r) :
    EntOK P D (mkEnt D fi [.val A] [.val R] F) := by
  refine ⟨fun S ρ args obj k => mkEnt_nat S args obj k, fun S hS args obj v o' hr => ?_⟩
  cases obj with
  | cons c r => cases hr
  | nil =>
    have hr : ((decArgs D S [.val A] args).bind fun x => (F x).bind fun y => resK D [.val R] y fun v => some (v, ([] : List (PV T)))) = some (v, o') := hr
    obtain ⟨x, h1, h2⟩ := Option.bind_eq_some_iff.1 hr
    obtain ⟨y, h3, h4⟩ := Option.bind_eq_some_iff.1 h2
    have h4 : some (D.val R y, ([] : List (PV T))) = some (v, o') := h4
    cases h4
    refine ⟨hb, fun w ok rh out vals hin hrh hargs hobj => ?_⟩
    have hout : out = none := by
      cases out with
      | none => rfl
      | some b => obtain ⟨_, _, _, h, _⟩ := hobj; exact absurd rfl h
    subst hout
    match args, h1, hargs with
    | [a], h1, hargs =>
      have h1 : D.unval A a = some x := by
        have : decArg D S (.val A) a = some x := h1
        cases a <;> exact this
      have hr0 := unval_rel (g := G0 ok rh none) hD h1 (hargs.2 0 a rfl)
      have hv : vals = #[vals.getD 0 undef] := by
        have hs : vals.size = 1 := hargs.1
        apply Array.ext
        · simpa using hs
        · intro i h1 h2
          have : i = 0 := by simp at h2; exact h2
          subst this
          simp [Array.getD, h1]
      rw [hv]
      refine (h x y h3 w ok _ hr0).mono ?_
      rintro e w' ⟨r, rfl, rfl, hrv⟩
      refine ⟨r, ok, rfl, ⟨rfl, rfl, rfl, Nat.le_refl _, fun _ _ _ => rfl⟩, ⟨fun _ _ => id, fun _ _ => .inl, hin⟩, RelR_of1 (.data _ _ (val_clean hD).1 (val_rel (g := G0 ok noH none) hD hrv)), fun b hb => by simp at hb⟩
    | [], h1, _ => cases h1
    | _ :: _ :: _, h1, _ => cases h1

end

/-! ## Iterators that count -/

/-- one that goes on, hands out and asks -/
def emitStep {σ α : Type} (F : σ → Option (Option (σ × α))) (m : Int) (s : σ × List α) : Option ((σ × List α) ⊕ List α) :=
  (F s.1).bind fun r => match r with
    | none => some (.inr s.2)
    | some (s', y) => cond (decide (((List.length s.2 : Nat) : Int) = m)) (some (.inr (s.2 ++ [y]))) (some (.inl (s', s.2 ++ [y])))

theorem handed_all {n : Nat} : handed n (-1) = n := rfl

theorem emitN {σ α : Type} {F : σ → Option (Option (σ × α))} : ∀ {n : Nat} {s : σ} {log xs : List α}, loopN (emitStep F (-1)) n (s, log) = some xs →
    log <+: xs ∧ ∀ m : Int, (m < 0 ∨ (log.length : Int) ≤ m) → loopN (emitStep F m) n (s, log) = some (xs.take (handed xs.length m))
  | 0, s, log, xs, h => by simp [loopN] at h
  | n + 1, s, log, xs, h => by
    simp only [loopN, emitStep] at h ⊢
    cases hF : F s with
    | none => rw [hF] at h; simp at h
    | some r =>
      rw [hF] at h
      cases r with
      | none =>
        simp only [Option.bind_some] at h ⊢
        cases h
        refine ⟨List.prefix_refl _, fun m hm => ?_⟩
        have : log.length ≤ handed log.length m := by
          unfold handed
          split
          · exact Nat.le_refl _
          · have : ((List.length log : Nat) : Int) ≤ m := by omega
            omega
        rw [List.take_of_length_le this]
      | some p =>
        obtain ⟨s', y⟩ := p
        have hne : decide (((List.length log : Nat) : Int) = -1) = false := decide_eq_false (by omega)
        simp only [Option.bind_some, hne, cond_false] at h ⊢
        obtain ⟨h1, h2⟩ := emitN h
        refine ⟨(List.prefix_append _ _).trans h1, fun m hm => ?_⟩
        by_cases he : ((List.length log : Nat) : Int) = m
        · simp only [he, decide_true, cond_true]
          have hl : (log ++ [y]).length ≤ xs.length := h1.length_le
          have : handed xs.length m = (log ++ [y]).length := by
            unfold handed
            simp at hl ⊢
            rw [if_neg (by omega)]
            omega
          rw [this]
          obtain ⟨t, rfl⟩ := h1
          rw [List.take_left]
        · simp only [he, decide_false, cond_false]
          exact h2 m (by simp; omega)

theorem emitM {σ α : Type} {F : σ → Option (Option (σ × α))} {s : σ} {xs : List α} (h : loopM (emitStep F (-1)) (s, []) = some xs) (m : Int) : loopM (emitStep F m) (s, []) = some (xs.take (handed xs.length m)) := by
  obtain ⟨n, hn⟩ := loopM_some.1 h
  refine loopM_some.2 ⟨n, (emitN hn).2 m ?_⟩
  by_cases hm : m < 0
  · exact .inl hm
  · right; simp; omega

end Go.Px

namespace Go.Px

/-! ## What an optional value surely is -/

def Sat {α : Type} (x : Option α) (Q : α → Prop) : Prop := ∃ y, x = some y ∧ Q y

theorem Sat.ret {α : Type} {y : α} {Q : α → Prop} (h : Q y) : Sat (some y) Q := ⟨y, rfl, h⟩

theorem Sat.bind {α β : Type} {x : Option α} {f : α → Option β} {Q : α → Prop} {R : β → Prop} (h : Sat x Q) (k : ∀ y, Q y → Sat (f y) R) : Sat (x.bind f) R := by
  obtain ⟨y, rfl, hq⟩ := h
  exact k y hq

theorem Sat.cond {α : Type} {b : Bool} {x y : Option α} {Q : α → Prop} (h : b = true → Sat x Q) (k : b = false → Sat y Q) : Sat (_root_.cond b x y) Q := by
  cases b with
  | true => exact h rfl
  | false => exact k rfl

theorem Sat.dec {α : Type} {p : Prop} [Decidable p] {x y : Option α} {Q : α → Prop} (h : p → Sat x Q) (k : ¬ p → Sat y Q) : Sat (_root_.cond (decide p) x y) Q :=
  Sat.cond (fun e => h (of_decide_eq_true e)) (fun e => k (of_decide_eq_false e))

theorem Sat.ndec {α : Type} {p : Prop} [Decidable p] {x y : Option α} {Q : α → Prop} (h : ¬ p → Sat x Q) (k : p → Sat y Q) : Sat (_root_.cond (!(decide p)) x y) Q :=
  Sat.cond (fun e => h (by simpa using e)) (fun e => k (by simpa using e))

theorem Sat.mono {α : Type} {x : Option α} {Q R : α → Prop} (h : Sat x Q) (k : ∀ y, Q y → R y) : Sat x R := by
  obtain ⟨y, e, hq⟩ := h
  exact ⟨y, e, k y hq⟩

theorem Sat.and {α : Type} {x : Option α} {Q R : α → Prop} (h : Sat x Q) (k : Sat x R) : Sat x fun y => Q y ∧ R y := by
  obtain ⟨y, e, hq⟩ := h
  obtain ⟨z, e', hr⟩ := k
  rw [e] at e'
  cases e'
  exact ⟨y, e, hq, hr⟩

theorem Sat.map {α β : Type} {x : Option α} {f : α → β} {Q : β → Prop} (h : Sat x fun y => Q (f y)) : Sat (x.map f) Q := by
  obtain ⟨y, rfl, hq⟩ := h
  exact ⟨f y, rfl, hq⟩

/-- a loop that ends -/
theorem Sat.loop {σ ρ : Type} {step : σ → Option (σ ⊕ ρ)} {Q : ρ → Prop} (inv : σ → Prop) (μ : σ → Nat)
    (h : ∀ s, inv s → Sat (step s) fun r => match r with | .inl s' => inv s' ∧ μ s' < μ s | .inr r => Q r) : ∀ {s : σ}, inv s → Sat (loopM step s) Q := by
  have key : ∀ n s, μ s < n → inv s → Sat (loopM step s) Q := by
    intro n
    induction n with
    | zero => intro s hn; omega
    | succ n ih =>
      intro s hn hi
      obtain ⟨r, hr, hq⟩ := h s hi
      cases r with
      | inl s' =>
        have : loopM step s = loopM step s' := by rw [loopM_eq step s, hr]
        rw [this]
        exact ih s' (by have := hq.2; omega) hq.1
      | inr r =>
        refine ⟨r, ?_, hq⟩
        rw [loopM_eq step s, hr]
  intro s hi
  exact key (μ s + 1) s (by omega) hi

theorem Sat.forL {σ α ρ : Type} {step : α → σ → Option (σ ⊕ ρ)} {fin : σ → Option ρ} {Q : ρ → Prop} (inv : σ → Prop) : ∀ {l : List α} {s : σ},
    (∀ x, x ∈ l → ∀ s, inv s → Sat (step x s) fun r => match r with | .inl s' => inv s' | .inr r => Q r) → (∀ s, inv s → Sat (fin s) Q) → inv s → Sat (forL step fin l s) Q
  | [], s, _, hf, hi => hf s hi
  | x :: r, s, h, hf, hi => by
    obtain ⟨y, hy, hq⟩ := h x (by simp) s hi
    unfold Px.forL
    rw [hy]
    cases y with
    | inl s' => exact Sat.forL inv (fun x hx => h x (by simp [hx])) hf hq
    | inr z => exact ⟨z, rfl, hq⟩

theorem Sat.idx {α : Type} {l : List α} {i : Int} {Q : α → Prop} (h0 : 0 ≤ i) (h1 : i < (l.length : Int)) (h : ∀ x, x ∈ l → Q x) : Sat (idx l i) Q := by
  unfold Px.idx
  rw [if_pos h0]
  have hl : i.toNat < l.length := by omega
  exact ⟨l[i.toNat], List.getElem?_eq_getElem hl, h _ (List.getElem_mem hl)⟩

/-! ## Wrapped numbers -/

theorem i64_def (n : Int) : IntKind.wrap .i64 n = if n % 18446744073709551616 ≥ 9223372036854775808 then n % 18446744073709551616 - 18446744073709551616 else n % 18446744073709551616 := by
  have : IntKind.wrap .i64 n = if (true && decide (n % 18446744073709551616 ≥ 9223372036854775808)) = true then n % 18446744073709551616 - 18446744073709551616 else n % 18446744073709551616 := rfl
  rw [this]
  simp

theorem u64_def (n : Int) : IntKind.wrap .u64 n = n % 18446744073709551616 := by
  have : IntKind.wrap .u64 n = if (false && decide (n % 18446744073709551616 ≥ 9223372036854775808)) = true then n % 18446744073709551616 - 18446744073709551616 else n % 18446744073709551616 := rfl
  rw [this]
  simp

theorem wrap_i64 {n : Int} (h1 : -9223372036854775808 ≤ n) (h2 : n ≤ 9223372036854775807) : IntKind.wrap .i64 n = n := by
  rw [i64_def]
  split <;> omega

theorem wrap_u64 {n : Int} (h1 : 0 ≤ n) (h2 : n ≤ 18446744073709551615) : IntKind.wrap .u64 n = n := by
  rw [u64_def]
  omega

theorem wrap_i64_range (n : Int) : -9223372036854775808 ≤ IntKind.wrap .i64 n ∧ IntKind.wrap .i64 n ≤ 9223372036854775807 := by
  rw [i64_def]
  split <;> omega

theorem wrap_u64_range (n : Int) : 0 ≤ IntKind.wrap .u64 n ∧ IntKind.wrap .u64 n ≤ 18446744073709551615 := by
  rw [u64_def]
  omega

end Go.Px

