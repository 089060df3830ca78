/-
  Proved here: ranges over functions and whole bodies do what the evaluator says.
  Conditions: those that the theorems name.
-/
import Derived.Test.YtlndinolkjgjbaaPf
set_option linter.all false
namespace Go.Px
variable {T : Nat → Type} {ρ : Type}

section
variable {C : Ctx T} {S : Specs T} {s s' s0 : St T} {g g0 : Gh} {M : Nat → Prop} {okc : Nat → Nat → Prop} {ds : List Nat} {a : Act} {w : World} {o : Oper} {v : PV T} {u : List (Upd T)} {f L K : List Nat} {Q : Exit → Act → World → Prop}
variable {P : Program} {D : Tab T} {ops : Array Oper} {A : Nat → Option Lp}

/-- what a round leaves -/
structure RoundOut (C : Ctx T) (l : Nat) (rec : LoopState → Option Code → Loop) (gh : Gh) (Mo : Nat → Prop) (ok : Nat → Nat → Prop) (ds : List Nat) (hd0 : List (Nat × Bx T)) (w : World) (e3 : Ex) (s3 : St T) (g3 : Gh) (Mo3 : Nat → Prop) (oko3 : Nat → Nat → Prop) (w4 : World) : Prop where
  wr : WR C s3 g3 Mo3 oko3 ds w4
  hd : s3.hd = hd0
  gle : GhLe gh g3
  evo : Evo w ok w4 g3.ok
  rec_ : w4.heap[l]? = some (.loop (rec (match e3 with | .normal => .ready | _ => .done) (exCode e3)))
  Mnew : ∀ b, Mo3 b → Mo b ∨ w.heap.size ≤ b
  Mold : ∀ b, Mo b → Mo3 b
  same : ∀ b, b < w.heap.size → ¬ Mo b → ¬ OwnB gh [] b → b ≠ l → w4.heap[b]? = w.heap[b]?
  okb : ∀ b o, g3.ok b o → ok b o ∨ Mo3 b ∨ OwnB gh [] b ∨ w.heap.size ≤ b
  own : ∀ b, OwnB g3 [] b → OwnB gh [] b ∨ w.heap.size ≤ b
  os : w4.os = w.os
  tape : w4.tape = w.tape
  output : w4.output = w.output

theorem cell_putObj {l : Nat} {r r' : Loop} {w : World} (hl : w.heap[l]? = some (.loop r)) (b o : Nat) : (w.putObj l (.loop r')).cell? ⟨b, o, none⟩ = w.cell? ⟨b, o, none⟩ := by
  by_cases e : b = l
  · subst e
    have := World.putObj_heap_same (w := w) (o := .loop r') (heap_lt hl)
    simp [World.cell?, this, hl]
  · exact cell_eq (World.putObj_heap_other e) o

set_option maxHeartbeats 1000000 in
theorem round_ok {assign body : Code} (iha : CodeOK S A assign) (ihb : CodeOK S A body) (hC : CtxOK C) (hS : SpecOK C.P C.D S) (hca : codeOk C.nt assign = true) (hcb : codeOk C.nt body = true) {n : Nat} {σ : Type} {k2 : Ex → St T → Option σ} {z : σ} {st : St T} {params : Array Nat} {vs : List (PV T)}
    (hstep : evCode C.D S A assign n (fun e s' => match e with | .normal => evCode C.D S A body n k2 s' | _ => none) (putAll st params.toList vs) = some z) (hpre : ∀ e s3, k2 e s3 = some z → s3.lg.m? = st.lg.m? → C.pre s3.lg)
    {fn l Dd : Nat} {tmps : Array Value} {gh : Gh} {Mo : Nat → Prop} {oko : Nat → Nat → Prop} (hsr : SR C st gh Mo oko ds a w) (htm : a.tmps = tmps) (hl : w.heap[l]? = some (.loop { state := .ready, pending := none, fn, tmps, params, assign, body, defers := Dd })) (hlo : ¬ Mo l) (hlw : ¬ OwnB gh [] l)
    {ok : Nat → Nat → Prop} (hin : OkIn w ok) (hok : ∀ b o, gh.ok b o → ok b o) (hokn : ∀ b o, ok b o → gh.ok b o ∨ ¬ OwnB gh [] b) (hokM : ∀ b o, ok b o → oko b o ∨ ¬ Mo b)
    (hps : ∀ t, t ∈ params.toList → t < C.nt) {vals : Array Value} (hvn : vals.size = vs.length) (hv : ∀ (i : Nat) (c : PV T), vs[i]? = some c → ∀ g' : Gh, g'.ok = ok → Rel C.P C.D w g' c (vals.getD i undef)) {R : Ending → World → Prop}
    (hR : ∀ e3 s3 g3 Mo3 oko3 w4, k2 e3 s3 = some z → s3.lg.m? = st.lg.m? → RoundOut C l (fun st pe => { state := st, pending := pe, fn, tmps, params, assign, body, defers := Dd }) gh Mo ok ds st.hd w e3 s3 g3 Mo3 oko3 w4 → R (.returned (.bool (exCode e3).isNone)) w4) :
    RoundIn Fence.wide 0 C.P l fn ((params.zip vals).foldl (fun tmps (t, a) => tmps.setIfInBounds t a) tmps) assign body w R := by
  subst htm
  have W := hsr.wr
  obtain ⟨rec, hrec⟩ : ∃ rec : LoopState → Option Code → Loop, rec = fun st pe => { state := st, pending := pe, fn, tmps := a.tmps, params, assign, body, defers := Dd } := ⟨_, rfl⟩
  have hl : w.heap[l]? = some (.loop (rec .ready none)) := by rw [hrec]; exact hl
  have hdl : l ∉ ds := fun h => by have := (W.dsM l h).1; rw [hl] at this; cases this
  obtain ⟨Mc, hMc⟩ : ∃ Mc : Nat → Prop, Mc = fun b => b < w.heap.size ∧ ¬ OwnB gh [] b := ⟨_, rfl⟩
  have hMcl : Mc l := by rw [hMc]; exact ⟨heap_lt hl, hlw⟩
  have hMlt : ∀ b, Mc b → b < w.heap.size := fun b hb => by rw [hMc] at hb; exact hb.1
  have hMoM : ∀ b, Mo b → Mc b := fun b hb => by rw [hMc]; exact ⟨W.Mlt b hb, fun h => W.own_M h hb⟩
  obtain ⟨p1, p2, p3, p4, p5⟩ := putAll_same (s := st) params.toList vs st
  -- around the assignment
  have hCa := roundCtx hC (w0 := w) (Mc0 := Mc) (Mo0 := Mo) (ok0 := ok) (l := l) (r0 := rec .ready none) hMcl hlo hMlt
  have hRJ : RJ C.V w Mc Mo ok l (rec .ready none) st.lg.len Mc ok w Mo oko := ⟨W.hJ, hMoM, fun _ => id, fun _ => .inl, fun _ => id, fun _ => .inl, fun b o h => hok b o (W.okcg b o h), hokM, fun _ _ => .inl, rfl, rfl, rfl, Nat.le_refl _, fun _ _ _ _ => rfl, hl⟩
  obtain ⟨Wa, Ea⟩ := W.shift2 (roundV C.V w Mc Mo ok l (rec .ready none)) (some l) C.pre (s' := putAll st params.toList vs) (M' := Mc) (okc' := ok) (ok' := ok) (ds' := []) (w' := w)
    (fun t => by simp only [St.ent, p1, p2]) (fun t => by simp only [St.bv, St.ent, p1, p2, p4]) (fun t => by simp only [St.tv, p3, p4]) (Nat.le_refl _) (fun _ _ => rfl) (fun _ _ _ => rfl) hok hokn hin (fun b hb hm => by rw [hMc] at hm; exact hm.2 hb) hMlt (fun _ _ => id) (fun _ _ => .inl)
    ⟨_, hl, hMcl⟩ (by rw [p5]; exact ⟨Mo, oko, hRJ⟩) (fun b x hx => ⟨hMoM b (W.rh b x hx).1, (W.rh b x hx).2⟩) (fun b hb => by simp at hb) .nil
  obtain ⟨q1, q2⟩ := putAll_rel (P := C.P) (D := C.D) (w := w) (g := { gh with ok := ok }) (nt := C.nt) (R := fun _ => undef) params.toList vs vals.toList st a.tmps hsr.size hps (by simpa using hvn) (fun i c hi => by
      have hlt : i < vals.size := by rw [hvn]; exact (List.getElem?_eq_some_iff.1 hi).1
      refine ⟨vals.getD i undef, by simp [hlt], hv i c hi _ rfl⟩) (fun t ht => (hsr.tm t ht).mono Ea (GhLe.ok gh ok))
  have hfold : (params.zip vals).foldl (fun tmps (x : Tmp × Value) => match x with | (t, a) => tmps.setIfInBounds t a) a.tmps = (params.toList.zip vals.toList).foldl (fun tmps (p : Nat × Value) => tmps.setIfInBounds p.1 p.2) a.tmps := by
    rw [← Array.foldl_toList, Array.toList_zip]
  have hsra : SR (⟨C.P, C.D, roundV C.V w Mc Mo ok l (rec .ready none), C.nt, some l, C.yl, C.pre⟩ : Ctx T) (putAll st params.toList vs) { gh with ok := ok } Mc ok [] { tmps := (params.toList.zip vals.toList).foldl (fun tmps (p : Nat × Value) => tmps.setIfInBounds p.1 p.2) a.tmps, defers := [] } w :=
    ⟨q1, rfl, q2, Wa⟩
  refine roundIn_of_wpIn trivial ?_
  rw [hfold]
  refine iha _ hCa hS n _ _ z hca hstep hsra fun e s1 hk1 hm1 => ?_
  rw [p5] at hm1
  cases e with
  | exit i => simp at hk1
  | ret => simp at hk1
  | normal =>
    simp only at hk1
    refine ⟨?_, fun g1 M1 okc1 ds1 a1 w1 hsr1 hkeep1 => ?_⟩
    · obtain ⟨e3, s3, h1, _, h3⟩ := evCode_inv hCa hS.nat _ _ _ _ _ hk1
      exact h3.pre (hpre e3 s3 h1 (h3.m.trans hm1))
    · -- the record is busy
      obtain ⟨Mo1, oko1, R1⟩ := hsr1.wr.hJ
      have W1 := hsr1.wr
      have hl1 := R1.rec_
      have hnl1 : ¬ Mo1 l := fun h => by
        rcases R1.new l h with h2 | h2
        · exact hlo h2
        · have := heap_lt hl; omega
      have hown1 : ∀ b, OwnB g1 [] b → b ≠ l := fun b hb e => by
        obtain ⟨vs, E, h2⟩ := W1.own_lt hb
        rw [e, hl1] at h2; cases h2
      refine ⟨_, run_beginRound hl1 (by rw [hrec]), ?_⟩
      have hbusy : ({ rec .ready none with state := .busy } : Loop) = rec .busy none := by rw [hrec]
      rw [hbusy]
      have hl2 : (w1.putObj l (.loop (rec .busy none))).heap[l]? = some (.loop (rec .busy none)) := World.putObj_heap_same (heap_lt hl1)
      have hCb := roundCtx hC (w0 := w) (Mc0 := Mc) (Mo0 := Mo) (ok0 := ok) (l := l) (r0 := rec .busy none) hMcl hlo hMlt
      have hR2 : RJ C.V w Mc Mo ok l (rec .busy none) s1.lg.len M1 okc1 (w1.putObj l (.loop (rec .busy none))) Mo1 oko1 :=
        ⟨hC.stable _ _ _ _ _ R1.J ⟨rfl, rfl, rfl, by simp, fun b hb => World.putObj_heap_other (k := b) (r := l) (fun e => hnl1 (by rw [← e]; exact hb)), fun b o _ => cell_putObj hl1 b o⟩, R1.sub, R1.ext, R1.bnd, R1.old, R1.new, R1.cg, R1.cM, R1.cb, R1.os, R1.tape, R1.output, by simpa using R1.size, fun b h1 h2 h3 => (World.putObj_heap_other h3).trans (R1.same b h1 h2 h3), hl2⟩
      obtain ⟨Wb, Eb⟩ := W1.shift2 (roundV C.V w Mc Mo ok l (rec .busy none)) (some l) C.pre (s' := s1) (M' := M1) (okc' := okc1) (ok' := g1.ok) (ds' := ds1) (w' := w1.putObj l (.loop (rec .busy none)))
        (fun _ => rfl) (fun _ => rfl) (fun _ => rfl) (by simp) (fun b hb => World.putObj_heap_other (hown1 b hb)) (fun b o _ => cell_putObj hl1 b o) (fun _ _ => id) (fun _ _ => .inl) (fun b o h => by simpa using W1.okin b o h) (fun b hb => W1.own_M hb) (fun b hb => by simpa using W1.Mlt b hb) W1.okcg W1.okM
        ⟨_, hl2, R1.ext l hMcl⟩ ⟨Mo1, oko1, hR2⟩ (fun b x hx => ⟨(W1.rh b x hx).1, by
          have h3 := (W1.rh b x hx)
          have hMo : Mo b := (W.rh b x (by have := hkeep1.gle.rh; rw [this] at hx; exact hx)).1
          exact (World.putObj_heap_other (k := b) (r := l) (fun e => hlo (by rw [← e]; exact hMo))).trans h3.2⟩) (fun b hb => by
            obtain ⟨h3, h4⟩ := W1.dsM b hb
            exact ⟨(World.putObj_heap_other (k := b) (r := l) (fun e => by rw [e, hl1] at h3; cases h3)).trans h3, h4⟩) W1.dsnd
      have hg1 : ({ g1 with ok := g1.ok } : Gh) = g1 := rfl
      rw [hg1] at Wb
      have hsrb : SR (⟨C.P, C.D, roundV C.V w Mc Mo ok l (rec .busy none), C.nt, some l, C.yl, C.pre⟩ : Ctx T) s1 g1 M1 okc1 ds1 a1 (w1.putObj l (.loop (rec .busy none))) :=
        ⟨hsr1.size, hsr1.defs, fun t ht => (hsr1.tm t ht).mono Eb (GhLe.refl g1), Wb⟩
      refine ihb _ hCb hS n _ _ z hcb hk1 hsrb fun e3 s3 hk3 hm3 => ⟨hpre e3 s3 hk3 (hm3.trans hm1), fun g3 M3 okc3 ds3 a3 w3 hsr3 hkeep3 => ?_⟩
      -- the round's end
      obtain ⟨Mo3, oko3, R3⟩ := hsr3.wr.hJ
      have W3 := hsr3.wr
      have hl3 := R3.rec_
      have hnl3 : ¬ Mo3 l := fun h => by
        rcases R3.new l h with h2 | h2
        · exact hlo h2
        · have := heap_lt hl; omega
      have hown3 : ∀ b, OwnB g3 [] b → b ≠ l := fun b hb e => by
        obtain ⟨vs, E, h2⟩ := W3.own_lt hb
        rw [e, hl3] at h2; cases h2
      obtain ⟨nr, hnr⟩ : ∃ nr, nr = rec (match e3 with | .normal => .ready | _ => .done) (exCode e3) := ⟨_, rfl⟩
      have hend : (Instr.endRound l (exCode e3)).run C.P w3 = .ok (.bool (exCode e3).isNone) (w3.putObj l (.loop nr)) := by
        rw [run_endRound _ hl3, hnr, hrec]
        cases e3 <;> rfl
      have hev3 : Evo w3 g3.ok (w3.putObj l (.loop nr)) g3.ok := ⟨by simp, fun b o _ => cell_putObj hl3 b o, fun _ _ => id⟩
      have hgle : GhLe gh g3 := (GhLe.ok gh ok).trans (hkeep1.gle.trans hkeep3.gle)
      have hdsw : ∀ b, b ∈ ds → (w3.putObj l (.loop nr)).heap[b]? = some (.deferred (some [])) ∧ ¬ Mo3 b := fun b hb => by
        obtain ⟨h2, h3⟩ := W.dsM b hb
        have hbl : b ≠ l := fun e => hdl (e ▸ hb)
        have hbc : Mc b := by
          rw [hMc]
          refine ⟨heap_lt h2, fun h => ?_⟩
          obtain ⟨vs, E, h4⟩ := W.own_lt h
          rw [h2] at h4; cases h4
        refine ⟨(World.putObj_heap_other hbl).trans ((R3.same b hbc h3 hbl).trans h2), fun h4 => ?_⟩
        rcases R3.new b h4 with h5 | h5
        · exact h3 h5
        · have := heap_lt h2; omega
      have hJ3 : C.V.J s3.lg.len Mo3 oko3 (w3.putObj l (.loop nr)) := hC.stable _ _ _ _ _ R3.J ⟨rfl, rfl, rfl, by simp, fun b hb => World.putObj_heap_other (k := b) (r := l) (fun e => hnl3 (by rw [← e]; exact hb)), fun b o _ => cell_putObj hl3 b o⟩
      obtain ⟨Wf, Ef⟩ := W3.shift2 C.V C.ro C.pre (s' := s3) (M' := Mo3) (okc' := oko3) (ok' := g3.ok) (ds' := ds) (w' := w3.putObj l (.loop nr))
        (fun _ => rfl) (fun _ => rfl) (fun _ => rfl) (by simp) (fun b hb => World.putObj_heap_other (hown3 b hb)) (fun b o _ => cell_putObj hl3 b o) (fun _ _ => id) (fun _ _ => .inl) (fun b o h => by simpa using W3.okin b o h) (fun b hb hm => W3.own_M hb (R3.sub b hm)) (fun b hb => by simpa using W3.Mlt b (R3.sub b hb))
        (fun b o h => W3.okcg b o (R3.cg b o h)) (fun b o h => by
          rcases W3.okM b o h with h2 | h2
          · exact R3.cM b o h2
          · exact .inr fun h3 => h2 (R3.sub b h3)) (hC.rr _ _ _ _ hJ3) hJ3 (fun b x hx => by
            have h2 := W3.rh b x hx
            have hMo : Mo b := (W.rh b x (by have := hgle.rh; rw [this] at hx; exact hx)).1
            exact ⟨R3.old b hMo, (World.putObj_heap_other (k := b) (r := l) (fun e => hlo (by rw [← e]; exact hMo))).trans h2.2⟩) hdsw W.dsnd
      have hg3 : ({ g3 with ok := g3.ok } : Gh) = g3 := rfl
      rw [hg3] at Wf
      have hout : RoundOut C l rec gh Mo ok ds st.hd w e3 s3 g3 Mo3 oko3 (w3.putObj l (.loop nr)) := by
        refine ⟨Wf, hkeep3.hd.trans (hkeep1.hd.trans p1), hgle, hkeep1.evo.trans (Eb.trans (hkeep3.evo.trans hev3)), by rw [← hnr]; exact World.putObj_heap_same (heap_lt hl3), R3.new, R3.old, fun b h1 h2 h3 h4 => ?_, fun b o h => ?_, fun b hb => ?_, R3.os, R3.tape, R3.output⟩
        · exact (World.putObj_heap_other h4).trans (R3.same b (by rw [hMc]; exact ⟨h1, h3⟩) h2 h4)
        · have hc : ∀ b, ¬ Mc b → OwnB gh [] b ∨ w.heap.size ≤ b := fun b hb => by
            rw [hMc] at hb
            by_cases h1 : b < w.heap.size
            · exact .inl (Classical.byContradiction fun h2 => hb ⟨h1, h2⟩)
            · exact .inr (by omega)
          rcases W3.okM b o h with h2 | h2
          · rcases R3.cb b o h2 with h3 | h3 | h3
            · exact .inl h3
            · exact .inr (.inl h3)
            · exact .inr (.inr (hc b h3))
          · exact .inr (.inr (hc b fun h3 => h2 (R3.ext b h3)))
        · by_cases h1 : b < w.heap.size
          · left
            refine Classical.byContradiction fun h2 => W3.own_M hb (R3.ext b ?_)
            rw [hMc]; exact ⟨h1, h2⟩
          · exact .inr (by omega)
      have hfin := hR e3 s3 g3 Mo3 oko3 _ hk3 (hm3.trans hm1) (by rw [← hrec]; exact hout)
      cases e3 with
      | normal => exact ⟨_, _, hend, hfin⟩
      | exit i => exact ⟨_, _, hend, hfin⟩
      | ret => exact ⟨_, _, hend, hfin⟩

end
end Go.Px

namespace Go.Px
variable {T : Nat → Type} {ρ : Type}

section
variable {C : Ctx T} {S : Specs T} {s s' s0 : St T} {g g0 : Gh} {M : Nat → Prop} {okc : Nat → Nat → Prop} {ds : List Nat} {a : Act} {w : World} {o : Oper} {v : PV T} {u : List (Upd T)} {f L K : List Nat} {Q : Exit → Act → World → Prop}
variable {P : Program} {D : Tab T} {ops : Array Oper} {A : Nat → Option Lp}

theorem nodup_isNone {e : Ex} (h : e ≠ .normal) : (exCode e).isNone = false := by cases e <;> first | rfl | exact absurd rfl h

theorem mem_tmps1 {nt : Nat} {f : Operand} (h : (tmpsOf [f]).all (fun t => Nat.blt t nt) = true) : opdOk nt f := by
  rintro t rfl
  simpa [tmpsOf] using h

theorem WR.same (W : WR C s g M okc ds w) (hent : ∀ t, s'.ent t = s.ent t) (hbv : ∀ t, s'.bv t = s.bv t) (htv : ∀ t, s'.tv t = s.tv t) (hlg : s'.lg = s.lg) : WR C s' g M okc ds w :=
  ⟨fun t e he => W.bx t e (hent t ▸ he), fun t ht => W.nb t (hent t ▸ ht), fun t => (W.bv t).trans (hbv t).symm, fun t => (W.tv t).trans (htv t).symm, W.inj, W.blM, W.tks, W.tkinj, W.tkbl, W.okin, W.Mlt, W.okcg, W.okM, W.dsM, W.dsnd, W.rr, by rw [hlg]; exact W.hJ, W.rh, W.yl, W.ry⟩

/-- out of a loop -/
theorem WR.leave {hide : List Nat} {r : St T} (W : WR C s' g M okc ds w) (h : s'.hd = s0.pick hide ++ s0.hd) (hb : r.bx = s0.pick hide ++ s'.bx) (hh : r.hd = s0.hd) (ht : r.tk = s'.tk) (hba : r.base = s'.base) (hl : r.lg = s'.lg) : WR C r g M okc ds w := by
  have hent : ∀ t, r.ent t = s'.ent t := fun t => leave_ent h r hb hh
  exact W.same hent (fun t => by simp only [St.bv, hent, hba]) (fun t => by simp only [St.tv, ht, hba]) hl

/-- a record is turned -/
theorem SR.putl (hC : CtxOK C) (h : SR C s g M okc ds a w) {l : Nat} {r r' : Loop} (hl : w.heap[l]? = some (.loop r)) (hM : ¬ M l) : SR C s g M okc ds a (w.putObj l (.loop r')) ∧ Evo w g.ok (w.putObj l (.loop r')) g.ok := by
  have W := h.wr
  have hne : ∀ b, OwnB g [] b → b ≠ l := fun b hb e => by
    obtain ⟨vs, E, h2⟩ := W.own_lt hb
    rw [e, hl] at h2; cases h2
  have hMb : ∀ b, M b → b ≠ l := fun b hb e => hM (e ▸ hb)
  have hJ := hC.stable _ _ _ _ (w.putObj l (.loop r')) W.hJ ⟨rfl, rfl, rfl, by simp, fun b hb => World.putObj_heap_other (hMb b hb), fun b o _ => cell_putObj hl b o⟩
  obtain ⟨W2, E2⟩ := W.shift2 C.V C.ro C.pre (s' := s) (M' := M) (okc' := okc) (ok' := g.ok) (ds' := ds) (w' := w.putObj l (.loop r')) (fun _ => rfl) (fun _ => rfl) (fun _ => rfl) (by simp) (fun b hb => World.putObj_heap_other (hne b hb)) (fun b o _ => cell_putObj hl b o) (fun _ _ => id) (fun _ _ => .inl)
    (fun b o h => by simpa using W.okin b o h) (fun b hb => W.own_M hb) (fun b hb => by simpa using W.Mlt b hb) W.okcg W.okM (hC.rr _ _ _ _ hJ) hJ (fun b x hx => ⟨(W.rh b x hx).1, (World.putObj_heap_other (hMb b (W.rh b x hx).1)).trans (W.rh b x hx).2⟩)
    (fun b hb => ⟨(World.putObj_heap_other (fun e => by have := (W.dsM b hb).1; rw [e, hl] at this; cases this)).trans (W.dsM b hb).1, (W.dsM b hb).2⟩) W.dsnd
  exact ⟨⟨h.size, h.defs, fun t ht => (h.tm t ht).mono E2 (GhLe.refl g), W2⟩, E2⟩

theorem Evo.less {w w' : World} {ok ok1 ok2 : Nat → Nat → Prop} (h : Evo w ok1 w' ok2) (hl : ∀ b o, ok b o → ok1 b o) : Evo w ok w' ok2 := ⟨h.size, fun b o hb => h.cell b o (hl b o hb), fun b o hb => h.ok b o (hl b o hb)⟩

set_option maxHeartbeats 2000000 in
theorem range_ok {fo : Operand} {params : Array Nat} {assign body : Code} (iha : CodeOK S A assign) (ihb : CodeOK S A body) : CodeOK S A (.rangeFunc fo params assign body) := by
  intro C hC hS n ρ k s r g M okc ds a w Q hcode hev hsr hk
  simp only [codeOk, Bool.and_eq_true] at hcode
  obtain ⟨⟨⟨hco, hcp⟩, hca⟩, hcb⟩ := hcode
  have hps : ∀ t, t ∈ params.toList → t < C.nt := fun t ht => by
    have := List.all_eq_true.1 hcp t ht
    simpa using this
  simp only [evCode] at hev
  split at hev
  · rename_i As xs slots fixed hide he hA
    split at hev
    · rename_i hchk
      simp only [Bool.and_eq_true] at hchk
      obtain ⟨hok, hbs, hpn⟩ := hchk
      have hpn := Nat.eq_of_beq_eq_true hpn
      obtain ⟨x0, hx0, hfor⟩ := Option.bind_eq_some_iff.1 hev
      have hrf := hsr.ev (ty := 0) (mem_tmps1 hco)
      rw [he] at hrf
      generalize hz : a.eval fo = zf at hrf
      cases hrf with
      | seq _ _ _ hseq =>
      obtain ⟨gf, caps, rfl, hbody, hseq⟩ := hseq
      -- the rounds
      obtain ⟨k2, hk2⟩ : ∃ k2 : Ex → St T → Option (SlotsTy T slots ⊕ ρ), k2 = fun e s' => match e with
        | .normal => (takeSlots C.D s s' slots).bind fun y => some (.inl y)
        | e => (k e (s.after s' hide)).map .inr := ⟨_, rfl⟩
      obtain ⟨head, hhead⟩ : ∃ head : SlotsTy T slots → St T, head = fun x => embSlots C.D s (s.enter fixed hide) slots x := ⟨_, rfl⟩
      obtain ⟨step, hstepd⟩ : ∃ step : Tup T As → SlotsTy T slots → Option (SlotsTy T slots ⊕ ρ), step = fun x acc => evCode C.D S A assign n (fun e s' => match e with | .normal => evCode C.D S A body n k2 s' | _ => none) (putAll (head acc) params.toList (tupVals C.D As x)) := ⟨_, rfl⟩
      obtain ⟨fin, hfin⟩ : ∃ fin : SlotsTy T slots → Option ρ, fin = fun acc => k .normal (s.after (head acc) hide) := ⟨_, rfl⟩
      have hfor : forL step fin xs x0 = some r := by rw [hstepd, hfin, hhead, hk2]; exact hfor
      have hhd : ∀ x, (head x).hd = s.pick hide ++ s.hd := fun x => by rw [hhead]; exact (emb_same (D := C.D) (s0 := s)).1
      -- what a round hands on, as it is evaluated
      have hinv : ∀ {x : Tup T As} {acc : SlotsTy T slots} {z : SlotsTy T slots ⊕ ρ}, step x acc = some z → ∃ e3 s3, k2 e3 s3 = some z ∧ LgInv C (head acc).lg s3.lg := fun {x acc z} h => by
        rw [hstepd] at h
        obtain ⟨e1, s1, h1, _, h3⟩ := evCode_inv hC hS.nat _ _ _ _ _ h
        rw [(putAll_same (s := s) params.toList _ _).2.2.2.2] at h3
        cases e1 with
        | exit i => simp at h1
        | ret => simp at h1
        | normal =>
          simp only at h1
          obtain ⟨e3, s3, h4, _, h5⟩ := evCode_inv hC hS.nat _ _ _ _ _ h1
          exact ⟨e3, s3, h4, h3.trans h5⟩
      have hk2n : ∀ {e3 s3 y}, k2 e3 s3 = some (.inl y) → e3 = .normal ∧ takeSlots C.D s s3 slots = some y := fun {e3 s3 y} h => by
        rw [hk2] at h
        cases e3 with
        | normal =>
          simp only at h
          obtain ⟨z, h1, h2⟩ := Option.bind_eq_some_iff.1 h
          cases h2; exact ⟨rfl, h1⟩
        | exit i => cases hq : k (.exit i) (s.after s3 hide) <;> simp [hq] at h
        | ret => cases hq : k .ret (s.after s3 hide) <;> simp [hq] at h
      have hk2r : ∀ {e3 s3 q}, k2 e3 s3 = some (.inr q) → e3 ≠ .normal ∧ k e3 (s.after s3 hide) = some q := fun {e3 s3 q} h => by
        rw [hk2] at h
        cases e3 with
        | normal =>
          simp only at h
          obtain ⟨z, h1, h2⟩ := Option.bind_eq_some_iff.1 h
          cases h2
        | exit i => cases hq : k (.exit i) (s.after s3 hide) with
          | none => simp [hq] at h
          | some q' => simp [hq] at h; subst h; exact ⟨by simp, rfl⟩
        | ret => cases hq : k .ret (s.after s3 hide) with
          | none => simp [hq] at h
          | some q' => simp [hq] at h; subst h; exact ⟨by simp, rfl⟩
      have hheadlg : ∀ {s3 y}, s3.lg.m? = s.lg.m? → takeSlots C.D s s3 slots = some y → (head y).lg = s3.lg := fun {s3 y} h1 h2 => by rw [hhead]; exact head_lg h1 rfl h2
      -- the plan of the rounds
      obtain ⟨m, acc, hacc0, hstep, hend⟩ : ∃ (m : Int) (acc : Nat → SlotsTy T slots), acc 0 = x0 ∧ (∀ (j : Nat) x, xs[j]? = some x → (m < 0 ∨ (j : Int) < m) → step x (acc j) = some (.inl (acc (j + 1)))) ∧
          ((m < 0 ∧ fin (acc xs.length) = some r) ∨ (0 ≤ m ∧ ∃ x, xs[m.toNat]? = some x ∧ step x (acc m.toNat) = some (.inr r))) := by
        rcases forL_cases hfor with ⟨acc, a1, a2, a3⟩ | ⟨i, x, acc, a1, a2, a3, a4⟩
        · exact ⟨-1, acc, a1, fun j x hx _ => a2 j x hx, .inl ⟨by omega, a3⟩⟩
        · exact ⟨(i : Int), acc, a1, fun j x hx hj => a3 j x (by omega) hx, .inr ⟨by omega, x, by simpa using a2, by simpa using a4⟩⟩
      obtain ⟨J, hJd⟩ : ∃ J : Nat, J = if m < 0 then xs.length else m.toNat := ⟨_, rfl⟩
      have hJle : J ≤ xs.length := by
        rcases hend with ⟨h1, _⟩ | ⟨h1, x, h2, _⟩
        · rw [hJd, if_pos h1]; exact Nat.le_refl _
        · rw [hJd, if_neg (by omega)]; exact Nat.le_of_lt (List.getElem?_eq_some_iff.1 h2).1
      have hlgm : ∀ j, j ≤ J → (head (acc j)).lg.m? = s.lg.m? ∧ LgInv C s.lg (head (acc j)).lg := by
        intro j
        induction j with
        | zero => intro _; rw [hacc0, hheadlg rfl hx0]; exact ⟨rfl, LgInv.refl _ _⟩
        | succ j ih =>
          intro hj
          obtain ⟨h1, h2⟩ := ih (by omega)
          have hlt : j < xs.length := by omega
          have hs := hstep j xs[j] (List.getElem?_eq_getElem hlt) (by
            by_cases hm : m < 0
            · exact .inl hm
            · right; rw [hJd, if_neg hm] at hj; omega)
          obtain ⟨e3, s3, h3, h4⟩ := hinv hs
          obtain ⟨_, h5⟩ := hk2n h3
          have h6 := h4.m.trans h1
          rw [hheadlg h6 h5]
          exact ⟨h6, h2.trans h4⟩
      have hpreJ : C.pre (head (acc J)).lg := by
        obtain ⟨h1, h2⟩ := hlgm J (Nat.le_refl _)
        rcases hend with ⟨hm, h3⟩ | ⟨hm, x, h3, h4⟩
        · rw [hfin] at h3
          rw [hJd, if_pos hm] at h1 ⊢
          exact (hk _ _ h3 h1).1
        · rw [hJd, if_neg (by omega)] at h1 ⊢
          obtain ⟨e3, s3, h5, h6⟩ := hinv h4
          obtain ⟨_, h7⟩ := hk2r h5
          exact h6.pre (hk _ _ h7 (h6.m.trans h1)).1
      have hprej : ∀ i j, i + j = J → C.pre (head (acc j)).lg := by
        intro i
        induction i with
        | zero => intro j hj; have : j = J := by omega
                  rw [this]; exact hpreJ
        | succ i ih =>
          intro j hj
          have h0 := ih (j + 1) (by omega)
          obtain ⟨h1, h2⟩ := hlgm j (by omega)
          have hlt : j < xs.length := by omega
          have hs := hstep j xs[j] (List.getElem?_eq_getElem hlt) (by
            by_cases hm : m < 0
            · exact .inl hm
            · right; rw [hJd, if_neg hm] at hj; omega)
          obtain ⟨e3, s3, h3, h4⟩ := hinv hs
          obtain ⟨_, h5⟩ := hk2n h3
          rw [hheadlg (h4.m.trans h1) h5] at h0
          exact h4.pre h0
      -- in
      refine wpIn_rangeFunc fun fn _ => ?_
      obtain ⟨l, mark, ds1, w1, Dd, e1, e2, hsr1, hE1, hl1, hnM, hnO, eo1, eo2, eo3⟩ := enter_loop hC hsr fn params assign body
      obtain ⟨rec, hrec⟩ : ∃ rec : LoopState → Option Code → Loop, rec = fun st pe => { state := st, pending := pe, fn, tmps := a.tmps, params, assign, body, defers := Dd } := ⟨_, rfl⟩
      have hl1' : w1.heap[l]? = some (.loop (rec .ready none)) := by rw [hrec]; exact hl1
      obtain ⟨a1, ha1⟩ : ∃ a1 : Act, a1 = { a with defers := mark ++ a.defers } := ⟨_, rfl⟩
      have hsr1 : SR C s g M okc ds1 a1 w1 := by rw [ha1]; exact hsr1
      have hdef1 : a1.defers = marksD ds1 := hsr1.defs
      have ht1 : a1.tmps = a.tmps := by rw [ha1]
      -- a head, where memory is at hand
      have enter : ∀ {s3 : St T} {g3 : Gh} {Mo : Nat → Prop} {oko : Nat → Nat → Prop} {w3 : World} {y : SlotsTy T slots}, WR C s3 g3 Mo oko ds1 w3 → GhLe g g3 → Evo w1 g.ok w3 g3.ok → (∀ t e, look t (s.pick hide ++ s.hd) = some e → s3.ent t = some e) → s3.lg.m? = s.lg.m? → takeSlots C.D s s3 slots = some y →
          ∃ g2, SR C (head y) g2 Mo oko ds1 a1 w3 ∧ GhLe g g2 ∧ g2.ok = g3.ok ∧ (∀ b, OwnB g2 [] b → OwnB g3 [] b) := fun {s3 g3 Mo oko w3 y} W3 hg3 hE3 hh hm ht => by
        have hlen : (embSlots C.D s (s.enter fixed hide) slots y).lg.len = s3.lg.len := by
          have := hheadlg hm ht
          rw [hhead] at this
          rw [this]
        exact hhead ▸ enter_ok (a := a1) hC (fixed := fixed) hsr1.wr hok W3 hsr1.size hdef1 (fun sl t hsl htm => by rw [boxSlots_tm hbs sl hsl] at htm; simp at htm) hg3 hE3 hh (fun t c ht' hc => by
          rw [← fxs_get hc]; exact hsr1.tm t ht') hlen ht
      -- what is parked while the other one runs
      obtain ⟨Stage, hStage⟩ : ∃ Stage : Nat → St T → Option Code → LoopState → Prop, Stage = fun (j : Nat) (st : St T) (pe : Option Code) (rs : LoopState) =>
        (0 ≤ m ∧ (j : Int) = m + 1 ∧ rs = LoopState.done ∧ ∃ e, e ≠ Ex.normal ∧ pe = exCode e ∧ k e st = some r ∧ st.lg.m? = s.lg.m? ∧ st.hd = s.hd) ∨ (¬ (0 ≤ m ∧ (j : Int) = m + 1) ∧ rs = LoopState.ready ∧ pe = none ∧ st = head (acc j)) := ⟨_, rfl⟩
      obtain ⟨V, hV⟩ : ∃ V : Outer, V = ⟨fun j Mg okcg w' => ∃ st pe rs gh Mo oko, Stage j st pe rs ∧ SR C st gh Mo oko ds1 a1 w' ∧ GhLe g gh ∧ Evo w1 g.ok w' gh.ok ∧ (∀ b o, okcg b o ↔ gh.ok b o) ∧ (∀ b, Mo b → Mg b) ∧ (∀ b, OwnB gh [] b → Mg b) ∧ (∀ b, b ∈ ds1 → Mg b) ∧ Mg l ∧ ¬ Mo l ∧
        w'.heap[l]? = some (.loop (rec rs pe))⟩ := ⟨_, rfl⟩
      have hstable : V.Stable := by
        rw [hV]
        rintro j Mg okcg w2 w3 ⟨st, pe, rs, gh, Mo, oko, c1, c2, c3, c4, c5, c6, c7, c8, c9, c10, c11⟩ q
        have W := c2.wr
        have hJ := hC.stable _ _ _ _ w3 W.hJ ⟨q.os, q.tape, q.output, q.size, fun b hb => q.block b (c6 b hb), fun b o hb => q.cell b o ((c5 b o).2 (W.okcg b o hb))⟩
        obtain ⟨W2, E2⟩ := W.shift2 C.V C.ro C.pre (s' := st) (M' := Mo) (okc' := oko) (ok' := gh.ok) (ds' := ds1) (w' := w3) (fun _ => rfl) (fun _ => rfl) (fun _ => rfl) q.size (fun b hb => q.block b (c7 b hb)) (fun b o hb => q.cell b o ((c5 b o).2 hb)) (fun _ _ => id) (fun _ _ => .inl)
          (fun b o h => Nat.lt_of_lt_of_le (W.okin b o h) q.size) (fun b hb => W.own_M hb) (fun b hb => Nat.lt_of_lt_of_le (W.Mlt b hb) q.size) W.okcg W.okM (hC.rr _ _ _ _ hJ) hJ (fun b x hx => ⟨(W.rh b x hx).1, (q.block b (c6 b (W.rh b x hx).1)).trans (W.rh b x hx).2⟩)
          (fun b hb => ⟨(q.block b (c8 b hb)).trans (W.dsM b hb).1, (W.dsM b hb).2⟩) W.dsnd
        exact ⟨st, pe, rs, gh, Mo, oko, c1, ⟨c2.size, c2.defs, fun t ht => (c2.tm t ht).mono E2 (GhLe.refl gh), W2⟩, c3, c4.trans E2, c5, c6, c7, c8, c9, c10, (q.block l c9).trans c11⟩
      have hz' : a.eval fo = .func (.func gf) #[] caps := hz
      refine ⟨l, mark, w1, { target := .fn (.func gf) caps, args := #[.func (.yield l) #[] #[]] }, w1, gf, #[.func (.yield l) #[] #[]] ++ caps, w1, e1, ?_, fun _ _ => trivial, ?_, fun h => by simp [FW, Fence.wide] at h, ?_⟩
      · simp [resolve, hz', Deferred.ofValue]
        rfl
      · simp only [invoke]; exact run_callFunc hbody
      · have W1 := hsr1.wr
        obtain ⟨gh0, b1, b2, b3, b4⟩ := enter W1 (GhLe.refl g) (Evo.refl _ _) (fun t e h => hid_ent h) rfl hx0
        have hcall := hseq l m V hstable (fun b => b < w1.heap.size) g.ok w1 (by
          rw [hV, hStage]
          refine ⟨head x0, none, .ready, gh0, M, okc, .inr ⟨fun h => by omega, rfl, rfl, by rw [hacc0]⟩, b1, b2, by rw [b3]; exact Evo.refl _ _, fun b o => by rw [b3], W1.Mlt, fun b hb => ?_, fun b hb => heap_lt (W1.dsM b hb).1, heap_lt hl1, hnM, hl1'⟩
          obtain ⟨vs, E, h2⟩ := W1.own_lt (b4 b hb)
          exact heap_lt h2) (fun _ => Iff.rfl) hE1 W1.okin ?_
        · have hcall' : CallsIn (FW C.ro) 0 C.P gf (#[.func (.yield l) #[] #[]] ++ caps) w1 _ := hcall
          refine hcall'.mono ?_
          rintro e w2 ⟨rr, Mg, okcg, rfl, hJ, _⟩
          rw [hV] at hJ
          obtain ⟨st, pe, rs, gh, Mo, oko, c1, c2, c3, c4, c5, c6, c7, c8, c9, c10, c11⟩ := hJ
          have hbusy : (rec rs pe).state ≠ .busy := by
            rw [hStage] at c1
            rw [hrec]
            rcases c1 with ⟨_, _, rfl, _⟩ | ⟨_, rfl, _⟩ <;> simp
          have hend' := run_endLoop (P := C.P) c11 hbusy
          have hpend : (rec rs pe).pending = pe := by rw [hrec]
          obtain ⟨nr, hnr⟩ : ∃ nr, nr = ({ rec rs pe with state := .exhausted } : Loop) := ⟨_, rfl⟩
          rw [← hnr, hpend] at hend'
          refine ⟨pe, _, hend', ?_⟩
          obtain ⟨d1, d2⟩ := c2.putl hC (r' := nr) c11 c10
          have hE : Evo w g.ok (w2.putObj l (.loop nr)) gh.ok := hE1.trans (c4.trans d2)
          have hkeep : ∀ {st' : St T}, st'.hd = s.hd → Keep (wrc (.rangeFunc fo params assign body)) s g a w st' gh a1 (w2.putObj l (.loop nr)) := fun {st'} h => ⟨c3, hE, fun t _ => by rw [ht1], h⟩
          rw [← ha1]
          rw [hStage] at c1
          rcases c1 with ⟨hm, hjm, rfl, e, hne, rfl, hke, hmm, hhd'⟩ | ⟨hnm, rfl, rfl, rfl⟩
          · have hq := (hk e st hke hmm).2 gh Mo oko ds1 a1 _ d1 (hkeep hhd')
            cases e with
            | normal => exact absurd rfl hne
            | exit i => exact wpIn_exit hq
            | ret => exact wpIn_ret hq
          · -- all of them
            have hm : m < 0 := by
              refine Classical.byContradiction fun hm => hnm ⟨by omega, ?_⟩
              rcases hend with ⟨h1, _⟩ | ⟨h1, x, h2, _⟩
              · exact absurd h1 hm
              · have h3 := (List.getElem?_eq_some_iff.1 h2).1
                unfold handed
                rw [if_neg hm]
                have : min xs.length (m.toNat + 1) = m.toNat + 1 := by omega
                rw [this]; omega
            have hn : handed xs.length m = xs.length := by unfold handed; rw [if_pos hm]
            rw [hn] at d1
            rcases hend with ⟨_, h3⟩ | ⟨h1, _⟩
            · rw [hfin] at h3
              have hJx : J = xs.length := by rw [hJd, if_pos hm]
              have hlm := (hlgm xs.length (by omega)).1
              refine (hk .normal _ h3 hlm).2 gh Mo oko ds1 a1 _ ⟨d1.size, d1.defs, fun t ht => ?_, WR.leave (r := s.after (head (acc xs.length)) hide) d1.wr (hhd _) rfl rfl rfl rfl rfl⟩ (hkeep rfl)
              have := (hsr1.tm t ht).mono (c4.trans d2) c3
              exact this
            · omega
        · -- the rounds
          intro j x hx hjm Mg okcg w2 hJ hMlt ok hin hcg hcM vals hv1 hv2
          rw [hV] at hJ
          obtain ⟨st, pe, rs, gh, Mo, oko, c1, c2, c3, c4, c5, c6, c7, c8, c9, c10, c11⟩ := hJ
          have W := c2.wr
          rw [hStage] at c1
          rcases c1 with ⟨hm, hjm', _⟩ | ⟨hnm, rfl, rfl, rfl⟩
          · omega
          have hjlt : j < xs.length := (List.getElem?_eq_some_iff.1 hx).1
          have hjJ : j ≤ J := by
            rw [hJd]
            split
            · omega
            · omega
          obtain ⟨hmj, _⟩ := hlgm j hjJ
          -- what comes of it
          obtain ⟨z, hz1, hz2⟩ : ∃ z, step x (acc j) = some z ∧ (((j : Int) ≠ m ∧ z = .inl (acc (j + 1)) ∧ j + 1 ≤ J) ∨ ((j : Int) = m ∧ z = .inr r)) := by
            by_cases hj : (j : Int) = m
            · rcases hend with ⟨h1, _⟩ | ⟨h1, x', h2, h3⟩
              · omega
              · have : m.toNat = j := by omega
                rw [this] at h2 h3
                rw [hx] at h2; cases h2
                exact ⟨_, h3, .inr ⟨hj, rfl⟩⟩
            · refine ⟨_, hstep j x hx (by omega), .inl ⟨hj, rfl, ?_⟩⟩
              rw [hJd]
              split <;> omega
          have hlv : vals.size = params.size := by rw [hv1, tupVals_len, hpn]
          have hy := run_yield (P := C.P) (args := vals) c11 (by rw [hrec]; exact hlv)
          rw [hrec] at hy
          have hghok : ∀ b o, gh.ok b o → ok b o := fun b o h => hcg b o ((c5 b o).2 h)
          rw [hstepd] at hz1
          refine ⟨fn, _, assign, body, hy, round_ok (R := _) iha ihb hC hS hca hcb hz1 (fun e3 s3 hk3 hm3 => ?_) c2 ht1 (by rw [hrec] at c11; exact c11) c10 (fun h => by
              obtain ⟨vs, E, h2⟩ := W.own_lt h
              rw [c11] at h2; cases h2) hin hghok (fun b o h => by
              rcases hcM b o h with h2 | h2
              · exact .inl ((c5 b o).1 h2)
              · exact .inr fun h3 => h2 (c7 b h3)) (fun b o h => by
              rcases hcM b o h with h2 | h2
              · exact W.okM b o ((c5 b o).1 h2)
              · exact .inr fun h3 => h2 (c6 b h3)) hps hv1 (fun i c hi g' hg' => by
              obtain ⟨E, y, rfl⟩ := tupVals_val hi
              exact val_rel (g := g') hC.tab (by rw [hg']; exact hv2 i _ hi)) (fun e3 s3 g3 Mo3 oko3 w4 hk3 hm3 out => ?_)⟩
          · rcases hz2 with ⟨hj, rfl, hj1⟩ | ⟨hj, rfl⟩
            · obtain ⟨_, h5⟩ := hk2n hk3
              rw [← hheadlg (hm3.trans hmj) h5]
              exact hprej (J - (j + 1)) (j + 1) (by omega)
            · obtain ⟨_, h5⟩ := hk2r hk3
              exact (hk _ _ h5 (hm3.trans hmj)).1
          · -- the round is done
            have out := out
            rw [← hrec] at out
            have hE3 : Evo w1 g.ok w4 g3.ok := c4.trans (out.evo.less hghok)
            have hg3 : GhLe g g3 := c3.trans out.gle
            have W3 := out.wr
            have hhd3 : s3.hd = s.pick hide ++ s.hd := out.hd.trans (hhd _)
            have hMM : ∀ b, Mo3 b → Mg b ∨ (w2.heap.size ≤ b ∧ b < w4.heap.size) := fun b hb => by
              rcases out.Mnew b hb with h2 | h2
              · exact .inl (c6 b h2)
              · exact .inr ⟨h2, W3.Mlt b hb⟩
            have hOO : ∀ b, OwnB g3 [] b → Mg b ∨ (w2.heap.size ≤ b ∧ b < w4.heap.size) := fun b hb => by
              rcases out.own b hb with h2 | h2
              · exact .inl (c7 b h2)
              · obtain ⟨vs, E, h3⟩ := W3.own_lt hb
                exact .inr ⟨h2, heap_lt h3⟩
            have hnl3 : ¬ Mo3 l := fun h => by
              rcases out.Mnew l h with h2 | h2
              · exact c10 h2
              · have := heap_lt c11; omega
            have hdone : RoundDone Mg okcg ok w2 (fun b => Mg b ∨ (w2.heap.size ≤ b ∧ b < w4.heap.size)) g3.ok w4 := by
              refine ⟨out.os, out.tape, out.output, out.evo.size, fun b => .inl, fun b hb => hb.imp id And.left, fun b hb => hb.elim (fun h => Nat.lt_of_lt_of_le (hMlt b h) out.evo.size) And.right, fun b h2 h3 => ?_, fun b o h => out.evo.ok b o (hcg b o h), fun b o h => ?_, out.evo.cell, W3.okin⟩
              · exact out.same b h2 (fun h => h3 (c6 b h)) (fun h => h3 (c7 b h)) fun h => h3 (h ▸ c9)
              · rcases out.okb b o h with h2 | h2 | h2 | h2
                · exact .inl h2
                · exact .inr (hMM b h2)
                · exact .inr (.inl (c7 b h2))
                · exact .inr (.inr ⟨h2, W3.okin b o h⟩)
            rcases hz2 with ⟨hj, rfl, hj1⟩ | ⟨hj, rfl⟩
            · obtain ⟨rfl, h5⟩ := hk2n hk3
              obtain ⟨g2, d1, d2, d3, d4⟩ := enter W3 hg3 hE3 (fun t e h => by simp only [St.ent, hhd3, h]) (hm3.trans hmj) h5
              refine ⟨_, g3.ok, by simp [exCode, hj], ?_, hdone⟩
              rw [hV, hStage]
              refine ⟨head (acc (j + 1)), none, .ready, g2, Mo3, oko3, .inr ⟨fun h => by omega, rfl, rfl, rfl⟩, d1, d2, by rw [d3]; exact hE3, fun b o => by rw [d3], hMM, fun b hb => hOO b (d4 b hb), fun b hb => .inl (c8 b hb), .inl c9, hnl3, out.rec_⟩
            · obtain ⟨hne, h5⟩ := hk2r hk3
              refine ⟨_, g3.ok, by simp [nodup_isNone hne, hj], ?_, hdone⟩
              rw [hV, hStage]
              refine ⟨s.after s3 hide, exCode e3, .done, g3, Mo3, oko3, .inl ⟨by omega, by omega, rfl, e3, hne, rfl, h5, hm3.trans hmj, rfl⟩, ⟨hsr1.size, hdef1, fun t ht => ?_, W3.leave hhd3 rfl rfl rfl rfl rfl⟩, hg3, hE3, fun b o => Iff.rfl, hMM, hOO, fun b hb => .inl (c8 b hb), .inl c9, hnl3, ?_⟩
              · have := (hsr1.tm t ht).mono hE3 hg3
                exact this
              · have := out.rec_
                cases e3 with
                | normal => exact absurd rfl hne
                | exit i => exact this
                | ret => exact this
    · simp at hev
  · simp at hev

end
end Go.Px

namespace Go.Px
variable {T : Nat → Type} {ρ : Type}

section
variable {C : Ctx T} {S : Specs T} {s s' s0 : St T} {g g0 : Gh} {M : Nat → Prop} {okc : Nat → Nat → Prop} {ds : List Nat} {a : Act} {w : World} {o : Oper} {v : PV T} {u : List (Upd T)} {f L K : List Nat} {Q : Exit → Act → World → Prop}
variable {P : Program} {D : Tab T} {ops : Array Oper} {A : Nat → Option Lp}

theorem least (p : Nat → Prop) (h : ∃ n, p n) : ∃ n, p n ∧ ∀ m, p m → n ≤ m := by
  obtain ⟨n, hn⟩ := h
  induction n using Nat.strongRecOn with
  | _ n ih =>
    by_cases h : ∃ m, m < n ∧ p m
    · obtain ⟨m, h1, h2⟩ := h
      exact ih m h1 h2
    · exact ⟨n, hn, fun m hm => Nat.le_of_not_lt fun h1 => h ⟨m, h1, hm⟩⟩

/-- a loop, so many rounds -/
theorem wpIn_loopN {F : Fence} {n : Nat} {c : Code} (J : Nat → Act → World → Prop) {N : Nat} (h0 : J N a w)
    (round : ∀ N a w, J N a w → c.wpIn F n P (Exit.then (fun a' w' => ∃ m, m < N ∧ J m a' w') Q) a w) : (Code.loop c).wpIn F n P Q a w := by
  have hmin : ∀ a w, ∃ N, (∃ n, J n a w) → J N a w ∧ ∀ m, J m a w → N ≤ m := fun a w => by
    by_cases h : ∃ n, J n a w
    · obtain ⟨N, h1, h2⟩ := least _ h
      exact ⟨N, fun _ => ⟨h1, h2⟩⟩
    · exact ⟨0, fun h' => absurd h' h⟩
  refine wpIn_loop (fun a w => ∃ n, J n a w) (fun a w => Classical.choose (hmin a w)) ⟨N, h0⟩ fun a w hI => ?_
  obtain ⟨h1, h2⟩ := Classical.choose_spec (hmin a w) hI
  refine wpIn_mono (round _ a w h1) fun e a' w' hq => ?_
  cases e with
  | normal =>
    obtain ⟨m, h3, h4⟩ := hq
    exact ⟨⟨m, h4⟩, Nat.lt_of_le_of_lt ((Classical.choose_spec (hmin a' w') ⟨m, h4⟩).2 m h4) h3⟩
  | _ => exact hq

theorem QOK.less {W1 W : Nat → Prop} {e : Exit} (h : QOK C Q W s g a w e s') (h1 : ∀ t, W1 t → W t) : QOK C Q W1 s g a w e s' := h.shift (Keep.refl W1 _ _ _ _) h1 h1

theorem asgOps_bit : ∀ {l : List Oper} {t : Nat}, wrs l t → (asgOps l).testBit t = true
  | [], t, ⟨o, h, _⟩ => by simp at h
  | x :: r, t, ⟨o, h, hd⟩ => by
    simp only [asgOps]
    rcases List.mem_cons.1 h with rfl | h
    · rw [hd]
      show (2 ^ t ||| asgOps r).testBit t = true
      simp [Nat.testBit_or]
    · have := asgOps_bit (l := r) ⟨o, h, hd⟩
      split
      · rename_i d _
        show (2 ^ d ||| asgOps r).testBit t = true
        simp [Nat.testBit_or, this]
      · exact this

theorem or_bit {x y t : Nat} : (Nat.lor x y).testBit t = true ↔ x.testBit t = true ∨ y.testBit t = true := by
  show (x ||| y).testBit t = true ↔ _
  simp [Nat.testBit_or]

/-- what is logged at a loop's head goes on -/
theorem loop_lg (hC : CtxOK C) (hS : SpecNat S) {c : Code} {n : Nat} {slots : List Slot} {fixed hide : List Nat} {k : Ex → St T → Option ρ} {r : ρ} : ∀ (N : Nat) (x : SlotsTy T slots) (s1 : St T), takeSlots C.D s s1 slots = some x → s1.lg.m? = s.lg.m? →
    loopN (fun x => evCode C.D S A c n (fun e s' => match e with
            | .normal => (takeSlots C.D s s' slots).bind fun y => some (.inl y)
            | e => (k e (s.leave s' hide)).map .inr) (embSlots C.D s (s.enter fixed hide) slots x)) N x = some r → ∃ e s', k e s' = some r ∧ LgInv C s1.lg s'.lg := by
  intro N
  induction N with
  | zero => intro x s1 _ _ h; simp [loopN] at h
  | succ N ihN =>
    intro x s1 ht hl h
    have hhead := head_lg (s := s.enter fixed hide) hl rfl ht
    simp only [loopN] at h
    split at h
    · simp at h
    · rename_i y hy
      obtain ⟨e, s2, h5, h6, h7⟩ := evCode_inv hC hS _ _ _ _ _ hy
      rw [hhead] at h7
      cases e with
      | normal =>
        simp only at h5
        obtain ⟨z, h8, h9⟩ := Option.bind_eq_some_iff.1 h5
        cases h9
        obtain ⟨e, s', a1, a2⟩ := ihN _ s2 h8 (h7.m.trans hl) h
        exact ⟨e, s', a1, h7.trans a2⟩
      | exit i => cases hk : k (.exit i) (s.leave s2 hide) <;> simp [hk] at h5
      | ret => cases hk : k .ret (s.leave s2 hide) <;> simp [hk] at h5
    · rename_i y hy
      obtain ⟨e, s2, h5, h6, h7⟩ := evCode_inv hC hS _ _ _ _ _ hy
      rw [hhead] at h7
      cases h
      cases e with
      | normal =>
        simp only at h5
        obtain ⟨z, h8, h9⟩ := Option.bind_eq_some_iff.1 h5
        cases h9
      | exit i =>
        cases hk : k (.exit i) (s.leave s2 hide) with
        | none => simp [hk] at h5
        | some q => simp [hk] at h5; subst h5; exact ⟨_, _, hk, h7⟩
      | ret =>
        cases hk : k .ret (s.leave s2 hide) with
        | none => simp [hk] at h5
        | some q => simp [hk] at h5; subst h5; exact ⟨_, _, hk, h7⟩

set_option maxHeartbeats 2000000 in
theorem loop_ok {c : Code} (ih : CodeOK S A c) : CodeOK S A (.loop c) := by
  intro C hC hS n ρ k s r g M okc ds a w Q hcode hev hsr hk
  have hcode : codeOk C.nt c = true := hcode
  simp only [evCode] at hev
  split at hev
  · -- so many rounds, one by one
    rename_i m _
    refine wpIn_loopN (N := m) (fun N a' w' => ∃ s1 g1 M1 okc1 ds1, unrollN (fun k' s' => evCode C.D S A c n k' s') k N s1 = some r ∧ SR C s1 g1 M1 okc1 ds1 a' w' ∧ Keep (wrc c) s g a w s1 g1 a' w' ∧ s1.lg.m? = s.lg.m?)
      ⟨s, g, M, okc, ds, hev, hsr, Keep.refl _ _ _ _ _, rfl⟩ fun N a' w' hJ => ?_
    obtain ⟨s1, g1, M1, okc1, ds1, h1, h2, h3, h4⟩ := hJ
    cases N with
    | zero => simp [unrollN] at h1
    | succ N =>
      simp only [unrollN] at h1
      refine ih C hC hS n _ _ r hcode h1 h2 fun e s2 hk2 hm2 => ?_
      cases e with
      | normal =>
        simp only at hk2
        obtain ⟨e, s3, h5, _, h6⟩ := unroll_inv (fun k' s hb => evCode_inv hC hS.nat c n k' s r hb) N s2 hk2
        refine ⟨h6.pre (hk e s3 h5 (h6.m.trans (hm2.trans h4))).1, fun g2 M2 okc2 ds2 a2 w2 hsr2 hkeep2 => ?_⟩
        exact ⟨N, by omega, s2, g2, M2, okc2, ds2, hk2, hsr2, h3.trans hkeep2 (fun _ => id) (fun _ => id), hm2.trans h4⟩
      | exit i =>
        obtain ⟨b1, b2⟩ := hk _ _ hk2 (hm2.trans h4)
        exact ⟨b1, b2.shift h3 (fun _ => id) (fun _ => id)⟩
      | ret =>
        obtain ⟨b1, b2⟩ := hk _ _ hk2 (hm2.trans h4)
        exact ⟨b1, b2.shift h3 (fun _ => id) (fun _ => id)⟩
  · rename_i slots fixed hide _
    split at hev
    · rename_i hok
      obtain ⟨x0, hx0, h2⟩ := Option.bind_eq_some_iff.1 hev
      obtain ⟨N, hN⟩ := loopM_some.1 h2
      have hhd : ∀ x, (embSlots C.D s (s.enter fixed hide) slots x).hd = s.pick hide ++ s.hd := fun x => (emb_same (D := C.D) (s0 := s)).1
      have hfixed : ∀ t, (∃ c', look t (s.fxs fixed) = some c') → ¬ wrc c t := fun t ⟨c', hc⟩ hw => by
        simp only [St.enterOk, Bool.and_eq_true] at hok
        have := List.all_eq_true.1 hok.1.1.1 _ (look_mem hc)
        unfold wrc at hw
        rw [hw] at this
        simp at this
      refine wpIn_loopN (N := N) (fun N a' w' => ∃ s1 g1 M1 okc1 ds1 x, takeSlots C.D s s1 slots = some x ∧ loopN (fun x => evCode C.D S A c n (fun e s' => match e with
            | .normal => (takeSlots C.D s s' slots).bind fun y => some (.inl y)
            | e => (k e (s.leave s' hide)).map .inr) (embSlots C.D s (s.enter fixed hide) slots x)) N x = some r ∧ SR C s1 g1 M1 okc1 ds1 a' w' ∧ GhLe g g1 ∧ Evo w g.ok w' g1.ok ∧ (∀ t, ¬ wrc c t → a'.tmps.getD t undef = a.tmps.getD t undef) ∧
            (∀ t e, look t (s.pick hide ++ s.hd) = some e → s1.ent t = some e) ∧ s1.lg.m? = s.lg.m?)
        ⟨s, g, M, okc, ds, x0, hx0, hN, hsr, GhLe.refl g, Evo.refl _ _, fun _ _ => rfl, fun t e h => hid_ent h, rfl⟩ fun N a' w' hJ => ?_
      obtain ⟨s1, g1, M1, okc1, ds1, x, ht, hl, hsr1, hgl, hev1, htmp, hhid, hm1⟩ := hJ
      cases N with
      | zero => simp [loopN] at hl
      | succ N =>
        have hheadlg : ∀ {s3 y}, s3.lg.m? = s.lg.m? → takeSlots C.D s s3 slots = some y → (embSlots C.D s (s.enter fixed hide) slots y).lg = s3.lg := fun h1 h2 => head_lg h1 rfl h2
        obtain ⟨g2, b1, b2, b3, _⟩ := enter_ok (a := a') hC (fixed := fixed) hsr.wr hok hsr1.wr hsr1.size hsr1.defs (fun sl t _ _ htn => hsr1.tm t htn) hgl hev1 hhid (fun t c' htn hc => by
          rw [htmp t (hfixed t ⟨c', hc⟩), ← fxs_get hc]
          exact hsr.tm t htn) (by rw [hheadlg hm1 ht]) ht
        have hmh : (embSlots C.D s (s.enter fixed hide) slots x).lg.m? = s.lg.m? := by rw [hheadlg hm1 ht]; exact hm1
        simp only [loopN] at hl
        have body : ∀ z : SlotsTy T slots ⊕ ρ, evCode C.D S A c n (fun e s' => match e with
            | .normal => (takeSlots C.D s s' slots).bind fun y => some (.inl y)
            | e => (k e (s.leave s' hide)).map .inr) (embSlots C.D s (s.enter fixed hide) slots x) = some z →
            ((∃ y, z = .inl y ∧ loopN (fun x => evCode C.D S A c n (fun e s' => match e with
              | .normal => (takeSlots C.D s s' slots).bind fun y => some (.inl y)
              | e => (k e (s.leave s' hide)).map .inr) (embSlots C.D s (s.enter fixed hide) slots x)) N y = some r) ∨ z = .inr r) →
            c.wpIn (FW C.ro) 0 C.P (Exit.then (fun a' w' => ∃ m, m < N + 1 ∧ ∃ s1 g1 M1 okc1 ds1 x, takeSlots C.D s s1 slots = some x ∧ loopN (fun x => evCode C.D S A c n (fun e s' => match e with
              | .normal => (takeSlots C.D s s' slots).bind fun y => some (.inl y)
              | e => (k e (s.leave s' hide)).map .inr) (embSlots C.D s (s.enter fixed hide) slots x)) m x = some r ∧ SR C s1 g1 M1 okc1 ds1 a' w' ∧ GhLe g g1 ∧ Evo w g.ok w' g1.ok ∧ (∀ t, ¬ wrc c t → a'.tmps.getD t undef = a.tmps.getD t undef) ∧
              (∀ t e, look t (s.pick hide ++ s.hd) = some e → s1.ent t = some e) ∧ s1.lg.m? = s.lg.m?) Q) a' w' := by
          intro z hz hcase
          refine ih C hC hS n _ _ z hcode hz b1 fun e s2 hk2 hm2 => ?_
          have hm2' : s2.lg.m? = s.lg.m? := hm2.trans hmh
          have keep : ∀ {st' : St T} {g3 : Gh} {a3 : Act} {w3 : World}, st'.hd = s.hd → Keep (wrc c) (embSlots C.D s (s.enter fixed hide) slots x) g2 a' w' s2 g3 a3 w3 → Keep (wrc (.loop c)) s g a w st' g3 a3 w3 := fun {st' g3 a3 w3} h1 h2 =>
            ⟨b2.trans h2.gle, hev1.trans (b3 ▸ h2.evo), fun t ht' => (h2.tmp t ht').trans (htmp t ht'), h1⟩
          have out : ∀ {q : ρ}, e ≠ .normal → k e (s.leave s2 hide) = some q → q = r → C.pre s2.lg ∧ QOK C Q (wrc c) (embSlots C.D s (s.enter fixed hide) slots x) g2 a' w' (toEx e) s2 := fun {q} hne hke hq => by
            subst hq
            obtain ⟨d1, d2⟩ := hk _ _ hke hm2'
            refine ⟨d1, fun g3 M3 okc3 ds3 a3 w3 hsr3 hkeep3 => ?_⟩
            have hhd3 : s2.hd = s.pick hide ++ s.hd := hkeep3.hd.trans (hhd x)
            exact d2 g3 M3 okc3 ds3 a3 w3 ⟨hsr3.size, hsr3.defs, hsr3.tm, WR.leave (r := s.leave s2 hide) hsr3.wr hhd3 rfl rfl rfl rfl rfl⟩ (keep rfl hkeep3)
          cases e with
          | normal =>
            simp only at hk2
            obtain ⟨y, h3, h4⟩ := Option.bind_eq_some_iff.1 hk2
            cases h4
            rcases hcase with ⟨y', h5, h6⟩ | h5
            · cases h5
              obtain ⟨e', s3, h7, h8⟩ := loop_lg hC hS.nat N y s2 h3 hm2' h6
              refine ⟨h8.pre (hk _ _ h7 (h8.m.trans hm2')).1, fun g3 M3 okc3 ds3 a3 w3 hsr3 hkeep3 => ?_⟩
              have hhd3 : s2.hd = s.pick hide ++ s.hd := hkeep3.hd.trans (hhd x)
              exact ⟨N, by omega, s2, g3, M3, okc3, ds3, y, h3, h6, hsr3, b2.trans hkeep3.gle, hev1.trans (b3 ▸ hkeep3.evo), fun t ht' => (hkeep3.tmp t ht').trans (htmp t ht'), fun t e h => by simp only [St.ent, hhd3, h], hm2'⟩
            · cases h5
          | exit i =>
            cases hke : k (.exit i) (s.leave s2 hide) with
            | none => simp [hke] at hk2
            | some q =>
              simp [hke] at hk2
              rcases hcase with ⟨y', h5, h6⟩ | h5
              · rw [h5] at hk2; simp at hk2
              · rw [h5] at hk2
                obtain ⟨d1, d2⟩ := out (by simp) hke (by simpa using hk2)
                exact ⟨d1, d2⟩
          | ret =>
            cases hke : k .ret (s.leave s2 hide) with
            | none => simp [hke] at hk2
            | some q =>
              simp [hke] at hk2
              rcases hcase with ⟨y', h5, h6⟩ | h5
              · rw [h5] at hk2; simp at hk2
              · rw [h5] at hk2
                obtain ⟨d1, d2⟩ := out (by simp) hke (by simpa using hk2)
                exact ⟨d1, d2⟩
        split at hl
        · simp at hl
        · rename_i y hy
          exact body _ hy (.inl ⟨y, rfl, hl⟩)
        · rename_i y hy
          cases hl
          exact body _ hy (.inr rfl)
    · simp at hev
  · simp at hev

theorem evCode_ok : ∀ c : Code, CodeOK S A c := by
  intro c
  induction c with
  | skip => exact fun C hC hS n ρ k s r g M okc ds a w Q _ hev hsr hk => wpIn_skip ((hk .normal s hev rfl).2 g M okc ds a w hsr (Keep.refl _ _ _ _ _))
  | label l => exact fun C hC hS n ρ k s r g M okc ds a w Q _ hev hsr hk => wpIn_label ((hk .normal s hev rfl).2 g M okc ds a w hsr (Keep.refl _ _ _ _ _))
  | exit id => exact fun C hC hS n ρ k s r g M okc ds a w Q _ hev hsr hk => wpIn_exit ((hk (.exit id) s hev rfl).2 g M okc ds a w hsr (Keep.refl _ _ _ _ _))
  | ret => exact fun C hC hS n ρ k s r g M okc ds a w Q _ hev hsr hk => wpIn_ret ((hk .ret s hev rfl).2 g M okc ds a w hsr (Keep.refl _ _ _ _ _))
  | region id ops draw =>
    intro C hC hS n ρ k s r g M okc ds a w Q hcode hev hsr hk
    have hops : ∀ (j : Nat) (o : Oper), ops[j]? = some o → operOk C.nt o = true := fun j o h => by
      have hcode : ops.toList.all (operOk C.nt) = true := hcode
      exact List.all_eq_true.1 hcode o (List.mem_of_getElem? (by simpa using h))
    simp only [evCode] at hev
    have hk' : ∀ s', k .normal s' = some r → s'.lg.m? = s.lg.m? → C.pre s'.lg ∧ QOK C Q (wrs ops.toList) s g a w .normal s' := fun s' h1 h2 => by
      obtain ⟨d1, d2⟩ := hk _ _ h1 h2
      exact ⟨d1, d2.less fun t ht => asgOps_bit ht⟩
    cases draw with
    | true => exact evOpsD_ok hC hS hops hev hsr hk'
    | false =>
      refine wpIn_region ?_
      have := evOps_ok (Q := Q) hC hS hops ops.toList 0 rfl hev hsr hk'
      rw [List.range_eq_range']
      simpa using this
  | seq x y ihx ihy =>
    intro C hC hS n ρ k s r g M okc ds a w Q hcode hev hsr hk
    simp only [codeOk, Bool.and_eq_true] at hcode
    simp only [evCode] at hev
    refine wpIn_seq (ihx C hC hS n _ _ r hcode.1 hev hsr fun e s1 hk1 hm1 => ?_)
    have hx : ∀ t, wrc x t → wrc (.seq x y) t := fun t h => or_bit.2 (.inl h)
    have hy : ∀ t, wrc y t → wrc (.seq x y) t := fun t h => or_bit.2 (.inr h)
    cases e with
    | normal =>
      simp only at hk1
      obtain ⟨e2, s2, h1, _, h2⟩ := evCode_inv hC hS.nat _ _ _ _ _ hk1
      refine ⟨h2.pre (hk _ _ h1 (h2.m.trans hm1)).1, fun g1 M1 okc1 ds1 a1 w1 hsr1 hkeep1 => ?_⟩
      refine ihy C hC hS n _ _ r hcode.2 hk1 hsr1 fun e s2 hk2 hm2 => ?_
      obtain ⟨d1, d2⟩ := hk _ _ hk2 (hm2.trans hm1)
      exact ⟨d1, d2.shift hkeep1 hx hy⟩
    | exit i =>
      obtain ⟨d1, d2⟩ := hk _ _ hk1 hm1
      exact ⟨d1, d2.less hx⟩
    | ret =>
      obtain ⟨d1, d2⟩ := hk _ _ hk1 hm1
      exact ⟨d1, d2.less hx⟩
  | cond c x y ihx ihy =>
    intro C hC hS n ρ k s r g M okc ds a w Q hcode hev hsr hk
    simp only [codeOk, Bool.and_eq_true] at hcode
    simp only [evCode] at hev
    split at hev
    · rename_i t ht
      have hr := hsr.ev (ty := 0) (mem_tmps1 hcode.1.1)
      rw [ht] at hr
      have hb := rel_bool hr
      rw [cond_eq_ite] at hev
      split at hev
      · rename_i htt
        subst htt
        exact wpIn_cond_true hb (ihx C hC hS n _ _ r hcode.1.2 hev hsr fun e s1 hk1 hm1 => ⟨(hk _ _ hk1 hm1).1, (hk _ _ hk1 hm1).2.less fun t h => or_bit.2 (.inl h)⟩)
      · rename_i htt
        have htt : t = false := by simpa using htt
        subst htt
        exact wpIn_cond_false hb (ihy C hC hS n _ _ r hcode.2 hev hsr fun e s1 hk1 hm1 => ⟨(hk _ _ hk1 hm1).1, (hk _ _ hk1 hm1).2.less fun t h => or_bit.2 (.inr h)⟩)
    · simp at hev
  | block id c ih =>
    intro C hC hS n ρ k s r g M okc ds a w Q hcode hev hsr hk
    simp only [evCode] at hev
    refine wpIn_block (ih C hC hS id _ _ r hcode hev hsr fun e s1 hk1 hm1 => ?_)
    cases e with
    | normal => exact hk _ _ hk1 hm1
    | exit i =>
      simp only at hk1
      split at hk1
      · rename_i hi
        have hi := Nat.eq_of_beq_eq_true hi
        subst hi
        obtain ⟨d1, d2⟩ := hk _ _ hk1 hm1
        refine ⟨d1, fun g1 M1 okc1 ds1 a1 w1 hsr1 hkeep1 => ?_⟩
        show (if i = i then Q .normal a1 w1 else Q (.exit i) a1 w1)
        rw [if_pos rfl]
        exact d2 g1 M1 okc1 ds1 a1 w1 hsr1 hkeep1
      · rename_i hi
        have hi : i ≠ id := fun e => by subst e; simp at hi
        obtain ⟨d1, d2⟩ := hk _ _ hk1 hm1
        refine ⟨d1, fun g1 M1 okc1 ds1 a1 w1 hsr1 hkeep1 => ?_⟩
        show (if i = id then Q .normal a1 w1 else Q (.exit i) a1 w1)
        rw [if_neg hi]
        exact d2 g1 M1 okc1 ds1 a1 w1 hsr1 hkeep1
    | ret => exact hk _ _ hk1 hm1
  | loop c ih => exact loop_ok ih
  | rangeFunc f params assign body iha ihb => exact range_ok iha ihb
  | _ => intro C hC hS n ρ k s r g M okc ds a w Q _ hev; simp [evCode] at hev

end
end Go.Px

namespace Go.Px
variable {T : Nat → Type} {ρ : Type}

/-! ## Functions -/

section
variable {C : Ctx T} {S : Specs T} {s s' s0 : St T} {g g0 : Gh} {M : Nat → Prop} {okc : Nat → Nat → Prop} {ds : List Nat} {a : Act} {w : World} {o : Oper} {v : PV T} {u : List (Upd T)} {f L K : List Nat} {Q : Exit → Act → World → Prop}
variable {P : Program} {D : Tab T} {ops : Array Oper} {A : Nat → Option Lp}

/-- a mark is taken -/
theorem SR.unmark (hC : CtxOK C) {b : Nat} (h : SR C s g M okc (b :: ds) a w) : SR C s g M okc ds { a with defers := marksD ds } (w.putObj b (.deferred none)) ∧ Evo w g.ok (w.putObj b (.deferred none)) g.ok := by
  have W := h.wr
  obtain ⟨hb, hM⟩ := W.dsM b (by simp)
  have hne : ∀ b', OwnB g [] b' → b' ≠ b := fun b' hb' e => by
    obtain ⟨vs, E, h2⟩ := W.own_lt hb'
    rw [e, hb] at h2; cases h2
  have hMb : ∀ b', M b' → b' ≠ b := fun b' hb' e => hM (e ▸ hb')
  have hcell : ∀ b' o, (w.putObj b (.deferred none)).cell? ⟨b', o, none⟩ = w.cell? ⟨b', o, none⟩ := fun b' o => by
    by_cases e : b' = b
    · subst e
      have := World.putObj_heap_same (w := w) (o := .deferred none) (heap_lt hb)
      simp [World.cell?, this, hb]
    · exact cell_eq (World.putObj_heap_other e) o
  have hJ := hC.stable _ _ _ _ (w.putObj b (.deferred none)) W.hJ ⟨rfl, rfl, rfl, by simp, fun b hb => World.putObj_heap_other (hMb b hb), fun b o _ => hcell b o⟩
  have hnd := List.nodup_cons.1 W.dsnd
  obtain ⟨W2, E2⟩ := W.shift2 C.V C.ro C.pre (s' := s) (M' := M) (okc' := okc) (ok' := g.ok) (ds' := ds) (w' := w.putObj b (.deferred none)) (fun _ => rfl) (fun _ => rfl) (fun _ => rfl) (by simp) (fun b hb => World.putObj_heap_other (hne b hb)) (fun b o _ => hcell b o) (fun _ _ => id) (fun _ _ => .inl)
    (fun b o h => by simpa using W.okin b o h) (fun b hb => W.own_M hb) (fun b hb => by simpa using W.Mlt b hb) W.okcg W.okM (hC.rr _ _ _ _ hJ) hJ (fun b x hx => ⟨(W.rh b x hx).1, (World.putObj_heap_other (hMb b (W.rh b x hx).1)).trans (W.rh b x hx).2⟩)
    (fun b' hb' => ⟨(World.putObj_heap_other (k := b') (r := b) (fun e => hnd.1 (by rw [← e]; exact hb'))).trans (W.dsM b' (by simp [hb'])).1, (W.dsM b' (by simp [hb'])).2⟩) hnd.2
  exact ⟨⟨h.size, rfl, fun t ht => (h.tm t ht).mono E2 (GhLe.refl g), W2⟩, E2⟩

/-- a function's way out -/
theorem leaves_ok (hC : CtxOK C) {fn : Func} {R : Ending → World → Prop} {tmps : Array Value} : ∀ (ds : List Nat) (w : World), SR C s g M okc ds ⟨tmps, marksD ds⟩ w → (∀ w5, SR C s g M okc [] ⟨tmps, []⟩ w5 → ∃ v, (results fn tmps).run C.P w5 = .ok v w5 ∧ R (.returned v) w5) →
    LeavesInM (FW none) 0 C.P fn tmps R (marksD ds) .returning w
  | [], w, h, hr => by
    obtain ⟨v, h1, h2⟩ := hr w h
    exact ⟨v, h1, h2⟩
  | b :: ds, w, h, hr => by
    obtain ⟨h1, _⟩ := h.unmark hC
    obtain ⟨hb, _⟩ := h.wr.dsM b (by simp)
    refine ⟨by simp, .inl ⟨b, _, rfl, run_takeDeferred hb, ?_⟩⟩
    exact leaves_ok hC ds _ h1 hr

/-- everything that a frame made is settled -/
def okAll (g : Gh) (w : World) (b o : Nat) : Prop := g.ok b o ∨ ∃ t vs E, t ≠ OUT ∧ g.bl t = some b ∧ w.heap[b]? = some (.cells vs E (0, 0)) ∧ o < vs.size

theorem moveS {c : PV T} {r : Value} {ok : Nat → Nat → Prop} (h : Rel P D w g c r) (hok : ∀ b o, g.ok b o → ok b o) (hc : c.clean = true) (hn : c.norp = true) : Rel P D w (G0 ok noH none) c r :=
  h.moveR (g' := G0 ok noH none) ⟨Nat.le_refl _, fun _ _ _ => rfl, hok⟩ hc hn

theorem untok_norp {c : PV T} (h : c.norp = true) : (untok c).norp = true := by
  cases c with
  | sl E l o => cases o <;> rfl
  | _ => exact h

theorem cleanL_drop {cs : List (PV T)} {n : Nat} (h : cleanL cs = true) : cleanL (cs.drop n) = true := cleanL_of fun c hc => cleanL_mem h (List.mem_of_mem_drop hc)

theorem clean_clo {f : Nat} {cs : List (PV T)} (h : (PV.clo f cs).clean = true) : cleanL cs = true := by simpa [PV.clean] using h

/-- a captured variable, for good -/
theorem WR.convR (h : WR C s g M okc ds w) {c : PV T} {r : Value} (hr : Rel C.P C.D w g c r) (hc : (s.convR c).clean = true) : Rel C.P C.D w (G0 (okAll g w) noH none) (s.convR c) r := by
  have hA : ∀ b o, g.ok b o → okAll g w b o := fun _ _ => .inl
  unfold St.convR at hc ⊢
  split
  · rename_i t k off
    simp only at hc
    split
    · rename_i cs hcs
      rw [hcs] at hc
      simp only at hc
      split
      · rename_i hn
        rw [hn] at hc
        simp only [Bool.and_eq_true, Bool.not_eq_true'] at hn
        obtain ⟨⟨_, hn⟩, hout⟩ := hn
        have htO : t ≠ OUT := fun e => by subst e; simp at hout
        obtain ⟨b, vs, E, e, h1, h2, h3, h4, h5, h6, h7⟩ := h.rbox hcs
        generalize hv : r = vv at hr
        cases hr with
        | loc _ _ _ b' hk hb' =>
          have := hb' h3
          rw [h4] at this; cases this
          have hcl : cleanL ((cs.map untok).drop off) = true := by simpa [PV.clean] using hc
          refine .rp _ b off (fun i => vs.getD (off + i) Go.undef) (fun i c hi => ?_) fun i c hi => ?_
          · rw [List.getElem?_drop, List.getElem?_map] at hi
            obtain ⟨d, h8, rfl⟩ := Option.map_eq_some_iff.1 hi
            refine .inl ⟨by rw [cell_of h5]; exact (h6.get h8).1, .inr ⟨t, vs, E, htO, h4, h5, ?_⟩⟩
            rw [h6.1]; exact (List.getElem?_eq_some_iff.1 h8).1
          · have hcc := cleanL_get hcl hi
            rw [List.getElem?_drop, List.getElem?_map] at hi
            obtain ⟨d, h8, rfl⟩ := Option.map_eq_some_iff.1 hi
            exact moveS ((h6.get h8).2.untok) hA hcc (untok_norp (norpL_get hn h8))
      · exact .undef _
    · exact .undef _
  · rename_i hne
    split
    · rename_i hnr
      have hc' : (s.conv c).clean = true := by
        revert hc
        split
        · rename_i t k off; exact fun _ => absurd rfl (hne t k off)
        · rw [hnr]; exact id
      cases c with
      | loc t k off => exact absurd rfl (hne t k off)
      | sl E l ow =>
        cases ow with
        | tok t k => exact moveS (hr.untok) hA hc' rfl
        | no => exact moveS hr hA hc' rfl
        | nil => exact moveS hr hA hc' rfl
        | full => exact moveS hr hA hc' rfl
      | _ => exact moveS hr hA hc' hnr
    · exact .undef _

theorem view_norp {c : PV T} (h : c.norp = true) (hc : ∀ f cs, c ≠ .clo f cs) : (s.view c).norp = true := by
  cases c with
  | clo f cs => exact absurd rfl (hc f cs)
  | agg vs =>
    simp only [St.view, PV.norp] at h ⊢
    refine norpL_of fun c hc => ?_
    obtain ⟨d, h1, rfl⟩ := List.mem_map.1 hc
    obtain ⟨i, hi, e⟩ := List.getElem_of_mem h1
    exact untok_norp (norpL_get h (i := i) (by rw [List.getElem?_eq_getElem hi, e]))
  | sl E l ow => cases ow <;> rfl
  | _ => exact h

theorem cl_norp {c : PV T} (h : c.norp = true) : (cl c).norp = true := by
  unfold cl
  split
  · exact h
  · rfl

theorem view_rel (h : WR C s g M okc ds w) {c : PV T} {r : Value} (hr : Rel C.P C.D w g c r) (hc : ∀ f cs, c ≠ .clo f cs) : Rel C.P C.D w g (s.view c) r := by
  cases c with
  | clo f cs => exact absurd rfl (hc f cs)
  | agg vs =>
    cases hr with
    | agg _ us hn hr =>
      have := RelL.map (w' := w) (g' := g) (F := untok) ⟨hn, hr⟩ fun c v hc hr => hr.untok
      exact .agg _ _ this.1 this.2
  | sl E l ow => cases ow <;> exact hr.untok
  | _ => exact hr

/-- what is settled behind a result: all, where there is one alone -/
def okOf (g : Gh) (w : World) (one : Bool) : Nat → Nat → Prop := match one with
  | true => okAll g w
  | false => g.ok

theorem okOf_old {one : Bool} : ∀ b o, g.ok b o → okOf g w one b o := by
  cases one
  · exact fun _ _ => id
  · exact fun _ _ => .inl

/-- a row of one's own as a result -/
theorem WR.row_new (h : WR C s g M okc ds w) {n0 : Nat} (htk : ∀ t b e, g.tk t = some (b, e) → n0 ≤ b) {one : Bool} {E : Nat} {l : List (T E)} {t k : Nat} {r : Value} (hr : Rel C.P C.D w g (.sl E l (.tok t k)) r) (hk : k = s.tv t) : RelR1 C.P C.D n0 w (okOf g w one) (.sl E l (.tok t k)) r := by
  cases hr with
  | sl _ _ _ _ hd ho =>
    refine .own E l t k r (hd.mono (fun _ _ _ => rfl) okOf_old) ?_
    rcases ho.2 (by rw [h.tv]; exact hk) with h1 | h1 | ⟨b, off, cap, lim, h1, h2, h3⟩
    · exact .inl h1
    · exact .inr (.inl h1)
    · obtain ⟨⟨vs, E', h4, h5, h6⟩, h7, _⟩ := h.tks t b _ h2
      obtain ⟨aa, cap', e1, e2⟩ := relD_sl_inv hd
      rw [h1] at e1; cases e1
      refine .inr (.inr ⟨b, off, cap, lim, vs, E', h1, e2, htk t b _ h2, h4, h5, h3, fun o ho' => ?_⟩)
      cases one with
      | false => exact h7 o ho'
      | true =>
        rcases ho' with ho' | ⟨t', _, _, _, h8, _⟩
        · exact h7 o ho'
        · exact absurd h8 (h.tkbl t t' b _ h2)

theorem resV_ok (hC : CtxOK C) (h : WR C s g M okc ds w) {n0 : Nat} (htk : ∀ t b e, g.tk t = some (b, e) → n0 ≤ b) {one : Bool} {c : PV T} {r : Value} (hr : Rel C.P C.D w g c r) : RelR1 C.P C.D n0 w (okOf g w one) (resV C.D s one c) r := by
  have plain : ∀ {c' : PV T}, Rel C.P C.D w g c' r → c'.clean = true → c'.norp = true → RelR1 C.P C.D n0 w (okOf g w one) c' r := fun h1 h2 h3 => .data _ _ h2 (moveS h1 okOf_old h2 h3)
  unfold resV
  split
  · rename_i E l t k
    split
    · rename_i hk
      have hk := Nat.eq_of_beq_eq_true hk
      exact h.row_new htk hr hk
    · exact plain (hr.untok) rfl rfl
  · rename_i E l ow hne
    cases ow with
    | tok t k => exact absurd rfl (hne t k)
    | no => exact plain hr rfl rfl
    | nil => exact plain hr rfl rfl
    | full => exact plain hr rfl rfl
  · rename_i vs
    split
    · rename_i hn
      have hcl := cl_clean (.agg (vs.map (viewB C.D s one)))
      cases one with
      | false =>
        refine plain (Rel.cl ?_) hcl (cl_norp ?_)
        · cases hr with
          | agg _ us hn' hr =>
            have := RelL.map (w' := w) (g' := g) (F := viewB C.D s false) ⟨hn', hr⟩ fun c v hc hr => by
              unfold viewB
              split
              · split
                · exact .undef _
                · exact .undef _
              · exact hr.untok
              · exact hr
            exact .agg _ _ this.1 this.2
        · simp only [PV.norp]
          refine norpL_of fun c hc => ?_
          obtain ⟨d, h1, rfl⟩ := List.mem_map.1 hc
          obtain ⟨i, hi, e⟩ := List.getElem_of_mem h1
          have hd := norpL_get hn (i := i) (by rw [List.getElem?_eq_getElem hi, e])
          unfold viewB
          split
          · split <;> rfl
          · rfl
          · exact hd
      | true =>
        refine .data _ _ hcl ?_
        show Rel C.P C.D w (G0 (okAll g w) noH none) _ r
        unfold cl at hcl ⊢
        split
        · rename_i hcc
          cases hr with
          | agg _ us hn' hr =>
            refine .agg _ _ (by simp [hn']) fun i c hi => ?_
            have hci := cleanL_get (by simpa [PV.clean] using hcc) hi
            rw [List.getElem?_map] at hi
            obtain ⟨d, h1, rfl⟩ := Option.map_eq_some_iff.1 hi
            have hrd := hr i d h1
            have hnd := norpL_get hn h1
            generalize us.getD i Go.undef = x at hrd
            unfold viewB at hci ⊢
            split
            · rename_i E t k n
              split
              · rename_i cs hcs
                split
                · rename_i hout
                  simp only [Bool.and_eq_true, Bool.not_eq_true'] at hout
                  have htO : t ≠ OUT := fun e => by subst e; simp at hout
                  obtain ⟨b, ws, E', e, h2, h3, h4, h5, h6, h7, h8⟩ := h.rbox hcs
                  cases hrd with
                  | bsl _ _ _ _ b' hk hb' =>
                    have := hb' h4
                    rw [h5] at this; cases this
                    -- the cells are settled
                    unfold slOf
                    split
                    · rename_i i' hi'
                      split
                      · rename_i l h9 h10
                        have hx : RelD C.D w (okAll g w) (.sl E l .no) (.slice (some ⟨b, 0, none⟩) n n) := by
                          have h7' : RelL C.P C.D w { g with ok := okAll g w } cs ws := h7.mono (g' := { g with ok := okAll g w }) ⟨Nat.le_refl _, fun _ _ _ => rfl, fun _ _ => .inl⟩ (GhLe.ok g _)
                          refine RelD.of_cells (P := C.P) (g := { g with ok := okAll g w }) (F := fun j => ws.getD j Go.undef) hC.tab hi' h10 (Nat.le_refl _) (fun j c hj _ => ?_) .no
                          obtain ⟨a1, a2⟩ := h7'.get hj
                          refine ⟨by rw [cell_of h6, Nat.zero_add]; exact a1, .inr ⟨t, ws, E', htO, h5, h6, ?_⟩, a2⟩
                          rw [h7.1, Nat.zero_add]; exact (List.getElem?_eq_some_iff.1 hj).1
                        exact .sl E l .no _ hx trivial
                      · exact .undef _
                    · exact .undef _
                · exact .undef _
              · exact .undef _
            · exact moveS (hrd.untok) (fun _ _ => .inl) rfl rfl
            · rename_i hn1 hn2
              have hcd : d.clean = true := by
                cases d <;> first | exact absurd rfl (hn1 _ _ _ _) | exact hci | skip
                case sl E l ow => cases ow <;> first | exact absurd rfl (hn2 _ _ _ _) | rfl
              exact moveS hrd (fun _ _ => .inl) hcd hnd
        · exact .undef _
    · exact plain (.undef _) rfl rfl
  · rename_i hne1 hne2 hne3
    unfold St.viewR
    split
    · rename_i f caps
      split
      · have hcl := cl_clean (.clo f (caps.map s.convR))
        refine .data _ _ hcl ?_
        show Rel C.P C.D w (G0 (okAll g w) noH none) _ r
        unfold cl at hcl ⊢
        split
        · rename_i hcc
          cases hr with
          | clo _ _ us hn' hr =>
            refine .clo _ _ _ (by simp [hn']) fun i c hi => ?_
            have hci := cleanL_get (by simpa [PV.clean] using hcc) hi
            rw [List.getElem?_map] at hi
            obtain ⟨d, h1, rfl⟩ := Option.map_eq_some_iff.1 hi
            exact h.convR (hr i d h1) hci
        · exact .undef _
      · exact plain (.undef _) rfl rfl
    · rename_i hnc
      split
      · rename_i hnr
        refine plain (Rel.cl (view_rel h hr hnc)) (cl_clean _) (cl_norp (view_norp hnr hnc))
      · exact plain (.undef _) rfl rfl

theorem notnew_of_clean {c : PV T} (h : c.clean = true) : isNew c = false := by cases c <;> first | rfl | (simp [PV.clean] at h)

theorem resV_notnew {one : Bool} {c : PV T} : isNew (resV D s one c) = false := by
  unfold resV
  split
  · split <;> rfl
  · rfl
  · split
    · exact notnew_of_clean (cl_clean _)
    · rfl
  · unfold St.viewR
    split
    · split
      · exact notnew_of_clean (cl_clean _)
      · rfl
    · split
      · exact notnew_of_clean (cl_clean _)
      · rfl

/-- how a result is read -/
def resSem (tmps : Array Value) : ResultVar → Sem Value
  | .tmp t => pure (tmps.getD t undef)
  | .cell a t => do loadVar t (← asAddr (tmps.getD a undef))

theorem evRes_ok (hC : CtxOK C) (h : SR C s g M okc ds a w) {n0 : Nat} (htk : ∀ t b e, g.tk t = some (b, e) → n0 ≤ b) (hbl : ∀ t b, g.bl t = some b → t ≠ OUT → n0 ≤ b) {one : Bool} {rv : ResultVar} (hrn : resRun C.D s rv = true) (hok : resOk C.nt rv = true) :
    ∃ val, (resSem a.tmps rv).run C.P w = .ok val w ∧ (isNew (evRes C.D s one rv) = true → RelR1 C.P C.D n0 w g.ok (evRes C.D s one rv) val) ∧ (isNew (evRes C.D s one rv) = false → RelR1 C.P C.D n0 w (okOf g w one) (evRes C.D s one rv) val) := by
  have und : ∀ {ok : Nat → Nat → Prop} {val : Value}, RelR1 C.P C.D n0 w ok .undef val := fun {ok val} => .data _ _ rfl (.undef _)
  have W := h.wr
  cases rv with
  | tmp t =>
    have ht : t < C.nt := by simpa [resOk] using hok
    have hr := h.tm t ht
    refine ⟨a.tmps.getD t undef, ?_⟩
    simp only [evRes]
    split
    · rename_i u k hget
      rw [hget] at hr
      split
      · rename_i cs hcs
        split
        · rename_i hc hout
          simp only [Bool.and_eq_true] at hc
          have htO : u ≠ OUT := fun e => by subst e; simp at hout
          obtain ⟨hh, e, he, hf, hv, rfl⟩ := St.box_some hcs
          have hent : s.ent u = some e := by simp [St.ent, hh, he]
          obtain ⟨b, h1, h2⟩ := W.bx u e hent
          obtain ⟨vs, E, h3, h4⟩ := h2.cells
          refine ⟨rfl, fun _ => ?_, fun h => by simp [isNew] at h⟩
          generalize hz : a.tmps.getD t undef = z at hr
          cases hr with
          | loc _ _ _ b' hk hb =>
            have := hb (by rw [W.bv, St.bv, hent]; exact hv.symm)
            rw [h1] at this; cases this
            exact .new e.cs b vs E (hbl u b h1 htO) h3 hc.1 (RelL.imp h4 fun c r hcm hr => by
              obtain ⟨i, hi, e'⟩ := List.getElem_of_mem hcm
              exact moveS hr (fun _ _ => id) (cleanL_mem hc.1 hcm) (norpL_get hc.2 (i := i) (by rw [List.getElem?_eq_getElem hi, e']))) (h2.own hf)
        · exact ⟨rfl, fun h => by simp [isNew] at h, fun _ => und⟩
      · exact ⟨rfl, fun h => by simp [isNew] at h, fun _ => und⟩
    · have h2 := resV_ok hC W htk (one := one) hr
      exact ⟨rfl, fun h => by rw [resV_notnew] at h; simp at h, fun _ => h2⟩
  | cell x t =>
    have hx : x < C.nt := by simpa [resOk] using hok
    have hr := h.tm x hx
    simp only [resRun] at hrn
    simp only [evRes, resSem]
    split at hrn
    · rename_i u k off i hget hi
      obtain ⟨ti, d, row⟩ := hC.tab.row hi
      split at hrn
      · rename_i cs hcs
        have hle : off + i.size ≤ cs.length := by simpa using hrn
        rw [hget] at hr
        obtain ⟨b, vs, E, e, h1, h2, h3, h4, h5, h6, h7⟩ := W.rbox hcs
        generalize hz : a.tmps.getD x undef = z at hr
        cases hr with
        | loc _ _ _ b' hk hb =>
          have := hb h3
          rw [h4] at this; cases this
          obtain ⟨val, e1, e2⟩ := run_loadVar (w := w) (g := g) row (cs := cs.drop off) (b := b) (off := off) (F := fun j => vs.getD (off + j) undef) (by simp; omega) (fun j c hj => by
            rw [List.getElem?_drop] at hj
            obtain ⟨a1, a2⟩ := h6.get hj
            exact ⟨by rw [cell_of h5]; exact a1, a2⟩)
          have h9 := resV_ok hC W htk (one := one) e2
          refine ⟨val, by simpa [asAddr] using e1, ?_⟩
          try simp only [hget, hi, hcs]
          exact ⟨fun h => by rw [resV_notnew] at h; simp at h, fun _ => h9⟩
      · simp at hrn
    · rename_i cs i hget hi
      obtain ⟨ti, d, row⟩ := hC.tab.row hi
      have hle : i.size ≤ cs.length := by simpa using hrn
      rw [hget] at hr
      generalize hz : a.tmps.getD x undef = z at hr
      cases hr with
      | rp _ b off F hc hr' =>
        obtain ⟨val, e1, e2⟩ := run_loadVar (w := w) (g := g) row (cs := cs) (b := b) (off := off) (F := F) hle (fun j c hj => ⟨W.rp_cell (hc j c hj), hr' j c hj⟩)
        refine ⟨val, by simpa [asAddr] using e1, ?_⟩
        try simp only [hget, hi]
        split
        · rename_i hn
          refine ⟨fun h => by rw [notnew_of_clean (cl_clean _)] at h; simp at h, fun _ => .data _ _ (cl_clean _) (moveS (e2.untok.cl) okOf_old (cl_clean _) (cl_norp (untok_norp ?_)))⟩
          unfold one1
          split
          · simp only [PV.norp]
            refine norpL_of fun c hc => ?_
            obtain ⟨j, hj, e'⟩ := List.getElem_of_mem (List.mem_of_mem_take hc)
            exact norpL_get hn (i := j) (by rw [List.getElem?_eq_getElem hj, e'])
          · split
            · rename_i c q; exact norpL_get hn (i := 0) rfl
            · rfl
        · exact ⟨fun h => by simp [isNew] at h, fun _ => und⟩
    · simp at hrn

end
end Go.Px

