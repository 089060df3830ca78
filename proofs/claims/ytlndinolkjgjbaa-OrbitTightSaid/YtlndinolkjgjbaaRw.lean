/-
  Proved here: a contract of a law gives what the call does.
  Conditions: those that the theorems name.
-/
import Derived.Test.YtlndinolkjgjbaaPh
import Derived.Test.YtlndinolkjgjbaaTb
import Derived.OpenShut
set_option linter.all false
set_option maxRecDepth 100000
namespace Go.Proofs.Bol
open Go.Px Go.ChangeShapes Go.WideShapes Go.RowKit

/-! ## From a contract to a law's walk -/

theorem cell_lt {w : Go.World} {a : Addr} {v : Value} (h : w.cell? a = some v) : a.block < w.heap.size := by
  by_cases hl : a.block < w.heap.size
  · exact hl
  · exfalso
    have : w.heap[a.block]? = none := Array.getElem?_eq_none (by omega)
    simp [Go.World.cell?, this] at h

def InRow (w : Go.World) (a : Option Addr) (len cap : Nat) (zs : List Int) : Prop :=
  (a = none ∧ len = 0 ∧ cap = 0 ∧ zs = []) ∨
  ∃ x, a = some x ∧ len ≤ cap ∧ cap ≤ Go.maxLen ∧ zs.length = cap ∧ (∀ i, i < zs.length → w.cell? (x.add i) = some (.int .i64 (zs.getD i 0))) ∧ ∀ n ∈ zs, (Lit.int .i64 n).wf = true

theorem inRow_rel {w : Go.World} {a : Option Addr} {len cap : Nat} {zs : List Int} (h : InRow w a len cap zs) :
    (zs.take len).length = len ∧ RelD D w (fun b _ => b < w.heap.size) (.sl 3 (zs.take len) .no : PV T) (.slice a len cap) := by
  rcases h with ⟨rfl, rfl, rfl, rfl⟩ | ⟨x, rfl, h1, h2, h3, h4, h5⟩
  · have hn : RelD D w (fun b _ => b < w.heap.size) (.sl 3 ([] : List (T 3)) .no : PV T) (.slice none 0 0) := .sl 3 [] .no none 0 (fun _ _ => Go.undef) (by simp) (by simp) (by simp)
    exact ⟨rfl, hn⟩
  · have hl : (zs.take len).length = len := by simp; omega
    refine ⟨hl, ?_⟩
    have key : ∀ (l : List Int), l.length = len → l = zs.take len → RelD D w (fun b _ => b < w.heap.size) (.sl 3 l .no : PV T) (.slice (some x) l.length cap) := fun l e1 e2 => by
      refine RelD.sl (T := T) (D := D) 3 l .no (some x) cap (fun i _ => .int .i64 (zs.getD i 0)) (show l.length ≤ cap by omega) (fun i j y hi c hc => ?_) (fun i j y hi c hc => ?_)
      · have hi' : l[i]? = some y := hi
        have hlt : i < zs.length := by
          have := (List.getElem?_eq_some_iff.1 hi').1
          omega
        obtain ⟨b, off, rfl, hcell⟩ := ints_at h4 (by omega)
        have hc : ([.int .i64 y] : List (PV T))[j]? = some c := hc
        have hj : j = 0 := by
          cases j with
          | zero => rfl
          | succ j => simp at hc
        subst hj
        refine ⟨b, off, rfl, ?_, ?_⟩
        · have : off + i * D.sz 3 + 0 = off + i := by
            show off + i * 1 + 0 = off + i
            omega
          rw [this]
          exact hcell i hlt
        · have := hcell i hlt
          exact cell_lt this
      · have hi' : l[i]? = some y := hi
        have hc : ([.int .i64 y] : List (PV T))[j]? = some c := hc
        have hj : j = 0 := by
          cases j with
          | zero => rfl
          | succ j => simp at hc
        subst hj
        simp at hc
        subst hc
        have : zs.getD i 0 = y := by
          rw [e2, List.getElem?_take] at hi'
          split at hi'
          · rw [List.getD_eq_getElem?_getD, hi']; rfl
          · simp at hi'
        rw [this]
        exact .int .i64 y
    have := key (zs.take len) hl rfl
    rw [hl] at this
    exact this

theorem inRow_len {w : Go.World} {a : Option Addr} {len cap : Nat} {zs : List Int} (h : InRow w a len cap zs) : (zs.take len).length ≤ Go.maxLen := by
  rcases h with ⟨rfl, rfl, rfl, rfl⟩ | ⟨x, rfl, h1, h2, h3, h4, h5⟩
  · simp
  · simp; omega

theorem inRow_wf {w : Go.World} {a : Option Addr} {len cap : Nat} {zs : List Int} (h : InRow w a len cap zs) : ∀ n, n ∈ zs.take len → -9223372036854775808 ≤ n ∧ n ≤ 9223372036854775807 := by
  rcases h with ⟨rfl, rfl, rfl, rfl⟩ | ⟨x, rfl, h1, h2, h3, h4, h5⟩
  · simp
  · intro n hn
    have := h5 n (List.mem_of_mem_take hn)
    have hb := bounds_i64 this
    exact hb

theorem law_walk {fi : Nat} {F : List Int → Option Bool} (he : EntOK Try.prog D (mkEnt D fi [.val 22] [.val 4] F)) (hF : ∀ l : List Int, l.length ≤ Go.maxLen → (∀ n, n ∈ l → -9223372036854775808 ≤ n ∧ n ≤ 9223372036854775807) → F l = some true)
    (a : Option Addr) (len cap : Nat) (zs : List Int) (w : Go.World) (h : InRow w a len cap zs) :
    Calls Try.prog fi #[.slice a len cap] w fun e w' => e = .returned (.bool true) ∧ Below w.heap.size w w' := by
  obtain ⟨h1, h2⟩ := inRow_rel h
  have hF := hF _ (inRow_len h) (inRow_wf h)
  have hS : SpecOK Try.prog D (fun {_} _ _ _ _ => none) := ⟨fun f args obj k => rfl, fun f args obj v o' h => by simp at h⟩
  have hd : decArgs D (fun {_} _ _ _ _ => none) [.val 22] [.sl 3 (zs.take len) .no] = some (zs.take len) := rfl
  have hrun : (mkEnt D fi [.val 22] [.val 4] F).run (fun {_} _ _ _ _ => none) [.sl 3 (zs.take len) .no] [] (fun v o => some (v, o)) = some (.bool true, []) := by
    show ((decArgs D (fun {_} _ _ _ _ => none) [.val 22] [.sl 3 (zs.take len) .no]).bind fun x => (F x).bind fun y => resK D [.val 4] y fun v => some (v, [])) = some (.bool true, [])
    rw [hd]
    show ((F (zs.take len)).bind fun y => resK D [.val 4] y fun v => some (v, ([] : List (PV T)))) = some (.bool true, [])
    rw [hF]
    rfl
  have hc := he.ok _ hS _ _ _ _ hrun
  refine callsIn_wide.1 ((hc.run w (fun b _ => b < w.heap.size) noH none #[.slice a len cap] (fun b o h => h) (fun b x h => by simp at h) ⟨rfl, fun i c hi => ?_⟩ rfl).mono ?_)
  · cases i with
    | zero =>
      simp at hi
      subst hi
      exact .sl 3 _ .no _ h2 trivial
    | succ i => simp at hi
  · rintro e w' ⟨r, ok'', rfl, hf, hn, hr, _⟩
    refine ⟨?_, ⟨hf.os, hf.tape, hf.output, hf.size, fun k hk => hf.block k hk (by simp)⟩⟩
    have hr : RelR1 Try.prog D w.heap.size w' ok'' (.bool true : PV T) r := hr
    cases hr with
    | data _ _ _ hr => cases hr; rfl

end Go.Proofs.Bol
