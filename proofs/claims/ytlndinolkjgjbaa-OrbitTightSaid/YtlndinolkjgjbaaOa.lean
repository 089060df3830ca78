/-
  Proved here: the plain law.
  Conditions: those that the theorems name.
-/
import Derived.Test.YtlndinolkjgjbaaFn
import Derived.Test.YtlndinolkjgjbaaPh
set_option linter.all false
namespace Go.Proofs.Bol
open Go.Px

/-! ## The ring -/

theorem tmod_range {a b : Int} (ha : 0 ≤ a) (hb : 0 < b) : 0 ≤ Int.tmod a b ∧ Int.tmod a b < b := by
  rw [Int.tmod_eq_emod_of_nonneg ha]
  exact ⟨Int.emod_nonneg _ (by omega), Int.emod_lt_of_pos _ hb⟩

theorem mod_sat (x m : Int) (h1 : 0 < m) (h2 : m ≤ 4611686018427387904) : Sat (kit_Mod x m) fun r => 0 ≤ r ∧ r < m := by
  unfold kit_Mod
  refine Sat.dec (fun h => by omega) fun _ => Sat.dec (fun h => ?_) fun h => ?_
  · have h3 : -m < Int.tmod x m := by
      rcases Int.le_total 0 x with hx | hx
      · have := (tmod_range hx h1).1; omega
      · have e : x = -(-x) := by omega
        rw [e, Int.neg_tmod]
        have := (tmod_range (a := -x) (by omega) h1).2
        omega
    refine Sat.ret ?_
    rw [wrap_i64 (by omega) (by omega)]
    omega
  · refine Sat.ret ?_
    rcases Int.le_total 0 x with hx | hx
    · exact tmod_range hx h1
    · have e : x = -(-x) := by omega
      have h4 : Int.tmod x m = - Int.tmod (-x) m := by
        conv => lhs; rw [e, Int.neg_tmod]
      have := (tmod_range (a := -x) (by omega) h1)
      omega

theorem next_sat (o : Kit_Ring) (m : Int) (h0 : 0 ≤ o.at_) (h1 : o.at_ ≤ 1000000) (hm : 0 < m) (hl : (o.l.length : Int) ≤ 9223372036854775807) :
    Sat (kit_Ring_Next o m) fun r => r.1 = Kit_Ring.mk o.l (o.at_ + 1) ∧ 0 ≤ r.2 ∧ r.2 < m := by
  unfold kit_Ring_Next
  have ha : IntKind.wrap .i64 (o.at_ + 1) = o.at_ + 1 := wrap_i64 (by omega) (by omega)
  have hs : IntKind.wrap .i64 ((o.at_ + 1) * 7919) = (o.at_ + 1) * 7919 := wrap_i64 (by omega) (by omega)
  have ht := tmod_range (a := (o.at_ + 1) * 7919) (b := 10007) (by omega) (by omega)
  simp only [ha, hs]
  refine Sat.dec (fun h => Sat.dec (fun h => by omega) fun _ => ?_) fun _ => Sat.dec (fun h => by omega) fun _ => Sat.ret ⟨rfl, tmod_range ht.1 hm⟩
  have hi := tmod_range (a := o.at_ + 1) (b := (o.l.length : Int)) (by omega) h
  refine Sat.bind (Sat.idx hi.1 hi.2 (Q := fun _ => True) (fun _ _ => trivial)) fun x _ => ?_
  refine Sat.bind (mod_sat x 1048576 (by omega) (by omega)) fun r hr => ?_
  have hq0 : 0 ≤ Int.tdiv (o.at_ + 1) (o.l.length : Int) := Int.tdiv_nonneg (by omega) (by omega)
  have hq1 : Int.tdiv (o.at_ + 1) (o.l.length : Int) ≤ o.at_ + 1 := by
    rw [Int.tdiv_eq_ediv_of_nonneg (by omega)]
    exact Int.ediv_le_self _ (by omega)
  have hq : IntKind.wrap .i64 (Int.tdiv (o.at_ + 1) (o.l.length : Int)) = Int.tdiv (o.at_ + 1) (o.l.length : Int) := wrap_i64 (by omega) (by omega)
  rw [hq]
  have hq' : IntKind.wrap .i64 (1 + Int.tdiv (o.at_ + 1) (o.l.length : Int)) = 1 + Int.tdiv (o.at_ + 1) (o.l.length : Int) := wrap_i64 (by omega) (by omega)
  rw [hq']
  refine Sat.dec (fun h => by omega) fun _ => Sat.dec (fun h => by omega) fun _ => Sat.dec (fun h => by omega) fun _ => Sat.ret ⟨rfl, ?_⟩
  have hd0 : 0 ≤ Int.tdiv r (1 + Int.tdiv (o.at_ + 1) (o.l.length : Int)) := Int.tdiv_nonneg hr.1 (by omega)
  have hd1 : Int.tdiv r (1 + Int.tdiv (o.at_ + 1) (o.l.length : Int)) ≤ r := by
    rw [Int.tdiv_eq_ediv_of_nonneg hr.1]
    exact Int.ediv_le_self _ hr.1
  have hd : IntKind.wrap .i64 (Int.tdiv r (1 + Int.tdiv (o.at_ + 1) (o.l.length : Int))) = Int.tdiv r (1 + Int.tdiv (o.at_ + 1) (o.l.length : Int)) := wrap_i64 (by omega) (by omega)
  rw [hd, wrap_i64 (by omega) (by omega)]
  exact tmod_range (by omega) hm

/-- a ring over l that has not been asked more than n times -/
def Ring (l : List Int) (n : Int) (o : Kit_Ring) : Prop := o.l = l ∧ 0 ≤ o.at_ ∧ o.at_ ≤ n

theorem next_ring {l : List Int} {n : Int} {o : Kit_Ring} {m : Int} (h : Ring l n o) (hl : (l.length : Int) ≤ 9223372036854775807) (hn : n ≤ 1000000) (hm : 0 < m) :
    Sat (kit_Ring_Next o m) fun r => Ring l (n + 1) r.1 ∧ 0 ≤ r.2 ∧ r.2 < m := by
  obtain ⟨rfl, h1, h2⟩ := h
  refine (next_sat o m h1 (by omega) hm hl).mono ?_
  rintro ⟨r, x⟩ ⟨e, h3, h4⟩
  have e : r = _ := e
  subst e
  exact ⟨⟨rfl, by show 0 ≤ o.at_ + 1; omega, by show o.at_ + 1 ≤ n + 1; omega⟩, h3, h4⟩

theorem Ring.mk_self {l : List Int} {n : Int} {o : Kit_Ring} (h : Ring l n o) : Ring l n (Kit_Ring.mk o.l o.at_) := h

theorem Ring.le {l : List Int} {n m : Int} {o : Kit_Ring} (h : Ring l n o) (hm : n ≤ m) : Ring l m o := ⟨h.1, h.2.1, by have := h.2.2; omega⟩

theorem pointOf_ring {l : List Int} {n : Int} {o : Kit_Ring} {m : Int} (h : Ring l n o) (hl : (l.length : Int) ≤ 9223372036854775807) (hn : n ≤ 900000) (hm : 0 ≤ m) (hm' : m ≤ 1000000) :
    Sat (kit_PointOf o m) fun r => Ring l (n + 2) r.1 ∧ -m ≤ r.2.X ∧ r.2.X ≤ m ∧ -m ≤ r.2.Y ∧ r.2.Y ≤ m := by
  unfold kit_PointOf
  have e1 : IntKind.wrap .i64 (2 * m) = 2 * m := wrap_i64 (by omega) (by omega)
  have e2 : IntKind.wrap .i64 (2 * m + 1) = 2 * m + 1 := wrap_i64 (by omega) (by omega)
  rw [e1, e2]
  refine Sat.bind (next_ring h.mk_self hl (by omega) (by omega)) fun r1 h1 => ?_
  refine Sat.bind (next_ring h1.1 hl (by omega) (by omega)) fun r2 h2 => Sat.ret ?_
  have e3 : IntKind.wrap .i64 (r1.2 - m) = r1.2 - m := wrap_i64 (by omega) (by omega)
  have e4 : IntKind.wrap .i64 (r2.2 - m) = r2.2 - m := wrap_i64 (by omega) (by omega)
  simp only [e3, e4]
  exact ⟨h2.1.le (by omega), by omega, by omega, by omega, by omega⟩

end Go.Proofs.Bol

namespace Go.Proofs.Bol
open Go.Px

/-! ## What the kit makes -/

structure GenVec (v : Vec) (m : Int) : Prop where
  x0 : -m ≤ v.X
  x1 : v.X ≤ m
  y0 : -m ≤ v.Y
  y1 : v.Y ≤ m

structure GenBody (b : Body) : Prop where
  mu0 : 0 ≤ b.Mu
  mu1 : b.Mu < 1048576
  r0 : 0 ≤ b.Radius
  r1 : b.Radius < 50
  n0 : 1 ≤ b.Track.length
  n1 : b.Track.length ≤ 4
  vs : ∀ v, v ∈ b.Track → GenVec v 2000

structure GenWorld (w : World) : Prop where
  n0 : 1 ≤ w.Bodies.length
  n1 : w.Bodies.length ≤ 3
  bs : ∀ b, b ∈ w.Bodies → GenBody b
  h0 : 0 ≤ w.Home
  h1 : w.Home < (w.Bodies.length : Int)

structure GenSky (k : Sky) : Prop where
  w : GenWorld k.World
  s0 : 1 ≤ k.Stations.length
  s1 : k.Stations.length ≤ 3
  ss : ∀ x, x ∈ k.Stations → 1 ≤ x.ID ∧ x.ID ≤ 9 ∧ GenVec x.Off 40
  so : k.Stations.Pairwise fun a b => a.ID < b.ID
  c0 : 1 ≤ k.Catalogs.length
  c1 : k.Catalogs.length ≤ 3
  cs : ∀ x, x ∈ k.Catalogs → 1 ≤ x.Version ∧ x.Version ≤ 9 ∧ -10000 ≤ x.Bias.Lo ∧ x.Bias.Lo ≤ x.Bias.Hi ∧ x.Bias.Hi ≤ 20000
  co : k.Catalogs.Pairwise fun a b => a.Version < b.Version

theorem pairwise_snoc {α : Type} {R : α → α → Prop} {l : List α} {x : α} (h : l.Pairwise R) (hx : ∀ y, y ∈ l → R y x) : (l ++ [x]).Pairwise R := by
  rw [List.pairwise_append]
  exact ⟨h, by simp, fun a ha b hb => by simp at hb; subst hb; exact hx a ha⟩

theorem skyOf_sat {l : List Int} {o : Kit_Ring} (h : Ring l 0 o) (hl : (l.length : Int) ≤ 9223372036854775807) :
    Sat (kit_SkyOf o) fun r => Ring l 200 r.1 ∧ GenSky r.2 := by
  unfold kit_SkyOf
  refine Sat.bind (next_ring h.mk_self hl (by omega) (by omega)) fun r1 h1 => ?_
  have e1 : IntKind.wrap .i64 (1 + r1.2) = 1 + r1.2 := wrap_i64 (by omega) (by omega)
  rw [e1]
  refine Sat.loop (fun s : Int × Sky × Kit_Ring => 0 ≤ s.1 ∧ (s.2.1.World.Bodies.length : Int) + s.1 = 1 + r1.2 ∧ (∀ b, b ∈ s.2.1.World.Bodies → GenBody b) ∧ Ring l (1 + (3 - s.1) * 15) s.2.2 ∧ s.2.1.Stations = [] ∧ s.2.1.Catalogs = []) (fun s => s.1.toNat) (fun s hs => ?_) ⟨by omega, by simp, by simp, h1.1.le (by omega), rfl, rfl⟩
  obtain ⟨hs0, hs1, hs2, hs3, hs5, hs6⟩ := hs
  refine Sat.dec (fun hk => ?_) (fun hk => ?_)
  · refine Sat.bind (next_ring hs3 hl (by omega) (by omega)) fun r3 h3 => ?_
    refine Sat.bind (next_ring h3.1 hl (by omega) (by omega)) fun r4 h4 => ?_
    refine Sat.bind (next_ring h4.1 hl (by omega) (by omega)) fun r5 h5 => ?_
    have e5 : IntKind.wrap .i64 (1 + r5.2) = 1 + r5.2 := wrap_i64 (by omega) (by omega)
    rw [e5]
    refine Sat.loop (fun t : Int × Sky × Body × Kit_Ring => 0 ≤ t.1 ∧ t.2.1 = s.2.1 ∧ t.2.2.1.Mu = r3.2 ∧ t.2.2.1.Radius = r4.2 ∧ (t.2.2.1.Track.length : Int) + t.1 = 1 + r5.2 ∧ (∀ v, v ∈ t.2.2.1.Track → GenVec v 2000) ∧ Ring l (1 + (3 - s.1) * 15 + 3 + (4 - t.1) * 2) t.2.2.2) (fun t => t.1.toNat) (fun t ht => ?_) ⟨by omega, rfl, rfl, rfl, by simp, by simp, h5.1.le (by omega)⟩
    obtain ⟨ht0, ht1, ht2, ht3, ht4, ht5, ht6⟩ := ht
    refine Sat.dec (fun hj => ?_) (fun hj => ?_)
    · refine Sat.bind (pointOf_ring ht6 hl (by omega) (by omega) (by omega)) fun r7 h7 => ?_
      refine Sat.dec (fun _ => Sat.ret ?_) (fun hn => ?_)
      · have e7 : IntKind.wrap .i64 (t.1 - 1) = t.1 - 1 := wrap_i64 (by omega) (by omega)
        refine ⟨⟨by show 0 ≤ IntKind.wrap .i64 (t.1 - 1); omega, ht1, ht2, ht3, ?_, ?_, h7.1.le ?_⟩, ?_⟩
        · show ((t.2.2.1.Track ++ [r7.2]).length : Int) + IntKind.wrap .i64 (t.1 - 1) = 1 + r5.2
          rw [e7]; simp; omega
        · intro v hv
          have hv : v ∈ t.2.2.1.Track ++ [r7.2] := hv
          rcases List.mem_append.1 hv with hv | hv
          · exact ht5 v hv
          · simp at hv; subst hv; exact ⟨h7.2.1, h7.2.2.1, h7.2.2.2.1, h7.2.2.2.2⟩
        · show _ ≤ 1 + (3 - s.1) * 15 + 3 + (4 - IntKind.wrap .i64 (t.1 - 1)) * 2
          rw [e7]; omega
        · show (IntKind.wrap .i64 (t.1 - 1)).toNat < t.1.toNat
          rw [e7]; omega
      · exfalso
        apply hn
        have : (t.2.2.1.Track.length + [r7.2].length) * 16 ≤ 64 := by simp; omega
        exact Nat.le_trans this (by decide)
    · refine Sat.map (Sat.dec (fun _ => Sat.ret ?_) (fun hn => ?_))
      · have e7 : IntKind.wrap .i64 (s.1 - 1) = s.1 - 1 := wrap_i64 (by omega) (by omega)
        refine ⟨⟨by show 0 ≤ IntKind.wrap .i64 (s.1 - 1); omega, ?_, ?_, ht6.le ?_, by show t.2.1.Stations = []; rw [ht1]; exact hs5, by show t.2.1.Catalogs = []; rw [ht1]; exact hs6⟩, ?_⟩
        · show ((t.2.1.World.Bodies ++ [t.2.2.1]).length : Int) + IntKind.wrap .i64 (s.1 - 1) = 1 + r1.2
          rw [e7, ht1]; simp; omega
        · intro b hb
          have hb : b ∈ t.2.1.World.Bodies ++ [t.2.2.1] := hb
          rw [ht1] at hb
          rcases List.mem_append.1 hb with hb | hb
          · exact hs2 b hb
          · simp at hb; subst hb
            exact ⟨by omega, by omega, by omega, by omega, by omega, by omega, ht5⟩
        · show _ ≤ 1 + (3 - IntKind.wrap .i64 (s.1 - 1)) * 15
          rw [e7]; omega
        · show (IntKind.wrap .i64 (s.1 - 1)).toNat < s.1.toNat
          rw [e7]; omega
      · exfalso
        apply hn
        have : (t.2.1.World.Bodies.length + [t.2.2.1].length) * 40 ≤ 120 := by rw [ht1]; simp; omega
        exact Nat.le_trans this (by decide)
  · have hs4 : s.1 = 0 := by omega
    refine Sat.map ?_
    refine Sat.bind (next_ring hs3 hl (by omega) (by omega)) fun r8 h8 => ?_
    refine Sat.bind (next_ring h8.1 hl (by omega) (by omega)) fun r9 h9 => ?_
    have e9 : IntKind.wrap .i64 (1 + r9.2) = 1 + r9.2 := wrap_i64 (by omega) (by omega)
    rw [e9]
    have hW : GenWorld (World.mk s.2.1.World.Bodies r8.2) := ⟨by show 1 ≤ s.2.1.World.Bodies.length; omega, by show s.2.1.World.Bodies.length ≤ 3; omega, hs2, h8.2.1, h8.2.2⟩
    refine Sat.loop (fun t : Int × Int × Sky × Kit_Ring => 0 ≤ t.1 ∧ t.1 ≤ (3 - t.2.1) * 3 ∧ 0 ≤ t.2.1 ∧ t.2.1 ≤ 3 ∧ t.2.2.1.World = World.mk s.2.1.World.Bodies r8.2 ∧ (t.2.2.1.Stations.length : Int) + t.2.1 = 1 + r9.2 ∧ t.2.2.1.Catalogs = [] ∧ Ring l (50 + (3 - t.2.1) * 3) t.2.2.2 ∧ (∀ x, x ∈ t.2.2.1.Stations → 1 ≤ x.ID ∧ x.ID ≤ t.1 ∧ GenVec x.Off 40) ∧ t.2.2.1.Stations.Pairwise fun a b => a.ID < b.ID) (fun t => t.2.1.toNat) (fun t ht => ?_)
      ⟨by show (0 : Int) ≤ 0; omega, by show (0 : Int) ≤ (3 - (1 + r9.2)) * 3; omega, by show 0 ≤ 1 + r9.2; omega, by show 1 + r9.2 ≤ 3; omega, rfl, by show (s.2.1.Stations.length : Int) + (1 + r9.2) = 1 + r9.2; rw [hs5]; simp, hs6, h9.1.le (by show _ ≤ 50 + (3 - (1 + r9.2)) * 3; omega), by show ∀ x, x ∈ s.2.1.Stations → _; rw [hs5]; simp, by show s.2.1.Stations.Pairwise _; rw [hs5]; simp⟩
    obtain ⟨ht0, ht1, ht2, ht3, ht4, ht5, ht6, ht7, ht8, ht9⟩ := ht
    refine Sat.dec (fun hj => ?_) (fun hj => ?_)
    · refine Sat.bind (next_ring ht7 hl (by omega) (by omega)) fun r11 h11 => ?_
      refine Sat.bind (pointOf_ring h11.1 hl (by omega) (by omega) (by omega)) fun r12 h12 => ?_
      have e1 : IntKind.wrap .i64 (t.1 + 1) = t.1 + 1 := wrap_i64 (by omega) (by omega)
      have e2 : IntKind.wrap .i64 (t.1 + 1 + r11.2) = t.1 + 1 + r11.2 := wrap_i64 (by omega) (by omega)
      have e3 : IntKind.wrap .i64 (t.2.1 - 1) = t.2.1 - 1 := wrap_i64 (by omega) (by omega)
      simp only [e1, e2, e3]
      refine Sat.dec (fun _ => Sat.ret ?_) (fun hn => ?_)
      · refine ⟨⟨by show 0 ≤ t.1 + 1 + r11.2; omega, by show t.1 + 1 + r11.2 ≤ (3 - (t.2.1 - 1)) * 3; omega, by show 0 ≤ t.2.1 - 1; omega, by show t.2.1 - 1 ≤ 3; omega, ht4, ?_, ht6, h12.1.le (by show _ ≤ 50 + (3 - (t.2.1 - 1)) * 3; omega), ?_, ?_⟩, ?_⟩
        · show ((t.2.2.1.Stations ++ [Station.mk (t.1 + 1 + r11.2) r12.2]).length : Int) + (t.2.1 - 1) = 1 + r9.2
          simp; omega
        · intro x hx
          have hx : x ∈ t.2.2.1.Stations ++ [Station.mk (t.1 + 1 + r11.2) r12.2] := hx
          show 1 ≤ x.ID ∧ x.ID ≤ t.1 + 1 + r11.2 ∧ GenVec x.Off 40
          rcases List.mem_append.1 hx with hx | hx
          · have := ht8 x hx
            exact ⟨this.1, by omega, this.2.2⟩
          · simp at hx; subst hx
            exact ⟨by show 1 ≤ t.1 + 1 + r11.2; omega, Int.le_refl _, ⟨h12.2.1, h12.2.2.1, h12.2.2.2.1, h12.2.2.2.2⟩⟩
        · exact pairwise_snoc ht9 fun y hy => by
            have := ht8 y hy
            show y.ID < t.1 + 1 + r11.2
            omega
        · show (t.2.1 - 1).toNat < t.2.1.toNat
          omega
      · exfalso
        apply hn
        have : (t.2.2.1.Stations.length + [Station.mk (t.1 + 1 + r11.2) r12.2].length) * 24 ≤ 72 := by simp; omega
        exact Nat.le_trans this (by decide)
    · have ht10 : t.2.1 = 0 := by omega
      refine Sat.map ?_
      refine Sat.bind (next_ring ht7 hl (by omega) (by omega)) fun r13 h13 => ?_
      have e9 : IntKind.wrap .i64 (1 + r13.2) = 1 + r13.2 := wrap_i64 (by omega) (by omega)
      rw [e9]
      refine Sat.loop (fun u : Int × Int × Sky × Kit_Ring => 0 ≤ u.1 ∧ u.1 ≤ (3 - u.2.1) * 3 ∧ 0 ≤ u.2.1 ∧ u.2.1 ≤ 3 ∧ u.2.2.1.World = World.mk s.2.1.World.Bodies r8.2 ∧ u.2.2.1.Stations = t.2.2.1.Stations ∧ (u.2.2.1.Catalogs.length : Int) + u.2.1 = 1 + r13.2 ∧ Ring l (100 + (3 - u.2.1) * 4) u.2.2.2 ∧ (∀ x, x ∈ u.2.2.1.Catalogs → 1 ≤ x.Version ∧ x.Version ≤ u.1 ∧ -10000 ≤ x.Bias.Lo ∧ x.Bias.Lo ≤ x.Bias.Hi ∧ x.Bias.Hi ≤ 20000) ∧ u.2.2.1.Catalogs.Pairwise fun a b => a.Version < b.Version) (fun u => u.2.1.toNat) (fun u hu => ?_)
        ⟨by show (0 : Int) ≤ 0; omega, by show (0 : Int) ≤ (3 - (1 + r13.2)) * 3; omega, by show 0 ≤ 1 + r13.2; omega, by show 1 + r13.2 ≤ 3; omega, ht4, rfl, by show (t.2.2.1.Catalogs.length : Int) + (1 + r13.2) = 1 + r13.2; rw [ht6]; simp, h13.1.le (by show _ ≤ 100 + (3 - (1 + r13.2)) * 4; omega), by show ∀ x, x ∈ t.2.2.1.Catalogs → _; rw [ht6]; simp, by show t.2.2.1.Catalogs.Pairwise _; rw [ht6]; simp⟩
      obtain ⟨hu0, hu1, hu2, hu3, hu4, hu5, hu6, hu7, hu8, hu9⟩ := hu
      refine Sat.dec (fun hj => ?_) (fun hj => ?_)
      · refine Sat.bind (next_ring hu7 hl (by omega) (by omega)) fun r15 h15 => ?_
        refine Sat.bind (next_ring h15.1 hl (by omega) (by omega)) fun r16 h16 => ?_
        refine Sat.bind (next_ring h16.1 hl (by omega) (by omega)) fun r17 h17 => ?_
        refine Sat.bind (next_ring h17.1 hl (by omega) (by omega)) fun r18 h18 => ?_
        have hp : 0 ≤ r17.2 * r18.2 ∧ r17.2 * r18.2 ≤ 10000 := by
          have h1 : r17.2 = 0 ∨ r17.2 = 1 ∨ r17.2 = 2 := by omega
          rcases h1 with h1 | h1 | h1 <;> rw [h1] <;> omega
        have e1 : IntKind.wrap .i64 (u.1 + 1) = u.1 + 1 := wrap_i64 (by omega) (by omega)
        have e2 : IntKind.wrap .i64 (u.1 + 1 + r15.2) = u.1 + 1 + r15.2 := wrap_i64 (by omega) (by omega)
        have e3 : IntKind.wrap .i64 (u.2.1 - 1) = u.2.1 - 1 := wrap_i64 (by omega) (by omega)
        have e4 : IntKind.wrap .i64 (r16.2 - 10000) = r16.2 - 10000 := wrap_i64 (by omega) (by omega)
        have e5 : IntKind.wrap .i64 (r17.2 * r18.2) = r17.2 * r18.2 := wrap_i64 (by omega) (by omega)
        have e6 : IntKind.wrap .i64 (r16.2 - 10000 + r17.2 * r18.2) = r16.2 - 10000 + r17.2 * r18.2 := wrap_i64 (by omega) (by omega)
        simp only [e1, e2, e3, e4, e5, e6]
        refine Sat.dec (fun _ => Sat.ret ?_) (fun hn => ?_)
        · refine ⟨⟨by show 0 ≤ u.1 + 1 + r15.2; omega, by show u.1 + 1 + r15.2 ≤ (3 - (u.2.1 - 1)) * 3; omega, by show 0 ≤ u.2.1 - 1; omega, by show u.2.1 - 1 ≤ 3; omega, hu4, hu5, ?_, h18.1.le (by show _ ≤ 100 + (3 - (u.2.1 - 1)) * 4; omega), ?_, ?_⟩, ?_⟩
          · show ((u.2.2.1.Catalogs ++ [Catalog.mk (u.1 + 1 + r15.2) (Span.mk (r16.2 - 10000) (r16.2 - 10000 + r17.2 * r18.2))]).length : Int) + (u.2.1 - 1) = 1 + r13.2
            simp; omega
          · intro x hx
            have hx : x ∈ u.2.2.1.Catalogs ++ [Catalog.mk (u.1 + 1 + r15.2) (Span.mk (r16.2 - 10000) (r16.2 - 10000 + r17.2 * r18.2))] := hx
            show 1 ≤ x.Version ∧ x.Version ≤ u.1 + 1 + r15.2 ∧ _
            rcases List.mem_append.1 hx with hx | hx
            · have := hu8 x hx
              exact ⟨this.1, by omega, this.2.2⟩
            · simp at hx; subst hx
              refine ⟨?_, Int.le_refl _, ?_, ?_, ?_⟩
              · show 1 ≤ u.1 + 1 + r15.2; omega
              · show -10000 ≤ r16.2 - 10000; omega
              · show r16.2 - 10000 ≤ r16.2 - 10000 + r17.2 * r18.2; omega
              · show r16.2 - 10000 + r17.2 * r18.2 ≤ 20000; omega
          · exact pairwise_snoc hu9 fun y hy => by
              have := hu8 y hy
              show y.Version < u.1 + 1 + r15.2
              omega
          · show (u.2.1 - 1).toNat < u.2.1.toNat
            omega
        · exfalso
          apply hn
          have : (u.2.2.1.Catalogs.length + [Catalog.mk (u.1 + 1 + r15.2) (Span.mk (r16.2 - 10000) (r16.2 - 10000 + r17.2 * r18.2))].length) * 24 ≤ 72 := by simp; omega
          exact Nat.le_trans this (by decide)
      · have hu10 : u.2.1 = 0 := by omega
        refine Sat.map (Sat.ret ⟨hu7.le (by omega), ?_, ?_, ?_, ?_, ?_, ?_, ?_, ?_, hu9⟩)
        · show GenWorld u.2.2.1.World
          rw [hu4]; exact hW
        · show 1 ≤ u.2.2.1.Stations.length
          rw [hu5]; omega
        · show u.2.2.1.Stations.length ≤ 3
          rw [hu5]; omega
        · show ∀ x, x ∈ u.2.2.1.Stations → _
          rw [hu5]
          intro x hx
          have := ht8 x hx
          exact ⟨this.1, by omega, this.2.2⟩
        · show u.2.2.1.Stations.Pairwise _
          rw [hu5]; exact ht9
        · show 1 ≤ u.2.2.1.Catalogs.length
          omega
        · show u.2.2.1.Catalogs.length ≤ 3
          omega
        · intro x hx
          have := hu8 x hx
          exact ⟨this.1, by omega, this.2.2⟩

end Go.Proofs.Bol

namespace Go.Proofs.Bol
open Go.Px

structure GenDrift (d : Drift) : Prop where
  l0 : 0 ≤ d.Light.Lo
  l1 : d.Light.Lo ≤ d.Light.Hi
  l2 : d.Light.Hi ≤ 4
  h0 : -3 ≤ d.Heat.Lo
  h1 : d.Heat.Lo ≤ d.Heat.Hi
  h2 : d.Heat.Hi ≤ 3
  g0 : 0 ≤ d.Gas
  g1 : d.Gas ≤ 2

structure GenBox (b : Box) : Prop where
  x0 : -2800 ≤ b.X.Lo
  x1 : b.X.Lo ≤ b.X.Hi
  x2 : b.X.Hi ≤ 3300
  y0 : -2800 ≤ b.Y.Lo
  y1 : b.Y.Lo ≤ b.Y.Hi
  y2 : b.Y.Hi ≤ 3300
  u0 : -50 ≤ b.U.Lo
  u1 : b.U.Lo ≤ b.U.Hi
  u2 : b.U.Hi ≤ 60
  v0 : -50 ≤ b.V.Lo
  v1 : b.V.Lo ≤ b.V.Hi
  v2 : b.V.Hi ≤ 60

structure InBox (s : State) (b : Box) : Prop where
  x0 : b.X.Lo ≤ s.X
  x1 : s.X ≤ b.X.Hi
  y0 : b.Y.Lo ≤ s.Y
  y1 : s.Y ≤ b.Y.Hi
  u0 : b.U.Lo ≤ s.U
  u1 : s.U ≤ b.U.Hi
  v0 : b.V.Lo ≤ s.V
  v1 : s.V ≤ b.V.Hi

theorem gasOf_sat {l : List Int} {n : Int} {o : Kit_Ring} (h : Ring l n o) (hl : (l.length : Int) ≤ 9223372036854775807) (hn : n ≤ 100000) :
    Sat (kit_GasOf o) fun r => Ring l (n + 5) r.1 ∧ GenDrift r.2 := by
  unfold kit_GasOf
  refine Sat.bind (next_ring h.mk_self hl (by omega) (by omega)) fun r1 h1 => ?_
  refine Sat.bind (next_ring h1.1 hl (by omega) (by omega)) fun r2 h2 => ?_
  refine Sat.bind (next_ring h2.1 hl (by omega) (by omega)) fun r3 h3 => ?_
  refine Sat.bind (next_ring h3.1 hl (by omega) (by omega)) fun r4 h4 => ?_
  refine Sat.bind (next_ring h4.1 hl (by omega) (by omega)) fun r5 h5 => Sat.ret ?_
  have e1 : IntKind.wrap .i64 (r1.2 + r2.2) = r1.2 + r2.2 := wrap_i64 (by omega) (by omega)
  have e2 : IntKind.wrap .i64 (r3.2 - 3) = r3.2 - 3 := wrap_i64 (by omega) (by omega)
  have e3 : IntKind.wrap .i64 (r3.2 - 3 + r4.2) = r3.2 - 3 + r4.2 := wrap_i64 (by omega) (by omega)
  simp only [e1, e2, e3]
  refine ⟨h5.1.le (by omega), ?_, ?_, ?_, ?_, ?_, ?_, ?_, ?_⟩ <;> simp only <;> omega

theorem boxOf_sat {l : List Int} {n : Int} {o : Kit_Ring} (h : Ring l n o) (hl : (l.length : Int) ≤ 9223372036854775807) (hn : n ≤ 100000) :
    Sat (kit_BoxOf o) fun r => Ring l (n + 9) r.1 ∧ GenBox r.2 := by
  unfold kit_BoxOf
  refine Sat.bind (pointOf_ring h.mk_self hl (by omega) (by omega) (by omega)) fun r1 h1 => ?_
  refine Sat.bind (pointOf_ring h1.1 hl (by omega) (by omega) (by omega)) fun r2 h2 => ?_
  refine Sat.bind (next_ring h2.1 hl (by omega) (by omega)) fun r3 h3 => ?_
  refine Sat.bind (next_ring h3.1 hl (by omega) (by omega)) fun r4 h4 => ?_
  refine Sat.bind (next_ring h4.1 hl (by omega) (by omega)) fun r5 h5 => ?_
  refine Sat.bind (next_ring h5.1 hl (by omega) (by omega)) fun r6 h6 => ?_
  refine Sat.bind (next_ring h6.1 hl (by omega) (by omega)) fun r7 h7 => Sat.ret ?_
  have hp : 0 ≤ r3.2 * r4.2 ∧ r3.2 * r4.2 ≤ 400 := by
    have h1 : r3.2 = 0 ∨ r3.2 = 1 ∨ r3.2 = 2 := by omega
    rcases h1 with h1 | h1 | h1 <;> rw [h1] <;> omega
  have e1 : IntKind.wrap .i64 (r3.2 * r4.2) = r3.2 * r4.2 := wrap_i64 (by omega) (by omega)
  have e2 : IntKind.wrap .i64 (r1.2.X + r3.2 * r4.2) = r1.2.X + r3.2 * r4.2 := wrap_i64 (by omega) (by omega)
  have e3 : IntKind.wrap .i64 (r1.2.Y + r6.2) = r1.2.Y + r6.2 := wrap_i64 (by omega) (by omega)
  have e4 : IntKind.wrap .i64 (r2.2.X + r5.2) = r2.2.X + r5.2 := wrap_i64 (by omega) (by omega)
  have e5 : IntKind.wrap .i64 (r2.2.Y + r7.2) = r2.2.Y + r7.2 := wrap_i64 (by omega) (by omega)
  simp only [e1, e2, e3, e4, e5]
  refine ⟨h7.1.le (by omega), ?_, ?_, ?_, ?_, ?_, ?_, ?_, ?_, ?_, ?_, ?_, ?_⟩ <;> simp only <;> omega

theorem func4_sat {l : List Int} {n : Int} {o : Kit_Ring} (h : Ring l n o) (hl : (l.length : Int) ≤ 9223372036854775807) (hn : n ≤ 100000) :
    Sat (kit_func4 o) fun r => Ring l (n + 8) r.1 := by
  unfold kit_func4
  refine Sat.bind (next_ring h.mk_self hl (by omega) (by omega)) fun r1 h1 => Sat.bind (next_ring h1.1 hl (by omega) (by omega)) fun r2 h2 => Sat.dec (fun c2 => ?_) (fun c2 => ?_)
  all_goals refine Sat.bind (next_ring h2.1 hl (by omega) (by omega)) fun r3 h3 => Sat.bind (next_ring h3.1 hl (by omega) (by omega)) fun r4 h4 => Sat.dec (fun c4 => ?_) (fun c4 => ?_)
  all_goals refine Sat.bind (next_ring h4.1 hl (by omega) (by omega)) fun r5 h5 => Sat.bind (next_ring h5.1 hl (by omega) (by omega)) fun r6 h6 => Sat.dec (fun c6 => ?_) (fun c6 => ?_)
  all_goals refine Sat.bind (next_ring h6.1 hl (by omega) (by omega)) fun r7 h7 => Sat.bind (next_ring h7.1 hl (by omega) (by omega)) fun r8 h8 => Sat.dec (fun c8 => ?_) (fun c8 => ?_)
  all_goals exact Sat.ret (h8.1.le (by omega))

theorem mod64_sat (x m : Int) (h1 : 0 < m) (h2 : m ≤ 4611686018427387904) : Sat (kit_Mod64 x m) fun r => 0 ≤ r ∧ r < m := mod_sat x m h1 h2

theorem inSpan_sat {a : Span} {x : Int} (h0 : a.Lo ≤ a.Hi) (h1 : -1000000000 ≤ a.Lo) (h2 : a.Hi ≤ 1000000000) : Sat (kit_InSpan a x) fun r => a.Lo ≤ r ∧ r ≤ a.Hi := by
  unfold kit_InSpan
  have e1 : IntKind.wrap .i64 (a.Hi - a.Lo) = a.Hi - a.Lo := wrap_i64 (by omega) (by omega)
  have e2 : IntKind.wrap .i64 (a.Hi - a.Lo + 1) = a.Hi - a.Lo + 1 := wrap_i64 (by omega) (by omega)
  rw [e1, e2]
  refine Sat.bind (mod64_sat x _ (by omega) (by omega)) fun r hr => Sat.ret ?_
  rw [wrap_i64 (by omega) (by omega)]
  omega

theorem stateIn_sat {l : List Int} {n : Int} {o : Kit_Ring} {b : Box} (h : Ring l n o) (hl : (l.length : Int) ≤ 9223372036854775807) (hn : n ≤ 100000) (hb : GenBox b) :
    Sat (kit_StateIn o b) fun r => Ring l (n + 8) r.1 ∧ InBox r.2 b := by
  unfold kit_StateIn
  have := hb.x0; have := hb.x1; have := hb.x2; have := hb.y0; have := hb.y1; have := hb.y2
  have := hb.u0; have := hb.u1; have := hb.u2; have := hb.v0; have := hb.v1; have := hb.v2
  refine Sat.bind (func4_sat h.mk_self hl (by omega)) fun r1 h1 => ?_
  refine Sat.bind (inSpan_sat hb.x1 (by omega) (by omega)) fun r2 h2 => ?_
  refine Sat.bind (inSpan_sat hb.y1 (by omega) (by omega)) fun r3 h3 => ?_
  refine Sat.bind (inSpan_sat hb.u1 (by omega) (by omega)) fun r4 h4 => ?_
  refine Sat.bind (inSpan_sat hb.v1 (by omega) (by omega)) fun r5 h5 => Sat.ret ?_
  exact ⟨h1, h2.1, h2.2, h3.1, h3.2, h4.1, h4.2, h5.1, h5.2⟩

theorem made_sat {l : List Int} (hl : (l.length : Int) ≤ 9223372036854775807) :
    Sat (law04_made l) fun r => GenSky r.2.1 ∧ GenDrift r.2.2.1 ∧ GenBox r.2.2.2.1 ∧ InBox r.2.2.2.2 r.2.2.2.1 := by
  unfold law04_made
  refine Sat.bind (Q := fun o => Ring l 0 o) (Sat.ret ⟨rfl, Int.le_refl _, Int.le_refl _⟩) fun r1 h1 => ?_
  refine Sat.bind (skyOf_sat h1 hl) fun r2 h2 => ?_
  refine Sat.bind (gasOf_sat h2.1 hl (by omega)) fun r3 h3 => ?_
  refine Sat.bind (boxOf_sat h3.1 hl (by omega)) fun r4 h4 => ?_
  refine Sat.bind (stateIn_sat h4.1 hl (by omega) h4.2) fun r5 h5 => Sat.ret ?_
  exact ⟨h2.2, h3.2, h4.2, h5.2⟩

end Go.Proofs.Bol

namespace Go.Proofs.Bol
open Go.Px

/-! ## What is made is valid -/

theorem sky_within_eq (a lo hi : Int) : sky_within a lo hi = some (decide (lo ≤ a) && decide (a ≤ hi)) := by
  unfold sky_within
  cases decide (lo ≤ a) <;> rfl

theorem force_within_eq (a lo hi : Int) : force_within a lo hi = some (decide (lo ≤ a) && decide (a ≤ hi)) := sky_within_eq a lo hi
theorem orbit_within_eq (a lo hi : Int) : orbit_within a lo hi = some (decide (lo ≤ a) && decide (a ≤ hi)) := sky_within_eq a lo hi
theorem span_within_eq (a lo hi : Int) : span_within a lo hi = some (decide (lo ≤ a) && decide (a ≤ hi)) := sky_within_eq a lo hi

theorem within_true {a lo hi : Int} (h1 : lo ≤ a) (h2 : a ≤ hi) : (decide (lo ≤ a) && decide (a ≤ hi)) = true := by simp [h1, h2]

theorem indexNone {l : List Vec} {f : Vec → Option Bool} (hl : (l.length : Int) ≤ 1000000) (hf : ∀ x, x ∈ l → f x = some false) : Sat (sl_IndexFunc_Vec l f) fun r => r = -1 := by
  unfold sl_IndexFunc_Vec
  refine Sat.loop (fun s : Int × Int => 0 ≤ s.2 ∧ s.2 ≤ (l.length : Int)) (fun s => (l.length - s.2.toNat)) (fun s hs => ?_) ⟨Int.le_refl _, by show (0 : Int) ≤ _; omega⟩
  refine Sat.dec (fun h => ?_) (fun h => Sat.map (Sat.ret rfl))
  refine Sat.bind (Sat.idx hs.1 h hf) fun x hx => ?_
  rw [hx]
  refine Sat.bind (Q := fun b => b = false) (Sat.ret rfl) fun b hb => ?_
  subst hb
  have e : IntKind.wrap .i64 (s.2 + 1) = s.2 + 1 := wrap_i64 (by omega) (by omega)
  refine Sat.ret ⟨⟨?_, ?_⟩, ?_⟩
  · show 0 ≤ IntKind.wrap .i64 (s.2 + 1)
    omega
  · show IntKind.wrap .i64 (s.2 + 1) ≤ _
    omega
  · show l.length - (IntKind.wrap .i64 (s.2 + 1)).toNat < l.length - s.2.toNat
    omega

theorem near_eq {v : Vec} {m n : Int} (h : GenVec v m) (hmn : m ≤ n) (hn : n ≤ 1000000000) : sky_near v n = some true := by
  have := h.x0; have := h.x1; have := h.y0; have := h.y1
  unfold sky_near
  rw [wrap_i64 (n := 0 - n) (by omega) (by omega), sky_within_eq, sky_within_eq, within_true (by omega) (by omega), within_true (by omega) (by omega)]
  rfl

theorem checkBody_gen {b : Body} (h : GenBody b) : Sat (sky_checkBody b) fun r => r = 0 := by
  have := h.mu0; have := h.mu1; have := h.r0; have := h.r1; have := h.n0; have := h.n1
  unfold sky_checkBody
  rw [sky_within_eq, within_true (by omega) (by omega), sky_within_eq, within_true (by omega) (by omega)]
  show Sat (cond (decide ((b.Track.length : Int) = 0)) (some 6) _) _
  refine Sat.dec (fun h => by omega) fun _ => Sat.dec (fun h => by omega) fun _ => ?_
  refine Sat.bind (Q := fun x => x = false) ?_ fun x hx => ?_
  · unfold sl_ContainsFunc_Vec
    refine Sat.bind (indexNone (by omega) fun x hx => ?_) fun r hr => Sat.ret ?_
    · unfold sky_checkBody_c1
      rw [near_eq (h.vs x hx) (by omega) (by omega)]
      rfl
    · subst hr
      rfl
  · subst hx
    exact Sat.ret rfl

theorem checkWorld_gen {w : World} (h : GenWorld w) : Sat (sky_CheckWorld w) fun r => r = 0 := by
  have := h.n0; have := h.n1; have := h.h0; have := h.h1
  unfold sky_CheckWorld
  refine Sat.dec (fun h => by omega) fun _ => Sat.dec (fun h => by omega) fun _ => ?_
  refine Sat.loop (fun s : Int × Int => 0 ≤ s.2 ∧ s.2 ≤ (w.Bodies.length : Int)) (fun s => (w.Bodies.length - s.2.toNat)) (fun s hs => ?_) ⟨Int.le_refl _, by show (0 : Int) ≤ _; omega⟩
  refine Sat.dec (fun hlt => ?_) (fun hge => ?_)
  · refine Sat.bind (Sat.idx hs.1 hlt h.bs) fun x hx => ?_
    refine Sat.bind (checkBody_gen hx) fun r hr => ?_
    subst hr
    have e : IntKind.wrap .i64 (s.2 + 1) = s.2 + 1 := wrap_i64 (by omega) (by omega)
    refine Sat.ret ⟨⟨?_, ?_⟩, ?_⟩
    · show 0 ≤ IntKind.wrap .i64 (s.2 + 1)
      omega
    · show IntKind.wrap .i64 (s.2 + 1) ≤ _
      omega
    · show w.Bodies.length - (IntKind.wrap .i64 (s.2 + 1)).toNat < w.Bodies.length - s.2.toNat
      omega
  · exact Sat.map (Sat.dec (fun h => by omega) fun _ => Sat.dec (fun h => by omega) fun _ => Sat.ret rfl)

theorem checkDrift_gen {d : Drift} (h : GenDrift d) : Sat (force_CheckDrift d) fun r => r = 0 := by
  have := h.l0; have := h.l1; have := h.l2; have := h.h0; have := h.h1; have := h.h2; have := h.g0; have := h.g1
  unfold force_CheckDrift force_bounded
  refine Sat.bind (Q := fun x => x = 0) (Sat.dec (fun h => by omega) fun _ => Sat.dec (fun h => by omega) fun _ => Sat.dec (fun h => by omega) fun _ => Sat.ret rfl) fun r hr => ?_
  subst hr
  refine Sat.ndec (fun h => absurd rfl h) fun _ => ?_
  refine Sat.bind (Q := fun x => x = 0) (Sat.dec (fun h => by omega) fun _ => Sat.dec (fun h => by omega) fun _ => Sat.dec (fun h => by omega) fun _ => Sat.ret rfl) fun r hr => ?_
  subst hr
  refine Sat.ndec (fun h => absurd rfl h) fun _ => ?_
  rw [force_within_eq, within_true (by omega) (by omega)]
  exact Sat.bind (Q := fun x => x = true) (Sat.ret rfl) fun x hx => by subst hx; exact Sat.ret rfl

theorem orbitWorld_gen {w : World} {d : Drift} (hw : GenWorld w) (hd : GenDrift d) : orbit_checkWorld w d = some 0 := by
  have : Sat (orbit_checkWorld w d) fun r => r = 0 := by
    unfold orbit_checkWorld
    refine Sat.bind (checkWorld_gen hw) fun r hr => ?_
    subst hr
    refine Sat.ndec (fun h => absurd rfl h) fun _ => ?_
    exact Sat.bind (checkDrift_gen hd) fun r hr => Sat.ret hr
  obtain ⟨r, h, rfl⟩ := this
  exact h

theorem checkState_eq {s : State} (h0 : -33554432 ≤ s.X) (h1 : s.X ≤ 33554432) (h2 : -33554432 ≤ s.Y) (h3 : s.Y ≤ 33554432) (h4 : -1048576 ≤ s.U) (h5 : s.U ≤ 1048576) (h6 : -1048576 ≤ s.V) (h7 : s.V ≤ 1048576) : orbit_CheckState s = some 0 := by
  unfold orbit_CheckState
  rw [orbit_within_eq, orbit_within_eq, orbit_within_eq, orbit_within_eq, within_true h0 h1, within_true h2 h3, within_true h4 h5, within_true h6 h7]
  rfl

theorem checkState_sat (s : State) : Sat (orbit_CheckState s) fun r => (r = 0 ∨ r = 2) ∧ (r = 0 → -33554432 ≤ s.X ∧ s.X ≤ 33554432 ∧ -33554432 ≤ s.Y ∧ s.Y ≤ 33554432 ∧ -1048576 ≤ s.U ∧ s.U ≤ 1048576 ∧ -1048576 ≤ s.V ∧ s.V ≤ 1048576) := by
  unfold orbit_CheckState
  rw [orbit_within_eq, orbit_within_eq, orbit_within_eq, orbit_within_eq]
  have key : ∀ {a lo hi : Int} {x y : Option Int} {Q : Int → Prop}, (lo ≤ a ∧ a ≤ hi → Sat x Q) → Sat y Q → Sat ((some (decide (lo ≤ a) && decide (a ≤ hi))).bind fun r => cond r x y) Q := fun h k => by
    refine Sat.cond (fun e => h ?_) (fun _ => k)
    simpa using e
  have no : Sat (some (2 : Int)) fun r => (r = 0 ∨ r = 2) ∧ (r = 0 → -33554432 ≤ s.X ∧ s.X ≤ 33554432 ∧ -33554432 ≤ s.Y ∧ s.Y ≤ 33554432 ∧ -1048576 ≤ s.U ∧ s.U ≤ 1048576 ∧ -1048576 ≤ s.V ∧ s.V ≤ 1048576) := Sat.ret ⟨.inr rfl, by omega⟩
  refine key (fun h1 => key (fun h2 => key (fun h3 => key (fun h4 => Sat.ret ⟨.inl rfl, fun _ => ?_⟩) no) no) no) no
  omega

end Go.Proofs.Bol

namespace Go.Proofs.Bol
open Go.Px

/-! ## Spans: what comes out fits -/

def Fit (n : Int) : Prop := -1152921504606846976 ≤ n ∧ n ≤ 1152921504606846976
def FitS (a : Span) : Prop := Fit a.Lo ∧ Fit a.Hi

theorem fit0 : FitS (Span.mk 0 0) := ⟨⟨by decide, by decide⟩, ⟨by decide, by decide⟩⟩

theorem span_fits_sat (a : Int) : Sat (span_fits a) fun r => r = true → Fit a := by
  unfold span_fits
  rw [span_within_eq]
  refine Sat.ret fun h => ?_
  simpa [Fit] using h

theorem span_fits_true {a : Int} (h : Fit a) : span_fits a = some true := by
  unfold span_fits
  rw [span_within_eq, within_true h.1 h.2]
  rfl

theorem span_Check_sat (a : Span) : Sat (span_Check a) fun r => r = 0 → FitS a ∧ a.Lo ≤ a.Hi := by
  unfold span_Check
  refine Sat.bind (span_fits_sat a.Lo) fun r1 h1 => ?_
  cases r1 with
  | false => exact Sat.ret fun h => by omega
  | true =>
    refine Sat.bind (span_fits_sat a.Hi) fun r2 h2 => ?_
    cases r2 with
    | false => exact Sat.ret fun h => by omega
    | true => exact Sat.dec (fun _ => Sat.ret fun h => by omega) fun h => Sat.ret fun _ => ⟨⟨h1 rfl, h2 rfl⟩, by omega⟩

theorem span_Check_ok {a : Span} (h : FitS a) (hl : a.Lo ≤ a.Hi) : span_Check a = some 0 := by
  unfold span_Check
  rw [span_fits_true h.1, span_fits_true h.2]
  have : decide (a.Hi < a.Lo) = false := decide_eq_false (by omega)
  show cond (decide (a.Hi < a.Lo)) (some 11) (some 0) = some 0
  rw [this]
  rfl

theorem span_valid_sat (a b : Span) : Sat (span_valid a b) fun r => r = 0 → (FitS a ∧ a.Lo ≤ a.Hi) ∧ FitS b ∧ b.Lo ≤ b.Hi := by
  unfold span_valid
  refine Sat.bind (span_Check_sat a) fun r1 h1 => Sat.ndec (fun h => Sat.ret fun e => absurd e h) fun h => ?_
  exact Sat.bind (span_Check_sat b) fun r2 h2 => Sat.ret fun e => ⟨h1 h, h2 e⟩

theorem span_ends_sat (a b : Int) : Sat (span_ends a b) fun r => FitS r.1 := by
  unfold span_ends
  refine Sat.bind (span_fits_sat a) fun r1 h1 => ?_
  cases r1 with
  | false => exact Sat.ret fit0
  | true =>
    refine Sat.bind (span_fits_sat b) fun r2 h2 => ?_
    cases r2 with
    | false => exact Sat.ret fit0
    | true => exact Sat.ret ⟨h1 rfl, h2 rfl⟩

theorem span_Add_sat (a b : Span) : Sat (span_Add a b) fun r => FitS r.1 := by
  unfold span_Add
  refine Sat.bind (span_valid_sat a b) fun r1 h1 => Sat.ndec (fun h => Sat.ret fit0) fun h => ?_
  exact Sat.bind (span_ends_sat _ _) fun r2 h2 => Sat.ret h2

theorem span_Sub_sat (a b : Span) : Sat (span_Sub a b) fun r => FitS r.1 := by
  unfold span_Sub
  refine Sat.bind (span_valid_sat a b) fun r1 h1 => Sat.ndec (fun h => Sat.ret fit0) fun h => ?_
  exact Sat.bind (span_ends_sat _ _) fun r2 h2 => Sat.ret h2

theorem span_Square_sat (a : Span) : Sat (span_Square a) fun r => FitS r.1 := by
  unfold span_Square
  refine Sat.bind (span_Check_sat a) fun r1 h1 => Sat.ndec (fun h => Sat.ret fit0) fun h => Sat.dec (fun _ => Sat.ret fit0) fun _ => ?_
  exact Sat.bind (span_ends_sat _ _) fun r2 h2 => Sat.ret h2

theorem span_root_sat (a : Int) : Sat (span_root a) fun _ => True := by
  unfold span_root
  refine Sat.loop (fun s : Int × Int => 0 ≤ s.2) (fun s => s.2.toNat) (fun s hs => ?_) (by decide)
  have e : Int.fdiv s.2 (2 ^ (min (Int.toNat 1) (IntKind.bits .u64))) = s.2 / 2 := by
    have : ((2 : Int) ^ (min (Int.toNat 1) (IntKind.bits .u64))) = 2 := by decide
    rw [this, Int.fdiv_eq_ediv_of_nonneg _ (by omega)]
  refine Sat.dec (fun h => ?_) fun _ => Sat.map (Sat.ret trivial)
  rw [e]
  refine Sat.dec (fun _ => Sat.ret ⟨?_, ?_⟩) fun _ => Sat.ret ⟨?_, ?_⟩
  · show 0 ≤ s.2 / 2; omega
  · show (s.2 / 2).toNat < s.2.toNat; omega
  · show 0 ≤ s.2 / 2; omega
  · show (s.2 / 2).toNat < s.2.toNat; omega

theorem span_Root_sat (a : Int) : Sat (span_Root a) fun _ => True := by
  unfold span_Root
  exact Sat.dec (fun _ => Sat.ret trivial) fun _ => Sat.bind (span_root_sat _) fun r _ => Sat.ret trivial

theorem span_Roots_sat (a : Span) : Sat (span_Roots a) fun _ => True := by
  unfold span_Roots
  refine Sat.bind (span_Check_sat a) fun r1 h1 => Sat.ndec (fun h => Sat.ret trivial) fun h => Sat.dec (fun _ => Sat.ret trivial) fun _ => ?_
  refine Sat.bind (span_Root_sat _) fun r2 _ => Sat.dec (fun _ => ?_) fun _ => ?_
  · exact Sat.bind (span_Root_sat _) fun r3 _ => Sat.ret trivial
  · exact Sat.bind (span_Root_sat _) fun r3 _ => Sat.ret trivial

theorem force_add_sat (l : List Span) (hl : (l.length : Int) ≤ 1000000) : Sat (force_add l) FitS := by
  unfold force_add
  refine Sat.loop (fun s : Int × Span => 0 ≤ s.1 ∧ s.1 ≤ (l.length : Int) ∧ FitS s.2) (fun s => l.length - s.1.toNat) (fun s hs => ?_) ⟨Int.le_refl _, by show (0 : Int) ≤ _; omega, fit0⟩
  refine Sat.dec (fun h => ?_) fun _ => Sat.map (Sat.ret hs.2.2)
  refine Sat.bind (Sat.idx hs.1 h (Q := fun _ => True) fun _ _ => trivial) fun x _ => ?_
  refine Sat.bind (span_Add_sat _ _) fun r hr => Sat.ret ?_
  have e : IntKind.wrap .i64 (s.1 + 1) = s.1 + 1 := wrap_i64 (by omega) (by omega)
  refine ⟨⟨?_, ?_, hr⟩, ?_⟩
  · show 0 ≤ IntKind.wrap .i64 (s.1 + 1); omega
  · show IntKind.wrap .i64 (s.1 + 1) ≤ _; omega
  · show l.length - (IntKind.wrap .i64 (s.1 + 1)).toNat < l.length - s.1.toNat; omega

theorem force_sum_sat (l : List Area) (hl : (l.length : Int) ≤ 1000000) : Sat (force_sum l) fun r => FitS r.X ∧ FitS r.Y := by
  unfold force_sum
  refine Sat.loop (fun s : Int × Area => 0 ≤ s.1 ∧ s.1 ≤ (l.length : Int) ∧ FitS s.2.X ∧ FitS s.2.Y) (fun s => l.length - s.1.toNat) (fun s hs => ?_) ⟨Int.le_refl _, by show (0 : Int) ≤ _; omega, fit0, fit0⟩
  refine Sat.dec (fun h => ?_) fun _ => Sat.map (Sat.ret hs.2.2)
  refine Sat.bind (Sat.idx hs.1 h (Q := fun _ => True) fun _ _ => trivial) fun x _ => ?_
  refine Sat.bind (force_add_sat _ (by simp)) fun r3 h3 => ?_
  refine Sat.bind (force_add_sat _ (by simp)) fun r4 h4 => Sat.ret ?_
  have e : IntKind.wrap .i64 (s.1 + 1) = s.1 + 1 := wrap_i64 (by omega) (by omega)
  refine ⟨⟨?_, ?_, h3, h4⟩, ?_⟩
  · show 0 ≤ IntKind.wrap .i64 (s.1 + 1); omega
  · show IntKind.wrap .i64 (s.1 + 1) ≤ _; omega
  · show l.length - (IntKind.wrap .i64 (s.1 + 1)).toNat < l.length - s.1.toNat; omega

theorem span_far_sat (l : List Int) (hl : (l.length : Int) ≤ 1000000) : Sat (span_far l) fun _ => True := by
  unfold span_far
  refine Sat.loop (fun s : Bool × Int => 0 ≤ s.2 ∧ s.2 ≤ (l.length : Int)) (fun s => l.length - s.2.toNat) (fun s hs => ?_) ⟨Int.le_refl _, by show (0 : Int) ≤ _; omega⟩
  refine Sat.dec (fun h => ?_) fun _ => Sat.map (Sat.ret trivial)
  refine Sat.bind (Sat.idx hs.1 h (Q := fun _ => True) fun _ _ => trivial) fun x _ => ?_
  rw [span_within_eq]
  refine Sat.bind (Q := fun _ => True) (Sat.ret trivial) fun b _ => Sat.cond (fun _ => Sat.map (Sat.ret trivial)) fun _ => Sat.ret ?_
  have e : IntKind.wrap .i64 (s.2 + 1) = s.2 + 1 := wrap_i64 (by omega) (by omega)
  refine ⟨⟨?_, ?_⟩, ?_⟩
  · show 0 ≤ IntKind.wrap .i64 (s.2 + 1); omega
  · show IntKind.wrap .i64 (s.2 + 1) ≤ _; omega
  · show l.length - (IntKind.wrap .i64 (s.2 + 1)).toNat < l.length - s.2.toNat; omega

theorem span_CheckArea_sat (a : Area) : Sat (span_CheckArea a) fun _ => True := by
  unfold span_CheckArea
  refine Sat.bind (span_valid_sat _ _) fun r1 h1 => Sat.ndec (fun h => Sat.ret trivial) fun h => ?_
  exact Sat.bind (span_far_sat _ (by simp)) fun r _ => Sat.cond (fun _ => Sat.ret trivial) fun _ => Sat.ret trivial

end Go.Proofs.Bol

