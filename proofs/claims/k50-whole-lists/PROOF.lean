import PyProof.Rows.All
import Wide.All
import OpenK.AllK
import Wide.FinOn
import KE.KStateDown
import KE.KExcSuper
import KE.KNestM
import Lean
import HandS.Base
import HandS.Call
import HandS.List
import HandS.Comp
import HandS.Dict
import HandS.Iter
import HandS.Ends
import HandS.More
import HandS.Words
import HandS.WordsList
import HandS.WordsExc
import HandS.Defaults
import HandS.Wide
import HandS.Star
import HandS.OwnEq
import HandS.Deep
import HandS.IsInst
import HandS.Evl
import HandS.Exc
import HandS.ExcInit
import HandS.TryOnly
import HandS.TryMany
import HandS.ExcField
import HandS.Lambda
import HandS.CallLocal
import HandS.Walk
import HandS.EndTab
import HandS.HeadWalk
import HandS.Head0
import HandS.Head1
import HandS.Head2
import HandS.HeadEnd
import HandS.HeadHook1
import HandS.HeadHook2
import HandS.HeadHook3
import HandS.HeadHook4
import PySem.Challenge.RW_areawalks_k50_whole_lists_are_carried
import KE.GoesMore
import KE.LtData
import HandS.Conv
import HandS.ExcSuper
import HandS.ExcOwn
import HandS.IterVal
set_option Elab.async false
set_option linter.all false
set_option maxRecDepth 100000
set_option maxHeartbeats 4000000
/-! Plain mathematics: places, renamings, least lists. -/
set_option Elab.async false
set_option linter.all false
namespace AW

/-- a place -/
structure Pl where
  x : Int
  y : Int
  a : Int
deriving DecidableEq

theorem Pl.ext' {p q : Pl} (h1 : p.x = q.x) (h2 : p.y = q.y) (h3 : p.a = q.a) : p = q := by
  cases p; cases q; simp only at h1 h2 h3; subst h1 h2 h3; rfl

/-- pairs below k -/
def tri (k : Int) : Int := k * (k - 1) / 2
theorem tri2 (k : Int) : 2 * tri k = k * k - k := by
  unfold tri
  have h : k * (k - 1) = k * k - k := by rw [Int.mul_sub, Int.mul_one]
  have h2 : (k * k - k) % 2 = 0 := by
    have := Int.emod_two_eq k
    rcases this with e | e
    · obtain ⟨m, hm⟩ : ∃ m, k = 2 * m := ⟨k / 2, by omega⟩
      subst hm
      have : 2 * m * (2 * m) - 2 * m = 2 * (2 * (m * m) - m) := by grind
      omega
    · obtain ⟨m, hm⟩ : ∃ m, k = 2 * m + 1 := ⟨k / 2, by omega⟩
      subst hm
      have : (2 * m + 1) * (2 * m + 1) - (2 * m + 1) = 2 * (2 * (m * m) + m) := by grind
      omega
  rw [h]
  omega

def Pl.pw (p : Pl) (k : Int) : Pl := ⟨k * p.x, k * p.y, k * p.a + tri k * p.x * p.y⟩
def Pl.mul (p q : Pl) : Pl := ⟨p.x + q.x, p.y + q.y, p.a + q.a + p.x * q.y⟩
def Pl.up (p : Pl) (s : Int) : Pl := ⟨p.x, p.y, p.a + s⟩
def tw (p q : Pl) : Int := p.x * q.y - q.x * p.y
/-- a renaming -/
structure Rn where
  e : Pl
  n : Pl
deriving DecidableEq
def led (e n p : Pl) : Pl := ((n.pw p.y).mul (e.pw p.x)).up (tw e n * p.a)
def Rn.ap (r : Rn) (p : Pl) : Pl := led r.e r.n p
def Rn.mul (r s : Rn) : Rn := ⟨r.ap s.e, r.ap s.n⟩
def Rn.det (r : Rn) : Int := tw r.e r.n
def Rn.one : Rn := ⟨⟨1, 0, 0⟩, ⟨0, 1, 0⟩⟩
def inv0e (r : Rn) : Pl := ⟨r.det * r.n.y, -r.det * r.e.y, 0⟩
def inv0n (r : Rn) : Pl := ⟨-r.det * r.n.x, r.det * r.e.x, 0⟩
def Rn.inv (r : Rn) : Rn := ⟨(inv0e r).up (-r.det * (r.ap (inv0e r)).a), (inv0n r).up (-r.det * (r.ap (inv0n r)).a)⟩

/-- twice the ground -/
def Pl.z (p : Pl) : Int := 2 * p.a - p.x * p.y
theorem Pl.eq_z {p q : Pl} (h1 : p.x = q.x) (h2 : p.y = q.y) (h3 : p.z = q.z) : p = q := by
  refine Pl.ext' h1 h2 ?_
  unfold Pl.z at h3
  rw [h1, h2] at h3
  omega

theorem ap_x (r : Rn) (p : Pl) : (r.ap p).x = p.x * r.e.x + p.y * r.n.x := by
  simp only [Rn.ap, led, Pl.up, Pl.mul, Pl.pw]; omega
theorem ap_y (r : Rn) (p : Pl) : (r.ap p).y = p.x * r.e.y + p.y * r.n.y := by
  simp only [Rn.ap, led, Pl.up, Pl.mul, Pl.pw]; omega
theorem ap_z (r : Rn) (p : Pl) : (r.ap p).z = p.x * r.e.z + p.y * r.n.z + r.det * p.z := by
  simp only [Rn.ap, led, Pl.up, Pl.mul, Pl.pw, Pl.z, Rn.det, tw]
  have h1 := tri2 p.x
  have h2 := tri2 p.y
  generalize tri p.x = t1 at *
  generalize tri p.y = t2 at *
  grind

theorem det_mul (r s : Rn) : (r.mul s).det = r.det * s.det := by
  simp only [Rn.det, tw, Rn.mul, ap_x, ap_y]; grind
theorem ap_mul (r s : Rn) (p : Pl) : (r.mul s).ap p = r.ap (s.ap p) := by
  refine Pl.eq_z ?_ ?_ ?_
  · simp only [ap_x, ap_y, Rn.mul]; grind
  · simp only [ap_x, ap_y, Rn.mul]; grind
  · have hd := det_mul r s
    rw [ap_z, ap_z r, ap_z s, hd]
    simp only [ap_x, ap_y, ap_z, Rn.mul]
    grind
theorem ap_one (p : Pl) : Rn.one.ap p = p := by
  refine Pl.eq_z ?_ ?_ ?_
  · simp only [ap_x, Rn.one]; omega
  · simp only [ap_y, Rn.one]; omega
  · rw [ap_z]
    show p.x * (2 * 0 - 1 * 0) + p.y * (2 * 0 - 0 * 1) + (1 * 1 - 0 * 0) * p.z = p.z
    omega
theorem det_one : Rn.one.det = 1 := by decide

/-- the factor 1 or -1 -/
def Unit1 (d : Int) : Prop := d = 1 ∨ d = -1
instance (d : Int) : Decidable (Unit1 d) := by unfold Unit1; exact inferInstance
theorem Unit1.sq {d : Int} (h : Unit1 d) : d * d = 1 := by rcases h with h | h <;> subst h <;> decide
theorem Unit1.mul {d f : Int} (h : Unit1 d) (k : Unit1 f) : Unit1 (d * f) := by
  rcases h with h | h <;> rcases k with k | k <;> subst h k <;> decide
theorem unit_one : Unit1 1 := .inl rfl

theorem det_inv {r : Rn} (h : Unit1 r.det) : r.inv.det = r.det := by
  have hs := h.sq
  have e : r.det = r.e.x * r.n.y - r.n.x * r.e.y := rfl
  have e2 : r.inv.det = r.det * r.n.y * (r.det * r.e.x) - (-r.det * r.n.x) * (-r.det * r.e.y) := rfl
  rw [e2]
  generalize r.det = d at *
  grind

theorem up_z (p : Pl) (s : Int) : (p.up s).z = p.z + 2 * s := by simp only [Pl.z, Pl.up]; omega
theorem up_x (p : Pl) (s : Int) : (p.up s).x = p.x := rfl
theorem up_y (p : Pl) (s : Int) : (p.up s).y = p.y := rfl

/-- r applied to the two steps of its undoing -/
theorem ap_inve {r : Rn} (h : Unit1 r.det) : r.ap r.inv.e = ⟨1, 0, 0⟩ := by
  have hs := h.sq
  have e : r.det = r.e.x * r.n.y - r.n.x * r.e.y := rfl
  have hx : (r.ap (inv0e r)).x = 1 := by
    rw [ap_x]; simp only [inv0e]
    generalize r.det = d at *
    grind
  have hy : (r.ap (inv0e r)).y = 0 := by
    rw [ap_y]; simp only [inv0e]
    grind
  have hz : (r.ap (inv0e r)).z = 2 * (r.ap (inv0e r)).a := by
    show 2 * (r.ap (inv0e r)).a - (r.ap (inv0e r)).x * (r.ap (inv0e r)).y = _
    rw [hy]; omega
  refine Pl.eq_z ?_ ?_ ?_
  · rw [← hx, ap_x, ap_x]; rfl
  · show _ = (0 : Int)
    rw [← hy, ap_y, ap_y]; rfl
  · have e1 : (r.ap r.inv.e).z = (r.ap (inv0e r)).z + r.det * (2 * (-r.det * (r.ap (inv0e r)).a)) := by
      rw [ap_z r r.inv.e, ap_z r (inv0e r)]
      show (inv0e r).x * r.e.z + (inv0e r).y * r.n.z + r.det * ((inv0e r).up (-r.det * (r.ap (inv0e r)).a)).z = _
      rw [up_z]
      grind
    rw [e1, hz]
    show _ = (2 * 0 - 1 * 0 : Int)
    generalize (r.ap (inv0e r)).a = w at *
    generalize r.det = d at *
    grind
theorem ap_invn {r : Rn} (h : Unit1 r.det) : r.ap r.inv.n = ⟨0, 1, 0⟩ := by
  have hs := h.sq
  have e : r.det = r.e.x * r.n.y - r.n.x * r.e.y := rfl
  have hx : (r.ap (inv0n r)).x = 0 := by
    rw [ap_x]; simp only [inv0n]
    grind
  have hy : (r.ap (inv0n r)).y = 1 := by
    rw [ap_y]; simp only [inv0n]
    generalize r.det = d at *
    grind
  have hz : (r.ap (inv0n r)).z = 2 * (r.ap (inv0n r)).a := by
    show 2 * (r.ap (inv0n r)).a - (r.ap (inv0n r)).x * (r.ap (inv0n r)).y = _
    rw [hx]; omega
  refine Pl.eq_z ?_ ?_ ?_
  · show _ = (0 : Int)
    rw [← hx, ap_x, ap_x]; rfl
  · rw [← hy, ap_y, ap_y]; rfl
  · have e1 : (r.ap r.inv.n).z = (r.ap (inv0n r)).z + r.det * (2 * (-r.det * (r.ap (inv0n r)).a)) := by
      rw [ap_z r r.inv.n, ap_z r (inv0n r)]
      show (inv0n r).x * r.e.z + (inv0n r).y * r.n.z + r.det * ((inv0n r).up (-r.det * (r.ap (inv0n r)).a)).z = _
      rw [up_z]
      grind
    rw [e1, hz]
    show _ = (2 * 0 - 0 * 1 : Int)
    generalize (r.ap (inv0n r)).a = w at *
    generalize r.det = d at *
    grind
theorem mul_inv {r : Rn} (h : Unit1 r.det) : r.mul r.inv = Rn.one := by
  show Rn.mk (r.ap r.inv.e) (r.ap r.inv.n) = _
  rw [ap_inve h, ap_invn h]; rfl
theorem ap_inv_right {r : Rn} (h : Unit1 r.det) (p : Pl) : r.ap (r.inv.ap p) = p := by
  rw [← ap_mul, mul_inv h, ap_one]
/-- a renaming with the factor 1 or -1 sends no two places to one -/
theorem ap_inj {r : Rn} (h : Unit1 r.det) {p q : Pl} (e : r.ap p = r.ap q) : p = q := by
  have hs := h.sq
  have hd : r.det = r.e.x * r.n.y - r.n.x * r.e.y := rfl
  have ex : p.x * r.e.x + p.y * r.n.x = q.x * r.e.x + q.y * r.n.x := by rw [← ap_x, ← ap_x, e]
  have ey : p.x * r.e.y + p.y * r.n.y = q.x * r.e.y + q.y * r.n.y := by rw [← ap_y, ← ap_y, e]
  have hx : p.x = q.x := by
    have : r.det * p.x = r.det * q.x := by rw [hd]; grind
    generalize r.det = d at *
    grind
  have hy : p.y = q.y := by
    have : r.det * p.y = r.det * q.y := by rw [hd]; grind
    generalize r.det = d at *
    grind
  refine Pl.eq_z hx hy ?_
  have ez : p.x * r.e.z + p.y * r.n.z + r.det * p.z = q.x * r.e.z + q.y * r.n.z + r.det * q.z := by rw [← ap_z, ← ap_z, e]
  rw [hx, hy] at ez
  generalize r.det = d at *
  grind
theorem ap_inv_left {r : Rn} (h : Unit1 r.det) (p : Pl) : r.inv.ap (r.ap p) = p := ap_inj h (ap_inv_right h _)

/-! ### least lists -/
def mvX (p : Pl) : Bool := p.x != 0 || p.y != 0
def mvY (p : Pl) : Bool := p.y != 0
abbrev fX (l : List Pl) : Option Pl := l.find? mvX
abbrev fY (l : List Pl) : Option Pl := l.find? mvY
theorem mvX_iff {p : Pl} : mvX p = true ↔ p.x ≠ 0 ∨ p.y ≠ 0 := by simp [mvX]
theorem mvY_iff {p : Pl} : mvY p = true ↔ p.y ≠ 0 := by simp [mvY]
theorem mvX_ff {p : Pl} : mvX p = false ↔ p.x = 0 ∧ p.y = 0 := by simp [mvX]
theorem mvY_ff {p : Pl} : mvY p = false ↔ p.y = 0 := by simp [mvY]
theorem fX_mem {l : List Pl} {p : Pl} (h : fX l = some p) : p ∈ l ∧ (p.x ≠ 0 ∨ p.y ≠ 0) := ⟨List.mem_of_find?_eq_some h, mvX_iff.mp (List.find?_some h)⟩
theorem fY_mem {l : List Pl} {p : Pl} (h : fY l = some p) : p ∈ l ∧ p.y ≠ 0 := ⟨List.mem_of_find?_eq_some h, mvY_iff.mp (List.find?_some h)⟩
theorem fX_none {l : List Pl} (h : fX l = none) : ∀ p ∈ l, p.x = 0 ∧ p.y = 0 := fun p hp => mvX_ff.mp (by simpa using (List.find?_eq_none.mp h) p hp)
theorem fY_none {l : List Pl} (h : fY l = none) : ∀ p ∈ l, p.y = 0 := fun p hp => mvY_ff.mp (by simpa using (List.find?_eq_none.mp h) p hp)
theorem fY_of_fX {l : List Pl} (h : fX l = none) : fY l = none := List.find?_eq_none.mpr fun p hp => by
  have := (fX_none h p hp).2
  simp [mvY, this]
theorem fX_map {l : List Pl} {r : Rn} (h : ∀ p ∈ l, mvX (r.ap p) = mvX p) : fX (l.map r.ap) = (fX l).map r.ap := by
  induction l with
  | nil => rfl
  | cons p l ih =>
    have h1 := h p List.mem_cons_self
    have h2 := ih fun q hq => h q (List.mem_cons_of_mem _ hq)
    show List.find? mvX (r.ap p :: l.map r.ap) = _
    rw [List.find?_cons, h1]
    show _ = Option.map r.ap (List.find? mvX (p :: l))
    rw [List.find?_cons]
    cases mvX p with
    | true => rfl
    | false => exact h2
theorem fY_map {l : List Pl} {r : Rn} (h : ∀ p ∈ l, mvY (r.ap p) = mvY p) : fY (l.map r.ap) = (fY l).map r.ap := by
  induction l with
  | nil => rfl
  | cons p l ih =>
    have h1 := h p List.mem_cons_self
    have h2 := ih fun q hq => h q (List.mem_cons_of_mem _ hq)
    show List.find? mvY (r.ap p :: l.map r.ap) = _
    rw [List.find?_cons, h1]
    show _ = Option.map r.ap (List.find? mvY (p :: l))
    rw [List.find?_cons]
    cases mvY p with
    | true => rfl
    | false => exact h2
theorem mvX_ap {r : Rn} (h : Unit1 r.det) (p : Pl) : mvX (r.ap p) = mvX p := by
  have hd : r.det = r.e.x * r.n.y - r.n.x * r.e.y := rfl
  have hs := h.sq
  cases e : mvX p with
  | false =>
    obtain ⟨h1, h2⟩ := mvX_ff.mp e
    refine mvX_ff.mpr ⟨?_, ?_⟩
    · rw [ap_x, h1, h2]; omega
    · rw [ap_y, h1, h2]; omega
  | true =>
    cases e2 : mvX (r.ap p) with
    | true => rfl
    | false =>
      obtain ⟨h1, h2⟩ := mvX_ff.mp e2
      rw [ap_x] at h1
      rw [ap_y] at h2
      have hx : p.x = 0 := by
        have : r.det * p.x = 0 := by rw [hd]; grind
        generalize r.det = d at *
        grind
      have hy : p.y = 0 := by
        have : r.det * p.y = 0 := by rw [hd]; grind
        generalize r.det = d at *
        grind
      have := mvX_ff.mpr ⟨hx, hy⟩
      rw [this] at e
      cases e

/-- the shape of a least list -/
structure Sh (c : List Pl) : Prop where
  r1 : ∀ p, fX c = some p → p.y = 0 ∧ 0 < p.x ∧ 0 ≤ p.a ∧ p.a < p.x
  r2 : ∀ p, fY c = some p → 0 < p.y ∧ 0 ≤ p.x ∧ p.x < p.y ∧ 0 ≤ p.a ∧ p.a < p.y

theorem small_zero {g s a : Int} (hg : 0 < g) (h0 : 0 ≤ a) (h1 : a < g) (h2 : 0 ≤ a + g * s) (h3 : a + g * s < g) : s = 0 := by
  have e1 : (a + g * s) / g = s := by
    rw [Int.add_mul_ediv_left _ _ (by omega), Int.ediv_eq_zero_of_lt h0 h1]; omega
  have e2 : (a + g * s) / g = 0 := Int.ediv_eq_zero_of_lt h2 h3
  omega
theorem unit_cases {d f : Int} (h : Unit1 (d * f)) : Unit1 d ∧ Unit1 f := by
  have h1 : d ∣ 1 := by
    rcases h with h | h
    · exact ⟨f, h.symm⟩
    · exact ⟨-f, by rw [Int.mul_neg, h]; rfl⟩
  have h2 : f ∣ 1 := by
    rcases h with h | h
    · exact ⟨d, by rw [Int.mul_comm]; exact h.symm⟩
    · exact ⟨-d, by rw [Int.mul_neg, Int.mul_comm, h]; rfl⟩
  have k : ∀ z : Int, z ∣ 1 → Unit1 z := fun z hz => by
    have h3 : z.natAbs ∣ 1 := by simpa using Int.natAbs_dvd_natAbs.mpr hz
    have h4 := Nat.le_of_dvd (by decide) h3
    have h5 : z.natAbs ≠ 0 := fun e => by rw [e] at h3; exact absurd h3 (by decide)
    unfold Unit1
    omega
  exact ⟨k d h1, k f h2⟩

theorem shape_same {c : List Pl} {f : Rn} (hc : Sh c) (hc' : Sh (c.map f.ap)) (hu : Unit1 f.det) (h1 : fY c = none → f.det = 1) : c.map f.ap = c := by
  have fid : (∀ p ∈ c, f.ap p = p) → c.map f.ap = c := fun h => by
    have : c.map f.ap = c.map id := List.map_congr_left h
    rw [this, List.map_id]
  have hX := fX_map (l := c) (r := f) fun p _ => mvX_ap hu p
  have hdet : f.det = f.e.x * f.n.y - f.n.x * f.e.y := rfl
  have hap : ∀ p, (f.ap p).z = 2 * (f.ap p).a - (f.ap p).x * (f.ap p).y := fun _ => rfl
  cases ex : fX c with
  | none =>
    refine fid fun p hp => ?_
    obtain ⟨px, py⟩ := fX_none ex p hp
    have hd := h1 (fY_of_fX ex)
    refine Pl.eq_z ?_ ?_ ?_
    · rw [ap_x, px, py]; omega
    · rw [ap_y, px, py]; omega
    · rw [ap_z, px, py, hd]; omega
  | some u =>
    obtain ⟨uy, ux, ua0, ua1⟩ := hc.r1 u ex
    rw [ex] at hX
    obtain ⟨vy, vx, va0, va1⟩ := hc'.r1 _ hX
    rw [ap_y, uy] at vy
    rw [ap_x, uy] at vx
    have ey : f.e.y = 0 := by
      have : u.x * f.e.y = 0 := by omega
      rcases Int.mul_eq_zero.mp this with h | h
      · omega
      · exact h
    have hd2 : f.det = f.e.x * f.n.y := by rw [hdet, ey]; omega
    obtain ⟨u1, u2⟩ := unit_cases (by rw [← hd2]; exact hu)
    have e1 : f.e.x = 1 := by
      rcases u1 with h | h
      · exact h
      · rw [h] at vx; omega
    have hez : f.e.z = 2 * f.e.a := by unfold Pl.z; rw [ey]; omega
    have hdn : f.det = f.n.y := by rw [hd2, e1]; omega
    -- the area at u
    have hua : (f.ap u).a = u.a * f.det + u.x * f.e.a := by
      have h2 := ap_z f u
      rw [hap, ap_y, uy, ey, hez] at h2
      have h3 : u.z = 2 * u.a := by unfold Pl.z; rw [uy]; omega
      rw [h3] at h2
      generalize (f.ap u).a = w at *
      generalize (f.ap u).x = w2 at *
      generalize f.det = d at *
      grind
    cases ey2 : fY c with
    | none =>
      have hd := h1 ey2
      have s0 : f.e.a = 0 := by
        rw [hd] at hua
        have hx' : (f.ap u).x = u.x := by rw [ap_x, uy, e1]; omega
        rw [hx'] at va1
        exact small_zero ux ua0 ua1 (by omega) (by omega)
      refine fid fun p hp => ?_
      have py := fY_none ey2 p hp
      refine Pl.eq_z ?_ ?_ ?_
      · rw [ap_x, py, e1]; omega
      · rw [ap_y, py, ey]; omega
      · rw [ap_z, py, hd, hez, s0]; omega
    | some v =>
      obtain ⟨w1, w2, w3, w4, w5⟩ := hc.r2 v ey2
      have hmY : ∀ p ∈ c, mvY (f.ap p) = mvY p := fun p _ => by
        have e : (f.ap p).y = p.y * f.n.y := by rw [ap_y, ey]; omega
        cases e2 : mvY p with
        | false => rw [mvY_ff] at e2 ⊢; rw [e, e2]; omega
        | true =>
          rw [mvY_iff] at e2 ⊢
          rw [e]
          intro z
          rcases Int.mul_eq_zero.mp z with h | h
          · exact e2 h
          · rcases u2 with k | k <;> omega
      have hY := fY_map (l := c) (r := f) hmY
      rw [ey2] at hY
      obtain ⟨t1, t2, t3, t4, t5⟩ := hc'.r2 _ hY
      have ny : f.n.y = 1 := by
        rcases u2 with h | h
        · exact h
        · rw [ap_y, ey, h] at t1; omega
      have hd : f.det = 1 := by rw [hdn, ny]
      have vy' : (f.ap v).y = v.y := by rw [ap_y, ey, ny]; omega
      have nx : f.n.x = 0 := by
        have e : (f.ap v).x = v.x + v.y * f.n.x := by rw [ap_x, e1]; omega
        rw [e] at t2 t3
        rw [vy'] at t3
        exact small_zero w1 w2 w3 t2 t3
      have s0 : f.e.a = 0 := by
        rw [hd] at hua
        have hx' : (f.ap u).x = u.x := by rw [ap_x, uy, e1]; omega
        rw [hx'] at va1
        exact small_zero ux ua0 ua1 (by omega) (by omega)
      have hnz : f.n.z = 2 * f.n.a := by unfold Pl.z; rw [nx]; omega
      have xx : ∀ p, (f.ap p).x = p.x := fun p => by rw [ap_x, e1, nx]; omega
      have yy : ∀ p, (f.ap p).y = p.y := fun p => by rw [ap_y, ey, ny]; omega
      have aa : ∀ p, (f.ap p).a = p.a + p.y * f.n.a := fun p => by
        have h2 := ap_z f p
        rw [hap, xx, yy, hez, hnz, s0, hd] at h2
        unfold Pl.z at h2
        generalize (f.ap p).a = w at *
        generalize p.x * p.y = w2 at *
        have h3 : p.y * (2 * f.n.a) = 2 * (p.y * f.n.a) := by grind
        omega
      have t0 : f.n.a = 0 := by
        rw [aa] at t4 t5
        rw [vy'] at t5
        exact small_zero w1 w4 w5 t4 t5
      exact fid fun p _ => Pl.ext' (xx p) (yy p) (by rw [aa, t0]; omega)

/-! ### the order of figures -/
def ltP (p q : Pl) : Bool := decide (p.x < q.x) || (decide (p.x = q.x) && (decide (p.y < q.y) || (decide (p.y = q.y) && decide (p.a < q.a))))
def ltL : List Pl → List Pl → Bool
  | [], [] => false
  | [], _ :: _ => true
  | _ :: _, [] => false
  | p :: ps, q :: qs => ltP p q || (decide (p = q) && ltL ps qs)
theorem ltP_tri {p q : Pl} (h1 : ltP p q = false) (h2 : ltP q p = false) : p = q := by
  simp only [ltP, Bool.or_eq_false_iff, Bool.and_eq_false_iff, decide_eq_false_iff_not] at h1 h2
  refine Pl.ext' ?_ ?_ ?_ <;> omega
theorem ltP_asym {p q : Pl} (h1 : ltP p q = true) : ltP q p = false := by
  simp only [ltP, Bool.or_eq_true, Bool.and_eq_true, decide_eq_true_eq, Bool.or_eq_false_iff, Bool.and_eq_false_iff, decide_eq_false_iff_not] at h1 ⊢
  omega
theorem ltP_irr (p : Pl) : ltP p p = false := by simp [ltP]
theorem ltL_tri : ∀ {c d : List Pl}, ltL c d = false → ltL d c = false → c = d
  | [], [], _, _ => rfl
  | [], _ :: _, h, _ => by cases h
  | _ :: _, [], _, h => by cases h
  | p :: ps, q :: qs, h1, h2 => by
    simp only [ltL, Bool.or_eq_false_iff, Bool.and_eq_false_iff, decide_eq_false_iff_not] at h1 h2
    have e := ltP_tri h1.1 h2.1
    subst e
    have e2 := ltL_tri (h1.2.resolve_left (by simp)) (h2.2.resolve_left (by simp))
    rw [e2]
theorem ltL_asym : ∀ {c d : List Pl}, ltL c d = true → ltL d c = false
  | [], [], h => by cases h
  | [], _ :: _, _ => rfl
  | _ :: _, [], h => by cases h
  | p :: ps, q :: qs, h1 => by
    simp only [ltL, Bool.or_eq_true, Bool.and_eq_true, decide_eq_true_eq] at h1
    simp only [ltL, Bool.or_eq_false_iff, Bool.and_eq_false_iff, decide_eq_false_iff_not]
    rcases h1 with h | ⟨e, h⟩
    · refine ⟨ltP_asym h, .inl fun e => ?_⟩
      subst e
      rw [ltP_irr] at h
      cases h
    · subst e
      exact ⟨ltP_irr _, .inr (ltL_asym h)⟩

/-! ### what the program does to a list -/
/-- areas lowered to their rests -/
def lowR (c : List Pl) : Rn :=
  match fX c with
  | none => Rn.one
  | some p =>
    match fY c with
    | none => ⟨⟨1, 0, -(p.a / p.x)⟩, ⟨0, 1, 0⟩⟩
    | some q => ⟨⟨1, 0, -(p.a / p.x)⟩, ⟨0, 1, -((q.a + -(p.a / p.x) * q.x) / q.y)⟩⟩
def glass : Rn := ⟨⟨1, 0, 0⟩, ⟨0, -1, 0⟩⟩
def low (c : List Pl) : List Pl := c.map (lowR c).ap
/-- the other way round -/
def oth (c : List Pl) : List Pl := low (c.map glass.ap)
/-- leaned to the north -/
def leanR (c : List Pl) : Rn :=
  match fY c with
  | none => Rn.one
  | some q => ⟨⟨1, 0, 0⟩, if 0 < q.y then ⟨-(q.x / q.y), 1, 0⟩ else ⟨q.x / -q.y, -1, 0⟩⟩
/-- what turned_east hands on -/
def East (c : List Pl) : Prop := ∀ p, fX c = some p → p.y = 0 ∧ 0 < p.x
/-- what leaned_north hands on -/
structure Lean (c : List Pl) : Prop where
  e : East c
  n : ∀ p, fY c = some p → 0 < p.y ∧ 0 ≤ p.x ∧ p.x < p.y

theorem lowR_det (c : List Pl) : (lowR c).det = 1 := by
  unfold lowR
  cases fX c with
  | none => rfl
  | some p => cases fY c <;> (simp only [Rn.det, tw]; omega)
theorem leanR_det (c : List Pl) : Unit1 (leanR c).det := by
  unfold leanR
  cases fY c with
  | none => exact .inl rfl
  | some p =>
    simp only [Rn.det, tw]
    split
    · exact .inl (by simp)
    · exact .inr (by simp)
theorem glass_det : glass.det = -1 := by decide

theorem shift_ap {s t : Int} (p : Pl) : (Rn.mk ⟨1, 0, s⟩ ⟨0, 1, t⟩).ap p = ⟨p.x, p.y, p.a + p.x * s + p.y * t⟩ := by
  refine Pl.eq_z ?_ ?_ ?_
  · rw [ap_x]; simp
  · rw [ap_y]; simp
  · rw [ap_z]
    simp only [Pl.z, Rn.det, tw]
    grind
theorem lowR_ap (c : List Pl) (p : Pl) : ((lowR c).ap p).x = p.x ∧ ((lowR c).ap p).y = p.y := by
  unfold lowR
  cases fX c with
  | none => rw [ap_one]; exact ⟨rfl, rfl⟩
  | some u => cases fY c <;> (simp only [shift_ap]; exact ⟨trivial, trivial⟩)
theorem glass_ap (p : Pl) (h : p.y = 0) : glass.ap p = ⟨p.x, 0, -p.a⟩ := by
  refine Pl.eq_z ?_ ?_ ?_
  · rw [ap_x, h]; simp [glass]
  · rw [ap_y, h]; simp [glass]
  · rw [ap_z, h, glass_det]
    simp only [Pl.z, glass, h]
    omega

theorem low_sh {c : List Pl} (h : Lean c) : Sh (low c) := by
  have mX : ∀ p ∈ c, mvX ((lowR c).ap p) = mvX p := fun p _ => by
    obtain ⟨a, b⟩ := lowR_ap c p
    simp only [mvX, a, b]
  have mY : ∀ p ∈ c, mvY ((lowR c).ap p) = mvY p := fun p _ => by
    obtain ⟨a, b⟩ := lowR_ap c p
    simp only [mvY, b]
  have hX := fX_map mX
  have hY := fY_map mY
  refine ⟨fun p hp => ?_, fun p hp => ?_⟩
  · rw [low, hX] at hp
    cases ex : fX c with
    | none => rw [ex] at hp; cases hp
    | some u =>
      rw [ex] at hp
      cases hp
      obtain ⟨uy, ux⟩ := h.e u ex
      have k : ((lowR c).ap u) = ⟨u.x, 0, u.a % u.x⟩ := by
        have hm : u.a % u.x = u.a - u.x * (u.a / u.x) := Int.emod_def _ _
        unfold lowR
        rw [ex]
        cases fY c with
        | none =>
          simp only [shift_ap, uy]
          refine Pl.ext' rfl rfl ?_
          show u.a + u.x * -(u.a / u.x) + 0 * 0 = u.a % u.x
          rw [hm, Int.mul_neg]; omega
        | some q =>
          simp only [shift_ap, uy]
          refine Pl.ext' rfl rfl ?_
          show u.a + u.x * -(u.a / u.x) + 0 * _ = u.a % u.x
          rw [hm, Int.mul_neg]; omega
      rw [k]
      exact ⟨rfl, ux, Int.emod_nonneg _ (by omega), Int.emod_lt_of_pos _ ux⟩
  · rw [low, hY] at hp
    cases ey : fY c with
    | none => rw [ey] at hp; cases hp
    | some v =>
      rw [ey] at hp
      cases hp
      obtain ⟨v1, v2, v3⟩ := h.n v ey
      cases ex : fX c with
      | none => rw [fY_of_fX ex] at ey; cases ey
      | some u =>
        have k : ((lowR c).ap v) = ⟨v.x, v.y, (v.a + -(u.a / u.x) * v.x) % v.y⟩ := by
          unfold lowR
          rw [ex, ey]
          simp only [shift_ap]
          refine Pl.ext' rfl rfl ?_
          show v.a + v.x * -(u.a / u.x) + v.y * -((v.a + -(u.a / u.x) * v.x) / v.y) = (v.a + -(u.a / u.x) * v.x) % v.y
          rw [Int.emod_def, Int.mul_comm v.x, Int.mul_neg v.y]
          omega
        rw [k]
        exact ⟨v1, v2, v3, Int.emod_nonneg _ (by omega), Int.emod_lt_of_pos _ v1⟩

theorem lean_lean {c : List Pl} (h : East c) : Lean (c.map (leanR c).ap) := by
  have hu := leanR_det c
  have hX := fX_map (l := c) (r := leanR c) fun p _ => mvX_ap hu p
  have ex1 : ∀ p : Pl, p.y = 0 → ((leanR c).ap p).x = p.x ∧ ((leanR c).ap p).y = 0 := fun p hp => by
    rw [ap_x, ap_y, hp]
    unfold leanR
    cases fY c with
    | none => simp [Rn.one]
    | some v => simp
  refine ⟨fun p hp => ?_, fun p hp => ?_⟩
  · rw [hX] at hp
    cases ex : fX c with
    | none => rw [ex] at hp; cases hp
    | some u =>
      rw [ex] at hp
      cases hp
      obtain ⟨uy, ux⟩ := h u ex
      obtain ⟨a, b⟩ := ex1 u uy
      exact ⟨b, by rw [a]; exact ux⟩
  · have ny : (leanR c).e.y = 0 ∧ ((leanR c).n.y = 1 ∨ (leanR c).n.y = -1) := by
      unfold leanR
      cases fY c with
      | none => exact ⟨rfl, .inl rfl⟩
      | some v =>
        refine ⟨rfl, ?_⟩
        show (if 0 < v.y then (⟨-(v.x / v.y), 1, 0⟩ : Pl) else ⟨v.x / -v.y, -1, 0⟩).y = 1 ∨ (if 0 < v.y then (⟨-(v.x / v.y), 1, 0⟩ : Pl) else ⟨v.x / -v.y, -1, 0⟩).y = -1
        split
        · exact .inl rfl
        · exact .inr rfl
    have mY : ∀ p ∈ c, mvY ((leanR c).ap p) = mvY p := fun p _ => by
      have e : ((leanR c).ap p).y = p.y * (leanR c).n.y := by rw [ap_y, ny.1]; omega
      cases e2 : mvY p with
      | false => rw [mvY_ff] at e2 ⊢; rw [e, e2]; omega
      | true => rw [mvY_iff] at e2 ⊢; rw [e]; rcases ny.2 with k | k <;> rw [k] <;> omega
    have hY := fY_map mY
    rw [hY] at hp
    cases ey : fY c with
    | none => rw [ey] at hp; cases hp
    | some v =>
      rw [ey] at hp
      cases hp
      obtain ⟨_, vy⟩ := fY_mem ey
      have k : ((leanR c).ap v).x = v.x * 1 + v.y * (if 0 < v.y then (⟨-(v.x / v.y), 1, 0⟩ : Pl) else ⟨v.x / -v.y, -1, 0⟩).x ∧ ((leanR c).ap v).y = v.x * 0 + v.y * (if 0 < v.y then (⟨-(v.x / v.y), 1, 0⟩ : Pl) else ⟨v.x / -v.y, -1, 0⟩).y := by
        rw [ap_x, ap_y]
        unfold leanR
        rw [ey]
        exact ⟨rfl, rfl⟩
      rw [k.1, k.2]
      by_cases hp : 0 < v.y
      · rw [if_pos hp]
        have e := Int.emod_def v.x v.y
        have e1 := Int.emod_nonneg v.x (show v.y ≠ 0 by omega)
        have e2 := Int.emod_lt_of_pos v.x hp
        have e3 : v.x * 1 + v.y * -(v.x / v.y) = v.x % v.y := by rw [e, Int.mul_neg]; omega
        show 0 < v.x * 0 + v.y * 1 ∧ 0 ≤ v.x * 1 + v.y * -(v.x / v.y) ∧ v.x * 1 + v.y * -(v.x / v.y) < v.x * 0 + v.y * 1
        rw [e3]
        omega
      · rw [if_neg hp]
        have hq : 0 < -v.y := by omega
        have e := Int.emod_def v.x (-v.y)
        have e1 := Int.emod_nonneg v.x (show -v.y ≠ 0 by omega)
        have e2 := Int.emod_lt_of_pos v.x hq
        have e3 : v.x * 1 + v.y * (v.x / -v.y) = v.x % (-v.y) := by rw [e, Int.neg_mul]; omega
        show 0 < v.x * 0 + v.y * -1 ∧ 0 ≤ v.x * 1 + v.y * (v.x / -v.y) ∧ v.x * 1 + v.y * (v.x / -v.y) < v.x * 0 + v.y * -1
        rw [e3]
        omega

/-- a least list -/
structure Red (c : List Pl) : Prop where
  sh : Sh c
  lt : fY c = none → ltL (oth c) c = false

theorem sh_lean {c : List Pl} (h : Sh c) : Lean c := ⟨fun p hp => ⟨(h.r1 p hp).1, (h.r1 p hp).2.1⟩, fun p hp => ⟨(h.r2 p hp).1, (h.r2 p hp).2.1, (h.r2 p hp).2.2.1⟩⟩
/-- what the glass shows of a list on the east line -/
theorem glass_lean {c : List Pl} (h : East c) (hn : fY c = none) : Lean (c.map glass.ap) ∧ fY (c.map glass.ap) = none := by
  have y0 := fY_none hn
  have mX : ∀ p ∈ c, mvX (glass.ap p) = mvX p := fun p hp => by
    rw [glass_ap p (y0 p hp)]
    simp only [mvX, y0 p hp]
  have mY : ∀ p ∈ c, mvY (glass.ap p) = mvY p := fun p hp => by
    rw [glass_ap p (y0 p hp)]
    simp only [mvY, y0 p hp]
  have hX := fX_map mX
  have hY := fY_map mY
  rw [hn] at hY
  refine ⟨⟨fun p hp => ?_, fun p hp => ?_⟩, hY⟩
  · rw [hX] at hp
    cases ex : fX c with
    | none => rw [ex] at hp; cases hp
    | some u =>
      rw [ex] at hp
      cases hp
      obtain ⟨uy, ux⟩ := h u ex
      rw [glass_ap u uy]
      exact ⟨rfl, ux⟩
  · rw [hY] at hp
    cases hp
theorem map_map_ap (r s : Rn) (c : List Pl) : (c.map s.ap).map r.ap = c.map (r.mul s).ap := by
  rw [List.map_map]
  refine List.map_congr_left fun p _ => ?_
  exact (ap_mul r s p).symm
theorem oth_eq (c : List Pl) : oth c = c.map ((lowR (c.map glass.ap)).mul glass).ap := by
  rw [oth, low, map_map_ap]
theorem oth_det (c : List Pl) : ((lowR (c.map glass.ap)).mul glass).det = -1 := by rw [det_mul, lowR_det, glass_det]; rfl
theorem oth_sh {c : List Pl} (h : East c) (hn : fY c = none) : Sh (oth c) ∧ fY (oth c) = none := by
  obtain ⟨h1, h2⟩ := glass_lean h hn
  refine ⟨low_sh h1, ?_⟩
  have mY : ∀ p ∈ c.map glass.ap, mvY ((lowR (c.map glass.ap)).ap p) = mvY p := fun p _ => by
    obtain ⟨a, b⟩ := lowR_ap (c.map glass.ap) p
    simp only [mvY, b]
  have := fY_map mY
  rw [h2] at this
  exact this

theorem map_back {c d : List Pl} {f : Rn} (hu : Unit1 f.det) (e : d = c.map f.ap) : c = d.map f.inv.ap := by
  rw [e, List.map_map]
  have : c.map (f.inv.ap ∘ f.ap) = c.map id := List.map_congr_left fun p _ => ap_inv_left hu p
  rw [this, List.map_id]
theorem fY_keep {c : List Pl} {f : Rn} (hc : Sh c) (hc' : Sh (c.map f.ap)) (hu : Unit1 f.det) (hn : fY c = none) : fY (c.map f.ap) = none := by
  have y0 := fY_none hn
  have hX := fX_map (l := c) (r := f) fun p _ => mvX_ap hu p
  refine List.find?_eq_none.mpr fun p hp => ?_
  obtain ⟨q, hq, rfl⟩ := List.mem_map.mp hp
  have : (f.ap q).y = 0 := by
    rw [ap_y, y0 q hq]
    cases ex : fX c with
    | none =>
      rw [(fX_none ex q hq).1]; omega
    | some u =>
      obtain ⟨uy, ux, _⟩ := hc.r1 u ex
      rw [ex] at hX
      obtain ⟨vy, _⟩ := hc'.r1 _ hX
      rw [ap_y, uy] at vy
      have ey : f.e.y = 0 := by
        have : u.x * f.e.y = 0 := by omega
        rcases Int.mul_eq_zero.mp this with h | h
        · omega
        · exact h
      rw [ey]; omega
  simp [mvY, this]

/-- THE LAW: least lists that some renaming of the factor 1 or -1 turns into one another are equal -/
theorem red_unique {c d : List Pl} {f : Rn} (hc : Red c) (hd : Red d) (hu : Unit1 f.det) (e : d = c.map f.ap) : d = c := by
  by_cases h : fY c = none → f.det = 1
  · rw [e]
    exact shape_same hc.sh (by rw [← e]; exact hd.sh) hu h
  · have hn : fY c = none := by
      cases z : fY c with
      | none => rfl
      | some p => exact absurd (fun q => by rw [z] at q; cases q) h
    have hm : f.det = -1 := by
      rcases hu with k | k
      · exact absurd (fun _ => k) h
      · exact k
    have hnd : fY d = none := by rw [e]; exact fY_keep hc.sh (by rw [← e]; exact hd.sh) hu hn
    -- one is the other's other
    have key : ∀ {a b : List Pl} {g : Rn}, Sh a → Sh b → fY a = none → g.det = -1 → b = a.map g.ap → b = oth a := by
      intro a b g ha hb na hg eb
      obtain ⟨so, no⟩ := oth_sh (fun p hp => ⟨(ha.r1 p hp).1, (ha.r1 p hp).2.1⟩) na
      have uo : Unit1 ((lowR (a.map glass.ap)).mul glass).det := .inr (oth_det a)
      have back := map_back uo (oth_eq a)
      have e2 : b = (oth a).map (g.mul ((lowR (a.map glass.ap)).mul glass).inv).ap := by
        rw [← map_map_ap, ← back, eb]
      have hdet : (g.mul ((lowR (a.map glass.ap)).mul glass).inv).det = 1 := by
        rw [det_mul, det_inv uo, oth_det, hg]; rfl
      rw [e2]
      exact shape_same so (by rw [← e2]; exact hb) (.inl hdet) fun _ => hdet
    have e1 := key hc.sh hd.sh hn hm e
    have e2 := key hd.sh hc.sh hnd (by rw [det_inv hu]; exact hm) (map_back hu e)
    refine ltL_tri ?_ ?_
    · rw [e1]; exact hc.lt hn
    · have := hd.lt hnd
      rw [← e2] at this
      exact this

/-- what least_list hands back of the leaned list -/
theorem red_low {c : List Pl} (h : Lean c) (hlt : fY c = none → ltL (oth c) (low c) = false) : Red (low c) := by
  have hs := low_sh h
  refine ⟨hs, fun hn => ?_⟩
  have mY : ∀ p ∈ c, mvY ((lowR c).ap p) = mvY p := fun p _ => by
    obtain ⟨a, b⟩ := lowR_ap c p
    simp only [mvY, b]
  have hY := fY_map mY
  have hn0 : fY c = none := by
    rw [low, hY] at hn
    cases z : fY c with
    | none => rfl
    | some p => rw [z] at hn; cases hn
  have : oth (low c) = oth c := by
    have uL : Unit1 (lowR c).det := .inl (lowR_det c)
    obtain ⟨s1, n1⟩ := oth_sh (sh_lean hs).e hn
    obtain ⟨s2, n2⟩ := oth_sh h.e hn0
    have uo : Unit1 ((lowR (c.map glass.ap)).mul glass).det := .inr (oth_det c)
    have back := map_back uo (oth_eq c)
    have e2 : oth (low c) = (oth c).map (((lowR ((low c).map glass.ap)).mul glass).mul ((lowR c).mul ((lowR (c.map glass.ap)).mul glass).inv)).ap := by
      rw [← map_map_ap ((lowR ((low c).map glass.ap)).mul glass), ← map_map_ap (lowR c), ← back]
      exact oth_eq (low c)
    have hdet : (((lowR ((low c).map glass.ap)).mul glass).mul ((lowR c).mul ((lowR (c.map glass.ap)).mul glass).inv)).det = 1 := by
      rw [det_mul, det_mul _ glass, det_mul (lowR c), det_inv uo, oth_det, lowR_det, lowR_det, glass_det]; rfl
    rw [e2]
    exact shape_same s2 (by rw [← e2]; exact s1) (.inl hdet) fun _ => hdet
  rw [this]
  exact hlt hn0
theorem red_oth {c : List Pl} (h : Lean c) (hn : fY c = none) (hlt : ltL (oth c) (low c) = true) : Red (oth c) := by
  obtain ⟨s2, n2⟩ := oth_sh h.e hn
  have hs := low_sh h
  refine ⟨s2, fun _ => ?_⟩
  have : oth (oth c) = low c := by
    obtain ⟨s3, n3⟩ := oth_sh (sh_lean s2).e n2
    have uL : Unit1 (lowR c).det := .inl (lowR_det c)
    have uo : Unit1 ((lowR (c.map glass.ap)).mul glass).det := .inr (oth_det c)
    have back : c = (low c).map (lowR c).inv.ap := map_back uL rfl
    have e2 : oth (oth c) = (low c).map (((lowR ((oth c).map glass.ap)).mul glass).mul (((lowR (c.map glass.ap)).mul glass).mul (lowR c).inv)).ap := by
      rw [← map_map_ap ((lowR ((oth c).map glass.ap)).mul glass), ← map_map_ap ((lowR (c.map glass.ap)).mul glass), ← back, ← oth_eq c]
      exact oth_eq (oth c)
    have hdet : (((lowR ((oth c).map glass.ap)).mul glass).mul (((lowR (c.map glass.ap)).mul glass).mul (lowR c).inv)).det = 1 := by
      rw [det_mul, oth_det, det_mul, oth_det, det_inv uL, lowR_det]; rfl
    rw [e2]
    exact shape_same hs (by rw [← e2]; exact s3) (.inl hdet) fun _ => hdet
  rw [this]
  exact ltL_asym hlt

/-- two lists, one the image of the other, have one least list, and the renamings to it make one from the other -/
theorem alike_ok {l m c d : List Pl} {f r s : Rn} (hf : Unit1 f.det) (hm : m = l.map f.ap) (hr : Unit1 r.det) (hs : Unit1 s.det) (ec : c = l.map r.ap) (ed : d = m.map s.ap) (hc : Red c) (hd : Red d) :
    d = c ∧ Unit1 (s.inv.mul r).det ∧ m = l.map (s.inv.mul r).ap := by
  have h1 : d = c.map (s.mul (f.mul r.inv)).ap := by
    rw [← map_map_ap, ← map_map_ap, ← map_back hr ec, ← hm]
    exact ed
  have hu : Unit1 (s.mul (f.mul r.inv)).det := by
    rw [det_mul, det_mul, det_inv hr]
    exact hs.mul (hf.mul hr)
  have e := red_unique hc hd hu h1
  refine ⟨e, ?_, ?_⟩
  · rw [det_mul, det_inv hs]
    exact hs.mul hr
  · rw [← map_map_ap, ← ec, ← e]
    exact map_back hs ed
end AW
/-! The text by places; what stands in the heap; rules of one's own. -/
namespace AW
open PySem PySem.Spec PyProof.Rows L2
def top (i : Nat) : Stmt := PySem.Challenge.pw_areawalks_k50_whole_lists_are_carried.main.body.getD i (.Pass ⟨0, 0, 0, 0⟩)
abbrev s_is_integer : Stmt := top 8
abbrev s_bezout_of : Stmt := top 9
abbrev s_pairs_below : Stmt := top 10
abbrev s_need_place : Stmt := top 13
abbrev s_need_places : Stmt := top 14
abbrev s_led_by : Stmt := top 18
abbrev s_same_names : Stmt := top 20
abbrev s_first_at : Stmt := top 22
abbrev s_renamed_all : Stmt := top 23
abbrev s_turned_east : Stmt := top 24
abbrev s_leaned_north : Stmt := top 25
abbrev s_lowered_areas : Stmt := top 26
abbrev s_figures_of : Stmt := top 27
abbrev s_least_list : Stmt := top 28
abbrev s_list_key : Stmt := top 29
abbrev s_alike : Stmt := top 30
abbrev s_lot_key : Stmt := top 32
abbrev s_alike_lots : Stmt := top 33
abbrev s_L_begin : Stmt := top 35
abbrev s_L_draw : Stmt := top 36
abbrev s_L_pick : Stmt := top 37
abbrev s_L_small : Stmt := top 38
abbrev s_L_join : Stmt := top 39
abbrev s_L_times : Stmt := top 40
abbrev s_L_place : Stmt := top 41
abbrev s_L_whole : Stmt := top 42
abbrev s_L_row : Stmt := top 43
abbrev s_L_twist : Stmt := top 44
abbrev s_L_renamed : Stmt := top 45
abbrev s_L_onto : Stmt := top 46
abbrev s_L_six : Stmt := top 47
abbrev s_L_mid : Stmt := top 48
abbrev s_L_list : Stmt := top 49
abbrev s_L_how : Stmt := top 50
abbrev s_L_refused : Stmt := top 51
abbrev s_law : Stmt := top 52
abbrev s_Place_init : Stmt := inClass (top 12) 0
abbrev s_Place_eq : Stmt := inClass (top 12) 1
abbrev s_Place_mul : Stmt := inClass (top 12) 2
abbrev s_Place_power : Stmt := inClass (top 12) 4
abbrev s_Place_lifted : Stmt := inClass (top 12) 6
abbrev s_Place_twist : Stmt := inClass (top 12) 7
abbrev s_Renaming_init : Stmt := inClass (top 19) 0
abbrev s_Renaming_call : Stmt := inClass (top 19) 2
abbrev s_Renaming_mul : Stmt := inClass (top 19) 3
abbrev s_Renaming_invert : Stmt := inClass (top 19) 4

/-! ### addresses by names -/
abbrev CP (K : PySem.W.Frag) : Addr := He.ga K "Place"
abbrev CR (K : PySem.W.Frag) : Addr := He.ga K "Renaming"

/-! ### growing heaps -/
abbrev Ex (H H' : Hp) : Prop := Evl.Ex H H'
/-- all but dicts and tables of code stays -/
def Le (H H' : Hp) : Prop := ∀ b o, H b = some o → (∀ k, o ≠ .dK k) → (∀ ps, o ≠ .tbl ps) → H' b = some o
theorem Ex.le {H H' : Hp} (e : Ex H H') : Le H H' := fun b o h _ _ => e b o h
theorem Le.refl (H : Hp) : Le H H := fun _ _ h _ _ => h
theorem Le.trans {H H1 H2 : Hp} (a : Le H H1) (b : Le H1 H2) : Le H H2 := fun c o h n m => b c o (a c o h n m) n m
theorem Le.ins {H H' : Hp} (e : Le H H') {a C dx : Addr} {fs : List (Str × V)} (h : H a = some (.ins C dx fs)) : H' a = some (.ins C dx fs) := e a _ h (fun k z => by cases z) fun ps z => by cases z
theorem Le.tup {H H' : Hp} (e : Le H H') {a : Addr} {xs : List V} (h : H a = some (.tup xs)) : H' a = some (.tup xs) := e a _ h (fun k z => by cases z) fun ps z => by cases z
theorem Le.lst {H H' : Hp} (e : Le H H') {a : Addr} {xs : List V} (h : H a = some (.lst xs)) : H' a = some (.lst xs) := e a _ h (fun k z => by cases z) fun ps z => by cases z
theorem Le.frz {H H' : Hp} (e : Le H H') {a : Addr} {o : Obj} {u : HO} (h : H a = some (.frz o u)) : H' a = some (.frz o u) := e a _ h (fun k z => by cases z) fun ps z => by cases z
theorem Le.sqL {K : PySem.W.Frag} {H H' : Hp} (e : Le H H') {a : Addr} {xs : List V} (h : SqL K H a xs) : SqL K H' a xs := by
  rcases h with (h | ⟨o, h⟩) | h
  · exact .inl (.inl (e.lst h))
  · exact .inl (.inr ⟨o, e.frz h⟩)
  · exact .inr h
theorem Le.sqT {K : PySem.W.Frag} {H H' : Hp} (e : Le H H') {a : Addr} {xs : List V} (h : SqT K H a xs) : SqT K H' a xs := by
  rcases h with (h | ⟨o, h⟩) | h
  · exact .inl (.inl (e.tup h))
  · exact .inl (.inr ⟨o, e.frz h⟩)
  · exact .inr h
theorem Ex.new {H : Hp} {p : Addr} {o : HO} (h : H p = none) : Ex H (upd H p o) := Evl.Ex.new h
theorem exr (H : Hp) : Ex H H := Evl.Ex.refl H

/-! ### what a value stands for -/
def pf (p : Pl) : List (Str × V) := [("x", .int p.x), ("y", .int p.y), ("area", .int p.a)]
def rf (e n : V) : List (Str × V) := [("east", e), ("north", n)]
theorem look_eq {a b : Str} {v : V} {l : List (Str × V)} (h : (a == b) = true) : List.lookup a ((b, v) :: l) = some v := by rw [List.lookup_cons, h]
theorem look_ne {a b : Str} {v : V} {l : List (Str × V)} (h : (a == b) = false) : List.lookup a ((b, v) :: l) = List.lookup a l := by rw [List.lookup_cons, h]
theorem pf_x (p : Pl) : (pf p).lookup ("x" : Str) = some (.int p.x) := look_eq (by decide +kernel)
theorem pf_y (p : Pl) : (pf p).lookup ("y" : Str) = some (.int p.y) := (look_ne (by decide +kernel)).trans (look_eq (by decide +kernel))
theorem pf_a (p : Pl) : (pf p).lookup ("area" : Str) = some (.int p.a) := (look_ne (by decide +kernel)).trans ((look_ne (by decide +kernel)).trans (look_eq (by decide +kernel)))
theorem pf_no (p : Pl) {m : Str} (h1 : (m == "x") = false) (h2 : (m == "y") = false) (h3 : (m == "area") = false) : (pf p).lookup m = none :=
  (look_ne h1).trans ((look_ne h2).trans ((look_ne h3).trans rfl))
theorem rf_e (e n : V) : (rf e n).lookup ("east" : Str) = some e := look_eq (by decide +kernel)
theorem rf_n (e n : V) : (rf e n).lookup ("north" : Str) = some n := (look_ne (by decide +kernel)).trans (look_eq (by decide +kernel))
theorem rf_no (e n : V) {m : Str} (h1 : (m == "east") = false) (h2 : (m == "north") = false) : (rf e n).lookup m = none :=
  (look_ne h1).trans ((look_ne h2).trans rfl)
theorem put_ne {f g : Str} {v u : V} {l : List (Str × V)} (h : ¬ g = f) : putF f v ((g, u) :: l) = (g, u) :: putF f v l := by
  show (if g = f then _ else _) = _
  rw [if_neg h]
theorem pf_put (x y a : Int) : putF "area" (.int a) (putF "y" (.int y) (putF "x" (.int x) [])) = pf ⟨x, y, a⟩ := by
  have e1 : putF "x" (.int x) [] = [(("x" : Str), V.int x)] := rfl
  rw [e1, put_ne (by decide +kernel)]
  have e2 : putF "y" (.int y) [] = [(("y" : Str), V.int y)] := rfl
  rw [e2, put_ne (by decide +kernel), put_ne (by decide +kernel)]
  rfl
theorem rf_put (e n : V) : putF "north" n (putF "east" e []) = rf e n := by
  have e1 : putF "east" e [] = [(("east" : Str), e)] := rfl
  rw [e1, put_ne (by decide +kernel)]
  rfl

/-- v is a place -/
def IsPl (K : PySem.W.Frag) (H : Hp) (v : V) (p : Pl) : Prop := ∃ a dx, v = .ref a ∧ H a = some (.ins (CP K) dx (pf p))
/-- v is a renaming -/
def IsRn (K : PySem.W.Frag) (H : Hp) (v : V) (r : Rn) : Prop := ∃ a dx e n, v = .ref a ∧ H a = some (.ins (CR K) dx (rf e n)) ∧ IsPl K H e r.e ∧ IsPl K H n r.n
/-- item by item -/
abbrev IsPs (K : PySem.W.Frag) (H : Hp) (vs : List V) (ps : List Pl) : Prop := Paired (IsPl K H) vs ps
/-- v is a list or a tuple of these -/
def IsSq (K : PySem.W.Frag) (H : Hp) (v : V) (vs : List V) : Prop := ∃ a, v = .ref a ∧ (SqL K H a vs ∨ SqT K H a vs)
section
variable {K : PySem.W.Frag} {H H' : Hp} {v : V} {vs : List V}
theorem Le.pl (e : Le H H') {p : Pl} (h : IsPl K H v p) : IsPl K H' v p := by
  obtain ⟨a, dx, rfl, h⟩ := h
  exact ⟨a, dx, rfl, e.ins h⟩
theorem Le.rn (e : Le H H') {r : Rn} (h : IsRn K H v r) : IsRn K H' v r := by
  obtain ⟨a, dx, x, y, rfl, h, h1, h2⟩ := h
  exact ⟨a, dx, x, y, rfl, e.ins h, e.pl h1, e.pl h2⟩
theorem Le.ps (e : Le H H') : ∀ {vs : List V} {ps : List Pl}, IsPs K H vs ps → IsPs K H' vs ps
  | _, _, .nil => .nil
  | _, _, .cons h t => .cons (e.pl h) (Le.ps e t)
theorem Le.sq (e : Le H H') (h : IsSq K H v vs) : IsSq K H' v vs := by
  obtain ⟨a, rfl, h⟩ := h
  exact ⟨a, rfl, h.elim (fun h => .inl (e.sqL h)) fun h => .inr (e.sqT h)⟩
theorem Ps.get : ∀ {vs : List V} {ps : List Pl} {i : Nat} {v : V}, IsPs K H vs ps → vs[i]? = some v → ∃ p, ps[i]? = some p ∧ IsPl K H v p
  | _, _, _, _, .nil, e => by simp at e
  | _, _, 0, _, .cons r _, e => by simp at e; subst e; exact ⟨_, rfl, r⟩
  | _, _, i + 1, _, .cons _ t, e => by
    obtain ⟨u, h1, h2⟩ := Ps.get (i := i) t (by simpa using e)
    exact ⟨u, by simpa using h1, h2⟩
theorem Ps.get2 : ∀ {vs : List V} {ps : List Pl} {i : Nat} {p : Pl}, IsPs K H vs ps → ps[i]? = some p → ∃ v, vs[i]? = some v ∧ IsPl K H v p
  | _, _, _, _, .nil, e => by simp at e
  | _, _, 0, _, .cons r _, e => by simp at e; subst e; exact ⟨_, rfl, r⟩
  | _, _, i + 1, _, .cons _ t, e => by
    obtain ⟨u, h1, h2⟩ := Ps.get2 (i := i) t (by simpa using e)
    exact ⟨u, by simpa using h1, h2⟩
theorem Ps.snoc {p : Pl} : ∀ {vs : List V} {ps : List Pl}, IsPs K H vs ps → IsPl K H v p → IsPs K H (vs ++ [v]) (ps ++ [p])
  | _, _, .nil, h => .cons h .nil
  | _, _, .cons r t, h => .cons r (Ps.snoc t h)
theorem Ps.length : ∀ {vs : List V} {ps : List Pl}, IsPs K H vs ps → vs.length = ps.length
  | _, _, .nil => rfl
  | _, _, .cons _ t => by rw [List.length_cons, List.length_cons, Ps.length t]
end

/-! ### bounds -/
/-- below 2^n in size -/
def Bi (n : Nat) (x : Int) : Prop := x.natAbs < 2 ^ n
def Bp (n : Nat) (p : Pl) : Prop := Bi n p.x ∧ Bi n p.y ∧ Bi n p.a
def Br (n : Nat) (r : Rn) : Prop := Bp n r.e ∧ Bp n r.n
def Bl (n : Nat) (ps : List Pl) : Prop := ∀ p ∈ ps, Bp n p
theorem Bi.mono {n m : Nat} {x : Int} (h : Bi n x) (k : n ≤ m) : Bi m x := Nat.lt_of_lt_of_le h (Nat.pow_le_pow_right (by decide) k)
theorem Bp.mono {n m : Nat} {p : Pl} (h : Bp n p) (k : n ≤ m) : Bp m p := ⟨h.1.mono k, h.2.1.mono k, h.2.2.mono k⟩
theorem Br.mono {n m : Nat} {p : Rn} (h : Br n p) (k : n ≤ m) : Br m p := ⟨h.1.mono k, h.2.mono k⟩
theorem Bl.mono {n m : Nat} {p : List Pl} (h : Bl n p) (k : n ≤ m) : Bl m p := fun q hq => (h q hq).mono k
theorem Bi.mul {n m : Nat} {x y : Int} (h : Bi n x) (k : Bi m y) : Bi (n + m) (x * y) := wide_lt h k
theorem Bi.add {n : Nat} {x y : Int} (h : Bi n x) (k : Bi n y) : Bi (n + 1) (x + y) := by
  unfold Bi at *
  rw [Nat.pow_succ]
  omega
theorem Bi.sub {n : Nat} {x y : Int} (h : Bi n x) (k : Bi n y) : Bi (n + 1) (x - y) := by
  unfold Bi at *
  rw [Nat.pow_succ]
  omega
theorem Bi.neg {n : Nat} {x : Int} (h : Bi n x) : Bi n (-x) := by
  unfold Bi at *
  rwa [Int.natAbs_neg]
theorem Bi.zero (n : Nat) : Bi n 0 := Nat.pos_of_ne_zero (by simp)
theorem Bi.one (n : Nat) : Bi (n + 1) 1 := by
  unfold Bi
  have : 0 < 2 ^ n := Nat.pos_of_ne_zero (by simp)
  rw [Nat.pow_succ]
  omega
theorem Bi.unit (n : Nat) {d : Int} (h : Unit1 d) : Bi (n + 1) d := by
  rcases h with h | h
  · rw [h]; exact Bi.one n
  · rw [h]; exact (Bi.one n).neg
theorem Bi.le {n : Nat} {x y : Int} (h : Bi n y) (k : x.natAbs ≤ y.natAbs) : Bi n x := Nat.lt_of_le_of_lt k h
theorem tri_bd {n : Nat} {x : Int} (h : Bi n x) : Bi (n + (n + 1)) (tri x) := by
  have h1 : Bi (n + 1) (x - 1) := by
    unfold Bi at *
    rw [Nat.pow_succ]
    omega
  have h2 := h.mul h1
  refine h2.le ?_
  unfold tri
  generalize x * (x - 1) = w
  omega
/-- what a quotient by a positive number is -/
theorem Bi.div {n : Nat} {x d : Int} (h : Bi n x) (hd : 0 < d) : Bi n (x / d) := by
  unfold Bi at *
  have h0 : x / d * d ≤ x := Int.ediv_mul_le x (by omega)
  have h1 : x < (x / d + 1) * d := Int.lt_ediv_add_one_mul_self x hd
  rcases Int.lt_or_le x 0 with hx | hx
  · have : x ≤ x / d := by
      rcases Int.lt_or_le (x / d) 0 with hq | hq
      · have h3 : (x / d + 1) * d ≤ (x / d + 1) * 1 := Int.mul_le_mul_of_nonpos_left (by omega) (by omega)
        omega
      · omega
    have : x / d < 0 := by
      rcases Int.lt_or_le (x / d) 0 with hq | hq
      · exact hq
      · have := Int.mul_nonneg hq (show (0 : Int) ≤ d by omega)
        omega
    omega
  · have : 0 ≤ x / d := Int.ediv_nonneg hx (by omega)
    have : x / d ≤ x := Int.ediv_le_self _ hx
    omega
theorem led_bd {b c : Nat} {e n p : Pl} (he : Bp c e) (hn : Bp c n) (hp : Bp b p) : Bp (2 * (b + c) + 5) (led e n p) := by
  obtain ⟨e1, e2, e3⟩ := he
  obtain ⟨n1, n2, n3⟩ := hn
  obtain ⟨p1, p2, p3⟩ := hp
  have x1 := p2.mul n1
  have x2 := p1.mul e1
  refine ⟨(x1.add x2).mono (by omega), ((p2.mul n2).add (p1.mul e2)).mono (by omega), ?_⟩
  have t1 := Bi.add (((p2.mul n3).mono (by omega : b + c ≤ 2 * (b + c) + 1))) ((((tri_bd p2).mul n1).mul n2).mono (by omega : b + (b + 1) + c + c ≤ 2 * (b + c) + 1))
  have t2 := Bi.add (((p1.mul e3).mono (by omega : b + c ≤ 2 * (b + c) + 1))) ((((tri_bd p1).mul e1).mul e2).mono (by omega : b + (b + 1) + c + c ≤ 2 * (b + c) + 1))
  have t3 := (x1.mul (p1.mul e2)).mono (by omega : b + c + (b + c) ≤ 2 * (b + c) + 1 + 1 + 1)
  have t4 := (((e1.mul n2).sub (n1.mul e2)).mul p3).mono (by omega : c + c + 1 + b ≤ 2 * (b + c) + 1 + 1 + 1 + 1)
  exact (((t1.add t2).add t3).add t4).mono (by omega)
theorem ap_bd {b c : Nat} {r : Rn} {p : Pl} (hr : Br c r) (hp : Bp b p) : Bp (2 * (b + c) + 5) (r.ap p) := led_bd hr.1 hr.2 hp
theorem map_bd {b c : Nat} {r : Rn} {l : List Pl} (hr : Br c r) (hp : Bl b l) : Bl (2 * (b + c) + 5) (l.map r.ap) := fun q hq => by
  obtain ⟨p, h, rfl⟩ := List.mem_map.mp hq
  exact ap_bd hr (hp p h)
theorem mul_bd {b c : Nat} {r s : Rn} (hr : Br c r) (hp : Br b s) : Br (2 * (b + c) + 5) (r.mul s) := ⟨ap_bd hr hp.1, ap_bd hr hp.2⟩

/-! ### products of numbers of up to ten million bits -/
def CMulB (i j : Int) : Prop := Bi 10000000 i ∧ Bi 10000000 j
theorem bits_of {i : Int} (h : Bi 10000000 i) : Builtin.Int.intBits i ≤ 10000000 := by
  have h1 : i.natAbs.log2 < 10000000 := PySem.Flt.log2_lt_of (by decide) h
  unfold Builtin.Int.intBits
  split <;> omega
theorem CMulB.ok {i j : Int} (h : CMulB i j) : IntMulOk i j := by
  have h1 := bits_of h.1
  have h2 := bits_of h.2
  have e : bitsLine = 134217728 := by decide
  have z : Builtin.Int.intTooBig (Builtin.Int.intBits i + Builtin.Int.intBits j) = false := by
    unfold Builtin.Int.intTooBig
    rw [e]
    exact decide_eq_false (by omega)
  unfold IntMulOk
  rw [z]
  simp
theorem op_mulB {X : Cx} : OpR X (binaryOp .Mult) (rI CMulB fun i j => .int (i * j)) := opI fun _ _ _ _ _ _ _ hc q => mul_int q hc.ok
theorem mulB {n m : Nat} {i j : Int} (h : Bi n i) (k : Bi m j) (hn : n ≤ 10000000) (hm : m ≤ 10000000) : CMulB i j := ⟨h.mono hn, k.mono hm⟩
theorem divB {n : Nat} {i j : Int} (hj : 0 < j) (h : Bi n j) (hn : n ≤ 8999) : CDivW i j := by
  refine ⟨hj, ?_⟩
  exact Nat.lt_of_lt_of_le (PySem.Flt.log2_lt_of (Nat.succ_pos n) (h.mono (Nat.le_succ n))) (by omega)

/-! ### defs by their promises -/
/-- the def at f keeps sp -/
structure Df (P : Program) (w : World) (K : PySem.W.Frag) (mg : Str → Option Value) (base : Heap) (CX : CXT) (k : Nat) (f : Addr) (ps : List Str) (sp : Sp) : Prop where
  ex : ∃ fd, FnOk P w K mg base CX k f fd ps sp ∧ Binds K fd ps []
  kp : PySem.W.keepIn K (.ref f) = true
theorem Df.mono {P : Program} {w : World} {K : PySem.W.Frag} {mg : Str → Option Value} {base : Heap} {CX : CXT} {j k : Nat} {f : Addr} {ps : List Str} {sp : Sp} (D : Df P w K mg base CX j f ps sp) (h : j ≤ k) : Df P w K mg base CX k f ps sp :=
  let ⟨fd, G, b⟩ := D.ex
  ⟨⟨fd, G.mono h, b⟩, D.kp⟩
theorem _root_.L2.PE.imp {X : Cx} {e : Expr} {t t' : TE} (h : PE X e t) (k : ∀ σ H Q, t' σ H Q → t σ H Q) : PE X e t' := ⟨fun pins s σ H Q I q => h.run pins s σ H Q I (k σ H Q q)⟩
theorem _root_.L2.PA.imp {X : Cx} {es : List Expr} {t t' : TA} (h : PA X es t) (k : ∀ σ H Q, t' σ H Q → t σ H Q) : PA X es t' := ⟨fun pos pins s σ H Q I q => h.run pos pins s σ H Q I (k σ H Q q)⟩
theorem _root_.L2.PT.imp {X : Cx} {e : Expr} {t t' : TT} (h : PT X e t) (k : ∀ σ H Q, t' σ H Q → t σ H Q) : PT X e t' := ⟨fun pins s σ H Q I q => h.run pins s σ H Q I (k σ H Q q)⟩
/-- f(e, ..) -/
def tD (sp : Sp) (E : XK) (t : TA) : TE := fun σ H Q => t σ H fun vs H1 => sp vs H1 Q E
section
variable {X : Cx} {CX : CXT} {k : Nat} {f C : Addr} {ps : List Str} {sp : Sp} {E : XK} {x m : Str} {p pos apos : Pos} {e o : Expr} {es : List Expr} {ta tb : TE} {t : TA}
theorem app_nil (sp : Sp) (E : XK) (Q : VK) : (fun (vs : List V) (H1 : Hp) => sp (vs ++ []) H1 Q E) = fun vs H1 => sp vs H1 Q E := by
  funext vs H1
  rw [List.append_nil]
theorem pe_df (D : Df X.prog X.w X.K X.mg X.base CX k f ps sp) (hr : Room k X.A) (hg : Gl X x) (hm : X.mg x = some (.ref f)) (hx : Passes CX X E) (ha : PA X (e :: es) t)
    (hdb : (x == ("__debug__" : Str)) = false := by decide) (he : starEach (e :: es) X.env = (false, eval e X.env) :: starEach es X.env := by rfl) (hpl : (backTo pos (starEach es X.env)).any (·.1) = false := by rfl) :
    PE X (.Call (.Name x p) (e :: es) [] pos) (tD sp E t) := by
  obtain ⟨fd, G, b⟩ := D.ex
  refine (pe_call G hr hg hm D.kp b .nil hx ha hdb he hpl).imp fun σ H Q h => ?_
  show t σ H fun vs H1 => sp (vs ++ []) H1 Q E
  rw [app_nil]
  exact h
theorem pe_df0 (D : Df X.prog X.w X.K X.mg X.base CX k f ps sp) (hr : Room k X.A) (hg : Gl X x) (hm : X.mg x = some (.ref f)) (hx : Passes CX X E)
    (hdb : (x == ("__debug__" : Str)) = false := by decide) : PE X (.Call (.Name x p) [] [] pos) (tD sp E tNil) := by
  obtain ⟨fd, G, b⟩ := D.ex
  exact (pe_call0 G hr hg hm D.kp b .nil hx hdb).imp fun σ H Q h => h
/-- o.m(e, ..) -/
def tM (C : Addr) (m : Str) (sp : Sp) (E : XK) (ta : TE) (t : TA) : TE := fun σ H Q => ta σ H fun x H1 => ∃ a dx fs, x = .ref a ∧ H1 a = some (.ins C dx fs) ∧ fs.lookup m = none ∧ t σ H1 fun vs H2 => sp (x :: vs) H2 Q E
theorem pe_mt {pl : Sem Bool} (he : PE X o ta) (c : Cls X.K C) (hm : Meth X.K C m f) (D : Df X.prog X.w X.K X.mg X.base CX k f ps sp) (hr : Room k X.A) (hx : Passes CX X E) (ha : PA X (e :: es) t)
    (hst : starEach (e :: es) X.env = (false, eval e X.env) :: starEach es X.env := by rfl) (hpl : (backTo pos (starEach es X.env)).any (·.1) = false := by rfl)
    (ht : eval (.Call (.Attribute o m apos) (e :: es) [] pos) X.env = (do
      let ov ← eval o X.env
      standAt apos.atName
      let (f, first) ← holding [ov] (getMethod ov m pl)
      callWith pos f first (backTo pos (starEach (e :: es) X.env)) (backToKw pos (keywordEach [] X.env))) := by rfl) :
    PE X (.Call (.Attribute o m apos) (e :: es) [] pos) (tM C m sp E ta t) := by
  obtain ⟨fd, G, b⟩ := D.ex
  refine (pe_meth (pl := pl) he c hm G hr b .nil hx ha hst hpl ht).imp fun σ H Q h => ?_
  show ta σ H fun x H1 => ∃ a dx fs, x = .ref a ∧ H1 a = some (.ins C dx fs) ∧ fs.lookup m = none ∧ t σ H1 fun vs H2 => sp (x :: (vs ++ [])) H2 Q E
  have e1 : ∀ x : V, (fun (vs : List V) (H2 : Hp) => sp (x :: (vs ++ [])) H2 Q E) = fun vs H2 => sp (x :: vs) H2 Q E := fun x => by
    funext vs H1
    rw [List.append_nil]
  simp only [e1]
  exact h
/-- the call of a def, of values -/
theorem run_df {pins : List (Addr × Obj)} {σ : L2.St} {H : Hp} {s : Shared} {Q : VK} {us : List Value} {vs : List V} (D : Df X.prog X.w X.K X.mg X.base CX k f ps sp) (hr : Room k X.A) (hx : Passes CX X E) (I : Inv X pins σ H s) (r : Vals vs us) (h : sp vs H Q E) :
    wpAny (model X.prog X.w) X.A (call (.ref f) us) (EP X pins σ Q) X.xe s := by
  obtain ⟨fd, G, b⟩ := D.ex
  exact run_fn G hr b .nil hx I r (by rw [List.append_nil]; exact h)
/-- x op y, both instances of the class at C, by its own method -/
def rOwn (C : Addr) (sp : Sp) (E : XK) : R2 := fun x y H Q => ∃ a b dx dy fs gs, x = .ref a ∧ y = .ref b ∧ H a = some (.ins C dx fs) ∧ H b = some (.ins C dy gs) ∧ sp [.ref a, .ref b] H Q E
theorem not_ni {v : V} {u : Value} (r : RelV v u) {Q : Value → Shared → Prop} {s : Shared} (h : Q u s) : PySem.W.CmpBack Q u s := by
  cases v with
  | non => cases r; exact h
  | bl _ => cases r; exact h
  | int _ => obtain ⟨t, rfl⟩ := r; exact h
  | str _ => obtain ⟨t, rfl⟩ := r; exact h
  | byt _ => obtain ⟨t, rfl⟩ := r; exact h
  | flt _ => obtain ⟨t, rfl⟩ := r; exact h
  | ref _ => cases r; exact h
  | ty _ => cases r; exact h
theorem op_own {op : Operator} (D : Df X.prog X.w X.K X.mg X.base CX k f ps sp) (hr : Room k X.A) (hx : Passes CX X E) (hc : PySem.W.selfFirst X.K C = true)
    (hs : PySem.W.findIn X.K (.ref C) (PySem.dunder op.info.2) = some (some (.ref f))) (hf : PySem.W.isFn X.K (.ref f) = true) : OpR X (binaryOp op) (rOwn C sp E) := by
  intro pins s σ H x y v u Q I rx ry h
  obtain ⟨a, b, dx, dy, fs, gs, rfl, rfl, ha, hb, h⟩ := h
  cases rx
  cases ry
  obtain ⟨mA, J, _⟩ := ins_get I.hok ha
  obtain ⟨mB, J', _⟩ := ins_get I.hok hb
  obtain ⟨od, J, _⟩ := J.look
  obtain ⟨od', J', _⟩ := J'.look
  obtain ⟨m, hF⟩ := I.fr
  refine PySem.W.binop_K hF I.ok.mod.kin J J'.type hc hs hf ?_
  refine thn (run_df D hr hx I (vs := [.ref a, .ref b]) (.cons rfl (.cons rfl .nil)) h) fun w s2 hq => ?_
  obtain ⟨z, H', I', rz, q⟩ := hq
  exact not_ni rz ⟨z, H', I', rz, q⟩
/-- ~x, an instance -/
def rOwn1 (C : Addr) (sp : Sp) (E : XK) : V → Hp → VK → Prop := fun x H Q => ∃ a dx fs, x = .ref a ∧ H a = some (.ins C dx fs) ∧ sp [.ref a] H Q E
theorem un_own (D : Df X.prog X.w X.K X.mg X.base CX k f ps sp) (hr : Room k X.A) (hx : Passes CX X E) (hs : PySem.W.findIn X.K (.ref C) "__invert__" = some (some (.ref f))) (hf : PySem.W.isFn X.K (.ref f) = true) :
    UnR X (unaryOp .Invert) (rOwn1 C sp E) := by
  intro pins s σ H x v Q I rx h
  obtain ⟨a, dx, fs, rfl, ha, h⟩ := h
  cases rx
  obtain ⟨mA, J, _⟩ := ins_get I.hok ha
  obtain ⟨od, J, _⟩ := J.look
  obtain ⟨m, hF⟩ := I.fr
  exact PySem.W.ksp_inv hF I.ok.mod.kin J hs hf (run_df D hr hx I (vs := [.ref a]) (.cons rfl .nil) h)
end
end AW
/-! The text's facts; places. -/
namespace AW
open PySem PySem.Spec PyProof.Rows L2

/-- a class whose instances are asked for their class -/
structure ClsX (K : PySem.W.Frag) (C : Addr) : Prop where
  cl : Cls K C
  ha : PySem.W.findIn K (.ref C) "__class__" = some (some (.builtin "object.__class__"))
  hm : PySem.W.mroIn K C (.type "object") = some true
  sf : PySem.W.selfFirst K C = true
def globs1 : List Str := ["is_integer", "bezout_of", "pairs_below", "need_place", "need_places", "led_by", "same_names", "first_at", "renamed_all", "turned_east", "leaned_north", "lowered_areas", "figures_of", "least_list", "list_key", "alike", "lot_key", "alike_lots", "Place", "Renaming", "BadPlace", "Uneven"]
def globs2 : List Str := ["_law_begin", "_law_draw", "_law_pick", "_law_small", "_law_join", "_law_times", "_law_place", "_law_whole", "_law_row", "_law_twist", "_law_renamed", "_law_onto", "_law_six", "_law_mid", "_law_list", "_law_how", "_law_refused"]
def globs : List Str := globs1 ++ globs2
def frees : List Str := ["isinstance", "int", "bool", "abs", "enumerate", "list", "tuple", "len", "range", "all", "super"]
/-- what the text's top has left -/
structure Txt (K : PySem.W.Frag) (mg : Str → Option Value) : Prop where
  p : ClsX K (CP K)
  r : ClsX K (CR K)
  cg : PySem.W.specialIn K (.builtin "object.__class__") "__get__" = some (some (.builtin "getset_descriptor.__get__"))
  ct : PySem.W.takesIn K (.builtin "object.__class__") = some true
  gl : ∀ x ∈ globs, mg x = some (.ref (He.ga K x))
  fr : ∀ x ∈ frees, mg x = none
  px : NoAttr K (CP K) "x"
  py : NoAttr K (CP K) "y"
  pa : NoAttr K (CP K) "area"
  re : NoAttr K (CR K) "east"
  rn : NoAttr K (CR K) "north"
  mkP : Mk K (CP K) (He.ma K (CP K) "__init__")
  mkR : Mk K (CR K) (He.ma K (CR K) "__init__")
  pm : ∀ m ∈ (["__mul__", "__eq__", "power", "lifted", "twist"] : List Str), Meth K (CP K) m (He.ma K (CP K) m)
  rm : ∀ m ∈ (["__mul__", "__invert__", "__call__"] : List Str), Meth K (CR K) m (He.ma K (CR K) m)
  rc : PySem.W.fnIn K (He.ma K (CR K) "__call__") = true
  kP : PySem.W.kitOne K (.ref (CP K)) (.ref (CP K)) = some true
  kR : PySem.W.kitOne K (.ref (CR K)) (.ref (CR K)) = some true
  kN : ∀ t ∈ (["NoneType", "int", "tuple", "str", "list"] : List String), PySem.W.kitOne K (.type t) (.ref (CP K)) = some false

section
variable {K : PySem.W.Frag} {mg : Str → Option Value} {H : Hp} {v : V}
theorem ty_pl (T : Txt K mg) {a dx : Addr} {fs : List (Str × V)} (h : H a = some (.ins (CP K) dx fs)) : TyX K H (.ref a) (.ref (CP K)) := .base (.ins h T.p.cl T.p.ha T.cg T.ct T.p.hm)
theorem ty_rn (T : Txt K mg) {a dx : Addr} {fs : List (Str × V)} (h : H a = some (.ins (CR K) dx fs)) : TyX K H (.ref a) (.ref (CR K)) := .base (.ins h T.r.cl T.r.ha T.cg T.ct T.r.hm)
end

/-- the facts of a def, of a method -/
abbrev FnP (K : PySem.W.Frag) (x : Str) (st : Stmt) (fd : FuncData) : Prop := FunD K x x (defArgs st) (defBody st) (defScope st) [] [] (He.ga K x) fd
abbrev FnM (K : PySem.W.Frag) (C m q : Str) (st : Stmt) (fd : FuncData) : Prop := FunD K m q (defArgs st) (defBody st) (defScope st) [] [] (He.ma K (He.ga K C) m) fd

/-! ### promises -/
def spIsInt : Sp := fun vs H Q _ => ∃ i : Int, vs = [.int i] ∧ Q (.bl true) H
def spPairs : Sp := fun vs H Q _ => ∃ i : Int, vs = [.int i] ∧ Bi 9000000 i ∧ Q (.int (tri i)) H
/-- __init__: the new instance is filled; all else stands -/
def spInitP (K : PySem.W.Frag) : Sp := fun vs H Q _ => ∃ (a dx : Addr) (x y z : Int), vs = [.ref a, .int x, .int y, .int z] ∧ H a = some (.ins (CP K) dx []) ∧
  ∀ H', (∀ b o, b ≠ a → H b = some o → H' b = some o) → H' a = some (.ins (CP K) dx (pf ⟨x, y, z⟩)) → Q .non H'
/-- the answer: a value of which P holds, in a heap that has grown -/
def Gives (H : Hp) (P : V → Hp → Prop) (Q : VK) : Prop := ∀ v H', Ex H H' → P v H' → Q v H'
def spPower (K : PySem.W.Frag) : Sp := fun vs H Q _ => ∃ (u : V) (p : Pl) (k : Int), vs = [u, .int k] ∧ IsPl K H u p ∧ Bp 3000000 p ∧ Bi 3000000 k ∧ Gives H (fun v H' => IsPl K H' v (p.pw k)) Q
def spMul (K : PySem.W.Frag) : Sp := fun vs H Q _ => ∃ (u v : V) (p q : Pl), vs = [u, v] ∧ IsPl K H u p ∧ IsPl K H v q ∧ Bp 9000000 p ∧ Bp 9000000 q ∧ Gives H (fun v H' => IsPl K H' v (p.mul q)) Q
def spUp (K : PySem.W.Frag) : Sp := fun vs H Q _ => ∃ (u : V) (p : Pl) (k : Int), vs = [u, .int k] ∧ IsPl K H u p ∧ Gives H (fun v H' => IsPl K H' v (p.up k)) Q
def spTw (K : PySem.W.Frag) : Sp := fun vs H Q _ => ∃ (u v : V) (p q : Pl), vs = [u, v] ∧ IsPl K H u p ∧ IsPl K H v q ∧ Bp 9000000 p ∧ Bp 9000000 q ∧ Q (.int (tw p q)) H

section
variable {P : Program} {w : World} {K : PySem.W.Frag} {mg : Str → Option Value} {base : Heap}
theorem sc_isint : FnScope ["value"] ["value"] (defScope s_is_integer) := ⟨rfl, rfl, rfl, by decide +kernel, rfl, by decide +kernel, by decide +kernel⟩
theorem ok_isint {fd : FuncData} (F : FnP K "is_integer" s_is_integer fd) (T : Txt K mg) : Df P w K mg base CX0 1 (He.ga K "is_integer") ["value"] spIsInt := by
  refine ⟨⟨fd, F.ok sc_isint (fun vs H Q E h => ?_) (fun cdv A outer s H vs Q E hr h => ?_), F.bindsN fun _ _ _ _ _ _ us hl => match us, hl with | [_], _ => rfl⟩, F.kp⟩
  · obtain ⟨i, rfl, _⟩ := h
    rfl
  · obtain ⟨i, rfl, hQ⟩ := h
    refine ⟨_, PSs.nox (pss_one (ps_ret (pe_and (pe_callB call_isi rfl (T.fr "isinstance" (by decide +kernel)) boot_isinstance (pa_cons (pv 0) (pa_cons (pe_bltn (v := .ty "int") rfl (T.fr "int" (by decide +kernel)) boot_int rfl) pa_nil)))
      (pe_one (pe_not (pe_callB call_isi rfl (T.fr "isinstance" (by decide +kernel)) boot_isinstance (pa_cons (pv 0) (pa_cons (pe_bltn (v := .ty "bool") rfl (T.fr "bool" (by decide +kernel)) boot_bool rfl) pa_nil)))))))), ?_⟩
    refine ⟨_, rfl, _, _, _, _, true, rfl, .ty "int", .base (.int i), kit_ty (by decide +kernel), true, rfl, iteT ?_⟩
    exact ⟨_, rfl, _, _, _, _, false, rfl, .ty "bool", .base (.int i), kit_ty (by decide +kernel), false, rfl, hQ⟩
theorem sc_pairs : FnScope ["number"] ["number"] (defScope s_pairs_below) := ⟨rfl, rfl, rfl, by decide +kernel, rfl, by decide +kernel, by decide +kernel⟩
theorem ok_pairs {fd : FuncData} (F : FnP K "pairs_below" s_pairs_below fd) : Df P w K mg base CX0 1 (He.ga K "pairs_below") ["number"] spPairs := by
  refine ⟨⟨fd, F.ok sc_pairs (fun vs H Q E h => ?_) (fun cdv A outer s H vs Q E hr h => ?_), F.bindsN fun _ _ _ _ _ _ us hl => match us, hl with | [_], _ => rfl⟩, F.kp⟩
  · obtain ⟨i, rfl, _⟩ := h
    rfl
  · obtain ⟨i, rfl, hb, hQ⟩ := h
    refine ⟨_, PSs.nox (pss_one (ps_ret (pe_op op_fdiv (pe_op op_mulB (pv 0) (pe_op op_sub (pv 0) pe_int)) pe_int))), ?_⟩
    refine ⟨_, rfl, _, rfl, _, _, rfl, rfl, _, _, rfl, rfl, mulB hb (hb.sub (Bi.one _ |>.mono (by omega : 0 + 1 ≤ 9000000))) (by decide) (by decide), _, _, rfl, rfl, ⟨by decide, by decide⟩, hQ⟩
/-! ### Place.__init__, and Place(..) -/
theorem int3 {x y z : Int} {i : Nat} {v : V} (h : ([V.int x, V.int y, V.int z] : List V)[i]? = some v) : ∃ n, v = .int n := by
  match i, h with
  | 0, h => exact ⟨x, (Option.some.inj h).symm⟩
  | 1, h => exact ⟨y, (Option.some.inj h).symm⟩
  | 2, h => exact ⟨z, (Option.some.inj h).symm⟩
  | i + 3, h => cases h
theorem sc_initP : FnScope ["self", "x", "y", "area", "value"] ["self", "x", "y", "area"] (defScope s_Place_init) := ⟨rfl, rfl, rfl, by decide +kernel, rfl, by decide +kernel, by decide +kernel⟩
theorem ok_initP {fd : FuncData} (F : FnM K "Place" "__init__" "Place.__init__" s_Place_init fd) (T : Txt K mg) (D1 : Df P w K mg base CX0 1 (He.ga K "is_integer") ["value"] spIsInt) :
    Df P w K mg base CX0 2 (He.ma K (CP K) "__init__") ["self", "x", "y", "area"] (spInitP K) := by
  refine ⟨⟨fd, F.ok sc_initP (fun vs H Q E h => ?_) (fun cdv A outer s H vs Q E hr h => ?_), F.bindsN fun _ _ _ _ _ _ us hl => match us, hl with | [_, _, _, _], _ => rfl⟩, F.kp⟩
  · obtain ⟨a, dx, x, y, z, rfl, _⟩ := h
    rfl
  · obtain ⟨a, dx, x, y, z, rfl, ha, k⟩ := h
    refine ⟨_, PSs.nox (pss_cons (ps_for PassesOwn.never rfl (pi_tup (pe_tup (pa_cons (pv 1) (pa_cons (pv 2) (pa_cons (pv 3) pa_nil))))) (pg_name (i := 4) sc_initP.nd rfl (.inl rfl))
        (pss_one (ps_if (pt_not (pt_val (pe_df D1 hr rfl (T.gl "is_integer" (by decide +kernel)) pass0 (pa_cons (pv 4) pa_nil)))) (pss_one ps_never) pss_nil)))
      (pss_cons (ps_fld (pv 0) (pv 1) rfl) (pss_cons (ps_fld (pv 0) (pv 2) rfl) (pss_one (ps_fld (pv 0) (pv 3) rfl))))), ?_⟩
    refine ⟨_, rfl, _, rfl, _, rfl, (by show 3 ≤ sizeLine; decide), fun p np => ⟨p, rfl, ⟨_, SqT.of upd_same⟩,
      for_tup (K := K) (a := p) (xs := [.int x, .int y, .int z]) (fun i σ H' => ∃ v, σ = [some (.ref a), some (.int x), some (.int y), some (.int z), v] ∧ H' = upd H p (.tup [.int x, .int y, .int z])) ⟨none, rfl, rfl⟩ ?_ ?_ ?_⟩⟩
    · rintro i σ H' _ ⟨v, rfl, rfl⟩
      exact SqT.of upd_same
    · rintro i u σ H' hu ⟨v, rfl, rfl⟩
      obtain ⟨n, rfl⟩ := int3 hu
      exact ⟨_, rfl, n, rfl, true, rfl, iteF ⟨_, rfl, rfl⟩⟩
    · rintro σ H' ⟨v, rfl, rfl⟩
      have nap : a ≠ p := ne_of_none ha np
      refine ⟨_, rfl, _, rfl, a, CP K, dx, [], rfl, (by rw [upd_ne nap]; exact ha), T.p.cl, T.px, by show 0 < 1000; decide, ?_⟩
      refine ⟨_, rfl, _, rfl, a, CP K, dx, _, rfl, upd_same, T.p.cl, T.py, by show 1 < 1000; decide, ?_⟩
      refine ⟨_, rfl, _, rfl, a, CP K, dx, _, rfl, upd_same, T.p.cl, T.pa, by rw [show putF "y" (.int y) (putF "x" (.int x) []) = [(("x" : Str), V.int x), ("y", .int y)] from by
        rw [show putF "x" (.int x) [] = [(("x" : Str), V.int x)] from rfl, put_ne (by decide +kernel)] <;> rfl]; show 2 < 1000; decide, ?_⟩
      refine k _ (fun b o hb e => ?_) ?_
      · rw [upd_ne hb, upd_ne hb, upd_ne hb, upd_ne (ne_of_none e np)]
        exact e
      · rw [upd_same, pf_put]
end
/-- Place(x, y, area) -/
def tPlc (K : PySem.W.Frag) (t : TA) : TE := fun σ H Q => t σ H fun vs H1 => ∃ x y z : Int, vs = [.int x, .int y, .int z] ∧ Gives H1 (fun v H' => IsPl K H' v ⟨x, y, z⟩) Q
section
variable {X : Cx} {k : Nat} {x : Str} {p pos : Pos} {e : Expr} {es : List Expr} {t : TA}
theorem pe_plc (T : Txt X.K X.mg) (D : Df X.prog X.w X.K X.mg X.base CX0 2 (He.ma X.K (CP X.K) "__init__") ["self", "x", "y", "area"] (spInitP X.K)) (hr : Room 3 X.A) (hg : Gl X "Place") (ha : PA X (e :: es) t)
    (he : starEach (e :: es) X.env = (false, eval e X.env) :: starEach es X.env := by rfl) (hpl : (backTo pos (starEach es X.env)).any (·.1) = false := by rfl) :
    PE X (.Call (.Name "Place" p) (e :: es) [] pos) (tPlc X.K t) := by
  obtain ⟨fd, G, b⟩ := D.ex
  refine ⟨fun pins s σ H Q I h => ?_⟩
  refine wpAny_Call_Name_kw (ld_glob I hg (T.gl "Place" (by decide +kernel)) ?_)
  refine PySem.W.callWith_K (h₀ := X.base) I.ok.mod.kin T.mkP.kp (thn (ha.run pos pins s σ H _ I h) fun us s1 hh => ?_) he hpl
  obtain ⟨vs, H1, I1, r, i, j, z, rfl, k⟩ := hh
  refine ⟨I1.kIn, run_make T.mkP G hr b .nil pass0 I1 r fun a dx na ndx ne => ?_⟩
  refine ⟨a, dx, i, j, z, rfl, upd_same, fun H' st ha => ⟨rfl, k _ H' (fun c o ec => ?_) ⟨a, dx, rfl, ha⟩⟩⟩
  have nca : c ≠ a := ne_of_none ec na
  refine st c o nca ?_
  rw [upd_ne nca, upd_ne (ne_of_none ec ndx)]
  exact ec
end

/-! ### a place's methods -/
section
variable {P : Program} {w : World} {K : PySem.W.Frag} {mg : Str → Option Value} {base : Heap}
/-- what a place's methods lean on -/
structure D0 (P : Program) (w : World) (K : PySem.W.Frag) (mg : Str → Option Value) (base : Heap) : Prop where
  T : Txt K mg
  int : Df P w K mg base CX0 1 (He.ga K "is_integer") ["value"] spIsInt
  prs : Df P w K mg base CX0 1 (He.ga K "pairs_below") ["number"] spPairs
  ini : Df P w K mg base CX0 2 (He.ma K (CP K) "__init__") ["self", "x", "y", "area"] (spInitP K)
theorem no_m (p : Pl) : (pf p).lookup ("power" : Str) = none ∧ (pf p).lookup ("lifted" : Str) = none ∧ (pf p).lookup ("twist" : Str) = none :=
  ⟨pf_no p (by decide +kernel) (by decide +kernel) (by decide +kernel), pf_no p (by decide +kernel) (by decide +kernel) (by decide +kernel), pf_no p (by decide +kernel) (by decide +kernel) (by decide +kernel)⟩

theorem sc_power : FnScope ["self", "number"] ["self", "number"] (defScope s_Place_power) := ⟨rfl, rfl, rfl, by decide +kernel, rfl, by decide +kernel, by decide +kernel⟩
theorem ok_power {fd : FuncData} (F : FnM K "Place" "power" "Place.power" s_Place_power fd) (D : D0 P w K mg base) : Df P w K mg base CX0 5 (He.ma K (CP K) "power") ["self", "number"] (spPower K) := by
  refine ⟨⟨fd, F.ok sc_power (fun vs H Q E h => ?_) (fun cdv A outer s H vs Q E hr h => ?_), F.bindsN fun _ _ _ _ _ _ us hl => match us, hl with | [_, _], _ => rfl⟩, F.kp⟩
  · obtain ⟨u, p, k, rfl, _⟩ := h
    rfl
  · have T := D.T
    obtain ⟨u, p, n, rfl, ⟨a, dx, rfl, ha⟩, ⟨b1, b2, b3⟩, bn, k⟩ := h
    refine ⟨_, PSs.nox (pss_cons (ps_if (pt_not (pt_val (pe_df D.int (hr.mono (by decide)) rfl (T.gl "is_integer" (by decide +kernel)) pass0 (pa_cons (pv 1) pa_nil)))) (pss_one ps_never) pss_nil)
      (pss_one (ps_ret (pe_plc T D.ini (hr.mono (by decide)) rfl (pa_cons (pe_op op_mulB (pv 1) (pe_fld (pv 0) rfl)) (pa_cons (pe_op op_mulB (pv 1) (pe_fld (pv 0) rfl)) (pa_cons
        (pe_op op_add (pe_op op_mulB (pv 1) (pe_fld (pv 0) rfl)) (pe_op op_mulB (pe_op op_mulB (pe_df D.prs (hr.mono (by decide)) rfl (T.gl "pairs_below" (by decide +kernel)) pass0 (pa_cons (pv 1) pa_nil)) (pe_fld (pv 0) rfl)) (pe_fld (pv 0) rfl))) pa_nil))))))), ?_⟩
    refine ⟨_, rfl, n, rfl, true, rfl, iteF ?_⟩
    refine ⟨_, rfl, _, rfl, a, CP K, dx, _, _, rfl, ha, T.p.cl, T.px, pf_x p, n, p.x, rfl, rfl, mulB bn b1 (by decide) (by decide), ?_⟩
    refine ⟨_, rfl, _, rfl, a, CP K, dx, _, _, rfl, ha, T.p.cl, T.py, pf_y p, n, p.y, rfl, rfl, mulB bn b2 (by decide) (by decide), ?_⟩
    refine ⟨_, rfl, _, rfl, a, CP K, dx, _, _, rfl, ha, T.p.cl, T.pa, pf_a p, n, p.a, rfl, rfl, mulB bn b3 (by decide) (by decide), ?_⟩
    refine ⟨_, rfl, n, rfl, bn.mono (by decide), _, rfl, a, CP K, dx, _, _, rfl, ha, T.p.cl, T.px, pf_x p, _, p.x, rfl, rfl, mulB (tri_bd bn) b1 (by decide) (by decide), ?_⟩
    refine ⟨_, rfl, a, CP K, dx, _, _, rfl, ha, T.p.cl, T.py, pf_y p, _, p.y, rfl, rfl, mulB ((tri_bd bn).mul b1) b2 (by decide) (by decide), _, _, rfl, rfl, ?_⟩
    exact ⟨_, _, _, rfl, k⟩
end
end AW
/-! Places' further methods; renamings. -/
namespace AW
open PySem PySem.Spec PyProof.Rows L2

theorem dun_mul : PySem.dunder Operator.Mult.info.2 = ("__mul__" : Str) := by decide +kernel
/-- the argument is a place: nothing is raised -/
def spNeed1 (K : PySem.W.Frag) : Sp := fun vs H Q _ => ∃ (a dx : Addr) (fs : List (Str × V)), vs = [.ref a] ∧ H a = some (.ins (CP K) dx fs) ∧ Q .non H
def spNeeds1 (K : PySem.W.Frag) : Sp := fun vs H Q _ => ∃ (u : V) (us : List V) (ps : List Pl), vs = [u] ∧ IsSq K H u us ∧ IsPs K H us ps ∧ Q .non H
/-- equal places -/
def EqP (K : PySem.W.Frag) (a b : Addr) (H : Hp) : Prop := ∃ p, IsPl K H (.ref a) p ∧ IsPl K H (.ref b) p
def spLed (K : PySem.W.Frag) : Sp := fun vs H Q _ => ∃ (e n v : V) (pe pn p : Pl) (b c : Nat), vs = [e, n, v] ∧ IsPl K H e pe ∧ IsPl K H n pn ∧ IsPl K H v p ∧ Bp c pe ∧ Bp c pn ∧ Bp b p ∧ b + c ≤ 1000000 ∧ Gives H (fun v H' => IsPl K H' v (led pe pn p)) Q
/-- Renaming.__init__ -/
def spInitR (K : PySem.W.Frag) : Sp := fun vs H Q _ => ∃ (a dx : Addr) (e n : V) (pe pn : Pl), vs = [.ref a, e, n] ∧ H a = some (.ins (CR K) dx []) ∧ IsPl K H e pe ∧ IsPl K H n pn ∧
  Q .non (upd H a (.ins (CR K) dx (rf e n)))
def spAp (K : PySem.W.Frag) : Sp := fun vs H Q _ => ∃ (u v : V) (r : Rn) (p : Pl) (b c : Nat), vs = [u, v] ∧ IsRn K H u r ∧ IsPl K H v p ∧ Br c r ∧ Bp b p ∧ b + c ≤ 1000000 ∧ Gives H (fun v H' => IsPl K H' v (r.ap p)) Q
def spMulR (K : PySem.W.Frag) : Sp := fun vs H Q _ => ∃ (u v : V) (r s : Rn) (b c : Nat), vs = [u, v] ∧ IsRn K H u r ∧ IsRn K H v s ∧ Br c r ∧ Br b s ∧ b + c ≤ 1000000 ∧ Gives H (fun v H' => IsRn K H' v (r.mul s)) Q
def spInv (K : PySem.W.Frag) : Sp := fun vs H Q _ => ∃ (u : V) (r : Rn) (c : Nat), vs = [u] ∧ IsRn K H u r ∧ Unit1 r.det ∧ Br c r ∧ 1 ≤ c ∧ 4 * c + 20 ≤ 1000000 ∧ Gives H (fun v H' => IsRn K H' v r.inv) Q
def spOne (K : PySem.W.Frag) : Sp := fun vs H Q _ => vs = [] ∧ Gives H (fun v H' => IsRn K H' v Rn.one) Q

section
variable {P : Program} {w : World} {K : PySem.W.Frag} {mg : Str → Option Value} {base : Heap}
theorem sc_need : FnScope ["value"] ["value"] (defScope s_need_place) := ⟨rfl, rfl, rfl, by decide +kernel, rfl, by decide +kernel, by decide +kernel⟩
theorem ok_need1 {fd : FuncData} (F : FnP K "need_place" s_need_place fd) (T : Txt K mg) : Df P w K mg base CX0 1 (He.ga K "need_place") ["value"] (spNeed1 K) := by
  refine ⟨⟨fd, F.ok sc_need (fun vs H Q E h => ?_) (fun cdv A outer s H vs Q E hr h => ?_), F.bindsN fun _ _ _ _ _ _ us hl => match us, hl with | [_], _ => rfl⟩, F.kp⟩
  · obtain ⟨a, dx, fs, rfl, _⟩ := h
    rfl
  · obtain ⟨a, dx, fs, rfl, ha, hQ⟩ := h
    refine ⟨_, PSs.nox (pss_one (ps_if (pt_not (pt_val (pe_callB call_isi rfl (T.fr "isinstance" (by decide +kernel)) boot_isinstance (pa_cons (pv 0) (pa_cons (pe_glob (v := .ref (CP K)) rfl (T.gl "Place" (by decide +kernel)) rfl) pa_nil))))) (pss_one ps_never) pss_nil)), ?_⟩
    exact ⟨_, rfl, _, _, _, _, true, rfl, .own _, ty_pl T ha, T.kP, true, rfl, iteF hQ⟩
theorem sc_needs : FnScope ["values", "value"] ["values"] (defScope s_need_places) := ⟨rfl, rfl, rfl, by decide +kernel, rfl, by decide +kernel, by decide +kernel⟩
end
/-- a for over what stands in the i-th slot, a list or a tuple -/
def iSq (K : PySem.W.Frag) (i : Nat) : TI := fun σ H R => ∃ a, σ[i]? = some (some (.ref a)) ∧ ((∃ xs, SqL K H a xs ∧ R (Itl K a) H) ∨ (∃ xs, SqT K H a xs ∧ R (Itt K a) H))
theorem pi_sq {X : Cx} {tg e : Expr} {i : Nat} (he : PE X e (tVar i)) : PI X tg e (iSq X.K i) := by
  refine ⟨fun pins s σ H R I h => ?_⟩
  obtain ⟨a, ha, h⟩ := h
  rcases h with ⟨xs, hx, q⟩ | ⟨xs, hx, q⟩
  · exact (pi_list he).run pins s σ H R I ⟨_, ha, a, rfl, ⟨xs, hx⟩, q⟩
  · exact (pi_tup he).run pins s σ H R I ⟨_, ha, a, rfl, ⟨xs, hx⟩, q⟩
/-- over a list or tuple that stands, by a word on the turns -/
theorem for_sq {K : PySem.W.Frag} {i : Nat} {u : V} {us : List V} {g : TG} {tb : TS} {D : Ends} {σ : L2.St} {H : Hp} (Pv : Nat → L2.St → Hp → Prop) (hu : σ[i]? = some (some u)) (sq : IsSq K H u us) (h0 : Pv 0 σ H)
    (hl : ∀ j σ H', j ≤ us.length → Pv j σ H' → Le H H')
    (hs : ∀ j x σ H, us[j]? = some x → Pv j σ H → g x σ H fun σ2 H2 => tb { D with nx := Pv (j + 1), ct := Pv (j + 1), bk := D.nx } σ2 H2) (hd : ∀ σ H, Pv us.length σ H → D.nx σ H) : tFor (iSq K i) g tb D σ H := by
  obtain ⟨a, rfl, sq⟩ := sq
  refine ⟨a, hu, ?_⟩
  rcases sq with sq | sq
  · exact .inl ⟨us, sq, for_list (xs := us) Pv h0 (fun j σ H' hj p => (hl j σ H' hj p).sqL sq) hs hd⟩
  · exact .inr ⟨us, sq, for_tup (xs := us) Pv h0 (fun j σ H' hj p => (hl j σ H' hj p).sqT sq) hs hd⟩
section
variable {P : Program} {w : World} {K : PySem.W.Frag} {mg : Str → Option Value} {base : Heap}
theorem ok_needs1 {fd : FuncData} (F : FnP K "need_places" s_need_places fd) (T : Txt K mg) (N1 : Df P w K mg base CX0 1 (He.ga K "need_place") ["value"] (spNeed1 K)) :
    Df P w K mg base CX0 2 (He.ga K "need_places") ["values"] (spNeeds1 K) := by
  refine ⟨⟨fd, F.ok sc_needs (fun vs H Q E h => ?_) (fun cdv A outer s H vs Q E hr h => ?_), F.bindsN fun _ _ _ _ _ _ us hl => match us, hl with | [_], _ => rfl⟩, F.kp⟩
  · obtain ⟨u, us, ps, rfl, _⟩ := h
    rfl
  · obtain ⟨u, us, ps, rfl, sq, hp, hQ⟩ := h
    refine ⟨_, PSs.nox (pss_one (ps_for PassesOwn.never rfl (pi_sq (pv 0)) (pg_name (i := 1) sc_needs.nd rfl (.inl rfl)) (pss_one (ps_expr (pe_df N1 hr rfl (T.gl "need_place" (by decide +kernel)) pass0 (pa_cons (pv 1) pa_nil)))))), ?_⟩
    refine for_sq (fun i σ H' => ∃ v, σ = [some u, v] ∧ H' = H) rfl sq ⟨none, rfl, rfl⟩ ?_ ?_ ?_
    · rintro i σ H' _ ⟨v, rfl, rfl⟩
      exact Le.refl _
    · rintro i x σ H' hx ⟨v, rfl, rfl⟩
      obtain ⟨p, _, a, dx, rfl, ha⟩ := Ps.get hp hx
      exact ⟨_, rfl, a, dx, _, rfl, ha, _, rfl, rfl⟩
    · rintro σ H' ⟨v, rfl, rfl⟩
      exact hQ

theorem sc_mul : FnScope ["self", "other"] ["self", "other"] (defScope s_Place_mul) := ⟨rfl, rfl, rfl, by decide +kernel, rfl, by decide +kernel, by decide +kernel⟩
theorem ok_mul {fd : FuncData} (F : FnM K "Place" "__mul__" "Place.__mul__" s_Place_mul fd) (D : D0 P w K mg base) : Df P w K mg base CX0 5 (He.ma K (CP K) "__mul__") ["self", "other"] (spMul K) := by
  refine ⟨⟨fd, F.ok sc_mul (fun vs H Q E h => ?_) (fun cdv A outer s H vs Q E hr h => ?_), F.bindsN fun _ _ _ _ _ _ us hl => match us, hl with | [_, _], _ => rfl⟩, F.kp⟩
  · obtain ⟨u, v, p, q, rfl, _⟩ := h
    rfl
  · have T := D.T
    obtain ⟨u, v, p, q, rfl, ⟨a, dx, rfl, ha⟩, ⟨b, dy, rfl, hb⟩, ⟨b1, b2, b3⟩, ⟨c1, c2, c3⟩, k⟩ := h
    refine ⟨_, PSs.nox (pss_cons (ps_if (pt_not (pt_val (pe_callB call_isi rfl (T.fr "isinstance" (by decide +kernel)) boot_isinstance (pa_cons (pv 1) (pa_cons (pe_glob (v := .ref (CP K)) rfl (T.gl "Place" (by decide +kernel)) rfl) pa_nil))))) (pss_one ps_never) pss_nil)
      (pss_one (ps_ret (pe_plc T D.ini (hr.mono (by decide)) rfl (pa_cons (pe_op op_add (pe_fld (pv 0) rfl) (pe_fld (pv 1) rfl)) (pa_cons (pe_op op_add (pe_fld (pv 0) rfl) (pe_fld (pv 1) rfl)) (pa_cons
        (pe_op op_add (pe_op op_add (pe_fld (pv 0) rfl) (pe_fld (pv 1) rfl)) (pe_op op_mulB (pe_fld (pv 0) rfl) (pe_fld (pv 1) rfl))) pa_nil))))))), ?_⟩
    refine ⟨_, rfl, _, _, _, _, true, rfl, .own _, ty_pl T hb, T.kP, true, rfl, iteF ?_⟩
    refine ⟨_, rfl, a, CP K, dx, _, _, rfl, ha, T.p.cl, T.px, pf_x p, _, rfl, b, CP K, dy, _, _, rfl, hb, T.p.cl, T.px, pf_x q, _, _, rfl, rfl, ?_⟩
    refine ⟨_, rfl, a, CP K, dx, _, _, rfl, ha, T.p.cl, T.py, pf_y p, _, rfl, b, CP K, dy, _, _, rfl, hb, T.p.cl, T.py, pf_y q, _, _, rfl, rfl, ?_⟩
    refine ⟨_, rfl, a, CP K, dx, _, _, rfl, ha, T.p.cl, T.pa, pf_a p, _, rfl, b, CP K, dy, _, _, rfl, hb, T.p.cl, T.pa, pf_a q, _, _, rfl, rfl, ?_⟩
    refine ⟨_, rfl, a, CP K, dx, _, _, rfl, ha, T.p.cl, T.px, pf_x p, _, rfl, b, CP K, dy, _, _, rfl, hb, T.p.cl, T.py, pf_y q, _, _, rfl, rfl, mulB b1 c2 (by decide) (by decide), _, _, rfl, rfl, ?_⟩
    exact ⟨_, _, _, rfl, k⟩
theorem sc_lifted : FnScope ["self", "storeys"] ["self", "storeys"] (defScope s_Place_lifted) := ⟨rfl, rfl, rfl, by decide +kernel, rfl, by decide +kernel, by decide +kernel⟩
theorem ok_lifted {fd : FuncData} (F : FnM K "Place" "lifted" "Place.lifted" s_Place_lifted fd) (D : D0 P w K mg base) : Df P w K mg base CX0 5 (He.ma K (CP K) "lifted") ["self", "storeys"] (spUp K) := by
  refine ⟨⟨fd, F.ok sc_lifted (fun vs H Q E h => ?_) (fun cdv A outer s H vs Q E hr h => ?_), F.bindsN fun _ _ _ _ _ _ us hl => match us, hl with | [_, _], _ => rfl⟩, F.kp⟩
  · obtain ⟨u, p, k, rfl, _⟩ := h
    rfl
  · have T := D.T
    obtain ⟨u, p, n, rfl, ⟨a, dx, rfl, ha⟩, k⟩ := h
    refine ⟨_, PSs.nox (pss_cons (ps_if (pt_not (pt_val (pe_df D.int (hr.mono (by decide)) rfl (T.gl "is_integer" (by decide +kernel)) pass0 (pa_cons (pv 1) pa_nil)))) (pss_one ps_never) pss_nil)
      (pss_one (ps_ret (pe_plc T D.ini (hr.mono (by decide)) rfl (pa_cons (pe_fld (pv 0) rfl) (pa_cons (pe_fld (pv 0) rfl) (pa_cons (pe_op op_add (pe_fld (pv 0) rfl) (pv 1)) pa_nil))))))), ?_⟩
    refine ⟨_, rfl, n, rfl, true, rfl, iteF ?_⟩
    refine ⟨_, rfl, a, CP K, dx, _, _, rfl, ha, T.p.cl, T.px, pf_x p, ?_⟩
    refine ⟨_, rfl, a, CP K, dx, _, _, rfl, ha, T.p.cl, T.py, pf_y p, ?_⟩
    exact ⟨_, rfl, a, CP K, dx, _, _, rfl, ha, T.p.cl, T.pa, pf_a p, _, rfl, _, _, rfl, rfl, _, _, _, rfl, k⟩
theorem sc_twist : FnScope ["self", "other"] ["self", "other"] (defScope s_Place_twist) := ⟨rfl, rfl, rfl, by decide +kernel, rfl, by decide +kernel, by decide +kernel⟩
theorem ok_twist {fd : FuncData} (F : FnM K "Place" "twist" "Place.twist" s_Place_twist fd) (D : D0 P w K mg base) (N1 : Df P w K mg base CX0 1 (He.ga K "need_place") ["value"] (spNeed1 K)) : Df P w K mg base CX0 5 (He.ma K (CP K) "twist") ["self", "other"] (spTw K) := by
  refine ⟨⟨fd, F.ok sc_twist (fun vs H Q E h => ?_) (fun cdv A outer s H vs Q E hr h => ?_), F.bindsN fun _ _ _ _ _ _ us hl => match us, hl with | [_, _], _ => rfl⟩, F.kp⟩
  · obtain ⟨u, v, p, q, rfl, _⟩ := h
    rfl
  · have T := D.T
    obtain ⟨u, v, p, q, rfl, ⟨a, dx, rfl, ha⟩, ⟨b, dy, rfl, hb⟩, ⟨b1, b2, b3⟩, ⟨c1, c2, c3⟩, k⟩ := h
    refine ⟨_, PSs.nox (pss_cons (ps_expr (pe_df N1 (hr.mono (by decide)) rfl (T.gl "need_place" (by decide +kernel)) pass0 (pa_cons (pv 1) pa_nil)))
      (pss_one (ps_ret (pe_op op_sub (pe_op op_mulB (pe_fld (pv 0) rfl) (pe_fld (pv 1) rfl)) (pe_op op_mulB (pe_fld (pv 1) rfl) (pe_fld (pv 0) rfl)))))), ?_⟩
    refine ⟨_, rfl, b, dy, _, rfl, hb, ?_⟩
    refine ⟨_, rfl, a, CP K, dx, _, _, rfl, ha, T.p.cl, T.px, pf_x p, _, rfl, b, CP K, dy, _, _, rfl, hb, T.p.cl, T.py, pf_y q, _, _, rfl, rfl, mulB b1 c2 (by decide) (by decide), ?_⟩
    exact ⟨_, rfl, b, CP K, dy, _, _, rfl, hb, T.p.cl, T.px, pf_x q, _, rfl, a, CP K, dx, _, _, rfl, ha, T.p.cl, T.py, pf_y p, _, _, rfl, rfl, mulB c1 b2 (by decide) (by decide), _, _, rfl, rfl, k⟩
theorem sc_eqP : FnScope ["self", "other"] ["self", "other"] (defScope s_Place_eq) := ⟨rfl, rfl, rfl, by decide +kernel, rfl, by decide +kernel, by decide +kernel⟩
theorem ok_eqP {fd : FuncData} (F : FnM K "Place" "__eq__" "Place.__eq__" s_Place_eq fd) (T : Txt K mg) : Df P w K mg base CX0 2 (He.ma K (CP K) "__eq__") ["self", "other"] (spEq (EqP K)) := by
  refine ⟨⟨fd, F.ok sc_eqP (fun vs H Q E h => ?_) (fun cdv A outer s H vs Q E hr h => ?_), F.bindsN fun _ _ _ _ _ _ us hl => match us, hl with | [_, _], _ => rfl⟩, F.kp⟩
  · obtain ⟨a, b, rfl, _⟩ := h
    rfl
  · obtain ⟨a, b, rfl, ⟨p, ⟨a, dx, ea, ha⟩, ⟨b, dy, eb, hb⟩⟩, k⟩ := h
    cases ea
    cases eb
    refine ⟨_, PSs.nox (pss_cons (ps_if (pt_not (pt_val (pe_callB call_isi rfl (T.fr "isinstance" (by decide +kernel)) boot_isinstance (pa_cons (pv 1) (pa_cons (pe_glob (v := .ref (CP K)) rfl (T.gl "Place" (by decide +kernel)) rfl) pa_nil))))) (pss_one ps_never) pss_nil)
      (pss_one (ps_ret (pe_cmpR (op_eqG (n := 1) (rcG_tup mon_flat eqG_flat) hr) (pe_tup (pa_cons (pe_fld (pv 0) rfl) (pa_cons (pe_fld (pv 0) rfl) (pa_cons (pe_fld (pv 0) rfl) pa_nil)))) (pe_tup (pa_cons (pe_fld (pv 1) rfl) (pa_cons (pe_fld (pv 1) rfl) (pa_cons (pe_fld (pv 1) rfl) pa_nil)))) (nomark _))))), ?_⟩
    refine ⟨_, rfl, _, _, _, _, true, rfl, .own _, ty_pl T hb, T.kP, true, rfl, iteF ?_⟩
    refine ⟨_, rfl, a, CP K, dx, _, _, rfl, ha, T.p.cl, T.px, pf_x p, _, rfl, a, CP K, dx, _, _, rfl, ha, T.p.cl, T.py, pf_y p, _, rfl, a, CP K, dx, _, _, rfl, ha, T.p.cl, T.pa, pf_a p, by show 3 ≤ sizeLine; decide, fun t nt => ?_⟩
    have hb' : upd H t (.tup [.int p.x, .int p.y, .int p.a]) b = some (.ins (CP K) dy (pf p)) := by rw [upd_ne (ne_of_none hb nt)]; exact hb
    refine ⟨_, rfl, b, CP K, dy, _, _, rfl, hb', T.p.cl, T.px, pf_x p, _, rfl, b, CP K, dy, _, _, rfl, hb', T.p.cl, T.py, pf_y p, _, rfl, b, CP K, dy, _, _, rfl, hb', T.p.cl, T.pa, pf_a p, by show 3 ≤ sizeLine; decide, fun t' nt' => ?_⟩
    refine ⟨⟨t, t', _, _, rfl, rfl, .of (by rw [upd_ne (ne_of_none upd_same nt')]; exact upd_same), .of upd_same, ?_⟩, fun H' e => k H' ?_⟩
    · have f : ∀ i : Int, DFlat (.int i) (.int i) (upd (upd H t (.tup [.int p.x, .int p.y, .int p.a])) t' (.tup [.int p.x, .int p.y, .int p.a])) := fun i => ⟨rfl, rfl, by simp [eqV]⟩
      exact .cons (f _) (.cons (f _) (.cons (f _) .nil))
    · exact ((Ext.upd nt).trans (Ext.upd nt')).trans e
end
end AW
/-! enumerate over a tuple, and over a list or a tuple. -/
namespace AW
open PySem PySem.Spec PyProof.Rows L2

theorem meets_enumT (l : Addr) (items : Array Value) (n : Nat) (dct : Option Addr) (sl : Array (Option Value)) :
    Meets (Builtin.«enumerate.__new__» ⟨[.type "enumerate", .ref l], []⟩) (fun _ R s => s.heap.get? l = some { cls := .type "tuple", dict := dct, data := .seq items n, slots := sl } ∧
      R (.ok (.ret (.ref (s.heap.push { cls := .type "tuple_iterator", data := .fields #[.ref l, .int 0 0] }).objs.size)))
        { s with heap := (s.heap.push { cls := .type "tuple_iterator", data := .fields #[.ref l, .int 0 0] }).push { cls := .type "enumerate", data := .fields #[.none, .bool false, .ref s.heap.objs.size, rawInt 0, .none, .none] } }) :=
  .of_wp fun prog w A R s h => by
    obtain ⟨hp, g, d, tk, os⟩ := s; obtain ⟨hl, h⟩ := h
    have hsub := sub_enumerate
    have hL : Heap.IsTuple (Shared.heap ⟨hp, g, d, tk, os⟩) l items := ⟨_, hl, rfl, n, rfl⟩
    have ld := @AutoSeq1.wpAny_loadPart'
    wp_walk using wpAny_pyIter_tuple hL
    refine wpAny_stack_any fun st => wpAny_pure ?_
    split
    · rename_i c _ _ _ _ _
      cases (c == Value.type "enumerate") <;> (wp_walk using wpAny_pyIter_tuple hL; exact ⟨_, rfl, h⟩)
    · wp_walk using wpAny_pyIter_tuple hL
      exact ⟨_, rfl, h⟩
theorem call_enumT {prog : Program} {w : World} {A : Around} {E : Value → Shared → Prop} {s : Shared} {l : Addr} {items : Array Value} {Q : Value → Shared → Prop} (hL : s.heap.IsTuple l items)
    (h : ∀ h', IsEnum h' (s.heap.objs.size + 1) s.heap.objs.size 0 .none → h'.IsTupleIter s.heap.objs.size l 0 →
      (∀ b o, s.heap.get? b = some o → h'.get? b = some o) → Q (.ref (s.heap.objs.size + 1)) { s with heap := h' }) :
    wpAny (model prog w) A (call (.type "enumerate") [.ref l]) Q E s := by
  obtain ⟨⟨c, dct, dt, sl⟩, hl, hc, n, hd⟩ := hL
  cases (show c = .type "tuple" from hc)
  cases (show dt = .seq items n from hd)
  refine callType_new F.called_enumerate (by decide) (F.typeCall_enumerate_1 _) (F.newCall_enumerate_1 _) (fun obj => F.args_object_init_2 obj _) F.entry_enumerate_new
    (meets_enumT l items n dct sl) ⟨hl, ?_⟩
  have hz : (s.heap.push { cls := .type "tuple_iterator", data := .fields #[.ref l, .int 0 0] }).objs.size = s.heap.objs.size + 1 := Heap.size_push ..
  show _ ∧ _
  rw [hz]
  have he : IsEnum ((s.heap.push { cls := .type "tuple_iterator", data := .fields #[.ref l, .int 0 0] }).push
      { cls := .type "enumerate", data := .fields #[.none, .bool false, .ref s.heap.objs.size, rawInt 0, .none, .none] }) (s.heap.objs.size + 1) s.heap.objs.size 0 .none := by
    have q := Heap.get?_push_size (s.heap.push { cls := .type "tuple_iterator", data := .fields #[.ref l, .int 0 0] })
      (o := { cls := .type "enumerate", data := .fields #[.none, .bool false, .ref s.heap.objs.size, rawInt 0, .none, .none] }) rfl
    rw [hz] at q
    exact q
  exact ⟨⟨_, he, rfl⟩, h _ he ⟨_, Heap.get?_push_of_some _ (Heap.get?_push_size _ rfl), rfl, rfl⟩ fun b o x => Heap.get?_push_of_some _ (Heap.get?_push_of_some _ x)⟩

/-- the tuple at a, each item in a new pair -/
def Iet (K : PySem.W.Frag) (a : Addr) : It :=
  ⟨fun i H => ∃ (xs : List V) (x : V), SqT K H a xs ∧ xs[i]? = some x, fun i H v H' => ∃ T x, v = .ref T ∧ H T = none ∧ H' = upd H T (.tup [.int (i : Nat), x]) ∧ ∀ xs, SqT K H a xs → xs[i]? = some x, fun i H => ∃ xs : List V, SqT K H a xs ∧ xs.length ≤ i⟩
theorem turn_enumT {P : Program} {w : World} {K : PySem.W.Frag} {elts : List Expr} {kk : Nat} {tpos : Pos} (a e it : Addr) :
    Turn P w K (.Tuple elts kk tpos) (Iet K a) [e, it] e (fun i h => (∃ old, IsEnum h e it ((i : Nat) : Int) old) ∧ h.IsTupleIter it a i ∧ e ≠ it) where
  mem := by simp
  obj := fun i h st b hb => by
    obtain ⟨⟨old, he⟩, ⟨o, ho, hc, hd⟩, _⟩ := st
    have e' : b = e ∨ b = it := by simpa using hb
    rcases e' with z | z
    · rw [z]; exact ⟨_, he, fun v q => nomatch q⟩
    · rw [z]; exact ⟨o, ho, fun v q => by rw [hd] at q; cases q⟩
  keep := fun i h h' st k => let ⟨⟨old, he⟩, hi, hne⟩ := st; ⟨⟨old, k e (by simp) _ he⟩, hi.at fun o q => k it (by simp) o q, hne⟩
  item := by
    intro X hP hw hK hc i pins s σ H E I hf st hg
    subst hP hw hK
    obtain ⟨⟨old, he⟩, hit, hne⟩ := st
    obtain ⟨xs, x, hq, hx⟩ := hg
    obtain ⟨its, rv, p, hz⟩ := I.tuple hq
    obtain ⟨u, hu, ru⟩ := rv.get hx
    have p : s.heap.IsTuple a its.toArray := p
    have hel : e < s.heap.objs.size := Heap.lt_size he
    have hil : it < s.heap.objs.size := by obtain ⟨_, q, _⟩ := hit; exact Heap.lt_size q
    have nai : a ≠ it := fun z => by
      obtain ⟨o1, e1, c1, _⟩ := p
      obtain ⟨o2, e2, c2, _⟩ := hit
      rw [z, e2] at e1
      cases e1
      rw [c1] at c2
      exact absurd c2 (by decide)
    have nae : a ≠ e := fun z => by
      obtain ⟨o1, e1, c1, _⟩ := p
      rw [z] at e1
      have h2 := he
      unfold IsEnum at h2
      rw [h2] at e1
      cases e1
      exact absurd (show (Value.type "enumerate" : Value) = .type "tuple" from c1) (by decide)
    have hi : i < its.toArray.size := by
      have := List.getElem?_eq_some_iff.mp hu
      simpa using this.1
    refine wpAny_pyNext_enum_itemD (Draws.tuple (A := X.A.in1) (show X.A.in1.handled = none from I.ok.hd hc) it a nai its.toArray) he ⟨hit, p⟩ hi hne (by simp [hne, Ne.symm nae]) fun v h' tk hv ho hst hT hsz hk => ?_
    have ev : v = u := by
      have h1 : its.toArray[i]? = some v := hv
      have h2 : its.toArray[i]? = some u := by simpa using hu
      rw [h1] at h2
      exact Option.some.inj h2
    subst ev
    refine ⟨_, rfl, wpAny_letOwnedTupleGo_enum (s := { s with heap := h', toks := tk + 1 }) ho fun h'' he' sb => ?_⟩
    have hT2 : h''.get? s.heap.objs.size = some { cls := .type "tuple", data := .seq #[.int i tk, v] } := (sb.2 _ (Nat.ne_of_gt hel)).trans hT
    have new : ObjOk X.prog X.w (upd H s.heap.objs.size (.tup [.int (i : Nat), x])) h'' s.heap.objs.size (.tup [.int (i : Nat), x]) :=
      ⟨by show 2 ≤ sizeLine; decide, [.int i tk, v], .cons ⟨_, rfl⟩ (.cons ru .nil), ⟨_, hT2, rfl, _, rfl⟩⟩
    have I1 : Inv X pins σ (upd H s.heap.objs.size (.tup [.int (i : Nat), x])) { s with heap := h'', toks := tk + 1 } :=
      I.turnedNew (ch := [e, it]) (fun b ob hb q => (sb.2 b (fun z => hb (by simp [z]))).trans (hk b ob (fun z => hb (by simp [z])) (fun z => hb (by simp [z])) q)) hf (Nat.le_refl _) new
    refine ⟨.ref s.heap.objs.size, _, I1, rfl, ⟨_, x, rfl, I.hok.fresh (Nat.le_refl _), rfl, fun ys hy => by rw [I.tuple_inj hy hq]; exact hx⟩, ⟨⟨v, ?_⟩, hst.1.at fun o q => (sb.2 it (Ne.symm hne)).trans q, hne⟩, fun b hb => ?_⟩
    · have e1 : ((i + 1 : Nat) : Int) = (i : Int) + 1 := by omega
      rw [e1]; exact he'
    · have hb' : b < s.heap.objs.size := by
        have e' : b = e ∨ b = it := by simpa using hb
        rcases e' with z | z
        · rw [z]; exact hel
        · rw [z]; exact hil
      rw [upd_ne (Nat.ne_of_lt hb')]
      exact (hf b hb).1
  done := by
    intro X hP hw hK hc i pins s σ H E I hf st hg
    subst hP hw hK
    obtain ⟨⟨old, he⟩, hit, hne⟩ := st
    obtain ⟨xs, hq, hx⟩ := hg
    obtain ⟨its, rv, p, hz⟩ := I.tuple hq
    have p : s.heap.IsTuple a its.toArray := p
    obtain ⟨f0, f1, f2, f3, f4, f5⟩ := hf it (by simp)
    have hl := rv.length
    have hT : s.TypeIs (.ref e) "enumerate" := ⟨_, he, rfl⟩
    unfold pyNext
    refine wpAny_bind (wpAny_attempt (wpAny_callSpecial?_slot (name := Str.ofString "__next__") hT F.slot_enumerate_next
      (wpAny_call_entry F.slot_enumerate_next hT F.entry_enumerate_next ?_ (F.args_enumerate_next_1 _))))
    show wpAny _ _ (field (.ref e) 2 >>= _) _ _ _
    refine wpAny_bind (wpAny_field he rfl (x := .ref it) rfl ?_)
    refine wpAny_bind (wpAny_nextOf_tuple_end (I.ok.hd hc) hit p (by simp; omega) fun h' x he' hx' => ?_)
    obtain ⟨o, ho, hc'⟩ := hx'
    refine wpAny_bind (wpAny_isInstance (T := "StopIteration") (b := true) ⟨o, ho, hc'⟩ isSubtype_stop ?_)
    exact wpAny_pure ⟨rfl, I.turned (t' := s.toks) (fun b o hb q => he' b o hb q) f0 f1 f3 f4 f5⟩
  self := fun A i s Q E st h => let ⟨⟨_, he⟩, _⟩ := st; wpAny_pyIter_enum he h
def iEnumT (K : PySem.W.Frag) (ta : TA) : TI := fun σ H R => ta σ H fun vs H1 => ∃ a xs, vs = [.ref a] ∧ SqT K H1 a xs ∧ R (Iet K a) H1
theorem pi_enumT {X : Cx} {e : Expr} {ta : TA} {p pos tpos : Pos} {elts : List Expr} {kk : Nat} (hg : Gl X "enumerate") (hm : X.mg "enumerate" = none) (ha : PA X [e] ta) (hs : starEach [e] X.env = [(false, eval e X.env)] := by rfl) :
    PI X (.Tuple elts kk tpos) (.Call (.Name "enumerate" p) [e] [] pos) (iEnumT X.K ta) := by
  refine ⟨fun pins s σ H R I h => ?_⟩
  refine Call_ (ld_blt I hg hm boot_enumerate (PyProof.Rows.callWith_type1 (thn (ha.run pos pins s σ H _ I h) fun us s1 ⟨vs, H1, I1, r1, q1⟩ => ?_) hs rfl))
  obtain ⟨a, xs, ex, hq, q⟩ := q1
  subst ex
  cases r1 with
  | cons r rr =>
    cases rr
    cases r
    obtain ⟨its, rv, p', hz⟩ := I1.tuple hq
    refine call_enumT (show s1.heap.IsTuple a its.toArray from p') fun h' he hit hk => wpAny_pyIter_enum he ?_
    have I2 : Inv X pins σ H1 { s1 with heap := h' } := I1.kept (t' := s1.toks) hk
    refine ⟨s1.heap.objs.size + 1, [s1.heap.objs.size + 1, s1.heap.objs.size], _, _, H1, rfl, I2, turn_enumT a (s1.heap.objs.size + 1) s1.heap.objs.size, ⟨⟨.none, he⟩, hit, Nat.succ_ne_self _⟩, fun b hb => ?_, q⟩
    have e' : b = s1.heap.objs.size + 1 ∨ b = s1.heap.objs.size := by simpa using hb
    have hle : s1.heap.objs.size ≤ b := by
      rcases e' with z | z
      · rw [z]; exact Nat.le_add_right _ _
      · rw [z]; exact Nat.le_refl _
    exact I1.fpOk hle (I1.hok.fresh hle)
/-- enumerate of what stands in the i-th slot -/
def iEn (K : PySem.W.Frag) (i : Nat) : TI := fun σ H R => ∃ a, σ[i]? = some (some (.ref a)) ∧ ((∃ xs, SqL K H a xs ∧ R (Ite K a) H) ∨ (∃ xs, SqT K H a xs ∧ R (Iet K a) H))
theorem pi_en {X : Cx} {x : Str} {px p pos tpos : Pos} {elts : List Expr} {kk i : Nat} (hg : Gl X "enumerate") (hm : X.mg "enumerate" = none) (he : PE X (.Name x px) (tVar i)) :
    PI X (.Tuple elts kk tpos) (.Call (.Name "enumerate" p) [.Name x px] [] pos) (iEn X.K i) := by
  refine ⟨fun pins s σ H R I h => ?_⟩
  obtain ⟨a, ha, h⟩ := h
  rcases h with ⟨xs, hx, q⟩ | ⟨xs, hx, q⟩
  · exact (pi_enum hg hm (pa_cons he pa_nil)).run pins s σ H R I ⟨_, ha, a, xs, rfl, hx, q⟩
  · exact (pi_enumT hg hm (pa_cons he pa_nil)).run pins s σ H R I ⟨_, ha, a, xs, rfl, hx, q⟩
/-- the loop over it -/
theorem for_en {K : PySem.W.Frag} {i : Nat} {u : V} {us : List V} {g : TG} {tb : TS} {D : Ends} {σ : L2.St} {H : Hp} (Pv : Nat → L2.St → Hp → Prop) (hu : σ[i]? = some (some u)) (sq : IsSq K H u us) (h0 : Pv 0 σ H)
    (hl : ∀ j σ H', j ≤ us.length → Pv j σ H' → Le H H')
    (hs : ∀ j x σ H T, us[j]? = some x → Pv j σ H → H T = none → g (.ref T) σ (upd H T (.tup [.int (j : Nat), x])) fun σ2 H2 => tb { D with nx := Pv (j + 1), ct := Pv (j + 1), bk := D.nx } σ2 H2) (hd : ∀ σ H, Pv us.length σ H → D.nx σ H) : tFor (iEn K i) g tb D σ H := by
  obtain ⟨a, rfl, sq⟩ := sq
  refine ⟨a, hu, ?_⟩
  rcases sq with sq | sq
  · refine .inl ⟨us, sq, fun j m σ H' => m = us.length - j ∧ j ≤ us.length ∧ Pv j σ H', ⟨us.length, by simp, Nat.zero_le _, h0⟩, ?_⟩
    rintro j m σ H' ⟨rfl, hj, p⟩
    have q := (hl j σ H' hj p).sqL sq
    by_cases hlt : j < us.length
    · refine .inr ⟨⟨us, us[j], q, by simp [hlt]⟩, Pv (j + 1), fun σ' H' p' => ⟨us.length - (j + 1), by omega, rfl, hlt, p'⟩, fun x H2 y => ?_⟩
      obtain ⟨T, z, rfl, hT, rfl, y⟩ := y
      exact hs j z σ H' T (y us q) p hT
    · have e : j = us.length := by omega
      subst e
      exact .inl ⟨⟨us, q, Nat.le_refl _⟩, hd σ H' p⟩
  · refine .inr ⟨us, sq, fun j m σ H' => m = us.length - j ∧ j ≤ us.length ∧ Pv j σ H', ⟨us.length, by simp, Nat.zero_le _, h0⟩, ?_⟩
    rintro j m σ H' ⟨rfl, hj, p⟩
    have q := (hl j σ H' hj p).sqT sq
    by_cases hlt : j < us.length
    · refine .inr ⟨⟨us, us[j], q, by simp [hlt]⟩, Pv (j + 1), fun σ' H' p' => ⟨us.length - (j + 1), by omega, rfl, hlt, p'⟩, fun x H2 y => ?_⟩
      obtain ⟨T, z, rfl, hT, rfl, y⟩ := y
      exact hs j z σ H' T (y us q) p hT
    · have e : j = us.length := by omega
      subst e
      exact .inl ⟨⟨us, q, Nat.le_refl _⟩, hd σ H' p⟩
end AW
/-! Renamings. -/
namespace AW
open PySem PySem.Spec PyProof.Rows L2

theorem _root_.Evl.Ex.le {H H' : Hp} (e : Evl.Ex H H') : Le H H' := AW.Ex.le e
theorem pw_bd {b c : Nat} {p : Pl} {k : Int} (hp : Bp c p) (hk : Bi b k) : Bp (2 * (b + c) + 4) (p.pw k) := by
  obtain ⟨p1, p2, p3⟩ := hp
  refine ⟨(hk.mul p1).mono (by omega), (hk.mul p2).mono (by omega), ?_⟩
  have t1 := (hk.mul p3).mono (by omega : b + c ≤ 2 * (b + c) + 3)
  have t2 := (((tri_bd hk).mul p1).mul p2).mono (by omega : b + (b + 1) + c + c ≤ 2 * (b + c) + 3)
  exact t1.add t2
theorem tw_bd {b c : Nat} {p q : Pl} (hp : Bp b p) (hq : Bp c q) : Bi (b + c + 1) (tw p q) := by
  obtain ⟨p1, p2, p3⟩ := hp
  obtain ⟨q1, q2, q3⟩ := hq
  exact (p1.mul q2).sub ((q1.mul p2).mono (by omega))
/-- what a renaming's methods lean on -/
structure D1 (P : Program) (w : World) (K : PySem.W.Frag) (mg : Str → Option Value) (base : Heap) : Prop extends D0 P w K mg base where
  n1 : Df P w K mg base CX0 1 (He.ga K "need_place") ["value"] (spNeed1 K)
  mul : Df P w K mg base CX0 5 (He.ma K (CP K) "__mul__") ["self", "other"] (spMul K)
  pow : Df P w K mg base CX0 5 (He.ma K (CP K) "power") ["self", "number"] (spPower K)
  lif : Df P w K mg base CX0 5 (He.ma K (CP K) "lifted") ["self", "storeys"] (spUp K)
  twi : Df P w K mg base CX0 5 (He.ma K (CP K) "twist") ["self", "other"] (spTw K)
section
variable {X : Cx} {k : Nat} {a b e o : Expr} {es : List Expr} {ta tb : TE} {t : TA} {p pos apos : Pos}
theorem op_mulP (D : D1 X.prog X.w X.K X.mg X.base) (hr : Room 5 X.A) : OpR X (binaryOp .Mult) (rOwn (CP X.K) (spMul X.K) E0) := by
  have M := D.T.pm "__mul__" (by decide +kernel)
  refine op_own D.mul hr pass0 D.T.p.sf (by rw [dun_mul]; exact M.at_) M.fn
end
section
variable {P : Program} {w : World} {K : PySem.W.Frag} {mg : Str → Option Value} {base : Heap}
theorem sc_led : FnScope ["east", "north", "place", "moved"] ["east", "north", "place"] (defScope s_led_by) := ⟨rfl, rfl, rfl, by decide +kernel, rfl, by decide +kernel, by decide +kernel⟩
theorem ok_led {fd : FuncData} (F : FnP K "led_by" s_led_by fd) (D : D1 P w K mg base) : Df P w K mg base CX0 6 (He.ga K "led_by") ["east", "north", "place"] (spLed K) := by
  refine ⟨⟨fd, F.ok sc_led (fun vs H Q E h => ?_) (fun cdv A outer s H vs Q E hr h => ?_), F.bindsN fun _ _ _ _ _ _ us hl => match us, hl with | [_, _, _], _ => rfl⟩, F.kp⟩
  · obtain ⟨e, n, v, pe, pn, p, b, c, rfl, _⟩ := h
    rfl
  · have T := D.T
    obtain ⟨e, n, v, pe, pn, p, b, c, rfl, ⟨ae, de, rfl, he⟩, ⟨an, dn, rfl, hn⟩, ⟨av, dv, rfl, hv⟩, be, bn, bp, hbc, k⟩ := h
    refine ⟨_, PSs.nox (pss_cons (ps_set (i := 3) sc_led.nd rfl (.inl rfl) (pe_op (op_mulP D hr)
        (pe_mt (pv 1) T.p.cl (T.pm "power" (by decide +kernel)) D.pow hr pass0 (pa_cons (pe_fld (pv 2) rfl) pa_nil))
        (pe_mt (pv 0) T.p.cl (T.pm "power" (by decide +kernel)) D.pow hr pass0 (pa_cons (pe_fld (pv 2) rfl) pa_nil))))
      (pss_one (ps_ret (pe_mt (pv 3) T.p.cl (T.pm "lifted" (by decide +kernel)) D.lif hr pass0 (pa_cons (pe_op op_mulB
        (pe_mt (pv 0) T.p.cl (T.pm "twist" (by decide +kernel)) D.twi hr pass0 (pa_cons (pv 1) pa_nil)) (pe_fld (pv 2) rfl)) pa_nil))))), ?_⟩
    refine ⟨_, rfl, an, dn, _, rfl, hn, (no_m pn).1, _, rfl, av, CP K, dv, _, _, rfl, hv, T.p.cl, T.py, pf_y p, _, pn, p.y, rfl, ⟨an, dn, rfl, hn⟩, bn.mono (by omega), bp.2.1.mono (by omega), fun w1 H1 e1 ⟨a1, d1, ew1, h1⟩ => ?_⟩
    subst ew1
    refine ⟨_, rfl, ae, de, _, rfl, e1 _ _ he, (no_m pe).1, _, rfl, av, CP K, dv, _, _, rfl, e1 _ _ hv, T.p.cl, T.px, pf_x p, _, pe, p.x, rfl, ⟨ae, de, rfl, e1 _ _ he⟩, be.mono (by omega), bp.1.mono (by omega), fun w2 H2 e2 ⟨a2, d2, ew2, h2⟩ => ?_⟩
    subst ew2
    refine ⟨a1, a2, d1, d2, _, _, rfl, rfl, e2 _ _ h1, h2, _, _, pn.pw p.y, pe.pw p.x, rfl, ⟨a1, d1, rfl, e2 _ _ h1⟩, ⟨a2, d2, rfl, h2⟩, (pw_bd bn bp.2.1).mono (by omega), (pw_bd be bp.1).mono (by omega), fun w3 H3 e3 ⟨a3, d3, ew3, h3⟩ => ?_⟩
    subst ew3
    have e23 := (e1.trans e2).trans e3
    refine ⟨_, rfl, a3, d3, _, rfl, h3, (no_m _).2.1, _, rfl, ae, de, _, rfl, e23 _ _ he, (no_m _).2.2, _, rfl, _, _, pe, pn, rfl, ⟨ae, de, rfl, e23 _ _ he⟩, ⟨an, dn, rfl, e23 _ _ hn⟩, be.mono (by omega), bn.mono (by omega), ?_⟩
    refine ⟨_, rfl, av, CP K, dv, _, _, rfl, e23 _ _ hv, T.p.cl, T.pa, pf_a p, _, _, rfl, rfl, mulB (tw_bd be bn) bp.2.2 (by omega) (by omega), _, _, _, rfl, ⟨a3, d3, rfl, h3⟩, fun w4 H4 e4 h4 => k w4 H4 (e23.trans e4) h4⟩
/-! ### Renaming.__init__, Renaming(..) -/
theorem sc_initR : FnScope ["self", "east", "north"] ["self", "east", "north"] (defScope s_Renaming_init) := ⟨rfl, rfl, rfl, by decide +kernel, rfl, by decide +kernel, by decide +kernel⟩
theorem ok_initR {fd : FuncData} (F : FnM K "Renaming" "__init__" "Renaming.__init__" s_Renaming_init fd) (D : D1 P w K mg base) :
    Df P w K mg base CX0 2 (He.ma K (CR K) "__init__") ["self", "east", "north"] (spInitR K) := by
  refine ⟨⟨fd, F.ok sc_initR (fun vs H Q E h => ?_) (fun cdv A outer s H vs Q E hr h => ?_), F.bindsN fun _ _ _ _ _ _ us hl => match us, hl with | [_, _, _], _ => rfl⟩, F.kp⟩
  · obtain ⟨a, dx, e, n, pe, pn, rfl, _⟩ := h
    rfl
  · have T := D.T
    obtain ⟨a, dx, e, n, pe, pn, rfl, ha, ⟨ae, de, rfl, he⟩, ⟨an, dn, rfl, hn⟩, k⟩ := h
    refine ⟨_, PSs.nox (pss_cons (ps_expr (pe_df D.n1 (hr.mono (by decide)) rfl (T.gl "need_place" (by decide +kernel)) pass0 (pa_cons (pv 1) pa_nil)))
      (pss_cons (ps_expr (pe_df D.n1 (hr.mono (by decide)) rfl (T.gl "need_place" (by decide +kernel)) pass0 (pa_cons (pv 2) pa_nil)))
      (pss_cons (ps_fld (pv 0) (pv 1) rfl) (pss_one (ps_fld (pv 0) (pv 2) rfl))))), ?_⟩
    refine ⟨_, rfl, ae, de, _, rfl, he, _, rfl, an, dn, _, rfl, hn, ?_⟩
    refine ⟨_, rfl, _, rfl, a, CR K, dx, [], rfl, ha, T.r.cl, T.re, by show 0 < 1000; decide, ?_⟩
    refine ⟨_, rfl, _, rfl, a, CR K, dx, _, rfl, upd_same, T.r.cl, T.rn, by show 1 < 1000; decide, ?_⟩
    show Q .non _
    rw [upd_upd, rf_put]
    exact k
end
/-- Renaming(e, n) -/
def tRn (K : PySem.W.Frag) (t : TA) : TE := fun σ H Q => t σ H fun vs H1 => ∃ (e n : V) (pe pn : Pl), vs = [e, n] ∧ IsPl K H1 e pe ∧ IsPl K H1 n pn ∧ Gives H1 (fun v H' => IsRn K H' v ⟨pe, pn⟩) Q
section
variable {X : Cx} {k : Nat} {x : Str} {p pos : Pos} {e : Expr} {es : List Expr} {t : TA}
theorem pe_rn (T : Txt X.K X.mg) (D : Df X.prog X.w X.K X.mg X.base CX0 2 (He.ma X.K (CR X.K) "__init__") ["self", "east", "north"] (spInitR X.K)) (hr : Room 3 X.A) (hg : Gl X "Renaming") (ha : PA X (e :: es) t)
    (he : starEach (e :: es) X.env = (false, eval e X.env) :: starEach es X.env := by rfl) (hpl : (backTo pos (starEach es X.env)).any (·.1) = false := by rfl) :
    PE X (.Call (.Name "Renaming" p) (e :: es) [] pos) (tRn X.K t) := by
  obtain ⟨fd, G, b⟩ := D.ex
  refine ⟨fun pins s σ H Q I h => ?_⟩
  refine wpAny_Call_Name_kw (ld_glob I hg (T.gl "Renaming" (by decide +kernel)) ?_)
  refine PySem.W.callWith_K (h₀ := X.base) I.ok.mod.kin T.mkR.kp (thn (ha.run pos pins s σ H _ I h) fun us s1 hh => ?_) he hpl
  obtain ⟨vs, H1, I1, r, e', n', pe, pn, rfl, ⟨ae, de, rfl, he'⟩, ⟨an, dn, rfl, hn'⟩, k⟩ := hh
  refine ⟨I1.kIn, run_make T.mkR G hr b .nil pass0 I1 r fun a dx na ndx ne => ?_⟩
  have st : Ex H1 (upd (upd H1 dx (.own a)) a (.ins (CR X.K) dx [])) := (Ex.new ndx).trans (Ex.new (by rw [upd_ne (Ne.symm ne)]; exact na))
  have st2 : Ex H1 (upd (upd H1 dx (.own a)) a (.ins (CR X.K) dx (rf (.ref ae) (.ref an)))) := (Ex.new ndx).trans (Ex.new (by rw [upd_ne (Ne.symm ne)]; exact na))
  refine ⟨a, dx, _, _, pe, pn, rfl, upd_same, ⟨ae, de, rfl, st _ _ he'⟩, ⟨an, dn, rfl, st _ _ hn'⟩, rfl, ?_⟩
  rw [upd_upd]
  exact k _ _ st2 ⟨a, dx, _, _, rfl, upd_same, ⟨ae, de, rfl, st2 _ _ he'⟩, ⟨an, dn, rfl, st2 _ _ hn'⟩⟩
end
/-- and what stands on renamings -/
structure D2 (P : Program) (w : World) (K : PySem.W.Frag) (mg : Str → Option Value) (base : Heap) : Prop extends D1 P w K mg base where
  led : Df P w K mg base CX0 6 (He.ga K "led_by") ["east", "north", "place"] (spLed K)
  inR : Df P w K mg base CX0 2 (He.ma K (CR K) "__init__") ["self", "east", "north"] (spInitR K)
section
variable {P : Program} {w : World} {K : PySem.W.Frag} {mg : Str → Option Value} {base : Heap}
theorem sc_ap : FnScope ["self", "place"] ["self", "place"] (defScope s_Renaming_call) := ⟨rfl, rfl, rfl, by decide +kernel, rfl, by decide +kernel, by decide +kernel⟩
theorem ok_ap {fd : FuncData} (F : FnM K "Renaming" "__call__" "Renaming.__call__" s_Renaming_call fd) (D : D2 P w K mg base) : Df P w K mg base CX0 7 (He.ma K (CR K) "__call__") ["self", "place"] (spAp K) := by
  refine ⟨⟨fd, F.ok sc_ap (fun vs H Q E h => ?_) (fun cdv A outer s H vs Q E hr h => ?_), F.bindsN fun _ _ _ _ _ _ us hl => match us, hl with | [_, _], _ => rfl⟩, F.kp⟩
  · obtain ⟨u, v, r, p, b, c, rfl, _⟩ := h
    rfl
  · have T := D.T
    obtain ⟨u, v, r, p, b, c, rfl, ⟨ar, dr, e, n, rfl, hr', he, hn⟩, ⟨av, dv, rfl, hv⟩, br, bp, hbc, k⟩ := h
    refine ⟨_, PSs.nox (pss_cons (ps_expr (pe_df D.n1 (hr.mono (by decide)) rfl (T.gl "need_place" (by decide +kernel)) pass0 (pa_cons (pv 1) pa_nil)))
      (pss_one (ps_ret (pe_df D.led hr rfl (T.gl "led_by" (by decide +kernel)) pass0 (pa_cons (pe_fld (pv 0) rfl) (pa_cons (pe_fld (pv 0) rfl) (pa_cons (pv 1) pa_nil))))))), ?_⟩
    refine ⟨_, rfl, av, dv, _, rfl, hv, _, rfl, ar, CR K, dr, _, _, rfl, hr', T.r.cl, T.re, rf_e e n, _, rfl, ar, CR K, dr, _, _, rfl, hr', T.r.cl, T.rn, rf_n e n, _, rfl, ?_⟩
    exact ⟨e, n, _, r.e, r.n, p, b, c, rfl, he, hn, ⟨av, dv, rfl, hv⟩, br.1, br.2, bp, hbc, k⟩
theorem sc_mulR : FnScope ["self", "other"] ["self", "other"] (defScope s_Renaming_mul) := ⟨rfl, rfl, rfl, by decide +kernel, rfl, by decide +kernel, by decide +kernel⟩
theorem ok_mulR {fd : FuncData} (F : FnM K "Renaming" "__mul__" "Renaming.__mul__" s_Renaming_mul fd) (D : D2 P w K mg base) : Df P w K mg base CX0 7 (He.ma K (CR K) "__mul__") ["self", "other"] (spMulR K) := by
  refine ⟨⟨fd, F.ok sc_mulR (fun vs H Q E h => ?_) (fun cdv A outer s H vs Q E hr h => ?_), F.bindsN fun _ _ _ _ _ _ us hl => match us, hl with | [_, _], _ => rfl⟩, F.kp⟩
  · obtain ⟨u, v, r, p, b, c, rfl, _⟩ := h
    rfl
  · have T := D.T
    obtain ⟨u, v, r, q, b, c, rfl, ⟨ar, dr, e, n, rfl, hr', he, hn⟩, ⟨aq, dq, f, g, rfl, hq, hf, hg⟩, br, bq, hbc, k⟩ := h
    refine ⟨_, PSs.nox (pss_one (ps_ret (pe_rn T D.inR (hr.mono (by decide)) rfl (pa_cons (pe_df D.led hr rfl (T.gl "led_by" (by decide +kernel)) pass0 (pa_cons (pe_fld (pv 0) rfl) (pa_cons (pe_fld (pv 0) rfl) (pa_cons (pe_fld (pv 1) rfl) pa_nil))))
      (pa_cons (pe_df D.led hr rfl (T.gl "led_by" (by decide +kernel)) pass0 (pa_cons (pe_fld (pv 0) rfl) (pa_cons (pe_fld (pv 0) rfl) (pa_cons (pe_fld (pv 1) rfl) pa_nil)))) pa_nil))))), ?_⟩
    refine ⟨_, rfl, ar, CR K, dr, _, _, rfl, hr', T.r.cl, T.re, rf_e e n, _, rfl, ar, CR K, dr, _, _, rfl, hr', T.r.cl, T.rn, rf_n e n, _, rfl, aq, CR K, dq, _, _, rfl, hq, T.r.cl, T.re, rf_e f g,
      e, n, f, r.e, r.n, q.e, b, c, rfl, he, hn, hf, br.1, br.2, bq.1, hbc, fun w1 H1 e1 h1 => ?_⟩
    have hr' := e1 _ _ hr'
    have hq := e1 _ _ hq
    refine ⟨_, rfl, ar, CR K, dr, _, _, rfl, hr', T.r.cl, T.re, rf_e e n, _, rfl, ar, CR K, dr, _, _, rfl, hr', T.r.cl, T.rn, rf_n e n, _, rfl, aq, CR K, dq, _, _, rfl, hq, T.r.cl, T.rn, rf_n f g,
      e, n, g, r.e, r.n, q.n, b, c, rfl, e1.le.pl he, e1.le.pl hn, e1.le.pl hg, br.1, br.2, bq.2, hbc, fun w2 H2 e2 h2 => ?_⟩
    exact ⟨w1, w2, _, _, rfl, e2.le.pl h1, h2, fun v H' e3 h3 => k v H' ((e1.trans e2).trans e3) h3⟩
theorem sc_one : FnScope [] [] (defScope s_same_names) := ⟨rfl, rfl, rfl, by decide +kernel, rfl, by decide +kernel, by decide +kernel⟩
theorem ok_one {fd : FuncData} (F : FnP K "same_names" s_same_names fd) (D : D2 P w K mg base) : Df P w K mg base CX0 4 (He.ga K "same_names") [] (spOne K) := by
  refine ⟨⟨fd, F.ok sc_one (fun vs H Q E h => ?_) (fun cdv A outer s H vs Q E hr h => ?_), F.bindsN fun _ _ _ _ _ _ us hl => match us, hl with | [], _ => rfl⟩, F.kp⟩
  · obtain ⟨rfl, _⟩ := h
    rfl
  · have T := D.T
    obtain ⟨rfl, k⟩ := h
    refine ⟨_, PSs.nox (pss_one (ps_ret (pe_rn T D.inR (hr.mono (by decide)) rfl (pa_cons (pe_plc T D.ini hr rfl (pa_cons pe_int (pa_cons pe_int (pa_cons pe_int pa_nil)))) (pa_cons (pe_plc T D.ini hr rfl (pa_cons pe_int (pa_cons pe_int (pa_cons pe_int pa_nil)))) pa_nil))))), ?_⟩
    refine ⟨_, _, _, rfl, fun w1 H1 e1 h1 => ⟨_, _, _, rfl, fun w2 H2 e2 h2 => ⟨_, _, _, _, rfl, e2.le.pl h1, h2, fun v H' e3 h3 => k v H' ((e1.trans e2).trans e3) h3⟩⟩⟩
theorem sc_inv : FnScope ["self", "sign", "east", "north"] ["self"] (defScope s_Renaming_invert) := ⟨rfl, rfl, rfl, by decide +kernel, rfl, by decide +kernel, by decide +kernel⟩
theorem inv_bd {c : Nat} {r : Rn} (h : Unit1 r.det) (hr : Br c r) (hc : 1 ≤ c) : Bp c (inv0e r) ∧ Bp c (inv0n r) := by
  have f : ∀ x : Int, Bi c x → Bi c (r.det * x) := fun x hx => by rcases h with h | h <;> rw [h] <;> (refine hx.le ?_; omega)
  have g : ∀ x : Int, Bi c x → Bi c (-r.det * x) := fun x hx => by rcases h with h | h <;> rw [h] <;> (refine hx.le ?_; omega)
  exact ⟨⟨f _ hr.2.2.1, g _ hr.1.2.1, .zero _⟩, ⟨g _ hr.2.1, f _ hr.1.1, .zero _⟩⟩
theorem in_unit {d : Int} (h : Unit1 d) : inV (.int d) [.int 1, .int (-1)] = true := by
  rcases h with h | h <;> rw [h] <;> decide
theorem ok_inv {fd : FuncData} (F : FnM K "Renaming" "__invert__" "Renaming.__invert__" s_Renaming_invert fd) (D : D2 P w K mg base) : Df P w K mg base CX0 7 (He.ma K (CR K) "__invert__") ["self"] (spInv K) := by
  refine ⟨⟨fd, F.ok sc_inv (fun vs H Q E h => ?_) (fun cdv A outer s H vs Q E hr h => ?_), F.bindsN fun _ _ _ _ _ _ us hl => match us, hl with | [_], _ => rfl⟩, F.kp⟩
  · obtain ⟨u, r, c, rfl, _⟩ := h
    rfl
  · have T := D.T
    obtain ⟨u, r, c, rfl, ⟨ar, dr, e, n, rfl, hR, ⟨ae, de, rfl, he⟩, ⟨an, dn, rfl, hn⟩⟩, hu, br, hc, hcb, k⟩ := h
    refine ⟨_, PSs.nox (pss_cons (ps_set (i := 1) sc_inv.nd rfl (.inl rfl) (pe_mt (pe_fld (pv 0) rfl) T.p.cl (T.pm "twist" (by decide +kernel)) D.twi (hr.mono (by decide)) pass0 (pa_cons (pe_fld (pv 0) rfl) pa_nil)))
      (pss_cons (ps_if (pt_cmpR op_notIn_seq (pv 1) (pe_tup (pa_cons pe_int (pa_cons (pe_un un_neg pe_int) pa_nil))) rfl) (pss_one ps_never) pss_nil)
      (pss_cons (ps_set (i := 2) sc_inv.nd rfl (.inl rfl) (pe_plc T D.ini (hr.mono (by decide)) rfl (pa_cons (pe_op op_mulB (pv 1) (pe_fld (pe_fld (pv 0) rfl) rfl)) (pa_cons (pe_op op_mulB (pe_un un_neg (pv 1)) (pe_fld (pe_fld (pv 0) rfl) rfl)) (pa_cons pe_int pa_nil)))))
      (pss_cons (ps_set (i := 3) sc_inv.nd rfl (.inl rfl) (pe_plc T D.ini (hr.mono (by decide)) rfl (pa_cons (pe_op op_mulB (pe_un un_neg (pv 1)) (pe_fld (pe_fld (pv 0) rfl) rfl)) (pa_cons (pe_op op_mulB (pv 1) (pe_fld (pe_fld (pv 0) rfl) rfl)) (pa_cons pe_int pa_nil)))))
      (pss_cons (ps_set (i := 2) sc_inv.nd rfl (.inl rfl) (pe_mt (pv 2) T.p.cl (T.pm "lifted" (by decide +kernel)) D.lif (hr.mono (by decide)) pass0 (pa_cons (pe_op op_mulB (pe_un un_neg (pv 1))
          (pe_fld (pe_df D.led hr rfl (T.gl "led_by" (by decide +kernel)) pass0 (pa_cons (pe_fld (pv 0) rfl) (pa_cons (pe_fld (pv 0) rfl) (pa_cons (pv 2) pa_nil)))) rfl)) pa_nil)))
      (pss_one (ps_ret (pe_rn T D.inR (hr.mono (by decide)) rfl (pa_cons (pv 2) (pa_cons (pe_mt (pv 3) T.p.cl (T.pm "lifted" (by decide +kernel)) D.lif (hr.mono (by decide)) pass0 (pa_cons (pe_op op_mulB (pe_un un_neg (pv 1))
          (pe_fld (pe_df D.led hr rfl (T.gl "led_by" (by decide +kernel)) pass0 (pa_cons (pe_fld (pv 0) rfl) (pa_cons (pe_fld (pv 0) rfl) (pa_cons (pv 3) pa_nil)))) rfl)) pa_nil)) pa_nil)))))))))), ?_⟩
    have fe := rf_e (.ref ae) (.ref an)
    have fnn := rf_n (.ref ae) (.ref an)
    have bd : Bi c r.det := (Bi.unit 0 hu).mono hc
    have bi := inv_bd hu br hc
    refine ⟨_, rfl, ar, CR K, dr, _, _, rfl, hR, T.r.cl, T.re, fe, ae, de, _, rfl, he, (no_m _).2.2, _, rfl, ar, CR K, dr, _, _, rfl, hR, T.r.cl, T.rn, fnn, _, _, r.e, r.n, rfl, ⟨ae, de, rfl, he⟩, ⟨an, dn, rfl, hn⟩, br.1.mono (by omega), br.2.mono (by omega), ?_⟩
    refine ⟨_, rfl, ⟨1, rfl, by show 2 ≤ sizeLine; decide, fun tp np => ⟨tp, _, rfl, .inr (.of upd_same), rfl, rfl, _, rfl, ?_⟩⟩⟩
    have cond : (if true = true then !inV (.int (tw r.e r.n)) [.int 1, .int (-1)] else inV (.int (tw r.e r.n)) [.int 1, .int (-1)]) = false := by
      rw [if_pos rfl, in_unit (show Unit1 (tw r.e r.n) from hu)]
      rfl
    rw [cond]
    refine iteF ?_
    have e0 : Ex H (upd H tp (.tup [.int 1, .int (-1)])) := .new np
    have hR0 := e0 _ _ hR
    have he0 := e0 _ _ he
    have hn0 := e0 _ _ hn
    refine ⟨_, rfl, _, rfl, ar, CR K, dr, _, _, rfl, hR0, T.r.cl, T.rn, fnn, an, CP K, dn, _, _, rfl, hn0, T.p.cl, T.py, pf_y _, _, _, rfl, rfl, mulB bd br.2.2.1 (by omega) (by omega), ?_⟩
    refine ⟨_, rfl, _, rfl, _, rfl, ar, CR K, dr, _, _, rfl, hR0, T.r.cl, T.re, fe, ae, CP K, de, _, _, rfl, he0, T.p.cl, T.py, pf_y _, _, _, rfl, rfl, mulB bd.neg br.1.2.1 (by omega) (by omega), ?_⟩
    refine ⟨_, _, _, rfl, fun w1 H1 e1 h1 => ?_⟩
    have e01 := e0.trans e1
    have hR1 := e01 _ _ hR
    have he1 := e01 _ _ he
    have hn1 := e01 _ _ hn
    refine ⟨_, rfl, _, rfl, _, rfl, ar, CR K, dr, _, _, rfl, hR1, T.r.cl, T.rn, fnn, an, CP K, dn, _, _, rfl, hn1, T.p.cl, T.px, pf_x _, _, _, rfl, rfl, mulB bd.neg br.2.1 (by omega) (by omega), ?_⟩
    refine ⟨_, rfl, _, rfl, ar, CR K, dr, _, _, rfl, hR1, T.r.cl, T.re, fe, ae, CP K, de, _, _, rfl, he1, T.p.cl, T.px, pf_x _, _, _, rfl, rfl, mulB bd br.1.1 (by omega) (by omega), ?_⟩
    refine ⟨_, _, _, rfl, fun w2 H2 e2 h2 => ?_⟩
    have e02 := e01.trans e2
    have hR2 := e02 _ _ hR
    obtain ⟨a1, d1, ew1, k1⟩ := e2.le.pl h1
    subst ew1
    have bap : ∀ p : Pl, Bp c p → Bp 999999 (r.ap p) := fun p hp => (ap_bd br hp).mono (by omega)
    refine ⟨_, rfl, a1, d1, _, rfl, k1, (no_m _).2.1, _, rfl, _, rfl, _, rfl, ar, CR K, dr, _, _, rfl, hR2, T.r.cl, T.re, fe, _, rfl, ar, CR K, dr, _, _, rfl, hR2, T.r.cl, T.rn, fnn, _, rfl, ?_⟩
    refine ⟨_, _, _, r.e, r.n, inv0e r, c, c, rfl, e02.le.pl ⟨ae, de, rfl, he⟩, e02.le.pl ⟨an, dn, rfl, hn⟩, ⟨a1, d1, rfl, k1⟩, br.1, br.2, bi.1, by omega, fun w3 H3 e3 ⟨a3, d3, ew3, h3⟩ => ?_⟩
    subst ew3
    refine ⟨a3, CP K, d3, _, _, rfl, h3, T.p.cl, T.pa, pf_a _, _, _, rfl, rfl, mulB bd.neg (bap _ bi.1).2.2 (by omega) (by omega), _, inv0e r, _, rfl, ⟨a1, d1, rfl, e3 _ _ k1⟩, fun w4 H4 e4 h4 => ?_⟩
    have e04 := (e02.trans e3).trans e4
    have hR4 := e04 _ _ hR
    obtain ⟨a2, d2, ew2, k2⟩ := (e3.trans e4).le.pl h2
    subst ew2
    refine ⟨_, rfl, ?_⟩
    refine ⟨_, rfl, a2, d2, _, rfl, k2, (no_m _).2.1, _, rfl, _, rfl, _, rfl, ar, CR K, dr, _, _, rfl, hR4, T.r.cl, T.re, fe, _, rfl, ar, CR K, dr, _, _, rfl, hR4, T.r.cl, T.rn, fnn, _, rfl, ?_⟩
    refine ⟨_, _, _, r.e, r.n, inv0n r, c, c, rfl, e04.le.pl ⟨ae, de, rfl, he⟩, e04.le.pl ⟨an, dn, rfl, hn⟩, ⟨a2, d2, rfl, k2⟩, br.1, br.2, bi.2, by omega, fun w5 H5 e5 ⟨a5, d5, ew5, h5⟩ => ?_⟩
    subst ew5
    refine ⟨a5, CP K, d5, _, _, rfl, h5, T.p.cl, T.pa, pf_a _, _, _, rfl, rfl, mulB bd.neg (bap _ bi.2).2.2 (by omega) (by omega), _, inv0n r, _, rfl, ⟨a2, d2, rfl, e5 _ _ k2⟩, fun w6 H6 e6 h6 => ?_⟩
    exact ⟨_, _, _, _, rfl, (e5.trans e6).le.pl h4, h6, fun v H' e7 h7 => k v H' (((e04.trans e5).trans e6).trans e7) h7⟩
end
end AW
/-! Figures: tuples of tuples of three numbers; their order; rows of the law. -/
namespace AW
open PySem PySem.Spec PyProof.Rows L2

def rowD (p : Pl) : PyData := .tuple [.int p.x, .int p.y, .int p.a]
def figD (c : List Pl) : PyData := .tuple (c.map rowD)
theorem row_eqv (p q : Pl) : PyData.eqv (rowD p) (rowD q) = decide (p = q) := by
  obtain ⟨a, b, c⟩ := p
  obtain ⟨d, e, f⟩ := q
  simp only [rowD, PyData.eqv, PyData.eqvAll, Bool.and_true, Pl.mk.injEq]
  rw [Bool.eq_iff_iff]
  simp
theorem rows_eqv : ∀ c d : List Pl, PyData.eqvAll (c.map rowD) (d.map rowD) = decide (c = d)
  | [], [] => by simp [PyData.eqvAll]
  | [], _ :: _ => by simp [PyData.eqvAll]
  | _ :: _, [] => by simp [PyData.eqvAll]
  | p :: c, q :: d => by
    rw [List.map_cons, List.map_cons, PyData.eqvAll, row_eqv, rows_eqv c d]
    rw [Bool.eq_iff_iff]
    simp
theorem fig_eqv (c d : List Pl) : PyData.eqv (figD c) (figD d) = decide (c = d) := by
  rw [figD, figD, PyData.eqv, rows_eqv]
theorem row_lay (p : Pl) : (rowD p).canLay0 = true := by simp [rowD, PyData.canLay0, PyData.canLayAll0]
theorem row_depth (p : Pl) : (rowD p).depth ≤ 2 := by simp [rowD, PyData.depth, PyData.depthAll]
theorem rows_lay : ∀ c : List Pl, PyData.canLayAll0 (c.map rowD) = true
  | [] => by simp [PyData.canLayAll0]
  | p :: c => by rw [List.map_cons, PyData.canLayAll0, row_lay, rows_lay c]; rfl
theorem rows_depth : ∀ c : List Pl, PyData.depthAll (c.map rowD) ≤ 2
  | [] => by simp [PyData.depthAll]
  | p :: c => by
    rw [List.map_cons, PyData.depthAll]
    have := row_depth p
    have := rows_depth c
    omega
theorem fig_shaped (c : List Pl) : SeqAt.shaped (figD c) = true := by
  have h := rows_depth c
  refine Bool.and_eq_true_iff.mpr ⟨?_, decide_eq_true ?_⟩
  · rw [figD, PyData.canLay0]; exact rows_lay c
  · rw [figD, PyData.depth]; omega
theorem figL_shaped (c : List Pl) : SeqAt.shaped (.list (c.map rowD)) = true := by
  have h := rows_depth c
  refine Bool.and_eq_true_iff.mpr ⟨?_, decide_eq_true ?_⟩
  · rw [PyData.canLay0]; exact rows_lay c
  · rw [PyData.depth]; omega
theorem row_alike (p q : Pl) : PySem.W.alike (rowD p) (rowD q) = true := by simp [rowD, PySem.W.alike, PySem.W.alikeAll]
theorem rows_alike : ∀ c d : List Pl, c.length = d.length → PySem.W.alikeAll (c.map rowD) (d.map rowD) = true
  | [], _, _ => by simp [PySem.W.alikeAll]
  | _ :: _, [], e => by cases e
  | p :: c, q :: d, e => by
    rw [List.map_cons, List.map_cons, PySem.W.alikeAll, row_alike, rows_alike c d (Nat.succ.inj e)]
    rfl
theorem lt_ite {x y : PyData} {xs ys : List PyData} (h : PySem.W.alike x y = true) : PyProof.Rows.lexLt PyProof.Rows.itemOrd (PySem.W.keyToksAll (x :: xs)) (PySem.W.keyToksAll (y :: ys)) =
    if PyData.eqv x y = true then PyProof.Rows.lexLt PyProof.Rows.itemOrd (PySem.W.keyToksAll xs) (PySem.W.keyToksAll ys) else PySem.W.dataLt x y := by
  cases e : PyData.eqv x y with
  | true => rw [if_pos rfl]; exact PySem.W.dataLt_all_yes h e
  | false => rw [if_neg Bool.false_ne_true]; exact PySem.W.dataLt_all_no h e
theorem nil_lt : PyProof.Rows.lexLt PyProof.Rows.itemOrd (PySem.W.keyToksAll []) (PySem.W.keyToksAll []) = false := by decide +kernel
theorem row_lt (p q : Pl) : PySem.W.dataLt (rowD p) (rowD q) = ltP p q := by
  have ai : ∀ i j : Int, PySem.W.alike (.int i) (.int j) = true := fun i j => by simp [PySem.W.alike]
  rw [rowD, rowD, PySem.W.dataLt_tuple, lt_ite (ai _ _), lt_ite (ai _ _), lt_ite (ai _ _), nil_lt, PySem.W.dataLt_int, PySem.W.dataLt_int, PySem.W.dataLt_int]
  simp only [PyData.eqv, ltP]
  by_cases h1 : p.x = q.x
  · by_cases h2 : p.y = q.y
    · by_cases h3 : p.a = q.a
      · simp [h1, h2, h3]
      · simp [h1, h2, h3]
    · simp [h1, h2]
  · simp [h1]
theorem rows_lt : ∀ c d : List Pl, c.length = d.length → PyProof.Rows.lexLt PyProof.Rows.itemOrd (PySem.W.keyToksAll (c.map rowD)) (PySem.W.keyToksAll (d.map rowD)) = ltL c d
  | [], [], _ => nil_lt
  | [], _ :: _, e => by cases e
  | _ :: _, [], e => by cases e
  | p :: c, q :: d, e => by
    rw [List.map_cons, List.map_cons, lt_ite (row_alike p q), row_eqv, row_lt, rows_lt c d (Nat.succ.inj e), ltL]
    by_cases h : p = q
    · subst h
      simp [ltP_irr]
    · simp [h]
theorem fig_lt {c d : List Pl} (e : c.length = d.length) : PySem.W.dataLt (figD c) (figD d) = ltL c d := by
  rw [figD, figD, PySem.W.dataLt_tuple, rows_lt c d e]
def rLtF (K : PySem.W.Frag) : R2 := fun x y H Q => ∃ c d, Dp K H x (figD c) ∧ Dp K H y (figD d) ∧ c.length = d.length ∧ Q (.bl (ltL c d)) H
theorem op_ltF {X : Cx} (hu : X.A.units + 64 < cLine) : OpR X (compareOp .Lt) (rLtF X.K) := by
  intro pins s σ H x y v u Q I rx ry h
  obtain ⟨c, d, hd, he, hl, q⟩ := h
  obtain ⟨as, r1⟩ := Dp.reads I _ x v hd rx
  obtain ⟨bs, r2⟩ := Dp.reads I _ y u he ry
  rw [← fig_lt hl] at q
  refine PySem.W.rcLt_alike (figD c) (figD d) X.A s v u as bs r1 r2 ?_ (by simp [figD]) (SeqAt.room_of_shaped (fig_shaped c) hu) X.prog X.w X.xe _ ⟨.bl _, H, I, rfl, q⟩
  rw [figD, figD, PySem.W.alike]
  exact rows_alike c d hl

/-! ### data that stay -/
mutual
theorem dp_le {K : PySem.W.Frag} {H H' : Hp} (e : Le H H') : ∀ (d : PyData) (v : V), Dp K H v d → Dp K H' v d
  | .none, _, h => by cases h; exact .non
  | .bool b, _, h => by cases h; exact .bl b
  | .int i, _, h => by cases h; exact .int i
  | .str x, _, h => by cases h; exact .str x
  | .list ds, _, h => by
    cases h with
    | lst hs ha => exact .lst (e.sqL hs) (dps_le e ds _ ha)
  | .tuple ds, _, h => by
    cases h with
    | tup hs ha => exact .tup (e.sqT hs) (dps_le e ds _ ha)
  | .dict _, _, h => by cases h
theorem dps_le {K : PySem.W.Frag} {H H' : Hp} (e : Le H H') : ∀ (ds : List PyData) (vs : List V), DpAll K H vs ds → DpAll K H' vs ds
  | [], _, h => by cases h; exact .nil
  | d :: ds, _, h => by
    cases h with
    | cons h1 h2 => exact .cons (dp_le e d _ h1) (dps_le e ds _ h2)
end
theorem dp_row {K : PySem.W.Frag} {H : Hp} {t : Addr} {p : Pl} (h : SqT K H t [.int p.x, .int p.y, .int p.a]) : Dp K H (.ref t) (rowD p) := .tup h (.cons (.int _) (.cons (.int _) (.cons (.int _) .nil)))
theorem dps_snoc {K : PySem.W.Frag} {H : Hp} {v : V} {d : PyData} (h : Dp K H v d) : ∀ (vs : List V) (ds : List PyData), DpAll K H vs ds → DpAll K H (vs ++ [v]) (ds ++ [d])
  | _, _, .nil => .cons h .nil
  | _, _, .cons h1 h2 => .cons h1 (dps_snoc h _ _ h2)
end AW
/-! Comprehensions over a list or tuple; first_at, figures_of, renamed_all. -/
namespace AW
open PySem PySem.Spec PyProof.Rows L2

/-- all but lists stays -/
def Nl (H H' : Hp) : Prop := ∀ b o, H b = some o → (∀ xs, o ≠ .lst xs) → H' b = some o
theorem Nl.refl (H : Hp) : Nl H H := fun _ _ h _ => h
theorem Nl.trans {H H1 H2 : Hp} (a : Nl H H1) (b : Nl H1 H2) : Nl H H2 := fun c o h n => b c o (a c o h n) n
theorem nl_ex {H H' : Hp} (e : Evl.Ex H H') : Nl H H' := fun b o h _ => e b o h
theorem nl_upd {H : Hp} {D : Addr} {xs ys : List V} (h : H D = some (.lst xs)) : Nl H (upd H D (.lst ys)) := fun b o e n => by
  by_cases hb : b = D
  · subst hb
    rw [h] at e
    exact absurd (Option.some.inj e).symm (n xs)
  · rw [upd_ne hb]
    exact e
theorem Nl.pl {K : PySem.W.Frag} {H H' : Hp} (e : Nl H H') {v : V} {p : Pl} (h : IsPl K H v p) : IsPl K H' v p := by
  obtain ⟨a, dx, rfl, h⟩ := h
  exact ⟨a, dx, rfl, e a _ h fun xs z => by cases z⟩
theorem Nl.sqT {K : PySem.W.Frag} {H H' : Hp} (e : Nl H H') {a : Addr} {xs : List V} (h : SqT K H a xs) : SqT K H' a xs := by
  rcases h with (h | ⟨o, h⟩) | h
  · exact .inl (.inl (e a _ h fun xs z => by cases z))
  · exact .inl (.inr ⟨o, e a _ h fun xs z => by cases z⟩)
  · exact .inr h

section
variable {K : PySem.W.Frag} {te : TE} {σ : L2.St} {H : Hp} {Q : VK} {i j : Nat} {u : V} {us : List V}
/-- the turns, with a word on what has been built -/
theorem lc_sq (R : Nat → V → Hp → Prop) (mono : ∀ k v H H', Nl H H' → R k v H → R k v H') (hu : σ[i]? = some (some u)) (sq : IsSq K H u us) (hz : us.length < sizeLine)
    (step : ∀ k x H' (Q' : VK), us[k]? = some x → Evl.Ex H H' → (∀ y H2, Evl.Ex H' H2 → R k y H2 → Q' y H2) → te ((wipe σ [j]).set j (some x)) H' Q')
    (fin : ∀ D ys H', Evl.Ex H H' → H' D = some (.lst ys) → ys.length = us.length → (∀ k y, ys[k]? = some y → R k y H') → Q (.ref D) H') :
    tLc (iSq K i) (gName j) tYes te [j] σ H Q := by
  have wset : ∀ x : V, wipe ((wipe σ [j]).set j (some x)) [j] = wipe σ [j] := fun x => by
    show ((σ.set j none).set j (some x)).set j none = σ.set j none
    rw [List.set_set, List.set_set]
  obtain ⟨a, rfl, sq⟩ := sq
  refine ⟨a, hu, ?_⟩
  have pv : ∀ D, H D = none → ∀ (Sq : Hp → Prop), (∀ H', Evl.Ex H H' → Sq H') → ∃ Pv : Nat → Hp → Prop, Pv 0 (upd H D (.lst [])) ∧ (∀ i H', i ≤ us.length → Pv i H' → Sq H') ∧
      (∀ i x H', us[i]? = some x → Pv i H' → gName j x (wipe σ [j]) H' fun σ2 H2 => wipe σ2 [j] = wipe σ [j] ∧ tYes σ2 H2 fun b H3 =>
        if b = true then te σ2 H3 fun y H4 => ∃ acc, H4 D = some (.lst acc) ∧ acc.length < sizeLine ∧ Pv (i + 1) (upd H4 D (.lst (acc ++ [y]))) else Pv (i + 1) H3) ∧ ∀ H', Pv us.length H' → Q (.ref D) H' := by
    intro D nD Sq hSq
    refine ⟨fun k H' => k ≤ us.length ∧ Evl.Ex H H' ∧ ∃ ys, H' D = some (.lst ys) ∧ ys.length = k ∧ ∀ m y, ys[m]? = some y → R m y H', ⟨Nat.zero_le _, .new nD, [], upd_same, rfl, fun m y h => by simp at h⟩, fun k H' _ h => hSq H' h.2.1, ?_, ?_⟩
    · rintro k x H' hx ⟨hk, ex, ys, hD, hl, hR⟩
      refine ⟨wset x, step k x H' _ hx ex fun y H4 e4 r4 => ?_⟩
      have hk' : k < us.length := (List.getElem?_eq_some_iff.mp hx).1
      have hD4 := e4 _ _ hD
      refine ⟨ys, hD4, by rw [hl]; exact Nat.lt_trans hk' hz, hk', (ex.trans e4).mut nD, ys ++ [y], upd_same, by simp [hl], fun m z hm => ?_⟩
      rcases Nat.lt_or_ge m ys.length with h1 | h1
      · rw [List.getElem?_append_left h1] at hm
        exact mono m z _ _ ((nl_ex e4).trans (nl_upd hD4)) (hR m z hm)
      · rw [List.getElem?_append_right h1] at hm
        have e0 : m - ys.length = 0 := by
          rcases Nat.eq_zero_or_pos (m - ys.length) with h | h
          · exact h
          · rw [List.getElem?_eq_none (by simp; omega)] at hm
            cases hm
        rw [e0] at hm
        have ez : y = z := by simpa using hm
        subst ez
        have em : m = k := by omega
        subst em
        exact mono m y _ _ (nl_upd hD4) r4
    · rintro H' ⟨_, ex, ys, hD, hl, hR⟩
      exact fin D ys H' ex hD hl hR
  rcases sq with sq | sq
  · refine .inl ⟨us, sq, fun D nD => ?_⟩
    obtain ⟨Pv, h0, h1, h2, h3⟩ := pv D nD (fun H' => SqL K H' a us) fun H' e => (Ex.le e).sqL sq
    exact lc_list (xs := us) Pv h0 h1 h2 h3
  · refine .inr ⟨us, sq, fun D nD => ?_⟩
    obtain ⟨Pv, h0, h1, h2, h3⟩ := pv D nD (fun H' => SqT K H' a us) fun H' e => (Ex.le e).sqT sq
    exact lc_tup (xs := us) Pv h0 h1 h2 h3
end

/-! ### first_at -/
/-- an index of what was found, or None -/
def FA (o : Option Pl) (ps : List Pl) (v : V) : Prop := (v = .non ∧ o = none) ∨ ∃ (i : Nat) (p : Pl), v = .int (i : Nat) ∧ ps[i]? = some p ∧ o = some p
def spFirst (K : PySem.W.Frag) : Sp := fun vs H Q _ => ∃ (u : V) (us : List V) (ps : List Pl) (y : Bool), vs = [u, .str (if y then "y" else "x")] ∧ IsSq K H u us ∧ IsPs K H us ps ∧ Gives H (fun v _ => FA (if y then fY ps else fX ps) ps v) Q
theorem find_at {α : Type} {f : α → Bool} : ∀ {l : List α} {j : Nat} {p : α}, (∀ i q, i < j → l[i]? = some q → f q = false) → l[j]? = some p → f p = true → l.find? f = some p
  | [], j, p, _, h, _ => by simp at h
  | q :: l, 0, p, _, h, hp => by
    simp at h
    subst h
    rw [List.find?_cons, hp]
  | q :: l, j + 1, p, hn, h, hp => by
    rw [List.find?_cons, hn 0 q (Nat.zero_lt_succ _) rfl]
    exact find_at (fun i r hi hr => hn (i + 1) r (Nat.succ_lt_succ hi) (by simpa using hr)) (by simpa using h) hp
theorem find_no {α : Type} {f : α → Bool} {l : List α} (h : ∀ i q, i < l.length → l[i]? = some q → f q = false) : l.find? f = none := by
  refine List.find?_eq_none.mpr fun q hq => ?_
  obtain ⟨i, hi⟩ := List.getElem?_of_mem hq
  rw [h i q (List.getElem?_eq_some_iff.mp hi).1 hi]
  exact Bool.false_ne_true
section
variable {P : Program} {w : World} {K : PySem.W.Frag} {mg : Str → Option Value} {base : Heap}
theorem sc_first : FnScope ["places", "asked", "index", "place"] ["places", "asked"] (defScope s_first_at) := ⟨rfl, rfl, rfl, by decide +kernel, rfl, by decide +kernel, by decide +kernel⟩
theorem nz0 {i : Int} (h : i = 0) : V.bl (!decide (i = 0)) = V.bl false := by rw [decide_eq_true h]; rfl
theorem nz1 {i : Int} (h : ¬ i = 0) : V.bl (!decide (i = 0)) = V.bl true := by rw [decide_eq_false h]; rfl
theorem dec_xx : decide (V.str "x" = V.str "x") = true := by decide +kernel
theorem dec_yy : decide (V.str "y" = V.str "y") = true := by decide +kernel
theorem dec_xy : decide (V.str "x" = V.str "y") = false := by decide +kernel
theorem dec_yx : decide (V.str "y" = V.str "x") = false := by decide +kernel
theorem ok_first {fd : FuncData} (F : FnP K "first_at" s_first_at fd) (T : Txt K mg) : Df P w K mg base CX0 1 (He.ga K "first_at") ["places", "asked"] (spFirst K) := by
  refine ⟨⟨fd, F.ok sc_first (fun vs H Q E h => ?_) (fun cdv A outer s H vs Q E hr h => ?_), F.bindsN fun _ _ _ _ _ _ us hl => match us, hl with | [_, _], _ => rfl⟩, F.kp⟩
  · obtain ⟨u, us, ps, y, rfl, _⟩ := h
    rfl
  · obtain ⟨u, us, ps, y, rfl, sq, hp, k⟩ := h
    refine ⟨_, PSs.nox (pss_cons (ps_for PassesOwn.never rfl (pi_en (i := 0) rfl (T.fr "enumerate" (by decide +kernel)) (pv 0)) (pg_tup (n := 2) rfl (pgs_cons (pg_name (i := 2) sc_first.nd rfl (.inl rfl)) (pgs_cons (pg_name (i := 3) sc_first.nd rfl (.inl rfl)) pgs_nil)))
      (pss_one (ps_if (pw_or (pw_and (pt_cmpR op_eq (pv 1) pe_str (nomark _)) (pw_and1 (pw_or (pt_cmp (pc_neI (pe_fld (pv 3) rfl) pe_int)) (pw_or1 (pt_cmp (pc_neI (pe_fld (pv 3) rfl) pe_int)))).pt)).pt
          (pw_or1 (pw_and (pt_cmpR op_eq (pv 1) pe_str (nomark _)) (pw_and1 (pt_cmp (pc_neI (pe_fld (pv 3) rfl) pe_int)))).pt)).pt
        (pss_one (ps_ret (pv 2))) pss_nil))) (pss_one (ps_ret pe_non))), ?_⟩
    refine for_en (fun i σ H' => Evl.Ex H H' ∧ (∃ v2 v3, σ = [some u, some (.str (if y then "y" else "x")), v2, v3]) ∧ ∀ j q, j < i → ps[j]? = some q → (if y then mvY q else mvX q) = false) rfl sq ⟨.refl _, ⟨none, none, rfl⟩, fun j q h => by omega⟩ ?_ ?_ ?_
    · rintro j σ H' _ ⟨e, _⟩
      exact Ex.le e
    · rintro j x σ H' T' hx ⟨e, ⟨v2, v3, rfl⟩, hno⟩ hT
      have e2 : Evl.Ex H (upd H' T' (.tup [.int (j : Nat), x])) := e.trans (.new hT)
      obtain ⟨p, hpp, hpl⟩ := Ps.get hp hx
      obtain ⟨a, dx, rfl, ha⟩ := (Ex.le e2).pl hpl
      refine ⟨T', _, rfl, .of upd_same, rfl, _, _, rfl, _, _, rfl, rfl, ?_⟩
      have again : (if y then mvY p else mvX p) = false → ∀ i q, i < j + 1 → ps[i]? = some q → (if y then mvY q else mvX q) = false := fun h i q hi hq => by
        rcases Nat.lt_or_ge i j with hlt | hge
        · exact hno i q hlt hq
        · have : i = j := by omega
          subst this
          rw [hpp] at hq
          cases hq
          exact h
      have found : (if y then mvY p else mvX p) = true → Q (.int (j : Nat)) (upd H' T' (.tup [.int (j : Nat), .ref a])) := fun h => by
        refine k _ _ e2 (.inr ⟨j, p, rfl, hpp, ?_⟩)
        cases y with
        | true => exact find_at hno hpp h
        | false => exact find_at hno hpp h
      cases y with
      | false =>
        refine ⟨_, rfl, rfl, true, congrArg V.bl dec_xx, iteT ?_⟩
        by_cases h1 : p.x = 0
        · refine ⟨_, rfl, a, CP K, dx, _, _, rfl, ha, T.p.cl, T.px, pf_x p, _, _, rfl, rfl, false, nz0 h1, iteF ?_⟩
          by_cases h2 : p.y = 0
          · refine ⟨_, rfl, a, CP K, dx, _, _, rfl, ha, T.p.cl, T.py, pf_y p, _, _, rfl, rfl, false, nz0 h2, iteF ?_⟩
            exact ⟨_, rfl, rfl, false, congrArg V.bl dec_xy, iteF (iteF ⟨e2, ⟨_, _, rfl⟩, again (mvX_ff.mpr ⟨h1, h2⟩)⟩)⟩
          · refine ⟨_, rfl, a, CP K, dx, _, _, rfl, ha, T.p.cl, T.py, pf_y p, _, _, rfl, rfl, true, nz1 h2, iteT (iteT ⟨_, rfl, found (mvX_iff.mpr (.inr h2))⟩)⟩
        · exact ⟨_, rfl, a, CP K, dx, _, _, rfl, ha, T.p.cl, T.px, pf_x p, _, _, rfl, rfl, true, nz1 h1, iteT (iteT (iteT ⟨_, rfl, found (mvX_iff.mpr (.inl h1))⟩))⟩
      | true =>
        refine ⟨_, rfl, rfl, false, congrArg V.bl dec_yx, iteF (iteF ?_)⟩
        refine ⟨_, rfl, rfl, true, congrArg V.bl dec_yy, iteT ?_⟩
        by_cases h2 : p.y = 0
        · exact ⟨_, rfl, a, CP K, dx, _, _, rfl, ha, T.p.cl, T.py, pf_y p, _, _, rfl, rfl, false, nz0 h2, iteF ⟨e2, ⟨_, _, rfl⟩, again (mvY_ff.mpr h2)⟩⟩
        · exact ⟨_, rfl, a, CP K, dx, _, _, rfl, ha, T.p.cl, T.py, pf_y p, _, _, rfl, rfl, true, nz1 h2, iteT ⟨_, rfl, found (mvY_iff.mpr h2)⟩⟩
    · rintro σ H' ⟨e, ⟨v2, v3, rfl⟩, hno⟩
      refine k _ _ e (.inl ⟨rfl, ?_⟩)
      have hl : us.length = ps.length := Ps.length hp
      rw [hl] at hno
      cases y with
      | true => exact find_no hno
      | false => exact find_no hno
end
end AW
/-! figures_of, renamed_all. -/
namespace AW
open PySem PySem.Spec PyProof.Rows L2

/-- a list of its own, of places -/
def IsLs (K : PySem.W.Frag) (H : Hp) (v : V) (ps : List Pl) : Prop := ∃ D ys, v = .ref D ∧ H D = some (.lst ys) ∧ IsPs K H ys ps
/-- places in a list or tuple -/
def IsPp (K : PySem.W.Frag) (H : Hp) (v : V) (ps : List Pl) : Prop := ∃ us, IsSq K H v us ∧ IsPs K H us ps
theorem IsLs.pp {K : PySem.W.Frag} {H : Hp} {v : V} {ps : List Pl} (h : IsLs K H v ps) : IsPp K H v ps := by
  obtain ⟨D, ys, rfl, hD, h⟩ := h
  exact ⟨ys, ⟨D, rfl, .inl (.of hD)⟩, h⟩
theorem Le.pp {K : PySem.W.Frag} {H H' : Hp} (e : Le H H') {v : V} {ps : List Pl} (h : IsPp K H v ps) : IsPp K H' v ps := by
  obtain ⟨us, h1, h2⟩ := h
  exact ⟨us, e.sq h1, e.ps h2⟩
theorem Le.ls {K : PySem.W.Frag} {H H' : Hp} (e : Le H H') {v : V} {ps : List Pl} (h : IsLs K H v ps) : IsLs K H' v ps := by
  obtain ⟨D, ys, rfl, hD, h⟩ := h
  exact ⟨D, ys, rfl, e.lst hD, e.ps h⟩
theorem ps_of {K : PySem.W.Frag} {H : Hp} : ∀ {ys : List V} {ps : List Pl}, ys.length = ps.length → (∀ (k : Nat) (y : V), ys[k]? = some y → ∃ p : Pl, ps[k]? = some p ∧ IsPl K H y p) → IsPs K H ys ps
  | [], [], _, _ => .nil
  | [], _ :: _, e, _ => by cases e
  | _ :: _, [], e, _ => by cases e
  | y :: ys, p :: ps, e, h => by
    refine .cons ?_ (ps_of (Nat.succ.inj e) fun k z hz => by simpa using h (k + 1) z (by simpa using hz))
    obtain ⟨q, hq, hp⟩ := h 0 y rfl
    simp at hq
    subst hq
    exact hp
theorem dps_of {K : PySem.W.Frag} {H : Hp} : ∀ {ys : List V} {ps : List Pl}, ys.length = ps.length → (∀ (k : Nat) (y : V), ys[k]? = some y → ∃ p : Pl, ps[k]? = some p ∧ ∃ t, y = V.ref t ∧ SqT K H t [.int p.x, .int p.y, .int p.a]) → DpAll K H ys (ps.map rowD)
  | [], [], _, _ => .nil
  | [], _ :: _, e, _ => by cases e
  | _ :: _, [], e, _ => by cases e
  | y :: ys, p :: ps, e, h => by
    refine .cons ?_ (dps_of (Nat.succ.inj e) fun k z hz => by simpa using h (k + 1) z (by simpa using hz))
    obtain ⟨q, hq, t, rfl, hp⟩ := h 0 y rfl
    simp at hq
    subst hq
    exact dp_row hp
def Big (ps : List Pl) : Prop := ps.length ≤ 1000000
theorem Big.lt {K : PySem.W.Frag} {H : Hp} {us : List V} {ps : List Pl} (h : Big ps) (p : IsPs K H us ps) : us.length < sizeLine := by
  rw [Ps.length p]
  exact Nat.lt_of_le_of_lt h (by decide)
def spFig (K : PySem.W.Frag) : Sp := fun vs H Q _ => ∃ (u : V) (ps : List Pl), vs = [u] ∧ IsPp K H u ps ∧ Big ps ∧ Gives H (fun v H' => Dp K H' v (figD ps)) Q
def spAll (K : PySem.W.Frag) : Sp := fun vs H Q _ => ∃ (f u : V) (r : Rn) (ps : List Pl) (b c : Nat), vs = [f, u] ∧ IsRn K H f r ∧ IsPp K H u ps ∧ Big ps ∧ Br c r ∧ Bl b ps ∧ b + c ≤ 1000000 ∧ Gives H (fun v H' => IsLs K H' v (ps.map r.ap)) Q
theorem Df.raw {P : Program} {w : World} {K : PySem.W.Frag} {mg : Str → Option Value} {base : Heap} {CX : CXT} {k : Nat} {f : Addr} {ps : List Str} {sp : Sp} (D : Df P w K mg base CX k f ps sp) : FnR P w K mg base CX k f sp := by
  obtain ⟨fd, G, b⟩ := D.ex
  refine (G.raw b .nil).imp fun vs H Q E h => ?_
  rw [List.append_nil]
  exact h
/-- f(x), both names, f's an instance -/
def tCallN (C : Addr) (sp : Sp) (E : XK) (i j : Nat) : TE := fun σ H Q => ∃ a x dx fs, σ[i]? = some (some (V.ref a)) ∧ σ[j]? = some (some x) ∧ H a = some (.ins C dx fs) ∧ sp [.ref a, x] H Q E
theorem pe_callN {X : Cx} {CX : CXT} {k i j : Nat} {sp : Sp} {E : XK} {f x : Str} {pf px pos : Pos} {C g : Addr} (hf : PE X (.Name f pf) (tVar i)) (hx : PE X (.Name x px) (tVar j)) (c : StX.CallO X.K C g) (F : FnR X.prog X.w X.K X.mg X.base CX k g sp) (hr : Room k X.A) (hp : Passes CX X E) :
    PE X (.Call (.Name f pf) [.Name x px] [] pos) (tCallN C sp E i j) := by
  refine (StX.pe_callO hf c F hr hp (pa_cons hx pa_nil)).imp fun σ H Q h => ?_
  obtain ⟨a, v, dx, fs, h1, h2, h3, h4⟩ := h
  exact ⟨_, h1, a, rfl, _, h2, .inr ⟨dx, fs, h3⟩, h4⟩
section
variable {P : Program} {w : World} {K : PySem.W.Frag} {mg : Str → Option Value} {base : Heap}
theorem sc_fig : FnScope ["places", "place"] ["places"] (defScope s_figures_of) := ⟨rfl, rfl, rfl, by decide +kernel, rfl, by decide +kernel, by decide +kernel⟩
theorem ok_fig {fd : FuncData} (F : FnP K "figures_of" s_figures_of fd) (T : Txt K mg) : Df P w K mg base CX0 1 (He.ga K "figures_of") ["places"] (spFig K) := by
  refine ⟨⟨fd, F.ok sc_fig (fun vs H Q E h => ?_) (fun cdv A outer s H vs Q E hr h => ?_), F.bindsN fun _ _ _ _ _ _ us hl => match us, hl with | [_], _ => rfl⟩, F.kp⟩
  · obtain ⟨u, ps, rfl, _⟩ := h
    rfl
  · obtain ⟨u, ps, rfl, ⟨us, sq, hp⟩, hz, k⟩ := h
    refine ⟨_, PSs.nox (pss_one (ps_ret (pe_tupleOf rfl (T.fr "tuple" (by decide +kernel)) (pe_lc (own := [("place", 1)]) (g := gName 1) (tt := tYes) (te := tTup (tCons (tFld K (tVar 1) "x") (tCons (tFld K (tVar 1) "y") (tCons (tFld K (tVar 1) "area") tNil)))) rfl sc_fig.nd (pi_sq (pv 0)) (blkOk_by (N := ["places", "place"]) (sc := defScope s_figures_of) (by decide +kernel))
      (fun _ _ _ _ _ => pg_name (i := 1) sc_fig.nd rfl (Or.inl rfl)) (fun _ _ _ _ _ => pts_nil) (fun _ _ _ _ _ => pe_tup (pa_cons (pe_fld (pv 1) rfl) (pa_cons (pe_fld (pv 1) rfl) (pa_cons (pe_fld (pv 1) rfl) pa_nil)))))))), ?_⟩
    refine lc_sq (us := us) (i := 0) (j := 1) (u := u) (σ := [some u, none]) (Q := fun x H1 => kTup K x H1 Q) (fun k v H' => ∃ p, ps[k]? = some p ∧ ∃ t, v = V.ref t ∧ SqT K H' t [.int p.x, .int p.y, .int p.a]) ?_ rfl sq (hz.lt hp) ?_ ?_
    · rintro k v H1 H2 e ⟨p, h1, t, h2, h3⟩
      exact ⟨p, h1, t, h2, e.sqT h3⟩
    · rintro k x H' Q' hx e kk
      obtain ⟨p, hpp, hpl⟩ := Ps.get hp hx
      obtain ⟨a, dx, rfl, ha⟩ := (Ex.le e).pl hpl
      refine ⟨_, rfl, a, CP K, dx, _, _, rfl, ha, T.p.cl, T.px, pf_x p, _, rfl, a, CP K, dx, _, _, rfl, ha, T.p.cl, T.py, pf_y p, _, rfl, a, CP K, dx, _, _, rfl, ha, T.p.cl, T.pa, pf_a p, by show 3 ≤ sizeLine; decide, fun t nt => ?_⟩
      exact kk _ _ (.new nt) ⟨p, hpp, t, rfl, .of upd_same⟩
    · rintro D ys H' e hD hl hR
      refine .inl ⟨D, ys, rfl, .of hD, fun q nq => k _ _ (e.trans (.new nq)) (.tup (.of upd_same) (dps_of (by rw [hl]; exact Ps.length hp) fun k y hy => ?_))⟩
      obtain ⟨p, h1, t, h2, h3⟩ := hR k y hy
      exact ⟨p, h1, t, h2, (Ex.le (Ex.new nq)).sqT h3⟩
theorem sc_all : FnScope ["renaming", "places", "place"] ["renaming", "places"] (defScope s_renamed_all) := ⟨rfl, rfl, rfl, by decide +kernel, rfl, by decide +kernel, by decide +kernel⟩
theorem callR (T : Txt K mg) : StX.CallO K (CR K) (He.ma K (CR K) "__call__") := ⟨(T.rm "__call__" (by decide +kernel)).at_, (T.rm "__call__" (by decide +kernel)).fn, T.rc⟩
theorem ok_all {fd : FuncData} (F : FnP K "renamed_all" s_renamed_all fd) (T : Txt K mg) (D : Df P w K mg base CX0 7 (He.ma K (CR K) "__call__") ["self", "place"] (spAp K)) : Df P w K mg base CX0 8 (He.ga K "renamed_all") ["renaming", "places"] (spAll K) := by
  refine ⟨⟨fd, F.ok sc_all (fun vs H Q E h => ?_) (fun cdv A outer s H vs Q E hr h => ?_), F.bindsN fun _ _ _ _ _ _ us hl => match us, hl with | [_, _], _ => rfl⟩, F.kp⟩
  · obtain ⟨f, u, r, ps, b, c, rfl, _⟩ := h
    rfl
  · obtain ⟨f, u, r, ps, b, c, rfl, hf, ⟨us, sq, hp⟩, hz, br, bl, hbc, k⟩ := h
    refine ⟨_, PSs.nox (pss_one (ps_ret (pe_lc (own := [("place", 2)]) (g := gName 2) (tt := tYes) (te := tCallN (CR K) (spAp K) E0 0 2) rfl sc_all.nd (pi_sq (i := 1) (pv 1)) (blkOk_by (N := ["renaming", "places", "place"]) (sc := defScope s_renamed_all) (by decide +kernel))
      (fun _ _ _ _ _ => pg_name (i := 2) sc_all.nd rfl (Or.inl rfl)) (fun _ _ _ _ _ => pts_nil) (fun _ _ _ _ _ => pe_callN (pv 0) (pv 2) (callR T) D.raw hr pass0)))), ?_⟩
    refine lc_sq (us := us) (i := 1) (j := 2) (u := u) (σ := [some f, some u, none]) (Q := Q) (fun k v H' => ∃ p, ps[k]? = some p ∧ IsPl K H' v (r.ap p)) ?_ rfl sq (hz.lt hp) ?_ ?_
    · rintro k v H1 H2 e ⟨p, h1, h2⟩
      exact ⟨p, h1, e.pl h2⟩
    · rintro k x H' Q' hx e kk
      obtain ⟨p, hpp, hpl⟩ := Ps.get hp hx
      have hf' := (Ex.le e).rn hf
      obtain ⟨a, dx, e1, n1, ea, ha, h1, h2⟩ := hf'
      subst ea
      refine ⟨a, _, dx, _, rfl, rfl, ha, ?_⟩
      exact ⟨_, _, r, p, b, c, rfl, ⟨a, dx, e1, n1, rfl, ha, h1, h2⟩, (Ex.le e).pl hpl, br, bl p (List.mem_of_getElem? hpp), hbc, fun v H2 e2 h => kk v H2 e2 ⟨p, hpp, h⟩⟩
    · rintro D ys H' e hD hl hR
      refine k _ _ e ⟨D, ys, rfl, hD, ps_of (by rw [hl, List.length_map]; exact Ps.length hp) fun k y hy => ?_⟩
      obtain ⟨p, h1, h2⟩ := hR k y hy
      exact ⟨_, by rw [List.getElem?_map, h1]; rfl, h2⟩
end
end AW
/-! bezout_of. -/
namespace AW
open PySem PySem.Spec PyProof.Rows L2

/-- what the two rows keep -/
structure Bz (x y g s t g' s' t' : Int) : Prop where
  ex : ∃ u f1 f2 S T S' T' : Int, Unit1 u ∧ Unit1 f1 ∧ Unit1 f2 ∧ 0 ≤ S ∧ 0 ≤ T ∧ 0 ≤ S' ∧ 0 ≤ T' ∧ s = f1 * S ∧ s' = -(f1 * S') ∧ t = -(f2 * T) ∧ t' = f2 * T' ∧
    g * S' + g' * S = (y.natAbs : Int) ∧ g * T' + g' * T = (x.natAbs : Int) ∧ S ≤ (y.natAbs : Int) + 1 ∧ S' ≤ (y.natAbs : Int) + 1 ∧ T ≤ (x.natAbs : Int) + 1 ∧ T' ≤ (x.natAbs : Int) + 1 ∧
    x = u * (t' * g - t * g') ∧ y = u * (s * g' - s' * g)
  b1 : s * x + t * y = g
  b2 : s' * x + t' * y = g'
  p1 : 0 ≤ g
  p2 : 0 ≤ g'
  m1 : g ≤ (x.natAbs : Int) + (y.natAbs : Int)
  m2 : g' ≤ (x.natAbs : Int) + (y.natAbs : Int)
def sgn (x : Int) : Int := if 0 ≤ x then 1 else -1
theorem sgn_unit (x : Int) : Unit1 (sgn x) := by
  unfold sgn Unit1
  split <;> simp
theorem sgn_mul (x : Int) : sgn x * x = (x.natAbs : Int) := by
  unfold sgn
  split <;> omega
theorem sgn_abs (x : Int) : sgn x * (x.natAbs : Int) = x := by
  unfold sgn
  split <;> omega
theorem bz_start (x y : Int) : Bz x y (x.natAbs : Int) (sgn x) 0 (y.natAbs : Int) 0 (sgn y) where
  ex := by
    refine ⟨sgn x * sgn y, sgn x, sgn y, 1, 0, 0, 1, (sgn_unit x).mul (sgn_unit y), sgn_unit x, sgn_unit y, by decide, by decide, by decide, by decide, by omega, by omega, by omega, by omega, by omega, by omega, by omega, by omega, by omega, by omega, ?_, ?_⟩
    · have h1 := (sgn_unit y).sq
      have h2 := sgn_abs x
      generalize sgn x = a at *
      generalize sgn y = b at *
      generalize (x.natAbs : Int) = m at *
      grind
    · have h1 := (sgn_unit x).sq
      have h2 := sgn_abs y
      generalize sgn x = a at *
      generalize sgn y = b at *
      generalize (y.natAbs : Int) = m at *
      grind
  b1 := by
    have h := sgn_mul x
    omega
  b2 := by
    have h := sgn_mul y
    omega
  p1 := by omega
  p2 := by omega
  m1 := by omega
  m2 := by omega
theorem le_prod {a b c : Int} (hb : 0 ≤ b) (ha : 1 ≤ a) (h : a * b ≤ c) : b ≤ c := by
  have := Int.mul_le_mul_of_nonneg_right ha hb
  omega
theorem Unit1.neg {d : Int} (h : Unit1 d) : Unit1 (-d) := by
  rcases h with h | h <;> subst h
  · exact .inr rfl
  · exact .inl rfl
theorem bz_step {x y g s t g' s' t' : Int} (h : Bz x y g s t g' s' t') (hp : 0 < g') : Bz x y g' s' t' (g - g / g' * g') (s - g / g' * s') (t - g / g' * t') := by
  have hq : 0 ≤ g / g' := Int.ediv_nonneg h.p1 (by omega)
  have hr : g - g / g' * g' = g % g' := by
    have := Int.mul_ediv_add_emod g g'
    rw [Int.mul_comm] at this
    omega
  have r1 : 0 ≤ g - g / g' * g' := by rw [hr]; exact Int.emod_nonneg _ (by omega)
  have r2 : g - g / g' * g' < g' := by rw [hr]; exact Int.emod_lt_of_pos _ hp
  obtain ⟨u, f1, f2, S, T, S', T', hu, h1, h2, pS, pT, pS', pT', es, es', et, et', ey, ex, lS, lS', lT, lT', hx, hy⟩ := h.ex
  have m2 := h.m2
  have b1 := h.b1
  have b2 := h.b2
  generalize g / g' = q at *
  have nS : 0 ≤ S + q * S' := Int.add_nonneg pS (Int.mul_nonneg hq pS')
  have nT : 0 ≤ T + q * T' := Int.add_nonneg pT (Int.mul_nonneg hq pT')
  have e1 : g' * (S + q * S') + (g - q * g') * S' = (y.natAbs : Int) := by rw [← ey]; grind
  have e2 : g' * (T + q * T') + (g - q * g') * T' = (x.natAbs : Int) := by rw [← ex]; grind
  have z1 := Int.mul_nonneg r1 pS'
  have z2 := Int.mul_nonneg r1 pT'
  refine ⟨⟨-u, -f1, -f2, S', T', S + q * S', T + q * T', hu.neg, h1.neg, h2.neg, pS', pT', nS, nT, ?_, ?_, ?_, ?_, e1, e2, lS', ?_, lT', ?_, ?_, ?_⟩, b2, ?_, by omega, r1, m2, by omega⟩
  · rw [es']; grind
  · rw [es, es']; grind
  · rw [et']; grind
  · rw [et, et']; grind
  · have : S + q * S' ≤ (y.natAbs : Int) := le_prod nS (by omega) (by omega : g' * (S + q * S') ≤ _)
    omega
  · have : T + q * T' ≤ (x.natAbs : Int) := le_prod nT (by omega) (by omega : g' * (T + q * T') ≤ _)
    omega
  · clear m2 lS lS' lT lT' nS nT e1 e2 z1 z2 es es' et et' ey ex b1 b2 r1 r2 hr
    grind
  · clear m2 lS lS' lT lT' nS nT e1 e2 z1 z2 es es' et et' ey ex b1 b2 r1 r2 hr
    grind
  · clear m2 lS lS' lT lT' nS nT e1 e2 z1 z2 es es' et et' ey ex r1 r2 hr hx hy
    grind
/-- what comes out -/
structure BzOut (n : Nat) (x y g s t : Int) : Prop where
  pos : 0 < g
  ex : ∃ X Y, x = g * X ∧ y = g * Y ∧ s * X + t * Y = 1 ∧ Bi n X ∧ Bi n Y
  bg : Bi (n + 1) g
  bs : Bi (n + 1) s
  bt : Bi (n + 1) t
theorem Bi.quot {n : Nat} {x g X : Int} (h : Bi n x) (hg : 0 < g) (e : x = g * X) : Bi n X := by
  have : X = x / g := by rw [e, Int.mul_ediv_cancel_left _ (by omega)]
  rw [this]
  exact h.div hg
theorem abs_unit {f S m : Int} (hf : Unit1 f) (h0 : 0 ≤ S) (h : S ≤ m) : ((f * S).natAbs : Int) ≤ m := by
  rcases hf with h | h <;> rw [h] <;> omega
theorem bz_end {n : Nat} {x y g s t g' s' t' : Int} (h : Bz x y g s t g' s' t') (he : ¬ 0 < g') (hn : x ≠ 0 ∨ y ≠ 0) (bx : Bi n x) (by' : Bi n y) : BzOut n x y g s t := by
  have e0 : g' = 0 := by
    have := h.p2
    omega
  subst e0
  obtain ⟨u, f1, f2, S, T, S', T', hu, h1, h2, pS, pT, pS', pT', es, es', et, et', ey, ex, lS, lS', lT, lT', hx, hy⟩ := h.ex
  have m1 := h.m1
  have b1 := h.b1
  have p1 := h.p1
  have hx' : x = g * (u * t') := by rw [hx]; grind
  have hy' : y = g * (-(u * s')) := by rw [hy]; grind
  have pos : 0 < g := by
    rcases Int.lt_or_le 0 g with z | z
    · exact z
    · have : g = 0 := by omega
      rw [this, Int.zero_mul] at hx' hy'
      rcases hn with z | z
      · exact absurd hx' z
      · exact absurd hy' z
  refine ⟨pos, ⟨_, _, hx', hy', ?_, bx.quot pos hx', by'.quot pos hy'⟩, ?_, ?_, ?_⟩
  · have e : g * (s * (u * t') + t * (-(u * s'))) = g * 1 := by
      rw [hx', hy'] at b1
      generalize u * t' = A at *
      generalize -(u * s') = B at *
      clear m1 lS lS' lT lT' es es' et et' ey ex hx hy
      grind
    exact Int.eq_of_mul_eq_mul_left (by omega) e
  · unfold Bi at *
    rw [Nat.pow_succ]
    omega
  · have := abs_unit h1 pS lS
    rw [← es] at this
    have hp : 0 < 2 ^ n := Nat.pos_of_ne_zero (by simp)
    unfold Bi at *
    rw [Nat.pow_succ]
    omega
  · have := abs_unit h2 pT lT
    have e : t.natAbs = (f2 * T).natAbs := by rw [et, Int.natAbs_neg]
    rw [← e] at this
    have hp : 0 < 2 ^ n := Nat.pos_of_ne_zero (by simp)
    unfold Bi at *
    rw [Nat.pow_succ]
    omega
/-- bounds on the way -/
theorem bz_bd {n : Nat} {x y g s t g' s' t' : Int} (h : Bz x y g s t g' s' t') (bx : Bi n x) (by' : Bi n y) : Bi (n + 1) g ∧ Bi (n + 1) g' ∧ Bi (n + 1) s ∧ Bi (n + 1) s' ∧ Bi (n + 1) t ∧ Bi (n + 1) t' := by
  obtain ⟨u, f1, f2, S, T, S', T', hu, h1, h2, pS, pT, pS', pT', es, es', et, et', ey, ex, lS, lS', lT, lT', hx, hy⟩ := h.ex
  have m1 := h.m1
  have m2 := h.m2
  have p1 := h.p1
  have p2 := h.p2
  have a1 := abs_unit h1 pS lS
  have a2 := abs_unit h1 pS' lS'
  have a3 := abs_unit h2 pT lT
  have a4 := abs_unit h2 pT' lT'
  rw [← es] at a1
  rw [← et'] at a4
  have e2 : s'.natAbs = (f1 * S').natAbs := by rw [es', Int.natAbs_neg]
  have e3 : t.natAbs = (f2 * T).natAbs := by rw [et, Int.natAbs_neg]
  rw [← e2] at a2
  rw [← e3] at a3
  have hp : 0 < 2 ^ n := Nat.pos_of_ne_zero (by simp)
  unfold Bi at *
  rw [Nat.pow_succ]
  omega
/-- the answer: a tuple of three -/
def IsT3 (K : PySem.W.Frag) (H : Hp) (v : V) (a b c : Int) : Prop := ∃ t, v = .ref t ∧ SqT K H t [.int a, .int b, .int c]
theorem Le.t3 {K : PySem.W.Frag} {H H' : Hp} (e : Le H H') {v : V} {a b c : Int} (h : IsT3 K H v a b c) : IsT3 K H' v a b c := by
  obtain ⟨t, rfl, h⟩ := h
  exact ⟨t, rfl, e.sqT h⟩
def spBez (K : PySem.W.Frag) : Sp := fun vs H Q _ => ∃ (x y : Int) (n : Nat), vs = [.int x, .int y] ∧ (x ≠ 0 ∨ y ≠ 0) ∧ Bi n x ∧ Bi n y ∧ n ≤ 8000 ∧ Gives H (fun v H' => ∃ g s t, IsT3 K H' v g s t ∧ BzOut n x y g s t) Q
section
variable {P : Program} {w : World} {K : PySem.W.Frag} {mg : Str → Option Value} {base : Heap}
theorem sc_bez : FnScope ["one", "other", "row", "below", "times"] ["one", "other"] (defScope s_bezout_of) := ⟨rfl, rfl, rfl, by decide +kernel, rfl, by decide +kernel, by decide +kernel⟩
theorem at0 {a b c : Int} : atI [V.int a, .int b, .int c] 0 = some (.int a) := rfl
theorem at1 {a b c : Int} : atI [V.int a, .int b, .int c] 1 = some (.int b) := rfl
theorem at2 {a b c : Int} : atI [V.int a, .int b, .int c] 2 = some (.int c) := rfl
theorem abs_eq (i : Int) : (if i < 0 then -i else i) = (i.natAbs : Int) := by
  split <;> omega
theorem sg_if {σ : L2.St} {H : Hp} {Q : VK} {i : Nat} {x : Int} (h : σ[i]? = some (some (.int x))) (q : Q (.int (sgn x)) H) : tIf (tB (tGe (tVar i) (tC (.int 0)))) (tC (.int 1)) (tUn (rU fun i => .int (-i)) (tC (.int 1))) σ H Q := by
  unfold sgn at q
  by_cases hx : 0 ≤ x
  · rw [if_pos hx] at q
    exact ⟨_, h, x, 0, rfl, rfl, true, congrArg V.bl (decide_eq_true hx), iteT q⟩
  · rw [if_neg hx] at q
    exact ⟨_, h, x, 0, rfl, rfl, false, congrArg V.bl (decide_eq_false hx), iteF ⟨1, rfl, q⟩⟩
theorem ok_bez {fd : FuncData} (F : FnP K "bezout_of" s_bezout_of fd) (T : Txt K mg) : Df P w K mg base CX0 1 (He.ga K "bezout_of") ["one", "other"] (spBez K) := by
  refine ⟨⟨fd, F.ok sc_bez (fun vs H Q E h => ?_) (fun cdv A outer s H vs Q E hr h => ?_), F.bindsN fun _ _ _ _ _ _ us hl => match us, hl with | [_, _], _ => rfl⟩, F.kp⟩
  · obtain ⟨x, y, n, rfl, _⟩ := h
    rfl
  · obtain ⟨x, y, n, rfl, hne, bx, by', hn, k⟩ := h
    refine ⟨_, PSs.nox (pss_cons (ps_par (i := 2) (j := 3) rfl sc_bez.nd rfl rfl (by decide) rfl rfl (pa_cons
        (pe_tup (pa_cons (pe_callB call_abs rfl (T.fr "abs" (by decide +kernel)) boot_abs (pa_cons (pv 0) pa_nil)) (pa_cons (pe_ifExp (pt_cmp (pc_ge (pv 0) pe_int)) pe_int (pe_un un_neg pe_int)) (pa_cons pe_int pa_nil)))) (pa_cons
        (pe_tup (pa_cons (pe_callB call_abs rfl (T.fr "abs" (by decide +kernel)) boot_abs (pa_cons (pv 1) pa_nil)) (pa_cons pe_int (pa_cons (pe_ifExp (pt_cmp (pc_ge (pv 1) pe_int)) pe_int (pe_un un_neg pe_int)) pa_nil)))) pa_nil)) (by rfl))
      (pss_cons (ps_while PassesOwn.never (pt_cmp (pc_gt (pe_ix ix_tup (pv 3) pe_int (fun _ _ => rfl)) pe_int))
        (pss_cons (ps_set (i := 4) sc_bez.nd rfl (.inl rfl) (pe_op op_fdivW (pe_ix ix_tup (pv 2) pe_int (fun _ _ => rfl)) (pe_ix ix_tup (pv 3) pe_int (fun _ _ => rfl))))
        (pss_one (ps_par (i := 2) (j := 3) rfl sc_bez.nd rfl rfl (by decide) rfl rfl (pa_cons (pv 3) (pa_cons (pe_tup (pa_cons
          (pe_op op_sub (pe_ix ix_tup (pv 2) pe_int (fun _ _ => rfl)) (pe_op op_mulB (pv 4) (pe_ix ix_tup (pv 3) pe_int (fun _ _ => rfl)))) (pa_cons
          (pe_op op_sub (pe_ix ix_tup (pv 2) pe_int (fun _ _ => rfl)) (pe_op op_mulB (pv 4) (pe_ix ix_tup (pv 3) pe_int (fun _ _ => rfl)))) (pa_cons
          (pe_op op_sub (pe_ix ix_tup (pv 2) pe_int (fun _ _ => rfl)) (pe_op op_mulB (pv 4) (pe_ix ix_tup (pv 3) pe_int (fun _ _ => rfl)))) pa_nil)))) pa_nil)) (by rfl)))))
      (pss_one (ps_ret (pv 2))))), ?_⟩
    have bd := fun {g s t g' s' t' : Int} (h : Bz x y g s t g' s' t') => bz_bd h bx by'
    refine ⟨_, rfl, x, rfl, sg_if rfl ⟨by show 3 ≤ sizeLine; decide, fun r nr => ?_⟩⟩
    refine ⟨_, rfl, y, rfl, sg_if rfl ⟨by show 3 ≤ sizeLine; decide, fun b nb => ?_⟩⟩
    rw [abs_eq, abs_eq] at *
    have e0 : Evl.Ex H (upd H r (.tup [.int (x.natAbs : Int), .int (sgn x), .int 0])) := .new nr
    have e1 := e0.trans (.new (o := .tup [.int (y.natAbs : Int), .int 0, .int (sgn y)]) nb)
    refine ⟨_, _, rfl, ?_⟩
    refine ⟨fun m σ H' => Evl.Ex H H' ∧ ∃ (r b : Addr) (v4 : Option V) (g s t g' s' t' : Int), σ = [some (.int x), some (.int y), some (.ref r), some (.ref b), v4] ∧ SqT K H' r [.int g, .int s, .int t] ∧ SqT K H' b [.int g', .int s', .int t'] ∧ Bz x y g s t g' s' t' ∧ m = g'.toNat,
      ⟨_, e1, r, b, none, _, _, _, _, _, _, rfl, .of (by rw [upd_ne (ne_of_none upd_same nb)]; exact upd_same), .of upd_same, bz_start x y, rfl⟩, ?_⟩
    rintro m σ H' ⟨e, r, b, v4, g, s, t, g', s', t', rfl, h1, h2, hb, rfl⟩
    refine ⟨_, rfl, b, _, _, _, rfl, rfl, h2, at0, _, _, rfl, rfl, ?_⟩
    by_cases hg : 0 < g'
    · refine ⟨true, congrArg V.bl (decide_eq_true hg), iteT ⟨fun σ H'' => (fun σ H' => Evl.Ex H H' ∧ ∃ (r b : Addr) (v4 : Option V) (g s t g1 s' t' : Int), σ = [some (.int x), some (.int y), some (.ref r), some (.ref b), v4] ∧ SqT K H' r [.int g, .int s, .int t] ∧ SqT K H' b [.int g1, .int s', .int t'] ∧ Bz x y g s t g1 s' t' ∧ g1.toNat < g'.toNat) σ H'', ?_, ?_⟩⟩
      · rintro σ H'' ⟨e, r, b, v4, g, s, t, g1, s', t', rfl, h1, h2, hb, hm⟩
        exact ⟨_, hm, e, r, b, v4, g, s, t, g1, s', t', rfl, h1, h2, hb, rfl⟩
      · obtain ⟨c1, c2, c3, c4, c5, c6⟩ := bd hb
        have cq := c1.div hg
        refine ⟨_, rfl, r, _, _, _, rfl, rfl, h1, at0, _, rfl, b, _, _, _, rfl, rfl, h2, at0, _, _, rfl, rfl, divB hg c2 (by omega), ?_⟩
        refine ⟨_, rfl, _, rfl, r, _, _, _, rfl, rfl, h1, at0, _, rfl, _, rfl, b, _, _, _, rfl, rfl, h2, at0, _, _, rfl, rfl, mulB cq c2 (by omega) (by omega), _, _, rfl, rfl, ?_⟩
        refine ⟨_, rfl, r, _, _, _, rfl, rfl, h1, at1, _, rfl, _, rfl, b, _, _, _, rfl, rfl, h2, at1, _, _, rfl, rfl, mulB cq c4 (by omega) (by omega), _, _, rfl, rfl, ?_⟩
        refine ⟨_, rfl, r, _, _, _, rfl, rfl, h1, at2, _, rfl, _, rfl, b, _, _, _, rfl, rfl, h2, at2, _, _, rfl, rfl, mulB cq c6 (by omega) (by omega), _, _, rfl, rfl, ?_⟩
        refine ⟨by show 3 ≤ sizeLine; decide, fun p np => ⟨_, _, rfl, e.trans (.new np), b, p, _, _, _, _, _, _, _, rfl, (Ex.le (Ex.new np)).sqT h2, .of upd_same, bz_step hb hg, ?_⟩⟩
        have hr : g - g / g' * g' = g % g' := by
          have := Int.mul_ediv_add_emod g g'
          rw [Int.mul_comm] at this
          omega
        rw [hr]
        have := Int.emod_lt_of_pos g hg
        have := Int.emod_nonneg g (show g' ≠ 0 by omega)
        omega
    · refine ⟨false, congrArg V.bl (decide_eq_false hg), iteF ?_⟩
      exact ⟨_, rfl, k _ _ e ⟨g, s, t, ⟨r, rfl, h1⟩, bz_end hb hg hne bx by'⟩⟩
end
end AW
/-! turned_east, leaned_north, lowered_areas, least_list. -/
namespace AW
open PySem PySem.Spec PyProof.Rows L2

/-- (renaming, list) -/
def IsRL (K : PySem.W.Frag) (H : Hp) (v : V) (r : Rn) (c : List Pl) : Prop := ∃ t rv cv, v = .ref t ∧ SqT K H t [rv, cv] ∧ IsRn K H rv r ∧ IsLs K H cv c
theorem Le.rl {K : PySem.W.Frag} {H H' : Hp} (e : Le H H') {v : V} {r : Rn} {c : List Pl} (h : IsRL K H v r c) : IsRL K H' v r c := by
  obtain ⟨t, rv, cv, rfl, h1, h2, h3⟩ := h
  exact ⟨t, rv, cv, rfl, e.sqT h1, e.rn h2, e.ls h3⟩
def spTurn (K : PySem.W.Frag) : Sp := fun vs H Q _ => ∃ (u : V) (ps : List Pl) (b : Nat), vs = [u] ∧ IsPp K H u ps ∧ Big ps ∧ Bl b ps ∧ b ≤ 8000 ∧ Gives H (fun v H' => ∃ r, IsRL K H' v r (ps.map r.ap) ∧ Unit1 r.det ∧ East (ps.map r.ap) ∧ Br (b + 1) r) Q
def spLean (K : PySem.W.Frag) : Sp := fun vs H Q _ => ∃ (u : V) (ps : List Pl) (b : Nat), vs = [u] ∧ IsPp K H u ps ∧ Big ps ∧ Bl b ps ∧ b ≤ 8000 ∧ Gives H (fun v H' => IsRL K H' v (leanR ps) (ps.map (leanR ps).ap)) Q
def spLow (K : PySem.W.Frag) : Sp := fun vs H Q _ => ∃ (u : V) (ps : List Pl) (b : Nat), vs = [u] ∧ IsPp K H u ps ∧ Big ps ∧ Bl b ps ∧ b ≤ 8000 ∧ Lean ps ∧ Gives H (fun v H' => IsRL K H' v (lowR ps) (low ps)) Q
theorem one_bd (b : Nat) : Br (b + 1) Rn.one := ⟨⟨Bi.one b, .zero _, .zero _⟩, ⟨.zero _, Bi.one b, .zero _⟩⟩
theorem leanR_bd {b : Nat} {ps : List Pl} (h : Bl b ps) : Br (b + 1) (leanR ps) := by
  unfold leanR
  cases hf : fY ps with
  | none => exact one_bd b
  | some q =>
    obtain ⟨hq, hy⟩ := fY_mem hf
    have hb := h q hq
    refine ⟨⟨Bi.one b, .zero _, .zero _⟩, ?_⟩
    by_cases h0 : 0 < q.y
    · simp only [if_pos h0]
      exact ⟨((hb.1.div h0).neg).mono (by omega), Bi.one b, .zero _⟩
    · simp only [if_neg h0]
      exact ⟨(hb.1.div (by omega)).mono (by omega), (Bi.one b).neg, .zero _⟩
theorem lowR_bd {b : Nat} {ps : List Pl} (h : Bl b ps) (hl : Lean ps) : Br (2 * b + 1) (lowR ps) := by
  unfold lowR
  cases hf : fX ps with
  | none => exact one_bd (2 * b)
  | some p =>
    obtain ⟨hp, _⟩ := fX_mem hf
    have hb := h p hp
    have pos := (hl.e p hf).2
    have be := (hb.2.2.div pos).neg
    cases hg : fY ps with
    | none => exact ⟨⟨Bi.one _, .zero _, be.mono (by omega)⟩, ⟨.zero _, Bi.one _, .zero _⟩⟩
    | some q =>
      obtain ⟨hq, _⟩ := fY_mem hg
      have hc := h q hq
      have pq := (hl.n q hg).1
      exact ⟨⟨Bi.one _, .zero _, be.mono (by omega)⟩, ⟨.zero _, Bi.one _, ((Bi.add (hc.2.2.mono (by omega : b ≤ b + b)) (be.mul hc.1)).div pq).neg.mono (by omega)⟩⟩
theorem map_one (ps : List Pl) : ps.map Rn.one.ap = ps := by
  have : Rn.one.ap = id := by funext p; exact ap_one p
  rw [this, List.map_id]
theorem ix_sq {K : PySem.W.Frag} {H : Hp} {Q : VK} {v w : V} {us : List V} {i : Nat} (sq : IsSq K H v us) (h : us[i]? = some w) (q : Q w H) : rIxL K v (.int (i : Nat)) H Q ∨ rIxT K v (.int (i : Nat)) H Q := by
  obtain ⟨a, rfl, sq⟩ := sq
  rcases sq with sq | sq
  · exact .inl ⟨a, us, _, w, rfl, rfl, sq, atI_nat h, q⟩
  · exact .inr ⟨a, us, _, w, rfl, rfl, sq, atI_nat h, q⟩
theorem turn_math {n : Nat} {ps : List Pl} {q : Pl} {g s t X Y : Int} (hf : fX ps = some q) (hg : 0 < g) (hx : q.x = g * X) (hy : q.y = g * Y) (h1 : s * X + t * Y = 1) :
    Unit1 (Rn.mk ⟨s, -Y, 0⟩ ⟨t, X, 0⟩).det ∧ East (ps.map (Rn.mk ⟨s, -Y, 0⟩ ⟨t, X, 0⟩).ap) := by
  have hd : (Rn.mk ⟨s, -Y, 0⟩ ⟨t, X, 0⟩).det = 1 := by
    simp only [Rn.det, tw]
    grind
  have hu : Unit1 (Rn.mk ⟨s, -Y, 0⟩ ⟨t, X, 0⟩).det := .inl hd
  refine ⟨hu, fun p hp => ?_⟩
  rw [fX_map fun p _ => mvX_ap hu p, hf] at hp
  cases hp
  rw [ap_x, ap_y, hx, hy]
  simp only
  constructor
  · grind
  · have : g * X * s + g * Y * t = g := by grind
    omega
section
variable {P : Program} {w : World} {K : PySem.W.Frag} {mg : Str → Option Value} {base : Heap}
/-- what the list functions lean on -/
structure D3 (P : Program) (w : World) (K : PySem.W.Frag) (mg : Str → Option Value) (base : Heap) : Prop extends D2 P w K mg base where
  one : Df P w K mg base CX0 4 (He.ga K "same_names") [] (spOne K)
  mulR : Df P w K mg base CX0 7 (He.ma K (CR K) "__mul__") ["self", "other"] (spMulR K)
  inv : Df P w K mg base CX0 7 (He.ma K (CR K) "__invert__") ["self"] (spInv K)
  first : Df P w K mg base CX0 1 (He.ga K "first_at") ["places", "asked"] (spFirst K)
  all : Df P w K mg base CX0 8 (He.ga K "renamed_all") ["renaming", "places"] (spAll K)
  fig : Df P w K mg base CX0 1 (He.ga K "figures_of") ["places"] (spFig K)
  bez : Df P w K mg base CX0 1 (He.ga K "bezout_of") ["one", "other"] (spBez K)
theorem sc_turn : FnScope ["places", "index", "x", "y", "side", "east", "north", "renaming"] ["places"] (defScope s_turned_east) := ⟨rfl, rfl, rfl, by decide +kernel, rfl, by decide +kernel, by decide +kernel⟩
theorem ok_turn {fd : FuncData} (F : FnP K "turned_east" s_turned_east fd) (D : D3 P w K mg base) : Df P w K mg base CX0 9 (He.ga K "turned_east") ["places"] (spTurn K) := by
  refine ⟨⟨fd, F.ok sc_turn (fun vs H Q E h => ?_) (fun cdv A outer s H vs Q E hr h => ?_), F.bindsN fun _ _ _ _ _ _ us hl => match us, hl with | [_], _ => rfl⟩, F.kp⟩
  · obtain ⟨u, ps, b, rfl, _⟩ := h
    rfl
  · have T := D.T
    obtain ⟨u, ps, b, rfl, ⟨us, sq, hp⟩, hz, hb, hbd, k⟩ := h
    refine ⟨_, PSs.nox (pss_cons (ps_set (i := 1) sc_turn.nd rfl (.inl rfl) (pe_df D.first (hr.mono (by decide)) rfl (T.gl "first_at" (by decide +kernel)) pass0 (pa_cons (pv 0) (pa_cons pe_str pa_nil))))
      (pss_cons (ps_if (pt_cmp (pc_isN (pv 1))) (pss_one (ps_ret (pe_tup (pa_cons (pe_df0 D.one (hr.mono (by decide)) rfl (T.gl "same_names" (by decide +kernel)) pass0) (pa_cons (pe_callTy call_list_of rfl (T.fr "list" (by decide +kernel)) boot_list (pa_cons (pv 0) pa_nil)) pa_nil))))) pss_nil)
      (pss_cons (ps_par (i := 2) (j := 3) rfl sc_turn.nd rfl rfl (by decide) rfl rfl (pa_cons (pe_fld (pe_ix (ix_list.or ix_tup) (pv 0) (pv 1) (fun _ _ => rfl)) rfl) (pa_cons (pe_fld (pe_ix (ix_list.or ix_tup) (pv 0) (pv 1) (fun _ _ => rfl)) rfl) pa_nil)) (by rfl))
      (pss_cons (ps_asg (pe_df D.bez (hr.mono (by decide)) rfl (T.gl "bezout_of" (by decide +kernel)) pass0 (pa_cons (pv 2) (pa_cons (pv 3) pa_nil))) (pg_tup (n := 3) rfl (pgs_cons (pg_name (i := 4) sc_turn.nd rfl (.inl rfl)) (pgs_cons (pg_name (i := 5) sc_turn.nd rfl (.inl rfl)) (pgs_cons (pg_name (i := 6) sc_turn.nd rfl (.inl rfl)) pgs_nil)))))
      (pss_cons (ps_set (i := 7) sc_turn.nd rfl (.inl rfl) (pe_rn T D.inR (hr.mono (by decide)) rfl (pa_cons (pe_plc T D.ini (hr.mono (by decide)) rfl (pa_cons (pv 5) (pa_cons (pe_op op_fdivW (pe_un un_neg (pv 3)) (pv 4)) (pa_cons pe_int pa_nil))))
          (pa_cons (pe_plc T D.ini (hr.mono (by decide)) rfl (pa_cons (pv 6) (pa_cons (pe_op op_fdivW (pv 2) (pv 4)) (pa_cons pe_int pa_nil)))) pa_nil))))
      (pss_one (ps_ret (pe_tup (pa_cons (pv 7) (pa_cons (pe_df D.all hr rfl (T.gl "renamed_all" (by decide +kernel)) pass0 (pa_cons (pv 7) (pa_cons (pv 0) pa_nil))) pa_nil)))))))))), ?_⟩
    refine ⟨_, rfl, u, us, ps, false, rfl, sq, hp, fun v H1 e1 hv => ?_⟩
    rcases hv with ⟨rfl, hn⟩ | ⟨i, q, rfl, hi, hq⟩
    · refine ⟨_, rfl, true, congrArg V.bl (decide_eq_true rfl), iteT ?_⟩
      refine ⟨rfl, fun w1 H2 e2 h2 => ?_⟩
      obtain ⟨a, rfl, sq'⟩ := (e1.trans e2).le.sq sq
      refine ⟨_, rfl, a, us, rfl, sq', fun l nl => ⟨by show 2 ≤ sizeLine; decide, fun t nt => ?_⟩⟩
      have e3 : Evl.Ex H2 (upd H2 l (.lst us)) := .new nl
      have e4 := e3.trans (.new (o := .tup [w1, .ref l]) nt)
      refine k _ _ ((e1.trans e2).trans e4) ⟨Rn.one, ?_, .inl rfl, ?_, one_bd b⟩
      · rw [map_one]
        refine ⟨t, w1, .ref l, rfl, .of upd_same, e4.le.rn h2, l, us, rfl, ?_, ((e1.trans e2).trans e4).le.ps hp⟩
        rw [upd_ne (ne_of_none upd_same nt)]
        exact upd_same
      · rw [map_one]
        intro p hp
        have hn' : fX ps = none := hn
        rw [hn'] at hp
        cases hp
    · have hq' : fX ps = some q := hq
      obtain ⟨hm, hne⟩ := fX_mem hq'
      have bq := hb q hm
      refine ⟨_, rfl, false, congrArg V.bl (decide_eq_false (fun z => nomatch z)), iteF ?_⟩
      obtain ⟨x, hx, hpl⟩ := Ps.get2 hp hi
      obtain ⟨a, dx, rfl, ha⟩ := (Ex.le e1).pl hpl
      refine ⟨_, rfl, _, rfl, ix_sq ((Ex.le e1).sq sq) hx ⟨a, CP K, dx, _, _, rfl, ha, T.p.cl, T.px, pf_x q, ?_⟩⟩
      refine ⟨_, rfl, _, rfl, ix_sq ((Ex.le e1).sq sq) hx ⟨a, CP K, dx, _, _, rfl, ha, T.p.cl, T.py, pf_y q, ?_⟩⟩
      refine ⟨_, _, rfl, ?_⟩
      refine ⟨_, rfl, _, rfl, q.x, q.y, b, rfl, hne, bq.1, bq.2.1, hbd, fun w1 H2 e2 h2 => ?_⟩
      obtain ⟨g, s, t, ⟨tb, rfl, hT⟩, ho⟩ := h2
      obtain ⟨X, Y, hX, hY, h1, bX, bY⟩ := ho.ex
      have pg := ho.pos
      refine ⟨tb, _, rfl, hT, rfl, _, _, rfl, _, _, rfl, _, _, rfl, rfl, ?_⟩
      have d1 : -q.y / g = -Y := by
        rw [hY, ← Int.mul_neg, Int.mul_ediv_cancel_left _ (by omega)]
      have d2 : q.x / g = X := by
        rw [hX, Int.mul_ediv_cancel_left _ (by omega)]
      refine ⟨_, rfl, _, rfl, _, rfl, _, rfl, _, _, rfl, rfl, divB pg ho.bg (by omega), ?_⟩
      refine ⟨_, _, _, rfl, fun w2 H3 e3 h3 => ?_⟩
      refine ⟨_, rfl, _, rfl, _, rfl, _, _, rfl, rfl, divB pg ho.bg (by omega), ?_⟩
      refine ⟨_, _, _, rfl, fun w3 H4 e4 h4 => ?_⟩
      refine ⟨_, _, _, _, rfl, e4.le.pl h3, h4, fun w4 H5 e5 h5 => ?_⟩
      have h5' : IsRn K H5 w4 (Rn.mk ⟨s, -Y, 0⟩ ⟨t, X, 0⟩) := by
        rw [← d1, ← d2]
        exact h5
      have br : Br (b + 1) (Rn.mk ⟨s, -Y, 0⟩ ⟨t, X, 0⟩) := ⟨⟨ho.bs, bY.neg.mono (by omega), .zero _⟩, ⟨ho.bt, bX.mono (by omega), .zero _⟩⟩
      have e15 := (((e1.trans e2).trans e3).trans e4).trans e5
      obtain ⟨m1, m2⟩ := turn_math (n := 0) hq' pg hX hY h1
      refine ⟨_, rfl, _, rfl, _, rfl, _, _, _, ps, b, b + 1, rfl, h5', ⟨us, e15.le.sq sq, e15.le.ps hp⟩, hz, br, hb, by omega, fun w5 H6 e6 h6 => ?_⟩
      refine ⟨by show 2 ≤ sizeLine; decide, fun t nt => k _ _ ((e15.trans e6).trans (.new nt)) ⟨_, ⟨t, w4, w5, rfl, .of upd_same, (Ex.le (e6.trans (.new nt))).rn h5', (Ex.le (Ex.new nt)).ls h6⟩, m1, m2, br⟩⟩
theorem sc_lean : FnScope ["places", "index", "x", "y", "north", "renaming"] ["places"] (defScope s_leaned_north) := ⟨rfl, rfl, rfl, by decide +kernel, rfl, by decide +kernel, by decide +kernel⟩
theorem ok_lean {fd : FuncData} (F : FnP K "leaned_north" s_leaned_north fd) (D : D3 P w K mg base) : Df P w K mg base CX0 9 (He.ga K "leaned_north") ["places"] (spLean K) := by
  refine ⟨⟨fd, F.ok sc_lean (fun vs H Q E h => ?_) (fun cdv A outer s H vs Q E hr h => ?_), F.bindsN fun _ _ _ _ _ _ us hl => match us, hl with | [_], _ => rfl⟩, F.kp⟩
  · obtain ⟨u, ps, b, rfl, _⟩ := h
    rfl
  · have T := D.T
    obtain ⟨u, ps, b, rfl, ⟨us, sq, hp⟩, hz, hb, hbd, k⟩ := h
    refine ⟨_, PSs.nox (pss_cons (ps_set (i := 1) sc_lean.nd rfl (.inl rfl) (pe_df D.first (hr.mono (by decide)) rfl (T.gl "first_at" (by decide +kernel)) pass0 (pa_cons (pv 0) (pa_cons pe_str pa_nil))))
      (pss_cons (ps_if (pt_cmp (pc_isN (pv 1))) (pss_one (ps_ret (pe_tup (pa_cons (pe_df0 D.one (hr.mono (by decide)) rfl (T.gl "same_names" (by decide +kernel)) pass0) (pa_cons (pe_callTy call_list_of rfl (T.fr "list" (by decide +kernel)) boot_list (pa_cons (pv 0) pa_nil)) pa_nil))))) pss_nil)
      (pss_cons (ps_par (i := 2) (j := 3) rfl sc_lean.nd rfl rfl (by decide) rfl rfl (pa_cons (pe_fld (pe_ix (ix_list.or ix_tup) (pv 0) (pv 1) (fun _ _ => rfl)) rfl) (pa_cons (pe_fld (pe_ix (ix_list.or ix_tup) (pv 0) (pv 1) (fun _ _ => rfl)) rfl) pa_nil)) (by rfl))
      (pss_cons (ps_set (i := 4) sc_lean.nd rfl (.inl rfl) (pe_ifExp (pt_cmp (pc_gt (pv 3) pe_int))
          (pe_plc T D.ini (hr.mono (by decide)) rfl (pa_cons (pe_un un_neg (pe_op op_fdivW (pv 2) (pv 3))) (pa_cons pe_int (pa_cons pe_int pa_nil))))
          (pe_plc T D.ini (hr.mono (by decide)) rfl (pa_cons (pe_op op_fdivW (pv 2) (pe_un un_neg (pv 3))) (pa_cons (pe_un un_neg pe_int) (pa_cons pe_int pa_nil))))))
      (pss_cons (ps_set (i := 5) sc_lean.nd rfl (.inl rfl) (pe_rn T D.inR (hr.mono (by decide)) rfl (pa_cons (pe_plc T D.ini (hr.mono (by decide)) rfl (pa_cons pe_int (pa_cons pe_int (pa_cons pe_int pa_nil)))) (pa_cons (pv 4) pa_nil))))
      (pss_one (ps_ret (pe_tup (pa_cons (pv 5) (pa_cons (pe_df D.all hr rfl (T.gl "renamed_all" (by decide +kernel)) pass0 (pa_cons (pv 5) (pa_cons (pv 0) pa_nil))) pa_nil)))))))))), ?_⟩
    refine ⟨_, rfl, u, us, ps, true, rfl, sq, hp, fun v H1 e1 hv => ?_⟩
    rcases hv with ⟨rfl, hn⟩ | ⟨i, q, rfl, hi, hq⟩
    · refine ⟨_, rfl, true, congrArg V.bl (decide_eq_true rfl), iteT ?_⟩
      refine ⟨rfl, fun w1 H2 e2 h2 => ?_⟩
      obtain ⟨a, rfl, sq'⟩ := (e1.trans e2).le.sq sq
      refine ⟨_, rfl, a, us, rfl, sq', fun l nl => ⟨by show 2 ≤ sizeLine; decide, fun t nt => ?_⟩⟩
      have e3 : Evl.Ex H2 (upd H2 l (.lst us)) := .new nl
      have e4 := e3.trans (.new (o := .tup [w1, .ref l]) nt)
      have hn' : fY ps = none := hn
      refine k _ _ ((e1.trans e2).trans e4) ?_
      have hl : leanR ps = Rn.one := by unfold leanR; rw [hn']
      rw [hl, map_one]
      refine ⟨t, w1, .ref l, rfl, .of upd_same, e4.le.rn h2, l, us, rfl, ?_, ((e1.trans e2).trans e4).le.ps hp⟩
      rw [upd_ne (ne_of_none upd_same nt)]
      exact upd_same
    · have hq' : fY ps = some q := hq
      obtain ⟨hm, hne⟩ := fY_mem hq'
      have bq := hb q hm
      refine ⟨_, rfl, false, congrArg V.bl (decide_eq_false (fun z => nomatch z)), iteF ?_⟩
      obtain ⟨x, hx, hpl⟩ := Ps.get2 hp hi
      obtain ⟨a, dx, rfl, ha⟩ := (Ex.le e1).pl hpl
      refine ⟨_, rfl, _, rfl, ix_sq ((Ex.le e1).sq sq) hx ⟨a, CP K, dx, _, _, rfl, ha, T.p.cl, T.px, pf_x q, ?_⟩⟩
      refine ⟨_, rfl, _, rfl, ix_sq ((Ex.le e1).sq sq) hx ⟨a, CP K, dx, _, _, rfl, ha, T.p.cl, T.py, pf_y q, ?_⟩⟩
      refine ⟨_, _, rfl, ?_⟩
      -- from the northern place on
      have rest : ∀ (v4 : V) (H2 : Hp), Evl.Ex H H2 → IsPl K H2 v4 (leanR ps).n → (tSeq (tAsg (tRn K (tCons (tPlc K (tCons (tC (.int 1)) (tCons (tC (.int 0)) (tCons (tC (.int 0)) tNil)))) (tCons (tVar 4) tNil))) (gName 5))
          (tRet (tTup (tCons (tVar 5) (tCons (tD (spAll K) E0 (tCons (tVar 5) (tCons (tVar 0) tNil))) tNil))))) { nx := fun _ H' => Q .non H', rt := Q } [some u, some (.int (i : Nat)), some (.int q.x), some (.int q.y), some v4, none] H2 := by
        intro v4 H2 e2 h4
        refine ⟨_, _, _, rfl, fun w3 H4 e4 h3 => ?_⟩
        refine ⟨_, rfl, _, _, _, _, rfl, h3, e4.le.pl h4, fun w4 H5 e5 h5 => ?_⟩
        have er : (Rn.mk ⟨1, 0, 0⟩ (leanR ps).n) = leanR ps := by unfold leanR; rw [hq']
        have h5' : IsRn K H5 w4 (leanR ps) := by
          rw [← er]
          exact h5
        have e15 := (e2.trans e4).trans e5
        refine ⟨_, rfl, _, rfl, _, rfl, _, _, _, ps, b, b + 1, rfl, h5', ⟨us, e15.le.sq sq, e15.le.ps hp⟩, hz, leanR_bd hb, hb, by omega, fun w5 H6 e6 h6 => ?_⟩
        exact ⟨by show 2 ≤ sizeLine; decide, fun t nt => k _ _ ((e15.trans e6).trans (.new nt)) ⟨t, w4, w5, rfl, .of upd_same, (Ex.le (e6.trans (.new nt))).rn h5', (Ex.le (Ex.new nt)).ls h6⟩⟩
      by_cases h0 : 0 < q.y
      · refine ⟨_, rfl, _, _, rfl, rfl, true, congrArg V.bl (decide_eq_true h0), iteT ?_⟩
        refine ⟨_, rfl, _, rfl, _, _, rfl, rfl, divB h0 bq.2.1 (by omega), _, rfl, ?_⟩
        refine ⟨_, _, _, rfl, fun w2 H3 e3 h3 => rest w2 H3 (e1.trans e3) ?_⟩
        have : (leanR ps).n = ⟨-(q.x / q.y), 1, 0⟩ := by unfold leanR; rw [hq']; simp only [if_pos h0]
        rw [this]
        exact h3
      · refine ⟨_, rfl, _, _, rfl, rfl, false, congrArg V.bl (decide_eq_false h0), iteF ?_⟩
        refine ⟨_, rfl, _, rfl, _, rfl, _, _, rfl, rfl, divB (by omega) bq.2.1.neg (by omega), _, rfl, ?_⟩
        refine ⟨_, _, _, rfl, fun w2 H3 e3 h3 => rest w2 H3 (e1.trans e3) ?_⟩
        have : (leanR ps).n = ⟨q.x / -q.y, -1, 0⟩ := by unfold leanR; rw [hq']; simp only [if_neg h0]
        rw [this]
        exact h3
theorem sc_low : FnScope ["places", "index", "below", "east", "north", "renaming"] ["places"] (defScope s_lowered_areas) := ⟨rfl, rfl, rfl, by decide +kernel, rfl, by decide +kernel, by decide +kernel⟩
theorem ok_low {fd : FuncData} (F : FnP K "lowered_areas" s_lowered_areas fd) (D : D3 P w K mg base) : Df P w K mg base CX0 9 (He.ga K "lowered_areas") ["places"] (spLow K) := by
  refine ⟨⟨fd, F.ok sc_low (fun vs H Q E h => ?_) (fun cdv A outer s H vs Q E hr h => ?_), F.bindsN fun _ _ _ _ _ _ us hl => match us, hl with | [_], _ => rfl⟩, F.kp⟩
  · obtain ⟨u, ps, b, rfl, _⟩ := h
    rfl
  · have T := D.T
    obtain ⟨u, ps, b, rfl, ⟨us, sq, hp⟩, hz, hb, hbd, hL, k⟩ := h
    refine ⟨_, PSs.nox (pss_cons (ps_par (i := 1) (j := 2) rfl sc_low.nd rfl rfl (by decide) rfl rfl (pa_cons (pe_df D.first (hr.mono (by decide)) rfl (T.gl "first_at" (by decide +kernel)) pass0 (pa_cons (pv 0) (pa_cons pe_str pa_nil))) (pa_cons (pe_df D.first (hr.mono (by decide)) rfl (T.gl "first_at" (by decide +kernel)) pass0 (pa_cons (pv 0) (pa_cons pe_str pa_nil))) pa_nil)) (by rfl))
      (pss_cons (ps_if (pt_cmp (pc_isN (pv 1))) (pss_one (ps_ret (pe_tup (pa_cons (pe_df0 D.one (hr.mono (by decide)) rfl (T.gl "same_names" (by decide +kernel)) pass0) (pa_cons (pe_callTy call_list_of rfl (T.fr "list" (by decide +kernel)) boot_list (pa_cons (pv 0) pa_nil)) pa_nil))))) pss_nil)
      (pss_cons (ps_set (i := 3) sc_low.nd rfl (.inl rfl) (pe_un un_neg (pe_op op_fdivW (pe_fld (pe_ix (ix_list.or ix_tup) (pv 0) (pv 1) (fun _ _ => rfl)) rfl) (pe_fld (pe_ix (ix_list.or ix_tup) (pv 0) (pv 1) (fun _ _ => rfl)) rfl))))
      (pss_cons (ps_set (i := 4) sc_low.nd rfl (.inl rfl) pe_int)
      (pss_cons (ps_if (pt_cmp (pc_notN (pv 2))) (pss_one (ps_set (i := 4) sc_low.nd rfl (.inl rfl) (pe_un un_neg (pe_op op_fdivW (pe_op op_add (pe_fld (pe_ix (ix_list.or ix_tup) (pv 0) (pv 2) (fun _ _ => rfl)) rfl) (pe_op op_mulB (pv 3) (pe_fld (pe_ix (ix_list.or ix_tup) (pv 0) (pv 2) (fun _ _ => rfl)) rfl)))
          (pe_fld (pe_ix (ix_list.or ix_tup) (pv 0) (pv 2) (fun _ _ => rfl)) rfl))))) pss_nil)
      (pss_cons (ps_set (i := 5) sc_low.nd rfl (.inl rfl) (pe_rn T D.inR (hr.mono (by decide)) rfl (pa_cons (pe_plc T D.ini (hr.mono (by decide)) rfl (pa_cons pe_int (pa_cons pe_int (pa_cons (pv 3) pa_nil)))) (pa_cons (pe_plc T D.ini (hr.mono (by decide)) rfl (pa_cons pe_int (pa_cons pe_int (pa_cons (pv 4) pa_nil)))) pa_nil))))
      (pss_one (ps_ret (pe_tup (pa_cons (pv 5) (pa_cons (pe_df D.all hr rfl (T.gl "renamed_all" (by decide +kernel)) pass0 (pa_cons (pv 5) (pa_cons (pv 0) pa_nil))) pa_nil))))))))))), ?_⟩
    refine ⟨_, rfl, u, us, ps, false, rfl, sq, hp, fun v H1 e1 hv => ?_⟩
    refine ⟨_, rfl, u, us, ps, true, rfl, (Ex.le e1).sq sq, (Ex.le e1).ps hp, fun v' H2 e2 hv' => ?_⟩
    refine ⟨_, _, rfl, ?_⟩
    have e12 := e1.trans e2
    rcases hv with ⟨rfl, hn⟩ | ⟨i, q, rfl, hi, hq⟩
    · refine ⟨_, rfl, true, congrArg V.bl (decide_eq_true rfl), iteT ?_⟩
      refine ⟨rfl, fun w1 H2 e2 h2 => ?_⟩
      obtain ⟨a, rfl, sq'⟩ := (e12.trans e2).le.sq sq
      refine ⟨_, rfl, a, us, rfl, sq', fun l nl => ⟨by show 2 ≤ sizeLine; decide, fun t nt => ?_⟩⟩
      have e3 : Evl.Ex H2 (upd H2 l (.lst us)) := .new nl
      have e4 := e3.trans (.new (o := .tup [w1, .ref l]) nt)
      have hn' : fX ps = none := hn
      refine k _ _ ((e12.trans e2).trans e4) ?_
      have hl : lowR ps = Rn.one := by unfold lowR; rw [hn']
      unfold low
      rw [hl, map_one]
      refine ⟨t, w1, .ref l, rfl, .of upd_same, e4.le.rn h2, l, us, rfl, ?_, ((e12.trans e2).trans e4).le.ps hp⟩
      rw [upd_ne (ne_of_none upd_same nt)]
      exact upd_same
    · have hq' : fX ps = some q := hq
      obtain ⟨hm, hne⟩ := fX_mem hq'
      have bq := hb q hm
      have pos := (hL.e q hq').2
      refine ⟨_, rfl, false, congrArg V.bl (decide_eq_false (fun z => nomatch z)), iteF ?_⟩
      obtain ⟨x, hx, hpl⟩ := Ps.get2 hp hi
      obtain ⟨a, dx, rfl, ha⟩ := (Ex.le e12).pl hpl
      have sq2 := (Ex.le e12).sq sq
      refine ⟨_, rfl, _, rfl, ix_sq sq2 hx ⟨a, CP K, dx, _, _, rfl, ha, T.p.cl, T.pa, pf_a q, ?_⟩⟩
      refine ⟨_, rfl, _, rfl, ix_sq sq2 hx ⟨a, CP K, dx, _, _, rfl, ha, T.p.cl, T.px, pf_x q, _, _, rfl, rfl, divB pos bq.1 (by omega), _, rfl, ?_⟩⟩
      have be := (bq.2.2.div pos).neg
      have rest : ∀ (nt : Int), (lowR ps) = ⟨⟨1, 0, -(q.a / q.x)⟩, ⟨0, 1, nt⟩⟩ → (tSeq (tAsg (tRn K (tCons (tPlc K (tCons (tC (.int 1)) (tCons (tC (.int 0)) (tCons (tVar 3) tNil)))) (tCons (tPlc K (tCons (tC (.int 0)) (tCons (tC (.int 1)) (tCons (tVar 4) tNil)))) tNil))) (gName 5))
          (tRet (tTup (tCons (tVar 5) (tCons (tD (spAll K) E0 (tCons (tVar 5) (tCons (tVar 0) tNil))) tNil))))) { nx := fun _ H' => Q .non H', rt := Q } [some u, some (.int (i : Nat)), some v', some (.int (-(q.a / q.x))), some (.int nt), none] H2 := by
        intro nt er
        refine ⟨_, rfl, _, _, _, rfl, fun w2 H3 e3 h3 => ?_⟩
        refine ⟨_, rfl, _, _, _, rfl, fun w3 H4 e4 h4 => ?_⟩
        refine ⟨_, _, _, _, rfl, e4.le.pl h3, h4, fun w4 H5 e5 h5 => ?_⟩
        have h5' : IsRn K H5 w4 (lowR ps) := by
          rw [er]
          exact h5
        have e15 := ((e12.trans e3).trans e4).trans e5
        refine ⟨_, rfl, _, rfl, _, rfl, _, _, _, ps, b, 2 * b + 1, rfl, h5', ⟨us, e15.le.sq sq, e15.le.ps hp⟩, hz, lowR_bd hb hL, hb, by omega, fun w5 H6 e6 h6 => ?_⟩
        exact ⟨by show 2 ≤ sizeLine; decide, fun t nt => k _ _ ((e15.trans e6).trans (.new nt)) ⟨t, w4, w5, rfl, .of upd_same, (Ex.le (e6.trans (.new nt))).rn h5', (Ex.le (Ex.new nt)).ls h6⟩⟩
      rcases hv' with ⟨rfl, hn⟩ | ⟨j, p, rfl, hj, hp'⟩
      · refine ⟨_, rfl, false, by rw [decide_eq_true rfl]; rfl, iteF (rest 0 ?_)⟩
        have hn' : fY ps = none := hn
        unfold lowR
        simp only [hq', hn']
      · have hp2 : fY ps = some p := hp'
        obtain ⟨hm2, hne2⟩ := fY_mem hp2
        have bp := hb p hm2
        have pos2 := (hL.n p hp2).1
        obtain ⟨y, hy, hpl2⟩ := Ps.get2 hp hj
        obtain ⟨a2, dx2, rfl, ha2⟩ := (Ex.le e12).pl hpl2
        refine ⟨_, rfl, true, by rw [decide_eq_false (fun z => nomatch z)]; rfl, iteT ?_⟩
        refine ⟨_, rfl, _, rfl, ix_sq sq2 hy ⟨a2, CP K, dx2, _, _, rfl, ha2, T.p.cl, T.pa, pf_a p, ?_⟩⟩
        refine ⟨_, rfl, _, rfl, _, rfl, ix_sq sq2 hy ⟨a2, CP K, dx2, _, _, rfl, ha2, T.p.cl, T.px, pf_x p, _, _, rfl, rfl, mulB be bp.1 (by omega) (by omega), _, _, rfl, rfl, ?_⟩⟩
        refine ⟨_, rfl, _, rfl, ix_sq sq2 hy ⟨a2, CP K, dx2, _, _, rfl, ha2, T.p.cl, T.py, pf_y p, _, _, rfl, rfl, divB pos2 bp.2.1 (by omega), _, rfl, rest _ ?_⟩⟩
        unfold lowR
        simp only [hq', hp2]
end
end AW
/-! least_list. -/
namespace AW
open PySem PySem.Spec PyProof.Rows L2

def spLL (K : PySem.W.Frag) : Sp := fun vs H Q _ => ∃ (u : V) (ps : List Pl), vs = [u] ∧ IsPp K H u ps ∧ Big ps ∧ Bl 240 ps ∧ Gives H (fun v H' => ∃ r, IsRL K H' v r (ps.map r.ap) ∧ Unit1 r.det ∧ Red (ps.map r.ap) ∧ Br 128517 r) Q
theorem glass_bd : Br 1 glass := ⟨⟨Bi.one 0, .zero _, .zero _⟩, ⟨.zero _, (Bi.one 0).neg, .zero _⟩⟩
theorem map_len (ps : List Pl) (f : Pl → Pl) (h : Big ps) : Big (ps.map f) := by
  unfold Big at *
  rw [List.length_map]
  exact h
section
variable {P : Program} {w : World} {K : PySem.W.Frag} {mg : Str → Option Value} {base : Heap}
structure D4 (P : Program) (w : World) (K : PySem.W.Frag) (mg : Str → Option Value) (base : Heap) : Prop extends D3 P w K mg base where
  turn : Df P w K mg base CX0 9 (He.ga K "turned_east") ["places"] (spTurn K)
  lean : Df P w K mg base CX0 9 (He.ga K "leaned_north") ["places"] (spLean K)
  low : Df P w K mg base CX0 9 (He.ga K "lowered_areas") ["places"] (spLow K)
theorem op_mulRn {X : Cx} (D : D4 X.prog X.w X.K X.mg X.base) (hr : Room 7 X.A) : OpR X (binaryOp .Mult) (rOwn (CR X.K) (spMulR X.K) E0) := by
  have M := D.T.rm "__mul__" (by decide +kernel)
  refine op_own D.mulR hr pass0 D.T.r.sf (by rw [dun_mul]; exact M.at_) M.fn
/-- x * y of renamings -/
theorem mul_rn {H : Hp} {Q : VK} {x y : V} {r s : Rn} {b c : Nat} (hx : IsRn K H x r) (hy : IsRn K H y s) (br : Br c r) (bs : Br b s) (hb : b + c ≤ 1000000) (q : ∀ v H', Evl.Ex H H' → IsRn K H' v (r.mul s) → Q v H') : rOwn (CR K) (spMulR K) E0 x y H Q := by
  obtain ⟨a, dx, e1, n1, rfl, ha, h1, h2⟩ := hx
  obtain ⟨a', dx', e2, n2, rfl, ha', h3, h4⟩ := hy
  exact ⟨a, a', dx, dx', _, _, rfl, rfl, ha, ha', _, _, r, s, b, c, rfl, ⟨a, dx, e1, n1, rfl, ha, h1, h2⟩, ⟨a', dx', e2, n2, rfl, ha', h3, h4⟩, br, bs, hb, q⟩
theorem sc_ll : FnScope ["places", "first", "found", "second", "third", "lower", "best", "glass", "other"] ["places"] (defScope s_least_list) := ⟨rfl, rfl, rfl, by decide +kernel, rfl, by decide +kernel, by decide +kernel⟩
theorem ok_ll {fd : FuncData} (F : FnP K "least_list" s_least_list fd) (D : D4 P w K mg base) : Df P w K mg base CX0 10 (He.ga K "least_list") ["places"] (spLL K) := by
  refine ⟨⟨fd, F.ok sc_ll (fun vs H Q E h => ?_) (fun cdv A outer s H vs Q E hr h => ?_), F.bindsN fun _ _ _ _ _ _ us hl => match us, hl with | [_], _ => rfl⟩, F.kp⟩
  · obtain ⟨u, ps, rfl, _⟩ := h
    rfl
  · have T := D.T
    obtain ⟨u, ps, rfl, hp, hz, hb, k⟩ := h
    refine ⟨_, PSs.nox (pss_cons (ps_asg (pe_df D.turn hr rfl (T.gl "turned_east" (by decide +kernel)) pass0 (pa_cons (pv 0) pa_nil)) (pg_tup (n := 2) rfl (pgs_cons (pg_name (i := 1) sc_ll.nd rfl (.inl rfl)) (pgs_cons (pg_name (i := 2) sc_ll.nd rfl (.inl rfl)) pgs_nil))))
      (pss_cons (ps_asg (pe_df D.lean hr rfl (T.gl "leaned_north" (by decide +kernel)) pass0 (pa_cons (pv 2) pa_nil)) (pg_tup (n := 2) rfl (pgs_cons (pg_name (i := 3) sc_ll.nd rfl (.inl rfl)) (pgs_cons (pg_name (i := 2) sc_ll.nd rfl (.inl rfl)) pgs_nil))))
      (pss_cons (ps_asg (pe_df D.low hr rfl (T.gl "lowered_areas" (by decide +kernel)) pass0 (pa_cons (pv 2) pa_nil)) (pg_tup (n := 2) rfl (pgs_cons (pg_name (i := 4) sc_ll.nd rfl (.inl rfl)) (pgs_cons (pg_name (i := 5) sc_ll.nd rfl (.inl rfl)) pgs_nil))))
      (pss_cons (ps_set (i := 6) sc_ll.nd rfl (.inl rfl) (pe_op (op_mulRn D (hr.mono (by decide))) (pe_op (op_mulRn D (hr.mono (by decide))) (pv 4) (pv 3)) (pv 1)))
      (pss_cons (ps_if (pt_cmp (pc_isN (pe_df D.first (hr.mono (by decide)) rfl (T.gl "first_at" (by decide +kernel)) pass0 (pa_cons (pv 2) (pa_cons pe_str pa_nil)))))
        (pss_cons (ps_set (i := 7) sc_ll.nd rfl (.inl rfl) (pe_rn T D.inR (hr.mono (by decide)) rfl (pa_cons (pe_plc T D.ini (hr.mono (by decide)) rfl (pa_cons pe_int (pa_cons pe_int (pa_cons pe_int pa_nil)))) (pa_cons (pe_plc T D.ini (hr.mono (by decide)) rfl (pa_cons pe_int (pa_cons (pe_un un_neg pe_int) (pa_cons pe_int pa_nil)))) pa_nil))))
        (pss_cons (ps_asg (pe_df D.low hr rfl (T.gl "lowered_areas" (by decide +kernel)) pass0 (pa_cons (pe_df D.all (hr.mono (by decide)) rfl (T.gl "renamed_all" (by decide +kernel)) pass0 (pa_cons (pv 7) (pa_cons (pv 2) pa_nil))) pa_nil)) (pg_tup (n := 2) rfl (pgs_cons (pg_name (i := 4) sc_ll.nd rfl (.inl rfl)) (pgs_cons (pg_name (i := 8) sc_ll.nd rfl (.inl rfl)) pgs_nil))))
        (pss_one (ps_if (pt_cmpR (op_ltF hr.units) (pe_df D.fig (hr.mono (by decide)) rfl (T.gl "figures_of" (by decide +kernel)) pass0 (pa_cons (pv 8) pa_nil)) (pe_df D.fig (hr.mono (by decide)) rfl (T.gl "figures_of" (by decide +kernel)) pass0 (pa_cons (pv 5) pa_nil)) (nomark _))
          (pss_one (ps_ret (pe_tup (pa_cons (pe_op (op_mulRn D (hr.mono (by decide))) (pe_op (op_mulRn D (hr.mono (by decide))) (pe_op (op_mulRn D (hr.mono (by decide))) (pv 4) (pv 7)) (pv 3)) (pv 1)) (pa_cons (pv 8) pa_nil))))) pss_nil)))) pss_nil)
      (pss_one (ps_ret (pe_tup (pa_cons (pv 6) (pa_cons (pv 5) pa_nil)))))))))), ?_⟩
    refine ⟨_, rfl, u, ps, 240, rfl, hp, hz, hb, by decide, fun v H1 e1 ⟨r1, ⟨t1, rv1, cv1, ev, ht1, hr1, hc1⟩, hu1, hE, br1⟩ => ?_⟩
    subst ev
    refine ⟨t1, _, rfl, ht1, rfl, _, _, rfl, _, _, rfl, rfl, ?_⟩
    -- c1 = ps.map r1.ap
    have hz1 := map_len ps r1.ap hz
    have bl1 : Bl 967 (ps.map r1.ap) := (map_bd br1 hb).mono (by decide)
    have b2 := leanR_bd bl1
    have hL := lean_lean hE
    have em := map_map_ap (leanR (ps.map r1.ap)) r1 ps
    have hu2 := leanR_det (ps.map r1.ap)
    have hz2 := map_len (ps.map r1.ap) (leanR (ps.map r1.ap)).ap hz1
    have bl2 : Bl 3875 ((ps.map r1.ap).map (leanR (ps.map r1.ap)).ap) := (map_bd b2 bl1).mono (by decide)
    generalize hr2 : leanR (ps.map r1.ap) = r2 at *
    generalize hc2 : (ps.map r1.ap).map r2.ap = c2 at *
    refine ⟨_, rfl, cv1, ps.map r1.ap, 967, rfl, hc1.pp, hz1, bl1, by decide, fun v H2 e2 hv => ?_⟩
    rw [hr2, hc2] at hv
    obtain ⟨t2, rv2, cv2, ev, ht2, hrn2, hls2⟩ := hv
    subst ev
    refine ⟨t2, _, rfl, ht2, rfl, _, _, rfl, _, _, rfl, rfl, ?_⟩
    refine ⟨_, rfl, cv2, c2, 3875, rfl, hls2.pp, hz2, bl2, by decide, hL, fun v H3 e3 ⟨t3, rv3, cv3, ev, ht3, hrn3, hls3⟩ => ?_⟩
    subst ev
    refine ⟨t3, _, rfl, ht3, rfl, _, _, rfl, _, _, rfl, rfl, ?_⟩
    have br3 : Br 7751 (lowR c2) := (lowR_bd bl2 hL).mono (by decide)
    refine ⟨_, rfl, _, rfl, mul_rn hrn3 (e3.le.rn hrn2) br3 b2 (by decide) fun w1 H4 e4 h4 => ⟨_, rfl, mul_rn h4 ((e2.trans (e3.trans e4)).le.rn hr1) (mul_bd br3 b2) br1 (by decide) fun w2 H5 e5 h5 => ?_⟩⟩
    have hls2' := ((e3.trans e4).trans e5).le.ls hls2
    obtain ⟨us, sq, hps⟩ := hls2'.pp
    refine ⟨_, rfl, cv2, us, c2, true, rfl, sq, hps, fun v H6 e6 hv => ?_⟩
    have e36 := ((e3.trans e4).trans e5).trans e6
    have hlow : ps.map (((lowR c2).mul r2).mul r1).ap = AW.low c2 := by
      rw [← map_map_ap, ← map_map_ap, hc2]
      rfl
    -- the last line
    have fin : (fY c2 = none → ltL (oth c2) (AW.low c2) = false) → ∀ (v7 v8 v4 : Option V) (H7 : Hp), Evl.Ex H6 H7 → tRet (tTup (tCons (tVar 6) (tCons (tVar 5) tNil))) { nx := fun _ H' => Q .non H', rt := Q } [some u, some rv1, some cv2, some rv2, v4, some cv3, some w2, v7, v8] H7 := by
      intro hlt v7 v8 v4 H7 e7
      have ea := ((e1.trans (e2.trans e36)).trans e7)
      refine ⟨_, rfl, _, rfl, by show 2 ≤ sizeLine; decide, fun t nt => k _ _ (ea.trans (.new nt)) ⟨((lowR c2).mul r2).mul r1, ?_, ?_, ?_, ?_⟩⟩
      · rw [hlow]
        exact ⟨t, w2, cv3, rfl, .of upd_same, ((e6.trans e7).trans (.new nt)).le.rn h5, ((((e4.trans e5).trans e6).trans e7).trans (.new nt)).le.ls hls3⟩
      · rw [det_mul, det_mul, lowR_det, Int.one_mul]
        exact hu2.mul hu1
      · rw [hlow]
        exact red_low hL hlt
      · exact (mul_bd (mul_bd br3 b2) br1).mono (by decide)
    rcases hv with ⟨rfl, hn⟩ | ⟨i, q, rfl, hi, hq⟩
    · refine ⟨true, congrArg V.bl (decide_eq_true rfl), iteT ?_⟩
      have hn' : fY c2 = none := hn
      refine ⟨_, _, _, rfl, fun w3 H7 e7 h7 => ⟨_, rfl, _, _, _, rfl, fun w4 H8 e8 h8 => ⟨_, _, _, _, rfl, e8.le.pl h7, h8, fun w5 H9 e9 h9 => ?_⟩⟩⟩
      have hg : IsRn K H9 w5 glass := h9
      obtain ⟨hLg, _⟩ := glass_lean hL.e hn'
      have blg : Bl 7757 (c2.map glass.ap) := (map_bd glass_bd bl2).mono (by decide)
      have e69 := ((e6.trans e7).trans e8).trans e9
      refine ⟨_, rfl, _, rfl, _, _, glass, c2, 3875, 1, rfl, hg, (e69.le.ls hls2').pp, hz2, glass_bd, bl2, by decide, fun w6 H10 e10 h10 => ?_⟩
      refine ⟨_, c2.map glass.ap, 7757, rfl, h10.pp, map_len _ _ hz2, blg, by decide, hLg, fun v H11 e11 ⟨t5, rv5, cv5, ev, ht5, hrn5, hls5⟩ => ?_⟩
      subst ev
      refine ⟨t5, _, rfl, ht5, rfl, _, _, rfl, _, _, rfl, rfl, ?_⟩
      have brg : Br 15515 (lowR (c2.map glass.ap)) := (lowR_bd blg hLg).mono (by decide)
      have hls5' : IsLs K H11 cv5 (oth c2) := hls5
      have e611 := ((e7.trans e8).trans e9).trans (e10.trans e11)
      have e411 := ((e4.trans e5).trans e6).trans e611
      have zo : Big (oth c2) := map_len _ _ (map_len _ _ hz2)
      have zl : Big (AW.low c2) := map_len _ _ hz2
      refine ⟨_, rfl, cv5, oth c2, rfl, hls5'.pp, zo, fun w7 H12 e12 h12 => ?_⟩
      refine ⟨_, rfl, cv3, AW.low c2, rfl, (Ex.le (e411.trans e12)).pp hls3.pp, zl, fun w8 H13 e13 h13 => ?_⟩
      refine ⟨oth c2, AW.low c2, dp_le e13.le _ _ h12, h13, ?_, ltL (oth c2) (AW.low c2), rfl, ?_⟩
      · unfold oth AW.low
        simp
      have e1213 := e12.trans e13
      cases hlt : ltL (oth c2) (AW.low c2) with
      | false => exact iteF (fin (fun _ => hlt) _ _ _ _ (e611.trans e1213))
      | true =>
        refine iteT ?_
        have ho : ps.map ((((lowR (c2.map glass.ap)).mul glass).mul r2).mul r1).ap = oth c2 := by
          rw [← map_map_ap, ← map_map_ap, hc2, oth_eq]
        have eg : Evl.Ex H9 H13 := (e10.trans e11).trans e1213
        have e313 := (e3.trans (e411.trans e1213))
        refine ⟨_, rfl, _, rfl, mul_rn (e1213.le.rn hrn5) (eg.le.rn hg) brg glass_bd (by decide) fun x1 G1 g1 k1 => ⟨_, rfl, mul_rn k1 ((e313.trans g1).le.rn hrn2) (mul_bd brg glass_bd) b2 (by decide) fun x2 G2 g2 k2 => ⟨_, rfl, mul_rn k2 ((Ex.le ((e2.trans e313).trans (g1.trans g2))).rn hr1) (mul_bd (mul_bd brg glass_bd) b2) br1 (by decide) fun x3 G3 g3 k3 => ?_⟩⟩⟩
        have gg := (g1.trans g2).trans g3
        refine ⟨_, rfl, by show 2 ≤ sizeLine; decide, fun t nt => k _ _ ((((e1.trans e2).trans e313).trans gg).trans (.new nt)) ⟨_, ?_, ?_, ?_, (mul_bd (mul_bd (mul_bd brg glass_bd) b2) br1).mono (by decide)⟩⟩
        · rw [ho]
          exact ⟨t, x3, cv5, rfl, .of upd_same, (Ex.le (Ex.new nt)).rn k3, ((e1213.trans gg).trans (.new nt)).le.ls hls5'⟩
        · rw [det_mul, det_mul, oth_det]
          exact (Unit1.mul (.inr rfl) hu2).mul hu1
        · rw [ho]
          exact red_oth hL hn' hlt
    · refine ⟨false, congrArg V.bl (decide_eq_false (fun z => nomatch z)), iteF ?_⟩
      refine fin (fun hn => ?_) _ _ _ _ (.refl _)
      have hq' : fY c2 = some q := hq
      rw [hq'] at hn
      cases hn
end
end AW
/-! list_key, alike: where nothing is raised. -/
namespace AW
open PySem PySem.Spec PyProof.Rows L2

def spKey (K : PySem.W.Frag) : Sp := fun vs H Q _ => ∃ (u : V) (ps : List Pl), vs = [u] ∧ IsPp K H u ps ∧ Big ps ∧ Bl 240 ps ∧ Gives H (fun v H' => ∃ r : Rn, Unit1 r.det ∧ Red (ps.map r.ap) ∧ Dp K H' v (figD (ps.map r.ap))) Q
def spAlike (K : PySem.W.Frag) : Sp := fun vs H Q _ => ∃ (u v : V) (ps : List Pl) (f : Rn), vs = [u, v] ∧ IsPp K H u ps ∧ IsPp K H v (ps.map f.ap) ∧ Big ps ∧ Bl 240 ps ∧ Bl 240 (ps.map f.ap) ∧ Unit1 f.det ∧
  Gives H (fun v H' => ∃ r, IsRn K H' v r ∧ Unit1 r.det ∧ ps.map f.ap = ps.map r.ap ∧ Br 2000000 r) Q
section
variable {P : Program} {w : World} {K : PySem.W.Frag} {mg : Str → Option Value} {base : Heap}
structure D5 (P : Program) (w : World) (K : PySem.W.Frag) (mg : Str → Option Value) (base : Heap) : Prop extends D4 P w K mg base where
  ns1 : Df P w K mg base CX0 2 (He.ga K "need_places") ["values"] (spNeeds1 K)
  eqP : Df P w K mg base CX0 2 (He.ma K (CP K) "__eq__") ["self", "other"] (spEq (EqP K))
  ll : Df P w K mg base CX0 10 (He.ga K "least_list") ["places"] (spLL K)
theorem sc_key : FnScope ["places"] ["places"] (defScope s_list_key) := ⟨rfl, rfl, rfl, by decide +kernel, rfl, by decide +kernel, by decide +kernel⟩
theorem ok_key {fd : FuncData} (F : FnP K "list_key" s_list_key fd) (D : D5 P w K mg base) : Df P w K mg base CX0 11 (He.ga K "list_key") ["places"] (spKey K) := by
  refine ⟨⟨fd, F.ok sc_key (fun vs H Q E h => ?_) (fun cdv A outer s H vs Q E hr h => ?_), F.bindsN fun _ _ _ _ _ _ us hl => match us, hl with | [_], _ => rfl⟩, F.kp⟩
  · obtain ⟨u, ps, rfl, _⟩ := h
    rfl
  · have T := D.T
    obtain ⟨u, ps, rfl, ⟨us, sq, hp⟩, hz, hb, k⟩ := h
    refine ⟨_, PSs.nox (pss_cons (ps_expr (pe_df D.ns1 (hr.mono (by decide)) rfl (T.gl "need_places" (by decide +kernel)) pass0 (pa_cons (pv 0) pa_nil)))
      (pss_one (ps_ret (pe_df D.fig (hr.mono (by decide)) rfl (T.gl "figures_of" (by decide +kernel)) pass0 (pa_cons (pe_ix ix_tup (pe_df D.ll hr rfl (T.gl "least_list" (by decide +kernel)) pass0 (pa_cons (pv 0) pa_nil)) pe_int (fun _ _ => rfl)) pa_nil))))), ?_⟩
    refine ⟨_, rfl, u, us, ps, rfl, sq, hp, ?_⟩
    refine ⟨_, rfl, u, ps, rfl, ⟨us, sq, hp⟩, hz, hb, fun v H1 e1 ⟨r, ⟨t, rv, cv, ev, ht, hrn, hls⟩, hu, hR, hbr⟩ => ?_⟩
    subst ev
    refine ⟨t, _, _, _, rfl, rfl, ht, rfl, cv, ps.map r.ap, rfl, hls.pp, map_len _ _ hz, fun v H2 e2 h2 => ?_⟩
    exact k _ _ (e1.trans e2) ⟨r, hu, hR, h2⟩
theorem eqP_ext : ∀ (a b : Addr) (H H' : Hp), Ext H H' → EqP K a b H → EqP K a b H' := fun a b H H' e h => by
  obtain ⟨p, h1, h2⟩ := h
  exact ⟨p, (Ex.le (H := H) (H' := H') e).pl h1, (Ex.le (H := H) (H' := H') e).pl h2⟩
theorem prs_of {H : Hp} {xs ys : List V} {c : List Pl} (h1 : IsPs K H xs c) (h2 : IsPs K H ys c) : Prs (DIns (CP K) (EqP K)) xs ys H := by
  refine ⟨(Ps.length h1).trans (Ps.length h2).symm, fun i x y hx hy => ?_⟩
  obtain ⟨p, hp, hpx⟩ := Ps.get h1 hx
  obtain ⟨q, hq, hpy⟩ := Ps.get h2 hy
  rw [hp] at hq
  cases hq
  obtain ⟨a, dx, rfl, ha⟩ := hpx
  obtain ⟨b, dy, rfl, hb⟩ := hpy
  exact ⟨a, b, dx, dy, _, _, rfl, rfl, ha, hb, p, ⟨a, dx, rfl, ha⟩, ⟨b, dy, rfl, hb⟩⟩
theorem op_eqLs {X : Cx} (D : D5 X.prog X.w X.K X.mg X.base) (hr : Room 3 X.A) : OpR X (compareOp .Eq) (rEqG (DList (DIns (CP X.K) (EqP X.K)))) := by
  obtain ⟨fd, G, b⟩ := D.eqP.ex
  have M := D.T.pm "__eq__" (by decide +kernel)
  exact op_eqG (rcG_list (mon_ins eqP_ext) (eqG_ins G M.at_ M.fn b (E := E0) pass0)) hr
theorem len_sq {H : Hp} {v : V} {us : List V} (sq : IsSq K H v us) : LenV K v H us.length := by
  obtain ⟨a, rfl, sq⟩ := sq
  exact sq.elim (fun h => .inl ⟨us, h, rfl⟩) fun h => .inr ⟨us, h, rfl⟩
theorem sc_alike : FnScope ["places", "others", "first", "one", "second", "other"] ["places", "others"] (defScope s_alike) := ⟨rfl, rfl, rfl, by decide +kernel, rfl, by decide +kernel, by decide +kernel⟩
theorem ok_alike {fd : FuncData} (F : FnP K "alike" s_alike fd) (D : D5 P w K mg base) : Df P w K mg base CX0 11 (He.ga K "alike") ["places", "others"] (spAlike K) := by
  refine ⟨⟨fd, F.ok sc_alike (fun vs H Q E h => ?_) (fun cdv A outer s H vs Q E hr h => ?_), F.bindsN fun _ _ _ _ _ _ us hl => match us, hl with | [_, _], _ => rfl⟩, F.kp⟩
  · obtain ⟨u, v, ps, f, rfl, _⟩ := h
    rfl
  · have T := D.T
    have M := T.rm "__invert__" (by decide +kernel)
    obtain ⟨u, v, ps, f, rfl, ⟨us, sq, hp⟩, ⟨vs, sq2, hp2⟩, hz, hb, hb2, hu, k⟩ := h
    refine ⟨_, PSs.nox (pss_cons (ps_expr (pe_df D.ns1 (hr.mono (by decide)) rfl (T.gl "need_places" (by decide +kernel)) pass0 (pa_cons (pv 0) pa_nil)))
      (pss_cons (ps_expr (pe_df D.ns1 (hr.mono (by decide)) rfl (T.gl "need_places" (by decide +kernel)) pass0 (pa_cons (pv 1) pa_nil)))
      (pss_cons (ps_if (pt_cmp (pc_neI (pe_callB call_len rfl (T.fr "len" (by decide +kernel)) boot_len (pa_cons (pv 0) pa_nil)) (pe_callB call_len rfl (T.fr "len" (by decide +kernel)) boot_len (pa_cons (pv 1) pa_nil)))) (pss_one ps_never) pss_nil)
      (pss_cons (ps_asg (pe_df D.ll hr rfl (T.gl "least_list" (by decide +kernel)) pass0 (pa_cons (pv 0) pa_nil)) (pg_tup (n := 2) rfl (pgs_cons (pg_name (i := 2) sc_alike.nd rfl (.inl rfl)) (pgs_cons (pg_name (i := 3) sc_alike.nd rfl (.inl rfl)) pgs_nil))))
      (pss_cons (ps_asg (pe_df D.ll hr rfl (T.gl "least_list" (by decide +kernel)) pass0 (pa_cons (pv 1) pa_nil)) (pg_tup (n := 2) rfl (pgs_cons (pg_name (i := 4) sc_alike.nd rfl (.inl rfl)) (pgs_cons (pg_name (i := 5) sc_alike.nd rfl (.inl rfl)) pgs_nil))))
      (pss_one (ps_ret (pe_ifExp (pt_cmpR (op_eqLs D (hr.mono (by decide))) (pv 3) (pv 5) (nomark _))
        (pe_op (op_mulRn D.toD4 (hr.mono (by decide))) (pe_un (un_own D.inv (hr.mono (by decide)) pass0 M.at_ M.fn) (pv 4)) (pv 2)) pe_non)))))))), ?_⟩
    refine ⟨_, rfl, u, us, ps, rfl, sq, hp, _, rfl, v, vs, _, rfl, sq2, hp2, ?_⟩
    have hl : us.length = vs.length := by
      rw [Ps.length hp, Ps.length hp2, List.length_map]
    refine ⟨_, rfl, _, _, rfl, len_sq sq, _, rfl, _, _, rfl, len_sq sq2, _, _, rfl, rfl, false, ?_, iteF ?_⟩
    · rw [hl]
      show V.bl (!decide (((vs.length : Nat) : Int) = ((vs.length : Nat) : Int))) = V.bl false
      rw [decide_eq_true rfl]
      rfl
    refine ⟨_, rfl, u, ps, rfl, ⟨us, sq, hp⟩, hz, hb, fun w1 H1 e1 ⟨r, ⟨t, rv, cv, ev, ht, hrn, hls⟩, hru, hR, hbr⟩ => ?_⟩
    subst ev
    refine ⟨t, _, rfl, ht, rfl, _, _, rfl, _, _, rfl, rfl, ?_⟩
    refine ⟨_, rfl, v, ps.map f.ap, rfl, ⟨vs, (Ex.le e1).sq sq2, (Ex.le e1).ps hp2⟩, map_len _ _ hz, hb2, fun w2 H2 e2 ⟨s2, ⟨t2, rv2, cv2, ev, ht2, hrn2, hls2⟩, hsu, hS, hbs⟩ => ?_⟩
    subst ev
    refine ⟨t2, _, rfl, ht2, rfl, _, _, rfl, _, _, rfl, rfl, ?_⟩
    obtain ⟨a1, a2, a3⟩ := alike_ok hu rfl hru hsu rfl rfl hR hS
    rw [a1] at hls2
    obtain ⟨d1, y1, ed, hd1, hp1⟩ := (Ex.le e2).ls hls
    subst ed
    obtain ⟨d2, y2, ed, hd2, hp3⟩ := hls2
    subst ed
    refine ⟨_, rfl, _, rfl, ⟨d1, d2, y1, y2, rfl, rfl, hd1, hd2, prs_of hp1 hp3⟩, fun H3 e3 => ⟨true, rfl, iteT ?_⟩⟩
    have e3 : Evl.Ex H2 H3 := e3
    obtain ⟨a, dx, e', n', ea, ha, h1, h2⟩ := (Ex.le e3).rn hrn2
    subst ea
    refine ⟨_, rfl, a, dx, _, rfl, ha, _, s2, 128517, rfl, ⟨a, dx, e', n', rfl, ha, h1, h2⟩, hsu, hbs, by decide, by decide, fun w4 H4 e4 h4 => ⟨_, rfl, ?_⟩⟩
    have bi : Br 514075 s2.inv := by
      have bi := inv_bd hsu hbs (by decide)
      have f1 : ∀ x : Int, Bi (2 * (128517 + 128517) + 5) x → Bi (2 * (128517 + 128517) + 5) (-s2.det * x) := fun x hx => by rcases hsu with h | h <;> rw [h] <;> (refine hx.le ?_; omega)
      have g1 := f1 _ (ap_bd hbs bi.1).2.2
      have g2 := f1 _ (ap_bd hbs bi.2).2.2
      exact ⟨⟨bi.1.1.mono (by decide), bi.1.2.1.mono (by decide), ((Bi.zero _).add g1).mono (by decide)⟩, ⟨bi.2.1.mono (by decide), bi.2.2.1.mono (by decide), ((Bi.zero _).add g2).mono (by decide)⟩⟩
    refine mul_rn h4 ((Ex.le ((e2.trans e3).trans e4)).rn hrn) bi hbr (by decide) fun w5 H5 e5 h5 => ?_
    exact k _ _ ((((e1.trans e2).trans e3).trans e4).trans e5) ⟨_, h5, a2, a3, (mul_bd bi hbr).mono (by decide)⟩
end
end AW
/-! The errors: their __init__ begins by super().__init__(..). -/
namespace AW
open PySem PySem.Spec PyProof.Rows L2 PySem.W PySem.Calls PySem.HandSPX

/-- what the written part says of the class at C and of its __init__ at fI -/
structure ExcT (P : Program) (K : PySem.W.Frag) (C fI : Addr) (q : Str) (st : Stmt) (fs : List Str) : Prop where
  cls : ∃ nm q N bs bm sn sub ab col dd k0 k1 k2 k3 k5, K.lookup C = some (excClassObj nm q C N bs bm true sn sub ab col dd k0 k1 k2 k3 k5 "ValueError.__new__") ∧ refsVE bm = true
  sa : findIn K (.ref C) "__setattr__" = some (some (.builtin "object.__setattr__"))
  ga : findIn K (.ref C) "__getattribute__" = some (some (.builtin "BaseException.__getattribute__"))
  gg : findIn K (.ref C) "__getattr__" = some none
  no : ∀ f ∈ fs, findIn K (.ref C) f = some none
  iC : findIn K (.ref C) "__init__" = some (some (.ref fI))
  tC : typeIn K (.ref fI) = some (.type "function")
  kC : keepIn K (.ref C) = true
  exC : subIn K (.ref C) (.type "BaseException") = some true
  tyC : typeIn K (.ref C) = some (.type "type")
  hdC : hasDictIn K C = true
  sup : ks_superIn K C C "__init__" = some (some (.builtin "ValueError.__init__"))
  ve : subIn K (.ref C) (.type "ValueError") = some true
  mro : mroIn K C (.ref C) = some true
  tp : nsIn K cStatics "thirdparty.any" = some none
  fn : ∃ (oc : Value) (od : Option Addr) (kV doc pm : Value) (an : Option Addr) (ct : Value) (osl : Array (Option Value)) (cc cda : Addr) (ccl : Value) (cdd : Option Addr) (vs : Array Value) (ccs : Array (Option Value)) (file : Str) (tf : Tok) (cl : Value) (cld : Option Addr) (csl : Array (Option Value)),
    K.lookup fI = some ⟨oc, od, .func (ksFn "__init__" q (defArgs st) (defBody st) (defScope st) .none kV doc pm an (.ref cda) ct cc), osl⟩ ∧ codeIn K (.ref cda) q = true ∧
    K.lookup cda = some ⟨ccl, cdd, .fields vs, ccs⟩ ∧ vs[2]? = some (.str file tf) ∧ ((P.main.file : Str) == file) = true ∧ K.lookup cc = some ⟨cl, cld, .cell (some (.ref C)), csl⟩
section
variable {prog : Program} {w : World} {A : Around} {E : Value → Shared → Prop} {h : Heap} {g : Array GenState} {d : Drawn} {t : Nat} {os : OsState}
variable {nm q : Str} {C N : Addr} {bs bm : List Value} {hdct : Bool} {sn : List Str} {sub : List Value} {ab : Bool} {col : Option Bool} {dd : Option Addr} {k0 k1 k2 k3 k5 : Option Value}
/-- the bound built-in __init__, called -/
theorem call_mw {u e t0 : Addr} {rest : List Value} {Q : Value → Shared → Prop}
    (hC : h.get? C = some (excClassObj nm q C N bs bm hdct sn sub ab col dd k0 k1 k2 k3 k5 "ValueError.__new__")) (he : h.get? e = some (excO C t0)) (hu : h.get? u = some (kxs_mw "ValueError.__init__" e)) (hrest : rest.length ≤ sizeLine)
    (hq : ∀ h' t1, (∀ b o, b ≠ e → h.get? b = some o → h'.get? b = some o) → h'.get? e = some (excO C t1) → Q .none ⟨h', g, d, t, os⟩) :
    wpAny (model prog w) A (call (.ref u) rest) Q E ⟨h, g, d, t, os⟩ := by
  refine wpAny_call (codeAny_of_tree ?_)
  show wpAny _ A.in1 (callAny (.ref u) ⟨rest, []⟩) _ _ _
  simp only [callAny]
  refine wpAny_bind (wpAny_load hu ?_)
  simp only [kxs_mw, show (Value.type "method-wrapper" == Value.type "method" || Value.type "method-wrapper" == Value.type "builtin_function_or_method" || Value.type "method-wrapper" == Value.type "method-wrapper") = true by decide, if_true]
  refine W.KFB.if_so (by decide) ?_
  refine wpAny_bind (PySem.ESX.check_bound F.excBase_ValueError hC he rfl ?_)
  refine wpAny_bind (wpAny_pure (wpAny_pure ?_))
  refine ⟨Code.quiet_builtin _ (by decide +kernel), codeAny_builtin F.excBase_ValueError.initEntry ?_⟩
  rw [Around.under_plainId F.excBase_ValueError.init.plain _]
  wp_walk
  refine hq _ h.objs.size (fun b o hb ho => ?_) ?_
  · rw [Heap.get?_update_other _ _ (Ne.symm hb)]
    exact Heap.get?_push_of_some _ ho
  · rw [Heap.get?_update_self _ (Heap.get?_push_of_some _ he) rfl]
    rfl
end
/-- names of the globals and built-ins as the written part and the start have them -/
structure Gnd (K : PySem.W.Frag) (h : Heap) : Prop where
  kin : K.In h
  glob : ∃ mg, h.Ns mainGlobals mg ∧ mg "super" = none
  blt : ∃ mb, h.Ns builtinsNs mb ∧ mb "super" = some (.type "super")
theorem Gnd.keeps {K : PySem.W.Frag} {h h' : Heap} (G : Gnd K h) (k : ∀ b o, h.get? b = some o → h'.get? b = some o) : Gnd K h' := by
  obtain ⟨a, ⟨mg, b, c⟩, ⟨mb, d, e⟩⟩ := G
  exact ⟨a.keeps k, ⟨mg, b.keeps k, c⟩, ⟨mb, d.keeps k, e⟩⟩
section
variable {P : Program} {w : World} {A : Around} {E : Value → Shared → Prop} {s : Shared} {K : PySem.W.Frag} {C fI : Addr} {q : Str} {st : Stmt} {fs : List Str}
/-- super().__init__ in the running body: the bound built-in one stands at u -/
theorem sup_step {body : List Stmt} {p0 p1 : Pos} {whole : Sem Value} {L x t0 cc cda : Addr} {m : Str → Option Value} {oc ccl cl : Value} {od cdd cld : Option Addr} {osl ccs csl : Array (Option Value)} {fd : FuncData} {vs : Array Value} {file : Str} {tf : Tok} {sc : Scope} {pl : Sem Bool} {Q : Value × List Value → Shared → Prop} {ar : Arg}
    (T : ExcT P K C fI q st fs) (G : Gnd K s.heap) (hns : s.heap.Ns L m) (hm : m "self" = some (.ref x)) (hx : s.heap.get? x = some (excO C t0))
    (hf : K.lookup fI = some ⟨oc, od, .func fd, osl⟩) (hp : (fd.params.posonlyargs ++ fd.params.args).head? = some ar) (har : ar.arg = "self") (hcode : K.lookup cda = some ⟨ccl, cdd, .fields vs, ccs⟩) (hvs : vs[2]? = some (.str file tf)) (hfile : ((P.main.file : Str) == file) = true)
    (hcell : K.lookup cc = some ⟨cl, cld, .cell (some (.ref C)), csl⟩) (hks : sc.names.lookup ("super" : Str) = some .globalImplicit) (hkc : sc.names.lookup ("__class__" : Str) = some .free) (hka : sc.names.lookup ("self" : Str) = some .local) (hk : sc.kind = .function)
    (htop : (P.main.scope.names.lookup ("super" : Str)).isSome = false)
    (h : ∀ u h' t', (∀ b o, s.heap.get? b = some o → h'.get? b = some o) → h'.get? u = some (kxs_mw "ValueError.__init__" x) → Q (.ref u, []) { s with heap := h', toks := t' }) :
    _root_.PySem.wpAt (model P w) A (.func body (ksEnv q sc L fI (.ref cda) cc)) (attributeBase (.Call (.Name "super" p0) [] [] p1) "__init__" (ksEnv q sc L fI (.ref cda) cc) whole) (fun ov s₁ => wpAny (model P w) A (getMethod ov "__init__" pl) Q E s₁) E s := by
  obtain ⟨X, ⟨mg, hg, hgs⟩, ⟨mb, hb, hbs⟩⟩ := G
  obtain ⟨nm, qn, N, bs, bm, sn, sub, ab, col, dd, k0, k1, k2, k3, k5, hC, hbm⟩ := T.cls
  obtain ⟨hh, g, d, t, os⟩ := s
  have I : InstAt hh x (excO C t0) C none := ⟨hx, rfl, rfl, trivial⟩
  have hcl : ∃ cd, clsIn K C = some cd ∧ ∃ oD, hh.get? C = some oD ∧ oD.data = .cls cd := by
    refine ⟨_, by unfold clsIn; rw [hC] <;> rfl, _, X _ _ hC, rfl⟩
  obtain ⟨cd, hcd, oD, hD1, hD2⟩ := hcl
  refine ks_wpAt_super_base (env := ksEnv q sc L fI (.ref cda) cc) hks hkc (by decide) rfl (X _ _ hf) rfl hp rfl (X _ _ hcode) rfl hvs hfile htop ?_
  refine ks_loadName_global hk hks (loadGlobal_builtin (env := ksEnv q sc L fI (.ref cda) cc) hg hgs hb hbs ⟨rfl, ?_⟩)
  refine wpAny_loadName_free hk hkc rfl ⟨_, X _ _ hcell, rfl⟩ ?_
  rw [har]
  refine wpAny_loadName_local hk hka hns hm ?_
  refine ks_wpAny_isType_cls hD1 hD2 ⟨rfl, ?_⟩
  refine ks_wpAny_call_super hD1 hD2 I.at_ I.cls (fun c e => ?_) (looks_mroIn X T.mro) (fun h' e k => ?_)
  · have := I.no
    unfold notCls at this
    rw [e] at this
    exact Bool.noConfusion this
  · have X' : K.In h' := X.keeps k
    have hm2 := T.sup
    unfold ks_superIn at hm2
    rw [hcd] at hm2
    have hI : Looks (model P w) h' (isInstance (.ref x) (.type "ValueError")) true := (show InstAt h' x (excO C t0) C none from ⟨k _ _ hx, rfl, rfl, trivial⟩).type.andThen (looks_subIn X' T.ve)
    refine kxs_getMethod kxs_ValueError e (looks_opaque X' T.tp) (l₀ := cd.mro) ?_ rfl X' hm2 hI (ks_ne X I hcd) (by decide) ?_
    · exact fun A Q E s k q => wpAny_bind ((looks_clsIn X' hcd) A _ E s k (wpAny_pure q))
    · exact h _ _ _ (fun b o z => Heap.get?_push_of_some _ (k b o z)) (Heap.get?_push_at rfl rfl)
/-- what __init__ leaves of a fresh exception at x -/
structure InitEnd (h h' : Heap) (x C dx t1 : Addr) (m : Str → Option Value) : Prop where
  keep : ∀ b o, b ≠ x → h.get? b = some o → h'.get? b = some o
  obj : h'.get? x = some { cls := .ref C, dict := some dx, data := .fields #[.ref t1, .none, .none, .none, .bool false, .none] }
  dbig : h.objs.size ≤ dx
  dne : dx ≠ x
  ns : h'.Ns1 dx m
abbrev s_BadPlace_init : Stmt := inClass (top 4) 0
abbrev s_Uneven_init : Stmt := inClass (top 5) 0
theorem args1 {M : Model} {A : Around} {E : Value → Shared → Prop} {s : Shared} {e : Expr} {env : Env} {pos : Pos} {Q : List Value → Shared → Prop} (h : wpAny M A (eval e env) (fun v => Q [v]) E s)
    (na : starEach [e] env = (false, eval e env) :: starEach [] env := by rfl) : wpAny M A (spliced (backTo pos (starEach [e] env))) Q E s :=
  args_cons (wpAny_mono h (fun v s1 q => args_nil q) fun _ _ z => z) na
theorem args2 {M : Model} {A : Around} {E : Value → Shared → Prop} {s : Shared} {e f : Expr} {env : Env} {pos : Pos} {Q : List Value → Shared → Prop} (h : wpAny M A (eval e env) (fun v s1 => wpAny M A (eval f env) (fun u => Q [v, u]) E s1) E s)
    (na : starEach [e, f] env = (false, eval e env) :: starEach [f] env := by rfl) (nb : starEach [f] env = (false, eval f env) :: starEach [] env := by rfl) : wpAny M A (spliced (backTo pos (starEach [e, f] env))) Q E s :=
  args_cons (wpAny_mono h (fun v s1 q => args1 q nb) fun _ _ z => z) na
theorem cw1 {M : Model} {A : Around} {E : Value → Shared → Prop} {s : Shared} {pos : Pos} {env : Env} {e : Expr} {rest : List Expr} {Q : Value → Shared → Prop} {i : String} {u x : Addr}
    (h : wpAny M A (spliced (backTo pos (starEach (e :: rest) env))) (fun vs s₁ => KxsAt i u x s₁.heap ∧ wpAny M A (call (.ref u) vs) Q E s₁) E s)
    (he : starEach (e :: rest) env = (false, eval e env) :: starEach rest env := by rfl) (hplain : (backTo pos (starEach rest env)).any (·.1) = false := by rfl) :
    wpAny M A (callWith pos (.ref u) [] (backTo pos (starEach (e :: rest) env)) []) Q E s := by
  rw [he] at h ⊢
  refine kxs_callWith (i := i) (x := x) (by show (false || (backTo pos (starEach rest env)).any (·.1)) = false; rw [hplain]; rfl) ?_
  exact evalArgs_plain h
theorem ldK {M : Model} {A : Around} {E : Value → Shared → Prop} {s : Shared} {name : Str} {scope : Scope} {L a cc : Addr} {cd : Value} {m : Str → Option Value} {x : Str} {pos : Pos} {v : Value} {Q : Value → Shared → Prop} (hn : s.heap.Ns L m) (hv : m x = some v) (h : Q v s)
    (hk : scope.kind = .function) (hl : scope.names.lookup x = some .local) (hd : (x == ("__debug__" : Str)) = false := by decide) :
    wpAny M A (eval (.Name x pos) (ksEnv name scope L a cd cc)) Q E s := wpAny_Name (wpAny_loadName_local hk hl hn hv h) hd
theorem szl {n : Nat} (h : n ≤ 10) : n ≤ sizeLine := by
  rw [sizeLine_eq]
  omega
theorem sb1 : (defScope s_BadPlace_init).names.lookup ("super" : Str) = some .globalImplicit := by decide +kernel
theorem sb2 : (defScope s_BadPlace_init).names.lookup ("__class__" : Str) = some .free := by decide +kernel
theorem sb3 : (defScope s_BadPlace_init).names.lookup ("self" : Str) = some .local := by decide +kernel
theorem sb4 : (defScope s_BadPlace_init).names.lookup ("value" : Str) = some .local := by decide +kernel
theorem bad_init (T : ExcT P K C fI "BadPlace.__init__" s_BadPlace_init ["value"]) (G : Gnd K s.heap) (hlim : s.heap.NoLimit) {R : Result → Shared → Prop} {x t0 : Addr} {v : Value} (hx : s.heap.get? x = some (excO C t0)) (hnx : K.lookup x = none) (hroom : A.depth < recursionLimit)
    (htop : (P.main.scope.names.lookup ("super" : Str)).isSome = false)
    (hq : ∀ h' tk dx t1, InitEnd s.heap h' x C dx t1 (fun y => if y = "value" then some v else none) → R (.ok (.ret .none)) { s with heap := h', toks := tk }) :
    codeAny (model P w) A (.call (.ref fI) ⟨[.ref x, v], []⟩) R s := by
  obtain ⟨oc, od, kV, doc, pm, an, ct, osl, cc, cda, ccl, cdd, vs, ccs, file, tf, cl, cld, csl, hfl, hcd, hcda, hvs, hfile, hcell⟩ := T.fn
  obtain ⟨nm, qn, N, bs, bm, sn, sub, ab, col, dd, k0, k1, k2, k3, k5, hC, hbm⟩ := T.cls
  have hcl : clsIn K C = some { name := nm, bases := bs, mro := .ref C :: bm, ns := N, qualname := qn, hasDict := true, slotNames := sn, subclasses := sub, abstract := ab, collection := col, hasDel := false } := by unfold clsIn; rw [hC] <;> rfl
  refine ks_codeAny_call_defAt (fd := ksFn "__init__" "BadPlace.__init__" (defArgs s_BadPlace_init) (defBody s_BadPlace_init) (defScope s_BadPlace_init) .none kV doc pm an (.ref cda) ct cc) (body := defBody s_BadPlace_init) (binds := [("self", .ref x), ("value", v)])
    hroom (G.kin _ _ hfl) rfl hlim (codeRec_of G.kin hcd) rfl (BindsTo.of_eq (by first | rfl | with_unfolding_all rfl)) (show ∀ x ∈ (defScope s_BadPlace_init).names, x.2 ≠ .cell by decide +kernel) ?_ (fun h₁ hns hk₁ => ?_) rfl rfl rfl
  · intro y hy
    rcases List.mem_cons.mp hy with e | hy
    · rw [e]; exact sb3
    rcases List.mem_cons.mp hy with e | hy
    · rw [e]; exact sb4
    · cases hy
  have G₁ := G.keeps hk₁
  have hx₁ := hk₁ _ _ hx
  have hxL : s.heap.objs.size ≠ x := Nat.ne_of_gt (Heap.lt_size hx)
  refine ks_wpAt_execs_cons (ks_wpAt_Expr_any (ks_wpAt_MethodCall (sup_step (s := { s with heap := h₁, toks := s.toks + 2 }) (sc := defScope s_BadPlace_init) (fd := ksFn "__init__" "BadPlace.__init__" (defArgs s_BadPlace_init) (defBody s_BadPlace_init) (defScope s_BadPlace_init) .none kV doc pm an (.ref cda) ct cc)
    T G₁ hns (by first | rfl | kernel_rfl) hx₁ hfl rfl rfl hcda hvs hfile hcell sb1 sb2 sb3 rfl htop fun u h₂ t₂ k₂ hu => ?_)))
  have G₂ := G₁.keeps k₂
  refine cw1 (i := "ValueError.__init__") (x := x) (args1 (ldK (v := v) (hns.keeps k₂) (by first | rfl | kernel_rfl) ⟨hu, call_mw (G₂.kin _ _ hC) (k₂ _ _ hx₁) hu (szl (n := 1) (by decide)) fun h₃ t1 k₃ hx₃ => ?_⟩ rfl sb4))
  have X₃ : K.In h₃ := fun a o e => k₃ a o (fun z => by rw [z, hnx] at e; cases e) (G₂.kin a o e)
  obtain ⟨oL, es, ep, hL, rL⟩ := hns.keeps k₂
  have hns₃ : h₃.Ns s.heap.objs.size _ := ⟨oL, es, ep, k₃ _ _ hxL hL, rL⟩
  show _root_.PySem.wpAt _ _ _ (execs _ _) _ _ _
  refine _root_.PySem.wpAt_of_wpAny (wpAny_execs_cons (plainObj_wpAny_Assign_Attribute ?_))
  refine ldK (v := v) hns₃ (by first | rfl | kernel_rfl) (ldK (v := .ref x) hns₃ (by first | rfl | kernel_rfl) ?_ rfl sb3) rfl sb4
  refine set_plain X₃ (ox := excO C t1) (od := none) ⟨hx₃, rfl, rfl, trivial⟩ T.sa ?_
  refine exc_osa X₃ hx₃ hcl (show refsVE (.ref C :: bm) = true from hbm) rfl (T.no _ (by decide +kernel)) (fun h₄ tk₄ dx k₄ dn dne hx₄ hn₄ => ?_)
  show wpAny _ _ (execs _ _) _ _ _
  have z : s.heap.objs.size < h₃.objs.size := hns₃.lt
  exact wpAny_execs_nil (hq h₄ tk₄ dx t1 ⟨fun b o hb e => k₄ b o hb (k₃ b o hb (k₂ b o (hk₁ b o e))), hx₄, Nat.le_of_lt (Nat.lt_of_lt_of_le z dn), dne, hn₄⟩)
theorem su1 : (defScope s_Uneven_init).names.lookup ("super" : Str) = some .globalImplicit := by decide +kernel
theorem su2 : (defScope s_Uneven_init).names.lookup ("__class__" : Str) = some .free := by decide +kernel
theorem su3 : (defScope s_Uneven_init).names.lookup ("self" : Str) = some .local := by decide +kernel
theorem su4 : (defScope s_Uneven_init).names.lookup ("first" : Str) = some .local := by decide +kernel
theorem su5 : (defScope s_Uneven_init).names.lookup ("second" : Str) = some .local := by decide +kernel
theorem unev_init (T : ExcT P K C fI "Uneven.__init__" s_Uneven_init ["first", "second"]) (G : Gnd K s.heap) (hlim : s.heap.NoLimit) {R : Result → Shared → Prop} {x t0 : Addr} {v v2 : Value} (hx : s.heap.get? x = some (excO C t0)) (hnx : K.lookup x = none) (hroom : A.depth < recursionLimit)
    (htop : (P.main.scope.names.lookup ("super" : Str)).isSome = false)
    (hq : ∀ h' tk dx t1, InitEnd s.heap h' x C dx t1 (fun y => if y = "second" then some v2 else if y = "first" then some v else none) → R (.ok (.ret .none)) { s with heap := h', toks := tk }) :
    codeAny (model P w) A (.call (.ref fI) ⟨[.ref x, v, v2], []⟩) R s := by
  obtain ⟨oc, od, kV, doc, pm, an, ct, osl, cc, cda, ccl, cdd, vs, ccs, file, tf, cl, cld, csl, hfl, hcd, hcda, hvs, hfile, hcell⟩ := T.fn
  obtain ⟨nm, qn, N, bs, bm, sn, sub, ab, col, dd, k0, k1, k2, k3, k5, hC, hbm⟩ := T.cls
  have hcl : clsIn K C = some { name := nm, bases := bs, mro := .ref C :: bm, ns := N, qualname := qn, hasDict := true, slotNames := sn, subclasses := sub, abstract := ab, collection := col, hasDel := false } := by unfold clsIn; rw [hC] <;> rfl
  refine ks_codeAny_call_defAt (fd := ksFn "__init__" "Uneven.__init__" (defArgs s_Uneven_init) (defBody s_Uneven_init) (defScope s_Uneven_init) .none kV doc pm an (.ref cda) ct cc) (body := defBody s_Uneven_init) (binds := [("self", .ref x), ("first", v), ("second", v2)])
    hroom (G.kin _ _ hfl) rfl hlim (codeRec_of G.kin hcd) rfl (BindsTo.of_eq (by first | rfl | with_unfolding_all rfl)) (show ∀ x ∈ (defScope s_Uneven_init).names, x.2 ≠ .cell by decide +kernel) ?_ (fun h₁ hns hk₁ => ?_) rfl rfl rfl
  · intro y hy
    rcases List.mem_cons.mp hy with e | hy
    · rw [e]; exact su3
    rcases List.mem_cons.mp hy with e | hy
    · rw [e]; exact su4
    rcases List.mem_cons.mp hy with e | hy
    · rw [e]; exact su5
    · cases hy
  have G₁ := G.keeps hk₁
  have hx₁ := hk₁ _ _ hx
  have hxL : s.heap.objs.size ≠ x := Nat.ne_of_gt (Heap.lt_size hx)
  refine ks_wpAt_execs_cons (ks_wpAt_Expr_any (ks_wpAt_MethodCall (sup_step (s := { s with heap := h₁, toks := s.toks + 3 }) (sc := defScope s_Uneven_init) (fd := ksFn "__init__" "Uneven.__init__" (defArgs s_Uneven_init) (defBody s_Uneven_init) (defScope s_Uneven_init) .none kV doc pm an (.ref cda) ct cc)
    T G₁ hns (by first | rfl | kernel_rfl) hx₁ hfl rfl rfl hcda hvs hfile hcell su1 su2 su3 rfl htop fun u h₂ t₂ k₂ hu => ?_)))
  have G₂ := G₁.keeps k₂
  have hns₂ := hns.keeps k₂
  refine cw1 (i := "ValueError.__init__") (x := x) (args2 (ldK (v := v) hns₂ (by first | rfl | kernel_rfl) (ldK (v := v2) hns₂ (by first | rfl | kernel_rfl) ⟨hu, call_mw (G₂.kin _ _ hC) (k₂ _ _ hx₁) hu (szl (n := 2) (by decide)) fun h₃ t1 k₃ hx₃ => ?_⟩ rfl su5) rfl su4))
  have X₃ : K.In h₃ := fun a o e => k₃ a o (fun z => by rw [z, hnx] at e; cases e) (G₂.kin a o e)
  obtain ⟨oL, es, ep, hL, rL⟩ := hns₂
  have hns₃ : h₃.Ns s.heap.objs.size _ := ⟨oL, es, ep, k₃ _ _ hxL hL, rL⟩
  show _root_.PySem.wpAt _ _ _ (execs _ _) _ _ _
  refine _root_.PySem.wpAt_of_wpAny (wpAny_execs_cons (plainObj_wpAny_Assign_Attribute ?_))
  refine ldK (v := v) hns₃ (by first | rfl | kernel_rfl) (ldK (v := .ref x) hns₃ (by first | rfl | kernel_rfl) ?_ rfl su3) rfl su4
  refine set_plain X₃ (ox := excO C t1) (od := none) ⟨hx₃, rfl, rfl, trivial⟩ T.sa ?_
  refine exc_osa X₃ hx₃ hcl (show refsVE (.ref C :: bm) = true from hbm) rfl (T.no _ (by decide +kernel)) (fun h₄ tk₄ dx k₄ dn dne hx₄ hn₄ => ?_)
  have X₄ : K.In h₄ := fun a o e => k₄ a o (fun z => by rw [z, hnx] at e; cases e) (X₃ a o e)
  have hns₄ : h₄.Ns s.heap.objs.size _ := ⟨oL, es, ep, k₄ _ _ hxL (k₃ _ _ hxL hL), rL⟩
  have z : s.heap.objs.size < h₃.objs.size := hns₃.lt
  have hw : Within (fun y => if y = ("first" : Str) then some v else (none : Option Value)) ["first"] := fun y hy => by
    by_cases e : y = "first"
    · rw [e]; exact List.mem_cons_self
    · simp only [if_neg e] at hy
      exact absurd rfl hy
  obtain ⟨oD, _, _, hoD, _, _⟩ := hn₄.count hw
  show wpAny _ _ (execs _ _) _ _ _
  refine wpAny_execs_cons (plainObj_wpAny_Assign_Attribute ?_)
  refine ldK (v := v2) hns₄ (by first | rfl | kernel_rfl) (ldK (v := .ref x) hns₄ (by first | rfl | kernel_rfl) ?_ rfl su3) rfl su5
  refine set_plain X₄ (ox := { cls := .ref C, dict := some dx, data := .fields #[.ref t1, .none, .none, .none, .bool false, .none] }) (od := some oD) ⟨hx₄, rfl, rfl, hoD⟩ T.sa ?_
  refine PySem.OEX.osa_old X₄ hx₄ hn₄ hw (by decide) hcl (show refsVE (.ref C :: bm) = true from hbm) rfl (T.no _ (by decide +kernel)) (fun h₅ tk₅ k₅ hn₅ => ?_)
  show wpAny _ _ (execs _ _) _ _ _
  have old : ∀ b o, s.heap.get? b = some o → b ≠ dx := fun b o e => Nat.ne_of_lt (Nat.lt_of_lt_of_le (Nat.lt_trans (Heap.lt_size e) z) dn)
  exact wpAny_execs_nil (hq h₅ tk₅ dx t1 ⟨fun b o hb e => k₅ b o (old b o e) (k₄ b o hb (k₃ b o hb (k₂ b o (hk₁ b o e)))), k₅ _ _ (Ne.symm dne) hx₄, Nat.le_of_lt (Nat.lt_of_lt_of_le z dn), dne, hn₅⟩)
/-- a made error -/
structure Made (h h' : Heap) (e C d : Addr) (m : Str → Option Value) : Prop where
  keep : ∀ b o, h.get? b = some o → h'.get? b = some o
  new : h.objs.size ≤ e
  obj : ∃ oe vs, h'.get? e = some oe ∧ oe.cls = .ref C ∧ oe.dict = some d ∧ oe.data = .fields vs ∧ vs[1]? = some .none
  dbig : h.objs.size ≤ d
  dne : d ≠ e
  ns : h'.Ns1 d m
theorem made_of {R : Result → Shared → Prop} {fsn : List Str} {us : List Value} {m : Str → Option Value} (T : ExcT P K C fI q st fsn) (G : Gnd K s.heap) (hlim : s.heap.NoLimit) (hz : us.length ≤ 10) (hroom : A.depth + 1 < recursionLimit)
    (init : ∀ (A : Around) (s : Shared) (R : Result → Shared → Prop) (x t0 : Addr), Gnd K s.heap → s.heap.NoLimit → s.heap.get? x = some (excO C t0) → K.lookup x = none → A.depth < recursionLimit →
      (∀ h' tk dx t1, InitEnd s.heap h' x C dx t1 m → R (.ok (.ret .none)) { s with heap := h', toks := tk }) → codeAny (model P w) A (.call (.ref fI) ⟨.ref x :: us, []⟩) R s)
    (hq : ∀ h' tk e d, Made s.heap h' e C d m → R (.ok (.ret (.ref e))) { s with heap := h', toks := tk }) :
    codeAny (model P w) A (.call (.ref C) ⟨us, []⟩) R s := by
  obtain ⟨nm, q, N, bs, bm, sn, sub, ab, col, dd, k0, k1, k2, k3, k5, hC, hbm⟩ := T.cls
  have X := G.kin
  obtain ⟨hp, g, dr, tk, os⟩ := s
  have k : ∀ b o, hp.get? b = some o → ((hp.push (kdv_tup us)).push (excO C hp.objs.size)).get? b = some o := fun b o e => Heap.get?_push_of_some _ (Heap.get?_push_of_some _ e)
  have hget : ((hp.push (kdv_tup us)).push (excO C hp.objs.size)).get? (hp.objs.size + 1) = some (excO C hp.objs.size) := by heap_get
  have hnx : K.lookup (hp.objs.size + 1) = none := by
    cases e : K.lookup (hp.objs.size + 1) with
    | none => rfl
    | some o =>
      have z : hp.get? (hp.objs.size + 1) = some o := X _ _ e
      exact absurd (Nat.lt_of_succ_lt (Heap.lt_size z)) (Nat.lt_irrefl _)
  refine call_own F.excBase_ValueError (fun X => refsVE_contains X bm hbm) (X _ _ hC) (looks_findIn X T.iC) (fun self => bind_fn X self T.tC) (szl hz) ?_
  refine init _ ⟨(hp.push (kdv_tup us)).push (excO C hp.objs.size), g, dr, tk, os⟩ _ _ _ (G.keeps k) (hlim.keeps k) hget hnx ?_ fun h' tk' dx t1 ⟨k', hx, dn, dne, hns⟩ => ?_
  · show A.depth + 1 < recursionLimit
    exact hroom
  · have old : ∀ b o, hp.get? b = some o → h'.get? b = some o := fun b o e => k' b o (Nat.ne_of_lt (Nat.lt_succ_of_lt (Heap.lt_size e))) (k b o e)
    have z : hp.objs.size + 1 + 1 ≤ dx := by
      first
        | (simpa only [Heap.size_push] using dn)
        | exact dn
        | (have q := dn; rw [Heap.size_push, Heap.size_push] at q; exact q)
    exact ⟨rfl, hq h' tk' (hp.objs.size + 1) dx ⟨old, Nat.le_succ _, ⟨_, _, hx, rfl, rfl, rfl, rfl⟩, Nat.le_trans (Nat.le_trans (Nat.le_succ _) (Nat.le_succ _)) z, dne, hns⟩⟩
end
/-! ### as rules: BadPlace(e), Uneven(e, f) -/
theorem gnd_of {X : Cx} {pins : List (Addr × Obj)} {σ : L2.St} {H : Hp} {s : Shared} (I : L2.Inv X pins σ H s) (hs : X.mg "super" = none) : Gnd X.K s.heap := by
  obtain ⟨mb, h1, h2⟩ := I.mod.blt
  exact ⟨I.kIn, ⟨_, I.mod.glob.keeps I.bk, hs⟩, ⟨mb, h1.keeps I.bk, (h2 "super" (by decide +kernel)).trans (by decide +kernel)⟩⟩
theorem mkP_of {X : Cx} {pins : List (Addr × Obj)} {σ : L2.St} {H1 : Hp} {Q : XK} {hp h' : Heap} {g : Array GenState} {dr : Drawn} {tk tk' : Nat} {os : OsState} {C e d : Addr} {fs : List (Str × V)} {m : Str → Option Value} {fI : Addr} {qn : Str} {st : Stmt} {fsn : List Str} (T : ExcT X.prog X.K C fI qn st fsn)
    (I1 : L2.Inv X pins σ H1 ⟨hp, g, dr, tk, os⟩) (M : Made hp h' e C d m) (hr : ∀ f, RelO (fs.lookup f) (m f)) (q1 : ∀ d, H1 d = none → Q (.ref C) (some d) (upd H1 d (.xd fs))) : MkP X pins σ Q (.ref e) ⟨h', g, dr, tk', os⟩ := by
  obtain ⟨oe, fv, hoe, hc, hd, hdat, h1⟩ := M.obj
  have hns := M.ns
  obtain ⟨G', g1, g2⟩ := restrict h' fun b => decide (b ≠ e)
  have gk : ∀ b, b ≠ e → G'.get? b = h'.get? b := fun b hb => g1 b (decide_eq_true hb)
  have ge : G'.get? e = none := g2 e (by simp)
  have old : ∀ b o, hp.get? b = some o → G'.get? b = some o := fun b o q => (gk b (Nat.ne_of_lt (Nat.lt_of_lt_of_le (Heap.lt_size q) M.new))).trans (M.keep b o q)
  have ob : ObjOk X.prog X.w (upd H1 d (.xd fs)) G' d (.xd fs) := ⟨_, hns.at (fun o q => (gk d M.dne).trans q), hr⟩
  have J : L2.Inv X pins σ (upd H1 d (.xd fs)) ⟨G', g, dr, tk', os⟩ := I1.laid (t' := tk') old M.dbig ob
  refine ⟨e, oe, fv, ⟨G', g, dr, tk', os⟩, _, .ref C, some d, rfl, J, fun b o q => ?_, ge, hoe, ⟨hc, hd⟩, hdat, h1, ?_, rfl, I1.bare, raises_own T.exC T.tyC, q1 d (I1.hok.fresh M.dbig)⟩
  · by_cases hb : b = e
    · have q' : G'.get? b = some o := q
      rw [hb, ge] at q'; cases q'
    · exact (gk b hb).symm.trans q
  · rw [upd_ne (Ne.symm M.dne)]
    exact I1.hok.fresh M.new
def bf (v : V) : List (Str × V) := [("value", v)]
def uf (v v2 : V) : List (Str × V) := [("second", v2), ("first", v)]
theorem rel_bf {v : V} {v' : Value} (r : RelV v v') (f : Str) : RelO ((bf v).lookup f) (if f = "value" then some v' else none) := by
  by_cases hw : f = "value"
  · subst hw
    rw [if_pos rfl, show (bf v).lookup ("value" : Str) = some v from look_eq (by decide +kernel)]
    exact r
  · rw [if_neg hw, show (bf v).lookup f = none from (look_ne (by simpa using hw)).trans rfl]
    trivial
theorem rel_uf {v v2 : V} {u u2 : Value} (r : RelV v u) (r2 : RelV v2 u2) (f : Str) : RelO ((uf v v2).lookup f) (if f = "second" then some u2 else if f = "first" then some u else none) := by
  by_cases hw : f = "second"
  · subst hw
    rw [if_pos rfl, show (uf v v2).lookup ("second" : Str) = some v2 from look_eq (by decide +kernel)]
    exact r2
  · rw [if_neg hw]
    by_cases h2 : f = "first"
    · subst h2
      rw [if_pos rfl, show (uf v v2).lookup ("first" : Str) = some v from (look_ne (by decide +kernel)).trans (look_eq (by decide +kernel))]
      exact r
    · rw [if_neg h2, show (uf v v2).lookup f = none from (look_ne (by simpa using hw)).trans ((look_ne (by simpa using h2)).trans rfl)]
      trivial
/-- BadPlace(e) -/
def tMkB (C : Addr) (ta : TA) : L2.St → Hp → XK → Prop := fun σ H Q => ta σ H fun vs H1 => ∃ v, vs = [v] ∧ ∀ d, H1 d = none → Q (.ref C) (some d) (upd H1 d (.xd (bf v)))
def tMkU (C : Addr) (ta : TA) : L2.St → Hp → XK → Prop := fun σ H Q => ta σ H fun vs H1 => ∃ v v2, vs = [v, v2] ∧ ∀ d, H1 d = none → Q (.ref C) (some d) (upd H1 d (.xd (uf v v2)))
section
variable {X : Cx} {C fI : Addr}
theorem pmk_bad {a : Expr} {ta : TA} {p pos : Pos} {k : Nat} (T : ExcT X.prog X.K C fI "BadPlace.__init__" s_BadPlace_init ["value"]) (gC : X.mg "BadPlace" = some (.ref C)) (hs : X.mg "super" = none) (htop : (X.prog.main.scope.names.lookup ("super" : Str)).isSome = false) (hr : Room k X.A) (ha : PA X [a] ta) (hg : Gl X "BadPlace" := by rfl)
    (he : starEach (a :: []) X.env = (false, eval a X.env) :: starEach [] X.env := by rfl) (hpl : (backTo pos (starEach [] X.env)).any (·.1) = false := by rfl) :
    PMk X (.Call (.Name "BadPlace" p) [a] [] pos) (tMkB C ta) := by
  intro pins s σ H Q I h
  refine wpAny_Call_Name_kw (ld_glob I hg gC ?_)
  refine PySem.W.callWith_K (h₀ := X.base) I.ok.mod.kin T.kC (thn (ha.run pos pins s σ H _ I h) fun us s1 hh => ?_) he hpl
  obtain ⟨vs, H1, I1, r1, v, ev, q1⟩ := hh
  subst ev
  refine ⟨I1.kIn, ?_⟩
  obtain ⟨v', rfl, rv⟩ := vals1 r1
  have hlim := I1.nolimit
  have G := gnd_of I1 hs
  obtain ⟨hp, g, dr, tk, os⟩ := s1
  exact wpAny_call (made_of T G hlim (by show 1 ≤ 10; decide) (by have := hr.dp; omega) (fun A s R x t0 G lim hx nx ro hq => bad_init T G lim hx nx ro htop hq) fun h' tk' e d M => mkP_of T I1 M (rel_bf rv) q1)
theorem pmk_unev {a b : Expr} {ta : TA} {p pos : Pos} {k : Nat} (T : ExcT X.prog X.K C fI "Uneven.__init__" s_Uneven_init ["first", "second"]) (gC : X.mg "Uneven" = some (.ref C)) (hs : X.mg "super" = none) (htop : (X.prog.main.scope.names.lookup ("super" : Str)).isSome = false) (hr : Room k X.A) (ha : PA X [a, b] ta) (hg : Gl X "Uneven" := by rfl)
    (he : starEach (a :: [b]) X.env = (false, eval a X.env) :: starEach [b] X.env := by rfl) (hpl : (backTo pos (starEach [b] X.env)).any (·.1) = false := by rfl) :
    PMk X (.Call (.Name "Uneven" p) [a, b] [] pos) (tMkU C ta) := by
  intro pins s σ H Q I h
  refine wpAny_Call_Name_kw (ld_glob I hg gC ?_)
  refine PySem.W.callWith_K (h₀ := X.base) I.ok.mod.kin T.kC (thn (ha.run pos pins s σ H _ I h) fun us s1 hh => ?_) he hpl
  obtain ⟨vs, H1, I1, r1, v, v2, ev, q1⟩ := hh
  subst ev
  refine ⟨I1.kIn, ?_⟩
  obtain ⟨u1, u2, rfl, rv, rv2⟩ := vals2 r1
  have hlim := I1.nolimit
  have G := gnd_of I1 hs
  obtain ⟨hp, g, dr, tk, os⟩ := s1
  exact wpAny_call (made_of T G hlim (by show 2 ≤ 10; decide) (by have := hr.dp; omega) (fun A s R x t0 G lim hx nx ro hq => unev_init T G lim hx nx ro htop hq) fun h' tk' e d M => mkP_of T I1 M (rel_uf rv rv2) q1)
end
end AW
/-! What is refused: BadPlace, Uneven. -/
namespace AW
open PySem PySem.Spec PyProof.Rows L2

abbrev CB (K : PySem.W.Frag) : Addr := He.ga K "BadPlace"
abbrev CU (K : PySem.W.Frag) : Addr := He.ga K "Uneven"
/-- values that are no places -/
inductive Wrong (H : Hp) : V → Prop where
  | non : Wrong H .non
  | int (i : Int) : Wrong H (.int i)
  | str (x : Str) : Wrong H (.str x)
  | tup {a : Addr} {xs : List V} (e : H a = some (.tup xs)) : Wrong H (.ref a)
  | lst {a : Addr} {xs : List V} (e : H a = some (.lst xs)) : Wrong H (.ref a)
theorem Le.wrong {H H' : Hp} (e : Le H H') {v : V} (h : Wrong H v) : Wrong H' v := by
  cases h with
  | non => exact .non
  | int i => exact .int i
  | str x => exact .str x
  | tup h => exact .tup (e.tup h)
  | lst h => exact .lst (e.lst h)
theorem Wrong.ty {K : PySem.W.Frag} {mg : Str → Option Value} (T : Txt K mg) {H : Hp} {v : V} (h : Wrong H v) : ∃ t, TyX K H v t ∧ PySem.W.kitOne K t (.ref (CP K)) = some false := by
  cases h with
  | non => exact ⟨_, .base .non, T.kN "NoneType" (by decide)⟩
  | int i => exact ⟨_, .base (.int i), T.kN "int" (by decide)⟩
  | str x => exact ⟨_, .base (.str x), T.kN "str" (by decide)⟩
  | tup h => exact ⟨_, .base (.tup h), T.kN "tuple" (by decide)⟩
  | lst h => exact ⟨_, .base (.lst h), T.kN "list" (by decide)⟩
/-- the errors are so answered -/
def BadE (K : PySem.W.Frag) (H : Hp) (v : V) (E : XK) : Prop := ∀ d H', Evl.Ex H H' → H' d = some (.xd (bf v)) → E (.ref (CB K)) (some d) H'
def UnE (K : PySem.W.Frag) (H : Hp) (a b : Int) (E : XK) : Prop := ∀ d H', Evl.Ex H H' → H' d = some (.xd (uf (.int a) (.int b))) → E (.ref (CU K)) (some d) H'
/-- the first that is no place among u's items is v -/
def Bads (K : PySem.W.Frag) (H : Hp) (u v : V) : Prop := ∃ (us : List V) (at_ : Nat), IsSq K H u us ∧ us[at_]? = some v ∧ (∀ (j : Nat) (x : V), j < at_ → us[j]? = some x → ∃ p, IsPl K H x p) ∧ Wrong H v
theorem Le.bads {K : PySem.W.Frag} {H H' : Hp} (e : Le H H') {u v : V} (h : Bads K H u v) : Bads K H' u v := by
  obtain ⟨us, i, h1, h2, h3, h4⟩ := h
  exact ⟨us, i, e.sq h1, h2, fun j x hj hx => let ⟨p, hp⟩ := h3 j x hj hx; ⟨p, e.pl hp⟩, e.wrong h4⟩
/-- what is needed of the errors' classes -/
structure Exn (P : Program) (K : PySem.W.Frag) : Prop where
  bad : ExcT P K (CB K) (He.ma K (CB K) "__init__") "BadPlace.__init__" s_BadPlace_init ["value"]
  unev : ExcT P K (CU K) (He.ma K (CU K) "__init__") "Uneven.__init__" s_Uneven_init ["first", "second"]
  top : (P.main.scope.names.lookup ("super" : Str)).isSome = false
def spNeed2 (K : PySem.W.Frag) : Sp := fun vs H Q E => ∃ v, vs = [v] ∧ ((∃ p, IsPl K H v p ∧ Q .non H) ∨ (Wrong H v ∧ BadE K H v E))
def spNeeds2 (K : PySem.W.Frag) : Sp := fun vs H Q E => ∃ u, vs = [u] ∧ ((∃ ps, IsPp K H u ps ∧ Q .non H) ∨ ∃ v, Bads K H u v ∧ BadE K H v E)
def spKeyX (K : PySem.W.Frag) : Sp := fun vs H _ E => ∃ u v, vs = [u] ∧ Bads K H u v ∧ BadE K H v E
def spAlikeX (K : PySem.W.Frag) : Sp := fun vs H _ E => ∃ u w, vs = [u, w] ∧ ((∃ ps qs : List Pl, IsPp K H u ps ∧ IsPp K H w qs ∧ ps.length ≠ qs.length ∧ UnE K H ps.length qs.length E) ∨ (∃ v, Bads K H u v ∧ BadE K H v E) ∨ ∃ v ps, IsPp K H u ps ∧ Bads K H w v ∧ BadE K H v E)
section
variable {P : Program} {w : World} {K : PySem.W.Frag} {mg : Str → Option Value} {base : Heap}
theorem ok_need2 {fd : FuncData} (F : FnP K "need_place" s_need_place fd) (T : Txt K mg) (X : Exn P K) : Df P w K mg base (L2.CX P w) 2 (He.ga K "need_place") ["value"] (spNeed2 K) := by
  refine ⟨⟨fd, F.ok sc_need (fun vs H Q E h => ?_) (fun cdv A outer s H vs Q E hr h => ?_), F.bindsN fun _ _ _ _ _ _ us hl => match us, hl with | [_], _ => rfl⟩, F.kp⟩
  · obtain ⟨v, rfl, _⟩ := h
    rfl
  · obtain ⟨v, rfl, h⟩ := h
    refine ⟨_, pss_one (ps_if (pt_not (pt_val (pe_callB call_isi rfl (T.fr "isinstance" (by decide +kernel)) boot_isinstance (pa_cons (pv 0) (pa_cons (pe_glob (v := .ref (CP K)) rfl (T.gl "Place" (by decide +kernel)) rfl) pa_nil)))))
      (pss_one (ps_raise rfl (takes_of rfl rfl rfl rfl) (pmk_bad X.bad (T.gl "BadPlace" (by decide +kernel)) (T.fr "super" (by decide +kernel)) X.top hr (pa_cons (pv 0) pa_nil)))) pss_nil), ?_⟩
    rcases h with ⟨p, ⟨a, dx, rfl, ha⟩, hQ⟩ | ⟨hw, hE⟩
    · exact ⟨_, rfl, _, _, _, _, true, rfl, .own _, ty_pl T ha, T.kP, true, rfl, iteF hQ⟩
    · obtain ⟨t, ty, hk⟩ := hw.ty T
      exact ⟨_, rfl, _, _, _, _, false, rfl, .own _, ty, hk, false, rfl, iteT ⟨_, rfl, v, rfl, fun d nd => hE d _ (.new nd) upd_same⟩⟩
theorem ok_needs2 {fd : FuncData} (F : FnP K "need_places" s_need_places fd) (T : Txt K mg) (N : Df P w K mg base (L2.CX P w) 2 (He.ga K "need_place") ["value"] (spNeed2 K)) :
    Df P w K mg base (L2.CX P w) 3 (He.ga K "need_places") ["values"] (spNeeds2 K) := by
  refine ⟨⟨fd, F.ok sc_needs (fun vs H Q E h => ?_) (fun cdv A outer s H vs Q E hr h => ?_), F.bindsN fun _ _ _ _ _ _ us hl => match us, hl with | [_], _ => rfl⟩, F.kp⟩
  · obtain ⟨u, rfl, _⟩ := h
    rfl
  · obtain ⟨u, rfl, h⟩ := h
    refine ⟨_, pss_one (ps_for (passes_of rfl) rfl (pi_sq (pv 0)) (pg_name (i := 1) sc_needs.nd rfl (.inl rfl)) (pss_one (ps_expr (pe_df N hr rfl (T.gl "need_place" (by decide +kernel)) (passes_call (takes_of rfl rfl rfl rfl) (fun _ _ _ _ h => h)) (pa_cons (pv 1) pa_nil))))), ?_⟩
    rcases h with ⟨ps, ⟨us, sq, hp⟩, hQ⟩ | ⟨v, ⟨us, i, sq, hi, hb, hw⟩, hE⟩
    · refine for_sq (us := us) (fun i σ H' => ∃ v, σ = [some u, v] ∧ H' = H) rfl sq ⟨none, rfl, rfl⟩ ?_ ?_ ?_
      · rintro i σ H' _ ⟨v, rfl, rfl⟩
        exact Le.refl _
      · rintro i x σ H' hx ⟨v, rfl, rfl⟩
        obtain ⟨p, _, hpl⟩ := Ps.get hp hx
        exact ⟨_, rfl, x, rfl, .inl ⟨p, hpl, _, rfl, rfl⟩⟩
      · rintro σ H' ⟨v, rfl, rfl⟩
        exact hQ
    · refine for_sq (us := us) (fun j σ H' => j ≤ i ∧ (∃ v, σ = [some u, v]) ∧ H' = H) rfl sq ⟨Nat.zero_le _, ⟨none, rfl⟩, rfl⟩ ?_ ?_ ?_
      · rintro j σ H' _ ⟨_, _, rfl⟩
        exact Le.refl _
      · rintro j x σ H' hx ⟨hj, ⟨v', rfl⟩, rfl⟩
        rcases Nat.lt_or_ge j i with hlt | hge
        · obtain ⟨p, hpl⟩ := hb j x hlt hx
          exact ⟨_, rfl, x, rfl, .inl ⟨p, hpl, hlt, ⟨_, rfl⟩, rfl⟩⟩
        · have e : j = i := by omega
          subst e
          rw [hi] at hx
          cases hx
          exact ⟨_, rfl, v, rfl, .inr ⟨hw, hE⟩⟩
      · rintro σ H' ⟨hj, _, _⟩
        have := (List.getElem?_eq_some_iff.mp hi).1
        omega
theorem sc_key1 : FnScope ["places"] ["places"] (defScope s_list_key) := sc_key
theorem ok_keyX {fd : FuncData} (F : FnP K "list_key" s_list_key fd) (T : Txt K mg) (N : Df P w K mg base (L2.CX P w) 3 (He.ga K "need_places") ["values"] (spNeeds2 K)) : Df P w K mg base (L2.CX P w) 4 (He.ga K "list_key") ["places"] (spKeyX K) := by
  refine ⟨⟨fd, F.ok sc_key (fun vs H Q E h => ?_) (fun cdv A outer s H vs Q E hr h => ?_), F.bindsN fun _ _ _ _ _ _ us hl => match us, hl with | [_], _ => rfl⟩, F.kp⟩
  · obtain ⟨u, v, rfl, _⟩ := h
    rfl
  · obtain ⟨u, v, rfl, hb, hE⟩ := h
    refine ⟨_, pss_cons (ps_expr (pe_df N hr rfl (T.gl "need_places" (by decide +kernel)) (passes_call (takes_of rfl rfl rfl rfl) (fun _ _ _ _ h => h)) (pa_cons (pv 0) pa_nil))) pss_never, ?_⟩
    exact ⟨_, rfl, u, rfl, .inr ⟨v, hb, hE⟩⟩
theorem sc_lkey : FnScope ["places"] ["places"] (defScope s_lot_key) := ⟨rfl, rfl, rfl, by decide +kernel, rfl, by decide +kernel, by decide +kernel⟩
theorem ok_lkeyX {fd : FuncData} (F : FnP K "lot_key" s_lot_key fd) (T : Txt K mg) (N : Df P w K mg base (L2.CX P w) 3 (He.ga K "need_places") ["values"] (spNeeds2 K)) : Df P w K mg base (L2.CX P w) 4 (He.ga K "lot_key") ["places"] (spKeyX K) := by
  refine ⟨⟨fd, F.ok sc_lkey (fun vs H Q E h => ?_) (fun cdv A outer s H vs Q E hr h => ?_), F.bindsN fun _ _ _ _ _ _ us hl => match us, hl with | [_], _ => rfl⟩, F.kp⟩
  · obtain ⟨u, v, rfl, _⟩ := h
    rfl
  · obtain ⟨u, v, rfl, hb, hE⟩ := h
    refine ⟨_, pss_cons (ps_expr (pe_df N hr rfl (T.gl "need_places" (by decide +kernel)) (passes_call (takes_of rfl rfl rfl rfl) (fun _ _ _ _ h => h)) (pa_cons (pv 0) pa_nil))) pss_never, ?_⟩
    exact ⟨_, rfl, u, rfl, .inr ⟨v, hb, hE⟩⟩
theorem ok_alikeX {fd : FuncData} (F : FnP K "alike" s_alike fd) (T : Txt K mg) (X : Exn P K) (N : Df P w K mg base (L2.CX P w) 3 (He.ga K "need_places") ["values"] (spNeeds2 K)) : Df P w K mg base (L2.CX P w) 4 (He.ga K "alike") ["places", "others"] (spAlikeX K) := by
  refine ⟨⟨fd, F.ok sc_alike (fun vs H Q E h => ?_) (fun cdv A outer s H vs Q E hr h => ?_), F.bindsN fun _ _ _ _ _ _ us hl => match us, hl with | [_, _], _ => rfl⟩, F.kp⟩
  · obtain ⟨u, w, rfl, _⟩ := h
    rfl
  · obtain ⟨u, w, rfl, h⟩ := h
    refine ⟨_, pss_cons (ps_expr (pe_df N hr rfl (T.gl "need_places" (by decide +kernel)) (passes_call (takes_of rfl rfl rfl rfl) (fun _ _ _ _ h => h)) (pa_cons (pv 0) pa_nil)))
      (pss_cons (ps_expr (pe_df N hr rfl (T.gl "need_places" (by decide +kernel)) (passes_call (takes_of rfl rfl rfl rfl) (fun _ _ _ _ h => h)) (pa_cons (pv 1) pa_nil)))
      (pss_cons (ps_if (pt_cmp (pc_neI (pe_callB call_len rfl (T.fr "len" (by decide +kernel)) boot_len (pa_cons (pv 0) pa_nil)) (pe_callB call_len rfl (T.fr "len" (by decide +kernel)) boot_len (pa_cons (pv 1) pa_nil))))
        (pss_one (ps_raise rfl (takes_of rfl rfl rfl rfl) (pmk_unev X.unev (T.gl "Uneven" (by decide +kernel)) (T.fr "super" (by decide +kernel)) X.top hr (pa_cons (pe_callB call_len rfl (T.fr "len" (by decide +kernel)) boot_len (pa_cons (pv 0) pa_nil)) (pa_cons (pe_callB call_len rfl (T.fr "len" (by decide +kernel)) boot_len (pa_cons (pv 1) pa_nil)) pa_nil))))) pss_nil) pss_never)), ?_⟩
    rcases h with ⟨ps, qs, h1, h2, hne, hE⟩ | ⟨v, hb, hE⟩ | ⟨v, ps, h1, hb, hE⟩
    · refine ⟨_, rfl, u, rfl, .inl ⟨ps, h1, _, rfl, w, rfl, .inl ⟨qs, h2, ?_⟩⟩⟩
      obtain ⟨us, sq, hp⟩ := h1
      obtain ⟨ws, sq2, hp2⟩ := h2
      have e1 := Ps.length hp
      have e2 := Ps.length hp2
      have l1 := len_sq sq
      have l2 := len_sq sq2
      rw [e1] at l1
      rw [e2] at l2
      refine ⟨_, rfl, _, _, rfl, l1, _, rfl, _, _, rfl, l2, _, _, rfl, rfl, true, ?_, iteT ?_⟩
      · show V.bl (!decide (((ps.length : Nat) : Int) = ((qs.length : Nat) : Int))) = V.bl true
        rw [decide_eq_false (by omega)]
        rfl
      · exact ⟨_, rfl, _, _, rfl, l1, _, rfl, _, _, rfl, l2, _, _, rfl, fun d nd => hE d _ (.new nd) upd_same⟩
    · exact ⟨_, rfl, u, rfl, .inr ⟨v, hb, hE⟩⟩
    · exact ⟨_, rfl, u, rfl, .inl ⟨ps, h1, _, rfl, w, rfl, .inr ⟨v, hb, hE⟩⟩⟩
theorem sc_lots : FnScope ["places", "others"] ["places", "others"] (defScope s_alike_lots) := ⟨rfl, rfl, rfl, by decide +kernel, rfl, by decide +kernel, by decide +kernel⟩
theorem ok_lotsX {fd : FuncData} (F : FnP K "alike_lots" s_alike_lots fd) (T : Txt K mg) (X : Exn P K) (N : Df P w K mg base (L2.CX P w) 3 (He.ga K "need_places") ["values"] (spNeeds2 K)) : Df P w K mg base (L2.CX P w) 4 (He.ga K "alike_lots") ["places", "others"] (spAlikeX K) := by
  refine ⟨⟨fd, F.ok sc_lots (fun vs H Q E h => ?_) (fun cdv A outer s H vs Q E hr h => ?_), F.bindsN fun _ _ _ _ _ _ us hl => match us, hl with | [_, _], _ => rfl⟩, F.kp⟩
  · obtain ⟨u, w, rfl, _⟩ := h
    rfl
  · obtain ⟨u, w, rfl, h⟩ := h
    refine ⟨_, pss_cons (ps_expr (pe_df N hr rfl (T.gl "need_places" (by decide +kernel)) (passes_call (takes_of rfl rfl rfl rfl) (fun _ _ _ _ h => h)) (pa_cons (pv 0) pa_nil)))
      (pss_cons (ps_expr (pe_df N hr rfl (T.gl "need_places" (by decide +kernel)) (passes_call (takes_of rfl rfl rfl rfl) (fun _ _ _ _ h => h)) (pa_cons (pv 1) pa_nil)))
      (pss_cons (ps_if (pt_cmp (pc_neI (pe_callB call_len rfl (T.fr "len" (by decide +kernel)) boot_len (pa_cons (pv 0) pa_nil)) (pe_callB call_len rfl (T.fr "len" (by decide +kernel)) boot_len (pa_cons (pv 1) pa_nil))))
        (pss_one (ps_raise rfl (takes_of rfl rfl rfl rfl) (pmk_unev X.unev (T.gl "Uneven" (by decide +kernel)) (T.fr "super" (by decide +kernel)) X.top hr (pa_cons (pe_callB call_len rfl (T.fr "len" (by decide +kernel)) boot_len (pa_cons (pv 0) pa_nil)) (pa_cons (pe_callB call_len rfl (T.fr "len" (by decide +kernel)) boot_len (pa_cons (pv 1) pa_nil)) pa_nil))))) pss_nil) pss_never)), ?_⟩
    rcases h with ⟨ps, qs, h1, h2, hne, hE⟩ | ⟨v, hb, hE⟩ | ⟨v, ps, h1, hb, hE⟩
    · refine ⟨_, rfl, u, rfl, .inl ⟨ps, h1, _, rfl, w, rfl, .inl ⟨qs, h2, ?_⟩⟩⟩
      obtain ⟨us, sq, hp⟩ := h1
      obtain ⟨ws, sq2, hp2⟩ := h2
      have e1 := Ps.length hp
      have e2 := Ps.length hp2
      have l1 := len_sq sq
      have l2 := len_sq sq2
      rw [e1] at l1
      rw [e2] at l2
      refine ⟨_, rfl, _, _, rfl, l1, _, rfl, _, _, rfl, l2, _, _, rfl, rfl, true, ?_, iteT ?_⟩
      · show V.bl (!decide (((ps.length : Nat) : Int) = ((qs.length : Nat) : Int))) = V.bl true
        rw [decide_eq_false (by omega)]
        rfl
      · exact ⟨_, rfl, _, _, rfl, l1, _, rfl, _, _, rfl, l2, _, _, rfl, fun d nd => hE d _ (.new nd) upd_same⟩
    · exact ⟨_, rfl, u, rfl, .inr ⟨v, hb, hE⟩⟩
    · exact ⟨_, rfl, u, rfl, .inl ⟨ps, h1, _, rfl, w, rfl, .inr ⟨v, hb, hE⟩⟩⟩
end
end AW
/-! The law's pen: a dict that draws. -/
namespace AW
open PySem PySem.Spec PyProof.Rows L2

def pn (l : Addr) (c lf : Int) : List (Key × V) := [(.inr "cells", .ref l), (.inr "count", .int c), (.inr "left", .int lf)]
theorem ne_cc : ¬ (Sum.inr "cells" : Key) = Sum.inr (PySem.Str.ofString "count") := by decide +kernel
theorem ne_cl : ¬ (Sum.inr "cells" : Key) = Sum.inr (PySem.Str.ofString "left") := by decide +kernel
theorem ne_nl : ¬ (Sum.inr "count" : Key) = Sum.inr (PySem.Str.ofString "left") := by decide +kernel
theorem pn_cells (l : Addr) (c lf : Int) : valV (pn l c lf) (.inr "cells") = some (.ref l) := valV_pos rfl
theorem pn_count (l : Addr) (c lf : Int) : valV (pn l c lf) (.inr "count") = some (.int c) := (valV_neg ne_cc).trans (valV_pos rfl)
theorem pn_left (l : Addr) (c lf : Int) : valV (pn l c lf) (.inr "left") = some (.int lf) := (valV_neg ne_cl).trans ((valV_neg ne_nl).trans (valV_pos rfl))
theorem put_count (l : Addr) (c lf d : Int) : putK (pn l c lf) (.inr "count") (.int d) = pn l d lf := by kernel_rfl
theorem put_left (l : Addr) (c lf d : Int) : putK (pn l c lf) (.inr "left") (.int d) = pn l c d := by kernel_rfl
/-- the list of the pen's cells, and the tables of code that are watched -/
abbrev PT : Type := Addr × List (Addr × Str)
theorem tabs_upd {T : List (Addr × Str)} {H : Hp} {a : Addr} {o u : HO} (t : LamX.Tabs T H) (ha : H a = some o) (h1 : ∀ ps, o ≠ .tbl ps) (h2 : ∀ φ, o ≠ .ext φ) : LamX.Tabs T (upd H a u) := fun p hp => by
  obtain ⟨ps, a1, a2, a3⟩ := t p hp
  have n1 : p.1 ≠ a := fun z => by
    rw [z, ha] at a1
    exact h1 ps (Option.some.inj a1)
  refine ⟨ps, by rw [upd_ne n1]; exact a1, a2, fun pos cv hc => ?_⟩
  obtain ⟨c, e1, e2⟩ := a3 pos cv hc
  have n2 : c ≠ a := fun z => by
    rw [z, ha] at e2
    exact h2 _ (Option.some.inj e2)
  exact ⟨c, e1, by rw [upd_ne n2]; exact e2⟩
theorem tabs_put {T : List (Addr × Str)} {H : Hp} {a : Addr} {kvs kvs' : List (Key × V)} (t : LamX.Tabs T H) (ha : H a = some (.dK kvs)) : LamX.Tabs T (upd H a (.dK kvs')) := tabs_upd t ha (fun _ z => by cases z) fun _ z => by cases z
theorem tabs_lst {T : List (Addr × Str)} {H : Hp} {a : Addr} {xs ys : List V} (t : LamX.Tabs T H) (ha : H a = some (.lst xs)) : LamX.Tabs T (upd H a (.lst ys)) := tabs_upd t ha (fun _ z => by cases z) fun _ z => by cases z
theorem tabs_ex {T : List (Addr × Str)} {H H' : Hp} (t : LamX.Tabs T H) (e : Evl.Ex H H') : LamX.Tabs T H' := t.ext e
/-- the pen, with at most b draws behind it -/
def IsPen (l : PT) (H : Hp) (v : V) (b : Nat) : Prop := ∃ (pd : Addr) (ns : List Int) (c lf : Int), v = .ref pd ∧ H pd = some (.dK (pn l.1 c lf)) ∧ H l.1 = some (.lst (ns.map V.int)) ∧ ns.length ≤ 63 ∧ 0 ≤ c ∧ c ≤ b ∧ LamX.Tabs l.2 H
theorem IsPen.mono {l : PT} {H : Hp} {v : V} {b c : Nat} (h : IsPen l H v b) (k : b ≤ c) : IsPen l H v c := by
  obtain ⟨pd, ns, n, lf, h1, h2, h3, h4, h5, h6, h7⟩ := h
  exact ⟨pd, ns, n, lf, h1, h2, h3, h4, h5, by omega, h7⟩
theorem IsPen.ex {l : PT} {H H' : Hp} {v : V} {b : Nat} (h : IsPen l H v b) (e : Evl.Ex H H') : IsPen l H' v b := by
  obtain ⟨pd, ns, n, lf, h1, h2, h3, h4, h5, h6, h7⟩ := h
  exact ⟨pd, ns, n, lf, h1, e _ _ h2, e _ _ h3, h4, h5, h6, tabs_ex h7 e⟩
/-- a write to a dict -/
theorem le_put {H : Hp} {a : Addr} {kvs kvs' : List (Key × V)} (h : H a = some (.dK kvs)) : Le H (upd H a (.dK kvs')) := fun b o e n _ => by
  by_cases hb : b = a
  · subst hb
    rw [h] at e
    exact absurd (Option.some.inj e).symm (n kvs)
  · rw [upd_ne hb]
    exact e
def GivesP (l : PT) (H : Hp) (v : V) (b : Nat) (P : V → Hp → Prop) (Q : VK) : Prop := ∀ w H', Le H H' → IsPen l H' v b → P w H' → Q w H'
def spBegin (K : PySem.W.Frag) : Sp := fun vs H Q _ => ∃ (a : Addr) (ns : List Int) (TT : List (Addr × Str)), vs = [.ref a] ∧ SqL K H a (ns.map V.int) ∧ LamX.Tabs TT H ∧ ∀ v l H', Le H H' → IsPen (l, TT) H' v 0 → Q v H'
def spDraw : Sp := fun vs H Q _ => ∃ (v : V) (l : PT) (b : Nat) (n : Int), vs = [v, .int n] ∧ IsPen l H v b ∧ b ≤ 1000000000 ∧ 0 < n ∧ n ≤ 1000 ∧ GivesP l H v (b + 1) (fun w _ => ∃ d : Int, w = .int d ∧ 0 ≤ d ∧ d < n) Q
section
variable {P : Program} {w : World} {K : PySem.W.Frag} {mg : Str → Option Value} {base : Heap}
theorem sc_begin : FnScope ["_law_script"] ["_law_script"] (defScope s_L_begin) := ⟨rfl, rfl, rfl, by decide +kernel, rfl, by decide +kernel, by decide +kernel⟩
theorem cut63 (xs : List V) : cutV xs none (some 63) = xs.take 63 := by
  unfold cutV
  have e : HT.sIx xs.length xs.length (some 63) = min 63 xs.length := HT.sIx_nat _ _ 63
  rw [e]
  simp [HT.sIx, List.take_eq_take_iff]
theorem ok_begin {fd : FuncData} (F : FnP K "_law_begin" s_L_begin fd) (T : Txt K mg) : Df P w K mg base CX0 1 (He.ga K "_law_begin") ["_law_script"] (spBegin K) := by
  refine ⟨⟨fd, F.ok sc_begin (fun vs H Q E h => ?_) (fun cdv A outer s H vs Q E hr h => ?_), F.bindsN fun _ _ _ _ _ _ us hl => match us, hl with | [_], _ => rfl⟩, F.kp⟩
  · obtain ⟨a, ns, TT, rfl, _⟩ := h
    rfl
  · obtain ⟨a, ns, TT, rfl, sq, tt, k⟩ := h
    refine ⟨_, PSs.nox (pss_one (ps_ret (pe_disp (pps_cons pe_str (pe_callTy call_list_of rfl (T.fr "list" (by decide +kernel)) boot_list (pa_cons (pe_slice sl_list (pv 0) po_none (po_some pe_int)) pa_nil)) (pps_cons pe_str pe_int (pps_cons pe_str pe_int pps_nil))) rfl rfl (by simp) (by decide)))), ?_⟩
    intro p np
    have sq1 : SqL K (upd H p (.dK [])) a (ns.map V.int) := (Ex.le (Ex.new np)).sqL sq
    refine ⟨_, rfl, 63, rfl, a, _, rfl, sq1, fun q nq => ⟨q, _, rfl, .inl (.of upd_same), fun l nl => ?_⟩⟩
    have npq : p ≠ q := fun z => by
      rw [← z, upd_same] at nq
      cases nq
    have npl : p ≠ l := fun z => by
      rw [← z, upd_ne npq, upd_same] at nl
      cases nl
    have nql : q ≠ l := fun z => by
      rw [← z, upd_same] at nl
      cases nl
    refine ⟨by rw [upd_ne npl, upd_ne npq, upd_same], [(.inr "cells", .ref l), (.inr "count", .int 0), (.inr "left", .int 0)], rfl, by show 3 ≤ 15; decide, ?_⟩
    have e0 : Evl.Ex H (upd H p (.dK [])) := .new np
    have hpd : upd (upd (upd H p (.dK [])) q (.lst (cutV (ns.map V.int) none (some 63)))) l (.lst (cutV (ns.map V.int) none (some 63))) p = some (.dK []) := by rw [upd_ne npl, upd_ne npq, upd_same]
    refine k _ l _ ?_ ⟨p, ns.take 63, 0, 0, rfl, ?_, ?_, ?_, by decide, by decide, tabs_put (tabs_ex tt ((e0.trans (.new nq)).trans (.new nl))) hpd⟩
    · refine Le.trans (Ex.le ((e0.trans (.new nq)).trans (.new nl))) (le_put (kvs := []) ?_)
      rw [upd_ne npl, upd_ne npq, upd_same]
    · rw [upd_same]
      kernel_rfl
    · rw [upd_ne (Ne.symm npl), upd_same, cut63, List.map_take]
    · rw [List.length_take]
      omega
theorem sc_draw : FnScope ["_law_pen", "_law_span", "_law_digit", "_law_count", "_law_cell", "_law_first", "_law_blend"] ["_law_pen", "_law_span"] (defScope s_L_draw) := ⟨rfl, rfl, rfl, by decide +kernel, rfl, by decide +kernel, by decide +kernel⟩
theorem ints_eqv_nil (ns : List Int) : PyData.eqv (.list (ns.map PyData.int)) (.list []) = ns.isEmpty := by
  cases ns <;> simp [PyData.eqv, PyData.eqvAll]
theorem ints_lay : ∀ ns : List Int, PyData.canLayAll0 (ns.map PyData.int) = true
  | [] => by simp [PyData.canLayAll0]
  | n :: ns => by rw [List.map_cons, PyData.canLayAll0, ints_lay ns]; simp [PyData.canLay0]
theorem ints_depth : ∀ ns : List Int, PyData.depthAll (ns.map PyData.int) ≤ 2
  | [] => by simp [PyData.depthAll]
  | n :: ns => by
    rw [List.map_cons, PyData.depthAll]
    have := ints_depth ns
    have : (PyData.int n).depth ≤ 2 := by simp [PyData.depth]
    omega
theorem ints_shaped (ns : List Int) : SeqAt.shaped (.list (ns.map PyData.int)) = true := by
  have h := ints_depth ns
  refine Bool.and_eq_true_iff.mpr ⟨?_, decide_eq_true ?_⟩
  · rw [PyData.canLay0]; exact ints_lay ns
  · rw [PyData.depth]; omega
theorem dp_ints {H : Hp} : ∀ ns : List Int, DpAll K H (ns.map V.int) (ns.map PyData.int)
  | [] => .nil
  | n :: ns => .cons (.int n) (dp_ints ns)
theorem bi_lt {n : Nat} {x : Int} (h0 : 0 ≤ x) (h : x < (2 ^ n : Nat)) : Bi n x := by
  unfold Bi
  omega
theorem dg_left {H : Hp} {pd l : Addr} {c lf : Int} (h : H pd = some (.dK (pn l c lf))) : DGet H pd (.str "left") (some (.int lf)) := by
  rw [← pn_left l c lf]
  exact DGet.k (k := .inr "left") h
theorem dg_count {H : Hp} {pd l : Addr} {c lf : Int} (h : H pd = some (.dK (pn l c lf))) : DGet H pd (.str "count") (some (.int c)) := by
  rw [← pn_count l c lf]
  exact DGet.k (k := .inr "count") h
theorem dg_cells {H : Hp} {pd l : Addr} {c lf : Int} (h : H pd = some (.dK (pn l c lf))) : DGet H pd (.str "cells") (some (.ref l)) := by
  rw [← pn_cells l c lf]
  exact DGet.k (k := .inr "cells") h
theorem dp_left {H : Hp} {pd l : Addr} {c lf : Int} (h : H pd = some (.dK (pn l c lf))) (d : Int) : DPut H pd (.str "left") (.int d) (upd H pd (.dK (pn l c d))) := by
  rw [← put_left l c lf d]
  exact DPut.k (k := .inr "left") h (by show 3 < sizeLine; decide)
theorem dp_count {H : Hp} {pd l : Addr} {c lf : Int} (h : H pd = some (.dK (pn l c lf))) (d : Int) : DPut H pd (.str "count") (.int d) (upd H pd (.dK (pn l d lf))) := by
  rw [← put_count l c lf d]
  exact DPut.k (k := .inr "count") h (by show 3 < sizeLine; decide)
def rInt1 : List V → Hp → VK → Prop := fun xs H Q => (∃ i, xs = [.int i] ∧ Q (.int i) H) ∨ ∃ k, xs = [.bl k] ∧ Q (.int (if k then 1 else 0)) H
abbrev tG (f : Str) : TE := tDGet (tVar 0) (tC (.str f))
abbrev tI (te : TE) : TE := tCB rInt1 (tCons te tNil)
abbrev tLn (K : PySem.W.Frag) : TE := tCB (rLen K) (tCons (tG "cells") tNil)
abbrev rPl : R2 := rI0 fun i j => .int (i + j)
abbrev rMi : R2 := rI0 fun i j => .int (i - j)
abbrev rTi : R2 := rI CMulB fun i j => .int (i * j)
abbrev rMo : R2 := rI (fun _ j => 0 < j) fun i j => .int (i % j)
abbrev rDi : R2 := rI CDiv fun i j => .int (i / j)
abbrev tTen : TE := tOp (rI CPow fun i j => .int (i ^ j.toNat)) (tC (.int 10)) (tC (.int 18))
/-- from the taken cell on -/
def tTail (K : PySem.W.Frag) : TS := tSeq (tIfS (tAnd (tB (tLt (tVar 3) (tLn K))) (tB (tGe (tVar 4) tTen))) (tSeq (sDPut (tVar 0) (tC (.str "left")) (tOp rDi (tOp rMi (tVar 4) tTen) (tVar 1))) (tRet (tOp rMo (tI (tOp rMi (tVar 4) tTen)) (tVar 1)))) tNext)
  (tSeq (tAsg (tOp rPl (tOp rTi (tOp rMo (tI (tVar 4)) (tC (.int 2147482811))) (tC (.int 60013))) (tOp rTi (tOp rTi (tC (.int 35023)) (tVar 3)) (tVar 3))) (gName 5))
  (tSeq (tAsg (tOp rMo (tI (tOp rPl (tOp rPl (tVar 5) (tOp rTi (tC (.int 151)) (tVar 3))) (tC (.int 23)))) (tC (.int 2147482873))) (gName 6))
  (tSeq (tAsg (tOp rMo (tI (tOp rTi (tVar 6) (tOp rPl (tVar 6) (tC (.int 90007))))) (tC (.int 2147482951))) (gName 6))
  (tRet (tOp rMo (tI (tOp rDi (tOp rMo (tI (tOp rPl (tOp rTi (tVar 6) (tVar 6)) (tOp rTi (tC (.int 41)) (tVar 6)))) (tC (.int 2147483033))) (tC (.int 64)))) (tVar 1))))))
theorem mod_bd {n : Nat} {x m : Int} (hm : 0 < m) (h : m ≤ (2 ^ n : Nat)) : Bi n (x % m) := by
  have h1 := Int.emod_nonneg x (show m ≠ 0 by omega)
  have h2 := Int.emod_lt_of_pos x hm
  exact bi_lt h1 (by omega)
theorem tail_run {K : PySem.W.Frag} {H : Hp} {Q : VK} {pd : Addr} {l : PT} {ns : List Int} {c lf n z : Int} {b : Nat} {d2 : Option V} (hp : H pd = some (.dK (pn l.1 (c + 1) lf))) (hl : H l.1 = some (.lst (ns.map V.int))) (tt : LamX.Tabs l.2 H) (hz : ns.length ≤ 63) (hc0 : 0 ≤ c) (hcb : c ≤ b) (hb : b ≤ 1000000000) (hn0 : 0 < n) (hn1 : n ≤ 1000)
    (k : ∀ (d : Int) H', Le H H' → IsPen l H' (.ref pd) (b + 1) → 0 ≤ d → d < n → Q (.int d) H') (D : Ends) (hD : D.rt = Q) : tTail K D [some (.ref pd), some (.int n), d2, some (.int c), some (.int z), none, none] H := by
  obtain ⟨nx, rt, bk, ct⟩ := D
  cases (show rt = Q from hD)
  have bc : Bi 30 c := bi_lt hc0 (by omega)
  have ml : LenV K (.ref l.1) H (ns.map V.int).length := .inl ⟨_, .of hl, rfl⟩
  have pen : IsPen l H (.ref pd) (b + 1) := ⟨pd, ns, _, _, rfl, hp, hl, hz, by omega, by omega, tt⟩
  -- the last lines
  have fin : (tSeq (tAsg (tOp rPl (tOp rTi (tOp rMo (tI (tVar 4)) (tC (.int 2147482811))) (tC (.int 60013))) (tOp rTi (tOp rTi (tC (.int 35023)) (tVar 3)) (tVar 3))) (gName 5))
      (tSeq (tAsg (tOp rMo (tI (tOp rPl (tOp rPl (tVar 5) (tOp rTi (tC (.int 151)) (tVar 3))) (tC (.int 23)))) (tC (.int 2147482873))) (gName 6))
      (tSeq (tAsg (tOp rMo (tI (tOp rTi (tVar 6) (tOp rPl (tVar 6) (tC (.int 90007))))) (tC (.int 2147482951))) (gName 6))
      (tRet (tOp rMo (tI (tOp rDi (tOp rMo (tI (tOp rPl (tOp rTi (tVar 6) (tVar 6)) (tOp rTi (tC (.int 41)) (tVar 6)))) (tC (.int 2147483033))) (tC (.int 64)))) (tVar 1)))))) ⟨nx, Q, bk, ct⟩ [some (.ref pd), some (.int n), d2, some (.int c), some (.int z), none, none] H := by
    have m1 : Bi 31 (z % 2147482811) := mod_bd (by decide) (by decide)
    have b2 : ∀ m : Int, 0 ≤ m → m < 100000 → Bi 17 m := fun m h0 h => bi_lt h0 (by have e : (2 ^ 17 : Nat) = 131072 := rfl; omega)
    refine ⟨_, rfl, .inl ⟨z, rfl, z, _, rfl, rfl, (by decide : (0 : Int) < 2147482811), _, _, rfl, rfl, mulB m1 (b2 60013 (by decide) (by decide)) (by decide) (by decide), ?_⟩⟩
    refine ⟨_, rfl, _, c, rfl, rfl, mulB (b2 35023 (by decide) (by decide)) bc (by decide) (by decide), _, rfl, _, c, rfl, rfl, mulB ((b2 35023 (by decide) (by decide)).mul bc) bc (by decide) (by decide), _, _, rfl, rfl, ?_⟩
    refine ⟨_, rfl, _, rfl, _, c, rfl, rfl, mulB (b2 151 (by decide) (by decide)) bc (by decide) (by decide), _, _, rfl, rfl, _, _, rfl, rfl, .inl ⟨_, rfl, _, _, rfl, rfl, (by decide : (0 : Int) < 2147482873), ?_⟩⟩
    have m2 : ∀ x : Int, Bi 31 (x % 2147482873) := fun x => mod_bd (by decide) (by decide)
    refine ⟨_, rfl, _, rfl, _, _, rfl, rfl, _, _, rfl, rfl, mulB (m2 _) (((m2 _).mono (by decide : 31 ≤ 32)).add ((b2 90007 (by decide) (by decide)).mono (by decide))) (by decide) (by decide), .inl ⟨_, rfl, _, _, rfl, rfl, (by decide : (0 : Int) < 2147482951), ?_⟩⟩
    have m3 : ∀ x : Int, Bi 31 (x % 2147482951) := fun x => mod_bd (by decide) (by decide)
    refine ⟨_, rfl, _, rfl, _, _, rfl, rfl, mulB (m3 _) (m3 _) (by decide) (by decide), _, rfl, _, _, rfl, rfl, mulB (b2 41 (by decide) (by decide)) (m3 _) (by decide) (by decide), _, _, rfl, rfl, .inl ⟨_, rfl, _, _, rfl, rfl, (by decide : (0 : Int) < 2147483033), _, _, rfl, rfl, ⟨by decide, by decide⟩, .inl ⟨_, rfl, _, rfl, _, n, rfl, rfl, hn0, ?_⟩⟩⟩
    exact k _ H (Le.refl _) pen (Int.emod_nonneg _ (by omega)) (Int.emod_lt_of_pos _ hn0)
  refine ⟨_, rfl, _, rfl, pd, _, rfl, dg_cells hp, _, _, rfl, ml, c, _, rfl, rfl, ?_⟩
  by_cases h1 : c < ((ns.map V.int).length : Nat)
  · refine ⟨true, congrArg V.bl (decide_eq_true h1), iteT ?_⟩
    refine ⟨_, rfl, 10, 18, rfl, rfl, ⟨by decide, by decide, by decide⟩, z, _, rfl, rfl, ?_⟩
    by_cases h2 : (10 : Int) ^ (Int.toNat 18) ≤ z
    · refine ⟨true, congrArg V.bl (decide_eq_true h2), iteT ?_⟩
      refine ⟨_, rfl, 10, 18, rfl, rfl, ⟨by decide, by decide, by decide⟩, z, _, rfl, rfl, _, rfl, _, n, rfl, rfl, ⟨hn0, by omega⟩, _, rfl, pd, _, rfl, dp_left hp _, ?_⟩
      refine ⟨_, rfl, 10, 18, rfl, rfl, ⟨by decide, by decide, by decide⟩, z, _, rfl, rfl, .inl ⟨_, rfl, _, rfl, _, n, rfl, rfl, hn0, ?_⟩⟩
      have npl : l.1 ≠ pd := fun e => by
        rw [e, hp] at hl
        cases hl
      exact k _ _ (le_put hp) ⟨pd, ns, _, _, rfl, upd_same, by rw [upd_ne npl]; exact hl, hz, by omega, by omega, tabs_put tt hp⟩ (Int.emod_nonneg _ (by omega)) (Int.emod_lt_of_pos _ hn0)
    · refine ⟨false, congrArg V.bl (decide_eq_false h2), iteF ?_⟩
      exact fin
  · refine ⟨false, congrArg V.bl (decide_eq_false h1), iteF ?_⟩
    exact iteF fin
theorem ok_draw {fd : FuncData} (F : FnP K "_law_draw" s_L_draw fd) (T : Txt K mg) : Df P w K mg base CX0 1 (He.ga K "_law_draw") ["_law_pen", "_law_span"] spDraw := by
  refine ⟨⟨fd, F.ok sc_draw (fun vs H Q E h => ?_) (fun cdv A outer s H vs Q E hr h => ?_), F.bindsN fun _ _ _ _ _ _ us hl => match us, hl with | [_, _], _ => rfl⟩, F.kp⟩
  · obtain ⟨v, l, b, n, rfl, _⟩ := h
    rfl
  · obtain ⟨v, l, b, n, rfl, ⟨pd, ns, c, lf, rfl, hp, hl, hz, hc0, hcb, tt⟩, hb, hn0, hn1, k⟩ := h
    have hu := hu_of hr
    refine ⟨_, PSs.nox (pss_cons (ps_if (pt_cmp (pc_ge (pe_dget hu (pv 0) pe_str (fun _ _ => rfl)) (pv 1)))
        (pss_cons (ps_set (i := 2) sc_draw.nd rfl (.inl rfl) (pe_op op_mod (pe_callTy call_int1 rfl (T.fr "int" (by decide +kernel)) boot_int (pa_cons (pe_dget hu (pv 0) pe_str (fun _ _ => rfl)) pa_nil)) (pv 1)))
        (pss_cons (ps_dput hu (pv 0) pe_str (pe_op op_fdiv (pe_dget hu (pv 0) pe_str (fun _ _ => rfl)) (pv 1)) rfl) (pss_one (ps_ret (pv 2))))) pss_nil)
      (pss_cons (ps_set (i := 3) sc_draw.nd rfl (.inl rfl) (pe_dget hu (pv 0) pe_str (fun _ _ => rfl)))
      (pss_cons (ps_dput hu (pv 0) pe_str (pe_op op_add (pv 3) pe_int) rfl)
      (pss_cons (ps_set (i := 4) sc_draw.nd rfl (.inl rfl) (pe_op op_add (pe_op op_mulB pe_int (pv 3)) pe_int))
      (pss_cons (ps_if (pt_cmpR (op_neD hr.units) (pe_dget hu (pv 0) pe_str (fun _ _ => rfl)) (pe_lst pa_nil) (nomark _))
        (pss_one (ps_set (i := 4) sc_draw.nd rfl (.inl rfl) (pe_ix ix_list (pe_dget hu (pv 0) pe_str (fun _ _ => rfl)) (pe_op op_mod (pe_callTy call_int1 rfl (T.fr "int" (by decide +kernel)) boot_int (pa_cons (pv 3) pa_nil)) (pe_callB call_len rfl (T.fr "len" (by decide +kernel)) boot_len (pa_cons (pe_dget hu (pv 0) pe_str (fun _ _ => rfl)) pa_nil))) (fun _ _ => rfl)))) pss_nil)
      (pss_cons (ps_if (PW.pt (pw_and (pt_cmp (pc_lt (pv 3) (pe_callB call_len rfl (T.fr "len" (by decide +kernel)) boot_len (pa_cons (pe_dget hu (pv 0) pe_str (fun _ _ => rfl)) pa_nil)))) (pw_and1 (pt_cmp (pc_ge (pv 4) (pe_op op_pow pe_int pe_int))))))
        (pss_cons (ps_dput hu (pv 0) pe_str (pe_op op_fdiv (pe_op op_sub (pv 4) (pe_op op_pow pe_int pe_int)) (pv 1)) rfl)
        (pss_one (ps_ret (pe_op op_mod (pe_callTy call_int1 rfl (T.fr "int" (by decide +kernel)) boot_int (pa_cons (pe_op op_sub (pv 4) (pe_op op_pow pe_int pe_int)) pa_nil)) (pv 1))))) pss_nil)
      (pss_cons (ps_set (i := 5) sc_draw.nd rfl (.inl rfl) (pe_op op_add (pe_op op_mulB (pe_op op_mod (pe_callTy call_int1 rfl (T.fr "int" (by decide +kernel)) boot_int (pa_cons (pv 4) pa_nil)) pe_int) pe_int) (pe_op op_mulB (pe_op op_mulB pe_int (pv 3)) (pv 3))))
      (pss_cons (ps_set (i := 6) sc_draw.nd rfl (.inl rfl) (pe_op op_mod (pe_callTy call_int1 rfl (T.fr "int" (by decide +kernel)) boot_int (pa_cons (pe_op op_add (pe_op op_add (pv 5) (pe_op op_mulB pe_int (pv 3))) pe_int) pa_nil)) pe_int))
      (pss_cons (ps_set (i := 6) sc_draw.nd rfl (.inl rfl) (pe_op op_mod (pe_callTy call_int1 rfl (T.fr "int" (by decide +kernel)) boot_int (pa_cons (pe_op op_mulB (pv 6) (pe_op op_add (pv 6) pe_int)) pa_nil)) pe_int))
      (pss_one (ps_ret (pe_op op_mod (pe_callTy call_int1 rfl (T.fr "int" (by decide +kernel)) boot_int (pa_cons (pe_op op_fdiv (pe_op op_mod (pe_callTy call_int1 rfl (T.fr "int" (by decide +kernel)) boot_int (pa_cons (pe_op op_add (pe_op op_mulB (pv 6) (pv 6)) (pe_op op_mulB pe_int (pv 6))) pa_nil)) pe_int) pe_int) pa_nil)) (pv 1))))))))))))), ?_⟩
    have npl : l.1 ≠ pd := fun e => by
      rw [e, hp] at hl
      cases hl
    refine ⟨_, rfl, pd, _, rfl, dg_left hp, _, rfl, lf, n, rfl, rfl, ?_⟩
    by_cases h1 : n ≤ lf
    · refine ⟨true, congrArg V.bl (decide_eq_true h1), iteT ?_⟩
      refine ⟨_, rfl, pd, _, rfl, dg_left hp, .inl ⟨lf, rfl, _, rfl, lf, n, rfl, rfl, hn0, ?_⟩⟩
      refine ⟨_, rfl, pd, _, rfl, dg_left hp, _, rfl, lf, n, rfl, rfl, ⟨hn0, by omega⟩, _, rfl, pd, _, rfl, dp_left hp _, ?_⟩
      exact ⟨_, rfl, k _ _ (le_put hp) ⟨pd, ns, _, _, rfl, upd_same, by rw [upd_ne npl]; exact hl, hz, by omega, by omega, tabs_put tt hp⟩ ⟨_, rfl, Int.emod_nonneg _ (by omega), Int.emod_lt_of_pos _ hn0⟩⟩
    · refine ⟨false, congrArg V.bl (decide_eq_false h1), iteF ?_⟩
      refine ⟨_, rfl, pd, _, rfl, dg_count hp, ?_⟩
      refine ⟨_, rfl, c, 1, rfl, rfl, _, rfl, pd, _, rfl, dp_count hp _, ?_⟩
      have e1 : Le H (upd H pd (.dK (pn l.1 (c + 1) lf))) := le_put hp
      have hp1 : upd H pd (.dK (pn l.1 (c + 1) lf)) pd = some (.dK (pn l.1 (c + 1) lf)) := upd_same
      have hl1 : upd H pd (.dK (pn l.1 (c + 1) lf)) l.1 = some (.lst (ns.map V.int)) := by rw [upd_ne npl]; exact hl
      have tt1 : LamX.Tabs l.2 (upd H pd (.dK (pn l.1 (c + 1) lf))) := tabs_put tt hp
      generalize upd H pd (.dK (pn l.1 (c + 1) lf)) = H1 at *
      have bc : Bi 30 c := bi_lt hc0 (by omega)
      refine ⟨_, rfl, 83, c, rfl, rfl, mulB (n := 7) (m := 30) (bi_lt (by decide) (by decide)) bc (by decide) (by decide), _, _, rfl, rfl, ?_⟩
      refine ⟨_, rfl, pd, _, rfl, dg_cells hp1, by show 0 ≤ sizeLine; decide, fun e ne => ?_⟩
      have e2 : Evl.Ex H1 (upd H1 e (.lst [])) := .new ne
      refine ⟨.list (ns.map PyData.int), .list [], .lst (.of (e2 _ _ hl1)) (dp_ints ns), .lst (.of upd_same) .nil, ints_shaped ns, ints_shaped [], _, rfl, ?_⟩
      rw [ints_eqv_nil]
      have run := fun (z : Int) => tail_run (K := K) (z := z) (d2 := none) (b := b) (e2 _ _ hp1) (e2 _ _ hl1) (tabs_ex tt1 e2) hz hc0 hcb hb hn0 hn1 (Q := Q) (fun d H' le pen h0 h1 => k _ H' ((e1.trans e2.le).trans le) pen ⟨d, rfl, h0, h1⟩)
      cases hns : ns with
      | nil => exact iteF (run _ _ rfl)
      | cons n0 ns0 =>
        refine iteT ?_
        have hlen : 0 < ns.length := by rw [hns]; exact Nat.zero_lt_succ _
        have hj : (c % ((ns.map V.int).length : Nat)).toNat < ns.length := by
          rw [List.length_map]
          have := Int.emod_lt_of_pos c (show (0 : Int) < (ns.length : Nat) by omega)
          have := Int.emod_nonneg c (show ((ns.length : Nat) : Int) ≠ 0 by omega)
          omega
        have ha : atI (ns.map V.int) (c % ((ns.map V.int).length : Nat)) = some (.int (ns[(c % ((ns.map V.int).length : Nat)).toNat])) := by
          have e := atI_nat (xs := ns.map V.int) (j := (c % ((ns.map V.int).length : Nat)).toNat) (v := .int (ns[(c % ((ns.map V.int).length : Nat)).toNat])) (by simp)
          rw [Int.toNat_of_nonneg (Int.emod_nonneg _ (by rw [List.length_map]; omega))] at e
          exact e
        refine ⟨_, rfl, pd, _, rfl, dg_cells (e2 _ _ hp1), _, rfl, .inl ⟨c, rfl, _, rfl, pd, _, rfl, dg_cells (e2 _ _ hp1), _, _, rfl, .inl ⟨_, .of (e2 _ _ hl1), rfl⟩, c, _, rfl, rfl, by rw [List.length_map]; omega, ?_⟩⟩
        exact ⟨l.1, _, _, _, rfl, rfl, .of (e2 _ _ hl1), ha, run _ _ rfl⟩
end
end AW
/-! The law's small defs. -/
namespace AW
open PySem PySem.Spec PyProof.Rows L2

theorem Le.mut {H H1 H' : Hp} {D : Addr} {o : HO} (a : Le H H1) (n : H1 D = none) (e : Le H H') : Le H (upd H' D o) := fun b u h n1 n2 => by
  by_cases hb : b = D
  · subst hb
    have := a b u h n1 n2
    rw [n] at this
    cases this
  · rw [upd_ne hb]
    exact e b u h n1 n2
/-- a row: a tuple of three -/
def IsRow (K : PySem.W.Frag) (H : Hp) (v : V) (p : Pl) : Prop := IsT3 K H v p.x p.y p.a
theorem Le.row {K : PySem.W.Frag} {H H' : Hp} (e : Le H H') {v : V} {p : Pl} (h : IsRow K H v p) : IsRow K H' v p := e.t3 h
theorem row_new {K : PySem.W.Frag} {H : Hp} {t : Addr} {x y a : Int} : IsRow K (upd H t (.tup [.int x, .int y, .int a])) (.ref t) ⟨x, y, a⟩ := ⟨t, rfl, .of upd_same⟩
def IsSix (K : PySem.W.Frag) (H : Hp) (v : V) (r : Rn) : Prop := ∃ t e n, v = .ref t ∧ SqT K H t [e, n] ∧ IsRow K H e r.e ∧ IsRow K H n r.n
theorem Le.six {K : PySem.W.Frag} {H H' : Hp} (e : Le H H') {v : V} {r : Rn} (h : IsSix K H v r) : IsSix K H' v r := by
  obtain ⟨t, a, b, rfl, h1, h2, h3⟩ := h
  exact ⟨t, a, b, rfl, e.sqT h1, e.row h2, e.row h3⟩
theorem row_dp {K : PySem.W.Frag} {H : Hp} {v : V} {p : Pl} (h : IsRow K H v p) : Dp K H v (rowD p) := by
  obtain ⟨t, rfl, h⟩ := h
  exact dp_row h
def spPick (K : PySem.W.Frag) : Sp := fun vs H Q _ => ∃ (v : V) (l : PT) (a : Addr) (us : List V) (b : Nat), vs = [v, .ref a] ∧ IsPen l H v b ∧ b ≤ 1000000000 ∧ SqL K H a us ∧ 0 < us.length ∧ us.length ≤ 1000 ∧ GivesP l H v (b + 1) (fun w _ => w ∈ us) Q
def spSmall : Sp := fun vs H Q _ => ∃ (v : V) (l : PT) (b : Nat), vs = [v] ∧ IsPen l H v b ∧ b ≤ 1000000000 ∧ GivesP l H v (b + 1) (fun w _ => ∃ d : Int, w = .int d ∧ -4 ≤ d ∧ d ≤ 4) Q
def spMid : Sp := fun vs H Q _ => ∃ (v : V) (l : PT) (b : Nat), vs = [v] ∧ IsPen l H v b ∧ b ≤ 999999999 ∧ GivesP l H v (b + 2) (fun w _ => ∃ d : Int, w = .int d ∧ Bi 50 d) Q
def spJoin (K : PySem.W.Frag) : Sp := fun vs H Q _ => ∃ (u v : V) (p q : Pl), vs = [u, v] ∧ IsRow K H u p ∧ IsRow K H v q ∧ Bp 9000000 p ∧ Bp 9000000 q ∧ Gives H (fun w H' => IsRow K H' w (p.mul q)) Q
def spTimes (K : PySem.W.Frag) : Sp := fun vs H Q _ => ∃ (u : V) (p : Pl) (k : Int), vs = [u, .int k] ∧ IsRow K H u p ∧ Bp 3000000 p ∧ Bi 3000000 k ∧ Gives H (fun w H' => IsRow K H' w (p.pw k)) Q
def spPlc (K : PySem.W.Frag) : Sp := fun vs H Q _ => ∃ (u : V) (p : Pl), vs = [u] ∧ IsRow K H u p ∧ Gives H (fun w H' => IsPl K H' w p) Q
def spWhole : Sp := fun vs H Q _ => ∃ i : Int, vs = [.int i] ∧ Q (.bl true) H
def spRow (K : PySem.W.Frag) : Sp := fun vs H Q _ => ∃ (u : V) (p : Pl), vs = [u] ∧ IsPl K H u p ∧ Gives H (fun w H' => IsRow K H' w p) Q
def spTwR (K : PySem.W.Frag) : Sp := fun vs H Q _ => ∃ (u v : V) (p q : Pl), vs = [u, v] ∧ IsRow K H u p ∧ IsRow K H v q ∧ Bp 9000000 p ∧ Bp 9000000 q ∧ Q (.int (tw p q)) H
def spRen (K : PySem.W.Frag) : Sp := fun vs H Q _ => ∃ (u v : V) (r : Rn) (p : Pl) (b c : Nat), vs = [u, v] ∧ IsSix K H u r ∧ IsRow K H v p ∧ Br c r ∧ Bp b p ∧ b + c ≤ 3000000 ∧ Gives H (fun w H' => IsRow K H' w (r.ap p)) Q
def spSix (K : PySem.W.Frag) : Sp := fun vs H Q _ => ∃ (u : V) (r : Rn), vs = [u] ∧ IsRn K H u r ∧ Gives H (fun w H' => IsSix K H' w r) Q
section
variable {P : Program} {w : World} {K : PySem.W.Frag} {mg : Str → Option Value} {base : Heap}
theorem sc_pick : FnScope ["_law_pen", "_law_some"] ["_law_pen", "_law_some"] (defScope s_L_pick) := ⟨rfl, rfl, rfl, by decide +kernel, rfl, by decide +kernel, by decide +kernel⟩
theorem ok_pick {fd : FuncData} (F : FnP K "_law_pick" s_L_pick fd) (T : Txt K mg) (D : Df P w K mg base CX0 1 (He.ga K "_law_draw") ["_law_pen", "_law_span"] spDraw) : Df P w K mg base CX0 2 (He.ga K "_law_pick") ["_law_pen", "_law_some"] (spPick K) := by
  refine ⟨⟨fd, F.ok sc_pick (fun vs H Q E h => ?_) (fun cdv A outer s H vs Q E hr h => ?_), F.bindsN fun _ _ _ _ _ _ us hl => match us, hl with | [_, _], _ => rfl⟩, F.kp⟩
  · obtain ⟨v, l, a, us, b, rfl, _⟩ := h
    rfl
  · obtain ⟨v, l, a, us, b, rfl, pen, hb, sq, h0, h1, k⟩ := h
    refine ⟨_, PSs.nox (pss_one (ps_ret (pe_ix ix_list (pv 1) (pe_df D hr rfl (T.gl "_law_draw" (by decide +kernel)) pass0 (pa_cons (pv 0) (pa_cons (pe_callB call_len rfl (T.fr "len" (by decide +kernel)) boot_len (pa_cons (pv 1) pa_nil)) pa_nil))) (fun _ _ => rfl)))), ?_⟩
    refine ⟨_, rfl, _, rfl, _, rfl, _, _, rfl, .inl ⟨us, sq, rfl⟩, v, l, b, us.length, rfl, pen, hb, by omega, by omega, fun w1 H1 e1 p1 ⟨d, ew, d0, d1⟩ => ?_⟩
    subst ew
    have hj : d.toNat < us.length := by omega
    have ha : atI us d = some us[d.toNat] := by
      have e := atI_nat (xs := us) (j := d.toNat) (v := us[d.toNat]) (by simp)
      rw [Int.toNat_of_nonneg d0] at e
      exact e
    exact ⟨a, us, d, _, rfl, rfl, e1.sqL sq, ha, k _ _ e1 p1 (List.getElem_mem hj)⟩
theorem sc_small : FnScope ["_law_pen"] ["_law_pen"] (defScope s_L_small) := ⟨rfl, rfl, rfl, by decide +kernel, rfl, by decide +kernel, by decide +kernel⟩
theorem ok_small {fd : FuncData} (F : FnP K "_law_small" s_L_small fd) (T : Txt K mg) (D : Df P w K mg base CX0 1 (He.ga K "_law_draw") ["_law_pen", "_law_span"] spDraw) : Df P w K mg base CX0 2 (He.ga K "_law_small") ["_law_pen"] spSmall := by
  refine ⟨⟨fd, F.ok sc_small (fun vs H Q E h => ?_) (fun cdv A outer s H vs Q E hr h => ?_), F.bindsN fun _ _ _ _ _ _ us hl => match us, hl with | [_], _ => rfl⟩, F.kp⟩
  · obtain ⟨v, l, b, rfl, _⟩ := h
    rfl
  · obtain ⟨v, l, b, rfl, pen, hb, k⟩ := h
    refine ⟨_, PSs.nox (pss_one (ps_ret (pe_op op_sub (pe_df D hr rfl (T.gl "_law_draw" (by decide +kernel)) pass0 (pa_cons (pv 0) (pa_cons pe_int pa_nil))) pe_int))), ?_⟩
    refine ⟨_, rfl, v, l, b, 9, rfl, pen, hb, by decide, by decide, fun w1 H1 e1 p1 ⟨d, ew, d0, d1⟩ => ?_⟩
    subst ew
    exact ⟨d, 4, rfl, rfl, k _ _ e1 p1 ⟨_, rfl, by omega, by omega⟩⟩
theorem sc_mid : FnScope ["_law_pen", "_law_small_here"] ["_law_pen"] (defScope s_L_mid) := ⟨rfl, rfl, rfl, by decide +kernel, rfl, by decide +kernel, by decide +kernel⟩
theorem ok_mid {fd : FuncData} (F : FnP K "_law_mid" s_L_mid fd) (T : Txt K mg) (D : Df P w K mg base CX0 1 (He.ga K "_law_draw") ["_law_pen", "_law_span"] spDraw) (DP : Df P w K mg base CX0 2 (He.ga K "_law_pick") ["_law_pen", "_law_some"] (spPick K)) : Df P w K mg base CX0 3 (He.ga K "_law_mid") ["_law_pen"] spMid := by
  refine ⟨⟨fd, F.ok sc_mid (fun vs H Q E h => ?_) (fun cdv A outer s H vs Q E hr h => ?_), F.bindsN fun _ _ _ _ _ _ us hl => match us, hl with | [_], _ => rfl⟩, F.kp⟩
  · obtain ⟨v, l, b, rfl, _⟩ := h
    rfl
  · obtain ⟨v, l, b, rfl, pen, hb, k⟩ := h
    refine ⟨_, PSs.nox (pss_cons (ps_set (i := 1) sc_mid.nd rfl (.inl rfl) (pe_op op_sub (pe_df D (hr.mono (by decide)) rfl (T.gl "_law_draw" (by decide +kernel)) pass0 (pa_cons (pv 0) (pa_cons pe_int pa_nil))) pe_int))
      (pss_one (ps_ret (pe_op op_add (pv 1) (pe_df DP hr rfl (T.gl "_law_pick" (by decide +kernel)) pass0 (pa_cons (pv 0) (pa_cons (pe_lst (pa_cons pe_int (pa_cons pe_int (pa_cons pe_int (pa_cons (pe_op op_pow pe_int pe_int) (pa_cons (pe_un un_neg (pe_op op_pow pe_int pe_int)) pa_nil)))))) pa_nil))))))), ?_⟩
    refine ⟨_, rfl, v, l, b, 13, rfl, pen, by omega, by decide, by decide, fun w1 H1 e1 p1 ⟨d, ew, d0, d1⟩ => ?_⟩
    subst ew
    refine ⟨d, 6, rfl, rfl, _, rfl, _, rfl, 10, 6, rfl, rfl, ⟨by decide, by decide, by decide⟩, 10, 15, rfl, rfl, ⟨by decide, by decide, by decide⟩, _, rfl, by show 5 ≤ sizeLine; decide, fun l' nl => ?_⟩
    refine ⟨v, l, l', _, b + 1, rfl, p1.ex (.new nl), by omega, .of upd_same, by show 0 < 5; decide, by show 5 ≤ 1000; decide, fun w2 H2 e2 p2 hw => ?_⟩
    have e12 := (e1.trans (Ex.le (Ex.new nl))).trans e2
    have fin : ∀ z : Int, w2 = .int z → Bi 50 (d - 6 + z) → rI0 (fun i j => .int (i + j)) (.int (d - 6)) w2 H2 Q := fun z hz bz => by
      subst hz
      exact ⟨_, _, rfl, rfl, k _ _ e12 p2 ⟨_, rfl, bz⟩⟩
    have e50 : (2 : Nat) ^ 50 = 1125899906842624 := by decide
    have bb : ∀ z : Int, z.natAbs ≤ 1000000000000000 → Bi 50 (d - 6 + z) := fun z hz => by
      unfold Bi
      rw [e50]
      omega
    have e6 : (10 : Int) ^ (Int.toNat 6) = 1000000 := by decide
    have e15 : (10 : Int) ^ (Int.toNat 15) = 1000000000000000 := by decide
    simp only [List.mem_cons, List.not_mem_nil, or_false] at hw
    rcases hw with hw | hw | hw | hw | hw
    · exact fin 0 hw (bb _ (by decide))
    · exact fin 0 hw (bb _ (by decide))
    · exact fin 0 hw (bb _ (by decide))
    · rw [e6] at hw
      exact fin _ hw (bb _ (by decide))
    · rw [e15] at hw
      exact fin _ hw (bb _ (by decide))
theorem sc_join : FnScope ["_law_one", "_law_other", "_law_x", "_law_y", "_law_area", "_law_s", "_law_t", "_law_more"] ["_law_one", "_law_other"] (defScope s_L_join) := ⟨rfl, rfl, rfl, by decide +kernel, rfl, by decide +kernel, by decide +kernel⟩
theorem ok_join {fd : FuncData} (F : FnP K "_law_join" s_L_join fd) : Df P w K mg base CX0 1 (He.ga K "_law_join") ["_law_one", "_law_other"] (spJoin K) := by
  refine ⟨⟨fd, F.ok sc_join (fun vs H Q E h => ?_) (fun cdv A outer s H vs Q E hr h => ?_), F.bindsN fun _ _ _ _ _ _ us hl => match us, hl with | [_, _], _ => rfl⟩, F.kp⟩
  · obtain ⟨u, v, p, q, rfl, _⟩ := h
    rfl
  · obtain ⟨u, v, p, q, rfl, ⟨a, rfl, ha⟩, ⟨b, rfl, hb⟩, bp, bq, k⟩ := h
    refine ⟨_, PSs.nox (pss_cons (ps_asg (pv 0) (pg_tup (n := 3) rfl (pgs_cons (pg_name (i := 2) sc_join.nd rfl (.inl rfl)) (pgs_cons (pg_name (i := 3) sc_join.nd rfl (.inl rfl)) (pgs_cons (pg_name (i := 4) sc_join.nd rfl (.inl rfl)) pgs_nil)))))
      (pss_cons (ps_asg (pv 1) (pg_tup (n := 3) rfl (pgs_cons (pg_name (i := 5) sc_join.nd rfl (.inl rfl)) (pgs_cons (pg_name (i := 6) sc_join.nd rfl (.inl rfl)) (pgs_cons (pg_name (i := 7) sc_join.nd rfl (.inl rfl)) pgs_nil)))))
      (pss_one (ps_ret (pe_tup (pa_cons (pe_op op_add (pv 2) (pv 5)) (pa_cons (pe_op op_add (pv 3) (pv 6)) (pa_cons (pe_op op_add (pe_op op_add (pv 4) (pv 7)) (pe_op op_mulB (pv 2) (pv 6))) pa_nil)))))))), ?_⟩
    refine ⟨_, rfl, a, _, rfl, ha, rfl, _, _, rfl, _, _, rfl, _, _, rfl, rfl, ?_⟩
    refine ⟨_, rfl, b, _, rfl, hb, rfl, _, _, rfl, _, _, rfl, _, _, rfl, rfl, ?_⟩
    refine ⟨_, rfl, _, rfl, _, _, rfl, rfl, _, rfl, _, rfl, _, _, rfl, rfl, _, rfl, _, rfl, _, _, rfl, rfl, _, rfl, _, rfl, _, _, rfl, rfl, mulB bp.1 bq.2.1 (by decide) (by decide), _, _, rfl, rfl, by show 3 ≤ sizeLine; decide, fun t nt => ?_⟩
    exact k _ _ (.new nt) row_new
theorem sc_times : FnScope ["_law_one", "_law_number", "_law_x", "_law_y", "_law_area", "_law_half"] ["_law_one", "_law_number"] (defScope s_L_times) := ⟨rfl, rfl, rfl, by decide +kernel, rfl, by decide +kernel, by decide +kernel⟩
theorem ok_times {fd : FuncData} (F : FnP K "_law_times" s_L_times fd) : Df P w K mg base CX0 1 (He.ga K "_law_times") ["_law_one", "_law_number"] (spTimes K) := by
  refine ⟨⟨fd, F.ok sc_times (fun vs H Q E h => ?_) (fun cdv A outer s H vs Q E hr h => ?_), F.bindsN fun _ _ _ _ _ _ us hl => match us, hl with | [_, _], _ => rfl⟩, F.kp⟩
  · obtain ⟨u, p, n, rfl, _⟩ := h
    rfl
  · obtain ⟨u, p, n, rfl, ⟨a, rfl, ha⟩, bp, bn, k⟩ := h
    refine ⟨_, PSs.nox (pss_cons (ps_asg (pv 0) (pg_tup (n := 3) rfl (pgs_cons (pg_name (i := 2) sc_times.nd rfl (.inl rfl)) (pgs_cons (pg_name (i := 3) sc_times.nd rfl (.inl rfl)) (pgs_cons (pg_name (i := 4) sc_times.nd rfl (.inl rfl)) pgs_nil)))))
      (pss_cons (ps_set (i := 5) sc_times.nd rfl (.inl rfl) (pe_op op_fdiv (pe_op op_mulB (pv 1) (pe_op op_sub (pv 1) pe_int)) pe_int))
      (pss_one (ps_ret (pe_tup (pa_cons (pe_op op_mulB (pv 1) (pv 2)) (pa_cons (pe_op op_mulB (pv 1) (pv 3)) (pa_cons (pe_op op_add (pe_op op_mulB (pv 1) (pv 4)) (pe_op op_mulB (pe_op op_mulB (pv 5) (pv 2)) (pv 3))) pa_nil)))))))), ?_⟩
    refine ⟨_, rfl, a, _, rfl, ha, rfl, _, _, rfl, _, _, rfl, _, _, rfl, rfl, ?_⟩
    refine ⟨_, rfl, _, rfl, _, _, rfl, rfl, _, _, rfl, rfl, mulB bn (bn.sub (Bi.one 0 |>.mono (by decide : 0 + 1 ≤ 3000000))) (by decide) (by decide), _, _, rfl, rfl, ⟨by decide, by decide⟩, ?_⟩
    refine ⟨_, rfl, _, rfl, _, _, rfl, rfl, mulB bn bp.1 (by decide) (by decide), _, rfl, _, rfl, _, _, rfl, rfl, mulB bn bp.2.1 (by decide) (by decide), _, rfl, _, rfl, _, _, rfl, rfl, mulB bn bp.2.2 (by decide) (by decide),
      _, rfl, _, rfl, _, _, rfl, rfl, mulB (tri_bd bn) bp.1 (by decide) (by decide), _, rfl, _, _, rfl, rfl, mulB ((tri_bd bn).mul bp.1) bp.2.1 (by decide) (by decide), _, _, rfl, rfl, by show 3 ≤ sizeLine; decide, fun t nt => ?_⟩
    exact k _ _ (.new nt) row_new
theorem sc_plc : FnScope ["_law_row_here"] ["_law_row_here"] (defScope s_L_place) := ⟨rfl, rfl, rfl, by decide +kernel, rfl, by decide +kernel, by decide +kernel⟩
theorem ok_plc {fd : FuncData} (F : FnP K "_law_place" s_L_place fd) (D : D0 P w K mg base) : Df P w K mg base CX0 4 (He.ga K "_law_place") ["_law_row_here"] (spPlc K) := by
  refine ⟨⟨fd, F.ok sc_plc (fun vs H Q E h => ?_) (fun cdv A outer s H vs Q E hr h => ?_), F.bindsN fun _ _ _ _ _ _ us hl => match us, hl with | [_], _ => rfl⟩, F.kp⟩
  · obtain ⟨u, p, rfl, _⟩ := h
    rfl
  · obtain ⟨u, p, rfl, ⟨a, rfl, ha⟩, k⟩ := h
    refine ⟨_, PSs.nox (pss_one (ps_ret (pe_plc D.T D.ini hr rfl (pa_cons (pe_ix ix_tup (pv 0) pe_int (fun _ _ => rfl)) (pa_cons (pe_ix ix_tup (pv 0) pe_int (fun _ _ => rfl)) (pa_cons (pe_ix ix_tup (pv 0) pe_int (fun _ _ => rfl)) pa_nil)))))), ?_⟩
    refine ⟨_, rfl, a, _, _, _, rfl, rfl, ha, at0, _, rfl, a, _, _, _, rfl, rfl, ha, at1, _, rfl, a, _, _, _, rfl, rfl, ha, at2, ?_⟩
    exact ⟨_, _, _, rfl, k⟩
theorem sc_whole : FnScope ["_law_value"] ["_law_value"] (defScope s_L_whole) := ⟨rfl, rfl, rfl, by decide +kernel, rfl, by decide +kernel, by decide +kernel⟩
theorem ok_whole {fd : FuncData} (F : FnP K "_law_whole" s_L_whole fd) (T : Txt K mg) : Df P w K mg base CX0 1 (He.ga K "_law_whole") ["_law_value"] spWhole := by
  refine ⟨⟨fd, F.ok sc_whole (fun vs H Q E h => ?_) (fun cdv A outer s H vs Q E hr h => ?_), F.bindsN fun _ _ _ _ _ _ us hl => match us, hl with | [_], _ => rfl⟩, F.kp⟩
  · obtain ⟨i, rfl, _⟩ := h
    rfl
  · obtain ⟨i, rfl, hQ⟩ := h
    refine ⟨_, PSs.nox (pss_one (ps_ret (pe_and (pe_callB call_isi rfl (T.fr "isinstance" (by decide +kernel)) boot_isinstance (pa_cons (pv 0) (pa_cons (pe_bltn (v := .ty "int") rfl (T.fr "int" (by decide +kernel)) boot_int rfl) pa_nil)))
      (pe_one (pe_not (pe_callB call_isi rfl (T.fr "isinstance" (by decide +kernel)) boot_isinstance (pa_cons (pv 0) (pa_cons (pe_bltn (v := .ty "bool") rfl (T.fr "bool" (by decide +kernel)) boot_bool rfl) pa_nil)))))))), ?_⟩
    refine ⟨_, rfl, _, _, _, _, true, rfl, .ty "int", .base (.int i), kit_ty (by decide +kernel), true, rfl, iteT ?_⟩
    exact ⟨_, rfl, _, _, _, _, false, rfl, .ty "bool", .base (.int i), kit_ty (by decide +kernel), false, rfl, hQ⟩
theorem sc_twr : FnScope ["_law_one", "_law_other"] ["_law_one", "_law_other"] (defScope s_L_twist) := ⟨rfl, rfl, rfl, by decide +kernel, rfl, by decide +kernel, by decide +kernel⟩
theorem ok_twr {fd : FuncData} (F : FnP K "_law_twist" s_L_twist fd) : Df P w K mg base CX0 1 (He.ga K "_law_twist") ["_law_one", "_law_other"] (spTwR K) := by
  refine ⟨⟨fd, F.ok sc_twr (fun vs H Q E h => ?_) (fun cdv A outer s H vs Q E hr h => ?_), F.bindsN fun _ _ _ _ _ _ us hl => match us, hl with | [_, _], _ => rfl⟩, F.kp⟩
  · obtain ⟨u, v, p, q, rfl, _⟩ := h
    rfl
  · obtain ⟨u, v, p, q, rfl, ⟨a, rfl, ha⟩, ⟨b, rfl, hb⟩, bp, bq, k⟩ := h
    refine ⟨_, PSs.nox (pss_one (ps_ret (pe_op op_sub (pe_op op_mulB (pe_ix ix_tup (pv 0) pe_int (fun _ _ => rfl)) (pe_ix ix_tup (pv 1) pe_int (fun _ _ => rfl))) (pe_op op_mulB (pe_ix ix_tup (pv 1) pe_int (fun _ _ => rfl)) (pe_ix ix_tup (pv 0) pe_int (fun _ _ => rfl)))))), ?_⟩
    exact ⟨_, rfl, a, _, _, _, rfl, rfl, ha, at0, _, rfl, b, _, _, _, rfl, rfl, hb, at1, _, _, rfl, rfl, mulB bp.1 bq.2.1 (by decide) (by decide), _, rfl, b, _, _, _, rfl, rfl, hb, at0, _, rfl, a, _, _, _, rfl, rfl, ha, at1, _, _, rfl, rfl, mulB bq.1 bp.2.1 (by decide) (by decide), _, _, rfl, rfl, k⟩
theorem sc_ren : FnScope ["_law_six_here", "_law_row_here", "_law_moved"] ["_law_six_here", "_law_row_here"] (defScope s_L_renamed) := ⟨rfl, rfl, rfl, by decide +kernel, rfl, by decide +kernel, by decide +kernel⟩
theorem ats {e n : V} : atI [e, n] 0 = some e ∧ atI [e, n] 1 = some n := ⟨rfl, rfl⟩
theorem ok_ren {fd : FuncData} (F : FnP K "_law_renamed" s_L_renamed fd) (T : Txt K mg) (DJ : Df P w K mg base CX0 1 (He.ga K "_law_join") ["_law_one", "_law_other"] (spJoin K)) (DT : Df P w K mg base CX0 1 (He.ga K "_law_times") ["_law_one", "_law_number"] (spTimes K))
    (DW : Df P w K mg base CX0 1 (He.ga K "_law_twist") ["_law_one", "_law_other"] (spTwR K)) : Df P w K mg base CX0 2 (He.ga K "_law_renamed") ["_law_six_here", "_law_row_here"] (spRen K) := by
  refine ⟨⟨fd, F.ok sc_ren (fun vs H Q E h => ?_) (fun cdv A outer s H vs Q E hr h => ?_), F.bindsN fun _ _ _ _ _ _ us hl => match us, hl with | [_, _], _ => rfl⟩, F.kp⟩
  · obtain ⟨u, v, r, p, b, c, rfl, _⟩ := h
    rfl
  · obtain ⟨u, v, r, p, b, c, rfl, ⟨t, e, n, rfl, ht, he, hn⟩, ⟨a, rfl, ha⟩, br, bp, hbc, k⟩ := h
    refine ⟨_, PSs.nox (pss_cons (ps_set (i := 2) sc_ren.nd rfl (.inl rfl) (pe_df DJ hr rfl (T.gl "_law_join" (by decide +kernel)) pass0 (pa_cons
        (pe_df DT hr rfl (T.gl "_law_times" (by decide +kernel)) pass0 (pa_cons (pe_ix ix_tup (pv 0) pe_int (fun _ _ => rfl)) (pa_cons (pe_ix ix_tup (pv 1) pe_int (fun _ _ => rfl)) pa_nil))) (pa_cons
        (pe_df DT hr rfl (T.gl "_law_times" (by decide +kernel)) pass0 (pa_cons (pe_ix ix_tup (pv 0) pe_int (fun _ _ => rfl)) (pa_cons (pe_ix ix_tup (pv 1) pe_int (fun _ _ => rfl)) pa_nil))) pa_nil))))
      (pss_one (ps_ret (pe_tup (pa_cons (pe_ix ix_tup (pv 2) pe_int (fun _ _ => rfl)) (pa_cons (pe_ix ix_tup (pv 2) pe_int (fun _ _ => rfl)) (pa_cons (pe_op op_add (pe_ix ix_tup (pv 2) pe_int (fun _ _ => rfl))
        (pe_op op_mulB (pe_df DW hr rfl (T.gl "_law_twist" (by decide +kernel)) pass0 (pa_cons (pe_ix ix_tup (pv 0) pe_int (fun _ _ => rfl)) (pa_cons (pe_ix ix_tup (pv 0) pe_int (fun _ _ => rfl)) pa_nil))) (pe_ix ix_tup (pv 1) pe_int (fun _ _ => rfl)))) pa_nil))))))), ?_⟩
    refine ⟨_, rfl, t, _, _, _, rfl, rfl, ht, ats.2, _, rfl, a, _, _, _, rfl, rfl, ha, at1, n, r.n, p.y, rfl, hn, br.2.mono (by omega), bp.2.1.mono (by omega), fun w1 H1 e1 h1 => ?_⟩
    refine ⟨_, rfl, t, _, _, _, rfl, rfl, (Ex.le e1).sqT ht, ats.1, _, rfl, a, _, _, _, rfl, rfl, (Ex.le e1).sqT ha, at0, e, r.e, p.x, rfl, (Ex.le e1).row he, br.1.mono (by omega), bp.1.mono (by omega), fun w2 H2 e2 h2 => ?_⟩
    refine ⟨w1, w2, r.n.pw p.y, r.e.pw p.x, rfl, (Ex.le e2).row h1, h2, (pw_bd br.2 bp.2.1).mono (by omega), (pw_bd br.1 bp.1).mono (by omega), fun w3 H3 e3 h3 => ?_⟩
    obtain ⟨m, rfl, hm⟩ := h3
    have e13 := (e1.trans e2).trans e3
    refine ⟨_, rfl, m, _, _, _, rfl, rfl, hm, at0, _, rfl, m, _, _, _, rfl, rfl, hm, at1, _, rfl, m, _, _, _, rfl, rfl, hm, at2, ?_⟩
    refine ⟨_, rfl, t, _, _, _, rfl, rfl, e13.le.sqT ht, ats.1, _, rfl, t, _, _, _, rfl, rfl, e13.le.sqT ht, ats.2, e, n, r.e, r.n, rfl, e13.le.row he, e13.le.row hn, br.1.mono (by omega), br.2.mono (by omega), ?_⟩
    refine ⟨_, rfl, a, _, _, _, rfl, rfl, e13.le.sqT ha, at2, _, _, rfl, rfl, mulB (tw_bd br.1 br.2) bp.2.2 (by omega) (by omega), _, _, rfl, rfl, by show 3 ≤ sizeLine; decide, fun x nx => ?_⟩
    exact k _ _ (e13.trans (.new nx)) row_new
end
end AW
/-! _law_row, _law_six, _law_onto, _law_list. -/
namespace AW
open PySem PySem.Spec PyProof.Rows L2

theorem all_true : ∀ {ys : List V}, (∀ (k : Nat) (y : V), ys[k]? = some y → y = V.bl true) → ys = (List.replicate ys.length true).map V.bl
  | [], _ => rfl
  | y :: ys, h => by
    have h0 : y = V.bl true := h 0 y rfl
    have h1 := all_true (ys := ys) fun k z hz => h (k + 1) z (by simpa using hz)
    rw [List.length_cons, List.replicate_succ, List.map_cons, ← h1, h0]
theorem all_rep (n : Nat) : (List.replicate n true).all id = true := by
  simp
section
variable {P : Program} {w : World} {K : PySem.W.Frag} {mg : Str → Option Value} {base : Heap}
theorem sc_row : FnScope ["_law_place_here", "_law_parts", "_law_part"] ["_law_place_here"] (defScope s_L_row) := ⟨rfl, rfl, rfl, by decide +kernel, rfl, by decide +kernel, by decide +kernel⟩
theorem ok_row {fd : FuncData} (F : FnP K "_law_row" s_L_row fd) (T : Txt K mg) (DW : Df P w K mg base CX0 1 (He.ga K "_law_whole") ["_law_value"] spWhole) : Df P w K mg base CX0 2 (He.ga K "_law_row") ["_law_place_here"] (spRow K) := by
  refine ⟨⟨fd, F.ok sc_row (fun vs H Q E h => ?_) (fun cdv A outer s H vs Q E hr h => ?_), F.bindsN fun _ _ _ _ _ _ us hl => match us, hl with | [_], _ => rfl⟩, F.kp⟩
  · obtain ⟨u, p, rfl, _⟩ := h
    rfl
  · obtain ⟨u, p, rfl, ⟨a, dx, rfl, ha⟩, k⟩ := h
    refine ⟨_, PSs.nox (pss_cons (ps_if (pt_not (pt_val (pe_callB call_isi rfl (T.fr "isinstance" (by decide +kernel)) boot_isinstance (pa_cons (pv 0) (pa_cons (pe_glob (v := .ref (CP K)) rfl (T.gl "Place" (by decide +kernel)) rfl) pa_nil))))) (pss_one (ps_ret pe_non)) pss_nil)
      (pss_cons (ps_set (i := 1) sc_row.nd rfl (.inl rfl) (pe_tup (pa_cons (pe_fld (pv 0) rfl) (pa_cons (pe_fld (pv 0) rfl) (pa_cons (pe_fld (pv 0) rfl) pa_nil)))))
      (pss_cons (ps_if (pt_not (pt_val (pe_callB (cr_all rfl) rfl (T.fr "all" (by decide +kernel)) PyProof.Rows.Boot.«all» (pa_cons (pe_lc (own := [("_law_part", 2)]) (g := gName 2) (tt := tYes) (te := tD spWhole E0 (tCons (tVar 2) tNil)) rfl sc_row.nd (pi_sq (i := 1) (pv 1)) (blkOk_by (N := ["_law_place_here", "_law_parts", "_law_part"]) (sc := defScope s_L_row) (by decide +kernel))
          (fun _ _ _ _ _ => pg_name (i := 2) sc_row.nd rfl (Or.inl rfl)) (fun _ _ _ _ _ => pts_nil) (fun _ _ _ _ _ => pe_df DW hr rfl (T.gl "_law_whole" (by decide +kernel)) pass0 (pa_cons (pv 2) pa_nil))) pa_nil)))) (pss_one (ps_ret pe_non)) pss_nil)
      (pss_one (ps_ret (pv 1)))))), ?_⟩
    refine ⟨_, rfl, _, _, _, _, true, rfl, .own _, ty_pl T ha, T.kP, true, rfl, iteF ?_⟩
    refine ⟨_, rfl, a, CP K, dx, _, _, rfl, ha, T.p.cl, T.px, pf_x p, _, rfl, a, CP K, dx, _, _, rfl, ha, T.p.cl, T.py, pf_y p, _, rfl, a, CP K, dx, _, _, rfl, ha, T.p.cl, T.pa, pf_a p, by show 3 ≤ sizeLine; decide, fun t nt => ?_⟩
    have e1 : Evl.Ex H (upd H t (.tup [.int p.x, .int p.y, .int p.a])) := .new nt
    dsimp only [gName, tSeq, tIfS, tNot, tB, tCB, tCons]
    refine lc_sq (us := [.int p.x, .int p.y, .int p.a]) (i := 1) (j := 2) (u := .ref t) (σ := [some (.ref a), some (.ref t), none]) (fun _ v _ => v = .bl true) (fun _ _ _ _ _ h => h) rfl ⟨t, rfl, .inr (.of upd_same)⟩ (by show 3 < sizeLine; decide) ?_ ?_
    · rintro i x H' Q' hx e kk
      obtain ⟨n, rfl⟩ := int3 hx
      exact ⟨_, rfl, n, rfl, kk _ _ (.refl _) rfl⟩
    · rintro D ys H' e hD hl hR
      refine ⟨D, List.replicate ys.length true, rfl, .of (by rw [← all_true hR]; exact hD), true, by rw [all_rep], iteF ?_⟩
      exact ⟨_, rfl, k _ _ (e1.trans e) ⟨t, rfl, .of (e _ _ upd_same)⟩⟩
theorem sc_six : FnScope ["_law_renaming"] ["_law_renaming"] (defScope s_L_six) := ⟨rfl, rfl, rfl, by decide +kernel, rfl, by decide +kernel, by decide +kernel⟩
theorem ok_six {fd : FuncData} (F : FnP K "_law_six" s_L_six fd) (T : Txt K mg) (DR : Df P w K mg base CX0 2 (He.ga K "_law_row") ["_law_place_here"] (spRow K)) : Df P w K mg base CX0 3 (He.ga K "_law_six") ["_law_renaming"] (spSix K) := by
  refine ⟨⟨fd, F.ok sc_six (fun vs H Q E h => ?_) (fun cdv A outer s H vs Q E hr h => ?_), F.bindsN fun _ _ _ _ _ _ us hl => match us, hl with | [_], _ => rfl⟩, F.kp⟩
  · obtain ⟨u, r, rfl, _⟩ := h
    rfl
  · obtain ⟨u, r, rfl, ⟨a, dx, e, n, rfl, ha, he, hn⟩, k⟩ := h
    refine ⟨_, PSs.nox (pss_cons (ps_if (pt_not (pt_val (pe_callB call_isi rfl (T.fr "isinstance" (by decide +kernel)) boot_isinstance (pa_cons (pv 0) (pa_cons (pe_glob (v := .ref (CR K)) rfl (T.gl "Renaming" (by decide +kernel)) rfl) pa_nil))))) (pss_one (ps_ret pe_non)) pss_nil)
      (pss_one (ps_ret (pe_tup (pa_cons (pe_df DR hr rfl (T.gl "_law_row" (by decide +kernel)) pass0 (pa_cons (pe_fld (pv 0) rfl) pa_nil)) (pa_cons (pe_df DR hr rfl (T.gl "_law_row" (by decide +kernel)) pass0 (pa_cons (pe_fld (pv 0) rfl) pa_nil)) pa_nil)))))), ?_⟩
    refine ⟨_, rfl, _, _, _, _, true, rfl, .own _, ty_rn T ha, T.kR, true, rfl, iteF ?_⟩
    refine ⟨_, rfl, a, CR K, dx, _, _, rfl, ha, T.r.cl, T.re, rf_e e n, e, r.e, rfl, he, fun w1 H1 e1 h1 => ?_⟩
    refine ⟨_, rfl, a, CR K, dx, _, _, rfl, e1 _ _ ha, T.r.cl, T.rn, rf_n e n, n, r.n, rfl, (Ex.le e1).pl hn, fun w2 H2 e2 h2 => ?_⟩
    exact ⟨by show 2 ≤ sizeLine; decide, fun t nt => k _ _ ((e1.trans e2).trans (.new nt)) ⟨t, w1, w2, rfl, .of upd_same, (Ex.le (e2.trans (.new nt))).row h1, (Ex.le (Ex.new nt)).row h2⟩⟩
/-! ### _law_onto -/
def IsT2 (K : PySem.W.Frag) (H : Hp) (v : V) (x y : Int) : Prop := ∃ t, v = .ref t ∧ SqT K H t [.int x, .int y]
theorem Le.t2 {K : PySem.W.Frag} {H H' : Hp} (e : Le H H') {v : V} {x y : Int} (h : IsT2 K H v x y) : IsT2 K H' v x y := by
  obtain ⟨t, rfl, h⟩ := h
  exact ⟨t, rfl, e.sqT h⟩
def spOnto (K : PySem.W.Frag) : Sp := fun vs H Q _ => ∃ (v : V) (cl : PT) (b : Nat), vs = [v] ∧ IsPen cl H v b ∧ b ≤ 900000000 ∧ GivesP cl H v (b + 14) (fun w H' => ∃ r, IsSix K H' w r ∧ Unit1 r.det ∧ Br 50 r) Q
theorem sc_onto : FnScope ["_law_pen", "_law_one", "_law_other", "_law_again", "_law_k"] ["_law_pen"] (defScope s_L_onto) := ⟨rfl, rfl, rfl, by decide +kernel, rfl, by decide +kernel, by decide +kernel⟩
theorem b2_0 {x y : Int} : atI [V.int x, .int y] 0 = some (.int x) := rfl
theorem b2_1 {x y : Int} : atI [V.int x, .int y] 1 = some (.int y) := rfl
theorem p1001 (i : Nat) (h : i ≤ 4) : 1001 ^ i ≤ 1001 ^ 4 := Nat.pow_le_pow_right (by decide) h
theorem b1001 {i : Nat} {x : Int} (h : i ≤ 4) (hx : x.natAbs ≤ 1001 ^ i) : Bi 50 x := by
  have h1 := p1001 i h
  have e : (2 : Nat) ^ 50 = 1125899906842624 := by decide
  have e2 : (1001 : Nat) ^ 4 = 1004006004001 := by decide
  unfold Bi
  rw [e]
  omega
theorem grow {i : Nat} {x y k : Int} (hx : x.natAbs ≤ 1001 ^ i) (hy : y.natAbs ≤ 1001 ^ i) (hk : k.natAbs ≤ 1000) : (x + k * y).natAbs ≤ 1001 ^ (i + 1) := by
  have h1 : (k * y).natAbs ≤ 1000 * 1001 ^ i := by
    rw [Int.natAbs_mul]
    exact Nat.mul_le_mul hk hy
  have h2 := Int.natAbs_add_le x (k * y)
  rw [Nat.pow_succ]
  omega
structure OntoI (K : PySem.W.Frag) (cl : PT) (H : Hp) (v : V) (b i : Nat) (σ : L2.St) (H' : Hp) : Prop where
  le : Le H H'
  pen : IsPen cl H' v (b + 2 + 2 * i)
  ex : ∃ (o1 o2 : V) (v3 v4 : Option V) (x1 y1 x2 y2 : Int), σ = [some v, some o1, some o2, v3, v4] ∧ IsT2 K H' o1 x1 y1 ∧ IsT2 K H' o2 x2 y2 ∧ Unit1 (x1 * y2 - x2 * y1) ∧ x1.natAbs ≤ 1001 ^ i ∧ y1.natAbs ≤ 1001 ^ i ∧ x2.natAbs ≤ 1001 ^ i ∧ y2.natAbs ≤ 1001 ^ i
theorem ok_onto {fd : FuncData} (F : FnP K "_law_onto" s_L_onto fd) (T : Txt K mg) (D : Df P w K mg base CX0 1 (He.ga K "_law_draw") ["_law_pen", "_law_span"] spDraw) (DP : Df P w K mg base CX0 2 (He.ga K "_law_pick") ["_law_pen", "_law_some"] (spPick K))
    (DM : Df P w K mg base CX0 3 (He.ga K "_law_mid") ["_law_pen"] spMid) : Df P w K mg base CX0 4 (He.ga K "_law_onto") ["_law_pen"] (spOnto K) := by
  refine ⟨⟨fd, F.ok sc_onto (fun vs H Q E h => ?_) (fun cdv A outer s H vs Q E hr h => ?_), F.bindsN fun _ _ _ _ _ _ us hl => match us, hl with | [_], _ => rfl⟩, F.kp⟩
  · obtain ⟨v, cl, b, rfl, _⟩ := h
    rfl
  · obtain ⟨v, cl, b, rfl, pen, hb, k⟩ := h
    refine ⟨_, PSs.nox (pss_cons (ps_par (i := 1) (j := 2) rfl sc_onto.nd rfl rfl (by decide) rfl rfl (pa_cons (pe_tup (pa_cons pe_int (pa_cons pe_int pa_nil))) (pa_cons (pe_tup (pa_cons pe_int (pa_cons (pe_df DP (hr.mono (by decide)) rfl (T.gl "_law_pick" (by decide +kernel)) pass0 (pa_cons (pv 0) (pa_cons (pe_lst (pa_cons pe_int (pa_cons (pe_un un_neg pe_int) pa_nil))) pa_nil))) pa_nil))) pa_nil)) (by rfl))
      (pss_cons (ps_for PassesOwn.never rfl (pi_range1 rfl (T.fr "range" (by decide +kernel)) (pa_cons (pe_df D (hr.mono (by decide)) rfl (T.gl "_law_draw" (by decide +kernel)) pass0 (pa_cons (pv 0) (pa_cons pe_int pa_nil))) pa_nil)) (pg_name (i := 3) sc_onto.nd rfl (.inl rfl))
        (pss_cons (ps_set (i := 4) sc_onto.nd rfl (.inl rfl) (pe_df DP (hr.mono (by decide)) rfl (T.gl "_law_pick" (by decide +kernel)) pass0 (pa_cons (pv 0) (pa_cons (pe_lst (pa_cons pe_int (pa_cons (pe_un un_neg pe_int) (pa_cons pe_int (pa_cons (pe_un un_neg pe_int) (pa_cons pe_int pa_nil)))))) pa_nil))))
        (pss_one (ps_asg (pe_df DP (hr.mono (by decide)) rfl (T.gl "_law_pick" (by decide +kernel)) pass0 (pa_cons (pv 0) (pa_cons (pe_lst (pa_cons (pe_tup (pa_cons (pv 2) (pa_cons (pv 1) pa_nil))) (pa_cons (pe_tup (pa_cons (pv 1) (pa_cons (pe_tup (pa_cons
              (pe_op op_add (pe_ix ix_tup (pv 2) pe_int (fun _ _ => rfl)) (pe_op op_mulB (pv 4) (pe_ix ix_tup (pv 1) pe_int (fun _ _ => rfl)))) (pa_cons
              (pe_op op_add (pe_ix ix_tup (pv 2) pe_int (fun _ _ => rfl)) (pe_op op_mulB (pv 4) (pe_ix ix_tup (pv 1) pe_int (fun _ _ => rfl)))) pa_nil))) pa_nil))) pa_nil))) pa_nil)))
            (pg_tup (n := 2) rfl (pgs_cons (pg_name (i := 1) sc_onto.nd rfl (.inl rfl)) (pgs_cons (pg_name (i := 2) sc_onto.nd rfl (.inl rfl)) pgs_nil)))))))
      (pss_one (ps_ret (pe_tup (pa_cons (pe_tup (pa_cons (pe_ix ix_tup (pv 1) pe_int (fun _ _ => rfl)) (pa_cons (pe_ix ix_tup (pv 1) pe_int (fun _ _ => rfl)) (pa_cons (pe_df DM hr rfl (T.gl "_law_mid" (by decide +kernel)) pass0 (pa_cons (pv 0) pa_nil)) pa_nil))))
        (pa_cons (pe_tup (pa_cons (pe_ix ix_tup (pv 2) pe_int (fun _ _ => rfl)) (pa_cons (pe_ix ix_tup (pv 2) pe_int (fun _ _ => rfl)) (pa_cons (pe_df DM hr rfl (T.gl "_law_mid" (by decide +kernel)) pass0 (pa_cons (pv 0) pa_nil)) pa_nil)))) pa_nil))))))), ?_⟩
    refine ⟨by show 2 ≤ sizeLine; decide, fun t1 n1 => ?_⟩
    refine ⟨_, rfl, _, rfl, by show 2 ≤ sizeLine; decide, fun l nl => ?_⟩
    refine ⟨v, cl, l, _, b, rfl, (pen.ex (.new n1)).ex (.new nl), by omega, .of upd_same, by show 0 < 2; decide, by show 2 ≤ 1000; decide, fun w1 H1 e1 p1 hw => ?_⟩
    have e01 := (Ex.le ((Ex.new n1).trans (.new (o := .lst [.int 1, .int (-1)]) nl))).trans e1
    obtain ⟨u, rfl, hu⟩ : ∃ u : Int, w1 = .int u ∧ Unit1 u := by
      simp only [List.mem_cons, List.not_mem_nil, or_false] at hw
      rcases hw with hw | hw
      · exact ⟨1, hw, .inl rfl⟩
      · exact ⟨-1, hw, .inr rfl⟩
    refine ⟨by show 2 ≤ sizeLine; decide, fun t2 n2 => ⟨_, _, rfl, ?_⟩⟩
    have ht1 : SqT K (upd H1 t2 (.tup [.int 0, .int u])) t1 [.int 1, .int 0] := (e1.trans (Ex.le (Ex.new n2))).sqT (.of (by rw [upd_ne (ne_of_none upd_same nl)]; exact upd_same))
    refine ⟨_, rfl, v, cl, b + 1, 5, rfl, p1.ex (.new n2), by omega, by decide, by decide, fun w2 H2 e2 p2 ⟨d, ew, d0, d1⟩ => ?_⟩
    subst ew
    refine ⟨d, rfl, by omega, by omega, for_range (OntoI K cl H v b) ?_ ?_ ?_⟩
    · refine ⟨e01.trans ((Ex.le (Ex.new n2)).trans e2), p2, _, _, none, none, 1, 0, 0, u, rfl, ⟨t1, rfl, e2.sqT ht1⟩, ⟨t2, rfl, e2.sqT (.of upd_same)⟩, ?_, by decide, by decide, by decide, ?_⟩
      · rw [show (1 : Int) * u - 0 * 0 = u by omega]
        exact hu
      · rcases hu with h | h <;> rw [h] <;> decide
    · rintro i σ H3 hi ⟨le, pen3, o1, o2, v3, v4, x1, y1, x2, y2, rfl, ⟨a1, rfl, h1⟩, ⟨a2, rfl, h2⟩, hu2, b1, b2, b3, b4⟩
      have hi4 : i ≤ 4 := by omega
      refine ⟨_, rfl, _, rfl, _, rfl, by show 5 ≤ sizeLine; decide, fun l3 nl3 => ?_⟩
      refine ⟨v, cl, l3, _, b + 2 + 2 * i, rfl, pen3.ex (.new nl3), by omega, .of upd_same, by show 0 < 5; decide, by show 5 ≤ 1000; decide, fun w3 H4 e4 p4 hw => ?_⟩
      obtain ⟨kk, rfl, hkk⟩ : ∃ kk : Int, w3 = .int kk ∧ kk.natAbs ≤ 1000 := by
        simp only [List.mem_cons, List.not_mem_nil, or_false] at hw
        rcases hw with hw | hw | hw | hw | hw
        · exact ⟨1, hw, by decide⟩
        · exact ⟨-1, hw, by decide⟩
        · exact ⟨2, hw, by decide⟩
        · exact ⟨-3, hw, by decide⟩
        · exact ⟨1000, hw, by decide⟩
      have e34 := (Ex.le (Ex.new (o := .lst [.int 1, .int (-1), .int 2, .int (-3), .int 1000]) nl3)).trans e4
      have h1' := e34.sqT h1
      have h2' := e34.sqT h2
      have bk : Bi 50 kk := by
        have e : (2 : Nat) ^ 50 = 1125899906842624 := by decide
        unfold Bi
        rw [e]
        omega
      refine ⟨_, rfl, _, rfl, _, rfl, by show 2 ≤ sizeLine; decide, fun q1 nq1 => ?_⟩
      have f1 := fun {a : Addr} {xs : List V} (h : SqT K H4 a xs) => (Ex.le (Ex.new (o := .tup [.ref a2, .ref a1]) nq1)).sqT h
      refine ⟨_, rfl, _, rfl, a2, _, _, _, rfl, rfl, f1 h2', b2_0, _, rfl, _, rfl, a1, _, _, _, rfl, rfl, f1 h1', b2_0, _, _, rfl, rfl, mulB bk (b1001 hi4 b1) (by decide) (by decide), _, _, rfl, rfl, ?_⟩
      refine ⟨_, rfl, a2, _, _, _, rfl, rfl, f1 h2', b2_1, _, rfl, _, rfl, a1, _, _, _, rfl, rfl, f1 h1', b2_1, _, _, rfl, rfl, mulB bk (b1001 hi4 b2) (by decide) (by decide), _, _, rfl, rfl, by show 2 ≤ sizeLine; decide, fun q2 nq2 => ?_⟩
      refine ⟨by show 2 ≤ sizeLine; decide, fun q3 nq3 => ⟨by show 2 ≤ sizeLine; decide, fun q4 nq4 => ?_⟩⟩
      have x34 := (Ex.new nq3).trans (.new (o := .lst [.ref q1, .ref q3]) nq4)
      have x24 := (Ex.new nq2).trans x34
      have ex4 := (Ex.new (o := .tup [.ref a2, .ref a1]) nq1).trans x24
      refine ⟨v, cl, q4, _, b + 2 + 2 * i + 1, rfl, p4.ex ex4, by omega, .of upd_same, by show 0 < 2; decide, by show 2 ≤ 1000; decide, fun w5 H5 e5 p5 hw => ?_⟩
      have e45 := (Ex.le ex4).trans e5
      have le5 := (le.trans e34).trans e45
      have mono : ∀ {x : Int}, x.natAbs ≤ 1001 ^ i → x.natAbs ≤ 1001 ^ (i + 1) := fun h => Nat.le_trans h (Nat.pow_le_pow_right (by decide) (Nat.le_succ i))
      simp only [List.mem_cons, List.not_mem_nil, or_false] at hw
      rcases hw with hw | hw
      · subst hw
        refine ⟨q1, _, rfl, ((Ex.le x24).trans e5).sqT (.of upd_same), rfl, _, _, rfl, _, _, rfl, rfl, le5, p5, _, _, _, _, x2, y2, x1, y1, rfl, ⟨a2, rfl, e45.sqT h2'⟩, ⟨a1, rfl, e45.sqT h1'⟩, ?_, mono b3, mono b4, mono b1, mono b2⟩
        · have : x2 * y1 - x1 * y2 = -(x1 * y2 - x2 * y1) := by grind
          rw [this]
          exact hu2.neg
      · subst hw
        refine ⟨q3, _, rfl, ((Ex.le (Ex.new nq4)).trans e5).sqT (.of upd_same), rfl, _, _, rfl, _, _, rfl, rfl, le5, p5, _, _, _, _, x1, y1, x2 + kk * x1, y2 + kk * y1, rfl, ⟨a1, rfl, e45.sqT h1'⟩, ⟨q2, rfl, ((Ex.le x34).trans e5).sqT (.of upd_same)⟩, ?_, mono b1, mono b2, grow b3 b1 hkk, grow b4 b2 hkk⟩
        have : x1 * (y2 + kk * y1) - (x2 + kk * x1) * y1 = x1 * y2 - x2 * y1 := by grind
        rw [this]
        exact hu2
    · rintro σ H3 ⟨le, pen3, o1, o2, v3, v4, x1, y1, x2, y2, rfl, ⟨a1, rfl, h1⟩, ⟨a2, rfl, h2⟩, hu2, b1, b2, b3, b4⟩
      have hi4 : d.toNat ≤ 4 := by omega
      refine ⟨_, rfl, a1, _, _, _, rfl, rfl, h1, b2_0, _, rfl, a1, _, _, _, rfl, rfl, h1, b2_1, _, rfl, v, cl, b + 2 + 2 * d.toNat, rfl, pen3, by omega, fun w1 H4 e4 p4 ⟨m1, ew, bm1⟩ => ?_⟩
      subst ew
      refine ⟨by show 3 ≤ sizeLine; decide, fun t3 n3 => ?_⟩
      have e5 := e4.trans (Ex.le (Ex.new (o := .tup [.int x1, .int y1, .int m1]) n3))
      refine ⟨_, rfl, a2, _, _, _, rfl, rfl, e5.sqT h2, b2_0, _, rfl, a2, _, _, _, rfl, rfl, e5.sqT h2, b2_1, _, rfl, v, cl, b + 2 + 2 * d.toNat + 2, rfl, p4.ex (.new n3), by omega, fun w2 H6 e6 p6 ⟨m2, ew, bm2⟩ => ?_⟩
      subst ew
      refine ⟨by show 3 ≤ sizeLine; decide, fun t4 n4 => ⟨by show 2 ≤ sizeLine; decide, fun t5 n5 => ?_⟩⟩
      have ex6 : Evl.Ex H6 _ := (Ex.new (o := .tup [.int x2, .int y2, .int m2]) n4).trans (.new (o := .tup [.ref t3, .ref t4]) n5)
      refine k _ _ (((le.trans e5).trans e6).trans (Ex.le ex6)) ((p6.ex ex6).mono (by omega)) ⟨⟨⟨x1, y1, m1⟩, ⟨x2, y2, m2⟩⟩, ⟨t5, .ref t3, .ref t4, rfl, .of upd_same, ?_, ?_⟩, hu2, ⟨b1001 hi4 b1, b1001 hi4 b2, bm1⟩, ⟨b1001 hi4 b3, b1001 hi4 b4, bm2⟩⟩
      · exact (e6.trans (Ex.le ex6)).row row_new
      · exact (Ex.le (Ex.new n5)).row row_new
end
end AW
/-! _law_list. -/
namespace AW
open PySem PySem.Spec PyProof.Rows L2

abbrev IsRows (K : PySem.W.Frag) (H : Hp) (vs : List V) (ps : List Pl) : Prop := Paired (IsRow K H) vs ps
theorem Le.rows {K : PySem.W.Frag} {H H' : Hp} (e : Le H H') : ∀ {vs : List V} {ps : List Pl}, IsRows K H vs ps → IsRows K H' vs ps
  | _, _, .nil => .nil
  | _, _, .cons h t => .cons (e.row h) (Le.rows e t)
theorem Nl.row {K : PySem.W.Frag} {H H' : Hp} (e : Nl H H') {v : V} {p : Pl} (h : IsRow K H v p) : IsRow K H' v p := by
  obtain ⟨t, rfl, h⟩ := h
  exact ⟨t, rfl, e.sqT h⟩
theorem Nl.rows {K : PySem.W.Frag} {H H' : Hp} (e : Nl H H') : ∀ {vs : List V} {ps : List Pl}, IsRows K H vs ps → IsRows K H' vs ps
  | _, _, .nil => .nil
  | _, _, .cons h t => .cons (e.row h) (Nl.rows e t)
theorem rows_snoc {K : PySem.W.Frag} {H : Hp} {v : V} {p : Pl} : ∀ {vs : List V} {ps : List Pl}, IsRows K H vs ps → IsRow K H v p → IsRows K H (vs ++ [v]) (ps ++ [p])
  | _, _, .nil, h => .cons h .nil
  | _, _, .cons r t, h => .cons r (rows_snoc t h)
theorem rows_len {K : PySem.W.Frag} {H : Hp} : ∀ {vs : List V} {ps : List Pl}, IsRows K H vs ps → vs.length = ps.length
  | _, _, .nil => rfl
  | _, _, .cons _ t => by rw [List.length_cons, List.length_cons, rows_len t]
theorem rows_get {K : PySem.W.Frag} {H : Hp} : ∀ {vs : List V} {ps : List Pl} {i : Nat} {v : V}, IsRows K H vs ps → vs[i]? = some v → ∃ p, ps[i]? = some p ∧ IsRow K H v p
  | _, _, _, _, .nil, e => by simp at e
  | _, _, 0, _, .cons r _, e => by simp at e; subst e; exact ⟨_, rfl, r⟩
  | _, _, i + 1, _, .cons _ t, e => by
    obtain ⟨u, h1, h2⟩ := rows_get (i := i) t (by simpa using e)
    exact ⟨u, by simpa using h1, h2⟩
theorem rows_dp {K : PySem.W.Frag} {H : Hp} : ∀ {vs : List V} {ps : List Pl}, IsRows K H vs ps → DpAll K H vs (ps.map rowD)
  | _, _, .nil => .nil
  | _, _, .cons h t => .cons (row_dp h) (rows_dp t)
/-- a list of its own, of rows -/
def IsRowL (K : PySem.W.Frag) (H : Hp) (v : V) (ps : List Pl) : Prop := ∃ D ys, v = .ref D ∧ H D = some (.lst ys) ∧ IsRows K H ys ps
theorem Le.rowL {K : PySem.W.Frag} {H H' : Hp} (e : Le H H') {v : V} {ps : List Pl} (h : IsRowL K H v ps) : IsRowL K H' v ps := by
  obtain ⟨D, ys, rfl, hD, h⟩ := h
  exact ⟨D, ys, rfl, e.lst hD, e.rows h⟩
theorem pen_app {cl : PT} {H : Hp} {v : V} {b : Nat} {D : Addr} {ys zs : List V} (h : IsPen cl H v b) (hD : H D = some (.lst ys)) (hn : cl.1 ≠ D) : IsPen cl (upd H D (.lst zs)) v b := by
  obtain ⟨pd, ns, n, lf, h1, h2, h3, h4, h5, h6, h7⟩ := h
  refine ⟨pd, ns, n, lf, h1, ?_, ?_, h4, h5, h6, tabs_lst h7 hD⟩
  · rw [upd_ne (fun z => by rw [z, hD] at h2; cases h2)]
    exact h2
  · rw [upd_ne hn]
    exact h3
def spList (K : PySem.W.Frag) : Sp := fun vs H Q _ => ∃ (v : V) (cl : PT) (b : Nat), vs = [v, .int 8] ∧ IsPen cl H v b ∧ b ≤ 900000000 ∧ GivesP cl H v (b + 68) (fun w H' => ∃ ps, IsRowL K H' w ps ∧ 1 ≤ ps.length ∧ ps.length ≤ 8 ∧ Bl 50 ps) Q
structure ListI (K : PySem.W.Frag) (cl : PT) (H : Hp) (v : V) (b : Nat) (way : Int) (lv : V) (D : Addr) (i : Nat) (σ : L2.St) (H' : Hp) : Prop where
  le : Le H H'
  pen : IsPen cl H' v (b + 4 + 8 * i)
  ex : ∃ (v5 v6 v7 : Option V) (s1 s2 : Int) (ys : List V) (ps : List Pl), σ = [some v, some (.int 8), some (.int way), some lv, some (.ref D), v5, v6, v7] ∧ IsT2 K H' lv s1 s2 ∧ s1.natAbs ≤ 4 ∧ s2.natAbs ≤ 4 ∧ H' D = some (.lst ys) ∧ IsRows K H' ys ps ∧ ps.length = i ∧ Bl 50 ps
theorem b50 {x : Int} (h : x.natAbs ≤ 1000000) : Bi 50 x := by
  have e : (2 : Nat) ^ 50 = 1125899906842624 := by decide
  unfold Bi
  rw [e]
  omega
section
variable {P : Program} {w : World} {K : PySem.W.Frag} {mg : Str → Option Value} {base : Heap}
theorem sc_list : FnScope ["_law_pen", "_law_most", "_law_way", "_law_line", "_law_found", "_law_k", "_law_row_here", "_law_times_here"] ["_law_pen", "_law_most"] (defScope s_L_list) := ⟨rfl, rfl, rfl, by decide +kernel, rfl, by decide +kernel, by decide +kernel⟩
theorem ok_list {fd : FuncData} (F : FnP K "_law_list" s_L_list fd) (T : Txt K mg) (D : Df P w K mg base CX0 1 (He.ga K "_law_draw") ["_law_pen", "_law_span"] spDraw) (DP : Df P w K mg base CX0 2 (He.ga K "_law_pick") ["_law_pen", "_law_some"] (spPick K))
    (DS : Df P w K mg base CX0 2 (He.ga K "_law_small") ["_law_pen"] spSmall) (DM : Df P w K mg base CX0 3 (He.ga K "_law_mid") ["_law_pen"] spMid) : Df P w K mg base CX0 4 (He.ga K "_law_list") ["_law_pen", "_law_most"] (spList K) := by
  refine ⟨⟨fd, F.ok sc_list (fun vs H Q E h => ?_) (fun cdv A outer s H vs Q E hr h => ?_), F.bindsN fun _ _ _ _ _ _ us hl => match us, hl with | [_, _], _ => rfl⟩, F.kp⟩
  · obtain ⟨v, cl, b, rfl, _⟩ := h
    rfl
  · obtain ⟨v, cl, b, rfl, pen, hb, k⟩ := h
    refine ⟨_, PSs.nox (pss_cons (ps_par (i := 2) (j := 3) rfl sc_list.nd rfl rfl (by decide) rfl rfl (pa_cons (pe_df D (hr.mono (by decide)) rfl (T.gl "_law_draw" (by decide +kernel)) pass0 (pa_cons (pv 0) (pa_cons pe_int pa_nil)))
          (pa_cons (pe_tup (pa_cons (pe_df DS (hr.mono (by decide)) rfl (T.gl "_law_small" (by decide +kernel)) pass0 (pa_cons (pv 0) pa_nil)) (pa_cons (pe_df DS (hr.mono (by decide)) rfl (T.gl "_law_small" (by decide +kernel)) pass0 (pa_cons (pv 0) pa_nil)) pa_nil))) pa_nil)) (by rfl))
      (pss_cons (ps_set (i := 4) sc_list.nd rfl (.inl rfl) (pe_lst pa_nil))
      (pss_cons (ps_for PassesOwn.never rfl (pi_range1 rfl (T.fr "range" (by decide +kernel)) (pa_cons (pe_op op_add pe_int (pe_df D (hr.mono (by decide)) rfl (T.gl "_law_draw" (by decide +kernel)) pass0 (pa_cons (pv 0) (pa_cons (pv 1) pa_nil)))) pa_nil)) (pg_name (i := 5) sc_list.nd rfl (.inl rfl))
        (pss_cons (ps_set (i := 6) sc_list.nd rfl (.inl rfl) (pe_tup (pa_cons (pe_df DP (hr.mono (by decide)) rfl (T.gl "_law_pick" (by decide +kernel)) pass0 (pa_cons (pv 0) (pa_cons (pe_lst (pa_cons (pe_df DS (hr.mono (by decide)) rfl (T.gl "_law_small" (by decide +kernel)) pass0 (pa_cons (pv 0) pa_nil)) (pa_cons (pe_df DM hr rfl (T.gl "_law_mid" (by decide +kernel)) pass0 (pa_cons (pv 0) pa_nil)) pa_nil))) pa_nil)))
            (pa_cons (pe_df DS (hr.mono (by decide)) rfl (T.gl "_law_small" (by decide +kernel)) pass0 (pa_cons (pv 0) pa_nil)) (pa_cons (pe_df DM hr rfl (T.gl "_law_mid" (by decide +kernel)) pass0 (pa_cons (pv 0) pa_nil)) pa_nil)))))
        (pss_cons (ps_if (pt_cmp (pc_eqI (pv 2) pe_int))
          (pss_cons (ps_set (i := 7) sc_list.nd rfl (.inl rfl) (pe_op op_mulB pe_int (pe_df DS (hr.mono (by decide)) rfl (T.gl "_law_small" (by decide +kernel)) pass0 (pa_cons (pv 0) pa_nil))))
          (pss_one (ps_set (i := 6) sc_list.nd rfl (.inl rfl) (pe_tup (pa_cons (pe_op op_mulB (pv 7) (pe_ix ix_tup (pv 3) pe_int (fun _ _ => rfl))) (pa_cons (pe_op op_mulB (pv 7) (pe_ix ix_tup (pv 3) pe_int (fun _ _ => rfl))) (pa_cons (pe_ix ix_tup (pv 6) pe_int (fun _ _ => rfl)) pa_nil))))))) pss_nil)
        (pss_cons (ps_if (pt_cmp (pc_eqI (pv 2) pe_int))
          (pss_one (ps_set (i := 6) sc_list.nd rfl (.inl rfl) (pe_df DP (hr.mono (by decide)) rfl (T.gl "_law_pick" (by decide +kernel)) pass0 (pa_cons (pv 0) (pa_cons (pe_lst (pa_cons (pe_tup (pa_cons pe_int (pa_cons pe_int (pa_cons (pe_ix ix_tup (pv 6) pe_int (fun _ _ => rfl)) pa_nil)))) (pa_cons (pv 6) (pa_cons (pe_tup (pa_cons pe_int (pa_cons pe_int (pa_cons pe_int pa_nil)))) pa_nil)))) pa_nil))))) pss_nil)
        (pss_cons (ps_if (pt_cmp (pc_eqI (pv 2) pe_int))
          (pss_one (ps_set (i := 6) sc_list.nd rfl (.inl rfl) (pe_df DP (hr.mono (by decide)) rfl (T.gl "_law_pick" (by decide +kernel)) pass0 (pa_cons (pv 0) (pa_cons (pe_lst (pa_cons (pe_tup (pa_cons pe_int (pa_cons pe_int (pa_cons (pe_ix ix_tup (pv 6) pe_int (fun _ _ => rfl)) pa_nil)))) (pa_cons (pe_tup (pa_cons (pe_ix ix_tup (pv 3) pe_int (fun _ _ => rfl)) (pa_cons (pe_ix ix_tup (pv 3) pe_int (fun _ _ => rfl)) (pa_cons (pe_ix ix_tup (pv 6) pe_int (fun _ _ => rfl)) pa_nil)))) pa_nil))) pa_nil))))) pss_nil)
        (pss_one (ps_expr (pe_bm PySem.F.plainAttrs_list PySem.F.slot_list_append PySem.F.type_list_append mt_append (pv 4) (pa_cons (pv 6) pa_nil)))))))))
      (pss_one (ps_ret (pv 4)))))), ?_⟩
    refine ⟨_, rfl, v, cl, b, 4, rfl, pen, by omega, by decide, by decide, fun w1 H1 e1 p1 ⟨way, ew, y0, y4⟩ => ?_⟩
    subst ew
    refine ⟨_, rfl, v, cl, b + 1, rfl, p1, by omega, fun w2 H2 e2 p2 ⟨s1, ew, l1, l2⟩ => ?_⟩
    subst ew
    refine ⟨_, rfl, v, cl, b + 2, rfl, p2, by omega, fun w3 H3 e3 p3 ⟨s2, ew, l3, l4⟩ => ?_⟩
    subst ew
    refine ⟨by show 2 ≤ sizeLine; decide, fun t nt => ⟨_, _, rfl, ?_⟩⟩
    have p3' := p3.ex (.new (o := .tup [.int s1, .int s2]) nt)
    have e03 := ((e1.trans e2).trans e3).trans (Ex.le (Ex.new (o := .tup [.int s1, .int s2]) nt))
    have hlv : IsT2 K (upd H3 t (.tup [.int s1, .int s2])) (.ref t) s1 s2 := ⟨t, rfl, .of upd_same⟩
    generalize upd H3 t (.tup [.int s1, .int s2]) = Hd at *
    refine ⟨by show 0 ≤ sizeLine; decide, fun Dl nD => ?_⟩
    have eD : Evl.Ex Hd (upd Hd Dl (.lst [])) := .new nD
    have ncl : cl.1 ≠ Dl := by
      obtain ⟨_, _, _, _, _, _, h3, _⟩ := p3'
      exact ne_of_none h3 nD
    refine ⟨_, rfl, _, rfl, v, cl, b + 3, 8, rfl, p3'.ex eD, by omega, by decide, by decide, fun w4 H4 e4 p4 ⟨d, ew, d0, d1⟩ => ?_⟩
    subst ew
    refine ⟨1, d, rfl, rfl, 1 + d, rfl, by omega, by omega, for_range (ListI K cl H v b way (.ref t) Dl) ?_ ?_ ?_⟩
    · exact ⟨e03.trans ((Ex.le eD).trans e4), p4, _, _, _, s1, s2, [], [], rfl, ((Ex.le eD).trans e4).t2 hlv, by omega, by omega, e4.lst upd_same, .nil, rfl, fun q hq => by cases hq⟩
    · rintro i σ H5 hi ⟨le, pen5, v5, v6, v7, s1, s2, ys, ps, rfl, hlv, b1, b2, hD, hrows, hlen, hbl⟩
      have hi8 : i < 8 := by omega
      -- the appending
      have fin : ∀ (E' : Ends), (∀ σ G, ListI K cl H v b way (.ref t) Dl (i + 1) σ G → E'.nx σ G) → ∀ (rv : V) (p : Pl) (v7 : Option V) (G : Hp), Le H5 G → IsPen cl G v (b + 4 + 8 * i + 8) → IsRow K G rv p → Bp 50 p →
          tDrop (tBM K "list" rAppend (tVar 4) (tCons (tVar 6) tNil)) E' [some v, some (.int 8), some (.int way), some (.ref t), some (.ref Dl), some (.int (0 + (i : Nat))), some rv, v7] G := by
        intro E' hE rv p v7 G eG pG hr bp
        have hDG := eG.lst hD
        have nl : Nl G (upd G Dl (.lst (ys ++ [rv]))) := nl_upd hDG
        obtain ⟨t', et, ht⟩ := eG.t2 hlv
        refine ⟨_, rfl, .inl ⟨rfl, _, .of hDG⟩, _, rfl, Dl, ys, rv, rfl, rfl, hDG, ?_, hE _ _ ⟨e03.mut nD (le.trans eG), (pen_app pG hDG ncl).mono (by omega), _, _, _, s1, s2, ys ++ [rv], ps ++ [p], rfl, ⟨t', et, nl.sqT ht⟩, b1, b2, upd_same, nl.rows (rows_snoc (eG.rows hrows) hr), by rw [List.length_append, hlen]; rfl, ?_⟩⟩
        · rw [rows_len hrows, hlen]
          exact Nat.lt_of_lt_of_le hi8 (by decide)
        · intro q hq
          rcases List.mem_append.mp hq with hq | hq
          · exact hbl q hq
          · have : q = p := by simpa using hq
            subst this
            exact bp
      refine ⟨_, rfl, _, rfl, v, cl, b + 4 + 8 * i, rfl, pen5, by omega, fun x1 G1 f1 q1 ⟨a1, ew, r1, r2⟩ => ?_⟩
      subst ew
      refine ⟨_, rfl, v, cl, b + 4 + 8 * i + 1, rfl, q1, by omega, fun x2 G2 f2 q2 ⟨a2, ew, ba2⟩ => ?_⟩
      subst ew
      refine ⟨by show 2 ≤ sizeLine; decide, fun l nl => ?_⟩
      refine ⟨v, cl, l, _, b + 4 + 8 * i + 1 + 2, rfl, q2.ex (.new nl), by omega, .of upd_same, by show 0 < 2; decide, by show 2 ≤ 1000; decide, fun x3 G3 f3 q3 hx => ?_⟩
      obtain ⟨a3, rfl, ba3⟩ : ∃ a3 : Int, x3 = .int a3 ∧ Bi 50 a3 := by
        simp only [List.mem_cons, List.not_mem_nil, or_false] at hx
        rcases hx with hx | hx
        · exact ⟨a1, hx, b50 (by omega)⟩
        · exact ⟨a2, hx, ba2⟩
      refine ⟨_, rfl, v, cl, _, rfl, q3, by omega, fun x4 G4 f4 q4 ⟨a4, ew, r5, r6⟩ => ?_⟩
      subst ew
      refine ⟨_, rfl, v, cl, _, rfl, q4, by omega, fun x5 G5 f5 q5 ⟨a5, ew, ba5⟩ => ?_⟩
      subst ew
      refine ⟨by show 3 ≤ sizeLine; decide, fun r nr => ?_⟩
      have fG := (((f1.trans f2).trans (Ex.le (Ex.new (o := .lst [.int a1, .int a2]) nl))).trans f3).trans ((f4.trans f5).trans (Ex.le (Ex.new (o := .tup [.int a3, .int a4, .int a5]) nr)))
      have q6 := q5.ex (.new (o := .tup [.int a3, .int a4, .int a5]) nr)
      have hr : IsRow K (upd G5 r (.tup [.int a3, .int a4, .int a5])) (.ref r) ⟨a3, a4, a5⟩ := row_new
      have br : Bp 50 ⟨a3, a4, a5⟩ := ⟨ba3, b50 (by show a4.natAbs ≤ _; omega), ba5⟩
      generalize upd G5 r (.tup [.int a3, .int a4, .int a5]) = Gr at *
      obtain ⟨t', et, ht⟩ := fG.t2 hlv
      cases et
      obtain ⟨r', er, hr3⟩ := id hr
      cases er
      have wc : way = 0 ∨ way = 1 ∨ way = 2 ∨ way = 3 := by omega
      rcases wc with rfl | rfl | rfl | rfl
      · refine ⟨_, rfl, 0, 1, rfl, rfl, false, rfl, iteF ⟨_, rfl, 0, 2, rfl, rfl, false, rfl, iteF ⟨_, rfl, 0, 3, rfl, rfl, false, rfl, iteF ?_⟩⟩⟩
        exact fin _ (fun _ _ h => h) _ _ _ _ fG (q6.mono (by omega)) hr br
      · refine ⟨_, rfl, 1, 1, rfl, rfl, true, rfl, iteT ?_⟩
        refine ⟨_, rfl, v, cl, _, rfl, q6, by omega, fun x6 G6 f6 q7 ⟨a6, ew, r7, r8⟩ => ?_⟩
        subst ew
        have ht6 := f6.sqT ht
        refine ⟨2, a6, rfl, rfl, mulB (n := 50) (m := 50) (b50 (by decide)) (b50 (by omega)) (by decide) (by decide), ?_⟩
        have b7 : Bi 50 (2 * a6) := b50 (by omega)
        refine ⟨_, rfl, _, rfl, t, _, _, _, rfl, rfl, ht6, b2_0, _, _, rfl, rfl, mulB b7 (b50 (by omega)) (by decide) (by decide), ?_⟩
        refine ⟨_, rfl, _, rfl, t, _, _, _, rfl, rfl, ht6, b2_1, _, _, rfl, rfl, mulB b7 (b50 (by omega)) (by decide) (by decide), ?_⟩
        refine ⟨_, rfl, r, _, _, _, rfl, rfl, f6.sqT hr3, at2, by show 3 ≤ sizeLine; decide, fun r2 nr2 => ?_⟩
        have prod : ∀ s : Int, s.natAbs ≤ 4 → Bi 50 (2 * a6 * s) := fun s hs => by
          refine b50 ?_
          rw [Int.natAbs_mul]
          have : (2 * a6).natAbs ≤ 8 := by omega
          have := Nat.mul_le_mul this hs
          omega
        refine ⟨_, rfl, 1, 2, rfl, rfl, false, rfl, iteF ⟨_, rfl, 1, 3, rfl, rfl, false, rfl, iteF ?_⟩⟩
        exact fin _ (fun _ _ h => h) _ _ _ _ ((fG.trans f6).trans (Ex.le (Ex.new nr2))) ((q7.ex (.new nr2)).mono (by omega)) row_new ⟨prod _ b1, prod _ b2, ba5⟩
      · refine ⟨_, rfl, 2, 1, rfl, rfl, false, rfl, iteF ⟨_, rfl, 2, 2, rfl, rfl, true, rfl, iteT ?_⟩⟩
        refine ⟨_, rfl, _, rfl, r, _, _, _, rfl, rfl, hr3, at2, by show 3 ≤ sizeLine; decide, fun c1 n1 => ?_⟩
        refine ⟨_, rfl, by show 3 ≤ sizeLine; decide, fun c2 n2 => ⟨by show 3 ≤ sizeLine; decide, fun c3 n3 => ?_⟩⟩
        have x23 := (Ex.new (o := .tup [.int 0, .int 0, .int 0]) n2).trans (.new (o := .lst [.ref c1, .ref r, .ref c2]) n3)
        have x13 := (Ex.new (o := .tup [.int 0, .int 0, .int a5]) n1).trans x23
        refine ⟨v, cl, c3, _, _, rfl, q6.ex x13, by omega, .of upd_same, by show 0 < 3; decide, by show 3 ≤ 1000; decide, fun x6 G6 f6 q7 hx => ?_⟩
        have f16 := (Ex.le x13).trans f6
        obtain ⟨p6, hp6, bp6⟩ : ∃ p6 : Pl, IsRow K G6 x6 p6 ∧ Bp 50 p6 := by
          simp only [List.mem_cons, List.not_mem_nil, or_false] at hx
          rcases hx with hx | hx | hx
          · subst hx
            exact ⟨⟨0, 0, a5⟩, ((Ex.le x23).trans f6).row row_new, .zero _, .zero _, ba5⟩
          · subst hx
            exact ⟨_, f16.row hr, br⟩
          · subst hx
            exact ⟨⟨0, 0, 0⟩, ((Ex.le (Ex.new n3)).trans f6).row row_new, .zero _, .zero _, .zero _⟩
        refine ⟨_, rfl, 2, 3, rfl, rfl, false, rfl, iteF ?_⟩
        exact fin _ (fun _ _ h => h) _ _ _ _ (fG.trans f16) (q7.mono (by omega)) hp6 bp6
      · refine ⟨_, rfl, 3, 1, rfl, rfl, false, rfl, iteF ⟨_, rfl, 3, 2, rfl, rfl, false, rfl, iteF ⟨_, rfl, 3, 3, rfl, rfl, true, rfl, iteT ?_⟩⟩⟩
        refine ⟨_, rfl, _, rfl, r, _, _, _, rfl, rfl, hr3, at2, by show 3 ≤ sizeLine; decide, fun c1 n1 => ?_⟩
        have x1 := Ex.le (Ex.new (H := Gr) (o := .tup [.int 0, .int 0, .int a5]) n1)
        refine ⟨_, rfl, t, _, _, _, rfl, rfl, x1.sqT ht, b2_0, _, rfl, t, _, _, _, rfl, rfl, x1.sqT ht, b2_1, _, rfl, r, _, _, _, rfl, rfl, x1.sqT hr3, at2, by show 3 ≤ sizeLine; decide, fun c2 n2 => ⟨by show 2 ≤ sizeLine; decide, fun c3 n3 => ?_⟩⟩
        have x23 := (Ex.new (o := .tup [.int s1, .int s2, .int a5]) n2).trans (.new (o := .lst [.ref c1, .ref c2]) n3)
        have x13 := (Ex.new (o := .tup [.int 0, .int 0, .int a5]) n1).trans x23
        refine ⟨v, cl, c3, _, _, rfl, q6.ex x13, by omega, .of upd_same, by show 0 < 2; decide, by show 2 ≤ 1000; decide, fun x6 G6 f6 q7 hx => ?_⟩
        have f16 := (Ex.le x13).trans f6
        obtain ⟨p6, hp6, bp6⟩ : ∃ p6 : Pl, IsRow K G6 x6 p6 ∧ Bp 50 p6 := by
          simp only [List.mem_cons, List.not_mem_nil, or_false] at hx
          rcases hx with hx | hx
          · subst hx
            exact ⟨⟨0, 0, a5⟩, ((Ex.le x23).trans f6).row row_new, .zero _, .zero _, ba5⟩
          · subst hx
            exact ⟨⟨s1, s2, a5⟩, ((Ex.le (Ex.new n3)).trans f6).row row_new, b50 (by show s1.natAbs ≤ _; omega), b50 (by show s2.natAbs ≤ _; omega), ba5⟩
        exact fin _ (fun _ _ h => h) _ _ _ _ (fG.trans f16) (q7.mono (by omega)) hp6 bp6
    · rintro σ H5 ⟨le, pen5, v5, v6, v7, s1, s2, ys, ps, rfl, hlv, b1, b2, hD, hrows, hlen, hbl⟩
      exact ⟨_, rfl, k _ _ le (pen5.mono (by omega)) ⟨ps, ⟨Dl, ys, rfl, hD, hrows⟩, by omega, by omega, hbl⟩⟩
end
end AW
/-! Clauses «except x as n» one after the other; _law_how. -/
namespace AW
open PySem PySem.Spec PyProof.Rows L2

/-- what the clauses wish of an exception of the body: slot i is n's -/
def wAsM (K : PySem.W.Frag) (i : Nat) (Wout : WX) (D : Ends) : List (Value × (Addr → Value → Option Addr → TS)) → WX
  | [] => Wout
  | (c, ts) :: r => fun cls d σ H => ∃ b, PySem.W.exmOne K cls c = some b ∧
      (b = true → ∀ a, H a = none → ts a cls d { nx := fun σ' H' => D.nx (σ'.set i none) H', rt := D.rt, bk := fun σ' H' => D.bk (σ'.set i none) H', ct := fun σ' H' => D.ct (σ'.set i none) H' } (σ.set i (some (.ref a))) H) ∧ (b = false → wAsM K i Wout D r cls d σ H)
inductive HdsAs (X : Cx) (n : Str) : List ExceptHandler → List (Value × (Addr → Value → Option Addr → TS)) → Prop
  | nil : HdsAs X n [] []
  | cons {x : Str} {c : Value} {ts : Addr → Value → Option Addr → TS} {b₀ : Stmt} {suite : List Stmt} {np pos' : Pos} {hds : List ExceptHandler} {l : List (Value × (Addr → Value → Option Addr → TS))} (hc : Names X x c)
      (hsu : ∀ (a : Addr) (oe : Obj) (cls : Value) (d : Option Addr) (pn : List (Addr × Obj)), Zc cls d oe → (∃ vs, oe.data = .fields vs) → PSs (X.suite a ((a, oe) :: pn)) (b₀ :: suite) (ts a cls d)) (r : HdsAs X n hds l) :
      HdsAs X n (.ExceptHandler (some (.Name x np)) (some n) (b₀ :: suite) pos' :: hds) ((c, ts) :: l)
section
variable {X : Cx} {n : Str} {i : Nat} {body : List Stmt} {h₀ : ExceptHandler} {hds : List ExceptHandler} {l : List (Value × (Addr → Value → Option Addr → TS))} {pos : Pos} {tb : WX → TS} {Wout : WX}
theorem ps_try_asM (hs : X.stack = X.env :: X.outer) (hf : X.env.frame = some X.env.locals) (hN : X.N.Nodup) (hi : X.N[i]? = some n) (hln : X.env.kindOf n = some .local) (tk : Takes X Wout)
    (hb : ∀ (W : WX) (pn : List (Addr × Obj)) (xe : Value → Shared → Prop), Takes (X.tr pn xe) W → PassesOwn (model X.prog X.w) X.A X.env xe → PSs (X.tr pn xe) body (tb W))
    (hh : HdsAs X n (h₀ :: hds) l) : PS X (.Try body (h₀ :: hds) [] [] pos) (fun D σ H => tb (wAsM X.K i Wout D l) D σ H) := by
  refine ⟨fun pins s σ H D I h => ?_⟩
  have ok := I.ok
  have hloc : Loc X.env.scope n := .inl hln
  have hfr : X.A.frames = some (X.env :: X.outer) := by rw [ok.frames, hs]
  refine wpAny_Try_except ?_
  refine wpAny_mono ((hb (wAsM X.K i Wout D l) (X.pn ++ pins) (fun e s₁ => wpAny (model X.prog X.w) X.A (noteFrame e X.env) (fun _ s₂ => wpAny (model X.prog X.w) X.A (setFlight e none) (fun _ s₃ =>
    wpAny (model X.prog X.w) X.A (handleBy e X.env (h₀ :: hds)) (SP X pins D) X.xe s₃) X.xe s₂) X.xe s₁) (fun u s' xx => ?_) PassesOwn.looking).run [] s σ H D (I.toTry _) h) (fun f s1 hsp => ?_) (fun e s1 he => he)
  · obtain ⟨a, B, sI, pins', σ', H', cls, d, rfl, J', nb, up, sky, na, os, ag, w⟩ := xx
    have J : Inv X pins σ' H' sI := J'.ofTry ok
    have sky' : Sky B (X.env :: X.outer) a (Zc cls d) X.env.locals s'.heap := by rw [← hs]; exact sky
    show wpAny (model X.prog X.w) X.A (noteFrame (.ref a) X.env) _ _ _
    refine Sky.land Zc.steady hfr hf sky' fun h3 fl3 up3 => ?_
    have J3 : Inv X pins σ' H' { s' with heap := h3 } := J.landed nb fl3.1 (up.trans up3) os ag
    obtain ⟨oe3, vs3, he3, hz3, hd3⟩ := fl3.there
    have nfr : a ∉ frs (X.env :: X.outer) := fun hm => by
      obtain ⟨_, o', e', hnf⟩ := fl3.2.2.1.mem hm
      rw [he3] at e'
      cases e'
      exact hnf _ hd3
    have nL : a ≠ X.env.locals := fun z => nfr (List.mem_filterMap.mpr ⟨X.env, List.mem_cons_self, by rw [hf, z]⟩)
    have nF : a ∉ X.fs := fun hm => by
      obtain ⟨e, he, q⟩ := List.mem_filterMap.mp hm
      exact nfr (List.mem_filterMap.mpr ⟨e, List.mem_cons_of_mem _ he, q⟩)
    have S3 := J3.suite he3 hd3 na nL nF
    have go : ∀ {hds' : List ExceptHandler} {l' : List (Value × (Addr → Value → Option Addr → TS))}, HdsAs X n hds' l' → wAsM X.K i Wout D l' cls d σ' H' →
        wpAny (model X.prog X.w) X.A (handleBy (.ref a) X.env hds') (SP X pins D) X.xe { s' with heap := h3 } := by
      intro hds' l' hk
      induction hk with
      | nil =>
        intro w
        refine wpAny_handleBy_nil ?_
        obtain ⟨k1, k2, k3, oe, vs, T, oT, ts', he, hz, hd, h1, hr⟩ := id fl3
        unfold PySem.passOn
        refine wpAny_bind (wpAny_field he hd h1 ?_)
        rw [if_neg (show ¬ ((Value.ref T == Value.none) = true) from by simp)]
        have fin : wpAny (model X.prog X.w) X.A (setFlight (.ref a) X.env.frame) (fun _ s4 => wpAny (model X.prog X.w) X.A (throw (.ref a) : Sem Flow) (SP X pins D) X.xe s4) X.xe { s' with heap := h3 } := by
          rw [hf]
          refine HandSPX.setFlight_upZ fl3 fun h4 hh4 up4 => wpAny_throw (tk _ _ ?_)
          exact ⟨a, B, sI, pins, σ', H', cls, d, rfl, J, nb, (up.trans up3).trans up4, .inr (.inr (by rw [hs]; exact hh4)), na, os, ag, w⟩
        first
          | exact wpAny_bind (wpAny_pure (wpAny_bind fin))
          | exact wpAny_bind fin
      | @cons x c ts b₀ suite np pos' hds2 l2 hc hsu r ih =>
        intro w
        obtain ⟨b, hb1, hyes, hno⟩ := w
        refine wpAny_handleBy_cons (codeAny_handlers_test ?_) (by intro q; cases q)
        have LT : PySem.W.Looks (model X.prog X.w) h3 (typeOf (.ref a)) cls := fun A Q E s k q => wpAny_typeOf_ref (k _ _ he3) (by rw [hz3.1]; exact q)
        have LM := PySem.W.exm_one (M := model X.prog X.w) (J3.kIn) LT hb1
        have test : ∀ {Q : Value → Shared → Prop} {E : Value → Shared → Prop}, Q c { s' with heap := h3 } → wpAny (model X.prog X.w) (X.A.mark (some (.ref a))) (eval (.Name x np) X.env) Q E { s' with heap := h3 } := fun {Q E} q => by
          obtain ⟨hg, hdbg, hm | ⟨hm, hv, hnn⟩⟩ := hc
          · exact ld_glob (X := X.suite a ((a, oe3) :: (X.pn ++ pins))) S3 hg hm q hdbg
          · exact ld_blt (X := X.suite a ((a, oe3) :: (X.pn ++ pins))) S3 hg hm hv q hnn hdbg
        refine test (LM.here ?_)
        cases b with
        | true =>
          refine codeAny_handlers_suite_as ?_
          refine HandSPX.lands_againZ fl3 fun h4 fl4 up4 => ?_
          have J4 : Inv X pins σ' H' { s' with heap := h4 } := J.landed nb fl4.1 ((up.trans up3).trans up4) os ag
          obtain ⟨oe4, vs4, he4, hz4, hd4⟩ := fl4.there
          have S4 := J4.suite he4 hd4 na nL nF
          refine store_ok (X := X.suite a ((a, oe4) :: (X.pn ++ pins))) (v := .ref a) S4 hN hi hloc rfl (fun s5 S5 => ?_) (.inr hln)
          refine wpAny_mono ((hsu a oe4 cls d (X.pn ++ pins) hz4 ⟨_, hd4⟩).run [] s5 _ H' _ S5 (hyes rfl a na)) (fun f s6 hsp => ?_) (fun _ _ z => False.elim z)
          have end_ : ∀ {σ6 : L2.St} {H6 : Hp} {Q : Shared → Prop}, Inv (X.suite a ((a, oe4) :: (X.pn ++ pins))) [] σ6 H6 s6 → (∀ s7, Inv X pins (σ6.set i none) H6 s7 → Q s7) →
              wpAny (model X.prog X.w) X.A (do bindName X.env n .none; unbindBehindTheSuite X.env n pos') (fun _ s7 => Q s7) X.xe s6 := fun {σ6 H6 Q} S6 hq => gone_ok (S6.unsuite ok) hN hi hln hq
          cases f with
          | next =>
            obtain ⟨σ6, H6, S6, q6⟩ := hsp
            exact end_ S6 fun s7 J7 => ⟨_, _, J7, q6⟩
          | brk =>
            obtain ⟨σ6, H6, S6, q6⟩ := hsp
            exact end_ S6 fun s7 J7 => ⟨_, _, J7, q6⟩
          | cont =>
            obtain ⟨σ6, H6, S6, q6⟩ := hsp
            exact end_ S6 fun s7 J7 => ⟨_, _, J7, q6⟩
          | ret u =>
            obtain ⟨v6, σ6, H6, S6, r6, q6⟩ := hsp
            exact end_ S6 fun s7 J7 => ⟨_, _, _, J7, r6, q6⟩
        | false =>
          show wpAny _ X.A (handleBy (.ref a) X.env hds2) _ _ _
          exact ih (hno rfl)
    exact go hh w
  · cases f with
    | next =>
      obtain ⟨σ', H', J', q⟩ := hsp
      exact wpAny_execs_nil ⟨σ', H', J'.ofTry ok, q⟩
    | brk =>
      obtain ⟨σ', H', J', q⟩ := hsp
      exact ⟨σ', H', J'.ofTry ok, q⟩
    | cont =>
      obtain ⟨σ', H', J', q⟩ := hsp
      exact ⟨σ', H', J'.ofTry ok, q⟩
    | ret u =>
      obtain ⟨v, σ', H', J', r, q⟩ := hsp
      exact ⟨v, σ', H', J'.ofTry ok, r, q⟩
end
/-- what is told of the lambda's errors; it never gives a value -/
def TTow (K : PySem.W.Frag) : (XK → Hp → VK → Prop) → Hp → VK → Prop := fun tl H Q => ∀ N : VK,
  tl (fun cls d H' => (cls = .ref (CU K) ∧ ∃ dd a b, d = some dd ∧ H' dd = some (.xd (uf a b)) ∧ ∀ p, H' p = none → Q (.ref p) (upd H' p (.tup [.str "uneven", a, b]))) ∨
    (cls = .ref (CB K) ∧ ∃ dd v, d = some dd ∧ H' dd = some (.xd (bf v)) ∧ ∀ p, H' p = none → Q (.ref p) (upd H' p (.tup [.str "place", v])))) H N
/-- how the errors' classes match -/
structure Exm (K : PySem.W.Frag) : Prop where
  uu : PySem.W.exmOne K (.ref (CU K)) (.ref (CU K)) = some true
  bu : PySem.W.exmOne K (.ref (CB K)) (.ref (CU K)) = some false
  bb : PySem.W.exmOne K (.ref (CB K)) (.ref (CB K)) = some true
theorem sc_how : FnScope ["_law_deed", "_law_told", "e"] ["_law_deed"] (defScope s_L_how) := ⟨rfl, rfl, rfl, by decide +kernel, rfl, by decide +kernel, by decide +kernel⟩
theorem uf_first {a b : V} : (uf a b).lookup ("first" : Str) = some a := (look_ne (by decide +kernel)).trans (look_eq (by decide +kernel))
theorem uf_second {a b : V} : (uf a b).lookup ("second" : Str) = some b := look_eq (by decide +kernel)
theorem bf_value {v : V} : (bf v).lookup ("value" : Str) = some v := look_eq (by decide +kernel)
theorem xfc {P : Program} {K : PySem.W.Frag} {C fI : Addr} {q : Str} {st : Stmt} {fs : List Str} (T : ExcT P K C fI q st fs) : XfC K C := ⟨T.ga, T.gg, T.exC, T.hdC⟩
theorem takes_len {X : Cx} {W : WX} (tk : Takes X W) : Takes X (fun cls d σ H => σ.length = X.N.length → W cls d σ H) := fun u s' x => by
  obtain ⟨a, B, sI, pins, σ, H, cls, d, e1, I, e2, e3, e4, e5, e6, e7, w⟩ := x
  exact tk u s' ⟨a, B, sI, pins, σ, H, cls, d, e1, I, e2, e3, e4, e5, e6, e7, w I.len⟩
theorem len3 {σ : L2.St} (h : σ.length = 3) : ∃ a b c, σ = [a, b, c] := by
  match σ, h with
  | [a, b, c], _ => exact ⟨a, b, c, rfl⟩
theorem how_gives {X : Cx} {q : Str} {cdg : Value} (T : Txt X.K X.mg) (XN : Exn X.prog X.K) (M : Exm X.K) :
    LamX.GivesTo X ["_law_deed", "_law_told", "e"] "_law_how" (defScope s_L_how) (He.ga X.K "_law_how") cdg (defBody s_L_how) "_law_deed" q (TTow X.K) := by
  intro f c' s H Q tl act hc h
  refine ⟨_, pss_cons (ps_set (i := 1) sc_how.nd rfl (.inl rfl) pe_non)
    (pss_cons (ps_try_asM (i := 2) (X := (cxOf C8.CX0 X.prog X.w X.K X.mg X.base ["_law_deed", "_law_told", "e"] "_law_how" (defScope s_L_how) (He.ga X.K "_law_how") cdg X.A X.stack s H C8.E0).nox)
        (tb := fun W D σ H => ∃ Ech : XK, (∀ cls d σ' H', Ech cls d H' → σ'.length = 3 → W cls d σ' H') ∧ σ[0]? = some (some (.ref f)) ∧ H c' = some (LamX.CodeO c' q) ∧ tl Ech H (fun _ H' => D.nx σ H')) (Wout := fun _ _ _ _ => False)
        rfl rfl sc_how.nd rfl rfl LamX.takes0 (fun W pn xe tk _ => ?_)
        (.cons (c := .ref (CU X.K)) ⟨rfl, by decide, .inl (T.gl "Uneven" (by decide +kernel))⟩ (fun a oe cls d pn hz hf => pss_one (ps_set (i := 1) sc_how.nd rfl (.inl rfl) (pe_tup (pa_cons pe_str (pa_cons (pe_xf (xfc XN.unev) (XN.unev.no "first" (by decide +kernel)) hz hf (pv 2)) (pa_cons (pe_xf (xfc XN.unev) (XN.unev.no "second" (by decide +kernel)) hz hf (pv 2)) pa_nil))))))
        (.cons (c := .ref (CB X.K)) ⟨rfl, by decide, .inl (T.gl "BadPlace" (by decide +kernel))⟩ (fun a oe cls d pn hz hf => pss_one (ps_set (i := 1) sc_how.nd rfl (.inl rfl) (pe_tup (pa_cons pe_str (pa_cons (pe_xf (xfc XN.bad) (XN.bad.no "value" (by decide +kernel)) hz hf (pv 2)) pa_nil))))) .nil)))
    (pss_one (ps_ret (pv 1)))), ?_⟩
  · refine ⟨fun pins s' σ H' D I h' => ?_⟩
    obtain ⟨Ech, hW, h1, h2, h3⟩ := h'
    exact (pss_one (ps_expr (act _ pn xe Ech _ _ (takes_len tk) hW))).run pins s' σ H' D I ⟨h1, h2, h3⟩
  · refine ⟨_, ?_, rfl, hc, h _⟩
    rintro cls d σ' H' (⟨rfl, dd, a, b, rfl, hd, k⟩ | ⟨rfl, dd, v, rfl, hd, k⟩) hl
    · obtain ⟨x0, x1, x2, rfl⟩ := len3 hl
      refine ⟨true, M.uu, fun _ e ne => ?_, fun z => by cases z⟩
      refine ⟨_, rfl, rfl, rfl, dd, _, _, rfl, hd, uf_first, _, rfl, rfl, rfl, dd, _, _, rfl, hd, uf_second, by show 3 ≤ sizeLine; decide, fun p np => ?_⟩
      exact ⟨_, rfl, k p np⟩
    · obtain ⟨x0, x1, x2, rfl⟩ := len3 hl
      refine ⟨false, M.bu, (fun z => by cases z), fun _ => ⟨true, M.bb, fun _ e ne => ?_, fun z => by cases z⟩⟩
      refine ⟨_, rfl, rfl, rfl, dd, _, _, rfl, hd, bf_value, by show 2 ≤ sizeLine; decide, fun p np => ?_⟩
      exact ⟨_, rfl, k p np⟩
end AW
/-! _law_refused. -/
namespace AW
open PySem PySem.Spec PyProof.Rows L2

/-- f(e, ..), f a name that holds one of some defs -/
def tCallS (i : Nat) (fs : List Addr) (sp : Sp) (E : XK) (t : TA) : TE := fun σ H Q => ∃ f, f ∈ fs ∧ σ[i]? = some (some (.ref f)) ∧ t σ H fun vs H1 => sp vs H1 Q E
theorem pe_callS {X : Cx} {CX : CXT} {k i : Nat} {fs : List Addr} {sp : Sp} {E : XK} {x : Str} {e : Expr} {es : List Expr} {t : TA} {p pos : Pos} (F : ∀ f ∈ fs, FnR X.prog X.w X.K X.mg X.base CX k f sp ∧ PySem.W.keepIn X.K (.ref f) = true) (hr : Room k X.A) (hx : Passes CX X E) (hN : X.N[i]? = some x) (hv : Vis X.env.scope x) (ha : PA X (e :: es) t)
    (hd : (x == ("__debug__" : Str)) = false := by decide) (hcd : (x == ("__classdict__" : Str)) = false := by decide)
    (he : starEach (e :: es) X.env = (false, eval e X.env) :: starEach es X.env := by rfl) (hpl : (backTo pos (starEach es X.env)).any (·.1) = false := by rfl) : PE X (.Call (.Name x p) (e :: es) [] pos) (tCallS i fs sp E t) := by
  refine ⟨fun pins s σ H Q I h => ?_⟩
  obtain ⟨f, hf, hs, h⟩ := h
  exact (ItX.pe_callV (F f hf).1 hr (F f hf).2 hx hN hv ha hd hcd he hpl).run pins s σ H Q I ⟨hs, h⟩
/-- a table that lambdas of _law_refused are told in -/
def lamQ : Str := (("_law_refused" : Str) ++ (".<locals>." : Str)) ++ ("<lambda>" : Str)
abbrev rfC (K : PySem.W.Frag) : Addr := (He.cT K ("_law_refused", none)).1
abbrev rfP (K : PySem.W.Frag) : Addr := (He.cT K ("_law_refused", none)).2
def lamT (K : PySem.W.Frag) : List (Addr × Str) := [(rfP K, lamQ)]
theorem extn_le {H H' : Hp} (e : LamX.ExtN H H') : Le H H' := fun b o h _ n => e b o h n
theorem extn_ex {H H' : Hp} (e : Evl.Ex H H') : LamX.ExtN H H' := fun b o h _ => e b o h
theorem pen_extn {cl : PT} {H H' : Hp} {v : V} {b : Nat} (h : IsPen cl H v b) (e : LamX.ExtN H H') (t : LamX.Tabs cl.2 H') : IsPen cl H' v b := by
  obtain ⟨pd, ns, n, lf, h1, h2, h3, h4, h5, h6, h7⟩ := h
  exact ⟨pd, ns, n, lf, h1, e _ _ h2 (fun _ z => by cases z), e _ _ h3 (fun _ z => by cases z), h4, h5, h6, t⟩
/-- a value that is no place, as data -/
structure WrongD (K : PySem.W.Frag) (H : Hp) (v : V) (d : PyData) : Prop where
  w : Wrong H v
  dp : Dp K H v d
  sh : SeqAt.shaped (.tuple [.str "place", d]) = true
  eq : PyData.eqv d d = true
theorem Le.wrongD {K : PySem.W.Frag} {H H' : Hp} (e : Le H H') {v : V} {d : PyData} (h : WrongD K H v d) : WrongD K H' v d := ⟨e.wrong h.w, dp_le e _ _ h.dp, h.sh, h.eq⟩
def spRef (K : PySem.W.Frag) : Sp := fun vs H Q _ => ∃ (v : V) (cl : PT) (b : Nat) (u : V) (ps : List Pl), vs = [v, u] ∧ cl.2 = lamT K ∧ IsPen cl H v b ∧ b ≤ 900000000 ∧ IsLs K H u ps ∧ 1 ≤ ps.length ∧ ps.length ≤ 1000 ∧ GivesP cl H v (b + 2) (fun w _ => w = .bl true) Q
section
variable {P : Program} {w : World} {K : PySem.W.Frag} {mg : Str → Option Value} {base : Heap}
theorem sc_ref : FnScope ["_law_pen", "_law_places", "_law_at", "_law_wrong", "_law_ask", "_law_bad"] ["_law_pen", "_law_places"] (defScope s_L_refused) := ⟨rfl, rfl, rfl, by decide +kernel, rfl, by decide +kernel, by decide +kernel⟩
abbrev asks (K : PySem.W.Frag) : List Addr := [He.ga K "alike", He.ga K "alike_lots"]
abbrev keys (K : PySem.W.Frag) : List Addr := [He.ga K "list_key", He.ga K "lot_key"]
/-- what the lambdas call -/
structure D7 (P : Program) (w : World) (K : PySem.W.Frag) (mg : Str → Option Value) (base : Heap) : Prop where
  T : Txt K mg
  X : Exn P K
  M : Exm K
  draw : Df P w K mg base CX0 1 (He.ga K "_law_draw") ["_law_pen", "_law_span"] spDraw
  pick : Df P w K mg base CX0 2 (He.ga K "_law_pick") ["_law_pen", "_law_some"] (spPick K)
  al : Df P w K mg base (L2.CX P w) 4 (He.ga K "alike") ["places", "others"] (spAlikeX K)
  lo : Df P w K mg base (L2.CX P w) 4 (He.ga K "alike_lots") ["places", "others"] (spAlikeX K)
  ke : Df P w K mg base (L2.CX P w) 4 (He.ga K "list_key") ["places"] (spKeyX K)
  lk : Df P w K mg base (L2.CX P w) 4 (He.ga K "lot_key") ["places"] (spKeyX K)
theorem asks_ok (D : D7 P w K mg base) : ∀ f ∈ asks K, FnR P w K mg base (L2.CX P w) 4 f (spAlikeX K) ∧ PySem.W.keepIn K (.ref f) = true := fun f hf => by
  simp only [List.mem_cons, List.not_mem_nil, or_false] at hf
  rcases hf with rfl | rfl
  · exact ⟨D.al.raw, D.al.kp⟩
  · exact ⟨D.lo.raw, D.lo.kp⟩
theorem keys_ok (D : D7 P w K mg base) : ∀ f ∈ keys K, FnR P w K mg base (L2.CX P w) 4 f (spKeyX K) ∧ PySem.W.keepIn K (.ref f) = true := fun f hf => by
  simp only [List.mem_cons, List.not_mem_nil, or_false] at hf
  rcases hf with rfl | rfl
  · exact ⟨D.ke.raw, D.ke.kp⟩
  · exact ⟨D.lk.raw, D.lk.kp⟩
abbrev tA1 (K : PySem.W.Frag) (E : XK) : TE := tCallS 4 (asks K) (spAlikeX K) E (tCons (tVar 1) (tCons (tOp rCat (tVar 1) (tSl (rSlL K) (tVar 1) tNoPart (tPart (tC (.int 1))))) tNil))
abbrev tA2 (K : PySem.W.Frag) (E : XK) : TE := tCallS 4 (asks K) (spAlikeX K) E (tCons (tVar 5) (tCons (tLst (tCons (tC .non) tNil)) tNil))
abbrev tA3 (K : PySem.W.Frag) (E : XK) : TE := tCallS 4 (asks K) (spAlikeX K) E (tCons (tVar 1) (tCons (tOp rCat (tVar 5) (tLst (tCons (tC .non) tNil))) tNil))
abbrev tA4 (K : PySem.W.Frag) (E : XK) : TE := tCallS 4 (keys K) (spKeyX K) E (tCons (tOp rCat (tVar 5) (tLst (tCons (tC .non) tNil))) tNil)
theorem BadE.ex {H H' : Hp} {v : V} {E : XK} (h : BadE K H v E) (e : Evl.Ex H H') : BadE K H' v E := fun d H2 e2 hd => h d H2 (e.trans e2) hd
theorem UnE.ex {H H' : Hp} {a b : Int} {E : XK} (h : UnE K H a b E) (e : Evl.Ex H H') : UnE K H' a b E := fun d H2 e2 hd => h d H2 (e.trans e2) hd
theorem bad_cond {t : XK → TE} {σ : L2.St} {H : Hp} {w : V} {d : PyData} {Q : Bool → Hp → Prop} (hT : LamX.Tabs (lamT K) H) (h3 : σ[3]? = some (some w)) (hw : WrongD K H w d)
    (call : ∀ H1 E N, LamX.ExtN H H1 → BadE K H1 w E → t E σ H1 N) (fin : ∀ H', LamX.ExtN H H' → LamX.Tabs (lamT K) H' → Q false H') :
    tTest (tOp (rNeD K) (LamX.tLam (lamT K) (TTow K) t) (tTup (tCons (tC (.str "place")) (tCons (tVar 3) tNil)))) σ H Q := by
  refine ⟨hT, fun H1 e1 t1 N => call H1 _ N e1 fun dd H2 ex hd => .inr ⟨rfl, dd, w, rfl, hd, fun p np => ⟨_, h3, by show 2 ≤ sizeLine; decide, fun q nq => ?_⟩⟩⟩
  have x1 := ex.trans (.new (o := .tup [.str "place", w]) np)
  have x2 := x1.trans (.new (o := .tup [.str "place", w]) nq)
  have e2 : LamX.ExtN H _ := e1.trans (extn_ex x2)
  have dp : Dp K (upd (upd H2 p (.tup [.str "place", w])) q (.tup [.str "place", w])) w d := dp_le (extn_le e2) _ _ hw.dp
  refine ⟨.tuple [.str "place", d], .tuple [.str "place", d], .tup (.of (by rw [upd_ne (ne_of_none upd_same nq)]; exact upd_same)) (.cons (.str _) (.cons dp .nil)), .tup (.of upd_same) (.cons (.str _) (.cons dp .nil)), hw.sh, hw.sh, false, ?_, fin _ e2 (tabs_ex t1 x2)⟩
  have e : PyData.eqv (.tuple [.str "place", d]) (.tuple [.str "place", d]) = true := by
    simp [PyData.eqv, PyData.eqvAll, hw.eq]
  rw [e]
  rfl
theorem un_sh (a b : Int) : SeqAt.shaped (.tuple [.str "uneven", .int a, .int b]) = true := by
  refine Bool.and_eq_true_iff.mpr ⟨?_, decide_eq_true ?_⟩
  · simp [PyData.canLay0, PyData.canLayAll0]
    decide +kernel
  · simp [PyData.depth, PyData.depthAll]
theorem un_cond {t : XK → TE} {σ : L2.St} {H : Hp} {ul : Addr} {ys : List V} {n : Nat} {Q : Bool → Hp → Prop} (hT : LamX.Tabs (lamT K) H) (h1 : σ[1]? = some (some (.ref ul))) (hul : H ul = some (.lst ys)) (hn : ys.length = n)
    (call : ∀ H1 E N, LamX.ExtN H H1 → UnE K H1 n (n + 1) E → t E σ H1 N) (fin : ∀ H', LamX.ExtN H H' → LamX.Tabs (lamT K) H' → Q false H') :
    tTest (tOp (rNeD K) (LamX.tLam (lamT K) (TTow K) t) (tTup (tCons (tC (.str "uneven")) (tCons (tCB (rLen K) (tCons (tVar 1) tNil)) (tCons (tOp rPl (tCB (rLen K) (tCons (tVar 1) tNil)) (tC (.int 1))) tNil))))) σ H Q := by
  refine ⟨hT, fun H1 e1 t1 N => call H1 _ N e1 fun dd H2 ex hd => .inl ⟨rfl, dd, _, _, rfl, hd, fun p np => ?_⟩⟩
  have x1 := ex.trans (.new (o := .tup [.str "uneven", .int n, .int (n + 1)]) np)
  have hu2 := (extn_le (e1.trans (extn_ex x1))).lst hul
  have ml : LenV K (.ref ul) (upd H2 p (.tup [.str "uneven", .int n, .int (n + 1)])) n := .inl ⟨ys, .of hu2, hn.symm⟩
  refine ⟨_, h1, _, n, rfl, ml, _, h1, _, n, rfl, ml, _, _, rfl, rfl, by show 3 ≤ sizeLine; decide, fun q nq => ?_⟩
  have x2 := x1.trans (.new (o := .tup [.str "uneven", .int n, .int (n + 1)]) nq)
  refine ⟨.tuple [.str "uneven", .int n, .int (n + 1)], .tuple [.str "uneven", .int n, .int (n + 1)], .tup (.of (by rw [upd_ne (ne_of_none upd_same nq)]; exact upd_same)) (.cons (.str _) (.cons (.int _) (.cons (.int _) .nil))), .tup (.of upd_same) (.cons (.str _) (.cons (.int _) (.cons (.int _) .nil))), un_sh _ _, un_sh _ _, false, ?_, fin _ (e1.trans (extn_ex x2)) (tabs_ex t1 x2)⟩
  have e : PyData.eqv (.tuple [.str "uneven", .int n, .int (n + 1)]) (.tuple [.str "uneven", .int n, .int (n + 1)]) = true := by
    simp [PyData.eqv, PyData.eqvAll]
  rw [e]
  rfl
/-- the lists in the slots -/
structure RefS (K : PySem.W.Frag) (ul Bl : Addr) (w : V) (d : PyData) (ps : List Pl) (ys zs : List V) (i : Nat) (H : Hp) : Prop where
  ul : H ul = some (.lst ys)
  hp : IsPs K H ys ps
  bl : H Bl = some (.lst zs)
  at_ : zs[i]? = some w
  pre : ∀ j x, j < i → zs[j]? = some x → ∃ p, IsPl K H x p
  wr : WrongD K H w d
theorem RefS.le {ul Bl : Addr} {w : V} {d : PyData} {ps : List Pl} {ys zs : List V} {i : Nat} {H H' : Hp} (R : RefS K ul Bl w d ps ys zs i H) (e : Le H H') : RefS K ul Bl w d ps ys zs i H' :=
  ⟨e.lst R.ul, e.ps R.hp, e.lst R.bl, R.at_, fun j x hj hx => let ⟨p, hp⟩ := R.pre j x hj hx; ⟨p, e.pl hp⟩, e.wrongD R.wr⟩
theorem RefS.bads {ul Bl : Addr} {w : V} {d : PyData} {ps : List Pl} {ys zs : List V} {i : Nat} {H : Hp} (R : RefS K ul Bl w d ps ys zs i H) : Bads K H (.ref Bl) w := ⟨zs, i, ⟨Bl, rfl, .inl (.of R.bl)⟩, R.at_, R.pre, R.wr.w⟩
theorem RefS.bads2 {ul Bl q : Addr} {w : V} {d : PyData} {ps : List Pl} {ys zs : List V} {i : Nat} {H : Hp} (R : RefS K ul Bl w d ps ys zs i H) (hq : H q = some (.lst (zs ++ [.non]))) : Bads K H (.ref q) w := by
  have hi : i < zs.length := (List.getElem?_eq_some_iff.mp R.at_).1
  refine ⟨zs ++ [.non], i, ⟨q, rfl, .inl (.of hq)⟩, by rw [List.getElem?_append_left hi]; exact R.at_, fun j x hj hx => ?_, R.wr.w⟩
  rw [List.getElem?_append_left (by omega)] at hx
  exact R.pre j x hj hx
theorem RefS.pp {ul Bl : Addr} {w : V} {d : PyData} {ps : List Pl} {ys zs : List V} {i : Nat} {H : Hp} (R : RefS K ul Bl w d ps ys zs i H) : IsPp K H (.ref ul) ps := ⟨ys, ⟨ul, rfl, .inl (.of R.ul)⟩, R.hp⟩
section
variable {ul Bl : Addr} {w' : V} {d : PyData} {ps : List Pl} {ys zs : List V} {i : Nat} {H : Hp} {σ : L2.St} {f : Addr} {E : XK} {N : VK}
theorem a1_run (R : RefS K ul Bl w' d ps ys zs i H) (hf : f ∈ asks K) (h4 : σ[4]? = some (some (.ref f))) (h1 : σ[1]? = some (some (.ref ul))) (hn : 1 ≤ ps.length) (hz : ps.length ≤ 1000) (hE : UnE K H ps.length (ps.length + 1) E) : tA1 K E σ H N := by
  have hl := Ps.length R.hp
  refine ⟨f, hf, h4, _, h1, _, h1, _, h1, 1, rfl, ul, ys, rfl, .of R.ul, fun p np => ?_⟩
  have e1 : Evl.Ex H (upd H p (.lst (cutV ys none (some 1)))) := .new np
  have hc : (cutV ys none (some 1)) = ys.take 1 := by
    unfold cutV
    have e : HT.sIx ys.length ys.length (some 1) = min 1 ys.length := HT.sIx_nat _ _ 1
    rw [e]
    simp [HT.sIx, List.take_eq_take_iff]
  refine ⟨ul, p, ys, _, rfl, rfl, e1 _ _ R.ul, upd_same, ?_, fun q nq => ?_⟩
  · rw [hc, List.length_take]
    exact Nat.le_trans (by omega : _ ≤ 2000) (by decide)
  have e2 := e1.trans (.new (o := .lst (ys ++ cutV ys none (some 1))) nq)
  have R2 := R.le e2.le
  have tk : ∀ {us : List V} {qs : List Pl} {H : Hp} (m : Nat), IsPs K H us qs → IsPs K H (us.take m) (qs.take m) := by
    intro us qs H m h
    induction h generalizing m with
    | nil => simp; exact .nil
    | cons r t ih =>
      cases m with
      | zero => exact .nil
      | succ m => exact .cons r (ih m)
  have app : ∀ {us us2 : List V} {qs qs2 : List Pl} {H : Hp}, IsPs K H us qs → IsPs K H us2 qs2 → IsPs K H (us ++ us2) (qs ++ qs2) := by
    intro us us2 qs qs2 H h h2
    induction h with
    | nil => exact h2
    | cons r t ih => exact .cons r ih
  refine ⟨.ref ul, .ref q, rfl, .inl ⟨ps, ps ++ ps.take 1, R2.pp, ⟨_, ⟨q, rfl, .inl (.of upd_same)⟩, ?_⟩, ?_, ?_⟩⟩
  · have h := app R2.hp (tk 1 R2.hp)
    rw [← hc] at h
    exact h
  · rw [List.length_append, List.length_take]
    omega
  · have e : (((ps ++ ps.take 1).length : Nat) : Int) = (ps.length : Int) + 1 := by
      rw [List.length_append, List.length_take]
      omega
    rw [e]
    exact hE.ex e2
theorem a2_run (R : RefS K ul Bl w' d ps ys zs i H) (hf : f ∈ asks K) (h4 : σ[4]? = some (some (.ref f))) (h5 : σ[5]? = some (some (.ref Bl))) (hE : BadE K H w' E) : tA2 K E σ H N :=
  ⟨f, hf, h4, _, h5, by show 1 ≤ sizeLine; decide, fun p np => ⟨.ref Bl, .ref p, rfl, .inr (.inl ⟨w', (R.le (Ex.le (Ex.new np))).bads, hE.ex (.new np)⟩)⟩⟩
theorem a3_run (R : RefS K ul Bl w' d ps ys zs i H) (hf : f ∈ asks K) (h4 : σ[4]? = some (some (.ref f))) (h1 : σ[1]? = some (some (.ref ul))) (h5 : σ[5]? = some (some (.ref Bl))) (hz : zs.length ≤ 1000) (hE : BadE K H w' E) : tA3 K E σ H N := by
  refine ⟨f, hf, h4, _, h1, _, h5, by show 1 ≤ sizeLine; decide, fun p np => ⟨Bl, p, zs, [.non], rfl, rfl, (Ex.le (Ex.new np)).lst R.bl, upd_same, Nat.le_trans (by simp; omega : _ ≤ 2000) (by decide), fun q nq => ?_⟩⟩
  have e2 := (Ex.new (o := .lst [.non]) np).trans (.new (o := .lst (zs ++ [.non])) nq)
  have R2 := R.le e2.le
  exact ⟨.ref ul, .ref q, rfl, .inr (.inr ⟨w', ps, R2.pp, R2.bads2 upd_same, hE.ex e2⟩)⟩
theorem a4_run (R : RefS K ul Bl w' d ps ys zs i H) (hf : f ∈ keys K) (h4 : σ[4]? = some (some (.ref f))) (h5 : σ[5]? = some (some (.ref Bl))) (hz : zs.length ≤ 1000) (hE : BadE K H w' E) : tA4 K E σ H N := by
  refine ⟨f, hf, h4, _, h5, by show 1 ≤ sizeLine; decide, fun p np => ⟨Bl, p, zs, [.non], rfl, rfl, (Ex.le (Ex.new np)).lst R.bl, upd_same, Nat.le_trans (by simp; omega : _ ≤ 2000) (by decide), fun q nq => ?_⟩⟩
  have e2 := (Ex.new (o := .lst [.non]) np).trans (.new (o := .lst (zs ++ [.non])) nq)
  have R2 := R.le e2.le
  exact ⟨.ref q, w', rfl, R2.bads2 upd_same, hE.ex e2⟩
end
theorem ok_ref {fd fdH : FuncData} (F : FnP K "_law_refused" s_L_refused fd) (FH : FnP K "_law_how" s_L_how fdH) (D : D7 P w K mg base) (TB : LamX.TabB base mg (rfC K) (rfP K)) : Df P w K mg base CX0 7 (He.ga K "_law_refused") ["_law_pen", "_law_places"] (spRef K) := by
  have T := D.T
  obtain ⟨oc, od, dV, kV, doc, pm, an, cdv, ct, osl, rfl, lk, hcd, dfl, kwd⟩ := id F.ex
  obtain ⟨c, rfl⟩ := He.codeIn_ref hcd
  have ec : rfC K = c := He.codeOf_eq (p := ("_law_refused", none)) lk rfl
  rw [ec] at TB
  obtain ⟨oc2, od2, dV2, kV2, doc2, pm2, an2, cdv2, ct2, osl2, rfl, lkH, hcdH, dfl2, kwd2⟩ := id FH.ex
  refine ⟨⟨_, fn_of lk hcd sc_ref (fun vs H Q E h => ?_) (fun A outer s H vs Q E hr h => ?_), F.bindsN fun _ _ _ _ _ _ us hl => match us, hl with | [_, _], _ => rfl⟩, F.kp⟩
  · obtain ⟨v, cl, b, u, ps, rfl, _⟩ := h
    rfl
  · obtain ⟨v, cl, b, u, ps, rfl, ecl, pen, hb, hls, hn1, hn3, k⟩ := h
    have hmT : (rfP K, lamQ) ∈ lamT K := List.mem_cons_self
    have hu : ∀ p ∈ lamT K, p.1 = rfP K → p.2 = lamQ := fun p hp _ => by
      rcases List.mem_cons.mp hp with e | e
      · rw [e]
      · cases e
    have hbH := FH.bindsN (ps := ["_law_deed"]) fun _ _ _ _ _ _ us hl => match us, hl with | [_], _ => rfl
    refine ⟨_, PSs.nox (pss_cons (ps_par (i := 2) (j := 3) rfl sc_ref.nd rfl rfl (by decide) rfl rfl (pa_cons (pe_df D.draw (hr.mono (by decide)) rfl (T.gl "_law_draw" (by decide +kernel)) pass0 (pa_cons (pv 0) (pa_cons (pe_callB call_len rfl (T.fr "len" (by decide +kernel)) boot_len (pa_cons (pv 1) pa_nil)) pa_nil)))
        (pa_cons (pe_df D.pick (hr.mono (by decide)) rfl (T.gl "_law_pick" (by decide +kernel)) pass0 (pa_cons (pv 0) (pa_cons (pe_lst (pa_cons pe_non (pa_cons pe_int (pa_cons (pe_tup (pa_cons pe_int (pa_cons pe_int (pa_cons pe_int pa_nil)))) (pa_cons pe_str (pa_cons (pe_lst pa_nil) pa_nil)))))) pa_nil))) pa_nil)) (by rfl))
      (pss_cons (ps_set (i := 5) sc_ref.nd rfl (.inr rfl) (pe_callTy call_list_of rfl (T.fr "list" (by decide +kernel)) boot_list (pa_cons (pv 1) pa_nil)))
      (pss_cons (ps_asg (pv 3) (pg_sub (pv 5) (pv 2) set_list))
      (pss_cons (ps_for PassesOwn.never rfl (pi_list (pe_lst (pa_cons (pe_glob (v := .ref (He.ga K "alike")) rfl (T.gl "alike" (by decide +kernel)) rfl) (pa_cons (pe_glob (v := .ref (He.ga K "alike_lots")) rfl (T.gl "alike_lots" (by decide +kernel)) rfl) pa_nil)))) (pg_name (i := 4) sc_ref.nd rfl (.inr rfl))
        (pss_cons (ps_if (pt_cmpR (op_neD hr.units) (LamX.pe_lamcall (T := lamT K) (TT := TTow K) (Ng := ["_law_deed", "_law_told", "e"]) (a := "_law_deed") (k := 4) (t := tA1 K) rfl (T.gl "_law_how" (by decide +kernel)) FH.kp lkH hcdH hbH sc_how rfl (.inl rfl) (how_gives T D.X D.M) TB rfl hmT hu hr
              (LamX.lamS_by (show LamX.lamSB (defScope s_L_refused) _ = true by decide +kernel)) rfl (fun _ _ _ _ _ => rfl) (fun A outer s H E f c' hr2 => pe_callS (asks_ok D) hr2 (passes_call (takes_of rfl rfl rfl rfl) (fun _ _ _ _ h => h)) rfl (.inr (.inr rfl)) (pa_cons (pv 1) (pa_cons (pe_op op_cat (pv 1) (pe_slice sl_list (pv 1) po_none (po_some pe_int))) pa_nil))))
            (pe_tup (pa_cons pe_str (pa_cons (pe_callB call_len rfl (T.fr "len" (by decide +kernel)) boot_len (pa_cons (pv 1) pa_nil)) (pa_cons (pe_op op_add (pe_callB call_len rfl (T.fr "len" (by decide +kernel)) boot_len (pa_cons (pv 1) pa_nil)) pe_int) pa_nil)))) (nomark _)) (pss_one (ps_ret pe_bl)) pss_nil)
        (pss_cons (ps_if (pt_cmpR (op_neD hr.units) (LamX.pe_lamcall (T := lamT K) (TT := TTow K) (Ng := ["_law_deed", "_law_told", "e"]) (a := "_law_deed") (k := 4) (t := tA2 K) rfl (T.gl "_law_how" (by decide +kernel)) FH.kp lkH hcdH hbH sc_how rfl (.inl rfl) (how_gives T D.X D.M) TB rfl hmT hu hr
              (LamX.lamS_by (show LamX.lamSB (defScope s_L_refused) _ = true by decide +kernel)) rfl (fun _ _ _ _ _ => rfl) (fun A outer s H E f c' hr2 => pe_callS (asks_ok D) hr2 (passes_call (takes_of rfl rfl rfl rfl) (fun _ _ _ _ h => h)) rfl (.inr (.inr rfl)) (pa_cons (pv 5) (pa_cons (pe_lst (pa_cons pe_non pa_nil)) pa_nil))))
            (pe_tup (pa_cons pe_str (pa_cons (pv 3) pa_nil))) (nomark _)) (pss_one (ps_ret pe_bl)) pss_nil)
        (pss_one (ps_if (pt_cmpR (op_neD hr.units) (LamX.pe_lamcall (T := lamT K) (TT := TTow K) (Ng := ["_law_deed", "_law_told", "e"]) (a := "_law_deed") (k := 4) (t := tA3 K) rfl (T.gl "_law_how" (by decide +kernel)) FH.kp lkH hcdH hbH sc_how rfl (.inl rfl) (how_gives T D.X D.M) TB rfl hmT hu hr
              (LamX.lamS_by (show LamX.lamSB (defScope s_L_refused) _ = true by decide +kernel)) rfl (fun _ _ _ _ _ => rfl) (fun A outer s H E f c' hr2 => pe_callS (asks_ok D) hr2 (passes_call (takes_of rfl rfl rfl rfl) (fun _ _ _ _ h => h)) rfl (.inr (.inr rfl)) (pa_cons (pv 1) (pa_cons (pe_op op_cat (pv 5) (pe_lst (pa_cons pe_non pa_nil))) pa_nil))))
            (pe_tup (pa_cons pe_str (pa_cons (pv 3) pa_nil))) (nomark _)) (pss_one (ps_ret pe_bl)) pss_nil)))))
      (pss_cons (ps_for PassesOwn.never rfl (pi_list (pe_lst (pa_cons (pe_glob (v := .ref (He.ga K "list_key")) rfl (T.gl "list_key" (by decide +kernel)) rfl) (pa_cons (pe_glob (v := .ref (He.ga K "lot_key")) rfl (T.gl "lot_key" (by decide +kernel)) rfl) pa_nil)))) (pg_name (i := 4) sc_ref.nd rfl (.inr rfl))
        (pss_one (ps_if (pt_cmpR (op_neD hr.units) (LamX.pe_lamcall (T := lamT K) (TT := TTow K) (Ng := ["_law_deed", "_law_told", "e"]) (a := "_law_deed") (k := 4) (t := tA4 K) rfl (T.gl "_law_how" (by decide +kernel)) FH.kp lkH hcdH hbH sc_how rfl (.inl rfl) (how_gives T D.X D.M) TB rfl hmT hu hr
              (LamX.lamS_by (show LamX.lamSB (defScope s_L_refused) _ = true by decide +kernel)) rfl (fun _ _ _ _ _ => rfl) (fun A outer s H E f c' hr2 => pe_callS (keys_ok D) hr2 (passes_call (takes_of rfl rfl rfl rfl) (fun _ _ _ _ h => h)) rfl (.inr (.inr rfl)) (pa_cons (pe_op op_cat (pv 5) (pe_lst (pa_cons pe_non pa_nil))) pa_nil)))
            (pe_tup (pa_cons pe_str (pa_cons (pv 3) pa_nil))) (nomark _)) (pss_one (ps_ret pe_bl)) pss_nil)))
      (pss_one (ps_ret pe_bl))))))), ?_⟩
    obtain ⟨ul, ys, rfl, hul, hps⟩ := hls
    have hl := Ps.length hps
    refine ⟨_, rfl, _, rfl, _, _, rfl, .inl ⟨ys, .of hul, rfl⟩, v, cl, b, (ys.length : Nat), rfl, pen, by omega, by omega, by omega, fun w1 H1 e1 p1 ⟨at_, ew, a0, a1⟩ => ?_⟩
    subst ew
    refine ⟨_, rfl, by show 3 ≤ sizeLine; decide, fun t3 n3 => ⟨by show 0 ≤ sizeLine; decide, fun l0 n0 => ⟨by show 5 ≤ sizeLine; decide, fun l5 n5 => ?_⟩⟩⟩
    have x05 := (Ex.new (o := .lst []) n0).trans (.new (o := .lst [.non, .int 3, .ref t3, .str "w", .ref l0]) n5)
    have x35 := (Ex.new (o := .tup [.int 1, .int 2, .int 3]) n3).trans x05
    refine ⟨v, cl, l5, _, b + 1, rfl, p1.ex x35, by omega, .of upd_same, by show 0 < 5; decide, by show 5 ≤ 1000; decide, fun w2 H2 e2 p2 hw => ?_⟩
    have e02 := (e1.trans (Ex.le x35)).trans e2
    obtain ⟨D2, wD⟩ : ∃ D2, WrongD K H2 w2 D2 := by
      simp only [List.mem_cons, List.not_mem_nil, or_false] at hw
      rcases hw with hw | hw | hw | hw | hw
      · subst hw
        exact ⟨.none, .non, .non, by decide +kernel, rfl⟩
      · subst hw
        exact ⟨.int 3, .int 3, .int 3, by decide +kernel, by decide +kernel⟩
      · subst hw
        have h := ((Ex.le x05).trans e2).tup upd_same
        exact ⟨.tuple [.int 1, .int 2, .int 3], .tup h, .tup (.of h) (.cons (.int _) (.cons (.int _) (.cons (.int _) .nil))), by decide +kernel, by decide +kernel⟩
      · subst hw
        exact ⟨.str "w", .str _, .str _, by decide +kernel, by decide +kernel⟩
      · subst hw
        have h := ((Ex.le (Ex.new n5)).trans e2).lst upd_same
        exact ⟨.list [], .lst h, .lst (.of h) .nil, by decide +kernel, by decide +kernel⟩
    refine ⟨_, _, rfl, ?_⟩
    have hul2 := e02.lst hul
    refine ⟨_, rfl, ul, ys, rfl, .inl (.of hul2), fun Bl nB => ?_⟩
    have hat : at_.toNat < ys.length := by omega
    refine ⟨_, rfl, _, rfl, _, rfl, Bl, ys, at_, at_.toNat, rfl, rfl, upd_same, ?_, ?_⟩
    · unfold ixN
      rw [if_pos a0, if_pos a1]
    rw [upd_upd]
    have eB : Evl.Ex H2 (upd H2 Bl (.lst (ys.set at_.toNat w2))) := .new nB
    have R4 : RefS K ul Bl w2 D2 ps ys (ys.set at_.toNat w2) at_.toNat (upd H2 Bl (.lst (ys.set at_.toNat w2))) := by
      refine ⟨eB _ _ hul2, eB.le.ps (e02.ps hps), upd_same, ?_, fun j x hj hx => ?_, eB.le.wrongD wD⟩
      · rw [List.getElem?_set_self hat]
      · rw [List.getElem?_set_ne (by omega)] at hx
        obtain ⟨p, _, hp⟩ := Ps.get (e02.ps hps) hx
        exact ⟨p, eB.le.pl hp⟩
    have zl : (ys.set at_.toNat w2).length ≤ 1000 := by
      rw [List.length_set]
      omega
    have p4 := p2.ex eB
    have le4 := e02.trans eB.le
    generalize upd H2 Bl (.lst (ys.set at_.toNat w2)) = H4 at *
    have t4 : LamX.Tabs (lamT K) H4 := by
      obtain ⟨_, _, _, _, _, _, _, _, _, _, t⟩ := p4
      rw [ecl] at t
      exact t
    refine ⟨by show 2 ≤ sizeLine; decide, fun L1 nL => ⟨L1, rfl, ⟨_, .of upd_same⟩, for_list (xs := [.ref (He.ga K "alike"), .ref (He.ga K "alike_lots")]) (fun _ σ H' => (∃ a4, σ = [some v, some (.ref ul), some (.int at_), some w2, a4, some (.ref Bl)]) ∧ LamX.ExtN H4 H' ∧ LamX.Tabs (lamT K) H' ∧ H' L1 = some (.lst [.ref (He.ga K "alike"), .ref (He.ga K "alike_lots")])) ?_ ?_ ?_ ?_⟩⟩
    · exact ⟨⟨_, rfl⟩, extn_ex (.new nL), tabs_ex t4 (.new nL), upd_same⟩
    · rintro i σ H' _ ⟨_, _, _, h⟩
      exact .of h
    · rintro i x σ H' hx ⟨⟨a4, rfl⟩, eH, tH, hL⟩
      obtain ⟨f, hf, rfl⟩ : ∃ f, f ∈ asks K ∧ x = .ref f := by
        have hm := List.mem_of_getElem? hx
        simp only [List.mem_cons, List.not_mem_nil, or_false] at hm
        rcases hm with hm | hm
        · exact ⟨_, List.mem_cons_self, hm⟩
        · exact ⟨_, List.mem_cons_of_mem _ List.mem_cons_self, hm⟩
      have R5 := R4.le (extn_le eH)
      refine un_cond tH rfl R5.ul hl (fun H1 E N e hE => a1_run (R5.le (extn_le e)) hf rfl rfl hn1 hn3 hE) fun H6 e6 t6 => iteF ?_
      have R6 := R5.le (extn_le e6)
      refine bad_cond t6 rfl R6.wr (fun H1 E N e hE => a2_run (R6.le (extn_le e)) hf rfl rfl hE) fun H7 e7 t7 => iteF ?_
      have R7 := R6.le (extn_le e7)
      refine bad_cond t7 rfl R7.wr (fun H1 E N e hE => a3_run (R7.le (extn_le e)) hf rfl rfl rfl zl hE) fun H8 e8 t8 => iteF ?_
      exact ⟨⟨_, rfl⟩, ((eH.trans e6).trans e7).trans e8, t8, ((e6.trans e7).trans e8) _ _ hL (fun _ z => by cases z)⟩
    · rintro σ H' ⟨⟨a4, rfl⟩, eH, tH, hL⟩
      refine ⟨by show 2 ≤ sizeLine; decide, fun L2 nL2 => ⟨L2, rfl, ⟨_, .of upd_same⟩, for_list (xs := [.ref (He.ga K "list_key"), .ref (He.ga K "lot_key")]) (fun _ σ H' => (∃ a4, σ = [some v, some (.ref ul), some (.int at_), some w2, a4, some (.ref Bl)]) ∧ LamX.ExtN H4 H' ∧ LamX.Tabs (lamT K) H' ∧ H' L2 = some (.lst [.ref (He.ga K "list_key"), .ref (He.ga K "lot_key")])) ?_ ?_ ?_ ?_⟩⟩
      · exact ⟨⟨_, rfl⟩, eH.trans (extn_ex (.new nL2)), tabs_ex tH (.new nL2), upd_same⟩
      · rintro i σ H' _ ⟨_, _, _, h⟩
        exact .of h
      · rintro i x σ H' hx ⟨⟨a4, rfl⟩, eH, tH, hL⟩
        obtain ⟨f, hf, rfl⟩ : ∃ f, f ∈ keys K ∧ x = .ref f := by
          have hm := List.mem_of_getElem? hx
          simp only [List.mem_cons, List.not_mem_nil, or_false] at hm
          rcases hm with hm | hm
          · exact ⟨_, List.mem_cons_self, hm⟩
          · exact ⟨_, List.mem_cons_of_mem _ List.mem_cons_self, hm⟩
        have R5 := R4.le (extn_le eH)
        refine bad_cond tH rfl R5.wr (fun H1 E N e hE => a4_run (R5.le (extn_le e)) hf rfl rfl zl hE) fun H6 e6 t6 => iteF ?_
        exact ⟨⟨_, rfl⟩, eH.trans e6, t6, e6 _ _ hL (fun _ z => by cases z)⟩
      · rintro σ H' ⟨⟨a4, rfl⟩, eH, tH, hL⟩
        exact k _ _ (le4.trans (extn_le eH)) (pen_extn p4 eH (by rw [ecl]; exact tH)) rfl
end
end AW
/-! law. -/
namespace AW
open PySem PySem.Spec PyProof.Rows L2

def spLaw (K : PySem.W.Frag) : Sp := fun vs H Q _ => ∃ (a : Addr) (ns : List Int), vs = [.ref a] ∧ SqL K H a (ns.map V.int) ∧ LamX.Tabs (lamT K) H ∧ ∀ H', Q (.bl true) H'
theorem pget {α β : Type} {F : α → β → Prop} : ∀ {us : List α} {ps : List β} {i : Nat} {v : α}, Paired F us ps → us[i]? = some v → ∃ p, ps[i]? = some p ∧ F v p
  | _, _, _, _, .nil, e => by simp at e
  | _, _, 0, _, .cons r _, e => by simp at e; subst e; exact ⟨_, rfl, r⟩
  | _, _, i + 1, _, .cons _ t, e => by
    obtain ⟨u, h1, h2⟩ := pget (i := i) t (by simpa using e)
    exact ⟨u, by simpa using h1, h2⟩
theorem plen {α β : Type} {F : α → β → Prop} : ∀ {us : List α} {ps : List β}, Paired F us ps → us.length = ps.length
  | _, _, .nil => rfl
  | _, _, .cons _ t => by rw [List.length_cons, List.length_cons, plen t]
theorem pof {β : Type} {F : V → β → Prop} : ∀ {ys : List V} {ps : List β}, ys.length = ps.length → (∀ (k : Nat) (y : V), ys[k]? = some y → ∃ p, ps[k]? = some p ∧ F y p) → Paired F ys ps
  | [], [], _, _ => .nil
  | [], _ :: _, e, _ => by cases e
  | _ :: _, [], e, _ => by cases e
  | y :: ys, p :: ps, e, h => by
    refine .cons ?_ (pof (Nat.succ.inj e) fun k z hz => by simpa using h (k + 1) z (by simpa using hz))
    obtain ⟨q, hq, hp⟩ := h 0 y rfl
    simp at hq
    subst hq
    exact hp
theorem lc_map {K : PySem.W.Frag} {A B : V → Hp → Pl → Prop} {f : Pl → Pl} {te : TE} {σ : L2.St} {H : Hp} {Q : VK} {i j : Nat} {u : V} {us : List V} {ps : List Pl} (aLe : ∀ v p H H', Le H H' → A v H p → A v H' p) (bNl : ∀ v p H H', Nl H H' → B v H p → B v H' p) (hu : σ[i]? = some (some u)) (sq : IsSq K H u us)
    (hp : Paired (fun v p => A v H p) us ps) (hz : ps.length ≤ 1000) (step : ∀ x p H' (Q' : VK), A x H' p → p ∈ ps → Evl.Ex H H' → (∀ y H2, Evl.Ex H' H2 → B y H2 (f p) → Q' y H2) → te ((wipe σ [j]).set j (some x)) H' Q')
    (fin : ∀ D ys H', Evl.Ex H H' → H' D = some (.lst ys) → Paired (fun v p => B v H' p) ys (ps.map f) → Q (.ref D) H') : tLc (iSq K i) (gName j) tYes te [j] σ H Q := by
  have hl := plen hp
  refine lc_sq (us := us) (fun k v H' => ∃ p, ps[k]? = some p ∧ B v H' (f p)) ?_ hu sq (by rw [hl]; exact Nat.lt_of_le_of_lt hz (by decide)) ?_ ?_
  · rintro k v H1 H2 e ⟨p, h1, h2⟩
    exact ⟨p, h1, bNl _ _ _ _ e h2⟩
  · rintro k x H' Q' hx e kk
    obtain ⟨p, h1, h2⟩ := pget hp hx
    exact step x p H' Q' (aLe _ _ _ _ e.le h2) (List.mem_of_getElem? h1) e fun y H2 e2 hb => kk y H2 e2 ⟨p, h1, hb⟩
  · rintro D ys H' e hD hly hR
    refine fin D ys H' e hD (pof (by rw [hly, hl, List.length_map]) fun k y hy => ?_)
    obtain ⟨p, h1, h2⟩ := hR k y hy
    exact ⟨_, by rw [List.getElem?_map, h1]; rfl, h2⟩
theorem pls_take {K : PySem.W.Frag} {H : Hp} : ∀ {us : List V} {qs : List Pl} (m : Nat), IsPs K H us qs → IsPs K H (us.take m) (qs.take m)
  | _, _, 0, _ => .nil
  | _, _, _ + 1, .nil => .nil
  | _, _, m + 1, .cons r t => .cons r (pls_take m t)
section
variable {P : Program} {w : World} {K : PySem.W.Frag} {mg : Str → Option Value} {base : Heap}
theorem rows_ne {H : Hp} {D E : Addr} {ys zs : List V} {c d : List Pl} {Q : Bool → Hp → Prop} (h1 : H D = some (.lst ys)) (h2 : IsRows K H ys c) (h3 : H E = some (.lst zs)) (h4 : IsRows K H zs d) (e : c = d) (q : Q false H) : rNeD K (.ref D) (.ref E) H fun x H' => ∃ k, x = .bl k ∧ Q k H' := by
  subst e
  refine ⟨.list (c.map rowD), .list (c.map rowD), .lst (.of h1) (rows_dp h2), .lst (.of h3) (rows_dp h4), figL_shaped c, figL_shaped c, false, ?_, q⟩
  rw [PyData.eqv, rows_eqv, decide_eq_true rfl]
  rfl
theorem sc_law : FnScope ["_law_script", "_law_pen", "_law_again", "_law_rows", "_law_six_here", "_law_others", "_law_places", "_law_goals", "_law_told", "_law_row_here", "_law_place_here"] ["_law_script"] (defScope s_law) := ⟨rfl, rfl, rfl, by decide +kernel, rfl, by decide +kernel, by decide +kernel⟩
abbrev lawN : List Str := ["_law_script", "_law_pen", "_law_again", "_law_rows", "_law_six_here", "_law_others", "_law_places", "_law_goals", "_law_told", "_law_row_here", "_law_place_here"]
structure D8 (P : Program) (w : World) (K : PySem.W.Frag) (mg : Str → Option Value) (base : Heap) : Prop where
  T : Txt K mg
  begin_ : Df P w K mg base CX0 1 (He.ga K "_law_begin") ["_law_script"] (spBegin K)
  list : Df P w K mg base CX0 4 (He.ga K "_law_list") ["_law_pen", "_law_most"] (spList K)
  onto : Df P w K mg base CX0 4 (He.ga K "_law_onto") ["_law_pen"] (spOnto K)
  ren : Df P w K mg base CX0 2 (He.ga K "_law_renamed") ["_law_six_here", "_law_row_here"] (spRen K)
  plc : Df P w K mg base CX0 4 (He.ga K "_law_place") ["_law_row_here"] (spPlc K)
  six : Df P w K mg base CX0 3 (He.ga K "_law_six") ["_law_renaming"] (spSix K)
  row : Df P w K mg base CX0 2 (He.ga K "_law_row") ["_law_place_here"] (spRow K)
  tw : Df P w K mg base CX0 1 (He.ga K "_law_twist") ["_law_one", "_law_other"] (spTwR K)
  alike : Df P w K mg base CX0 11 (He.ga K "alike") ["places", "others"] (spAlike K)
  key : Df P w K mg base CX0 11 (He.ga K "list_key") ["places"] (spKey K)
  ref : Df P w K mg base CX0 7 (He.ga K "_law_refused") ["_law_pen", "_law_places"] (spRef K)
theorem binds_law {fd : FuncData} (F : FnP K "law" s_law fd) (s : Shared) (u : Value) : BindsTo s fd ⟨[u], []⟩ [("_law_script", u)] := F.bindsA (ps := ["_law_script"]) (fun _ _ _ _ _ _ us hl => match us, hl with | [_], _ => rfl) s [u] rfl
theorem ok_law {fd : FuncData} (F : FnP K "law" s_law fd) (D : D8 P w K mg base) : FnOk P w K mg base CX0 12 (He.ga K "law") fd ["_law_script"] (spLaw K) := by
  refine F.ok sc_law (fun vs H Q E h => ?_) (fun cdv A outer s H vs Q E hr h => ?_)
  · obtain ⟨a, ns, rfl, _⟩ := h
    rfl
  · have T := D.T
    obtain ⟨a, ns, rfl, sq, tt, k⟩ := h
    refine ⟨_, PSs.nox (pss_cons (ps_set (i := 1) sc_law.nd rfl (.inl rfl) (pe_df D.begin_ (hr.mono (by decide)) rfl (T.gl "_law_begin" (by decide +kernel)) pass0 (pa_cons (pv 0) pa_nil)))
      (pss_cons (ps_for PassesOwn.never rfl (pi_range1 rfl (T.fr "range" (by decide +kernel)) (pa_cons pe_int pa_nil)) (pg_name (i := 2) sc_law.nd rfl (.inl rfl))
        (pss_cons (ps_asg (pe_tup (pa_cons (pe_df D.list (hr.mono (by decide)) rfl (T.gl "_law_list" (by decide +kernel)) pass0 (pa_cons (pv 1) (pa_cons pe_int pa_nil))) (pa_cons (pe_df D.onto (hr.mono (by decide)) rfl (T.gl "_law_onto" (by decide +kernel)) pass0 (pa_cons (pv 1) pa_nil)) pa_nil)))
            (pg_tup (n := 2) rfl (pgs_cons (pg_name (i := 3) sc_law.nd rfl (.inl rfl)) (pgs_cons (pg_name (i := 4) sc_law.nd rfl (.inr rfl)) pgs_nil))))
        (pss_cons (ps_setLc (i := 5) (own := [("_law_row_here", 9)]) (g := gName 9) (tt := tYes) (te := tD (spRen K) E0 (tCons (tVar 4) (tCons (tVar 9) tNil))) rfl sc_law.nd rfl rfl (sw_true rfl rfl rfl (by decide +kernel)) (pi_sq (i := 3) (pv 3)) (blkOk_by (N := lawN) (sc := defScope s_law) (by decide +kernel))
            (fun _ _ _ _ _ => pg_name (i := 9) sc_law.nd rfl (Or.inl rfl)) (fun _ _ _ _ _ => pts_nil) (fun _ _ _ _ _ => pe_df D.ren (hr.mono (by decide)) rfl (T.gl "_law_renamed" (by decide +kernel)) pass0 (pa_cons (pv 4) (pa_cons (pv 9) pa_nil))))
        (pss_cons (ps_par (i := 6) (j := 7) rfl sc_law.nd rfl rfl (by decide) rfl rfl (pa_cons
            (pe_lc (own := [("_law_row_here", 9)]) (g := gName 9) (tt := tYes) (te := tD (spPlc K) E0 (tCons (tVar 9) tNil)) rfl sc_law.nd (pi_sq (i := 3) (pv 3)) (blkOk_by (N := lawN) (sc := defScope s_law) (by decide +kernel))
              (fun _ _ _ _ _ => pg_name (i := 9) sc_law.nd rfl (Or.inl rfl)) (fun _ _ _ _ _ => pts_nil) (fun _ _ _ _ _ => pe_df D.plc (hr.mono (by decide)) rfl (T.gl "_law_place" (by decide +kernel)) pass0 (pa_cons (pv 9) pa_nil))) (pa_cons
            (pe_lc (own := [("_law_row_here", 9)]) (g := gName 9) (tt := tYes) (te := tD (spPlc K) E0 (tCons (tVar 9) tNil)) rfl sc_law.nd (pi_sq (i := 5) (pv 5)) (blkOk_by (N := lawN) (sc := defScope s_law) (by decide +kernel))
              (fun _ _ _ _ _ => pg_name (i := 9) sc_law.nd rfl (Or.inl rfl)) (fun _ _ _ _ _ => pts_nil) (fun _ _ _ _ _ => pe_df D.plc (hr.mono (by decide)) rfl (T.gl "_law_place" (by decide +kernel)) pass0 (pa_cons (pv 9) pa_nil))) pa_nil)) (by rfl))
        (pss_cons (ps_set (i := 8) sc_law.nd rfl (.inr rfl) (pe_df D.six (hr.mono (by decide)) rfl (T.gl "_law_six" (by decide +kernel)) pass0 (pa_cons (pe_df D.alike hr rfl (T.gl "alike" (by decide +kernel)) pass0 (pa_cons (pv 6) (pa_cons (pe_tupleOf rfl (T.fr "tuple" (by decide +kernel)) (pv 7)) pa_nil))) pa_nil)))
        (pss_cons (ps_if (PW.pt (pw_or (pt_cmp (pc_isN (pv 8))) (pw_or1 (pt_cmpR op_notIn_seq (pe_df D.tw (hr.mono (by decide)) rfl (T.gl "_law_twist" (by decide +kernel)) pass0 (pa_cons (pe_ix ix_tup (pv 8) pe_int (fun _ _ => rfl)) (pa_cons (pe_ix ix_tup (pv 8) pe_int (fun _ _ => rfl)) pa_nil)))
            (pe_tup (pa_cons pe_int (pa_cons (pe_un un_neg pe_int) pa_nil))) rfl)))) (pss_one (ps_ret pe_bl)) pss_nil)
        (pss_cons (ps_if (pt_cmpR (op_neD hr.units) (pe_lc (own := [("_law_row_here", 9)]) (g := gName 9) (tt := tYes) (te := tD (spRen K) E0 (tCons (tVar 8) (tCons (tVar 9) tNil))) rfl sc_law.nd (pi_sq (i := 3) (pv 3)) (blkOk_by (N := lawN) (sc := defScope s_law) (by decide +kernel))
              (fun _ _ _ _ _ => pg_name (i := 9) sc_law.nd rfl (Or.inl rfl)) (fun _ _ _ _ _ => pts_nil) (fun _ _ _ _ _ => pe_df D.ren (hr.mono (by decide)) rfl (T.gl "_law_renamed" (by decide +kernel)) pass0 (pa_cons (pv 8) (pa_cons (pv 9) pa_nil)))) (pv 5) (nomark _)) (pss_one (ps_ret pe_bl)) pss_nil)
        (pss_cons (ps_if (pt_cmpR (op_neD hr.units) (pe_df D.key hr rfl (T.gl "list_key" (by decide +kernel)) pass0 (pa_cons (pe_tupleOf rfl (T.fr "tuple" (by decide +kernel)) (pv 6)) pa_nil)) (pe_df D.key hr rfl (T.gl "list_key" (by decide +kernel)) pass0 (pa_cons (pv 7) pa_nil)) (nomark _)) (pss_one (ps_ret pe_bl)) pss_nil)
        (pss_cons (ps_if (PW.pt (pw_or (pt_cmpR (op_neD hr.units) (pe_lc (own := [("_law_place_here", 10)]) (g := gName 10) (tt := tYes) (te := tD (spRow K) E0 (tCons (tVar 10) tNil)) rfl sc_law.nd (pi_sq (i := 6) (pv 6)) (blkOk_by (N := lawN) (sc := defScope s_law) (by decide +kernel))
              (fun _ _ _ _ _ => pg_name (i := 10) sc_law.nd rfl (Or.inl rfl)) (fun _ _ _ _ _ => pts_nil) (fun _ _ _ _ _ => pe_df D.row (hr.mono (by decide)) rfl (T.gl "_law_row" (by decide +kernel)) pass0 (pa_cons (pv 10) pa_nil))) (pv 3) (nomark _))
            (pw_or1 (pt_cmpR (op_neD hr.units) (pe_lc (own := [("_law_place_here", 10)]) (g := gName 10) (tt := tYes) (te := tD (spRow K) E0 (tCons (tVar 10) tNil)) rfl sc_law.nd (pi_sq (i := 7) (pv 7)) (blkOk_by (N := lawN) (sc := defScope s_law) (by decide +kernel))
              (fun _ _ _ _ _ => pg_name (i := 10) sc_law.nd rfl (Or.inl rfl)) (fun _ _ _ _ _ => pts_nil) (fun _ _ _ _ _ => pe_df D.row (hr.mono (by decide)) rfl (T.gl "_law_row" (by decide +kernel)) pass0 (pa_cons (pv 10) pa_nil))) (pv 5) (nomark _))))) (pss_one (ps_ret pe_bl)) pss_nil)
        (pss_one (ps_if (pt_not (pt_val (pe_df D.ref (hr.mono (by decide)) rfl (T.gl "_law_refused" (by decide +kernel)) pass0 (pa_cons (pv 1) (pa_cons (pe_slice sl_list (pv 6) po_none (po_some pe_int)) pa_nil))))) (pss_one (ps_ret pe_bl)) pss_nil)))))))))))
      (pss_one (ps_ret pe_bl)))), ?_⟩
    refine ⟨_, rfl, a, ns, lamT K, rfl, sq, tt, fun pen cl H1 e1 p1 => ?_⟩
    refine ⟨3, rfl, by decide, by decide, for_range (fun i σ H' => (∃ v2 v3 v4 v5 v6 v7 v8, σ = [some (.ref a), some pen, v2, v3, v4, v5, v6, v7, v8, none, none]) ∧ IsPen (cl, lamT K) H' pen (i * 84)) ?_ ?_ ?_⟩
    · exact ⟨⟨_, _, _, _, _, _, _, rfl⟩, p1⟩
    · rintro i σ H' hi ⟨⟨v2, v3, v4, v5, v6, v7, v8, rfl⟩, pen0⟩
      have hi3 : i < 3 := hi
      refine ⟨_, rfl, pen, (cl, lamT K), i * 84, rfl, pen0, by omega, fun w1 G1 f1 q1 ⟨ps, hrows, n1, n8, bl⟩ => ?_⟩
      refine ⟨_, rfl, pen, (cl, lamT K), i * 84 + 68, rfl, q1, by omega, fun w2 G2 f2 q2 ⟨r, hsix, hu, br⟩ => ?_⟩
      refine ⟨by show 2 ≤ sizeLine; decide, fun t nt => ⟨t, _, rfl, .of upd_same, rfl, _, _, rfl, _, _, rfl, rfl, ?_⟩⟩
      have q3 := q2.ex (.new (o := .tup [w1, w2]) nt)
      have hrows3 := (f2.trans (Ex.le (Ex.new (o := .tup [w1, w2]) nt))).rowL hrows
      have hsix3 := (Ex.le (Ex.new (o := .tup [w1, w2]) nt)).six hsix
      generalize upd G2 t (.tup [w1, w2]) = G3 at *
      obtain ⟨D1, ys1, rfl, hD1, hr1⟩ := hrows3
      have hz : Big ps := Nat.le_trans n8 (by decide)
      -- others
      dsimp only [tSeq, tAsg]
      refine lc_map (A := fun v H p => IsRow K H v p) (B := fun v H p => IsRow K H v p) (f := r.ap) (u := .ref D1) (us := ys1) (i := 3) (j := 9) (σ := [some (.ref a), some pen, some (.int (0 + (i : Nat))), some (.ref D1), some w2, v5, v6, v7, v8, none, none]) (fun _ _ _ _ e h => e.row h) (fun _ _ _ _ e h => e.row h) rfl ⟨D1, rfl, .inl (.of hD1)⟩ hr1 (by omega) ?_ ?_
      · intro x p H4 Q' hx hp e kk
        exact ⟨_, rfl, _, rfl, w2, x, r, p, 50, 50, rfl, e.le.six hsix3, hx, br, bl p hp, by decide, kk⟩
      intro D2 ys2 G4 x4 hD2 hr2
      -- places and goals
      dsimp only [gName, tSeq, tPar, tCons]
      refine lc_map (A := fun v H p => IsRow K H v p) (B := fun v H p => IsPl K H v p) (f := id) (u := .ref D1) (us := ys1) (i := 3) (j := 9) (σ := [some (.ref a), some pen, some (.int (0 + (i : Nat))), some (.ref D1), some w2, some (.ref D2), v6, v7, v8, none, none]) (fun _ _ _ _ e h => e.row h) (fun _ _ _ _ e h => e.pl h) rfl ⟨D1, rfl, .inl (.of (x4 _ _ hD1))⟩ (x4.le.rows hr1) (by omega) ?_ ?_
      · intro x p H4 Q' hx hp e kk
        exact ⟨_, rfl, x, p, rfl, hx, kk⟩
      intro D3 ys3 G5 x5 hD3 hp3
      rw [List.map_id] at hp3
      refine lc_map (A := fun v H p => IsRow K H v p) (B := fun v H p => IsPl K H v p) (f := id) (u := .ref D2) (us := ys2) (i := 5) (j := 9) (σ := [some (.ref a), some pen, some (.int (0 + (i : Nat))), some (.ref D1), some w2, some (.ref D2), v6, v7, v8, none, none]) (fun _ _ _ _ e h => e.row h) (fun _ _ _ _ e h => e.pl h) rfl ⟨D2, rfl, .inl (.of (x5 _ _ hD2))⟩ (x5.le.rows hr2) (by rw [List.length_map]; omega) ?_ ?_
      · intro x p H4 Q' hx hp e kk
        exact ⟨_, rfl, x, p, rfl, hx, kk⟩
      intro D4 ys4 G6 x6 hD4 hp4
      rw [List.map_id] at hp4
      refine ⟨_, _, rfl, ?_⟩
      have bl2 : Bl 240 (ps.map r.ap) := (map_bd br bl).mono (by decide)
      have bl1 : Bl 240 ps := bl.mono (by decide)
      have hD3' := x6 _ _ hD3
      have hp3' : IsPs K G6 ys3 ps := x6.le.ps hp3
      -- told
      refine ⟨_, rfl, _, rfl, .inl ⟨D4, ys4, rfl, .of hD4, fun q nq => ?_⟩⟩
      have x7 : Evl.Ex G6 (upd G6 q (.tup ys4)) := .new nq
      refine ⟨.ref D3, .ref q, ps, r, rfl, ⟨ys3, ⟨D3, rfl, .inl (.of (x7 _ _ hD3'))⟩, x7.le.ps hp3'⟩, ⟨ys4, ⟨q, rfl, .inr (.of upd_same)⟩, x7.le.ps hp4⟩, hz, bl1, bl2, hu, fun w3 G8 x8 ⟨s, hs, hus, hm, hbr⟩ => ?_⟩
      refine ⟨w3, s, rfl, hs, fun w4 G9 x9 h9 => ?_⟩
      have x69 := (x7.trans x8).trans x9
      have x49 := (x5.trans x6).trans x69
      have x39 := x4.trans x49
      obtain ⟨t9, e9, n9, rfl, ht9, hte, htn⟩ := h9
      -- told is there, of factor 1 or -1
      refine ⟨_, rfl, false, congrArg V.bl (decide_eq_false (fun z => nomatch z)), iteF ?_⟩
      refine ⟨_, rfl, t9, _, _, _, rfl, rfl, ht9, ats.1, _, rfl, t9, _, _, _, rfl, rfl, ht9, ats.2, e9, n9, s.e, s.n, rfl, hte, htn, hbr.1.mono (by decide), hbr.2.mono (by decide), ?_⟩
      refine ⟨1, rfl, by show 2 ≤ sizeLine; decide, fun tp np => ⟨tp, _, rfl, .inr (.of upd_same), rfl, rfl, false, ?_, iteF ?_⟩⟩
      · rw [if_pos rfl, in_unit (show Unit1 (tw s.e s.n) from hus)]
        rfl
      have x10 : Evl.Ex G9 (upd G9 tp (.tup [.int 1, .int (-1)])) := .new np
      generalize upd G9 tp (.tup [.int 1, .int (-1)]) = G10 at *
      have x310 := x39.trans x10
      have x410 := x49.trans x10
      have x610 := x69.trans x10
      have told : IsSix K G10 (.ref t9) s := x10.le.six ⟨t9, e9, n9, rfl, ht9, hte, htn⟩
      -- renamed by told
      dsimp only [tNext, tSeq, tIfS, tTest, tOp]
      refine lc_map (A := fun v H p => IsRow K H v p) (B := fun v H p => IsRow K H v p) (f := s.ap) (u := .ref D1) (us := ys1) (i := 3) (j := 9) (σ := [some (.ref a), some pen, some (.int (0 + (i : Nat))), some (.ref D1), some w2, some (.ref D2), some (.ref D3), some (.ref D4), some (.ref t9), none, none]) (fun _ _ _ _ e h => e.row h) (fun _ _ _ _ e h => e.row h) rfl ⟨D1, rfl, .inl (.of (x310 _ _ hD1))⟩ (x310.le.rows hr1) (by omega) ?_ ?_
      · intro x p H4 Q' hx hp e kk
        exact ⟨_, rfl, _, rfl, .ref t9, x, s, p, 50, 2000000, rfl, e.le.six told, hx, hbr, bl p hp, by decide, kk⟩
      intro D5 ys5 G11 x11 hD5 hr5
      refine ⟨_, rfl, rows_ne hD5 hr5 ((x410.trans x11) _ _ hD2) ((x410.trans x11).le.rows hr2) hm.symm (iteF ?_)⟩
      have x611 := x610.trans x11
      -- the keys
      refine ⟨_, rfl, .inl ⟨D3, ys3, rfl, .of (x611 _ _ hD3'), fun q2 nq2 => ?_⟩⟩
      have x12 : Evl.Ex G11 (upd G11 q2 (.tup ys3)) := .new nq2
      have x612 := x611.trans x12
      refine ⟨.ref q2, ps, rfl, ⟨ys3, ⟨q2, rfl, .inr (.of upd_same)⟩, x612.le.ps hp3'⟩, hz, bl1, fun w5 G13 x13 ⟨ra, hua, hRa, hda⟩ => ?_⟩
      have x613 := x612.trans x13
      refine ⟨_, rfl, .ref D4, ps.map r.ap, rfl, ⟨ys4, ⟨D4, rfl, .inl (.of (x613 _ _ hD4))⟩, x613.le.ps hp4⟩, map_len _ _ hz, bl2, fun w6 G14 x14 ⟨rb, hub, hRb, hdb⟩ => ?_⟩
      obtain ⟨a1, _, _⟩ := alike_ok hu rfl hua hub rfl rfl hRa hRb
      rw [a1] at hdb
      refine ⟨figD (ps.map ra.ap), figD (ps.map ra.ap), dp_le x14.le _ _ hda, hdb, fig_shaped _, fig_shaped _, false, ?_, iteF ?_⟩
      · rw [fig_eqv, decide_eq_true rfl]
        rfl
      have x614 := x613.trans x14
      have x414 := (x410.trans x11).trans ((x12.trans x13).trans x14)
      have x314 := x4.trans x414
      -- the rows are as they were
      dsimp only [tNext, tSeq, tIfS, tOr, tTest, tOp]
      refine lc_map (A := fun v H p => IsPl K H v p) (B := fun v H p => IsRow K H v p) (f := id) (u := .ref D3) (us := ys3) (i := 6) (j := 10) (σ := [some (.ref a), some pen, some (.int (0 + (i : Nat))), some (.ref D1), some w2, some (.ref D2), some (.ref D3), some (.ref D4), some (.ref t9), none, none]) (fun _ _ _ _ e h => e.pl h) (fun _ _ _ _ e h => e.row h) rfl ⟨D3, rfl, .inl (.of (x614 _ _ hD3'))⟩ (x614.le.ps hp3') (by omega) ?_ ?_
      · intro x p H4 Q' hx hp e kk
        exact ⟨_, rfl, x, p, rfl, hx, kk⟩
      intro D6 ys6 G15 x15 hD6 hr6
      refine ⟨_, rfl, rows_ne hD6 hr6 ((x314.trans x15) _ _ hD1) ((x314.trans x15).le.rows hr1) (List.map_id _) (iteF ?_)⟩
      have x615 := x614.trans x15
      refine lc_map (A := fun v H p => IsPl K H v p) (B := fun v H p => IsRow K H v p) (f := id) (u := .ref D4) (us := ys4) (i := 7) (j := 10) (σ := [some (.ref a), some pen, some (.int (0 + (i : Nat))), some (.ref D1), some w2, some (.ref D2), some (.ref D3), some (.ref D4), some (.ref t9), none, none]) (fun _ _ _ _ e h => e.pl h) (fun _ _ _ _ e h => e.row h) rfl ⟨D4, rfl, .inl (.of (x615 _ _ hD4))⟩ (x615.le.ps hp4) (by rw [List.length_map]; omega) ?_ ?_
      · intro x p H4 Q' hx hp e kk
        exact ⟨_, rfl, x, p, rfl, hx, kk⟩
      intro D7 ys7 G16 x16 hD7 hr7
      have x416 := (x414.trans x15).trans x16
      refine ⟨_, rfl, rows_ne hD7 hr7 (x416 _ _ hD2) (x416.le.rows hr2) (List.map_id _) (iteF ?_)⟩
      have x616 := x615.trans x16
      -- what is refused
      have penN := q3.ex (x4.trans x416)
      refine ⟨_, rfl, _, rfl, 3, rfl, D3, ys3, rfl, .of (x616 _ _ hD3'), fun q3' nq3 => ?_⟩
      have x17 : Evl.Ex G16 (upd G16 q3' (.lst (cutV ys3 none (some 3)))) := .new nq3
      have hc : cutV ys3 none (some 3) = ys3.take 3 := by
        unfold cutV
        have e : HT.sIx ys3.length ys3.length (some 3) = min 3 ys3.length := HT.sIx_nat _ _ 3
        rw [e]
        simp [HT.sIx, List.take_eq_take_iff]
      have hpt := pls_take 3 ((x616.trans x17).le.ps hp3')
      rw [← hc] at hpt
      refine ⟨pen, (cl, lamT K), _, .ref q3', ps.take 3, rfl, rfl, penN.ex x17, by omega, ⟨q3', _, rfl, upd_same, hpt⟩, ?_, ?_, fun w8 G18 x18 p18 hw => ?_⟩
      · rw [List.length_take]
        omega
      · rw [List.length_take]
        omega
      subst hw
      refine ⟨true, rfl, iteF ?_⟩
      exact ⟨⟨_, _, _, _, _, _, _, rfl⟩, p18.mono (by omega)⟩
    · rintro σ H' _
      exact k H'
end
end AW
/-! All defs together; the law's promise. -/
namespace AW
open PySem PySem.Spec PyProof.Rows L2
def d_is_integer : He.DefD := ⟨("is_integer", none), "is_integer", "is_integer", defArgs s_is_integer, defBody s_is_integer, defScope s_is_integer, [], []⟩
def d_bezout_of : He.DefD := ⟨("bezout_of", none), "bezout_of", "bezout_of", defArgs s_bezout_of, defBody s_bezout_of, defScope s_bezout_of, [], []⟩
def d_pairs_below : He.DefD := ⟨("pairs_below", none), "pairs_below", "pairs_below", defArgs s_pairs_below, defBody s_pairs_below, defScope s_pairs_below, [], []⟩
def d_need_place : He.DefD := ⟨("need_place", none), "need_place", "need_place", defArgs s_need_place, defBody s_need_place, defScope s_need_place, [], []⟩
def d_need_places : He.DefD := ⟨("need_places", none), "need_places", "need_places", defArgs s_need_places, defBody s_need_places, defScope s_need_places, [], []⟩
def d_led_by : He.DefD := ⟨("led_by", none), "led_by", "led_by", defArgs s_led_by, defBody s_led_by, defScope s_led_by, [], []⟩
def d_same_names : He.DefD := ⟨("same_names", none), "same_names", "same_names", defArgs s_same_names, defBody s_same_names, defScope s_same_names, [], []⟩
def d_first_at : He.DefD := ⟨("first_at", none), "first_at", "first_at", defArgs s_first_at, defBody s_first_at, defScope s_first_at, [], []⟩
def d_renamed_all : He.DefD := ⟨("renamed_all", none), "renamed_all", "renamed_all", defArgs s_renamed_all, defBody s_renamed_all, defScope s_renamed_all, [], []⟩
def d_turned_east : He.DefD := ⟨("turned_east", none), "turned_east", "turned_east", defArgs s_turned_east, defBody s_turned_east, defScope s_turned_east, [], []⟩
def d_leaned_north : He.DefD := ⟨("leaned_north", none), "leaned_north", "leaned_north", defArgs s_leaned_north, defBody s_leaned_north, defScope s_leaned_north, [], []⟩
def d_lowered_areas : He.DefD := ⟨("lowered_areas", none), "lowered_areas", "lowered_areas", defArgs s_lowered_areas, defBody s_lowered_areas, defScope s_lowered_areas, [], []⟩
def d_figures_of : He.DefD := ⟨("figures_of", none), "figures_of", "figures_of", defArgs s_figures_of, defBody s_figures_of, defScope s_figures_of, [], []⟩
def d_least_list : He.DefD := ⟨("least_list", none), "least_list", "least_list", defArgs s_least_list, defBody s_least_list, defScope s_least_list, [], []⟩
def d_list_key : He.DefD := ⟨("list_key", none), "list_key", "list_key", defArgs s_list_key, defBody s_list_key, defScope s_list_key, [], []⟩
def d_alike : He.DefD := ⟨("alike", none), "alike", "alike", defArgs s_alike, defBody s_alike, defScope s_alike, [], []⟩
def d_lot_key : He.DefD := ⟨("lot_key", none), "lot_key", "lot_key", defArgs s_lot_key, defBody s_lot_key, defScope s_lot_key, [], []⟩
def d_alike_lots : He.DefD := ⟨("alike_lots", none), "alike_lots", "alike_lots", defArgs s_alike_lots, defBody s_alike_lots, defScope s_alike_lots, [], []⟩
def d_L_begin : He.DefD := ⟨("_law_begin", none), "_law_begin", "_law_begin", defArgs s_L_begin, defBody s_L_begin, defScope s_L_begin, [], []⟩
def d_L_draw : He.DefD := ⟨("_law_draw", none), "_law_draw", "_law_draw", defArgs s_L_draw, defBody s_L_draw, defScope s_L_draw, [], []⟩
def d_L_pick : He.DefD := ⟨("_law_pick", none), "_law_pick", "_law_pick", defArgs s_L_pick, defBody s_L_pick, defScope s_L_pick, [], []⟩
def d_L_small : He.DefD := ⟨("_law_small", none), "_law_small", "_law_small", defArgs s_L_small, defBody s_L_small, defScope s_L_small, [], []⟩
def d_L_join : He.DefD := ⟨("_law_join", none), "_law_join", "_law_join", defArgs s_L_join, defBody s_L_join, defScope s_L_join, [], []⟩
def d_L_times : He.DefD := ⟨("_law_times", none), "_law_times", "_law_times", defArgs s_L_times, defBody s_L_times, defScope s_L_times, [], []⟩
def d_L_place : He.DefD := ⟨("_law_place", none), "_law_place", "_law_place", defArgs s_L_place, defBody s_L_place, defScope s_L_place, [], []⟩
def d_L_whole : He.DefD := ⟨("_law_whole", none), "_law_whole", "_law_whole", defArgs s_L_whole, defBody s_L_whole, defScope s_L_whole, [], []⟩
def d_L_row : He.DefD := ⟨("_law_row", none), "_law_row", "_law_row", defArgs s_L_row, defBody s_L_row, defScope s_L_row, [], []⟩
def d_L_twist : He.DefD := ⟨("_law_twist", none), "_law_twist", "_law_twist", defArgs s_L_twist, defBody s_L_twist, defScope s_L_twist, [], []⟩
def d_L_renamed : He.DefD := ⟨("_law_renamed", none), "_law_renamed", "_law_renamed", defArgs s_L_renamed, defBody s_L_renamed, defScope s_L_renamed, [], []⟩
def d_L_onto : He.DefD := ⟨("_law_onto", none), "_law_onto", "_law_onto", defArgs s_L_onto, defBody s_L_onto, defScope s_L_onto, [], []⟩
def d_L_six : He.DefD := ⟨("_law_six", none), "_law_six", "_law_six", defArgs s_L_six, defBody s_L_six, defScope s_L_six, [], []⟩
def d_L_mid : He.DefD := ⟨("_law_mid", none), "_law_mid", "_law_mid", defArgs s_L_mid, defBody s_L_mid, defScope s_L_mid, [], []⟩
def d_L_list : He.DefD := ⟨("_law_list", none), "_law_list", "_law_list", defArgs s_L_list, defBody s_L_list, defScope s_L_list, [], []⟩
def d_L_how : He.DefD := ⟨("_law_how", none), "_law_how", "_law_how", defArgs s_L_how, defBody s_L_how, defScope s_L_how, [], []⟩
def d_L_refused : He.DefD := ⟨("_law_refused", none), "_law_refused", "_law_refused", defArgs s_L_refused, defBody s_L_refused, defScope s_L_refused, [], []⟩
def d_law : He.DefD := ⟨("law", none), "law", "law", defArgs s_law, defBody s_law, defScope s_law, [], []⟩
def d_Place_init : He.DefD := ⟨("Place", some "__init__"), "__init__", "Place.__init__", defArgs s_Place_init, defBody s_Place_init, defScope s_Place_init, [], []⟩
def d_Place_eq : He.DefD := ⟨("Place", some "__eq__"), "__eq__", "Place.__eq__", defArgs s_Place_eq, defBody s_Place_eq, defScope s_Place_eq, [], []⟩
def d_Place_mul : He.DefD := ⟨("Place", some "__mul__"), "__mul__", "Place.__mul__", defArgs s_Place_mul, defBody s_Place_mul, defScope s_Place_mul, [], []⟩
def d_Place_power : He.DefD := ⟨("Place", some "power"), "power", "Place.power", defArgs s_Place_power, defBody s_Place_power, defScope s_Place_power, [], []⟩
def d_Place_lifted : He.DefD := ⟨("Place", some "lifted"), "lifted", "Place.lifted", defArgs s_Place_lifted, defBody s_Place_lifted, defScope s_Place_lifted, [], []⟩
def d_Place_twist : He.DefD := ⟨("Place", some "twist"), "twist", "Place.twist", defArgs s_Place_twist, defBody s_Place_twist, defScope s_Place_twist, [], []⟩
def d_Renaming_init : He.DefD := ⟨("Renaming", some "__init__"), "__init__", "Renaming.__init__", defArgs s_Renaming_init, defBody s_Renaming_init, defScope s_Renaming_init, [], []⟩
def d_Renaming_call : He.DefD := ⟨("Renaming", some "__call__"), "__call__", "Renaming.__call__", defArgs s_Renaming_call, defBody s_Renaming_call, defScope s_Renaming_call, [], []⟩
def d_Renaming_mul : He.DefD := ⟨("Renaming", some "__mul__"), "__mul__", "Renaming.__mul__", defArgs s_Renaming_mul, defBody s_Renaming_mul, defScope s_Renaming_mul, [], []⟩
def d_Renaming_invert : He.DefD := ⟨("Renaming", some "__invert__"), "__invert__", "Renaming.__invert__", defArgs s_Renaming_invert, defBody s_Renaming_invert, defScope s_Renaming_invert, [], []⟩
def fn : List He.DefD := [d_is_integer, d_bezout_of, d_pairs_below, d_need_place, d_need_places, d_led_by, d_same_names, d_first_at, d_renamed_all, d_turned_east, d_leaned_north, d_lowered_areas, d_figures_of, d_least_list, d_list_key, d_alike, d_lot_key, d_alike_lots, d_L_begin, d_L_draw, d_L_pick, d_L_small, d_L_join, d_L_times, d_L_place, d_L_whole, d_L_row, d_L_twist, d_L_renamed, d_L_onto, d_L_six, d_L_mid, d_L_list, d_L_how, d_L_refused, d_law, d_Place_init, d_Place_eq, d_Place_mul, d_Place_power, d_Place_lifted, d_Place_twist, d_Renaming_init, d_Renaming_call, d_Renaming_mul, d_Renaming_invert]

theorem law_all {P : Program} {w : World} {K : PySem.W.Frag} {mg : Str → Option Value} {base : Heap} (T : Txt K mg) (X : Exn P K) (M : Exm K) (TB : LamX.TabB base mg (rfC K) (rfP K)) (F : ∀ d ∈ fn, ∃ fd, FunD K d.name d.qual d.params d.body d.scope (d.dvs K) (d.kws K) (He.fAd K d.at_) fd)
    {fd : FuncData} (FL : FnP K "law" s_law fd) : FnOk P w K mg base CX0 12 (He.ga K "law") fd ["_law_script"] (spLaw K) := by
  have m : ∀ {i : Nat} {d : He.DefD}, fn[i]? = some d → d ∈ fn := fun h => List.mem_of_getElem? h
  obtain ⟨_, f_is_integer⟩ : ∃ fd, FnP K "is_integer" s_is_integer fd := F d_is_integer (m (i := 0) rfl)
  obtain ⟨_, f_bezout_of⟩ : ∃ fd, FnP K "bezout_of" s_bezout_of fd := F d_bezout_of (m (i := 1) rfl)
  obtain ⟨_, f_pairs_below⟩ : ∃ fd, FnP K "pairs_below" s_pairs_below fd := F d_pairs_below (m (i := 2) rfl)
  obtain ⟨_, f_need_place⟩ : ∃ fd, FnP K "need_place" s_need_place fd := F d_need_place (m (i := 3) rfl)
  obtain ⟨_, f_need_places⟩ : ∃ fd, FnP K "need_places" s_need_places fd := F d_need_places (m (i := 4) rfl)
  obtain ⟨_, f_led_by⟩ : ∃ fd, FnP K "led_by" s_led_by fd := F d_led_by (m (i := 5) rfl)
  obtain ⟨_, f_same_names⟩ : ∃ fd, FnP K "same_names" s_same_names fd := F d_same_names (m (i := 6) rfl)
  obtain ⟨_, f_first_at⟩ : ∃ fd, FnP K "first_at" s_first_at fd := F d_first_at (m (i := 7) rfl)
  obtain ⟨_, f_renamed_all⟩ : ∃ fd, FnP K "renamed_all" s_renamed_all fd := F d_renamed_all (m (i := 8) rfl)
  obtain ⟨_, f_turned_east⟩ : ∃ fd, FnP K "turned_east" s_turned_east fd := F d_turned_east (m (i := 9) rfl)
  obtain ⟨_, f_leaned_north⟩ : ∃ fd, FnP K "leaned_north" s_leaned_north fd := F d_leaned_north (m (i := 10) rfl)
  obtain ⟨_, f_lowered_areas⟩ : ∃ fd, FnP K "lowered_areas" s_lowered_areas fd := F d_lowered_areas (m (i := 11) rfl)
  obtain ⟨_, f_figures_of⟩ : ∃ fd, FnP K "figures_of" s_figures_of fd := F d_figures_of (m (i := 12) rfl)
  obtain ⟨_, f_least_list⟩ : ∃ fd, FnP K "least_list" s_least_list fd := F d_least_list (m (i := 13) rfl)
  obtain ⟨_, f_list_key⟩ : ∃ fd, FnP K "list_key" s_list_key fd := F d_list_key (m (i := 14) rfl)
  obtain ⟨_, f_alike⟩ : ∃ fd, FnP K "alike" s_alike fd := F d_alike (m (i := 15) rfl)
  obtain ⟨_, f_lot_key⟩ : ∃ fd, FnP K "lot_key" s_lot_key fd := F d_lot_key (m (i := 16) rfl)
  obtain ⟨_, f_alike_lots⟩ : ∃ fd, FnP K "alike_lots" s_alike_lots fd := F d_alike_lots (m (i := 17) rfl)
  obtain ⟨_, f_L_begin⟩ : ∃ fd, FnP K "_law_begin" s_L_begin fd := F d_L_begin (m (i := 18) rfl)
  obtain ⟨_, f_L_draw⟩ : ∃ fd, FnP K "_law_draw" s_L_draw fd := F d_L_draw (m (i := 19) rfl)
  obtain ⟨_, f_L_pick⟩ : ∃ fd, FnP K "_law_pick" s_L_pick fd := F d_L_pick (m (i := 20) rfl)
  obtain ⟨_, f_L_small⟩ : ∃ fd, FnP K "_law_small" s_L_small fd := F d_L_small (m (i := 21) rfl)
  obtain ⟨_, f_L_join⟩ : ∃ fd, FnP K "_law_join" s_L_join fd := F d_L_join (m (i := 22) rfl)
  obtain ⟨_, f_L_times⟩ : ∃ fd, FnP K "_law_times" s_L_times fd := F d_L_times (m (i := 23) rfl)
  obtain ⟨_, f_L_place⟩ : ∃ fd, FnP K "_law_place" s_L_place fd := F d_L_place (m (i := 24) rfl)
  obtain ⟨_, f_L_whole⟩ : ∃ fd, FnP K "_law_whole" s_L_whole fd := F d_L_whole (m (i := 25) rfl)
  obtain ⟨_, f_L_row⟩ : ∃ fd, FnP K "_law_row" s_L_row fd := F d_L_row (m (i := 26) rfl)
  obtain ⟨_, f_L_twist⟩ : ∃ fd, FnP K "_law_twist" s_L_twist fd := F d_L_twist (m (i := 27) rfl)
  obtain ⟨_, f_L_renamed⟩ : ∃ fd, FnP K "_law_renamed" s_L_renamed fd := F d_L_renamed (m (i := 28) rfl)
  obtain ⟨_, f_L_onto⟩ : ∃ fd, FnP K "_law_onto" s_L_onto fd := F d_L_onto (m (i := 29) rfl)
  obtain ⟨_, f_L_six⟩ : ∃ fd, FnP K "_law_six" s_L_six fd := F d_L_six (m (i := 30) rfl)
  obtain ⟨_, f_L_mid⟩ : ∃ fd, FnP K "_law_mid" s_L_mid fd := F d_L_mid (m (i := 31) rfl)
  obtain ⟨_, f_L_list⟩ : ∃ fd, FnP K "_law_list" s_L_list fd := F d_L_list (m (i := 32) rfl)
  obtain ⟨_, f_L_how⟩ : ∃ fd, FnP K "_law_how" s_L_how fd := F d_L_how (m (i := 33) rfl)
  obtain ⟨_, f_L_refused⟩ : ∃ fd, FnP K "_law_refused" s_L_refused fd := F d_L_refused (m (i := 34) rfl)
  obtain ⟨_, f_Place_init⟩ : ∃ fd, FnM K "Place" "__init__" "Place.__init__" s_Place_init fd := F d_Place_init (m (i := 36) rfl)
  obtain ⟨_, f_Place_eq⟩ : ∃ fd, FnM K "Place" "__eq__" "Place.__eq__" s_Place_eq fd := F d_Place_eq (m (i := 37) rfl)
  obtain ⟨_, f_Place_mul⟩ : ∃ fd, FnM K "Place" "__mul__" "Place.__mul__" s_Place_mul fd := F d_Place_mul (m (i := 38) rfl)
  obtain ⟨_, f_Place_power⟩ : ∃ fd, FnM K "Place" "power" "Place.power" s_Place_power fd := F d_Place_power (m (i := 39) rfl)
  obtain ⟨_, f_Place_lifted⟩ : ∃ fd, FnM K "Place" "lifted" "Place.lifted" s_Place_lifted fd := F d_Place_lifted (m (i := 40) rfl)
  obtain ⟨_, f_Place_twist⟩ : ∃ fd, FnM K "Place" "twist" "Place.twist" s_Place_twist fd := F d_Place_twist (m (i := 41) rfl)
  obtain ⟨_, f_Renaming_init⟩ : ∃ fd, FnM K "Renaming" "__init__" "Renaming.__init__" s_Renaming_init fd := F d_Renaming_init (m (i := 42) rfl)
  obtain ⟨_, f_Renaming_call⟩ : ∃ fd, FnM K "Renaming" "__call__" "Renaming.__call__" s_Renaming_call fd := F d_Renaming_call (m (i := 43) rfl)
  obtain ⟨_, f_Renaming_mul⟩ : ∃ fd, FnM K "Renaming" "__mul__" "Renaming.__mul__" s_Renaming_mul fd := F d_Renaming_mul (m (i := 44) rfl)
  obtain ⟨_, f_Renaming_invert⟩ : ∃ fd, FnM K "Renaming" "__invert__" "Renaming.__invert__" s_Renaming_invert fd := F d_Renaming_invert (m (i := 45) rfl)
  have g_isint := ok_isint (P := P) (w := w) (base := base) f_is_integer T
  have g_pairs := ok_pairs (P := P) (w := w) (base := base) (mg := mg) f_pairs_below
  have D0_ : D0 P w K mg base := ⟨T, g_isint, g_pairs, ok_initP f_Place_init T g_isint⟩
  have g_n1 := ok_need1 (P := P) (w := w) (base := base) f_need_place T
  have D1_ : D1 P w K mg base := ⟨D0_, g_n1, ok_mul f_Place_mul D0_, ok_power f_Place_power D0_, ok_lifted f_Place_lifted D0_, ok_twist f_Place_twist D0_ g_n1⟩
  have D2_ : D2 P w K mg base := ⟨D1_, ok_led f_led_by D1_, ok_initR f_Renaming_init D1_⟩
  have g_ap := ok_ap f_Renaming_call D2_
  have D3_ : D3 P w K mg base := ⟨D2_, ok_one f_same_names D2_, ok_mulR f_Renaming_mul D2_, ok_inv f_Renaming_invert D2_, ok_first f_first_at T, ok_all f_renamed_all T g_ap, ok_fig f_figures_of T, ok_bez f_bezout_of T⟩
  have D4_ : D4 P w K mg base := ⟨D3_, ok_turn f_turned_east D3_, ok_lean f_leaned_north D3_, ok_low f_lowered_areas D3_⟩
  have D5_ : D5 P w K mg base := ⟨D4_, ok_needs1 f_need_places T g_n1, ok_eqP f_Place_eq T, ok_ll f_least_list D4_⟩
  have g_n2 := ok_need2 (w := w) (base := base) f_need_place T X
  have g_ns2 := ok_needs2 f_need_places T g_n2
  have g_draw := ok_draw (P := P) (w := w) (base := base) f_L_draw T
  have g_pick := ok_pick f_L_pick T g_draw
  have D7_ : D7 P w K mg base := ⟨T, X, M, g_draw, g_pick, ok_alikeX f_alike T X g_ns2, ok_lotsX f_alike_lots T X g_ns2, ok_keyX f_list_key T g_ns2, ok_lkeyX f_lot_key T g_ns2⟩
  have g_mid := ok_mid f_L_mid T g_draw g_pick
  have g_join := ok_join (P := P) (w := w) (base := base) (mg := mg) f_L_join
  have g_times := ok_times (P := P) (w := w) (base := base) (mg := mg) f_L_times
  have g_tw := ok_twr (P := P) (w := w) (base := base) (mg := mg) f_L_twist
  have g_row := ok_row f_L_row T (ok_whole (P := P) (w := w) (base := base) f_L_whole T)
  exact ok_law FL ⟨T, ok_begin f_L_begin T, ok_list f_L_list T g_draw g_pick (ok_small f_L_small T g_draw) g_mid, ok_onto f_L_onto T g_draw g_pick g_mid, ok_ren f_L_renamed T g_join g_times g_tw, ok_plc f_L_place D0_, ok_six f_L_six T g_row, g_row, g_tw,
    ok_alike f_alike D5_, ok_key f_list_key D5_, ok_ref f_L_refused f_L_how D7_ TB⟩
end AW
/-! What is looked at behind the top: the Hook. -/
namespace AW
open PySem PySem.Spec PyProof.Rows L2 PySem.W PySem.Calls PySem.HandSPX

def eB {α : Type} [DecidableEq α] (a b : α) : Bool := decide (a = b)
theorem eB_ok {α : Type} [DecidableEq α] {a b : α} (h : eB a b = true) : a = b := of_decide_eq_true h
theorem band {a b : Bool} (h : (a && b) = true) : a = true ∧ b = true := Bool.and_eq_true_iff.mp h
/-- an own exception's class -/
def excCls (K : Frag) (C : Addr) : Bool := match K.lookup C with
  | some ⟨.type c, _, .cls cd, sl⟩ => decide (c = "type") && (match cd.mro, sl.toList with
    | .ref C' :: bm, [_, _, _, _, some (.builtin n), _] => C' == C && n == "ValueError.__new__" && !cd.hasDel && cd.hasDict && refsVE bm
    | _, _ => false)
  | _ => false
theorem excCls_of {K : Frag} {C : Addr} (q : excCls K C = true) : ∃ nm q N bs bm sn sub ab col dd k0 k1 k2 k3 k5, K.lookup C = some (excClassObj nm q C N bs bm true sn sub ab col dd k0 k1 k2 k3 k5 "ValueError.__new__") ∧ refsVE bm = true := by
  unfold excCls at q
  split at q
  · rename_i c dd cd sl ho
    obtain ⟨q0, q1⟩ := band q
    have ec : c = "type" := of_decide_eq_true q0
    subst ec
    clear q q0
    split at q1
    · rename_i C' bm k0 k1 k2 k3 n k5 hm hs
      obtain ⟨q1, ht⟩ := band q1
      obtain ⟨q1, hdict⟩ := band q1
      obtain ⟨q1, hdel⟩ := band q1
      obtain ⟨q1, q2⟩ := band q1
      rw [Bool.not_eq_true'] at hdel
      have e1 := eq_of_beq q1
      have e2 := eq_of_beq q2
      subst e1 e2
      obtain ⟨nm, bs, mro, ns, qn, hd, sn, sub, ab, col, del⟩ := cd
      dsimp only at hm hdel hdict
      subst hm hdel hdict
      have hsl : sl = #[k0, k1, k2, k3, some (.builtin "ValueError.__new__"), k5] := by
        obtain ⟨l⟩ := sl
        simp only at hs
        rw [hs]
      subst hsl
      exact ⟨nm, qn, ns, bs, bm, sn, sub, ab, col, dd, k0, k1, k2, k3, k5, ho, ht⟩
    · cases q1
  · cases q
/-- its __init__: the closure's cell holds the class, the code object names the file -/
def excFn (K : Frag) (C fI : Addr) (q file : Str) : Bool := match K.lookup fI with
  | some ⟨_, _, .func fd, _⟩ => (match fd.defaults with
    | .none => true
    | _ => false) && (PySem.W.codeIn K fd.code q && ((match fd.code with
    | .ref cda => (match K.lookup cda with
      | some ⟨_, _, .fields vs, _⟩ => (match (vs[2]? : Option Value) with
        | some (Value.str f _) => file == f
        | _ => false)
      | _ => false)
    | _ => false) && (match fd.closure with
    | [(x, cc)] => decide (x = "__class__") && (match K.lookup cc with
      | some ⟨_, _, .cell (some (.ref C')), _⟩ => C' == C
      | _ => false)
    | _ => false)))
  | _ => false
abbrev FnE : Type := Option (Str × Str × Arguments × FuncBody × Scope × Addr × Addr)
def fnE (K : Frag) (fI : Addr) : FnE := match K.lookup fI with
  | some ⟨_, _, .func fd, _⟩ => some (fd.name, fd.qualname, fd.params, fd.body, fd.scope, fd.globals, fd.builtins)
  | _ => none
def valFn (q : Str) (st : Stmt) : FnE := some ("__init__", q, defArgs st, .stmts (defBody st), defScope st, mainGlobals, builtinsNs)
theorem excFn_of {K : Frag} {C fI : Addr} {q file : Str} {st : Stmt} (e : fnE K fI = valFn q st) (c : excFn K C fI q file = true) :
    ∃ (oc : Value) (od : Option Addr) (kV doc pm : Value) (an : Option Addr) (ct : Value) (osl : Array (Option Value)) (cc cda : Addr) (ccl : Value) (cdd : Option Addr) (vs : Array Value) (ccs : Array (Option Value)) (f : Str) (tf : Tok) (cl : Value) (cld : Option Addr) (csl : Array (Option Value)),
    K.lookup fI = some ⟨oc, od, .func (ksFn "__init__" q (defArgs st) (defBody st) (defScope st) .none kV doc pm an (.ref cda) ct cc), osl⟩ ∧ codeIn K (.ref cda) q = true ∧
    K.lookup cda = some ⟨ccl, cdd, .fields vs, ccs⟩ ∧ vs[2]? = some (.str f tf) ∧ (file == f) = true ∧ K.lookup cc = some ⟨cl, cld, .cell (some (.ref C)), csl⟩ := by
  unfold excFn at c
  unfold fnE at e
  split at c
  · rename_i oc od fd osl ho
    rw [ho] at e
    obtain ⟨n1, n2, n3, n4, n5, n6, n7, n8, n9, n10, n11, n12, n13, n14, n15⟩ := fd
    have e2 : (some (n1, n2, n3, n4, n5, n6, n15) : FnE) = (some ("__init__", q, defArgs st, .stmts (defBody st), defScope st, mainGlobals, builtinsNs) : FnE) := e
    simp only [Option.some.injEq, Prod.mk.injEq] at e2
    obtain ⟨h1, h2, h3, h4, h5, h6, h8⟩ := e2
    subst h1 h2 h3 h4 h5 h6 h8
    obtain ⟨c1, d1⟩ := band c
    obtain ⟨c2, d2⟩ := band d1
    obtain ⟨c3, c4⟩ := band d2
    clear c d1 d2
    dsimp only at c1 c2 c3 c4
    split at c1
    · split at c3
      · split at c3
        · split at c3
          · split at c4
            · rename_i hcda _ _ _ hvs _ _ _
              obtain ⟨c5, c6⟩ := band c4
              clear c4
              split at c6
              · rename_i hcc
                have ec := of_decide_eq_true c5
                subst ec
                rw [eq_of_beq c6] at hcc
                exact ⟨_, _, _, _, _, _, _, _, _, _, _, _, _, _, _, _, _, _, _, ho, c2, hcda, hvs, c3, hcc⟩
              · cases c6
            · cases c4
          · cases c3
        · cases c3
      · cases c3
    · cases c1
  · cases c

def excL (K : Frag) (C fI : Addr) (q file : Str) (fs : List Str) : List Bool :=
  [excCls K C, He.eqO (findIn K (.ref C) "__setattr__") (some (some (.builtin "object.__setattr__"))), He.eqO (findIn K (.ref C) "__getattribute__") (some (some (.builtin "BaseException.__getattribute__"))), He.eqO (findIn K (.ref C) "__getattr__") (some none),
   fs.all fun f => He.eqO (findIn K (.ref C) f) (some none), He.eqO (findIn K (.ref C) "__init__") (some (some (.ref fI))), eB (typeIn K (.ref fI)) (some (.type "function")), keepIn K (.ref C), eB (subIn K (.ref C) (.type "BaseException")) (some true), eB (typeIn K (.ref C)) (some (.type "type")),
   hasDictIn K C, He.eqO (ks_superIn K C C "__init__") (some (some (.builtin "ValueError.__init__"))), eB (subIn K (.ref C) (.type "ValueError")) (some true), eB (mroIn K C (.ref C)) (some true), He.eqO (nsIn K cStatics "thirdparty.any") (some none), excFn K C fI q file]
theorem at_all {l : List Bool} (h : ∀ b ∈ l, b = true) (i : Nat) {b : Bool} (e : l[i]? = some b) : b = true := h b (List.mem_of_getElem? e)
theorem excT_of {P : Program} {K : Frag} {C fI : Addr} {q : Str} {st : Stmt} {fs : List Str} (e : fnE K fI = valFn q st) (h : ∀ b ∈ excL K C fI q P.main.file fs, b = true) : ExcT P K C fI q st fs where
  cls := excCls_of (at_all h 0 rfl)
  sa := He.eqO_ok (at_all h 1 rfl)
  ga := He.eqO_ok (at_all h 2 rfl)
  gg := He.eqO_ok (at_all h 3 rfl)
  no := fun f hf => He.eqO_ok (List.all_eq_true.mp (at_all h 4 rfl) f hf)
  iC := He.eqO_ok (at_all h 5 rfl)
  tC := eB_ok (at_all h 6 rfl)
  kC := at_all h 7 rfl
  exC := eB_ok (at_all h 8 rfl)
  tyC := eB_ok (at_all h 9 rfl)
  hdC := at_all h 10 rfl
  sup := He.eqO_ok (at_all h 11 rfl)
  ve := eB_ok (at_all h 12 rfl)
  mro := eB_ok (at_all h 13 rfl)
  tp := He.eqO_ok (at_all h 14 rfl)
  fn := excFn_of e (at_all h 15 rfl)
def clsL (K : Frag) (C : Addr) : List Bool := [He.eqO (findIn K (.ref C) "__class__") (some (some (.builtin "object.__class__"))), eB (mroIn K C (.type "object")) (some true), selfFirst K C]
theorem clsX_of {K : Frag} {C : Addr} (c : Cls K C) (h : ∀ b ∈ clsL K C, b = true) : ClsX K C := ⟨c, He.eqO_ok (at_all h 0 rfl), eB_ok (at_all h 1 rfl), at_all h 2 rfl⟩
def txtL (K : Frag) : List Bool := [He.eqO (specialIn K (.builtin "object.__class__") "__get__") (some (some (.builtin "getset_descriptor.__get__"))), eB (takesIn K (.builtin "object.__class__")) (some true), fnIn K (He.ma K (CR K) "__call__"),
  eB (kitOne K (.ref (CP K)) (.ref (CP K))) (some true), eB (kitOne K (.ref (CR K)) (.ref (CR K))) (some true), (["NoneType", "int", "tuple", "str", "list"] : List String).all fun t => eB (kitOne K (.type t) (.ref (CP K))) (some false)]
def faT : List He.Fa := (globs.map .glo ++ frees.map .free) ++ ([.cls "Place", .cls "Renaming", .mkr "Place", .mkr "Renaming", .noat "Place" "x", .noat "Place" "y", .noat "Place" "area", .noat "Renaming" "east", .noat "Renaming" "north"] ++
  ((["__mul__", "__eq__", "power", "lifted", "twist"] : List Str).map (He.Fa.meth "Place") ++ ((["__mul__", "__invert__", "__call__"] : List Str).map (He.Fa.meth "Renaming") ++ [.exm "Uneven" "Uneven" true, .exm "BadPlace" "Uneven" false, .exm "BadPlace" "BadPlace" true, .glo "law"])))
theorem txt_of {K : Frag} {h : Heap} {mg : Str → Option Value} (X : K.In h) (G : h.Ns mainGlobals mg) (f : ∀ x ∈ faT, x.ok K = true) (hp : ∀ b ∈ clsL K (CP K), b = true) (hr : ∀ b ∈ clsL K (CR K), b = true) (ht : ∀ b ∈ txtL K, b = true) : Txt K mg where
  p := clsX_of (He.cls_ok (f (.cls "Place") (by simp [faT]))) hp
  r := clsX_of (He.cls_ok (f (.cls "Renaming") (by simp [faT]))) hr
  cg := He.eqO_ok (at_all ht 0 rfl)
  ct := eB_ok (at_all ht 1 rfl)
  gl := fun x hx => He.glo_ok X G (f (.glo x) (List.mem_append_left _ (List.mem_append_left _ (List.mem_map_of_mem hx))))
  fr := fun x hx => He.free_ok X G (f (.free x) (List.mem_append_left _ (List.mem_append_right _ (List.mem_map_of_mem hx))))
  px := He.noat_ok (f (.noat "Place" "x") (by simp [faT]))
  py := He.noat_ok (f (.noat "Place" "y") (by simp [faT]))
  pa := He.noat_ok (f (.noat "Place" "area") (by simp [faT]))
  re := He.noat_ok (f (.noat "Renaming" "east") (by simp [faT]))
  rn := He.noat_ok (f (.noat "Renaming" "north") (by simp [faT]))
  mkP := He.mkr_ok (f (.mkr "Place") (by simp [faT]))
  mkR := He.mkr_ok (f (.mkr "Renaming") (by simp [faT]))
  pm := fun m hm => He.meth_ok (f (.meth "Place" m) (List.mem_append_right _ (List.mem_append_right _ (List.mem_append_left _ (List.mem_map_of_mem hm)))))
  rm := fun m hm => He.meth_ok (f (.meth "Renaming" m) (List.mem_append_right _ (List.mem_append_right _ (List.mem_append_right _ (List.mem_append_left _ (List.mem_map_of_mem hm))))))
  rc := at_all ht 2 rfl
  kP := eB_ok (at_all ht 3 rfl)
  kR := eB_ok (at_all ht 4 rfl)
  kN := fun t h => eB_ok (List.all_eq_true.mp (at_all ht 5 rfl) t h)
theorem exm_of {K : Frag} (f : ∀ x ∈ faT, x.ok K = true) : Exm K where
  uu := He.exm_ok (f (.exm "Uneven" "Uneven" true) (by simp [faT]))
  bu := He.exm_ok (f (.exm "BadPlace" "Uneven" false) (by simp [faT]))
  bb := He.exm_ok (f (.exm "BadPlace" "BadPlace" true) (by simp [faT]))
abbrev prg : Program := PySem.Challenge.pw_areawalks_k50_whole_lists_are_carried
abbrev fB (K : Frag) : Addr := He.ma K (CB K) "__init__"
abbrev fU (K : Frag) : Addr := He.ma K (CU K) "__init__"
def bitsL (K : Frag) : List (List Bool) := [faT.map fun f => f.ok K, fn.map fun d => d.ok K, clsL K (CP K), clsL K (CR K), txtL K, excL K (CB K) (fB K) "BadPlace.__init__" prg.main.file ["value"], excL K (CU K) (fU K) "Uneven.__init__" prg.main.file ["first", "second"], [codeHdIn K (rfC K) (rfP K)]]
/-- the part of the heap -/
def frA (g : Addr → Option Obj) : Frag := He.frT g (cStatics :: He.asD g 6)
abbrev AlA : Type := (List He.FnW × List FnE) × Bool
def tfA : List He.Defn := [("_law_refused", none)]
def obsA (g : Addr → Option Obj) : AlA := ((fn.map fun d => He.fnW (frA g) d.at_, [fnE (frA g) (fB (frA g)), fnE (frA g) (fU (frA g))]), (bitsL (frA g)).all (fun l => l.all fun b => b) && He.tabsB g tfA (frA g))
def valA : AlA := ((fn.map He.DefD.val, [valFn "BadPlace.__init__" s_BadPlace_init, valFn "Uneven.__init__" s_Uneven_init]), true)
/-- what is told -/
structure SaysA (h : Heap) (K : Frag) : Prop where
  fnw : (fn.map fun d => He.fnW K d.at_) = fn.map He.DefD.val
  eb : fnE K (fB K) = valFn "BadPlace.__init__" s_BadPlace_init
  eu : fnE K (fU K) = valFn "Uneven.__init__" s_Uneven_init
  bits : ∀ l ∈ bitsL K, ∀ b ∈ l, b = true
  hd : codeHdIn K (rfC K) (rfP K) = true
  out : K.lookup (rfP K) = none
  empty : h.get? (rfP K) = some { cls := .none, data := .fields #[] }
theorem saysA_of {h : Heap} (e : obsA h.get? = valA) : SaysA h (frA h.get?) := by
  have e1 : (fn.map fun d => He.fnW (frA h.get?) d.at_) = fn.map He.DefD.val := congrArg (fun z : AlA => z.1.1) e
  have e2 : [fnE (frA h.get?) (fB (frA h.get?)), fnE (frA h.get?) (fU (frA h.get?))] = [valFn "BadPlace.__init__" s_BadPlace_init, valFn "Uneven.__init__" s_Uneven_init] := congrArg (fun z : AlA => z.1.2) e
  have e3 : ((bitsL (frA h.get?)).all (fun l => l.all fun b => b) && He.tabsB h.get? tfA (frA h.get?)) = true := congrArg (fun z : AlA => z.2) e
  obtain ⟨h1, h2⟩ := band e3
  injection e2 with b1 b2
  injection b2 with b2 _
  obtain ⟨h3, h4⟩ := band (List.all_eq_true.mp h2 _ List.mem_cons_self)
  have key : ∃ o, h.get? (rfP (frA h.get?)) = some o ∧ He.emptyTab o = true := by
    cases q : h.get? (rfP (frA h.get?)) with
    | none =>
      rw [q] at h4
      cases h4
    | some o =>
      rw [q] at h4
      exact ⟨o, rfl, h4⟩
  obtain ⟨o, q, z⟩ := key
  exact ⟨e1, b1, b2, fun l hl b hb => List.all_eq_true.mp (List.all_eq_true.mp h1 l hl) b hb, h3, He.frT_none q z, by rw [q, He.emptyTab_eq z]⟩
def hookA : PySem.W.Hook where
  α := AlA
  obs := fun s => obsA s.heap.get?
  val := fun _ => valA
  says := fun _ h => ∃ K : Frag, K.In h ∧ SaysA h K
  of := fun _ _ e => ⟨_, He.frT_in, saysA_of e⟩
  keeps := fun _ _ _ ⟨K, hK, c⟩ k => ⟨K, PySem.W.Frag.In.keeps hK k, ⟨c.fnw, c.eb, c.eu, c.bits, c.hd, c.out, k _ _ c.empty⟩⟩
theorem obsA_eq {g : Addr → Option Obj} {s : Shared} (h : ∀ a, g a = s.heap.get? a) : obsA g = hookA.obs s := by
  have e : g = s.heap.get? := funext h
  rw [e] <;> rfl
theorem bits_at {K : Frag} {h : Heap} (S : SaysA h K) (i : Nat) {l : List Bool} (e : (bitsL K)[i]? = some l) : ∀ b ∈ l, b = true := S.bits l (List.mem_of_getElem? e)
theorem saysD_of {K : Frag} {h : Heap} (S : SaysA h K) : He.SaysD faT fn K := by
  have h1 : (faT.all fun f => f.ok K) = true := List.all_eq_true.mpr fun f hf => bits_at S 0 rfl _ (List.mem_map_of_mem (f := fun f : He.Fa => f.ok K) hf)
  have h2 : (fn.all fun d => d.ok K) = true := List.all_eq_true.mpr fun d hd => bits_at S 1 rfl _ (List.mem_map_of_mem (f := fun d : He.DefD => d.ok K) hd)
  show ((faT.all fun f => f.ok K) && fn.all fun d => d.ok K, fn.map fun d => He.fnW K d.at_) = He.valD fn
  rw [h1, h2, S.fnw]
  rfl
section
variable {K : Frag} {h : Heap} {mg : Str → Option Value}
theorem facts_of (S : SaysA h K) : ∀ f ∈ faT, f.ok K = true := fun _ hf => (saysD_of S).facts hf
theorem exn_of (S : SaysA h K) : Exn prg K where
  bad := excT_of S.eb (bits_at S 5 rfl)
  unev := excT_of S.eu (bits_at S 6 rfl)
  top := by decide +kernel
theorem law_at (X : K.In h) (G : h.Ns mainGlobals mg) (S : SaysA h K) (l : PySem.W.OpenLaw) (hl : l.prog = prg) (w : World) {fa : Addr} (hf : mg "law" = some (.ref fa)) : LamX.LawAtS l w K CX0 12 63 "_law_script" mg fa h := by
  have T := txt_of X G (facts_of S) (bits_at S 2 rfl) (bits_at S 3 rfl) (bits_at S 4 rfl)
  have efa : fa = He.ga K "law" := by
    have e := He.glo_ok X G (facts_of S (.glo "law") (by simp [faT]))
    rw [hf] at e
    injection e with e
    injection e
  obtain ⟨fd, F⟩ : ∃ fd, FnP K "law" s_law fd := (saysD_of S).defs (d := d_law) (List.mem_of_getElem? (i := 35) rfl)
  refine ⟨fd, [(rfC K, rfP K)], spLaw K, fun p hp => ?_, fun p hp => ?_, fun p hp => ?_, binds_law F, fun H a ns hn hb hT hs => ?_, fun base Xb Gb TB => ?_⟩
  · rw [List.mem_singleton.mp hp]
    exact S.empty
  · rw [List.mem_singleton.mp hp]
    exact S.out
  · rw [List.mem_singleton.mp hp]
    exact codeHd_of_K X S.hd
  · refine ⟨a, ns, rfl, hs, fun p hp => ?_, fun H' => rfl⟩
    rw [List.mem_singleton.mp hp]
    exact .nil (hT (rfC K, rfP K) (List.mem_singleton.mpr rfl))
  · rw [hl, efa]
    have Tb := txt_of Xb Gb (facts_of S) (bits_at S 2 rfl) (bits_at S 3 rfl) (bits_at S 4 rfl)
    exact law_all Tb (exn_of S) (exm_of (facts_of S)) (TB _ (List.mem_singleton.mpr rfl)) (fun d hd => (saysD_of S).defs hd) F
end
end AW
set_option maxHeartbeats 0
namespace AW
open PySem PySem.Spec PyProof.Rows L2
def loose1 : List Str := ["_wall", "WalkError", "BadNumber", "BadPlace", "Uneven", "NotOnto", "is_integer", "bezout_of", "pairs_below", "Place", "need_place", "need_places", "MOST_RENAMED", "ORDERS", "led_by", "Renaming", "same_names", "first_at", "renamed_all", "turned_east", "leaned_north", "lowered_areas", "figures_of", "least_list", "list_key", "alike", "orders_of", "lot_key", "alike_lots", "_law_begin"]
def loose2 : List Str := ["_law_draw", "_law_pick", "_law_small", "_law_join", "_law_times", "_law_place", "_law_whole", "_law_row", "_law_twist", "_law_renamed", "_law_onto", "_law_six", "_law_mid", "_law_list", "_law_how", "_law_refused"]
def loose : List Str := loose1 ++ loose2
abbrev R : PySem.W.OpenRow := PySem.W.OpenLaw.row PySem.Challenge.rw_areawalks_k50_whole_lists_are_carried
def ob (s : PySem.W.SharedT) : AlA := obsA (HandSHeadRun.getT s)
theorem ob_eq (s : PySem.W.SharedT) : ob s = hookA.obs s.abs := obsA_eq (HandSHeadRun.getT_eq s)
theorem run (w : World) : HandSHeadRun.RunEq R (PySem.W.view R.prog [52]) hookA ob 20000 loose w := by
  intro os
  kernel_rfl
theorem walk {d : DefRec} {q : Program} {ls : List Str} {XP : (Str → Option Value) → Heap → Prop} (hd : d.name = "law") (hp : d.params.defaults = []) :
    PySem.W.WalkO q ls XP hookA.says R.toRowW d [] (fun f vs => PySem.call f vs) :=
  LamX.walk_ofTsE (l := PySem.Challenge.rw_areawalks_k50_whole_lists_are_carried) (n := 63) (k := 12) (CX := fun _ => CX0) (x := "_law_script") rfl (by decide +kernel) hp (by first | decide +kernel | exact ⟨rfl, by decide +kernel, by decide +kernel⟩)
    (fun w mg fa h Y G hf => by
      obtain ⟨K, X, S⟩ := Y
      rw [hd] at hf
      exact ⟨K, X, law_at X G S _ rfl w hf⟩)
    (fun _ _ _ _ _ h => h)
end AW
theorem PySem.Challenge.cw_areawalks_k50_whole_lists_are_carried_holds : PySem.Challenge.rw_areawalks_k50_whole_lists_are_carried.Holds := by
  w_on
  o_law
  refine HandSHeadRun.head_any (r := AW.R) (q := PySem.W.view AW.R.prog [52]) (H := AW.hookA) (ob := AW.ob) (M := 20000) (loose := AW.loose) (d := HandSHeadRun.topDef AW.R.prog 52) (kwd := []) AW.ob_eq (by kernel_rfl) (fun s => by kernel_rfl) AW.run (by kernel_rfl) (by kernel_rfl) (by kernel_rfl) (by rfl) (by first | assumption | decide +kernel) (by decide +kernel) ⟨rfl, rfl, rfl, rfl, rfl, by decide +kernel⟩ ?hw ?hc
  case hw => w_witness2
  case hc => exact AW.walk rfl rfl
