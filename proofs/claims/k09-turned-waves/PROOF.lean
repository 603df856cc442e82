import PyProof.Rows.All
import Wide.All
import OpenK.AllK
import Wide.FinOn
import HandS.ForMost
import HandS.Walk
import HandS.IsInst
import HandS.Wide
import HandS.WideMore
import HandS.Gcd
import HandS.Style
import HandS.Defaults
import KE.GoesZip
import KE.GoesMore
import KE.GoesEnum
import PyProof.Rows.NestShow
import PyProof.ReprLen
import PySem.Challenge.RW_framecams_k09_whole_turned_waves
set_option Elab.async false
set_option maxRecDepth 100000
/-! KwA: plain laws over Rat. -/
namespace Kw

theorem quo_num {n d : Int} (h : 0 < d) : ((n : Rat) / (d : Rat)).num = n / ((Nat.gcd n.natAbs d.natAbs : Nat) : Int) := by
  rw [← Rat.divInt_eq_div, Rat.num_divInt, Int.sign_eq_one_of_pos h, Int.one_mul]
  show n / ((Nat.gcd d.natAbs n.natAbs : Nat) : Int) = _
  rw [Nat.gcd_comm]
theorem quo_den {n d : Int} (h : 0 < d) : ((((n : Rat) / (d : Rat)).den : Nat) : Int) = d / ((Nat.gcd n.natAbs d.natAbs : Nat) : Int) := by
  rw [← Rat.divInt_eq_div, Rat.den_divInt, if_neg (by omega)]
  show ((d.natAbs / Nat.gcd d.natAbs n.natAbs : Nat) : Int) = _
  rw [Nat.gcd_comm, Int.natCast_ediv, Int.natAbs_of_nonneg (by omega)]
theorem gcd_pos {n d : Int} (h : 0 < d) : 0 < ((Nat.gcd n.natAbs d.natAbs : Nat) : Int) := by
  have : 0 < Nat.gcd n.natAbs d.natAbs := Nat.gcd_pos_of_pos_right _ (by omega)
  omega
theorem gcd_le {n d : Int} (h : 0 < d) : (Nat.gcd n.natAbs d.natAbs : Nat) ≤ d.natAbs := Nat.gcd_le_right _ (by omega)

theorem fr_eq (x : Rat) : ((x.num : Int) : Rat) / ((x.den : Int) : Rat) = x := by
  rw [← Rat.divInt_eq_div]; exact Rat.num_divInt_den x
theorem den_pos (x : Rat) : (0 : Int) < (x.den : Int) := by have := x.den_pos; omega
theorem den_ne (x : Rat) : ((x.den : Int) : Rat) ≠ 0 := by
  intro h
  have h2 : ((x.den : Int) : Rat) = ((0 : Int) : Rat) := h
  have := Rat.intCast_inj.mp h2
  have := den_pos x
  omega
theorem cast_ne {d : Int} (h : 0 < d) : (d : Rat) ≠ 0 := by
  intro q
  have h2 : (d : Rat) = ((0 : Int) : Rat) := q
  have := Rat.intCast_inj.mp h2
  omega

/-- numerator and denominator below 2 ^ b -/
def Bd (b : Nat) (x : Rat) : Prop := x.num.natAbs < 2 ^ b ∧ x.den < 2 ^ b
theorem bd_quo {n d : Int} {b : Nat} (h : 0 < d) (hn : n.natAbs < 2 ^ b) (hd : d.natAbs < 2 ^ b) : Bd b ((n : Rat) / (d : Rat)) := by
  refine ⟨?_, ?_⟩
  · rw [quo_num h]
    refine Nat.lt_of_le_of_lt ?_ hn
    exact Int.natAbs_ediv_le_natAbs n _
  · have e := quo_den (n := n) h
    have g := gcd_pos (n := n) h
    have l : (((n : Rat) / (d : Rat)).den : Int) ≤ d := by
      rw [e]; exact Int.ediv_le_self _ (by omega)
    omega
theorem Bd.mono {a b : Nat} {x : Rat} (h : Bd a x) (l : a ≤ b) : Bd b x :=
  ⟨Nat.lt_of_lt_of_le h.1 (Nat.pow_le_pow_right (by decide) l), Nat.lt_of_lt_of_le h.2 (Nat.pow_le_pow_right (by decide) l)⟩
theorem mul_lt {i j : Int} {a b : Nat} (ha : i.natAbs < 2 ^ a) (hb : j.natAbs < 2 ^ b) : (i * j).natAbs < 2 ^ (a + b) := by
  rw [Int.natAbs_mul, Nat.pow_add]
  exact Nat.mul_lt_mul'' ha hb
theorem add_lt {i j : Int} {a : Nat} (ha : i.natAbs < 2 ^ a) (hb : j.natAbs < 2 ^ a) : (i + j).natAbs < 2 ^ (a + 1) := by
  have := Int.natAbs_add_le i j
  rw [Nat.pow_succ]; omega
theorem sub_lt {i j : Int} {a : Nat} (ha : i.natAbs < 2 ^ a) (hb : j.natAbs < 2 ^ a) : (i - j).natAbs < 2 ^ (a + 1) := by
  have := Int.natAbs_sub_le i j
  rw [Nat.pow_succ]; omega
theorem up_lt {n a b : Nat} (h : n < 2 ^ a) (l : a ≤ b) : n < 2 ^ b := Nat.lt_of_lt_of_le h (Nat.pow_le_pow_right (by decide) l)

theorem quo_add {a b c d : Int} (hb : 0 < b) (hd : 0 < d) : (a : Rat) / (b : Rat) + (c : Rat) / (d : Rat) = ((a * d + c * b : Int) : Rat) / ((b * d : Int) : Rat) := by
  have h1 := cast_ne hb
  have h2 := cast_ne hd
  simp only [Rat.intCast_add, Rat.intCast_mul]
  grind
theorem quo_sub {a b c d : Int} (hb : 0 < b) (hd : 0 < d) : (a : Rat) / (b : Rat) - (c : Rat) / (d : Rat) = ((a * d - c * b : Int) : Rat) / ((b * d : Int) : Rat) := by
  have h1 := cast_ne hb
  have h2 := cast_ne hd
  simp only [Rat.intCast_sub, Rat.intCast_mul]
  grind
theorem quo_mul {a b c d : Int} (hb : 0 < b) (hd : 0 < d) : (a : Rat) / (b : Rat) * ((c : Rat) / (d : Rat)) = ((a * c : Int) : Rat) / ((b * d : Int) : Rat) := by
  have h1 := cast_ne hb
  have h2 := cast_ne hd
  simp only [Rat.intCast_mul]
  grind
theorem den_abs (x : Rat) : ((x.den : Int)).natAbs = x.den := by omega
theorem Bd.add {a b : Nat} {x y : Rat} (hx : Bd a x) (hy : Bd b y) : Bd (a + b + 1) (x + y) := by
  rw [← fr_eq x, ← fr_eq y, quo_add (den_pos x) (den_pos y)]
  refine bd_quo (Int.mul_pos (den_pos x) (den_pos y)) ?_ ?_
  · refine add_lt (mul_lt hx.1 (by rw [den_abs]; exact hy.2)) ?_
    rw [Nat.add_comm]; exact mul_lt hy.1 (by rw [den_abs]; exact hx.2)
  · exact up_lt (mul_lt (by rw [den_abs]; exact hx.2) (by rw [den_abs]; exact hy.2)) (by omega)
theorem Bd.sub {a b : Nat} {x y : Rat} (hx : Bd a x) (hy : Bd b y) : Bd (a + b + 1) (x - y) := by
  rw [← fr_eq x, ← fr_eq y, quo_sub (den_pos x) (den_pos y)]
  refine bd_quo (Int.mul_pos (den_pos x) (den_pos y)) ?_ ?_
  · refine sub_lt (mul_lt hx.1 (by rw [den_abs]; exact hy.2)) ?_
    rw [Nat.add_comm]; exact mul_lt hy.1 (by rw [den_abs]; exact hx.2)
  · exact up_lt (mul_lt (by rw [den_abs]; exact hx.2) (by rw [den_abs]; exact hy.2)) (by omega)
theorem Bd.mul {a b : Nat} {x y : Rat} (hx : Bd a x) (hy : Bd b y) : Bd (a + b) (x * y) := by
  rw [← fr_eq x, ← fr_eq y, quo_mul (den_pos x) (den_pos y)]
  refine bd_quo (Int.mul_pos (den_pos x) (den_pos y)) ?_ ?_
  · exact mul_lt hx.1 hy.1
  · exact mul_lt (by rw [den_abs]; exact hx.2) (by rw [den_abs]; exact hy.2)

/-! ### pairs of fractions as complex numbers -/
abbrev Cp := Rat × Rat
def cmul (z g : Cp) : Cp := (z.1 * g.1 - z.2 * g.2, z.1 * g.2 + z.2 * g.1)
def conj (g : Cp) : Cp := (g.1, 0 - g.2)
def nrm (g : Cp) : Rat := g.1 * g.1 + g.2 * g.2
def pw (g : Cp) : Nat → Cp
  | 0 => (1, 0)
  | n + 1 => cmul (pw g n) g
/-- the pair of a harmonic, turned -/
def tp (p z : Cp) : Cp := (p.1 * z.1 + p.2 * z.2, p.2 * z.1 - p.1 * z.2)
/-- what a harmonic is worth -/
def tm (p z : Cp) : Rat := p.1 * z.1 + p.2 * z.2
theorem cp_ext {a b : Cp} (h1 : a.1 = b.1) (h2 : a.2 = b.2) : a = b := Prod.ext h1 h2
theorem cmul_comm (a b : Cp) : cmul a b = cmul b a := by
  apply cp_ext <;> simp only [cmul] <;> grind
theorem cmul_one (a : Cp) : cmul a (1, 0) = a := by
  apply cp_ext <;> simp only [cmul] <;> grind
theorem pw_one (n : Nat) : pw (1, 0) n = (1, 0) := by
  induction n with
  | zero => rfl
  | succ n ih => rw [pw, ih, cmul_one]
theorem cmul_swap (a b c d : Cp) : cmul (cmul a b) (cmul c d) = cmul (cmul a c) (cmul b d) := by
  apply cp_ext <;> simp only [cmul] <;> grind
theorem pw_mul (g h : Cp) (n : Nat) : pw (cmul g h) n = cmul (pw g n) (pw h n) := by
  induction n with
  | zero => rw [pw, pw, pw, cmul_one]
  | succ n ih => rw [pw, pw, pw, ih, cmul_swap]
theorem nrm_cmul (a b : Cp) : nrm (cmul a b) = nrm a * nrm b := by
  simp only [cmul, nrm]; grind
theorem nrm_pw {g : Cp} (h : nrm g = 1) (n : Nat) : nrm (pw g n) = 1 := by
  induction n with
  | zero => simp only [pw, nrm]; grind
  | succ n ih => rw [pw, nrm_cmul, ih, h]; grind
theorem conj_cmul (a b : Cp) : conj (cmul a b) = cmul (conj a) (conj b) := by
  apply cp_ext <;> simp only [cmul, conj] <;> grind
theorem pw_conj (g : Cp) (n : Nat) : pw (conj g) n = conj (pw g n) := by
  induction n with
  | zero => apply cp_ext <;> simp only [pw, conj] <;> grind
  | succ n ih => rw [pw, pw, ih, conj_cmul]
theorem cmul_conj {z : Cp} (h : nrm z = 1) : cmul z (conj z) = (1, 0) := by
  apply cp_ext <;> simp only [cmul, conj, nrm] at * <;> grind
theorem tp_tp (p z w : Cp) : tp (tp p z) w = tp p (cmul z w) := by
  apply cp_ext <;> simp only [cmul, tp] <;> grind
theorem tm_tp (p z w : Cp) : tm (tp p z) w = tm p (cmul z w) := by
  simp only [cmul, tp, tm]; grind
theorem tp_one (p : Cp) : tp p (1, 0) = p := by
  apply cp_ext <;> simp only [tp] <;> grind
theorem tp_back {p z : Cp} (h : nrm z = 1) : tp (tp p z) (conj z) = p := by rw [tp_tp, cmul_conj h, tp_one]
theorem tp_ne {p z : Cp} (h : nrm z = 1) (hp : p ≠ (0, 0)) : tp p z ≠ (0, 0) := by
  intro q
  apply hp
  rw [← tp_back (p := p) h, q]
  apply cp_ext <;> simp only [tp] <;> grind

/-! ### waves -/
structure Wv where
  k0 : Rat
  ps : List Cp
def turnBy (w : Wv) (g : Cp) : Wv := ⟨w.k0, w.ps.mapIdx fun j p => tp p (pw g (j + 1))⟩
def wsum (ps : List Cp) (g : Cp) : Nat → Rat
  | 0 => 0
  | n + 1 => wsum ps g n + tm (ps.getD n (0, 0)) (pw g (n + 1))
def worthAt (w : Wv) (g : Cp) : Rat := w.k0 + wsum w.ps g w.ps.length
theorem tm_zero (z : Cp) : tm (0, 0) z = 0 := by simp only [tm]; grind
theorem tp_zero (z : Cp) : tp (0, 0) z = (0, 0) := by apply cp_ext <;> simp only [tp] <;> grind
theorem turn_getD (w : Wv) (g : Cp) (n : Nat) : (turnBy w g).ps.getD n (0, 0) = tp (w.ps.getD n (0, 0)) (pw g (n + 1)) := by
  show (List.mapIdx _ _).getD n (0, 0) = _
  rw [List.getD_eq_getElem?_getD, List.getD_eq_getElem?_getD, List.getElem?_mapIdx]
  cases e : w.ps[n]? with
  | none => exact (tp_zero _).symm
  | some p => rfl
theorem turn_len (w : Wv) (g : Cp) : (turnBy w g).ps.length = w.ps.length := List.length_mapIdx
theorem worth_turn (w : Wv) (g h : Cp) : worthAt (turnBy w g) h = worthAt w (cmul h g) := by
  unfold worthAt
  rw [turn_len]
  show w.k0 + _ = _
  congr 1
  generalize w.ps.length = n
  induction n with
  | zero => rfl
  | succ n ih => rw [wsum, wsum, ih, turn_getD, tm_tp, pw_mul, cmul_comm (pw g (n + 1))]
theorem turn_turn (w : Wv) (g h : Cp) : turnBy (turnBy w g) h = turnBy w (cmul g h) := by
  unfold turnBy
  congr 1
  apply List.ext_getElem?
  intro i
  rw [List.getElem?_mapIdx, List.getElem?_mapIdx, List.getElem?_mapIdx, Option.map_map]
  congr 1
  funext p
  show tp (tp p _) _ = _
  rw [tp_tp, pw_mul]
theorem turn_one (w : Wv) : turnBy w (1, 0) = w := by
  unfold turnBy
  cases w with
  | mk k ps =>
    congr 1
    apply List.ext_getElem?
    intro i
    rw [List.getElem?_mapIdx]
    cases e : ps[i]? with
    | none => rfl
    | some p => rw [Option.map_some, pw_one, tp_one]
theorem turn_back {w : Wv} {g : Cp} (h : nrm g = 1) : turnBy (turnBy w g) (conj g) = w := by
  rw [turn_turn, cmul_conj h, turn_one]

/-! ### turns of three whole numbers -/
structure Pt where
  c : Int
  s : Int
  r : Int
structure PtOk (k : Nat) (o : Pt) : Prop where
  pos : 0 < o.r
  lt : o.r < 2 ^ k
  on : o.c * o.c + o.s * o.s = o.r * o.r
def tq (o : Pt) : Cp := ((o.c : Rat) / (o.r : Rat), (o.s : Rat) / (o.r : Rat))
theorem tq_nrm {k : Nat} {o : Pt} (h : PtOk k o) : nrm (tq o) = 1 := by
  have h1 := cast_ne h.pos
  have h2 : ((o.c * o.c + o.s * o.s : Int) : Rat) = ((o.r * o.r : Int) : Rat) := by rw [h.on]
  simp only [Rat.intCast_add, Rat.intCast_mul] at h2
  simp only [tq, nrm]
  grind
def withP (a b : Pt) : Pt := ⟨a.c * b.c - a.s * b.s, a.c * b.s + a.s * b.c, a.r * b.r⟩
theorem tq_with {j k : Nat} {a b : Pt} (ha : PtOk j a) (hb : PtOk k b) : tq (withP a b) = cmul (tq a) (tq b) := by
  have h1 := cast_ne ha.pos
  have h2 := cast_ne hb.pos
  apply cp_ext <;> simp only [tq, withP, cmul, Rat.intCast_add, Rat.intCast_sub, Rat.intCast_mul] <;> grind
theorem with_ok {j k : Nat} {a b : Pt} (ha : PtOk j a) (hb : PtOk k b) : PtOk (j + k) (withP a b) := by
  refine ⟨Int.mul_pos ha.pos hb.pos, ?_, ?_⟩
  · show a.r * b.r < 2 ^ (j + k)
    have h1 := ha.pos
    have h2 := hb.pos
    rw [Int.pow_add]
    exact Int.mul_lt_mul ha.lt (Int.le_of_lt hb.lt) h2 (Int.le_of_lt (Int.lt_trans h1 ha.lt))
  · have h1 := ha.on
    have h2 := hb.on
    show (a.c * b.c - a.s * b.s) * (a.c * b.c - a.s * b.s) + (a.c * b.s + a.s * b.c) * (a.c * b.s + a.s * b.c) = a.r * b.r * (a.r * b.r)
    grind
def backP (a : Pt) : Pt := ⟨a.c, 0 - a.s, a.r⟩
theorem tq_back (a : Pt) : tq (backP a) = conj (tq a) := by
  apply cp_ext <;> simp only [tq, backP, conj, Rat.intCast_sub, Rat.intCast_zero] <;> grind
theorem back_ok {k : Nat} {a : Pt} (ha : PtOk k a) : PtOk k (backP a) := by
  refine ⟨ha.pos, ha.lt, ?_⟩
  have := ha.on
  show a.c * a.c + (0 - a.s) * (0 - a.s) = a.r * a.r
  grind
/-- powers of x + i y over the powers of r -/
def ipw (o : Pt) : Nat → Int × Int × Int
  | 0 => (1, 0, 1)
  | n + 1 => ((ipw o n).1 * o.c - (ipw o n).2.1 * o.s, (ipw o n).1 * o.s + (ipw o n).2.1 * o.c, (ipw o n).2.2 * o.r)
theorem ipw_pos {k : Nat} {o : Pt} (h : PtOk k o) : ∀ n, 0 < (ipw o n).2.2
  | 0 => by show (0 : Int) < 1; decide
  | n + 1 => Int.mul_pos (ipw_pos h n) h.pos
theorem ipw_on {k : Nat} {o : Pt} (h : PtOk k o) : ∀ n, (ipw o n).1 * (ipw o n).1 + (ipw o n).2.1 * (ipw o n).2.1 = (ipw o n).2.2 * (ipw o n).2.2
  | 0 => rfl
  | n + 1 => by
    have ih := ipw_on h n
    have h2 := h.on
    simp only [ipw]
    grind
theorem ipw_pw {k : Nat} {o : Pt} (h : PtOk k o) : ∀ n, pw (tq o) n = (((ipw o n).1 : Rat) / ((ipw o n).2.2 : Rat), ((ipw o n).2.1 : Rat) / ((ipw o n).2.2 : Rat))
  | 0 => by apply cp_ext <;> simp only [pw, ipw] <;> grind
  | n + 1 => by
    have h1 := cast_ne (ipw_pos h n)
    have h2 := cast_ne h.pos
    rw [pw, ipw_pw h n]
    apply cp_ext <;> simp only [ipw, cmul, tq, Rat.intCast_add, Rat.intCast_sub, Rat.intCast_mul] <;> grind
theorem ipw_lt {k : Nat} {o : Pt} (h : PtOk k o) : ∀ n, (ipw o n).2.2 < 2 ^ (k * n + 1)
  | 0 => by show (1 : Int) < 2 ^ (k * 0 + 1); rw [Nat.mul_zero]; decide
  | n + 1 => by
    have ih := ipw_lt h n
    have p := ipw_pos h n
    show (ipw o n).2.2 * o.r < _
    have e : k * (n + 1) + 1 = (k * n + 1) + k := by rw [Nat.mul_succ]; omega
    rw [e, Int.pow_add]
    exact Int.mul_lt_mul ih (Int.le_of_lt h.lt) h.pos (Int.le_of_lt (Int.lt_trans p ih))
theorem abs_le_of_sq {x y r : Int} (h : x * x + y * y = r * r) (_ : 0 < r) : x.natAbs ≤ r.natAbs := by
  have h1 : 0 ≤ y * y := by
    rcases Int.le_total 0 y with q | q
    · exact Int.mul_nonneg q q
    · exact Int.mul_nonneg_of_nonpos_of_nonpos q q
  have h2 : x.natAbs * x.natAbs ≤ r.natAbs * r.natAbs := by
    have a : ((x.natAbs * x.natAbs : Nat) : Int) = x * x := by rw [Int.natCast_mul]; exact Int.natAbs_mul_self' x
    have b : ((r.natAbs * r.natAbs : Nat) : Int) = r * r := by rw [Int.natCast_mul]; exact Int.natAbs_mul_self' r
    omega
  exact Nat.mul_self_le_mul_self_iff.mp h2
theorem natAbs_lt_pow {x : Int} {k : Nat} (h0 : 0 ≤ x) (h : x < 2 ^ k) : x.natAbs < 2 ^ k := by
  have e : (x.natAbs : Int) = x := Int.natAbs_of_nonneg h0
  have h2 : (x.natAbs : Int) < ((2 ^ k : Nat) : Int) := by rw [e, Int.natCast_pow]; exact h
  omega
theorem ipw_bd {k : Nat} {o : Pt} (h : PtOk k o) (n : Nat) : (ipw o n).1.natAbs < 2 ^ (k * n + 1) ∧ (ipw o n).2.1.natAbs < 2 ^ (k * n + 1) ∧ (ipw o n).2.2.natAbs < 2 ^ (k * n + 1) := by
  have p := ipw_pos h n
  have on := ipw_on h n
  have l := natAbs_lt_pow (Int.le_of_lt p) (ipw_lt h n)
  exact ⟨Nat.lt_of_le_of_lt (abs_le_of_sq on p) l, Nat.lt_of_le_of_lt (abs_le_of_sq (by rw [Int.add_comm] at on; exact on) p) l, l⟩
theorem pt_bd {k : Nat} {o : Pt} (h : PtOk k o) : o.c.natAbs < 2 ^ k ∧ o.s.natAbs < 2 ^ k ∧ o.r.natAbs < 2 ^ k := by
  have p := h.pos
  have on := h.on
  have l := natAbs_lt_pow (Int.le_of_lt p) h.lt
  exact ⟨Nat.lt_of_le_of_lt (abs_le_of_sq on p) l, Nat.lt_of_le_of_lt (abs_le_of_sq (by rw [Int.add_comm] at on; exact on) p) l, l⟩
theorem pw_bd {k : Nat} {o : Pt} (h : PtOk k o) (n : Nat) : Bd (k * n + 1) (pw (tq o) n).1 ∧ Bd (k * n + 1) (pw (tq o) n).2 := by
  obtain ⟨a, b, c⟩ := ipw_bd h n
  rw [ipw_pw h n]
  exact ⟨bd_quo (ipw_pos h n) a c, bd_quo (ipw_pos h n) b c⟩
end Kw
set_option maxHeartbeats 2000000
/-! KwB: rules of our own: repr of data, calls where no repr is under way, zip of a tuple and a list, a call by keywords alone. -/
namespace Kw
open PySem PySem.Spec PyProof.Rows L2

/-! ### repr of data -/
section
variable {X : Cx}
/-- data that repr shows -/
structure Shows (d : PyData) : Prop where
  sh : d.showable = true
  nd : d.hasDict = false
  di : isDisplay d = true
  de : d.depth ≤ 20
  le : d.shown.length ≤ sizeLine
def rRepr (K : PySem.W.Frag) : List V → Hp → VK → Prop := fun xs H Q => ∃ (v : V) (d : PyData), xs = [v] ∧ Dp K H v d ∧ Shows d ∧ Q (.str d.shown) H
theorem cr_repr (hg : X.A.guards = some []) (hu : X.A.units + 64 < cLine) : CallR X (.builtin "repr") (rRepr X.K) := by
  intro pins s σ H xs us Q I r h
  obtain ⟨v, d, rfl, hd, hs, q⟩ := h
  obtain ⟨u, rfl, ru⟩ := vals1 r
  obtain ⟨as, rd⟩ := Dp.reads I d v u hd ru
  obtain ⟨a, rfl⟩ := isRef_of_reads rd hs.di
  have h20 := hs.de
  exact repr_of_reads' rd hs.sh (PyData.noDict_hsm hs.nd) hg (by omega) (fun _ _ e => e) (fun h' t tk hk => ⟨.str d.shown, H, I.kept (t' := tk) hk, ⟨t, rfl⟩, q⟩) hs.le
end

/-! ### promises by name; calls with no repr under way -/
/-- a def of the module's keeps a promise, whatever is around -/
structure Kp (P : Program) (w : World) (K : PySem.W.Frag) (mg : Str → Option Value) (base : Heap) (x : Str) (k : Nat) (ps : List Str) (sp : Sp) : Prop where
  ex : ∃ (f : Addr) (fd : FuncData), FnOk P w K mg base CX0 k f fd ps sp ∧ mg x = some (.ref f) ∧ PySem.W.keepIn K (.ref f) = true ∧ Binds K fd ps []
section
variable {X : Cx} {x : Str} {k : Nat} {ps : List Str} {sp : Sp} {p pos : Pos} {e : Expr} {es : List Expr} {t : TA}
theorem pe_kp (G : Kp X.prog X.w X.K X.mg X.base x k ps sp) (hr : Room k X.A) (hg : Gl X x) (ha : PA X (e :: es) t) (hdb : (x == ("__debug__" : Str)) = false := by decide)
    (he : starEach (e :: es) X.env = (false, eval e X.env) :: starEach es X.env := by rfl) (hpl : (backTo pos (starEach es X.env)).any (·.1) = false := by rfl) :
    PE X (.Call (.Name x p) (e :: es) [] pos) (tCall sp [] E0 t) := by
  obtain ⟨f, fd, F, hm, hk, hb⟩ := G.ex
  exact pe_call F hr hg hm hk hb .nil pass0 ha hdb he hpl
end

/-- the same where no repr is under way -/
structure GnOk (P : Program) (w : World) (K : PySem.W.Frag) (mg : Str → Option Value) (base : Heap) (k : Nat) (f : Addr) (fd : FuncData) (ps : List Str) (sp : Sp) : Prop where
  len : ∀ vs H Q, sp vs H Q E0 → vs.length = ps.length
  run : ∀ (A : Around) (outer : List Env) (s : Shared) (H : Hp) (us : List Value) (vs : List V) (Q : VK),
    A.guards = some [] → Room k A → Env0 P w K mg base A outer s H → BindsTo s fd ⟨us, []⟩ (ps.zip us) → Vals vs us → sp vs H Q E0 →
    codeAny (model P w) A (.call (.ref f) ⟨us, []⟩) (CR CX0 outer P w H s Q E0) s
section
variable {P : Program} {w : World} {K : PySem.W.Frag} {mg : Str → Option Value} {base : Heap}
theorem gn_of {x qual : Str} {st : Stmt} {f : Addr} {fd : FuncData} {N ps : List Str} {k : Nat} {sp : Sp} (F : Fun K x qual st f fd) (S : FnScope N ps (defScope st))
    (len : ∀ vs H Q, sp vs H Q E0 → vs.length = ps.length)
    (hbody : ∀ (cdv : Value) (A : Around) (outer : List Env) (s : Shared) (H : Hp) (vs : List V) (Q : VK),
      (A.deeper (envOfC qual (defScope st) s.heap.objs.size f cdv)).guards = some [] → Room k (A.deeper (envOfC qual (defScope st) s.heap.objs.size f cdv)) → sp vs H Q E0 →
      ∃ t, PSs (cxOf CX0 P w K mg base N qual (defScope st) f cdv A outer s H E0).nox (defBody st) t ∧ t { nx := fun _ H' => Q .non H', rt := Q } (start N vs) H) :
    GnOk P w K mg base (k + 1) f fd ps sp := by
  obtain ⟨oc, od, kV, doc, pm, an, cdv, ct, osl, rfl, lk, hcd⟩ := F.ex
  refine ⟨len, ?_⟩
  intro A outer s H us vs Q hgs hr e0 hb rv hsp
  have lenv := len vs H Q hsp
  have kin : K.In s.heap := e0.mod.kin.keeps (fun b o q => (e0.bs b o q).1)
  have room : s.heap.NoLimit := e0.mod.nolimit.keeps (fun b o q => (e0.bs b o q).1)
  refine codeAny_call_function hr.depth (kin f _ lk) rfl S.co S.gen rfl (PySem.W.codeRec_of kin hcd) (hb _ _ _ _ ?_)
  refine wpAny_newFunctionEnv_cells S.kind ?_ ?_
  · rintro ⟨n, v⟩ hy
    have hn : n ∈ ps := (List.of_mem_zip hy).1
    cases S.par n hn with
    | inl q => exact Or.inl q
    | inr q => exact Or.inr ⟨q, PySem.W.cellsFrom_some _ _ _ (Or.inl q)⟩
  · intro env he s1 x1
    subst he
    refine ⟨room.keeps x1.toInCall.keep, codeAny_func ?_⟩
    obtain ⟨t, ht, hq⟩ := hbody cdv A outer s H vs Q hgs (hr.deeper _) hsp
    have J0 := inv_start (CX := CX0) (E := E0) S hr.hd e0 lenv rv x1
    refine wpAny_mono (ht.nox.run [] s1 (start N vs) H _ J0 hq) ?_ (fun _ _ z => z)
    rintro fl s' hs
    cases fl with
    | ret u =>
      obtain ⟨v, σ', H', J, r1, q⟩ := hs
      exact ⟨v, H', J.os, J.bare, J.base, J.hok, r1, q⟩
    | next =>
      obtain ⟨σ', H', J, q⟩ := hs
      exact ⟨V.non, H', J.os, J.bare, J.base, J.hok, rfl, q⟩
    | brk => exact hs.elim fun _ z => z.elim fun _ z => z.2.elim
    | cont => exact hs.elim fun _ z => z.elim fun _ z => z.2.elim
end
/-- a def of the module's keeps a promise where no repr is under way -/
structure Gp (P : Program) (w : World) (K : PySem.W.Frag) (mg : Str → Option Value) (base : Heap) (x : Str) (k : Nat) (ps : List Str) (sp : Sp) : Prop where
  ex : ∃ (f : Addr) (fd : FuncData), GnOk P w K mg base k f fd ps sp ∧ mg x = some (.ref f) ∧ PySem.W.keepIn K (.ref f) = true ∧ Binds K fd ps []
section
variable {X : Cx} {x : Str} {k : Nat} {ps : List Str} {sp : Sp} {p pos : Pos} {e : Expr} {es : List Expr} {t : TA}
theorem pe_gp (G : Gp X.prog X.w X.K X.mg X.base x k ps sp) (hgs : X.A.guards = some []) (hr : Room k X.A) (hg : Gl X x) (ha : PA X (e :: es) t) (hdb : (x == ("__debug__" : Str)) = false := by decide)
    (he : starEach (e :: es) X.env = (false, eval e X.env) :: starEach es X.env := by rfl) (hpl : (backTo pos (starEach es X.env)).any (·.1) = false := by rfl) :
    PE X (.Call (.Name x p) (e :: es) [] pos) (tCall sp [] E0 t) := by
  obtain ⟨f, fd, F, hm, hk, hb⟩ := G.ex
  constructor
  intro pins s σ H Q I h
  refine wpAny_Call_Name_kw (ld_glob I hg hm ?_ hdb)
  refine PySem.W.callWith_K (h₀ := X.base) I.ok.mod.kin hk ?_ he hpl
  refine thn (ha.run pos pins s σ H _ I h) ?_
  rintro us s1 ⟨vs, H1, I1, rv, q⟩
  refine ⟨I1.kIn, ?_⟩
  have q' : sp vs H1 Q E0 := by
    have z : sp (vs ++ []) H1 Q E0 := q
    rw [List.append_nil] at z
    exact z
  have lu : (us ++ []).length = ps.length := by
    rw [List.append_nil, ← rv.length]
    exact F.len _ _ _ q'
  have bd := hb s1 us I1.kIn lu
  rw [List.append_nil] at bd
  refine wpAny_call (codeAny_mono (F.run X.A X.stack s1 H1 us vs Q hgs hr I1.env0 bd rv q') ?_)
  intro res s2 hq
  cases res with
  | error er => exact False.elim hq
  | ok fl =>
    cases fl with
    | ret u => exact I1.after hq
    | next => exact False.elim hq
    | brk => exact False.elim hq
    | cont => exact False.elim hq
end

/-! ### f(a = x, b = y) -/
structure Kq (P : Program) (w : World) (K : PySem.W.Frag) (mg : Str → Option Value) (base : Heap) (x : Str) (k : Nat) (ps ks : List Str) (g : List Value → List Value → List Value) (gV : List V → List V → List V) (sp : Sp) : Prop where
  ex : ∃ (f : Addr) (fd : FuncData), FnOk P w K mg base CX0 k f fd ps sp ∧ mg x = some (.ref f) ∧ PySem.W.keepIn K (.ref f) = true ∧ KBinds K fd ps ks g gV
section
variable {X : Cx} {x : Str} {k : Nat} {ps ks : List Str} {g : List Value → List Value → List Value} {gV : List V → List V → List V} {sp : Sp} {p pos : Pos} {kws : List Keyword} {tk : TA}
theorem pe_kq (G : Kq X.prog X.w X.K X.mg X.base x k ps ks g gV sp) (hr : Room k X.A) (hg : Gl X x) (hkw : PK X kws tk)
    (hall : (backToKw pos (keywordEach kws X.env)).all (·.1.isSome) = true := by rfl) (hks : (backToKw pos (keywordEach kws X.env)).filterMap (·.1) = ks := by rfl)
    (hdb : (x == ("__debug__" : Str)) = false := by decide) (hpl : ((backTo pos (starEach [] X.env)).any (·.1) || (backToKw pos (keywordEach kws X.env)).any (·.1.isNone)) = false := by rfl) :
    PE X (.Call (.Name x p) [] kws pos) (tCallK sp gV E0 tNil tk) := by
  obtain ⟨f, fd, F, hm, hk, hb⟩ := G.ex
  constructor
  intro pins s σ H Q I h
  refine wpAny_Call_Name_kw (ld_glob I hg hm ?_ hdb)
  refine PySem.W.callWith_KW0 (h₀ := X.base) I.ok.mod.kin hk hall ?_ hpl
  refine thn (hkw.run pos pins s σ H _ I h) ?_
  rintro ws s1 ⟨zs, H1, I1, rz, q⟩
  refine ⟨I1.kIn, ?_⟩
  rw [hks]
  exact run_fnk (us := []) (vs := []) F hr hb pass0 I1 .nil rz q
end
end Kw
set_option maxHeartbeats 2000000
/-! KwB2: zip of a tuple and a list; the law's call where no repr is under way. -/
namespace Kw
open PySem PySem.Spec PyProof.Rows L2

/-- the tuple at a and the list at b as they stand at each turn, the items in new pairs; both of one length -/
def ItM (K : PySem.W.Frag) (a b : Addr) : It where
  go := fun i H => ∃ (xs ys : List V) (x y : V), SqT K H a xs ∧ SqL K H b ys ∧ xs[i]? = some x ∧ ys[i]? = some y
  yld := fun i H v H' => ∃ (T : Addr) (x y : V), v = .ref T ∧ H T = none ∧ H' = upd H T (.tup [x, y]) ∧ (∀ xs, SqT K H a xs → xs[i]? = some x) ∧ ∀ ys, SqL K H b ys → ys[i]? = some y
  stop := fun i H => ∃ xs ys : List V, SqT K H a xs ∧ SqL K H b ys ∧ xs.length = i ∧ ys.length = i

theorem walk_m {K : PySem.W.Frag} {a b : Addr} {xs ys : List V} (hn : xs.length = ys.length) :
    Walk (ItM K a b) xs.length (fun H => SqT K H a xs ∧ SqL K H b ys) (YPair (fun i => xs[i]?) (fun i => ys[i]?)) where
  goes := fun i H hi q => ⟨xs, ys, xs[i], ys[i]'(hn ▸ hi), q.1, q.2, List.getElem?_eq_getElem _, List.getElem?_eq_getElem _⟩
  stops := fun H q => ⟨xs, ys, q.1, q.2, rfl, hn.symm⟩
  yields := fun i H v H' _ q y => by
    obtain ⟨T, x, z, e1, e2, e3, e4, e5⟩ := y
    exact ⟨T, x, z, e1, e2, e3, e4 xs q.1, e5 ys q.2⟩

/-- five cells, apart from one another and from what is walked -/
structure Five (z TI TO i1 i2 a b : Addr) : Prop where
  sep : ZipSep2 z TI TO i1 i2 [i1, a] [i2, b]
  a1 : a ≠ i1
  b2 : b ≠ i2

theorem turn_m {P : Program} {w : World} {K : PySem.W.Frag} {elts : List Expr} {kk : Nat} {tpos : Pos} {a b z TI TO i1 i2 : Addr} (D : Five z TI TO i1 i2 a b) :
    Turn P w K (.Tuple elts kk tpos) (ItM K a b) [z, TI, TO, i1, i2] z
      (fun i h => IsZip h z TI TO .none ∧ IsTupOf2 h TI (.ref i1) (.ref i2) ∧ (∃ x y, IsTupOf2 h TO x y) ∧ h.IsTupleIter i1 a i ∧ h.IsListIter i2 b i) where
  mem := List.mem_cons_self ..
  obj := by
    rintro i h ⟨hz, hTI, ⟨x, y, hTO⟩, ⟨o1, e1, _, d1⟩, ⟨o2, e2, _, d2⟩⟩ c hc
    simp only [List.mem_cons, List.not_mem_nil, or_false] at hc
    rcases hc with q | q | q | q | q <;> rw [q]
    · exact ⟨_, hz, fun v q => nomatch q⟩
    · exact ⟨_, hTI, fun v q => nomatch q⟩
    · exact ⟨_, hTO, fun v q => nomatch q⟩
    · exact ⟨o1, e1, fun v q => by rw [d1] at q; cases q⟩
    · exact ⟨o2, e2, fun v q => by rw [d2] at q; cases q⟩
  keep := by
    rintro i h h' ⟨hz, hTI, ⟨x, y, hTO⟩, h1, h2⟩ k
    refine ⟨k z ?_ _ hz, k TI ?_ _ hTI, ⟨x, y, k TO ?_ _ hTO⟩, h1.at fun o q => k i1 ?_ o q, h2.at fun o q => k i2 ?_ o q⟩ <;> simp
  item := by
    intro X hP hw hK hc i pins s σ H E I hf st hg
    subst hP hw hK
    obtain ⟨hz, hTI, ⟨x0, y0, hTO⟩, h1, h2⟩ := st
    obtain ⟨xs, ys, x, y, hqx, hqy, hx, hy⟩ := hg
    obtain ⟨its, rv, p, _⟩ := I.tuple hqx
    obtain ⟨its2, rv2, p2, _⟩ := I.list hqy
    obtain ⟨u, hu, ru⟩ := rv.get hx
    obtain ⟨u2, hu2, ru2⟩ := rv2.get hy
    have hh : X.A.in1.handled = none := I.ok.hd hc
    have lt1 : i < its.toArray.size := by rw [List.size_toArray]; exact (List.getElem?_eq_some_iff.mp hu).1
    have lt2 : i < its2.toArray.size := by rw [List.size_toArray]; exact (List.getElem?_eq_some_iff.mp hu2).1
    have zlt : z < s.heap.objs.size := Heap.lt_size hz
    refine wpAny_pyNext_zipD2_item D.sep (Draws.tuple hh i1 a D.a1 its.toArray) (Draws.list hh i2 b D.b2 its2.toArray) hz hTI hTO ⟨h1, p⟩ ⟨h2, p2.isList⟩ lt1 lt2 ?_
    intro v1 v2 h' tk hv1 hv2 z' TO' s1 s2 hT hsz hk
    have hk5 : ∀ c o, c ∉ [z, TI, TO, i1, i2] → s.heap.get? c = some o → h'.get? c = some o := fun c o hb q => by
      simp only [List.mem_cons, List.not_mem_nil, or_false, not_or] at hb
      exact hk c o hb.1 hb.2.2.1 hb.2.2.2.1 hb.2.2.2.2 q
    refine ⟨_, rfl, wpAny_letOwnedTupleGo_zip (s := { s with heap := h', toks := tk }) z' ?_⟩
    intro h'' z'' sb
    have e1 : v1 = u := by
      have q : its.toArray[i]? = some v1 := hv1
      rw [List.getElem?_toArray, hu] at q
      exact (Option.some.inj q).symm
    have e2 : v2 = u2 := by
      have q : its2.toArray[i]? = some v2 := hv2
      rw [List.getElem?_toArray, hu2] at q
      exact (Option.some.inj q).symm
    subst e1 e2
    have hT2 : h''.get? s.heap.objs.size = some { cls := .type "tuple", data := .seq #[v1, v2] } := (sb.2 _ (Nat.ne_of_gt zlt)).trans hT
    have new : ObjOk X.prog X.w (upd H s.heap.objs.size (.tup [x, y])) h'' s.heap.objs.size (.tup [x, y]) :=
      ⟨by show 2 ≤ sizeLine; decide, [v1, v2], .cons ru (.cons ru2 .nil), ⟨_, hT2, rfl, _, rfl⟩⟩
    have I1 : Inv X pins σ (upd H s.heap.objs.size (.tup [x, y])) { s with heap := h'', toks := tk } :=
      I.turnedNew (t' := tk) (ch := [z, TI, TO, i1, i2]) (fun c o hb q => (sb.2 c (fun q' => hb (by simp [q']))).trans (hk5 c o hb q)) hf (Nat.le_refl _) new
    refine ⟨.ref s.heap.objs.size, _, I1, rfl, ⟨_, x, y, rfl, I.hok.fresh (Nat.le_refl _), rfl, fun l hl => ?_, fun l hl => ?_⟩, ⟨z'', ?_, ⟨v1, v2, ?_⟩, ?_, ?_⟩, fun c hcm => ?_⟩
    · rw [I.tuple_inj hl hqx]; exact hx
    · rw [I.list_inj hl hqy]; exact hy
    · exact (sb.2 _ D.sep.TIz).trans (hk _ _ D.sep.TIz D.sep.TITO D.sep.TIi1 D.sep.TIi2 hTI)
    · exact (sb.2 _ D.sep.TOz).trans TO'
    · exact s1.1.at fun o q => (sb.2 _ D.sep.zi1.symm).trans q
    · exact s2.1.at fun o q => (sb.2 _ D.sep.zi2.symm).trans q
    · have hlt : c < s.heap.objs.size := by
        simp only [List.mem_cons, List.not_mem_nil, or_false] at hcm
        rcases hcm with q | q | q | q | q <;> rw [q]
        · exact zlt
        · exact Heap.lt_size hTI
        · exact Heap.lt_size hTO
        · obtain ⟨_, q1, _⟩ := h1; exact Heap.lt_size q1
        · obtain ⟨_, q1, _⟩ := h2; exact Heap.lt_size q1
      rw [upd_ne (Nat.ne_of_lt hlt)]
      exact (hf c hcm).1
  done := by
    intro X hP hw hK hc i pins s σ H E I hf st hg
    subst hP hw hK
    obtain ⟨hz, hTI, ⟨x0, y0, hTO⟩, h1, h2⟩ := st
    obtain ⟨xs, ys, hqx, hqy, l1, l2⟩ := hg
    obtain ⟨its, rv, p, _⟩ := I.tuple hqx
    obtain ⟨its2, rv2, p2, _⟩ := I.list hqy
    have hh : X.A.in1.handled = none := I.ok.hd hc
    have n1 : its.toArray.size = i := by rw [List.size_toArray, ← rv.length, l1]
    have n2 : its2.toArray.size = i := by rw [List.size_toArray, ← rv2.length, l2]
    refine wpAny_pyNext_zipD2_end D.sep (Draws.tuple hh i1 a D.a1 its.toArray) (Draws.list hh i2 b D.b2 its2.toArray) hz hTI hTO ⟨h1, p⟩ ⟨h2, p2.isList⟩ (Nat.le_of_eq n1.symm) (Nat.le_of_eq n2.symm) (.inl n1.symm) ?_
    intro h' tk hk
    refine ⟨rfl, I.turnedL (t' := tk) (ch := [z, TI, TO, i1, i2]) (fun c o hb q => ?_) hf⟩
    simp only [List.mem_cons, List.not_mem_nil, or_false, not_or] at hb
    exact hk c o hb.1 hb.2.2.1 hb.2.2.2.1 hb.2.2.2.2 q
  self := fun A i s Q E st h => wpAny_pyIter_zip st.1 h

def iZipM (K : PySem.W.Frag) (ta : TA) : TI := fun σ H R => ta σ H fun vs H1 => ∃ (a b : Addr) (xs ys : List V), vs = [.ref a, .ref b] ∧ SqT K H1 a xs ∧ SqL K H1 b ys ∧ R (ItM K a b) H1
theorem pi_zipM {X : Cx} {e e2 : Expr} {ta : TA} {p pos tpos : Pos} {elts : List Expr} {kk : Nat} (hg : Gl X "zip") (hm : X.mg "zip" = none) (ha : PA X [e, e2] ta)
    (hs : starEach [e, e2] X.env = (false, eval e X.env) :: starEach [e2] X.env := by rfl) (hpl : (backTo pos (starEach [e2] X.env)).any (·.1) = false := by rfl) :
    PI X (.Tuple elts kk tpos) (.Call (.Name "zip" p) [e, e2] [] pos) (iZipM X.K ta) := by
  constructor
  intro pins s σ H R I h
  refine Call_ (ld_blt I hg hm PyProof.Rows.boot_zip (PyProof.Rows.callWith_type1 (thn (ha.run pos pins s σ H _ I h) ?_) hs hpl))
  rintro us s1 ⟨vs, H1, I1, r1, a, b, xs, ys, rfl, hqx, hqy, q⟩
  obtain ⟨u1, u2, rfl, ra, rb⟩ := r1.two
  cases ra
  cases rb
  obtain ⟨its, rv, p1, _⟩ := I1.tuple hqx
  obtain ⟨its2, rv2, p2, _⟩ := I1.list hqy
  refine zip_begins2 (begins_tuple a its.toArray) (begins_list b its2.toArray) p1 p2.isList ?_
  intro h' hz hTI hTO g1 g2 hsz hk
  refine wpAny_pyIter_zip hz ?_
  have I2 : Inv X pins σ H1 { s1 with heap := h' } := I1.kept (t' := s1.toks) hk
  have lta : a < s1.heap.objs.size := p1.lt
  have ltb : b < s1.heap.objs.size := p2.lt
  have five : Five (s1.heap.objs.size + 4) (s1.heap.objs.size + 2) (s1.heap.objs.size + 3) s1.heap.objs.size (s1.heap.objs.size + 1) a b :=
    ⟨zip_sep2 (fp1 := [a]) (fp2 := [b]) (by simpa using lta) (by simpa using ltb), Nat.ne_of_lt lta, Nat.ne_of_lt (Nat.lt_succ_of_lt ltb)⟩
  refine ⟨_, [s1.heap.objs.size + 4, s1.heap.objs.size + 2, s1.heap.objs.size + 3, s1.heap.objs.size, s1.heap.objs.size + 1], _, _, H1, rfl, I2, turn_m five, ⟨hz, hTI, ⟨_, _, hTO⟩, ?_, ?_⟩, ?_, q⟩
  · exact ⟨_, g1, rfl, rfl⟩
  · exact ⟨_, g2, rfl, rfl⟩
  · intro c hcm
    have hle : s1.heap.objs.size ≤ c := by
      simp only [List.mem_cons, List.not_mem_nil, or_false] at hcm
      rcases hcm with z | z | z | z | z <;> rw [z]
      · exact Nat.le_add_right _ _
      · exact Nat.le_add_right _ _
      · exact Nat.le_add_right _ _
      · exact Nat.le_refl _
      · exact Nat.le_add_right _ _
    exact I1.fpOk hle (I1.hok.fresh hle)
end Kw
set_option maxHeartbeats 2000000
/-! KwB3: the end of a law whose def keeps a promise where no repr is under way. -/
namespace Kw
open PySem PySem.Spec PyProof.Rows L2

/-- the script as an object that is known and stays -/
def scriptObj (vs : List Value) : Obj := { cls := .type "list", data := .seq vs.toArray }
def scriptHp (K : PySem.W.Frag) (a : Addr) (vs : List Value) (ns : List Int) : Hp :=
  fun b => if b = a ∧ K.lookup a = none then some (.frz (scriptObj vs) (.lst (ns.map V.int))) else none
section
variable {K : PySem.W.Frag} {a b : Addr} {vs : List Value} {ns : List Int} {o : HO}
theorem scriptHp_some (h : scriptHp K a vs ns b = some o) : b = a ∧ K.lookup a = none ∧ o = .frz (scriptObj vs) (.lst (ns.map V.int)) := by
  unfold scriptHp at h
  split at h
  · rename_i c
    cases h
    exact ⟨c.1, c.2, rfl⟩
  · cases h
theorem scriptHp_none (h : ¬ (b = a ∧ K.lookup a = none)) : scriptHp K a vs ns b = none := if_neg h
theorem intsV : ∀ {vs : List Value} {ns : List Int}, IntsAre vs ns → Vals (ns.map V.int) vs
  | _, _, .nil => .nil
  | _, _, .cons _ t r => .cons ⟨t, rfl⟩ (intsV r)
end

theorem gn_law {P : Program} {w : World} {K : PySem.W.Frag} {mg mb : Str → Option Value} {k : Nat} {fa a : Addr} {fd : FuncData} {x : Str} {sp : Sp} {s1 : Shared} {vs : List Value} {ns : List Int}
    (kin : K.In s1.heap) (nsg : s1.heap.Ns mainGlobals mg) (nsb : s1.heap.Ns builtinsNs mb) (bt : ∀ y : Str, y ≠ "__name__" → mb y = bootBuiltins y) (nl : s1.heap.NoLimit) (gens : s1.gens = #[])
    (ha : s1.heap.get? a = some (scriptObj vs)) (hi : IntsAre vs ns) (hl : ns.length ≤ sizeLine) (hr : Room k callerA)
    (F : ∀ base : Heap, K.In base → base.Ns mainGlobals mg → GnOk P w K mg base k fa fd [x] sp) (bd : ∀ (s : Shared) (u : Value), BindsTo s fd ⟨[u], []⟩ [(x, u)])
    (hsp : ∀ H : Hp, SqL K H a (ns.map V.int) → sp [.ref a] H (fun v _ => v = .bl true) E0) :
    codeAny (model P w) callerA (.call (.ref fa) ⟨[.ref a], []⟩) (fun r s' => r = .ok (.ret (.bool true)) ∧ OldK s1.heap s'.heap ∧ s'.os = s1.os ∧ AllBare s'.gens) s1 := by
  have rv := intsV hi
  have ln : vs.length = ns.length := by rw [← rv.length, List.length_map]
  have hok : HOk P w (scriptHp K a vs ns) s1.heap := by
    intro b o e
    obtain ⟨rfl, _, rfl⟩ := scriptHp_some e
    exact ⟨ha, by rw [List.length_map]; exact hl, vs, _, rv, ha⟩
  have sq : SqL K (scriptHp K a vs ns) a (ns.map V.int) := by
    cases lk : K.lookup a with
    | none => exact .inl (.inr ⟨scriptObj vs, if_pos ⟨rfl, lk⟩⟩)
    | some ob =>
      have e := kin a ob lk
      rw [ha] at e
      cases e
      exact .inr ⟨_, vs.toArray, _, lk, rfl, rfl, rfl, by rw [List.size_toArray, ln]; exact hl, rv⟩
  -- what is no list of the script's stays in the part that is hidden from nobody
  have stays : ∀ {b : Addr} {ob : Obj}, s1.heap.get? b = some ob → (b ≠ a ∨ K.lookup a ≠ none) → (hidT s1.heap (scriptHp K a vs ns)).get? b = some ob := fun {b ob} e c =>
    hidT_get e (scriptHp_none fun q => c.elim (fun z => z q.1) fun z => z q.2)
  have dictAt : ∀ {b : Addr} {m : Str → Option Value}, s1.heap.Ns b m → (hidT s1.heap (scriptHp K a vs ns)).Ns b m := by
    rintro b m ⟨ob, es, ep, e, d, r⟩
    refine ⟨ob, es, ep, stays e (.inl fun q => ?_), d, r⟩
    rw [q, ha] at e
    cases e
    cases d
  have kin2 : K.In (hidT s1.heap (scriptHp K a vs ns)) := by
    intro b ob e
    refine stays (kin b ob e) ?_
    by_cases q : b = a
    · exact .inr (by rw [← q, e]; exact fun z => nomatch z)
    · exact .inl q
  have nl2 : (hidT s1.heap (scriptHp K a vs ns)).NoLimit := by
    obtain ⟨m, q1, q2⟩ := nl
    exact ⟨m, dictAt q1, q2⟩
  have md : Mod K mg (hidT s1.heap (scriptHp K a vs ns)) := ⟨kin2, dictAt nsg, ⟨mb, dictAt nsb, bt⟩, nl2⟩
  have e0 : Env0 P w K mg (hidT s1.heap (scriptHp K a vs ns)) callerA [] s1 (scriptHp K a vs ns) :=
    { frames := rfl, mod := md, bs := fun b ob e => of_hidT e, bsz := Nat.le_of_eq (hidT_size _ _), funs := trivial, frf := fun b hb => absurd hb List.not_mem_nil, hok := hok, bare := .of_eq gens }
  refine codeAny_mono ((F _ kin2 (dictAt nsg)).run callerA [] s1 _ [.ref a] [.ref a] _ rfl hr e0 (bd s1 (.ref a)) (.cons rfl .nil) (hsp _ sq)) ?_
  intro r s' h
  cases r with
  | error e => exact False.elim h
  | ok fl =>
    cases fl with
    | next => exact False.elim h
    | brk => exact False.elim h
    | cont => exact False.elim h
    | ret u =>
      obtain ⟨v, H', os, bare, un, hok', r1, q⟩ := h
      have ev : v = .bl true := q
      subst ev
      have eu : u = Value.bool true := r1
      subst eu
      refine ⟨rfl, OldK.of_keep ?_, os, bare⟩
      intro b ob e
      by_cases c : b = a ∧ K.lookup a = none
      · obtain ⟨rfl, lk⟩ := c
        have f : scriptHp K b vs ns b = some (.frz (scriptObj vs) (.lst (ns.map V.int))) := if_pos ⟨rfl, lk⟩
        have g := (hok' b _ (un.frzs b _ _ f)).1
        rw [ha] at e
        cases e
        exact g
      · exact un.keep b ob e (scriptHp_none c) List.not_mem_nil List.not_mem_nil

theorem walk_g {l : PySem.W.OpenLaw} {n k : Nat} {q : Program} {loose : List Str} {XP : (Str → Option Value) → Heap → Prop} {YP : World → Heap → Prop} {d : DefRec} {K : Params → PySem.W.Frag} {sp : PySem.W.Frag → Sp} {x : Str}
    (hn : l.most = some n) (hn2 : n ≤ sizeLine) (hdf : d.params.defaults = []) (hr : Room k callerA) (hY : ∀ (w : World) (h : Heap), YP w h → (K w.params).In h)
    (F : ∀ (w : World) (mg : Str → Option Value) (fa : Addr) (h : Heap), (K w.params).In h → h.Ns mainGlobals mg → mg d.name = some (.ref fa) →
      ∃ fd : FuncData, (∀ (s : Shared) (u : Value), BindsTo s fd ⟨[u], []⟩ [(x, u)]) ∧ ∀ base : Heap, (K w.params).In base → base.Ns mainGlobals mg → GnOk l.prog w (K w.params) mg base k fa fd [x] (sp (K w.params)))
    (hsp : ∀ (K : PySem.W.Frag) (H : Hp) (a : Addr) (ns : List Int), ns.length ≤ n → SqL K H a (ns.map V.int) → sp K [.ref a] H (fun v _ => v = .bl true) E0) :
    PySem.W.WalkO q loose XP YP l.row.toRowW d [] (fun f vs => PySem.call f vs) := by
  refine Att.attach_call hn hdf ?_
  intro w s0 s1 mg mb fa o pm cd doc a vs ns G Y _ _ _ hmg hobj hints hlen hg
  have kin := hY w _ Y
  obtain ⟨fd, bd, hF⟩ := F w mg fa _ kin G.T.g hmg
  exact gn_law kin G.T.g G.T.b G.T.builtins G.T.nolimit hg hobj hints (Nat.le_trans hlen hn2) hr hF bd (fun H hS => hsp (K w.params) H a ns hlen hS)
end Kw
set_option maxHeartbeats 2000000
/-! KwC: fractions, pairs, waves as data; how they stand in the heap. -/
namespace Kw
open PySem PySem.Spec PyProof.Rows L2

/-! ### as data -/
def dR (x : Rat) : PyData := .tuple [.int x.num, .int (x.den : Int)]
def dP (p : Cp) : PyData := .tuple [dR p.1, dR p.2]
def dPs (ps : List Cp) : PyData := .tuple (ps.map dP)
def dW (w : Wv) : PyData := .tuple [dR w.k0, dPs w.ps]

theorem can_R (x : Rat) : (dR x).canLay0 = true := rfl
theorem can_P (p : Cp) : (dP p).canLay0 = true := rfl
theorem can_all : ∀ ps : List Cp, PyData.canLayAll0 (ps.map dP) = true
  | [] => rfl
  | p :: ps => by
    show (PyData.canLay0 (dP p) && PyData.canLayAll0 (ps.map dP)) = true
    rw [can_P, can_all ps, Bool.and_true]
theorem can_W (w : Wv) : (dW w).canLay0 = true := by
  show (true && ((PyData.canLayAll0 (w.ps.map dP)) && true)) = true
  rw [can_all]; rfl
theorem dep_R (x : Rat) : (dR x).depth = 1 := rfl
theorem dep_P (p : Cp) : (dP p).depth = 2 := rfl
theorem dep_all : ∀ ps : List Cp, PyData.depthAll (ps.map dP) ≤ 2
  | [] => Nat.zero_le _
  | p :: ps => by
    show max (dP p).depth (PyData.depthAll (ps.map dP)) ≤ 2
    have := dep_all ps
    rw [dep_P]; omega
theorem dep_Ps (ps : List Cp) : (dPs ps).depth ≤ 3 := by
  show PyData.depthAll (ps.map dP) + 1 ≤ 3
  have := dep_all ps
  omega
theorem dep_W (w : Wv) : (dW w).depth ≤ 4 := by
  show max 1 (max (dPs w.ps).depth 0) + 1 ≤ 4
  have := dep_Ps w.ps
  omega
theorem shaped_of {d : PyData} (h : d.canLay0 = true) (h2 : d.depth ≤ 64) : SeqAt.shaped d = true := by
  unfold SeqAt.shaped
  rw [h, decide_eq_true h2]; rfl
theorem shaped_R (x : Rat) : SeqAt.shaped (dR x) = true := shaped_of (can_R x) (by rw [dep_R]; decide)
theorem shaped_P (p : Cp) : SeqAt.shaped (dP p) = true := shaped_of (can_P p) (by rw [dep_P]; decide)
theorem shaped_Ps (ps : List Cp) : SeqAt.shaped (dPs ps) = true := shaped_of (can_all ps) (by have := dep_Ps ps; omega)
theorem shaped_W (w : Wv) : SeqAt.shaped (dW w) = true := shaped_of (can_W w) (by have := dep_W w; omega)
theorem rat_ext {x y : Rat} (h1 : x.num = y.num) (h2 : x.den = y.den) : x = y := by
  rw [← fr_eq x, ← fr_eq y, h1, h2]
theorem eqv_R (x y : Rat) : PyData.eqv (dR x) (dR y) = decide (x = y) := by
  show ((x.num == y.num) && (((x.den : Int) == (y.den : Int)) && true)) = _
  by_cases h : x = y
  · subst h; simp
  · rw [decide_eq_false h]
    cases h1 : (x.num == y.num) with
    | false => rfl
    | true =>
      cases h2 : ((x.den : Int) == (y.den : Int)) with
      | false => rfl
      | true =>
        have e1 : x.num = y.num := eq_of_beq h1
        have e2 : (x.den : Int) = (y.den : Int) := eq_of_beq h2
        exact absurd (rat_ext e1 (by omega)) h
theorem eqv_P (p q : Cp) : PyData.eqv (dP p) (dP q) = decide (p = q) := by
  show (PyData.eqv (dR p.1) (dR q.1) && (PyData.eqv (dR p.2) (dR q.2) && true)) = _
  rw [eqv_R, eqv_R, Bool.and_true, ← Bool.decide_and]
  congr 1
  exact propext ⟨fun h => Prod.ext h.1 h.2, fun h => ⟨by rw [h], by rw [h]⟩⟩
theorem eqv_refl_W (w : Wv) : PyData.eqv (dW w) (dW w) = true := SeqAt.eqv_refl _ (can_W w)

/-! ### in the heap -/
/-- tuples stay -/
structure Tk (H H' : Hp) : Prop where
  tup : ∀ a xs, H a = some (.tup xs) → H' a = some (.tup xs)
  frz : ∀ a o u, H a = some (.frz o u) → H' a = some (.frz o u)
theorem Tk.of {H H' : Hp} (s : Same H H') : Tk H H' := ⟨fun _ _ h => s _ _ h, fun _ _ _ h => s _ _ h⟩
theorem Tk.refl (H : Hp) : Tk H H := ⟨fun _ _ h => h, fun _ _ _ h => h⟩
theorem Tk.trans {H H1 H2 : Hp} (a : Tk H H1) (b : Tk H1 H2) : Tk H H2 := ⟨fun c xs h => b.tup c xs (a.tup c xs h), fun c o u h => b.frz c o u (a.frz c o u h)⟩
/-- all but p stays -/
def Keep (p : Addr) (H H' : Hp) : Prop := ∀ b o, b ≠ p → H b = some o → H' b = some o
theorem Keep.refl (p : Addr) (H : Hp) : Keep p H H := fun _ _ _ h => h
theorem Keep.trans {p : Addr} {H H1 H2 : Hp} (a : Keep p H H1) (b : Keep p H1 H2) : Keep p H H2 := fun c o n h => b c o n (a c o n h)
theorem Keep.of {p : Addr} {H H' : Hp} (s : Same H H') : Keep p H H' := fun b o _ h => s b o h
theorem Keep.tk {p : Addr} {H H' : Hp} {xs : List V} (k : Keep p H H') (h : H p = some (.lst xs)) : Tk H H' := by
  refine ⟨fun a ys e => k a _ (fun q => ?_) e, fun a o u e => k a _ (fun q => ?_) e⟩
  · rw [q, h] at e; cases e
  · rw [q, h] at e; cases e
theorem same_upd {H : Hp} {p : Addr} {o : HO} (h : H p = none) : Same H (upd H p o) := fun b u e => by
  rw [upd_ne (ne_of_none e h)]; exact e
theorem keep_upd {H : Hp} {p : Addr} {o : HO} : Keep p H (upd H p o) := fun b u n e => by
  rw [upd_ne n]; exact e
section
variable {K : PySem.W.Frag} {H H' : Hp} {a : Addr} {v : V} {xs : List V} {x : Rat} {p : Cp} {ps : List Cp} {w : Wv} {n d : Int} {o : Pt}
theorem Tk.t (k : Tk H H') (h : SqT K H a xs) : SqT K H' a xs := by
  rcases h with (h | ⟨o, h⟩) | h
  · exact .inl (.inl (k.tup _ _ h))
  · exact .inl (.inr ⟨o, k.frz _ _ _ h⟩)
  · exact .inr h
/-- two whole numbers in a tuple -/
def IsI2 (K : PySem.W.Frag) (H : Hp) (v : V) (n d : Int) : Prop := ∃ a, v = .ref a ∧ SqT K H a [.int n, .int d]
abbrev IsR (K : PySem.W.Frag) (H : Hp) (v : V) (x : Rat) : Prop := IsI2 K H v x.num (x.den : Int)
def IsP (K : PySem.W.Frag) (H : Hp) (v : V) (p : Cp) : Prop := ∃ a u z, v = .ref a ∧ SqT K H a [u, z] ∧ IsR K H u p.1 ∧ IsR K H z p.2
def AllP (K : PySem.W.Frag) (H : Hp) (vs : List V) (ps : List Cp) : Prop := vs.length = ps.length ∧ ∀ (i : Nat) (v : V) (p : Cp), vs[i]? = some v → ps[i]? = some p → IsP K H v p
def IsPs (K : PySem.W.Frag) (H : Hp) (v : V) (ps : List Cp) : Prop := ∃ a vs, v = .ref a ∧ SqT K H a vs ∧ AllP K H vs ps
def IsW (K : PySem.W.Frag) (H : Hp) (v : V) (w : Wv) : Prop := ∃ a u z, v = .ref a ∧ SqT K H a [u, z] ∧ IsR K H u w.k0 ∧ IsPs K H z w.ps
def IsT3 (K : PySem.W.Frag) (H : Hp) (v : V) (o : Pt) : Prop := ∃ a, v = .ref a ∧ SqT K H a [.int o.c, .int o.s, .int o.r]
theorem Tk.r (k : Tk H H') (h : IsI2 K H v n d) : IsI2 K H' v n d := by
  obtain ⟨a, e, h⟩ := h
  exact ⟨a, e, k.t h⟩
theorem Tk.pr (k : Tk H H') (h : IsP K H v p) : IsP K H' v p := by
  obtain ⟨a, u, z, e, h, h1, h2⟩ := h
  exact ⟨a, u, z, e, k.t h, k.r h1, k.r h2⟩
theorem Tk.all (k : Tk H H') (h : AllP K H xs ps) : AllP K H' xs ps := ⟨h.1, fun i v p e1 e2 => k.pr (h.2 i v p e1 e2)⟩
theorem Tk.prs (k : Tk H H') (h : IsPs K H v ps) : IsPs K H' v ps := by
  obtain ⟨a, vs, e, h, h1⟩ := h
  exact ⟨a, vs, e, k.t h, k.all h1⟩
theorem Tk.wv (k : Tk H H') (h : IsW K H v w) : IsW K H' v w := by
  obtain ⟨a, u, z, e, h, h1, h2⟩ := h
  exact ⟨a, u, z, e, k.t h, k.r h1, k.prs h2⟩
theorem Tk.pt (k : Tk H H') (h : IsT3 K H v o) : IsT3 K H' v o := by
  obtain ⟨a, e, h⟩ := h
  exact ⟨a, e, k.t h⟩
theorem IsI2.dp (h : IsR K H v x) : Dp K H v (dR x) := by
  obtain ⟨a, rfl, h⟩ := h
  exact .tup h (.cons (.int _) (.cons (.int _) .nil))
theorem IsP.dp (h : IsP K H v p) : Dp K H v (dP p) := by
  obtain ⟨a, u, z, rfl, h, h1, h2⟩ := h
  exact .tup h (.cons h1.dp (.cons h2.dp .nil))
theorem AllP.dp : ∀ {xs : List V} {ps : List Cp}, AllP K H xs ps → DpAll K H xs (ps.map dP)
  | [], [], _ => .nil
  | [], _ :: _, h => nomatch h.1
  | _ :: _, [], h => nomatch h.1
  | v :: xs, p :: ps, h => .cons (h.2 0 v p rfl rfl).dp (AllP.dp ⟨by have := h.1; simpa using this, fun i v' p' e1 e2 => h.2 (i + 1) v' p' (by simpa using e1) (by simpa using e2)⟩)
theorem IsPs.dp (h : IsPs K H v ps) : Dp K H v (dPs ps) := by
  obtain ⟨a, vs, rfl, h, h1⟩ := h
  exact .tup h h1.dp
theorem IsW.dp (h : IsW K H v w) : Dp K H v (dW w) := by
  obtain ⟨a, u, z, rfl, h, h1, h2⟩ := h
  exact .tup h (.cons h1.dp (.cons h2.dp .nil))
theorem AllP.nil : AllP K H [] [] := ⟨rfl, fun i v p e _ => by simp at e⟩
theorem AllP.push (h : AllP K H xs ps) (hv : IsP K H v p) : AllP K H (xs ++ [v]) (ps ++ [p]) := by
  refine ⟨by rw [List.length_append, List.length_append, h.1]; rfl, fun i u q e1 e2 => ?_⟩
  by_cases hi : i < xs.length
  · rw [List.getElem?_append_left hi] at e1
    rw [List.getElem?_append_left (by rw [← h.1]; exact hi)] at e2
    exact h.2 i u q e1 e2
  · rw [List.getElem?_append_right (by omega)] at e1
    rw [List.getElem?_append_right (by rw [← h.1]; omega)] at e2
    have hi0 : i - xs.length = 0 := by
      have := (List.getElem?_eq_some_iff.mp e1).1
      simp at this; omega
    rw [hi0] at e1
    rw [← h.1, hi0] at e2
    cases e1
    cases e2
    exact hv
theorem AllP.get (h : AllP K H xs ps) {i : Nat} (e : xs[i]? = some v) : ∃ q, ps[i]? = some q ∧ IsP K H v q := by
  have hi : i < ps.length := by rw [← h.1]; exact (List.getElem?_eq_some_iff.mp e).1
  exact ⟨ps[i], List.getElem?_eq_getElem hi, h.2 i v _ e (List.getElem?_eq_getElem hi)⟩
theorem AllP.take (h : AllP K H xs ps) (m : Nat) : AllP K H (xs.take m) (ps.take m) := by
  refine ⟨by rw [List.length_take, List.length_take, h.1], fun i u q e1 e2 => ?_⟩
  rw [List.getElem?_take] at e1 e2
  split at e1
  · rename_i hi
    rw [if_pos hi] at e2
    exact h.2 i u q e1 e2
  · cases e1
theorem mk_R (h : H a = some (.tup [.int x.num, .int (x.den : Int)])) : IsR K H (.ref a) x := ⟨a, rfl, SqT.of h⟩
end

/-! ### repr -/
theorem show_int {i : Int} (h : i.natAbs.log2 < 1920) : (PyData.shown (.int i)).length ≤ 1921 := by
  have h1 : (toString i : String).length ≤ 1921 := int_text_length_le (by decide) h
  have h2 := PySem.ofString_length (toString i)
  show (Str.ofString (toString i)).length ≤ 1921
  rw [h2]; exact h1
end Kw
set_option maxHeartbeats 2000000
/-! KwD: the text by places; short words; whole numbers and fractions. -/
namespace Kw
open PySem PySem.Spec PyProof.Rows L2

/-! ### the text -/
def top (i : Nat) : Stmt := PySem.Challenge.pw_framecams_k09_whole_turned_waves.main.body.getD i (.Pass ⟨0, 0, 0, 0⟩)

/-- a def of the module's -/
structure Fd (K : PySem.W.Frag) (mg : Str → Option Value) (x : Str) (st : Stmt) (ps : List Str) : Prop where
  ex : ∃ (f : Addr) (fd : FuncData), Fun K x x st f fd ∧ mg x = some (.ref f) ∧ Binds K fd ps []
/-- what else the module's names hold -/
structure Txt (K : PySem.W.Frag) (mg : Str → Option Value) : Prop where
  isi : mg "isinstance" = none
  int : mg "int" = none
  bool : mg "bool" = none
  tuple : mg "tuple" = none
  len : mg "len" = none
  all : mg "all" = none
  zip : mg "zip" = none
  range : mg "range" = none
  abs : mg "abs" = none
  sum : mg "sum" = none
  divmod : mg "divmod" = none
  repr : mg "repr" = none
  gcd : mg "gcd" = some (.builtin "math.gcd")
  zero : ∃ z, mg "ZERO" = some (.ref z) ∧ ∀ H, IsR K H (.ref z) 0
  one : ∃ z, mg "ONE" = some (.ref z) ∧ ∀ H, IsR K H (.ref z) 1
  start : ∃ z, mg "START" = some (.ref z) ∧ ∀ H, IsP K H (.ref z) (1, 0)
  blank : ∃ z, mg "BLANK" = some (.ref z) ∧ ∀ H, IsP K H (.ref z) (0, 0)
  most : ∃ t, mg "MOST_PAIRS" = some (.int 8 t)

section
variable {P : Program} {w : World} {K : PySem.W.Frag} {mg : Str → Option Value} {base : Heap}
theorem Fd.kp {x : Str} {st : Stmt} {ps : List Str} {k : Nat} {sp : Sp} (F : Fd K mg x st ps) (h : ∀ f fd, Fun K x x st f fd → FnOk P w K mg base CX0 k f fd ps sp) : Kp P w K mg base x k ps sp := by
  obtain ⟨f, fd, F1, hm, hb⟩ := F.ex
  exact ⟨f, fd, h f fd F1, hm, F1.kp, hb⟩
theorem Fd.gp {x : Str} {st : Stmt} {ps : List Str} {k : Nat} {sp : Sp} (F : Fd K mg x st ps) (h : ∀ f fd, Fun K x x st f fd → GnOk P w K mg base k f fd ps sp) : Gp P w K mg base x k ps sp := by
  obtain ⟨f, fd, F1, hm, hb⟩ := F.ex
  exact ⟨f, fd, h f fd F1, hm, F1.kp, hb⟩
end

/-! ### short words -/
section
variable {X : Cx} {a b : Expr} {ta tb : TE} {p p2 p3 pos : Pos}
theorem e_isi {T : Str} {n : String} (h1 : X.mg "isinstance" = none) (h2 : X.mg T = none) (hb : bootBuiltins T = some (.type n)) (ha : PE X a ta) (g1 : Gl X "isinstance" := by rfl) (g2 : Gl X T := by rfl)
    (hn : T ≠ "__name__" := by decide) (hd : (T == ("__debug__" : Str)) = false := by decide)
    (s1 : starEach [a, .Name T p2] X.env = (false, eval a X.env) :: starEach [.Name T p2] X.env := by rfl) (s3 : (backTo pos (starEach [.Name T p2] X.env)).any (·.1) = false := by rfl) :
    PE X (.Call (.Name "isinstance" p) [a, .Name T p2] [] pos) (tCB (rIsi X.K) (tCons ta (tCons (tC (.ty n)) tNil))) :=
  pe_callB (X := X) (r := rIsi X.K) call_isi g1 h1 PyProof.Rows.boot_isinstance (pa_cons ha (pa_cons (pe_bltn (v := .ty n) g2 h2 hb rfl hn hd) pa_nil rfl) s1) (by decide) (by decide) s1 s3
end
theorem ty_tup {K : PySem.W.Frag} {H : Hp} {a : Addr} {xs : List V} (h : SqT K H a xs) : TyX K H (.ref a) (.type "tuple") := by
  rcases h with (h | ⟨o, h⟩) | ⟨o, its, n, h, c, _⟩
  · exact .base (.tup h)
  · exact .fTuple h
  · exact .kTuple h c
theorem ty_int {K : PySem.W.Frag} {H : Hp} {i : Int} : TyX K H (.int i) (.type "int") := .base (.int i)

/-! ### whole numbers -/
section
variable {P : Program} {w : World} {K : PySem.W.Frag} {mg : Str → Option Value} {base : Heap}
def spWhole : Sp := fun vs H Q _ => ∃ i : Int, vs = [.int i] ∧ Q (.bl true) H
theorem kp_is_whole (T : Txt K mg) (F : Fd K mg "is_whole" (top 6) ["value"]) : Kp P w K mg base "is_whole" 1 ["value"] spWhole := F.kp fun f fd F => by
  have sc : FnScope ["value"] ["value"] (defScope (top 6)) := ⟨rfl, rfl, rfl, by decide +kernel, rfl, by decide +kernel, by decide +kernel⟩
  refine F.ok sc (fun vs H Q E h => ?_) (fun cdv A outer s H vs Q E hr h => ?_)
  · obtain ⟨i, rfl, _⟩ := h
    rfl
  · obtain ⟨i, rfl, k⟩ := h
    refine ⟨_, pss_one (ps_ret (pe_and (e_isi T.isi T.int PyProof.Rows.boot_int (pv 0)) (pe_one (pe_not (e_isi T.isi T.bool PyProof.Rows.boot_bool (pv 0)))))), ?_⟩
    refine ⟨_, rfl, _, _, _, _, true, rfl, .ty _, ty_int, kit_ty (by decide +kernel), true, rfl, iteT ?_⟩
    exact ⟨_, rfl, _, _, _, _, false, rfl, .ty _, ty_int, kit_ty (by decide +kernel), false, rfl, k⟩

def spWholes (K : PySem.W.Frag) : Sp := fun vs H Q _ => ∃ (a : Addr) (n d : Int), vs = [.ref a, .int 2] ∧ SqT K H a [.int n, .int d] ∧ ∀ H', Same H H' → Q (.bl true) H'
theorem kp_are_wholes (T : Txt K mg) (G : Kp P w K mg base "is_whole" 1 ["value"] spWhole) (F : Fd K mg "are_wholes" (top 7) ["value", "many"]) :
    Kp P w K mg base "are_wholes" 2 ["value", "many"] (spWholes K) := F.kp fun f fd F => by
  have sc : FnScope ["value", "many", "number"] ["value", "many"] (defScope (top 7)) := ⟨rfl, rfl, rfl, by decide +kernel, rfl, by decide +kernel, by decide +kernel⟩
  refine F.ok sc (fun vs H Q E h => ?_) (fun cdv A outer s H vs Q E hr h => ?_)
  · obtain ⟨a, n, d, rfl, _⟩ := h
    rfl
  · obtain ⟨a, n, d, rfl, hS, k⟩ := h
    refine ⟨_, pss_one (ps_ret (pe_and (e_isi T.isi T.tuple PyProof.Rows.boot_tuple (pv 0))
      (pe_and (pe_cmpR op_eq (pe_callB call_len_seq (by rfl) T.len PySem.boot_len (pa_cons (pv 0) pa_nil)) (pv 1) (nomark _))
      (pe_one (pe_callB (cr_all rfl) (by rfl) T.all PyProof.Rows.boot_all (pa_cons
        (pe_lc (own := [("number", 2)]) (g := gName 2) (tt := tYes) rfl sc.nd (pi_tup (pv 0)) (blkOk_by (N := ["value", "many", "number"]) (sc := defScope (top 7)) (by decide +kernel))
          (fun _ _ _ _ _ => pg_name (i := 2) sc.nd rfl (Or.inl rfl)) (fun _ _ _ _ _ => pts_nil) (fun _ _ _ _ _ => pe_kp G hr rfl (pa_cons (pv 2) pa_nil))) pa_nil)))))), ?_⟩
    refine ⟨_, rfl, _, _, _, _, true, rfl, .ty _, ty_tup hS, kit_ty (by decide +kernel), true, rfl, iteT ?_⟩
    refine ⟨_, rfl, a, _, rfl, .inr hS, _, rfl, rfl, true, rfl, iteT ?_⟩
    refine ⟨_, rfl, a, rfl, ⟨_, hS⟩, fun D hD => lc_tup (K := K) (a := a) (xs := [.int n, .int d]) (fun i H' => Same H H' ∧ H' D = some (.lst (List.replicate i (.bl true)))) ?_ ?_ ?_ ?_⟩
    · exact ⟨same_upd hD, upd_same⟩
    · exact fun i H' _ z => (Tk.of z.1).t hS
    · rintro i x H' hx ⟨z, hL⟩
      have hi : ∃ j, x = V.int j := by
        match i, hx with
        | 0, hx => exact ⟨n, by simpa using hx.symm⟩
        | 1, hx => exact ⟨d, by simpa using hx.symm⟩
        | i + 2, hx => simp at hx
      obtain ⟨j, rfl⟩ := hi
      refine ⟨rfl, _, rfl, j, rfl, _, hL, ?_, ?_, ?_⟩
      · have := (List.getElem?_eq_some_iff.mp hx).1
        rw [List.length_replicate]
        exact small1000 (by simp at this; omega)
      · intro b o e
        rw [upd_ne (ne_of_none e hD)]
        exact z b o e
      · rw [upd_same, List.replicate_succ']
    · rintro H' ⟨z, hL⟩
      exact ⟨D, [true, true], rfl, SqL.of hL, k _ z⟩
end
end Kw
set_option maxHeartbeats 2000000
/-! KwE: fractions: divisor_of, is_ratio, ratio, sums, products. -/
namespace Kw
open PySem PySem.Spec PyProof.Rows L2
section
variable {P : Program} {w : World} {K : PySem.W.Frag} {mg : Str → Option Value} {base : Heap}
def spDivisor (K : PySem.W.Frag) : Sp := fun vs H Q _ => ∃ (a : Addr) (n d : Int), vs = [.ref a] ∧ SqT K H a [.int n, .int d] ∧ Q (.int ((Nat.gcd n.natAbs d.natAbs : Nat) : Int)) H
theorem kp_divisor_of (T : Txt K mg) (F : Fd K mg "divisor_of" (top 8) ["numbers"]) : Kp P w K mg base "divisor_of" 1 ["numbers"] (spDivisor K) := F.kp fun f fd F => by
  have sc : FnScope ["numbers", "found", "number"] ["numbers"] (defScope (top 8)) := ⟨rfl, rfl, rfl, by decide +kernel, rfl, by decide +kernel, by decide +kernel⟩
  refine F.ok sc (fun vs H Q E h => ?_) (fun cdv A outer s H vs Q E hr h => ?_)
  · obtain ⟨a, n, d, rfl, _⟩ := h
    rfl
  · obtain ⟨a, n, d, rfl, hS, k⟩ := h
    refine ⟨_, pss_cons (ps_set (i := 1) sc.nd rfl (Or.inl rfl) pe_int) (pss_cons (ps_for PassesOwn.never rfl (pi_tup (pv 0)) (pg_name (i := 2) sc.nd rfl (Or.inl rfl))
      (pss_one (ps_set (i := 1) sc.nd rfl (Or.inl rfl) (pe_callBfun cr_gcd (by rfl) T.gcd (pa_cons (pv 1) (pa_cons (pv 2) pa_nil)))))) (pss_one (ps_ret (pv 1)))), ?_⟩
    refine ⟨_, rfl, a, rfl, ⟨_, hS⟩, for_tup (K := K) (a := a) (xs := [.int n, .int d]) (fun i σ H' => H' = H ∧ ∃ (g : Int) (x : Option V), σ = [some (.ref a), some (.int g), x] ∧
      g = (match i with | 0 => 0 | 1 => ((n.natAbs : Nat) : Int) | _ => ((Nat.gcd n.natAbs d.natAbs : Nat) : Int))) ⟨rfl, 0, none, rfl, rfl⟩ (fun i σ H' _ z => z.1 ▸ hS) ?_ ?_⟩
    · rintro i x σ H' hx ⟨rfl, g, y, rfl, hg⟩
      match i, hx, hg with
      | 0, hx, hg =>
        have e : x = .int n := by simpa using hx.symm
        subst e hg
        refine ⟨_, rfl, _, rfl, _, _, rfl, rfl, _, _, rfl, ?_⟩
        show ((Nat.gcd (Int.natAbs 0) n.natAbs : Nat) : Int) = ((n.natAbs : Nat) : Int)
        rw [Int.natAbs_zero, Nat.gcd_zero_left]
      | 1, hx, hg =>
        have e : x = .int d := by simpa using hx.symm
        subst e hg
        refine ⟨_, rfl, _, rfl, _, _, rfl, rfl, _, _, rfl, ?_⟩
        show ((Nat.gcd (Int.natAbs ((n.natAbs : Nat) : Int)) d.natAbs : Nat) : Int) = ((Nat.gcd n.natAbs d.natAbs : Nat) : Int)
        rw [Int.natAbs_natCast]
      | i + 2, hx, _ => simp at hx
    · rintro σ H' ⟨rfl, g, y, rfl, hg⟩
      subst hg
      exact ⟨_, rfl, k⟩
def spReduced (K : PySem.W.Frag) : Sp := fun vs H Q _ => ∃ (a : Addr) (n d : Int), vs = [.ref a] ∧ SqT K H a [.int n, .int d] ∧ Nat.gcd n.natAbs d.natAbs = 1 ∧ Q (.bl true) H
theorem kp_is_reduced (G : Kp P w K mg base "divisor_of" 1 ["numbers"] (spDivisor K)) (F : Fd K mg "is_reduced" (top 9) ["numbers"]) : Kp P w K mg base "is_reduced" 2 ["numbers"] (spReduced K) := F.kp fun f fd F => by
  have sc : FnScope ["numbers"] ["numbers"] (defScope (top 9)) := ⟨rfl, rfl, rfl, by decide +kernel, rfl, by decide +kernel, by decide +kernel⟩
  refine F.ok sc (fun vs H Q E h => ?_) (fun cdv A outer s H vs Q E hr h => ?_)
  · obtain ⟨a, n, d, rfl, _⟩ := h
    rfl
  · obtain ⟨a, n, d, rfl, hS, hg, k⟩ := h
    refine ⟨_, pss_one (ps_ret (pe_cmpR op_eq (pe_kp G hr rfl (pa_cons (pv 0) pa_nil)) pe_int (nomark _))), ?_⟩
    refine ⟨_, rfl, a, n, d, rfl, hS, ?_⟩
    rw [hg]
    exact ⟨rfl, k⟩
def spIsR (K : PySem.W.Frag) : Sp := fun vs H Q _ => ∃ (v : V) (x : Rat), vs = [v] ∧ IsR K H v x ∧ ∀ H', Same H H' → Q (.bl true) H'
theorem kp_is_ratio (G1 : Kp P w K mg base "are_wholes" 2 ["value", "many"] (spWholes K)) (G2 : Kp P w K mg base "is_reduced" 2 ["numbers"] (spReduced K)) (F : Fd K mg "is_ratio" (top 13) ["value"]) :
    Kp P w K mg base "is_ratio" 3 ["value"] (spIsR K) := F.kp fun f fd F => by
  have sc : FnScope ["value"] ["value"] (defScope (top 13)) := ⟨rfl, rfl, rfl, by decide +kernel, rfl, by decide +kernel, by decide +kernel⟩
  refine F.ok sc (fun vs H Q E h => ?_) (fun cdv A outer s H vs Q E hr h => ?_)
  · obtain ⟨v, x, rfl, _⟩ := h
    rfl
  · obtain ⟨v, x, rfl, ⟨a, rfl, hS⟩, k⟩ := h
    refine ⟨_, pss_one (ps_ret (pe_and (pe_kp G1 hr rfl (pa_cons (pv 0) (pa_cons pe_int pa_nil)))
      (pe_and (pe_cmpR op_gt (pe_ix ix_tup (pv 0) pe_int (fun _ _ => rfl)) pe_int (nomark _)) (pe_one (pe_kp G2 hr rfl (pa_cons (pv 0) pa_nil)))))), ?_⟩
    refine ⟨_, rfl, a, _, _, rfl, hS, fun H1 s1 => ⟨true, rfl, iteT ?_⟩⟩
    have hS1 := (Tk.of s1).t hS
    refine ⟨_, rfl, a, _, _, .int (x.den : Int), rfl, rfl, hS1, rfl, _, _, rfl, rfl, _, rfl, ?_⟩
    rw [decide_eq_true (den_pos x)]
    refine iteT ⟨_, rfl, a, _, _, rfl, hS1, ?_, k _ s1⟩
    have := x.reduced
    rw [den_abs]
    exact this

/-! ### ratio and what is reckoned by it -/
def Fit (b : Nat) (n : Int) : Prop := n.natAbs < 2 ^ b
theorem Fit.up {a b : Nat} {n : Int} (h : Fit a n) (l : a ≤ b) : Fit b n := up_lt h l
theorem Fit.mul {a b : Nat} {n m : Int} (h : Fit a n) (h2 : Fit b m) : Fit (a + b) (n * m) := mul_lt h h2
theorem Fit.add {a : Nat} {n m : Int} (h : Fit a n) (h2 : Fit a m) : Fit (a + 1) (n + m) := add_lt h h2
theorem Fit.sub {a : Nat} {n m : Int} (h : Fit a n) (h2 : Fit a m) : Fit (a + 1) (n - m) := sub_lt h h2
theorem Bd.num {b : Nat} {x : Rat} (h : Bd b x) : Fit b x.num := h.1
theorem Bd.den {b : Nat} {x : Rat} (h : Bd b x) : Fit b (x.den : Int) := by unfold Fit; rw [den_abs]; exact h.2
theorem cmul_ok {a b : Nat} {i j : Int} (h : Fit a i) (h2 : Fit b j) (l : a + b ≤ 100000) : CMulW i j :=
  wide_mul (h.up (Nat.le_succ a)) (h2.up (Nat.le_succ b)) (Nat.succ_pos _) (Nat.succ_pos _) (by omega)
theorem cdiv_ok {n d : Int} (h : 0 < d) (l : Fit 9000 d) : CDivW n ((Nat.gcd n.natAbs d.natAbs : Nat) : Int) ∧ CDivW d ((Nat.gcd n.natAbs d.natAbs : Nat) : Int) := by
  have p := gcd_pos (n := n) h
  have q : (((Nat.gcd n.natAbs d.natAbs : Nat) : Int)).natAbs < 2 ^ 9000 := by
    rw [Int.natAbs_natCast]
    exact Nat.lt_of_le_of_lt (gcd_le h) l
  exact ⟨wide_div p q (by decide) (by decide), wide_div p q (by decide) (by decide)⟩
theorem mk_quo {H : Hp} {a : Addr} {n d : Int} (h : 0 < d) (e : H a = some (.tup [.int (n / ((Nat.gcd n.natAbs d.natAbs : Nat) : Int)), .int (d / ((Nat.gcd n.natAbs d.natAbs : Nat) : Int))])) : IsR K H (.ref a) ((n : Rat) / (d : Rat)) := by
  refine ⟨a, rfl, SqT.of ?_⟩
  rw [e, quo_num h, quo_den h]
def spRatio (K : PySem.W.Frag) : Sp := fun vs H Q _ => ∃ n d : Int, vs = [.int n, .int d] ∧ 0 < d ∧ Fit 9000 d ∧ ∀ v H', Same H H' → IsR K H' v ((n : Rat) / (d : Rat)) → Q v H'
theorem kp_ratio (G : Kp P w K mg base "divisor_of" 1 ["numbers"] (spDivisor K)) (F : Fd K mg "ratio" (top 14) ["number", "under"]) : Kp P w K mg base "ratio" 2 ["number", "under"] (spRatio K) := F.kp fun f fd F => by
  have sc : FnScope ["number", "under", "part"] ["number", "under"] (defScope (top 14)) := ⟨rfl, rfl, rfl, by decide +kernel, rfl, by decide +kernel, by decide +kernel⟩
  refine F.ok sc (fun vs H Q E h => ?_) (fun cdv A outer s H vs Q E hr h => ?_)
  · obtain ⟨n, d, rfl, _⟩ := h
    rfl
  · obtain ⟨n, d, rfl, hd, hf, k⟩ := h
    refine ⟨_, pss_cons (ps_set (i := 2) sc.nd rfl (Or.inl rfl) (pe_kp G hr rfl (pa_cons (pe_tup (pa_cons (pv 0) (pa_cons (pv 1) pa_nil))) pa_nil)))
      (pss_cons (ps_set (i := 2) sc.nd rfl (Or.inl rfl) (pe_ifExp (pt_cmpR op_gt (pv 1) pe_int (nomark _)) (pv 2) (pe_un un_neg (pv 2))))
      (pss_one (ps_ret (pe_tup (pa_cons (pe_op op_fdivW (pv 0) (pv 2)) (pa_cons (pe_op op_fdivW (pv 1) (pv 2)) pa_nil)))))), ?_⟩
    refine ⟨_, rfl, _, rfl, (by show 2 ≤ sizeLine; decide), fun t ht => ⟨t, n, d, rfl, SqT.of upd_same, ?_⟩⟩
    obtain ⟨c1, c2⟩ := cdiv_ok (n := n) hd hf
    refine ⟨_, rfl, _, _, rfl, rfl, _, rfl, ?_⟩
    rw [decide_eq_true hd]
    refine iteT ⟨_, rfl, ?_⟩
    refine ⟨_, rfl, _, rfl, _, _, rfl, rfl, c1, _, rfl, _, rfl, _, _, rfl, rfl, c2, (by show 2 ≤ sizeLine; decide), fun q hq => ?_⟩
    exact k _ _ (fun b o e => by rw [upd_ne (ne_of_none (same_upd ht b o e) hq)]; exact same_upd ht b o e) (mk_quo hd upd_same)
/-- two fractions, reduced or not -/
structure Two (K : PySem.W.Frag) (H : Hp) (u v : V) (n1 d1 n2 d2 : Int) : Prop where
  u : IsI2 K H u n1 d1
  v : IsI2 K H v n2 d2
  p1 : 0 < d1
  p2 : 0 < d2
  fit : ∃ a b : Nat, Fit a n1 ∧ Fit a d1 ∧ Fit b n2 ∧ Fit b d2 ∧ a + b ≤ 9000
def spTwo (K : PySem.W.Frag) (f : Rat → Rat → Rat) : Sp := fun vs H Q _ => ∃ (u v : V) (n1 d1 n2 d2 : Int), vs = [u, v] ∧ Two K H u v n1 d1 n2 d2 ∧
  ∀ z H', Same H H' → IsR K H' z (f ((n1 : Rat) / (d1 : Rat)) ((n2 : Rat) / (d2 : Rat))) → Q z H'
theorem kp_ratio_sum (G : Kp P w K mg base "ratio" 2 ["number", "under"] (spRatio K)) (F : Fd K mg "ratio_sum" (top 15) ["one", "two"]) : Kp P w K mg base "ratio_sum" 3 ["one", "two"] (spTwo K (· + ·)) := F.kp fun f fd F => by
  have sc : FnScope ["one", "two"] ["one", "two"] (defScope (top 15)) := ⟨rfl, rfl, rfl, by decide +kernel, rfl, by decide +kernel, by decide +kernel⟩
  refine F.ok sc (fun vs H Q E h => ?_) (fun cdv A outer s H vs Q E hr h => ?_)
  · obtain ⟨u, v, n1, d1, n2, d2, rfl, _⟩ := h
    rfl
  · obtain ⟨u, v, n1, d1, n2, d2, rfl, ⟨⟨a, rfl, ha⟩, ⟨b, rfl, hb⟩, p1, p2, x, y, f1, f2, f3, f4, l⟩, k⟩ := h
    refine ⟨_, pss_one (ps_ret (pe_kp G hr rfl (pa_cons (pe_op op_add
      (pe_op op_mulW (pe_ix ix_tup (pv 0) pe_int (fun _ _ => rfl)) (pe_ix ix_tup (pv 1) pe_int (fun _ _ => rfl)))
      (pe_op op_mulW (pe_ix ix_tup (pv 1) pe_int (fun _ _ => rfl)) (pe_ix ix_tup (pv 0) pe_int (fun _ _ => rfl))))
      (pa_cons (pe_op op_mulW (pe_ix ix_tup (pv 0) pe_int (fun _ _ => rfl)) (pe_ix ix_tup (pv 1) pe_int (fun _ _ => rfl))) pa_nil)))), ?_⟩
    refine ⟨_, rfl, a, _, _, .int n1, rfl, rfl, ha, rfl, _, rfl, b, _, _, .int d2, rfl, rfl, hb, rfl, _, _, rfl, rfl, cmul_ok f1 f4 (by omega),
      _, rfl, b, _, _, .int n2, rfl, rfl, hb, rfl, _, rfl, a, _, _, .int d1, rfl, rfl, ha, rfl, _, _, rfl, rfl, cmul_ok f3 f2 (by omega), _, _, rfl, rfl,
      _, rfl, a, _, _, .int d1, rfl, rfl, ha, rfl, _, rfl, b, _, _, .int d2, rfl, rfl, hb, rfl, _, _, rfl, rfl, cmul_ok f2 f4 (by omega),
      _, _, rfl, Int.mul_pos p1 p2, (f2.mul f4).up l, ?_⟩
    rw [← quo_add p1 p2]
    exact k
theorem kp_ratio_less (G : Kp P w K mg base "ratio" 2 ["number", "under"] (spRatio K)) (F : Fd K mg "ratio_less" (top 16) ["one", "two"]) : Kp P w K mg base "ratio_less" 3 ["one", "two"] (spTwo K (· - ·)) := F.kp fun f fd F => by
  have sc : FnScope ["one", "two"] ["one", "two"] (defScope (top 16)) := ⟨rfl, rfl, rfl, by decide +kernel, rfl, by decide +kernel, by decide +kernel⟩
  refine F.ok sc (fun vs H Q E h => ?_) (fun cdv A outer s H vs Q E hr h => ?_)
  · obtain ⟨u, v, n1, d1, n2, d2, rfl, _⟩ := h
    rfl
  · obtain ⟨u, v, n1, d1, n2, d2, rfl, ⟨⟨a, rfl, ha⟩, ⟨b, rfl, hb⟩, p1, p2, x, y, f1, f2, f3, f4, l⟩, k⟩ := h
    refine ⟨_, pss_one (ps_ret (pe_kp G hr rfl (pa_cons (pe_op op_sub
      (pe_op op_mulW (pe_ix ix_tup (pv 0) pe_int (fun _ _ => rfl)) (pe_ix ix_tup (pv 1) pe_int (fun _ _ => rfl)))
      (pe_op op_mulW (pe_ix ix_tup (pv 1) pe_int (fun _ _ => rfl)) (pe_ix ix_tup (pv 0) pe_int (fun _ _ => rfl))))
      (pa_cons (pe_op op_mulW (pe_ix ix_tup (pv 0) pe_int (fun _ _ => rfl)) (pe_ix ix_tup (pv 1) pe_int (fun _ _ => rfl))) pa_nil)))), ?_⟩
    refine ⟨_, rfl, a, _, _, .int n1, rfl, rfl, ha, rfl, _, rfl, b, _, _, .int d2, rfl, rfl, hb, rfl, _, _, rfl, rfl, cmul_ok f1 f4 (by omega),
      _, rfl, b, _, _, .int n2, rfl, rfl, hb, rfl, _, rfl, a, _, _, .int d1, rfl, rfl, ha, rfl, _, _, rfl, rfl, cmul_ok f3 f2 (by omega), _, _, rfl, rfl,
      _, rfl, a, _, _, .int d1, rfl, rfl, ha, rfl, _, rfl, b, _, _, .int d2, rfl, rfl, hb, rfl, _, _, rfl, rfl, cmul_ok f2 f4 (by omega),
      _, _, rfl, Int.mul_pos p1 p2, (f2.mul f4).up l, ?_⟩
    rw [← quo_sub p1 p2]
    exact k
theorem kp_ratio_product (G : Kp P w K mg base "ratio" 2 ["number", "under"] (spRatio K)) (F : Fd K mg "ratio_product" (top 17) ["one", "two"]) : Kp P w K mg base "ratio_product" 3 ["one", "two"] (spTwo K (· * ·)) := F.kp fun f fd F => by
  have sc : FnScope ["one", "two"] ["one", "two"] (defScope (top 17)) := ⟨rfl, rfl, rfl, by decide +kernel, rfl, by decide +kernel, by decide +kernel⟩
  refine F.ok sc (fun vs H Q E h => ?_) (fun cdv A outer s H vs Q E hr h => ?_)
  · obtain ⟨u, v, n1, d1, n2, d2, rfl, _⟩ := h
    rfl
  · obtain ⟨u, v, n1, d1, n2, d2, rfl, ⟨⟨a, rfl, ha⟩, ⟨b, rfl, hb⟩, p1, p2, x, y, f1, f2, f3, f4, l⟩, k⟩ := h
    refine ⟨_, pss_one (ps_ret (pe_kp G hr rfl (pa_cons
      (pe_op op_mulW (pe_ix ix_tup (pv 0) pe_int (fun _ _ => rfl)) (pe_ix ix_tup (pv 1) pe_int (fun _ _ => rfl)))
      (pa_cons (pe_op op_mulW (pe_ix ix_tup (pv 0) pe_int (fun _ _ => rfl)) (pe_ix ix_tup (pv 1) pe_int (fun _ _ => rfl))) pa_nil)))), ?_⟩
    refine ⟨_, rfl, a, _, _, .int n1, rfl, rfl, ha, rfl, _, rfl, b, _, _, .int n2, rfl, rfl, hb, rfl, _, _, rfl, rfl, cmul_ok f1 f3 (by omega),
      _, rfl, a, _, _, .int d1, rfl, rfl, ha, rfl, _, rfl, b, _, _, .int d2, rfl, rfl, hb, rfl, _, _, rfl, rfl, cmul_ok f2 f4 (by omega),
      _, _, rfl, Int.mul_pos p1 p2, (f2.mul f4).up l, ?_⟩
    rw [← quo_mul p1 p2]
    exact k
end
end Kw
set_option maxHeartbeats 2000000
/-! KwF: turns: pairs of fractions. -/
namespace Kw
open PySem PySem.Spec PyProof.Rows L2
section
variable {P : Program} {w : World} {K : PySem.W.Frag} {mg : Str → Option Value} {base : Heap}
theorem Kp.imp {x : Str} {k : Nat} {ps : List Str} {sp sp' : Sp} (G : Kp P w K mg base x k ps sp) (h : ∀ vs H Q E, sp' vs H Q E → sp vs H Q E) : Kp P w K mg base x k ps sp' := by
  obtain ⟨f, fd, F, hm, hk, hb⟩ := G.ex
  exact ⟨f, fd, F.imp h, hm, hk, hb⟩
/-- two reduced fractions -/
structure RR (K : PySem.W.Frag) (H : Hp) (u v : V) (x y : Rat) : Prop where
  u : IsR K H u x
  v : IsR K H v y
  fit : ∃ a b : Nat, Bd a x ∧ Bd b y ∧ a + b ≤ 9000
def spRR (K : PySem.W.Frag) (f : Rat → Rat → Rat) : Sp := fun vs H Q _ => ∃ (u v : V) (x y : Rat), vs = [u, v] ∧ RR K H u v x y ∧ ∀ z H', Same H H' → IsR K H' z (f x y) → Q z H'
theorem rr_of {x : Str} {k : Nat} {ps : List Str} {f : Rat → Rat → Rat} (G : Kp P w K mg base x k ps (spTwo K f)) : Kp P w K mg base x k ps (spRR K f) := G.imp fun vs H Q E h => by
  obtain ⟨u, v, x, y, rfl, ⟨hu, hv, a, b, b1, b2, l⟩, k⟩ := h
  refine ⟨u, v, _, _, _, _, rfl, ⟨hu, hv, den_pos x, den_pos y, a, b, b1.num, b1.den, b2.num, b2.den, l⟩, fun z H' s h => k z H' s ?_⟩
  rw [fr_eq, fr_eq] at h
  exact h
/-- the three ways to reckon -/
structure Ar (P : Program) (w : World) (K : PySem.W.Frag) (mg : Str → Option Value) (base : Heap) : Prop where
  sum : Kp P w K mg base "ratio_sum" 3 ["one", "two"] (spRR K (· + ·))
  less : Kp P w K mg base "ratio_less" 3 ["one", "two"] (spRR K (· - ·))
  prod : Kp P w K mg base "ratio_product" 3 ["one", "two"] (spRR K (· * ·))

def spIsP (K : PySem.W.Frag) : Sp := fun vs H Q _ => ∃ (v : V) (p : Cp), vs = [v] ∧ IsP K H v p ∧ ∀ H', Same H H' → Q (.bl true) H'
theorem kp_is_pair (T : Txt K mg) (G : Kp P w K mg base "is_ratio" 3 ["value"] (spIsR K)) (F : Fd K mg "is_pair" (top 20) ["value"]) : Kp P w K mg base "is_pair" 4 ["value"] (spIsP K) := F.kp fun f fd F => by
  have sc : FnScope ["value"] ["value"] (defScope (top 20)) := ⟨rfl, rfl, rfl, by decide +kernel, rfl, by decide +kernel, by decide +kernel⟩
  refine F.ok sc (fun vs H Q E h => ?_) (fun cdv A outer s H vs Q E hr h => ?_)
  · obtain ⟨v, p, rfl, _⟩ := h
    rfl
  · obtain ⟨v, p, rfl, ⟨a, u, z, rfl, hS, hu, hz⟩, k⟩ := h
    refine ⟨_, pss_one (ps_ret (pe_and (e_isi T.isi T.tuple PyProof.Rows.boot_tuple (pv 0))
      (pe_and (pe_cmpR op_eq (pe_callB call_len_seq (by rfl) T.len PySem.boot_len (pa_cons (pv 0) pa_nil)) pe_int (nomark _))
      (pe_and (pe_kp G hr rfl (pa_cons (pe_ix ix_tup (pv 0) pe_int (fun _ _ => rfl)) pa_nil))
      (pe_one (pe_kp G hr rfl (pa_cons (pe_ix ix_tup (pv 0) pe_int (fun _ _ => rfl)) pa_nil))))))), ?_⟩
    refine ⟨_, rfl, _, _, _, _, true, rfl, .ty _, ty_tup hS, kit_ty (by decide +kernel), true, rfl, iteT ?_⟩
    refine ⟨_, rfl, a, _, rfl, .inr hS, rfl, true, rfl, iteT ?_⟩
    refine ⟨_, rfl, a, _, _, u, rfl, rfl, hS, rfl, u, p.1, rfl, hu, fun H1 s1 => ⟨true, rfl, iteT ?_⟩⟩
    exact ⟨_, rfl, a, _, _, z, rfl, rfl, (Tk.of s1).t hS, rfl, z, p.2, rfl, (Tk.of s1).r hz, fun H2 s2 => k _ (s1.trans s2)⟩
def spSquare (K : PySem.W.Frag) : Sp := fun vs H Q _ => ∃ (v : V) (p : Cp), vs = [v] ∧ IsP K H v p ∧ (Bd 2000 p.1 ∧ Bd 2000 p.2) ∧ ∀ z H', Same H H' → IsR K H' z (nrm p) → Q z H'
theorem kp_square_of (R : Ar P w K mg base) (F : Fd K mg "square_of" (top 21) ["pair"]) : Kp P w K mg base "square_of" 4 ["pair"] (spSquare K) := F.kp fun f fd F => by
  have sc : FnScope ["pair"] ["pair"] (defScope (top 21)) := ⟨rfl, rfl, rfl, by decide +kernel, rfl, by decide +kernel, by decide +kernel⟩
  refine F.ok sc (fun vs H Q E h => ?_) (fun cdv A outer s H vs Q E hr h => ?_)
  · obtain ⟨v, p, rfl, _⟩ := h
    rfl
  · obtain ⟨v, p, rfl, ⟨a, u, z, rfl, hS, hu, hz⟩, ⟨b1, b2⟩, k⟩ := h
    refine ⟨_, pss_one (ps_ret (pe_kp R.sum hr rfl
      (pa_cons (pe_kp R.prod hr rfl (pa_cons (pe_ix ix_tup (pv 0) pe_int (fun _ _ => rfl)) (pa_cons (pe_ix ix_tup (pv 0) pe_int (fun _ _ => rfl)) pa_nil)))
      (pa_cons (pe_kp R.prod hr rfl (pa_cons (pe_ix ix_tup (pv 0) pe_int (fun _ _ => rfl)) (pa_cons (pe_ix ix_tup (pv 0) pe_int (fun _ _ => rfl)) pa_nil))) pa_nil)))), ?_⟩
    refine ⟨_, rfl, a, _, _, u, rfl, rfl, hS, rfl, _, rfl, a, _, _, u, rfl, rfl, hS, rfl, u, u, p.1, p.1, rfl, ⟨hu, hu, 2000, 2000, b1, b1, by decide⟩, fun x1 H1 s1 h1 => ?_⟩
    have hS1 := (Tk.of s1).t hS
    have hz1 := (Tk.of s1).r hz
    refine ⟨_, rfl, a, _, _, z, rfl, rfl, hS1, rfl, _, rfl, a, _, _, z, rfl, rfl, hS1, rfl, z, z, p.2, p.2, rfl, ⟨hz1, hz1, 2000, 2000, b2, b2, by decide⟩, fun x2 H2 s2 h2 => ?_⟩
    exact ⟨x1, x2, _, _, rfl, ⟨(Tk.of s2).r h1, h2, 4000, 4000, b1.mul b1, b2.mul b2, by decide⟩, fun x3 H3 s3 h3 => k _ _ ((s1.trans s2).trans s3) h3⟩
def spRound (K : PySem.W.Frag) : Sp := fun vs H Q _ => ∃ (v : V) (p : Cp), vs = [v] ∧ IsP K H v p ∧ (Bd 2000 p.1 ∧ Bd 2000 p.2) ∧ nrm p = 1 ∧ ∀ H', Same H H' → Q (.bl true) H'
theorem kp_is_round (T : Txt K mg) (G1 : Kp P w K mg base "is_pair" 4 ["value"] (spIsP K)) (G2 : Kp P w K mg base "square_of" 4 ["pair"] (spSquare K)) (F : Fd K mg "is_round" (top 22) ["value"]) :
    Kp P w K mg base "is_round" 5 ["value"] (spRound K) := F.kp fun f fd F => by
  have sc : FnScope ["value"] ["value"] (defScope (top 22)) := ⟨rfl, rfl, rfl, by decide +kernel, rfl, by decide +kernel, by decide +kernel⟩
  obtain ⟨zo, m1, o1⟩ := T.one
  refine F.ok sc (fun vs H Q E h => ?_) (fun cdv A outer s H vs Q E hr h => ?_)
  · obtain ⟨v, p, rfl, _⟩ := h
    rfl
  · obtain ⟨v, p, rfl, hp, hb, hn, k⟩ := h
    refine ⟨_, pss_one (ps_ret (pe_and (pe_kp G1 hr rfl (pa_cons (pv 0) pa_nil)) (pe_one (pe_cmpR (op_eqD hr.units) (pe_kp G2 hr rfl (pa_cons (pv 0) pa_nil)) (pe_glob (v := .ref zo) (by rfl) m1 rfl) (nomark _))))), ?_⟩
    refine ⟨_, rfl, v, p, rfl, hp, fun H1 s1 => ⟨true, rfl, iteT ?_⟩⟩
    refine ⟨_, rfl, v, p, rfl, (Tk.of s1).pr hp, hb, fun z H2 s2 h2 => ⟨_, _, h2.dp, (o1 H2).dp, shaped_R _, shaped_R _, ?_⟩⟩
    rw [eqv_R, decide_eq_true hn]
    exact k _ (s1.trans s2)
def spCmul (K : PySem.W.Frag) : Sp := fun vs H Q _ => ∃ (u v : V) (z g : Cp) (a b : Nat), vs = [u, v] ∧ IsP K H u z ∧ IsP K H v g ∧ (Bd a z.1 ∧ Bd a z.2) ∧ (Bd b g.1 ∧ Bd b g.2) ∧ 2 * (a + b) ≤ 9000 ∧ ∀ x H', Same H H' → IsP K H' x (cmul z g) → Q x H'
theorem kp_product_of (R : Ar P w K mg base) (F : Fd K mg "product_of" (top 23) ["one", "two"]) : Kp P w K mg base "product_of" 4 ["one", "two"] (spCmul K) := F.kp fun f fd F => by
  have sc : FnScope ["one", "two", "real"] ["one", "two"] (defScope (top 23)) := ⟨rfl, rfl, rfl, by decide +kernel, rfl, by decide +kernel, by decide +kernel⟩
  refine F.ok sc (fun vs H Q E h => ?_) (fun cdv A outer s H vs Q E hr h => ?_)
  · obtain ⟨u, v, z, g, a, b, rfl, _⟩ := h
    rfl
  · obtain ⟨_, _, z, g, a, b, rfl, ⟨u, u1, u2, rfl, hU, hu1, hu2⟩, ⟨v, v1, v2, rfl, hV, hv1, hv2⟩, ⟨a1, a2⟩, ⟨b1, b2⟩, l, k⟩ := h
    refine ⟨_, pss_cons (ps_set (i := 2) sc.nd rfl (Or.inl rfl) (pe_kp R.less hr rfl
      (pa_cons (pe_kp R.prod hr rfl (pa_cons (pe_ix ix_tup (pv 0) pe_int (fun _ _ => rfl)) (pa_cons (pe_ix ix_tup (pv 1) pe_int (fun _ _ => rfl)) pa_nil)))
      (pa_cons (pe_kp R.prod hr rfl (pa_cons (pe_ix ix_tup (pv 0) pe_int (fun _ _ => rfl)) (pa_cons (pe_ix ix_tup (pv 1) pe_int (fun _ _ => rfl)) pa_nil))) pa_nil))))
      (pss_one (ps_ret (pe_tup (pa_cons (pv 2) (pa_cons (pe_kp R.sum hr rfl
      (pa_cons (pe_kp R.prod hr rfl (pa_cons (pe_ix ix_tup (pv 0) pe_int (fun _ _ => rfl)) (pa_cons (pe_ix ix_tup (pv 1) pe_int (fun _ _ => rfl)) pa_nil)))
      (pa_cons (pe_kp R.prod hr rfl (pa_cons (pe_ix ix_tup (pv 0) pe_int (fun _ _ => rfl)) (pa_cons (pe_ix ix_tup (pv 1) pe_int (fun _ _ => rfl)) pa_nil))) pa_nil))) pa_nil))))), ?_⟩
    refine ⟨_, rfl, u, _, _, u1, rfl, rfl, hU, rfl, _, rfl, v, _, _, v1, rfl, rfl, hV, rfl, u1, v1, z.1, g.1, rfl, ⟨hu1, hv1, a, b, a1, b1, by omega⟩, fun x1 H1 s1 h1 => ?_⟩
    have t1 := Tk.of s1
    refine ⟨_, rfl, u, _, _, u2, rfl, rfl, t1.t hU, rfl, _, rfl, v, _, _, v2, rfl, rfl, t1.t hV, rfl, u2, v2, z.2, g.2, rfl, ⟨t1.r hu2, t1.r hv2, a, b, a2, b2, by omega⟩, fun x2 H2 s2 h2 => ?_⟩
    refine ⟨x1, x2, _, _, rfl, ⟨(Tk.of s2).r h1, h2, a + b, a + b, a1.mul b1, a2.mul b2, by omega⟩, fun x3 H3 s3 h3 => ?_⟩
    have t3 := Tk.of ((s1.trans s2).trans s3)
    refine ⟨_, rfl, _, rfl, u, _, _, u1, rfl, rfl, t3.t hU, rfl, _, rfl, v, _, _, v2, rfl, rfl, t3.t hV, rfl, u1, v2, z.1, g.2, rfl, ⟨t3.r hu1, t3.r hv2, a, b, a1, b2, by omega⟩, fun x4 H4 s4 h4 => ?_⟩
    have t4 := t3.trans (Tk.of s4)
    refine ⟨_, rfl, u, _, _, u2, rfl, rfl, t4.t hU, rfl, _, rfl, v, _, _, v1, rfl, rfl, t4.t hV, rfl, u2, v1, z.2, g.1, rfl, ⟨t4.r hu2, t4.r hv1, a, b, a2, b1, by omega⟩, fun x5 H5 s5 h5 => ?_⟩
    refine ⟨x4, x5, _, _, rfl, ⟨(Tk.of s5).r h4, h5, a + b, a + b, a1.mul b2, a2.mul b1, by omega⟩, fun x6 H6 s6 h6 => ⟨(by show 2 ≤ sizeLine; decide), fun q hq => ?_⟩⟩
    have s7 : Same H6 (upd H6 q (.tup [x3, x6])) := same_upd hq
    exact k _ _ ((((((s1.trans s2).trans s3).trans s4).trans s5).trans s6).trans s7)
      ⟨q, x3, x6, rfl, SqT.of upd_same, (Tk.of (((s4.trans s5).trans s6).trans s7)).r h3, (Tk.of s7).r h6⟩
end
end Kw
set_option maxHeartbeats 4000000
/-! KwG: waves. -/
namespace Kw
open PySem PySem.Spec PyProof.Rows L2

def LastOk (ps : List Cp) : Prop := ∀ p, ps.getLast? = some p → p ≠ (0, 0)
structure WOk (b : Nat) (w : Wv) : Prop where
  len : w.ps.length ≤ 8
  k0 : Bd b w.k0
  ps : ∀ p ∈ w.ps, Bd b p.1 ∧ Bd b p.2
  last : LastOk w.ps
theorem getD_in {ps : List Cp} {i : Nat} {p : Cp} (h : ps[i]? = some p) : ps.getD i (0, 0) = p := by
  rw [List.getD_eq_getElem?_getD, h]; rfl
theorem tq_bd {k : Nat} {o : Pt} (h : PtOk k o) : Bd k (tq o).1 ∧ Bd k (tq o).2 := by
  obtain ⟨a, b, c⟩ := pt_bd h
  exact ⟨bd_quo h.pos a c, bd_quo h.pos b c⟩
theorem atI_neg1 {α : Type} {xs : List α} {v : α} (h : xs.getLast? = some v) : atI xs (-1) = some v := by
  obtain ⟨ys, rfl⟩ := List.getLast?_eq_some_iff.mp h
  exact atI_last ys v
section
variable {P : Program} {w : World} {K : PySem.W.Frag} {mg : Str → Option Value} {base : Heap}
def spWaved (K : PySem.W.Frag) : Sp := fun vs H Q _ => ∃ (v : V) (x : Wv), vs = [v] ∧ IsW K H v x ∧ x.ps.length ≤ 8 ∧ LastOk x.ps ∧ ∀ H', Same H H' → Q (.bl true) H'
theorem kp_is_waved (T : Txt K mg) (G1 : Kp P w K mg base "is_ratio" 3 ["value"] (spIsR K)) (G2 : Kp P w K mg base "is_pair" 4 ["value"] (spIsP K)) (F : Fd K mg "is_waved" (top 27) ["value"]) :
    Kp P w K mg base "is_waved" 5 ["value"] (spWaved K) := F.kp fun f fd F => by
  have sc : FnScope ["value", "pair"] ["value"] (defScope (top 27)) := ⟨rfl, rfl, rfl, by decide +kernel, rfl, by decide +kernel, by decide +kernel⟩
  obtain ⟨zb, m1, o1⟩ := T.blank
  obtain ⟨tm, m2⟩ := T.most
  refine F.ok sc (fun vs H Q E h => ?_) (fun cdv A outer s H vs Q E hr h => ?_)
  · obtain ⟨v, p, rfl, _⟩ := h
    rfl
  · obtain ⟨_, x, rfl, ⟨a, u, _, rfl, hS, hu, b, zs, rfl, hB, hall⟩, h8, hlast, k⟩ := h
    have hr3 : Room 3 _ := hr.mono (by decide)
    have ln := hall.1
    refine ⟨_, pss_cons (ps_if (PW.pt (pw_or (pt_not (pt_val (e_isi T.isi T.tuple PyProof.Rows.boot_tuple (pv 0))))
        (pw_or (pt_cmpR op_ne (pe_callB call_len_seq (by rfl) T.len PySem.boot_len (pa_cons (pv 0) pa_nil)) pe_int (nomark _))
        (pw_or (pt_not (pt_val (pe_kp G1 hr3 rfl (pa_cons (pe_ix ix_tup (pv 0) pe_int (fun _ _ => rfl)) pa_nil))))
        (pw_or1 (pt_not (pt_val (e_isi T.isi T.tuple PyProof.Rows.boot_tuple (pe_ix ix_tup (pv 0) pe_int (fun _ _ => rfl))))))))))
        pss_never pss_nil)
      (pss_cons (ps_if (PW.pt (pw_or (pt_cmpR op_gt (pe_callB call_len_seq (by rfl) T.len PySem.boot_len (pa_cons (pe_ix ix_tup (pv 0) pe_int (fun _ _ => rfl)) pa_nil)) (pe_glob (v := .int 8) (by rfl) m2 ⟨_, rfl⟩) (nomark _))
        (pw_or1 (pt_not (pt_val (pe_callB (cr_all rfl) (by rfl) T.all PyProof.Rows.boot_all (pa_cons
          (pe_lc (own := [("pair", 1)]) (g := gName 1) (tt := tYes) rfl sc.nd (pi_tup (pe_ix ix_tup (pv 0) pe_int (fun _ _ => rfl))) (blkOk_by (N := ["value", "pair"]) (sc := defScope (top 27)) (by decide +kernel))
          (fun _ _ _ _ _ => pg_name (i := 1) sc.nd rfl (Or.inl rfl)) (fun _ _ _ _ _ => pts_nil) (fun _ _ _ _ _ => pe_kp G2 hr rfl (pa_cons (pv 1) pa_nil))) pa_nil)))))))
        pss_never pss_nil)
      (pss_one (ps_ret (pe_or (pe_cmpR (op_eqD hr.units) (pe_ix ix_tup (pv 0) pe_int (fun _ _ => rfl)) (pe_tup pa_nil) (nomark _))
        (pe_one (pe_cmpR (op_neD hr.units) (pe_ix ix_tup (pe_ix ix_tup (pv 0) pe_int (fun _ _ => rfl)) (pe_un un_neg pe_int) (fun _ _ => rfl)) (pe_glob (v := .ref zb) (by rfl) m1 rfl) (nomark _))))))), ?_⟩
    -- if not isinstance(value, tuple) or len(value) != 2 or not is_ratio(value[0]) or not isinstance(value[1], tuple)
    refine ⟨_, rfl, _, _, _, _, true, rfl, .ty _, ty_tup hS, kit_ty (by decide +kernel), true, rfl, iteF ?_⟩
    refine ⟨_, rfl, a, _, rfl, .inr hS, rfl, false, rfl, iteF ?_⟩
    refine ⟨_, rfl, a, _, _, u, rfl, rfl, hS, rfl, u, x.k0, rfl, hu, fun H1 s1 => ⟨true, rfl, iteF ?_⟩⟩
    have t1 := Tk.of s1
    refine ⟨_, rfl, a, _, _, .ref b, rfl, rfl, t1.t hS, rfl, _, _, _, _, true, rfl, .ty _, ty_tup (t1.t hB), kit_ty (by decide +kernel), true, rfl, iteF ?_⟩
    -- if len(value[1]) > MOST_PAIRS or not all(..)
    refine ⟨_, rfl, a, _, _, .ref b, rfl, rfl, t1.t hS, rfl, b, zs, rfl, .inr (t1.t hB), _, _, rfl, rfl, false, ?_, iteF ?_⟩
    · exact congrArg V.bl (decide_eq_false (by omega))
    refine ⟨_, rfl, a, _, _, .ref b, rfl, rfl, t1.t hS, rfl, b, rfl, ⟨_, t1.t hB⟩, fun D hD => lc_tup (K := K) (a := b) (xs := zs) (fun i H' => Same H1 H' ∧ H' D = some (.lst (List.replicate i (.bl true)))) ?_ ?_ ?_ ?_⟩
    · exact ⟨same_upd hD, upd_same⟩
    · exact fun i H' _ z => (Tk.of z.1).t (t1.t hB)
    · rintro i y H' hy ⟨z, hL⟩
      obtain ⟨q, _, hq⟩ := hall.get hy
      refine ⟨rfl, _, rfl, y, q, rfl, (t1.trans (Tk.of z)).pr hq, fun H2 s2 => ⟨_, s2 _ _ hL, ?_, ?_, ?_⟩⟩
      · have := (List.getElem?_eq_some_iff.mp hy).1
        rw [List.length_replicate]
        exact small1000 (by omega)
      · intro c o e
        rw [upd_ne (ne_of_none e hD)]
        exact s2 _ _ (z c o e)
      · rw [upd_same, List.replicate_succ']
    rintro H2 ⟨z, hL⟩
    have t2 := t1.trans (Tk.of z)
    have s2 : Same H H2 := s1.trans z
    have allT : ∀ n : Nat, (List.replicate n true).all id = true := fun n => by
      rw [List.all_eq_true]
      intro c hc
      exact (List.mem_replicate.mp hc).2
    refine ⟨D, List.replicate zs.length true, rfl, SqL.of (by rw [hL, List.map_replicate]), true, ?_, iteF ?_⟩
    · exact congrArg V.bl (allT _)
    -- return value[1] == () or value[1][-1] != BLANK
    refine ⟨_, rfl, a, _, _, .ref b, rfl, rfl, t2.t hS, rfl, Nat.zero_le _, fun q hq => ?_⟩
    have s3 : Same H2 (upd H2 q (.tup [])) := same_upd hq
    have t3 := t2.trans (Tk.of s3)
    refine ⟨dPs x.ps, .tuple [], .tup (t3.t hB) (t3.all hall).dp, .tup (SqT.of upd_same) .nil, shaped_Ps _, rfl, x.ps.isEmpty, ?_, ?_⟩
    · cases x.ps <;> rfl
    cases e : x.ps with
    | nil => exact k _ (s2.trans s3)
    | cons p ps =>
      have hne : zs ≠ [] := by
        intro q
        rw [q, e] at ln
        simp at ln
      obtain ⟨l, hl⟩ : ∃ l, zs.getLast? = some l := ⟨_, List.getLast?_eq_some_getLast hne⟩
      have hl2 : zs[zs.length - 1]? = some l := by rw [← List.getLast?_eq_getElem?]; exact hl
      obtain ⟨lp, hlp, hlq⟩ := hall.get hl2
      have hlast2 : x.ps.getLast? = some lp := by
        rw [List.getLast?_eq_getElem?, ← ln]; exact hlp
      refine iteF ⟨_, rfl, a, _, _, .ref b, rfl, rfl, t3.t hS, rfl, _, rfl, b, zs, _, l, rfl, rfl, t3.t hB, atI_neg1 hl, _, _, (t3.pr hlq).dp, (o1 _).dp, shaped_P _, shaped_P _, ?_⟩
      rw [eqv_P, decide_eq_false (hlast lp hlast2)]
      exact k _ (s2.trans s3)
end
end Kw
set_option maxHeartbeats 4000000
/-! KwH: powers, worths, turned waves; the two calls of the package. -/
namespace Kw
open PySem PySem.Spec PyProof.Rows L2
def pows (g : Cp) (n : Nat) : List Cp := (List.range n).map fun j => pw g (j + 1)
theorem pows_len (g : Cp) (n : Nat) : (pows g n).length = n := by unfold pows; rw [List.length_map, List.length_range]
theorem pows_get {g : Cp} {n i : Nat} (h : i < n) : (pows g n)[i]? = some (pw g (i + 1)) := by
  unfold pows
  rw [List.getElem?_map, List.getElem?_range h]; rfl
theorem pows_succ (g : Cp) (n : Nat) : pows g (n + 1) = pows g n ++ [pw g (n + 1)] := by
  unfold pows
  rw [List.range_succ, List.map_append]; rfl
section
variable {P : Program} {w : World} {K : PySem.W.Frag} {mg : Str → Option Value} {base : Heap}
def spPowers (K : PySem.W.Frag) : Sp := fun vs H Q _ => ∃ (v : V) (o : Pt) (n : Nat), vs = [v, .int (n : Int)] ∧ IsP K H v (tq o) ∧ PtOk 13 o ∧ n ≤ 8 ∧
  ∀ l xs H', Same H H' → H' l = some (.lst xs) → AllP K H' xs (pows (tq o) n) → Q (.ref l) H'
theorem kp_powers_of (T : Txt K mg) (G : Kp P w K mg base "product_of" 4 ["one", "two"] (spCmul K)) (F : Fd K mg "powers_of" (top 28) ["turn", "many"]) : Kp P w K mg base "powers_of" 5 ["turn", "many"] (spPowers K) := F.kp fun f fd F => by
  have sc : FnScope ["turn", "many", "found", "here", "step"] ["turn", "many"] (defScope (top 28)) := ⟨rfl, rfl, rfl, by decide +kernel, rfl, by decide +kernel, by decide +kernel⟩
  obtain ⟨zs, m1, o1⟩ := T.start
  refine F.ok sc (fun vs H Q E h => ?_) (fun cdv A outer s H vs Q E hr h => ?_)
  · obtain ⟨v, o, n, rfl, _⟩ := h
    rfl
  · obtain ⟨v, o, n, rfl, hv, ho, hn, k⟩ := h
    refine ⟨_, pss_cons (ps_par (i := 2) (j := 3) rfl sc.nd rfl rfl (by decide) rfl rfl (pa_cons (pe_lst pa_nil) (pa_cons (pe_glob (v := .ref zs) (by rfl) m1 rfl) pa_nil)) (by rfl))
      (pss_cons (ps_for PassesOwn.never rfl (pi_range1 rfl T.range (pa_cons (pv 1) pa_nil)) (pg_name (i := 4) sc.nd rfl (Or.inl rfl))
        (pss_cons (ps_set (i := 3) sc.nd rfl (Or.inl rfl) (pe_kp G hr rfl (pa_cons (pv 3) (pa_cons (pv 0) pa_nil))))
        (pss_one (ps_expr (pe_bm PySem.F.plainAttrs_list PySem.F.slot_list_append PySem.F.type_list_append mt_append (pv 2) (pa_cons (pv 3) pa_nil))))))
      (pss_one (ps_ret (pv 2)))), ?_⟩
    refine ⟨Nat.zero_le _, fun l hl => ⟨_, _, rfl, _, rfl, n, rfl, by omega, by omega, ?_⟩⟩
    refine for_range (lo := 0) (n := (n : Int).toNat) (fun i σ H' => Same H H' ∧ ∃ (x : V) (y : Option V) (xs : List V), σ = [some v, some (.int (n : Int)), some (.ref l), some x, y] ∧ H' l = some (.lst xs) ∧ AllP K H' xs (pows (tq o) i) ∧ IsP K H' x (pw (tq o) i))
      ⟨same_upd hl, .ref zs, none, [], rfl, upd_same, AllP.nil, o1 _⟩ ?_ ?_
    · rintro i σ H1 hi ⟨s1, x, y, xs, rfl, hL, hall, hx⟩
      have hi8 : i < 8 := by omega
      have t1 := Tk.of s1
      obtain ⟨pa, pb⟩ := pw_bd ho i
      have hbound : 13 * i + 1 ≤ 105 := by omega
      refine ⟨_, rfl, _, rfl, x, v, _, _, 105, 13, rfl, hx, t1.pr hv, ⟨pa.mono hbound, pb.mono hbound⟩, tq_bd ho, by decide, fun z H2 s2 hz => ?_⟩
      have hL2 := s2 _ _ hL
      have ln := hall.1
      rw [pows_len] at ln
      refine ⟨_, rfl, .inl ⟨rfl, _, SqL.of hL2⟩, _, rfl, l, xs, _, rfl, rfl, hL2, small1000 (by omega), ?_⟩
      have kp : Keep l H2 (upd H2 l (.lst (xs ++ [z]))) := keep_upd
      have t2 := kp.tk hL2
      refine ⟨?_, z, _, _, rfl, upd_same, ?_, t2.pr hz⟩
      · intro b ob e
        rw [upd_ne (ne_of_none e hl)]
        exact s2 _ _ (s1 _ _ e)
      · rw [pows_succ]
        exact t2.all (((Tk.of s2).all hall).push hz)
    · rintro σ H1 ⟨s1, x, y, xs, rfl, hL, hall, hx⟩
      exact ⟨_, rfl, k l xs H1 s1 hL hall⟩
def spWorthAt (K : PySem.W.Frag) : Sp := fun vs H Q _ => ∃ (u v : V) (x : Wv) (o : Pt), vs = [u, v] ∧ IsW K H u x ∧ WOk 260 x ∧ IsP K H v (tq o) ∧ PtOk 13 o ∧ ∀ z H', Same H H' → IsR K H' z (worthAt x (tq o)) → Q z H'
theorem kp_worth_at (T : Txt K mg) (R : Ar P w K mg base) (G : Kp P w K mg base "powers_of" 5 ["turn", "many"] (spPowers K)) (F : Fd K mg "worth_at" (top 29) ["wave", "turn"]) : Kp P w K mg base "worth_at" 6 ["wave", "turn"] (spWorthAt K) := F.kp fun f fd F => by
  have sc : FnScope ["wave", "turn", "found", "p", "q", "c", "s"] ["wave", "turn"] (defScope (top 29)) := ⟨rfl, rfl, rfl, by decide +kernel, rfl, by decide +kernel, by decide +kernel⟩
  refine F.ok sc (fun vs H Q E h => ?_) (fun cdv A outer s H vs Q E hr h => ?_)
  · obtain ⟨u, v, x, o, rfl, _⟩ := h
    rfl
  · obtain ⟨_, v, x, o, rfl, ⟨a, u, _, rfl, hS, hu, b, zs, rfl, hB, hall⟩, wok, hv, ho, k⟩ := h
    have hr3 : Room 3 _ := hr.mono (by decide)
    have ln := hall.1
    have l8 := wok.len
    refine ⟨_, pss_cons (ps_set (i := 2) sc.nd rfl (Or.inl rfl) (pe_ix ix_tup (pv 0) pe_int (fun _ _ => rfl)))
      (pss_cons (ps_for PassesOwn.never rfl (pi_zipM (by rfl) T.zip (pa_cons (pe_ix ix_tup (pv 0) pe_int (fun _ _ => rfl)) (pa_cons (pe_kp G hr rfl (pa_cons (pv 1) (pa_cons
          (pe_callB call_len_seq (by rfl) T.len PySem.boot_len (pa_cons (pe_ix ix_tup (pv 0) pe_int (fun _ _ => rfl)) pa_nil)) pa_nil))) pa_nil)))
        (pg_tup rfl (pgs_cons (pg_tup rfl (pgs_cons (pg_name (i := 3) sc.nd rfl (Or.inl rfl)) (pgs_cons (pg_name (i := 4) sc.nd rfl (Or.inl rfl)) pgs_nil)))
          (pgs_cons (pg_tup rfl (pgs_cons (pg_name (i := 5) sc.nd rfl (Or.inl rfl)) (pgs_cons (pg_name (i := 6) sc.nd rfl (Or.inl rfl)) pgs_nil))) pgs_nil)))
        (pss_one (ps_set (i := 2) sc.nd rfl (Or.inl rfl) (pe_kp R.sum hr3 rfl (pa_cons (pv 2) (pa_cons (pe_kp R.sum hr3 rfl
          (pa_cons (pe_kp R.prod hr3 rfl (pa_cons (pv 3) (pa_cons (pv 5) pa_nil))) (pa_cons (pe_kp R.prod hr3 rfl (pa_cons (pv 4) (pa_cons (pv 6) pa_nil))) pa_nil))) pa_nil))))))
      (pss_one (ps_ret (pv 2)))), ?_⟩
    refine ⟨_, rfl, a, _, _, u, rfl, rfl, hS, rfl, ?_⟩
    refine ⟨_, rfl, a, _, _, .ref b, rfl, rfl, hS, rfl, _, rfl, _, rfl, a, _, _, .ref b, rfl, rfl, hS, rfl, b, zs, rfl, .inr hB, v, o, zs.length, rfl, hv, ho, by omega, fun l ys H1 s1 hL hpow => ?_⟩
    have t1 := Tk.of s1
    have lny := hpow.1
    rw [pows_len] at lny
    refine ⟨b, l, zs, ys, rfl, t1.t hB, SqL.of hL, for_it (walk_m (K := K) (a := b) (b := l) lny.symm) (fun i σ H' => Same H1 H' ∧ ∃ (y : V) (c1 c2 c3 c4 : Option V), σ = [some (.ref a), some v, some y, c1, c2, c3, c4] ∧ i ≤ zs.length ∧ IsR K H' y (x.k0 + wsum x.ps (tq o) i) ∧ Bd (260 + 732 * i) (x.k0 + wsum x.ps (tq o) i))
      ?_ ?_ ?_ ?_⟩
    · refine ⟨Same.refl _, u, none, none, none, none, rfl, Nat.zero_le _, ?_, ?_⟩
      · have e : x.k0 + wsum x.ps (tq o) 0 = x.k0 := by show x.k0 + 0 = x.k0; grind
        rw [e]; exact t1.r hu
      · have e : x.k0 + wsum x.ps (tq o) 0 = x.k0 := by show x.k0 + 0 = x.k0; grind
        rw [e]; exact wok.k0
    · rintro i σ H' _ ⟨z, _⟩
      exact ⟨(Tk.of z).t (t1.t hB), SqL.of (z _ _ hL)⟩
    · rintro i xv σ H2 H3 hi ⟨s2, y, c1, c2, c3, c4, rfl, _, hy, hbd⟩ ⟨T, x1, x2, rfl, hT, rfl, e1, e2⟩
      have t2 := t1.trans (Tk.of s2)
      have tT : Tk H2 (upd H2 T (.tup [x1, x2])) := Tk.of (same_upd hT)
      obtain ⟨p, hp, hpp⟩ := hall.get e1
      obtain ⟨q, hq, hqq⟩ := hpow.get e2
      rw [pows_get (by omega)] at hq
      cases hq
      obtain ⟨pb1, pb2⟩ := wok.ps p (List.mem_of_getElem? hp)
      obtain ⟨gb1, gb2⟩ := pw_bd ho (i + 1)
      have h105 : 13 * (i + 1) + 1 ≤ 105 := by omega
      replace gb1 := gb1.mono h105
      replace gb2 := gb2.mono h105
      obtain ⟨A1, u1, u2, rfl, hA1, hu1, hu2⟩ := (t2.trans tT).pr hpp
      obtain ⟨A2, v1, v2, rfl, hA2, hv1, hv2⟩ := ((Tk.of s2).trans tT).pr hqq
      refine ⟨T, _, rfl, SqT.of upd_same, rfl, _, _, rfl, ⟨A1, _, rfl, hA1, rfl, _, _, rfl, _, _, rfl, rfl, ?_⟩⟩
      refine ⟨_, _, rfl, ⟨A2, _, rfl, hA2, rfl, _, _, rfl, _, _, rfl, rfl, rfl, ?_⟩⟩
      refine ⟨_, rfl, _, rfl, _, rfl, u1, v1, p.1, _, rfl, ⟨hu1, hv1, 260, 105, pb1, gb1, by decide⟩, fun w1 H4 s4 h4 => ?_⟩
      have t4 := Tk.of s4
      refine ⟨_, rfl, _, rfl, u2, v2, p.2, _, rfl, ⟨t4.r hu2, t4.r hv2, 260, 105, pb2, gb2, by decide⟩, fun w2 H5 s5 h5 => ?_⟩
      have bA := pb1.mul gb1
      have bB := pb2.mul gb2
      refine ⟨w1, w2, _, _, rfl, ⟨(Tk.of s5).r h4, h5, _, _, bA, bB, by decide⟩, fun w3 H6 s6 h6 => ?_⟩
      have bC := bA.add bB
      have s8 := (((same_upd hT : Same H2 _).trans s4).trans s5).trans s6
      refine ⟨y, w3, _, _, rfl, ⟨(Tk.of s8).r hy, h6, _, _, hbd, bC, by omega⟩, fun w4 H7 s7 h7 => ?_⟩
      refine ⟨(s2.trans s8).trans s7, w4, _, _, _, _, rfl, hi, ?_, ?_⟩
      · have e : x.k0 + wsum x.ps (tq o) (i + 1) = x.k0 + wsum x.ps (tq o) i + (p.1 * (pw (tq o) (i + 1)).1 + p.2 * (pw (tq o) (i + 1)).2) := by
          show x.k0 + (wsum x.ps (tq o) i + tm (x.ps.getD i (0, 0)) _) = _
          rw [getD_in hp]
          simp only [tm]
          grind
        rw [e]; exact h7
      · have e : x.k0 + wsum x.ps (tq o) (i + 1) = x.k0 + wsum x.ps (tq o) i + (p.1 * (pw (tq o) (i + 1)).1 + p.2 * (pw (tq o) (i + 1)).2) := by
          show x.k0 + (wsum x.ps (tq o) i + tm (x.ps.getD i (0, 0)) _) = _
          rw [getD_in hp]
          simp only [tm]
          grind
        rw [e]
        exact (hbd.add bC).mono (by omega)
    · rintro σ H2 ⟨s2, y, c1, c2, c3, c4, rfl, _, hy, _⟩
      refine ⟨_, rfl, k _ _ (s1.trans s2) ?_⟩
      unfold worthAt
      rw [← ln]; exact hy
end
end Kw
set_option maxHeartbeats 4000000
/-! KwI: turned waves; the package's two calls. -/
namespace Kw
open PySem PySem.Spec PyProof.Rows L2
section
variable {P : Program} {w : World} {K : PySem.W.Frag} {mg : Str → Option Value} {base : Heap}
def spTp (K : PySem.W.Frag) : Sp := fun vs H Q _ => ∃ (u v : V) (p z : Cp) (a b : Nat), vs = [u, v] ∧ IsP K H u p ∧ IsP K H v z ∧ (Bd a p.1 ∧ Bd a p.2) ∧ (Bd b z.1 ∧ Bd b z.2) ∧ 2 * (a + b) ≤ 9000 ∧ ∀ x H', Same H H' → IsP K H' x (tp p z) → Q x H'
theorem kp_turned_pair (R : Ar P w K mg base) (F : Fd K mg "turned_pair" (top 30) ["pair", "raised"]) : Kp P w K mg base "turned_pair" 4 ["pair", "raised"] (spTp K) := F.kp fun f fd F => by
  have sc : FnScope ["pair", "raised", "p", "q", "c", "s", "ahead"] ["pair", "raised"] (defScope (top 30)) := ⟨rfl, rfl, rfl, by decide +kernel, rfl, by decide +kernel, by decide +kernel⟩
  refine F.ok sc (fun vs H Q E h => ?_) (fun cdv A outer s H vs Q E hr h => ?_)
  · obtain ⟨u, v, z, g, a, b, rfl, _⟩ := h
    rfl
  · obtain ⟨u, v, p, z, a, b, rfl, hp, hz, ⟨a1, a2⟩, ⟨b1, b2⟩, l, k⟩ := h
    refine ⟨_, pss_cons (ps_asg (pe_tup (pa_cons (pv 0) (pa_cons (pv 1) pa_nil)))
        (pg_tup rfl (pgs_cons (pg_tup rfl (pgs_cons (pg_name (i := 2) sc.nd rfl (Or.inl rfl)) (pgs_cons (pg_name (i := 3) sc.nd rfl (Or.inl rfl)) pgs_nil)))
          (pgs_cons (pg_tup rfl (pgs_cons (pg_name (i := 4) sc.nd rfl (Or.inl rfl)) (pgs_cons (pg_name (i := 5) sc.nd rfl (Or.inl rfl)) pgs_nil))) pgs_nil))))
      (pss_cons (ps_set (i := 6) sc.nd rfl (Or.inl rfl) (pe_kp R.sum hr rfl (pa_cons (pe_kp R.prod hr rfl (pa_cons (pv 2) (pa_cons (pv 4) pa_nil))) (pa_cons (pe_kp R.prod hr rfl (pa_cons (pv 3) (pa_cons (pv 5) pa_nil))) pa_nil))))
      (pss_one (ps_ret (pe_tup (pa_cons (pv 6) (pa_cons (pe_kp R.less hr rfl (pa_cons (pe_kp R.prod hr rfl (pa_cons (pv 3) (pa_cons (pv 4) pa_nil))) (pa_cons (pe_kp R.prod hr rfl (pa_cons (pv 2) (pa_cons (pv 5) pa_nil))) pa_nil))) pa_nil)))))), ?_⟩
    refine ⟨_, rfl, _, rfl, (by show 2 ≤ sizeLine; decide), fun T hT => ?_⟩
    have sT : Same H (upd H T (.tup [u, v])) := same_upd hT
    obtain ⟨A1, u1, u2, rfl, hA1, hu1, hu2⟩ := (Tk.of sT).pr hp
    obtain ⟨A2, v1, v2, rfl, hA2, hv1, hv2⟩ := (Tk.of sT).pr hz
    refine ⟨T, _, rfl, SqT.of upd_same, rfl, _, _, rfl, ⟨A1, _, rfl, hA1, rfl, _, _, rfl, _, _, rfl, rfl, ?_⟩⟩
    refine ⟨_, _, rfl, ⟨A2, _, rfl, hA2, rfl, _, _, rfl, _, _, rfl, rfl, rfl, ?_⟩⟩
    refine ⟨_, rfl, _, rfl, u1, v1, p.1, z.1, rfl, ⟨hu1, hv1, a, b, a1, b1, by omega⟩, fun x1 H1 s1 h1 => ?_⟩
    have t1 := Tk.of s1
    refine ⟨_, rfl, _, rfl, u2, v2, p.2, z.2, rfl, ⟨t1.r hu2, t1.r hv2, a, b, a2, b2, by omega⟩, fun x2 H2 s2 h2 => ?_⟩
    refine ⟨x1, x2, _, _, rfl, ⟨(Tk.of s2).r h1, h2, _, _, a1.mul b1, a2.mul b2, by omega⟩, fun x3 H3 s3 h3 => ?_⟩
    have t3 := t1.trans (Tk.of (s2.trans s3))
    refine ⟨_, rfl, _, rfl, _, rfl, u2, v1, p.2, z.1, rfl, ⟨t3.r hu2, t3.r hv1, a, b, a2, b1, by omega⟩, fun x4 H4 s4 h4 => ?_⟩
    have t4 := t3.trans (Tk.of s4)
    refine ⟨_, rfl, _, rfl, u1, v2, p.1, z.2, rfl, ⟨t4.r hu1, t4.r hv2, a, b, a1, b2, by omega⟩, fun x5 H5 s5 h5 => ?_⟩
    refine ⟨x4, x5, _, _, rfl, ⟨(Tk.of s5).r h4, h5, _, _, a2.mul b1, a1.mul b2, by omega⟩, fun x6 H6 s6 h6 => ⟨(by show 2 ≤ sizeLine; decide), fun q hq => ?_⟩⟩
    have s7 : Same H6 (upd H6 q (.tup [x3, x6])) := same_upd hq
    have s46 := ((s4.trans s5).trans s6).trans s7
    exact k _ _ (((sT.trans s1).trans (s2.trans s3)).trans s46) ⟨q, x3, x6, rfl, SqT.of upd_same, (Tk.of s46).r h3, (Tk.of s7).r h6⟩
def spTurn (K : PySem.W.Frag) : Sp := fun vs H Q _ => ∃ (u v : V) (x : Wv) (o : Pt), vs = [u, v] ∧ IsW K H u x ∧ WOk 260 x ∧ IsP K H v (tq o) ∧ PtOk 13 o ∧ ∀ z H', Same H H' → IsW K H' z (turnBy x (tq o)) → Q z H'
theorem turn_get {x : Wv} {g : Cp} {i : Nat} {p : Cp} (h : x.ps[i]? = some p) : (turnBy x g).ps[i]? = some (tp p (pw g (i + 1))) := by
  show (List.mapIdx _ _)[i]? = _
  rw [List.getElem?_mapIdx, h]; rfl
theorem kp_turned_by (T : Txt K mg) (G1 : Kp P w K mg base "powers_of" 5 ["turn", "many"] (spPowers K)) (G2 : Kp P w K mg base "turned_pair" 4 ["pair", "raised"] (spTp K)) (F : Fd K mg "turned_by" (top 31) ["wave", "turn"]) :
    Kp P w K mg base "turned_by" 6 ["wave", "turn"] (spTurn K) := F.kp fun f fd F => by
  have sc : FnScope ["wave", "turn", "powers", "pair", "raised"] ["wave", "turn"] (defScope (top 31)) := ⟨rfl, rfl, rfl, by decide +kernel, rfl, by decide +kernel, by decide +kernel⟩
  refine F.ok sc (fun vs H Q E h => ?_) (fun cdv A outer s H vs Q E hr h => ?_)
  · obtain ⟨u, v, x, o, rfl, _⟩ := h
    rfl
  · obtain ⟨_, v, x, o, rfl, ⟨a, u, _, rfl, hS, hu, b, zs, rfl, hB, hall⟩, wok, hv, ho, k⟩ := h
    have hr4 : Room 4 _ := hr.mono (by decide)
    have ln := hall.1
    have l8 := wok.len
    refine ⟨_, pss_cons (ps_set (i := 2) sc.nd rfl (Or.inl rfl) (pe_kp G1 hr rfl (pa_cons (pv 1) (pa_cons
          (pe_callB call_len_seq (by rfl) T.len PySem.boot_len (pa_cons (pe_ix ix_tup (pv 0) pe_int (fun _ _ => rfl)) pa_nil)) pa_nil))))
      (pss_one (ps_ret (pe_tup (pa_cons (pe_ix ix_tup (pv 0) pe_int (fun _ _ => rfl)) (pa_cons
        (pe_callTy call_tuple_of (by rfl) T.tuple PyProof.Rows.boot_tuple (pa_cons
          (pe_lc (own := [("pair", 3), ("raised", 4)]) (g := gTup K 2 (gCons (gName 3) (gCons (gName 4) gNil))) (tt := tYes) rfl sc.nd
            (pi_zipM (by rfl) T.zip (pa_cons (pe_ix ix_tup (pv 0) pe_int (fun _ _ => rfl)) (pa_cons (pv 2) pa_nil)))
            (blkOk_by (N := ["wave", "turn", "powers", "pair", "raised"]) (sc := defScope (top 31)) (by decide +kernel))
            (fun _ _ _ _ _ => pg_tup rfl (pgs_cons (pg_name (i := 3) sc.nd rfl (Or.inl rfl)) (pgs_cons (pg_name (i := 4) sc.nd rfl (Or.inl rfl)) pgs_nil)))
            (fun _ _ _ _ _ => pts_nil) (fun _ _ _ _ _ => pe_kp G2 hr4 rfl (pa_cons (pv 3) (pa_cons (pv 4) pa_nil)))) pa_nil)) pa_nil))))), ?_⟩
    refine ⟨_, rfl, _, rfl, a, _, _, .ref b, rfl, rfl, hS, rfl, b, zs, rfl, .inr hB, v, o, zs.length, rfl, hv, ho, by omega, fun l ys H1 s1 hL hpow => ?_⟩
    have t1 := Tk.of s1
    have lny := hpow.1
    rw [pows_len] at lny
    refine ⟨_, rfl, a, _, _, u, rfl, rfl, t1.t hS, rfl, _, rfl, a, _, _, .ref b, rfl, rfl, t1.t hS, rfl, _, rfl, b, l, zs, ys, rfl, t1.t hB, SqL.of hL, fun D hD => ?_⟩
    refine lc_it (walk_m (K := K) (a := b) (b := l) lny.symm) (fun i H' => Same H1 H' ∧ i ≤ zs.length ∧ ∃ xs, H' D = some (.lst xs) ∧ AllP K H' xs ((turnBy x (tq o)).ps.take i)) ?_ ?_ ?_ ?_
    · refine ⟨same_upd hD, Nat.zero_le _, [], upd_same, ?_⟩
      rw [List.take_zero]; exact AllP.nil
    · rintro i H' _ ⟨z, _⟩
      exact ⟨(Tk.of z).t (t1.t hB), SqL.of (z _ _ hL)⟩
    · rintro i xv H2 H3 hi ⟨s2, hle, xs, hLD, hxs⟩ ⟨T, x1, x2, rfl, hT, rfl, e1, e2⟩
      have t2 := t1.trans (Tk.of s2)
      have sT : Same H2 (upd H2 T (.tup [x1, x2])) := same_upd hT
      obtain ⟨p, hp, hpp⟩ := hall.get e1
      obtain ⟨q, hq, hqq⟩ := hpow.get e2
      rw [pows_get (by omega)] at hq
      cases hq
      obtain ⟨gb1, gb2⟩ := pw_bd ho (i + 1)
      have h105 : 13 * (i + 1) + 1 ≤ 105 := by omega
      refine ⟨T, _, rfl, SqT.of upd_same, rfl, _, _, rfl, _, _, rfl, rfl, rfl, ?_⟩
      refine ⟨_, rfl, _, rfl, x1, x2, p, _, 260, 105, rfl, (t2.trans (Tk.of sT)).pr hpp, ((Tk.of s2).trans (Tk.of sT)).pr hqq, wok.ps p (List.mem_of_getElem? hp), ⟨gb1.mono h105, gb2.mono h105⟩, by decide, fun y H4 s4 h4 => ?_⟩
      have hLD4 := s4 _ _ (sT _ _ hLD)
      have tk4 : Tk H4 (upd H4 D (.lst (xs ++ [y]))) := Keep.tk (p := D) keep_upd hLD4
      have lx := hxs.1
      rw [List.length_take] at lx
      refine ⟨_, hLD4, small1000 (by omega), ?_, hi, _, upd_same, ?_⟩
      · intro c ob e
        rw [upd_ne (ne_of_none e hD)]
        exact s4 _ _ (sT _ _ (s2 _ _ e))
      · rw [List.take_add_one, turn_get hp]
        exact (tk4.all (((Tk.of sT).trans (Tk.of s4)).all hxs)).push (tk4.pr h4)
    · rintro H2 ⟨s2, _, xs, hLD, hxs⟩
      refine ⟨D, xs, rfl, .inl ⟨SqL.of hLD, fun q hq => ⟨(by show 2 ≤ sizeLine; decide), fun r hr => ?_⟩⟩⟩
      have s3 : Same H2 (upd H2 q (.tup xs)) := same_upd hq
      have s4 : Same (upd H2 q (.tup xs)) (upd (upd H2 q (.tup xs)) r (.tup [u, .ref q])) := same_upd hr
      rw [List.take_of_length_le (by rw [turn_len]; omega)] at hxs
      have tt := Tk.of (s3.trans s4)
      exact k _ _ (((s1.trans s2).trans s3).trans s4) ⟨r, u, .ref q, rfl, SqT.of upd_same, (t1.trans ((Tk.of s2).trans tt)).r hu, q, xs, rfl, SqT.of (s4 _ _ upd_same), tt.all hxs⟩
def spCheckT (K : PySem.W.Frag) : Sp := fun vs H Q _ => ∃ (v : V) (p : Cp), vs = [v] ∧ IsP K H v p ∧ (Bd 2000 p.1 ∧ Bd 2000 p.2) ∧ nrm p = 1 ∧ ∀ H', Same H H' → Q .non H'
theorem kp_check_turn (G : Kp P w K mg base "is_round" 5 ["value"] (spRound K)) (F : Fd K mg "check_turn" (top 33) ["value"]) : Kp P w K mg base "check_turn" 6 ["value"] (spCheckT K) := F.kp fun f fd F => by
  have sc : FnScope ["value"] ["value"] (defScope (top 33)) := ⟨rfl, rfl, rfl, by decide +kernel, rfl, by decide +kernel, by decide +kernel⟩
  refine F.ok sc (fun vs H Q E h => ?_) (fun cdv A outer s H vs Q E hr h => ?_)
  · obtain ⟨v, p, rfl, _⟩ := h
    rfl
  · obtain ⟨v, p, rfl, hp, hb, hn, k⟩ := h
    refine ⟨_, pss_one (ps_if (pt_not (pt_val (pe_kp G hr rfl (pa_cons (pv 0) pa_nil)))) pss_never pss_nil), ?_⟩
    exact ⟨_, rfl, v, p, rfl, hp, hb, hn, fun H1 s1 => ⟨true, rfl, iteF (k _ s1)⟩⟩
def spCheckW (K : PySem.W.Frag) : Sp := fun vs H Q _ => ∃ (v : V) (x : Wv), vs = [v] ∧ IsW K H v x ∧ x.ps.length ≤ 8 ∧ LastOk x.ps ∧ ∀ H', Same H H' → Q .non H'
theorem kp_check_wave (G : Kp P w K mg base "is_waved" 5 ["value"] (spWaved K)) (F : Fd K mg "check_wave" (top 34) ["value"]) : Kp P w K mg base "check_wave" 6 ["value"] (spCheckW K) := F.kp fun f fd F => by
  have sc : FnScope ["value"] ["value"] (defScope (top 34)) := ⟨rfl, rfl, rfl, by decide +kernel, rfl, by decide +kernel, by decide +kernel⟩
  refine F.ok sc (fun vs H Q E h => ?_) (fun cdv A outer s H vs Q E hr h => ?_)
  · obtain ⟨v, p, rfl, _⟩ := h
    rfl
  · obtain ⟨v, x, rfl, hx, h8, hl, k⟩ := h
    refine ⟨_, pss_one (ps_if (pt_not (pt_val (pe_kp G hr rfl (pa_cons (pv 0) pa_nil)))) pss_never pss_nil), ?_⟩
    exact ⟨_, rfl, v, x, rfl, hx, h8, hl, fun H1 s1 => ⟨true, rfl, iteF (k _ s1)⟩⟩
theorem kp_worth (G1 : Kp P w K mg base "check_wave" 6 ["value"] (spCheckW K)) (G2 : Kp P w K mg base "check_turn" 6 ["value"] (spCheckT K)) (G3 : Kp P w K mg base "worth_at" 6 ["wave", "turn"] (spWorthAt K)) (F : Fd K mg "worth" (top 36) ["wave", "turn"]) :
    Kp P w K mg base "worth" 7 ["wave", "turn"] (spWorthAt K) := F.kp fun f fd F => by
  have sc : FnScope ["wave", "turn"] ["wave", "turn"] (defScope (top 36)) := ⟨rfl, rfl, rfl, by decide +kernel, rfl, by decide +kernel, by decide +kernel⟩
  refine F.ok sc (fun vs H Q E h => ?_) (fun cdv A outer s H vs Q E hr h => ?_)
  · obtain ⟨u, v, x, o, rfl, _⟩ := h
    rfl
  · obtain ⟨u, v, x, o, rfl, hu, wok, hv, ho, k⟩ := h
    refine ⟨_, pss_cons (ps_expr (pe_kp G1 hr rfl (pa_cons (pv 0) pa_nil))) (pss_cons (ps_expr (pe_kp G2 hr rfl (pa_cons (pv 1) pa_nil))) (pss_one (ps_ret (pe_kp G3 hr rfl (pa_cons (pv 0) (pa_cons (pv 1) pa_nil)))))), ?_⟩
    obtain ⟨b1, b2⟩ := tq_bd ho
    refine ⟨_, rfl, u, x, rfl, hu, wok.len, wok.last, fun H1 s1 => ?_⟩
    have t1 := Tk.of s1
    refine ⟨_, rfl, v, _, rfl, t1.pr hv, ⟨b1.mono (by decide), b2.mono (by decide)⟩, tq_nrm ho, fun H2 s2 => ?_⟩
    have t2 := t1.trans (Tk.of s2)
    exact ⟨_, rfl, _, rfl, u, v, x, o, rfl, t2.wv hu, wok, t2.pr hv, ho, fun z H3 s3 h3 => k z H3 ((s1.trans s2).trans s3) h3⟩
theorem ok_turned {f : Addr} {fd : FuncData} (G1 : Kp P w K mg base "check_wave" 6 ["value"] (spCheckW K)) (G2 : Kp P w K mg base "check_turn" 6 ["value"] (spCheckT K)) (G3 : Kp P w K mg base "turned_by" 6 ["wave", "turn"] (spTurn K))
    (F : Fun K "turned" "turned" (top 37) f fd) : FnOk P w K mg base CX0 7 f fd ["wave", "turn"] (spTurn K) := by
  have sc : FnScope ["wave", "turn"] ["wave", "turn"] (defScope (top 37)) := ⟨rfl, rfl, rfl, by decide +kernel, rfl, by decide +kernel, by decide +kernel⟩
  refine F.ok sc (fun vs H Q E h => ?_) (fun cdv A outer s H vs Q E hr h => ?_)
  · obtain ⟨u, v, x, o, rfl, _⟩ := h
    rfl
  · obtain ⟨u, v, x, o, rfl, hu, wok, hv, ho, k⟩ := h
    refine ⟨_, pss_cons (ps_expr (pe_kp G1 hr rfl (pa_cons (pv 0) pa_nil))) (pss_cons (ps_expr (pe_kp G2 hr rfl (pa_cons (pv 1) pa_nil))) (pss_one (ps_ret (pe_kp G3 hr rfl (pa_cons (pv 0) (pa_cons (pv 1) pa_nil)))))), ?_⟩
    obtain ⟨b1, b2⟩ := tq_bd ho
    refine ⟨_, rfl, u, x, rfl, hu, wok.len, wok.last, fun H1 s1 => ?_⟩
    have t1 := Tk.of s1
    refine ⟨_, rfl, v, _, rfl, t1.pr hv, ⟨b1.mono (by decide), b2.mono (by decide)⟩, tq_nrm ho, fun H2 s2 => ?_⟩
    have t2 := t1.trans (Tk.of s2)
    exact ⟨_, rfl, _, rfl, u, v, x, o, rfl, t2.wv hu, wok, t2.pr hv, ho, fun z H3 s3 h3 => k z H3 ((s1.trans s2).trans s3) h3⟩
end
end Kw
set_option maxHeartbeats 4000000
/-! KwJ: the law's own fractions and turns. -/
namespace Kw
open PySem PySem.Spec PyProof.Rows L2
section
variable {P : Program} {w : World} {K : PySem.W.Frag} {mg : Str → Option Value} {base : Heap}
def spCommon : Sp := fun vs H Q _ => ∃ a b : Int, vs = [.int a, .int b] ∧ Q (.int ((Nat.gcd a.natAbs b.natAbs : Nat) : Int)) H
theorem abs_nat (i : Int) : (if i < 0 then -i else i) = ((i.natAbs : Nat) : Int) := by split <;> omega
theorem kp_common (T : Txt K mg) (F : Fd K mg "_law_common" (top 42) ["_law_one", "_law_two"]) : Kp P w K mg base "_law_common" 1 ["_law_one", "_law_two"] spCommon := F.kp fun f fd F => by
  have sc : FnScope ["_law_one", "_law_two"] ["_law_one", "_law_two"] (defScope (top 42)) := ⟨rfl, rfl, rfl, by decide +kernel, rfl, by decide +kernel, by decide +kernel⟩
  refine F.ok sc (fun vs H Q E h => ?_) (fun cdv A outer s H vs Q E hr h => ?_)
  · obtain ⟨a, b, rfl, _⟩ := h
    rfl
  · obtain ⟨a, b, rfl, k⟩ := h
    refine ⟨_, pss_cons (ps_par (i := 0) (j := 1) rfl sc.nd rfl rfl (by decide) rfl rfl
        (pa_cons (pe_callB call_abs (by rfl) T.abs PyProof.Rows.boot_abs (pa_cons (pv 0) pa_nil)) (pa_cons (pe_callB call_abs (by rfl) T.abs PyProof.Rows.boot_abs (pa_cons (pv 1) pa_nil)) pa_nil)) (by rfl))
      (pss_cons (ps_while PassesOwn.never (pt_cmpR op_gt (pv 1) pe_int (nomark _))
        (pss_one (ps_par (i := 0) (j := 1) rfl sc.nd rfl rfl (by decide) rfl rfl (pa_cons (pv 1) (pa_cons (pe_op op_mod (pe_callTy call_int1 (by rfl) T.int PyProof.Rows.boot_int (pa_cons (pv 0) pa_nil)) (pv 1)) pa_nil)) (by rfl))))
      (pss_one (ps_ret (pv 0)))), ?_⟩
    refine ⟨_, rfl, _, rfl, _, rfl, _, rfl, _, _, rfl, ?_⟩
    rw [abs_nat, abs_nat]
    refine ⟨fun d σ H' => H' = H ∧ ∃ c : Nat, σ = [some (.int (c : Int)), some (.int (d : Int))] ∧ Nat.gcd c d = Nat.gcd a.natAbs b.natAbs, ⟨_, rfl, a.natAbs, rfl, rfl⟩, ?_⟩
    rintro d σ H' ⟨rfl, c, rfl, hg⟩
    refine ⟨_, rfl, _, _, rfl, rfl, _, rfl, ite2 (fun hc => ?_) (fun hc => ?_)⟩
    · have hd : 0 < d := by have := of_decide_eq_true hc; omega
      refine ⟨fun σ' H1 => ∃ m', m' < d ∧ (H1 = H' ∧ ∃ c : Nat, σ' = [some (.int (c : Int)), some (.int (m' : Int))] ∧ Nat.gcd c m' = Nat.gcd a.natAbs b.natAbs), fun _ _ z => z, ?_⟩
      refine ⟨_, rfl, _, rfl, .inl ⟨_, rfl, _, rfl, _, _, rfl, rfl, (by omega), _, _, rfl, ?_⟩⟩
      refine ⟨c % d, Nat.mod_lt _ hd, rfl, d, ?_, ?_⟩
      · rw [Int.natCast_emod]; rfl
      · rw [← hg, Nat.gcd_comm d (c % d), ← Nat.gcd_rec, Nat.gcd_comm]
    · have hd : d = 0 := by
        rcases Nat.eq_zero_or_pos d with q | q
        · exact q
        · exact absurd (decide_eq_true (show (0 : Int) < (d : Int) by omega)) hc
      subst hd
      rw [Nat.gcd_zero_right] at hg
      refine ⟨_, rfl, ?_⟩
      rw [hg]; exact k
theorem kp_frac (G : Kp P w K mg base "_law_common" 1 ["_law_one", "_law_two"] spCommon) (F : Fd K mg "_law_frac" (top 43) ["_law_top", "_law_under"]) : Kp P w K mg base "_law_frac" 2 ["_law_top", "_law_under"] (spRatio K) := F.kp fun f fd F => by
  have sc : FnScope ["_law_top", "_law_under", "_law_by"] ["_law_top", "_law_under"] (defScope (top 43)) := ⟨rfl, rfl, rfl, by decide +kernel, rfl, by decide +kernel, by decide +kernel⟩
  refine F.ok sc (fun vs H Q E h => ?_) (fun cdv A outer s H vs Q E hr h => ?_)
  · obtain ⟨n, d, rfl, _⟩ := h
    rfl
  · obtain ⟨n, d, rfl, hd, hf, k⟩ := h
    refine ⟨_, pss_cons (ps_set (i := 2) sc.nd rfl (Or.inl rfl) (pe_kp G hr rfl (pa_cons (pv 0) (pa_cons (pv 1) pa_nil))))
      (pss_cons (ps_set (i := 2) sc.nd rfl (Or.inl rfl) (pe_ifExp (pt_cmpR op_gt (pv 1) pe_int (nomark _)) (pv 2) (pe_op op_sub pe_int (pv 2))))
      (pss_one (ps_ret (pe_tup (pa_cons (pe_op op_fdivW (pv 0) (pv 2)) (pa_cons (pe_op op_fdivW (pv 1) (pv 2)) pa_nil)))))), ?_⟩
    obtain ⟨c1, c2⟩ := cdiv_ok (n := n) hd hf
    refine ⟨_, rfl, _, rfl, n, d, rfl, _, rfl, _, _, rfl, rfl, _, rfl, ?_⟩
    rw [decide_eq_true hd]
    refine iteT ⟨_, rfl, ?_⟩
    refine ⟨_, rfl, _, rfl, _, _, rfl, rfl, c1, _, rfl, _, rfl, _, _, rfl, rfl, c2, (by show 2 ≤ sizeLine; decide), fun q hq => ?_⟩
    exact k _ _ (same_upd hq) (mk_quo hd upd_same)
theorem kp_add (G : Kp P w K mg base "_law_frac" 2 ["_law_top", "_law_under"] (spRatio K)) (F : Fd K mg "_law_add" (top 54) ["_law_one", "_law_two"]) : Kp P w K mg base "_law_add" 3 ["_law_one", "_law_two"] (spTwo K (· + ·)) := F.kp fun f fd F => by
  have sc : FnScope ["_law_one", "_law_two"] ["_law_one", "_law_two"] (defScope (top 54)) := ⟨rfl, rfl, rfl, by decide +kernel, rfl, by decide +kernel, by decide +kernel⟩
  refine F.ok sc (fun vs H Q E h => ?_) (fun cdv A outer s H vs Q E hr h => ?_)
  · obtain ⟨u, v, n1, d1, n2, d2, rfl, _⟩ := h
    rfl
  · obtain ⟨u, v, n1, d1, n2, d2, rfl, ⟨⟨a, rfl, ha⟩, ⟨b, rfl, hb⟩, p1, p2, x, y, f1, f2, f3, f4, l⟩, k⟩ := h
    refine ⟨_, pss_one (ps_ret (pe_kp G hr rfl (pa_cons (pe_op op_add
      (pe_op op_mulW (pe_ix ix_tup (pv 0) pe_int (fun _ _ => rfl)) (pe_ix ix_tup (pv 1) pe_int (fun _ _ => rfl)))
      (pe_op op_mulW (pe_ix ix_tup (pv 1) pe_int (fun _ _ => rfl)) (pe_ix ix_tup (pv 0) pe_int (fun _ _ => rfl))))
      (pa_cons (pe_op op_mulW (pe_ix ix_tup (pv 0) pe_int (fun _ _ => rfl)) (pe_ix ix_tup (pv 1) pe_int (fun _ _ => rfl))) pa_nil)))), ?_⟩
    refine ⟨_, rfl, a, _, _, .int n1, rfl, rfl, ha, rfl, _, rfl, b, _, _, .int d2, rfl, rfl, hb, rfl, _, _, rfl, rfl, cmul_ok f1 f4 (by omega),
      _, rfl, b, _, _, .int n2, rfl, rfl, hb, rfl, _, rfl, a, _, _, .int d1, rfl, rfl, ha, rfl, _, _, rfl, rfl, cmul_ok f3 f2 (by omega), _, _, rfl, rfl,
      _, rfl, a, _, _, .int d1, rfl, rfl, ha, rfl, _, rfl, b, _, _, .int d2, rfl, rfl, hb, rfl, _, _, rfl, rfl, cmul_ok f2 f4 (by omega),
      _, _, rfl, Int.mul_pos p1 p2, (f2.mul f4).up l, ?_⟩
    rw [← quo_add p1 p2]
    exact k
theorem kp_mul (G : Kp P w K mg base "_law_frac" 2 ["_law_top", "_law_under"] (spRatio K)) (F : Fd K mg "_law_mul" (top 55) ["_law_one", "_law_two"]) : Kp P w K mg base "_law_mul" 3 ["_law_one", "_law_two"] (spTwo K (· * ·)) := F.kp fun f fd F => by
  have sc : FnScope ["_law_one", "_law_two"] ["_law_one", "_law_two"] (defScope (top 55)) := ⟨rfl, rfl, rfl, by decide +kernel, rfl, by decide +kernel, by decide +kernel⟩
  refine F.ok sc (fun vs H Q E h => ?_) (fun cdv A outer s H vs Q E hr h => ?_)
  · obtain ⟨u, v, n1, d1, n2, d2, rfl, _⟩ := h
    rfl
  · obtain ⟨u, v, n1, d1, n2, d2, rfl, ⟨⟨a, rfl, ha⟩, ⟨b, rfl, hb⟩, p1, p2, x, y, f1, f2, f3, f4, l⟩, k⟩ := h
    refine ⟨_, pss_one (ps_ret (pe_kp G hr rfl (pa_cons
      (pe_op op_mulW (pe_ix ix_tup (pv 0) pe_int (fun _ _ => rfl)) (pe_ix ix_tup (pv 1) pe_int (fun _ _ => rfl)))
      (pa_cons (pe_op op_mulW (pe_ix ix_tup (pv 0) pe_int (fun _ _ => rfl)) (pe_ix ix_tup (pv 1) pe_int (fun _ _ => rfl))) pa_nil)))), ?_⟩
    refine ⟨_, rfl, a, _, _, .int n1, rfl, rfl, ha, rfl, _, rfl, b, _, _, .int n2, rfl, rfl, hb, rfl, _, _, rfl, rfl, cmul_ok f1 f3 (by omega),
      _, rfl, a, _, _, .int d1, rfl, rfl, ha, rfl, _, rfl, b, _, _, .int d2, rfl, rfl, hb, rfl, _, _, rfl, rfl, cmul_ok f2 f4 (by omega),
      _, _, rfl, Int.mul_pos p1 p2, (f2.mul f4).up l, ?_⟩
    rw [← quo_mul p1 p2]
    exact k
end
end Kw
set_option maxHeartbeats 4000000
/-! KwL: what is drawn. -/
namespace Kw
open PySem PySem.Spec PyProof.Rows L2
/-- the well: a list of three whole numbers -/
def Well (H : Hp) (p : Addr) : Prop := ∃ a b c : Int, H p = some (.lst [.int a, .int b, .int c])
theorem Well.tk {H H' : Hp} {p : Addr} (w : Well H p) (k : Keep p H H') : Tk H H' := by
  obtain ⟨a, b, c, h⟩ := w
  exact k.tk h
theorem Well.same {H H' : Hp} {p : Addr} (w : Well H p) (s : Same H H') : Well H' p := by
  obtain ⟨a, b, c, h⟩ := w
  exact ⟨a, b, c, s _ _ h⟩
section
variable {P : Program} {w : World} {K : PySem.W.Frag} {mg : Str → Option Value} {base : Heap}
def spDip : Sp := fun vs H Q _ => ∃ (p : Addr) (m : Int), vs = [.ref p, .int m] ∧ Well H p ∧ 0 < m ∧ m < 1073741824 ∧ ∀ (n : Int) H', 0 ≤ n → n < m → Keep p H H' → Well H' p → Q (.int n) H'
theorem kp_dip (T : Txt K mg) (F : Fd K mg "_law_dip" (top 40) ["_law_well_here", "_law_many"]) : Kp P w K mg base "_law_dip" 1 ["_law_well_here", "_law_many"] spDip := F.kp fun f fd F => by
  have sc : FnScope ["_law_well_here", "_law_many", "_law_found", "_law_lap"] ["_law_well_here", "_law_many"] (defScope (top 40)) := ⟨rfl, rfl, rfl, by decide +kernel, rfl, by decide +kernel, by decide +kernel⟩
  refine F.ok sc (fun vs H Q E h => ?_) (fun cdv A outer s H vs Q E hr h => ?_)
  · obtain ⟨p, m, rfl, _⟩ := h
    rfl
  · obtain ⟨p, m, rfl, ⟨a, b, c, hp⟩, h0, h1, k⟩ := h
    refine ⟨_, pss_cons (ps_if (pt_cmpR op_gt (pe_ix ix_list (pv 0) pe_int (fun _ _ => rfl)) pe_int (nomark _))
        (pss_cons (ps_asg (pe_callB call_divmod (by rfl) T.divmod PyProof.Rows.boot_divmod (pa_cons (pe_ix ix_list (pv 0) pe_int (fun _ _ => rfl)) (pa_cons (pv 1) pa_nil)))
            (pg_tup rfl (pgs_cons (pg_sub (pv 0) pe_int set_list) (pgs_cons (pg_name (i := 2) sc.nd rfl (Or.inl rfl)) pgs_nil))))
          (pss_one (ps_ret (pv 2)))) pss_nil)
      (pss_cons (ps_asg (pe_op op_add (pe_ix ix_list (pv 0) pe_int (fun _ _ => rfl)) pe_int) (pg_sub (pv 0) pe_int set_list))
      (pss_cons (ps_set (i := 3) sc.nd rfl (Or.inl rfl) (pe_op op_mod (pe_callTy call_int1 (by rfl) T.int PyProof.Rows.boot_int (pa_cons
          (pe_op op_add (pe_op op_add (pe_op op_mul (pe_ix ix_list (pv 0) pe_int (fun _ _ => rfl)) pe_int) (pe_op op_mul (pe_ix ix_list (pv 0) pe_int (fun _ _ => rfl)) pe_int)) pe_int) pa_nil)) pe_int))
      (pss_cons (ps_asg (pe_op op_mod (pe_callTy call_int1 (by rfl) T.int PyProof.Rows.boot_int (pa_cons
          (pe_op op_add (pe_op op_mul (pv 3) (pe_op op_add (pe_op op_mul pe_int (pe_op op_fdiv (pv 3) pe_int)) pe_int)) (pe_ix ix_list (pv 0) pe_int (fun _ _ => rfl))) pa_nil)) pe_int) (pg_sub (pv 0) pe_int set_list))
      (pss_one (ps_ret (pe_op op_mod (pe_callTy call_int1 (by rfl) T.int PyProof.Rows.boot_int (pa_cons (pe_op op_fdiv (pe_ix ix_list (pv 0) pe_int (fun _ _ => rfl)) pe_int) pa_nil)) (pv 1))))))), ?_⟩
    refine ⟨_, rfl, p, _, _, .int a, rfl, rfl, SqL.of hp, rfl, _, _, rfl, rfl, _, rfl, ite2 (fun _ => ?_) (fun _ => ?_)⟩
    · refine ⟨_, rfl, p, _, _, .int a, rfl, rfl, SqL.of hp, rfl, _, rfl, a, m, rfl, ⟨h0, h1⟩, fun T hT => ?_⟩
      have hpT : p ≠ T := ne_of_none hp hT
      refine ⟨T, _, rfl, SqT.of upd_same, rfl, _, _, rfl, ?_⟩
      refine ⟨_, rfl, p, [.int a, .int b, .int c], 0, 0, rfl, rfl, by rw [upd_ne hpT]; exact hp, rfl, ?_⟩
      refine ⟨_, _, rfl, rfl, _, rfl, ?_⟩
      refine k _ _ (Int.emod_nonneg _ (by omega)) (Int.emod_lt_of_pos _ h0) ?_ ⟨_, _, _, upd_same⟩
      exact (Keep.of (same_upd hT)).trans keep_upd
    · refine ⟨_, rfl, p, _, _, .int c, rfl, rfl, SqL.of hp, rfl, _, _, rfl, rfl, ?_⟩
      refine ⟨_, rfl, p, [.int a, .int b, .int c], 2, 2, rfl, rfl, hp, rfl, ?_⟩
      have h2 : upd H p (.lst [.int a, .int b, .int (c + 1)]) p = some (.lst [.int a, .int b, .int (c + 1)]) := upd_same
      refine ⟨_, rfl, p, _, _, .int b, rfl, rfl, SqL.of h2, rfl, _, _, rfl, rfl, .inr ⟨by decide, by decide⟩,
        _, rfl, p, _, _, .int (c + 1), rfl, rfl, SqL.of h2, rfl, _, _, rfl, rfl, .inr ⟨by decide, by decide⟩, _, _, rfl, rfl, _, _, rfl, rfl, .inl ⟨_, rfl, ?_⟩⟩
      refine ⟨_, _, rfl, rfl, (by show (0 : Int) < 2147483423; decide), ?_⟩
      generalize hlap : (b * 41117 + (c + 1) * 50021 + 13) % 2147483423 = lap
      have l0 : 0 ≤ lap := by rw [← hlap]; exact Int.emod_nonneg _ (by decide)
      have l1 : lap < 2147483423 := by rw [← hlap]; exact Int.emod_lt_of_pos _ (by decide)
      refine ⟨_, rfl, _, rfl, _, _, rfl, rfl, ⟨by show (0 : Int) < 23; decide, by show (23 : Int) < 1073741824; decide⟩, _, _, rfl, rfl, .inl ⟨by decide, by decide⟩, _, _, rfl, rfl, _, _, rfl, rfl, .inl ⟨by omega, by omega⟩,
        _, rfl, p, _, _, .int (c + 1), rfl, rfl, SqL.of h2, rfl, _, _, rfl, rfl, .inl ⟨_, rfl, ?_⟩⟩
      refine ⟨_, _, rfl, rfl, (by show (0 : Int) < 2147483423; decide), ?_⟩
      refine ⟨_, rfl, p, _, 1, 1, rfl, rfl, h2, rfl, ?_⟩
      refine ⟨_, rfl, p, _, _, _, rfl, rfl, SqL.of upd_same, rfl, _, _, rfl, rfl, ⟨by show (0 : Int) < 113; decide, by show (113 : Int) < 1073741824; decide⟩, .inl ⟨_, rfl, _, rfl, _, _, rfl, rfl, h0, ?_⟩⟩
      exact k _ _ (Int.emod_nonneg _ (by omega)) (Int.emod_lt_of_pos _ h0) (keep_upd.trans keep_upd) ⟨_, _, _, upd_same⟩
def spPick (K : PySem.W.Frag) : Sp := fun vs H Q _ => ∃ (p a : Addr) (xs : List V), vs = [.ref p, .ref a] ∧ Well H p ∧ SqT K H a xs ∧ 0 < xs.length ∧ xs.length < 1000 ∧ ∀ v H', v ∈ xs → Keep p H H' → Well H' p → Q v H'
theorem kp_pick (T : Txt K mg) (G : Kp P w K mg base "_law_dip" 1 ["_law_well_here", "_law_many"] spDip) (F : Fd K mg "_law_pick" (top 41) ["_law_well_here", "_law_some"]) : Kp P w K mg base "_law_pick" 2 ["_law_well_here", "_law_some"] (spPick K) := F.kp fun f fd F => by
  have sc : FnScope ["_law_well_here", "_law_some"] ["_law_well_here", "_law_some"] (defScope (top 41)) := ⟨rfl, rfl, rfl, by decide +kernel, rfl, by decide +kernel, by decide +kernel⟩
  refine F.ok sc (fun vs H Q E h => ?_) (fun cdv A outer s H vs Q E hr h => ?_)
  · obtain ⟨p, m, xs, rfl, _⟩ := h
    rfl
  · obtain ⟨p, a, xs, rfl, hw, hS, h0, h1, k⟩ := h
    refine ⟨_, pss_one (ps_ret (pe_ix ix_tup (pv 1) (pe_kp G hr rfl (pa_cons (pv 0) (pa_cons (pe_callB call_len_seq (by rfl) T.len PySem.boot_len (pa_cons (pv 1) pa_nil)) pa_nil))) (fun _ _ => rfl))), ?_⟩
    refine ⟨_, rfl, _, rfl, _, rfl, a, xs, rfl, .inr hS, p, _, rfl, hw, by omega, by omega, fun n H' n0 n1 kp w' => ?_⟩
    obtain ⟨j, rfl⟩ : ∃ j : Nat, n = (j : Int) := ⟨n.toNat, by omega⟩
    have hj : j < xs.length := by omega
    exact ⟨a, xs, _, xs[j], rfl, rfl, (hw.tk kp).t hS, atI_nat (List.getElem?_eq_getElem hj), k _ _ (List.getElem_mem hj) kp w'⟩
end
end Kw
set_option maxHeartbeats 4000000
/-! KwM: drawn numbers, fractions, turns. -/
namespace Kw
open PySem PySem.Spec PyProof.Rows L2
theorem fit_of {n : Int} {b : Nat} (h1 : n < 2 ^ b) (h2 : -(2 ^ b) < n) : Fit b n := by
  unfold Fit
  have : ((2 ^ b : Nat) : Int) = (2 : Int) ^ b := by rw [Int.natCast_pow]; rfl
  omega
section
variable {P : Program} {w : World} {K : PySem.W.Frag} {mg : Str → Option Value} {base : Heap}
def spLow : Sp := fun vs H Q _ => ∃ p : Addr, vs = [.ref p] ∧ Well H p ∧ ∀ (n : Int) H', -1000000 ≤ n → n ≤ 1000000 → Keep p H H' → Well H' p → Q (.int n) H'
theorem kp_low (G1 : Kp P w K mg base "_law_dip" 1 ["_law_well_here", "_law_many"] spDip) (G2 : Kp P w K mg base "_law_pick" 2 ["_law_well_here", "_law_some"] (spPick K)) (F : Fd K mg "_law_low" (top 44) ["_law_well_here"]) :
    Kp P w K mg base "_law_low" 3 ["_law_well_here"] spLow := F.kp fun f fd F => by
  have sc : FnScope ["_law_well_here", "_law_size"] ["_law_well_here"] (defScope (top 44)) := ⟨rfl, rfl, rfl, by decide +kernel, rfl, by decide +kernel, by decide +kernel⟩
  refine F.ok sc (fun vs H Q E h => ?_) (fun cdv A outer s H vs Q E hr h => ?_)
  · obtain ⟨p, rfl, _⟩ := h
    rfl
  · obtain ⟨p, rfl, hw, k⟩ := h
    have hr1 : Room 1 _ := hr.mono (by decide)
    refine ⟨_, pss_cons (ps_set (i := 1) sc.nd rfl (Or.inl rfl) (pe_kp G2 hr rfl (pa_cons (pv 0) (pa_cons (pe_tup (pa_cons pe_int (pa_cons pe_int (pa_cons pe_int (pa_cons pe_int (pa_cons pe_int (pa_cons pe_int (pa_cons (pe_op op_pow pe_int pe_int) pa_nil)))))))) pa_nil))))
      (pss_one (ps_ret (pe_op op_sub (pe_kp G1 hr1 rfl (pa_cons (pv 0) (pa_cons (pe_op op_add (pe_op op_mul pe_int (pv 1)) pe_int) pa_nil))) (pv 1)))), ?_⟩
    refine ⟨_, rfl, _, _, rfl, rfl, ⟨by decide, by decide, by decide⟩, (by show 7 ≤ sizeLine; decide), fun T hT => ?_⟩
    have sT : Same H (upd H T (.tup [.int 1, .int 2, .int 3, .int 5, .int 12, .int 60, .int (10 ^ (6 : Int).toNat)])) := same_upd hT
    refine ⟨p, T, _, rfl, hw.same sT, SqT.of upd_same, by decide, by decide, fun v H1 hv k1 w1 => ?_⟩
    obtain ⟨m, rfl, m0, m1⟩ : ∃ m : Int, v = .int m ∧ 1 ≤ m ∧ m ≤ 1000000 := by
      simp only [List.mem_cons, List.not_mem_nil, or_false] at hv
      rcases hv with rfl | rfl | rfl | rfl | rfl | rfl | rfl
      · exact ⟨1, rfl, by decide, by decide⟩
      · exact ⟨2, rfl, by decide, by decide⟩
      · exact ⟨3, rfl, by decide, by decide⟩
      · exact ⟨5, rfl, by decide, by decide⟩
      · exact ⟨12, rfl, by decide, by decide⟩
      · exact ⟨60, rfl, by decide, by decide⟩
      · exact ⟨_, rfl, by decide, by decide⟩
    refine ⟨_, rfl, _, rfl, _, _, rfl, rfl, .inl ⟨by decide, by decide⟩, _, _, rfl, rfl, p, _, rfl, w1, by omega, by omega, fun n H2 n0 n1 k2 w2 => ?_⟩
    exact ⟨_, rfl, _, _, rfl, rfl, k _ _ (by omega) (by omega) ((Keep.of sT).trans (k1.trans k2)) w2⟩
def spPart (K : PySem.W.Frag) : Sp := fun vs H Q _ => ∃ p : Addr, vs = [.ref p] ∧ Well H p ∧ ∀ v (x : Rat) H', Bd 20 x → IsR K H' v x → Keep p H H' → Well H' p → Q v H'
theorem kp_part (G1 : Kp P w K mg base "_law_low" 3 ["_law_well_here"] spLow) (G2 : Kp P w K mg base "_law_pick" 2 ["_law_well_here", "_law_some"] (spPick K)) (G3 : Kp P w K mg base "_law_frac" 2 ["_law_top", "_law_under"] (spRatio K))
    (F : Fd K mg "_law_part" (top 45) ["_law_well_here"]) : Kp P w K mg base "_law_part" 4 ["_law_well_here"] (spPart K) := F.kp fun f fd F => by
  have sc : FnScope ["_law_well_here", "_law_top"] ["_law_well_here"] (defScope (top 45)) := ⟨rfl, rfl, rfl, by decide +kernel, rfl, by decide +kernel, by decide +kernel⟩
  refine F.ok sc (fun vs H Q E h => ?_) (fun cdv A outer s H vs Q E hr h => ?_)
  · obtain ⟨p, rfl, _⟩ := h
    rfl
  · obtain ⟨p, rfl, hw, k⟩ := h
    have hr2 : Room 2 _ := hr.mono (by decide)
    refine ⟨_, pss_cons (ps_set (i := 1) sc.nd rfl (Or.inl rfl) (pe_kp G1 hr rfl (pa_cons (pv 0) pa_nil)))
      (pss_one (ps_ret (pe_kp G3 hr2 rfl (pa_cons (pv 1) (pa_cons (pe_kp G2 hr2 rfl (pa_cons (pv 0) (pa_cons
        (pe_tup (pa_cons pe_int (pa_cons pe_int (pa_cons pe_int (pa_cons pe_int (pa_cons pe_int (pa_cons pe_int (pa_cons pe_int (pa_cons pe_int (pa_cons pe_int pa_nil)))))))))) pa_nil))) pa_nil))))), ?_⟩
    refine ⟨_, rfl, p, rfl, hw, fun n H1 n0 n1 k1 w1 => ⟨_, rfl, _, rfl, (by show 9 ≤ sizeLine; decide), fun T hT => ?_⟩⟩
    have sT : Same H1 (upd H1 T (.tup [.int 1, .int 1, .int 2, .int 2, .int 3, .int 4, .int 5, .int 12, .int 1000])) := same_upd hT
    refine ⟨p, T, _, rfl, w1.same sT, SqT.of upd_same, by decide, by decide, fun v H2 hv k2 w2 => ?_⟩
    obtain ⟨m, rfl, m0, m1⟩ : ∃ m : Int, v = .int m ∧ 1 ≤ m ∧ m ≤ 1000 := by
      simp only [List.mem_cons, List.not_mem_nil, or_false] at hv
      rcases hv with rfl | rfl | rfl | rfl | rfl | rfl | rfl | rfl | rfl
      all_goals exact ⟨_, rfl, by decide, by decide⟩
    have fm : Fit 20 m := fit_of (by omega) (by omega)
    have fn : Fit 20 n := fit_of (by omega) (by omega)
    refine ⟨n, m, rfl, by omega, fm.up (by decide), fun z H3 s3 h3 => ?_⟩
    exact k z _ H3 (bd_quo (by omega) fn fm) h3 ((k1.trans (Keep.of sT)).trans (k2.trans (Keep.of s3))) (w2.same s3)
def spHalf (K : PySem.W.Frag) : Sp := fun vs H Q _ => ∃ p : Addr, vs = [.ref p] ∧ Well H p ∧ ∀ v (a b : Int) H', -60 ≤ a → a ≤ 60 → 0 ≤ b → b ≤ 60 → (0 < b ∨ 0 < a) → IsI2 K H' v a b → Keep p H H' → Well H' p → Q v H'
theorem kp_half (G1 : Kp P w K mg base "_law_dip" 1 ["_law_well_here", "_law_many"] spDip) (G2 : Kp P w K mg base "_law_pick" 2 ["_law_well_here", "_law_some"] (spPick K)) (F : Fd K mg "_law_half" (top 46) ["_law_well_here"]) :
    Kp P w K mg base "_law_half" 3 ["_law_well_here"] (spHalf K) := F.kp fun f fd F => by
  have sc : FnScope ["_law_well_here", "_law_way", "_law_size", "_law_top"] ["_law_well_here"] (defScope (top 46)) := ⟨rfl, rfl, rfl, by decide +kernel, rfl, by decide +kernel, by decide +kernel⟩
  refine F.ok sc (fun vs H Q E h => ?_) (fun cdv A outer s H vs Q E hr h => ?_)
  · obtain ⟨p, rfl, _⟩ := h
    rfl
  · obtain ⟨p, rfl, hw, k⟩ := h
    have hr1 : Room 1 _ := hr.mono (by decide)
    refine ⟨_, pss_cons (ps_set (i := 1) sc.nd rfl (Or.inl rfl) (pe_kp G1 hr1 rfl (pa_cons (pv 0) (pa_cons pe_int pa_nil))))
      (pss_cons (ps_if (pt_cmpR op_eq (pv 1) pe_int (nomark _)) (pss_one (ps_ret (pe_kp G2 hr rfl (pa_cons (pv 0) (pa_cons (pe_tup
          (pa_cons (pe_tup (pa_cons pe_int (pa_cons pe_int pa_nil))) (pa_cons (pe_tup (pa_cons pe_int (pa_cons pe_int pa_nil))) (pa_cons (pe_tup (pa_cons pe_int (pa_cons pe_int pa_nil)))
            (pa_cons (pe_tup (pa_cons (pe_un un_neg pe_int) (pa_cons pe_int pa_nil))) pa_nil))))) pa_nil))))) pss_nil)
      (pss_cons (ps_set (i := 2) sc.nd rfl (Or.inl rfl) (pe_kp G2 hr rfl (pa_cons (pv 0) (pa_cons (pe_tup (pa_cons pe_int (pa_cons pe_int (pa_cons pe_int (pa_cons pe_int (pa_cons pe_int (pa_cons pe_int pa_nil))))))) pa_nil))))
      (pss_cons (ps_set (i := 3) sc.nd rfl (Or.inl rfl) (pe_op op_sub (pe_kp G1 hr1 rfl (pa_cons (pv 0) (pa_cons (pe_op op_add (pe_op op_mul pe_int (pv 2)) pe_int) pa_nil))) (pv 2)))
      (pss_one (ps_ret (pe_tup (pa_cons (pv 3) (pa_cons (pe_op op_add pe_int (pe_kp G1 hr1 rfl (pa_cons (pv 0) (pa_cons (pv 2) pa_nil)))) pa_nil)))))))), ?_⟩
    refine ⟨_, rfl, p, 5, rfl, hw, by decide, by decide, fun n H1 n0 n1 k1 w1 => ?_⟩
    refine ⟨_, rfl, rfl, _, rfl, ite2 (fun _ => ?_) (fun _ => ?_)⟩
    · refine ⟨_, rfl, (by show 2 ≤ sizeLine; decide), fun q1 h1 => ⟨(by show 2 ≤ sizeLine; decide), fun q2 h2 => ⟨(by show 2 ≤ sizeLine; decide), fun q3 h3 => ⟨_, rfl, (by show 2 ≤ sizeLine; decide), fun q4 h4 => ⟨(by show 4 ≤ sizeLine; decide), fun q5 h5 => ?_⟩⟩⟩⟩⟩
      have s1 := same_upd (o := .tup [.int 0, .int 1]) h1
      have s2 := same_upd (o := .tup [.int 1, .int 1]) h2
      have s3 := same_upd (o := .tup [.int 1, .int 0]) h3
      have s4 := same_upd (o := .tup [.int (-1), .int 1]) h4
      have s5 := same_upd (o := .tup [.ref q1, .ref q2, .ref q3, .ref q4]) h5
      have sA := (((s1.trans s2).trans s3).trans s4).trans s5
      refine ⟨p, q5, _, rfl, w1.same sA, SqT.of upd_same, (by show 0 < 4; decide), (by show 4 < 1000; decide), fun v H2 hv k2 w2 => ?_⟩
      have kA : Keep p H H2 := k1.trans ((Keep.of sA).trans k2)
      have t2 := (w1.same sA).tk k2
      simp only [List.mem_cons, List.not_mem_nil, or_false] at hv
      rcases hv with rfl | rfl | rfl | rfl
      · exact k _ 0 1 H2 (by decide) (by decide) (by decide) (by decide) (by decide) ⟨q1, rfl, t2.t (SqT.of ((((s2.trans s3).trans s4).trans s5) _ _ upd_same))⟩ kA w2
      · exact k _ 1 1 H2 (by decide) (by decide) (by decide) (by decide) (by decide) ⟨q2, rfl, t2.t (SqT.of (((s3.trans s4).trans s5) _ _ upd_same))⟩ kA w2
      · exact k _ 1 0 H2 (by decide) (by decide) (by decide) (by decide) (by decide) ⟨q3, rfl, t2.t (SqT.of ((s4.trans s5) _ _ upd_same))⟩ kA w2
      · exact k _ (-1) 1 H2 (by decide) (by decide) (by decide) (by decide) (by decide) ⟨q4, rfl, t2.t (SqT.of (s5 _ _ upd_same))⟩ kA w2
    · refine ⟨_, rfl, (by show 6 ≤ sizeLine; decide), fun T hT => ?_⟩
      have sT : Same H1 (upd H1 T (.tup [.int 1, .int 2, .int 3, .int 3, .int 12, .int 60])) := same_upd hT
      refine ⟨p, T, _, rfl, w1.same sT, SqT.of upd_same, by decide, by decide, fun v H2 hv k2 w2 => ?_⟩
      obtain ⟨m, rfl, m0, m1⟩ : ∃ m : Int, v = .int m ∧ 1 ≤ m ∧ m ≤ 60 := by
        simp only [List.mem_cons, List.not_mem_nil, or_false] at hv
        rcases hv with rfl | rfl | rfl | rfl | rfl | rfl
        all_goals exact ⟨_, rfl, by decide, by decide⟩
      refine ⟨_, rfl, _, rfl, _, _, rfl, rfl, .inl ⟨by decide, by decide⟩, _, _, rfl, rfl, p, _, rfl, w2, by omega, by omega, fun a H3 a0 a1 k3 w3 => ?_⟩
      refine ⟨_, rfl, _, _, rfl, rfl, _, rfl, _, rfl, _, rfl, p, _, rfl, w3, by omega, by omega, fun b H4 b0 b1 k4 w4 => ?_⟩
      refine ⟨_, _, rfl, rfl, (by show 2 ≤ sizeLine; decide), fun q hq => ?_⟩
      have sq := same_upd (o := .tup [.int (a - m), .int (1 + b)]) hq
      exact k _ (a - m) (1 + b) _ (by omega) (by omega) (by omega) (by omega) (.inl (by omega)) ⟨q, rfl, SqT.of upd_same⟩ ((k1.trans (Keep.of sT)).trans ((k2.trans k3).trans (k4.trans (Keep.of sq)))) (w4.same sq)
end
end Kw
set_option maxHeartbeats 4000000
/-! KwN: turns of three whole numbers; drawn waves; the well. -/
namespace Kw
open PySem PySem.Spec PyProof.Rows L2
theorem sq_bd {a : Int} (h1 : -60 ≤ a) (h2 : a ≤ 60) : 0 ≤ a * a ∧ a * a ≤ 3600 := by
  constructor
  · rcases Int.le_total 0 a with q | q
    · exact Int.mul_nonneg q q
    · exact Int.mul_nonneg_of_nonpos_of_nonpos q q
  · have h3 : 0 ≤ (60 - a) * (60 + a) := Int.mul_nonneg (by omega) (by omega)
    have h4 : (60 - a) * (60 + a) = 3600 - a * a := by grind
    omega
theorem pt_of_half {a b : Int} (h1 : -60 ≤ a) (h2 : a ≤ 60) (h3 : 0 ≤ b) (h4 : b ≤ 60) (h5 : 0 < b ∨ 0 < a) : PtOk 13 ⟨b * b - a * a, 2 * a * b, b * b + a * a⟩ := by
  obtain ⟨a0, a1⟩ := sq_bd h1 h2
  obtain ⟨b0, b1⟩ := sq_bd (by omega) h4
  refine ⟨?_, ?_, ?_⟩
  · show 0 < b * b + a * a
    rcases h5 with q | q
    · have := Int.mul_pos q q; omega
    · have := Int.mul_pos q q; omega
  · show b * b + a * a < 2 ^ 13
    omega
  · show (b * b - a * a) * (b * b - a * a) + 2 * a * b * (2 * a * b) = (b * b + a * a) * (b * b + a * a)
    grind
theorem pt_fit {k : Nat} {o : Pt} (h : PtOk k o) : Fit k o.c ∧ Fit k o.s ∧ Fit k o.r := pt_bd h
section
variable {P : Program} {w : World} {K : PySem.W.Frag} {mg : Str → Option Value} {base : Heap}
def spPoint (K : PySem.W.Frag) : Sp := fun vs H Q _ => ∃ (v : V) (a b : Int), vs = [v] ∧ IsI2 K H v a b ∧ (-60 ≤ a ∧ a ≤ 60 ∧ 0 ≤ b ∧ b ≤ 60 ∧ (0 < b ∨ 0 < a)) ∧ ∀ z (o : Pt) H', PtOk 13 o → Same H H' → IsT3 K H' z o → Q z H'
theorem kp_point (F : Fd K mg "_law_point" (top 47) ["_law_half_here"]) : Kp P w K mg base "_law_point" 1 ["_law_half_here"] (spPoint K) := F.kp fun f fd F => by
  have sc : FnScope ["_law_half_here", "_law_p", "_law_q"] ["_law_half_here"] (defScope (top 47)) := ⟨rfl, rfl, rfl, by decide +kernel, rfl, by decide +kernel, by decide +kernel⟩
  refine F.ok sc (fun vs H Q E h => ?_) (fun cdv A outer s H vs Q E hr h => ?_)
  · obtain ⟨v, a, b, rfl, _⟩ := h
    rfl
  · obtain ⟨_, a, b, rfl, ⟨p, rfl, hS⟩, ⟨h1, h2, h3, h4, h5⟩, k⟩ := h
    refine ⟨_, pss_cons (ps_asg (pv 0) (pg_tup rfl (pgs_cons (pg_name (i := 1) sc.nd rfl (Or.inl rfl)) (pgs_cons (pg_name (i := 2) sc.nd rfl (Or.inl rfl)) pgs_nil))))
      (pss_one (ps_ret (pe_tup (pa_cons (pe_op op_sub (pe_op op_mul (pv 2) (pv 2)) (pe_op op_mul (pv 1) (pv 1)))
        (pa_cons (pe_op op_mul (pe_op op_mul pe_int (pv 1)) (pv 2)) (pa_cons (pe_op op_add (pe_op op_mul (pv 2) (pv 2)) (pe_op op_mul (pv 1) (pv 1))) pa_nil)))))), ?_⟩
    refine ⟨_, rfl, p, _, rfl, hS, rfl, _, _, rfl, _, _, rfl, rfl, ?_⟩
    refine ⟨_, rfl, _, rfl, _, _, rfl, rfl, .inl ⟨by omega, by omega⟩, _, rfl, _, rfl, _, _, rfl, rfl, .inl ⟨by omega, by omega⟩, _, _, rfl, rfl,
      _, rfl, _, _, rfl, rfl, .inl ⟨by decide, by decide⟩, _, rfl, _, _, rfl, rfl, .inr ⟨by omega, by omega⟩,
      _, rfl, _, rfl, _, _, rfl, rfl, .inl ⟨by omega, by omega⟩, _, rfl, _, rfl, _, _, rfl, rfl, .inl ⟨by omega, by omega⟩, _, _, rfl, rfl, (by show 3 ≤ sizeLine; decide), fun q hq => ?_⟩
    exact k _ ⟨b * b - a * a, 2 * a * b, b * b + a * a⟩ _ (pt_of_half h1 h2 h3 h4 h5) (same_upd hq) ⟨q, rfl, SqT.of upd_same⟩
def spTq (K : PySem.W.Frag) : Sp := fun vs H Q _ => ∃ (v : V) (o : Pt), vs = [v] ∧ IsT3 K H v o ∧ PtOk 26 o ∧ ∀ z H', Same H H' → IsP K H' z (tq o) → Q z H'
theorem kp_turn (G : Kp P w K mg base "_law_frac" 2 ["_law_top", "_law_under"] (spRatio K)) (F : Fd K mg "_law_turn" (top 48) ["_law_point_here"]) : Kp P w K mg base "_law_turn" 3 ["_law_point_here"] (spTq K) := F.kp fun f fd F => by
  have sc : FnScope ["_law_point_here"] ["_law_point_here"] (defScope (top 48)) := ⟨rfl, rfl, rfl, by decide +kernel, rfl, by decide +kernel, by decide +kernel⟩
  refine F.ok sc (fun vs H Q E h => ?_) (fun cdv A outer s H vs Q E hr h => ?_)
  · obtain ⟨v, o, rfl, _⟩ := h
    rfl
  · obtain ⟨_, o, rfl, ⟨p, rfl, hS⟩, ho, k⟩ := h
    refine ⟨_, pss_one (ps_ret (pe_tup (pa_cons (pe_kp G hr rfl (pa_cons (pe_ix ix_tup (pv 0) pe_int (fun _ _ => rfl)) (pa_cons (pe_ix ix_tup (pv 0) pe_int (fun _ _ => rfl)) pa_nil)))
      (pa_cons (pe_kp G hr rfl (pa_cons (pe_ix ix_tup (pv 0) pe_int (fun _ _ => rfl)) (pa_cons (pe_ix ix_tup (pv 0) pe_int (fun _ _ => rfl)) pa_nil))) pa_nil)))), ?_⟩
    obtain ⟨_, _, f3⟩ := pt_fit ho
    refine ⟨_, rfl, p, _, _, .int o.c, rfl, rfl, hS, rfl, _, rfl, p, _, _, .int o.r, rfl, rfl, hS, rfl, o.c, o.r, rfl, ho.pos, f3.up (by decide), fun x1 H1 s1 h1 => ?_⟩
    have hS1 := (Tk.of s1).t hS
    refine ⟨_, rfl, p, _, _, .int o.s, rfl, rfl, hS1, rfl, _, rfl, p, _, _, .int o.r, rfl, rfl, hS1, rfl, o.s, o.r, rfl, ho.pos, f3.up (by decide), fun x2 H2 s2 h2 => ⟨(by show 2 ≤ sizeLine; decide), fun q hq => ?_⟩⟩
    have sq := same_upd (o := .tup [x1, x2]) hq
    exact k _ _ ((s1.trans s2).trans sq) ⟨q, x1, x2, rfl, SqT.of upd_same, (Tk.of (s2.trans sq)).r h1, (Tk.of sq).r h2⟩
def spWith (K : PySem.W.Frag) : Sp := fun vs H Q _ => ∃ (u v : V) (a b : Pt), vs = [u, v] ∧ IsT3 K H u a ∧ IsT3 K H v b ∧ PtOk 13 a ∧ PtOk 13 b ∧ ∀ z H', Same H H' → IsT3 K H' z (withP a b) → Q z H'
theorem kp_with (F : Fd K mg "_law_with" (top 56) ["_law_one", "_law_two"]) : Kp P w K mg base "_law_with" 1 ["_law_one", "_law_two"] (spWith K) := F.kp fun f fd F => by
  have sc : FnScope ["_law_one", "_law_two"] ["_law_one", "_law_two"] (defScope (top 56)) := ⟨rfl, rfl, rfl, by decide +kernel, rfl, by decide +kernel, by decide +kernel⟩
  refine F.ok sc (fun vs H Q E h => ?_) (fun cdv A outer s H vs Q E hr h => ?_)
  · obtain ⟨u, v, a, b, rfl, _⟩ := h
    rfl
  · obtain ⟨_, _, a, b, rfl, ⟨p, rfl, hP⟩, ⟨q, rfl, hQ⟩, ha, hb, k⟩ := h
    refine ⟨_, pss_one (ps_ret (pe_tup
      (pa_cons (pe_op op_sub (pe_op op_mulW (pe_ix ix_tup (pv 0) pe_int (fun _ _ => rfl)) (pe_ix ix_tup (pv 1) pe_int (fun _ _ => rfl))) (pe_op op_mulW (pe_ix ix_tup (pv 0) pe_int (fun _ _ => rfl)) (pe_ix ix_tup (pv 1) pe_int (fun _ _ => rfl))))
      (pa_cons (pe_op op_add (pe_op op_mulW (pe_ix ix_tup (pv 0) pe_int (fun _ _ => rfl)) (pe_ix ix_tup (pv 1) pe_int (fun _ _ => rfl))) (pe_op op_mulW (pe_ix ix_tup (pv 0) pe_int (fun _ _ => rfl)) (pe_ix ix_tup (pv 1) pe_int (fun _ _ => rfl))))
      (pa_cons (pe_op op_mulW (pe_ix ix_tup (pv 0) pe_int (fun _ _ => rfl)) (pe_ix ix_tup (pv 1) pe_int (fun _ _ => rfl))) pa_nil))))), ?_⟩
    obtain ⟨a1, a2, a3⟩ := pt_fit ha
    obtain ⟨b1, b2, b3⟩ := pt_fit hb
    refine ⟨_, rfl, p, _, _, .int a.c, rfl, rfl, hP, rfl, _, rfl, q, _, _, .int b.c, rfl, rfl, hQ, rfl, _, _, rfl, rfl, cmul_ok a1 b1 (by decide),
      _, rfl, p, _, _, .int a.s, rfl, rfl, hP, rfl, _, rfl, q, _, _, .int b.s, rfl, rfl, hQ, rfl, _, _, rfl, rfl, cmul_ok a2 b2 (by decide), _, _, rfl, rfl,
      _, rfl, p, _, _, .int a.c, rfl, rfl, hP, rfl, _, rfl, q, _, _, .int b.s, rfl, rfl, hQ, rfl, _, _, rfl, rfl, cmul_ok a1 b2 (by decide),
      _, rfl, p, _, _, .int a.s, rfl, rfl, hP, rfl, _, rfl, q, _, _, .int b.c, rfl, rfl, hQ, rfl, _, _, rfl, rfl, cmul_ok a2 b1 (by decide), _, _, rfl, rfl,
      _, rfl, p, _, _, .int a.r, rfl, rfl, hP, rfl, _, rfl, q, _, _, .int b.r, rfl, rfl, hQ, rfl, _, _, rfl, rfl, cmul_ok a3 b3 (by decide), (by show 3 ≤ sizeLine; decide), fun t ht => ?_⟩
    exact k _ _ (same_upd ht) ⟨t, rfl, SqT.of upd_same⟩
def spTrim (K : PySem.W.Frag) : Sp := fun vs H Q _ => ∃ (l : Addr) (xs : List V) (ps : List Cp), vs = [.ref l] ∧ H l = some (.lst xs) ∧ AllP K H xs ps ∧ ps.length ≤ 8 ∧ ∀ z m H', Same H H' → LastOk (ps.take m) → IsPs K H' z (ps.take m) → Q z H'
theorem kp_trim (T : Txt K mg) (F : Fd K mg "_law_trim" (top 49) ["_law_pairs"]) : Kp P w K mg base "_law_trim" 1 ["_law_pairs"] (spTrim K) := F.kp fun f fd F => by
  have sc : FnScope ["_law_pairs", "_law_many"] ["_law_pairs"] (defScope (top 49)) := ⟨rfl, rfl, rfl, by decide +kernel, rfl, by decide +kernel, by decide +kernel⟩
  refine F.ok sc (fun vs H Q E h => ?_) (fun cdv A outer s H vs Q E hr h => ?_)
  · obtain ⟨l, xs, ps, rfl, _⟩ := h
    rfl
  · obtain ⟨l, xs, ps, rfl, hL, hall, h8, k⟩ := h
    have ln := hall.1
    refine ⟨_, pss_cons (ps_set (i := 1) sc.nd rfl (Or.inl rfl) (pe_callB call_len_seq (by rfl) T.len PySem.boot_len (pa_cons (pv 0) pa_nil)))
      (pss_cons (ps_while PassesOwn.never (PW.pt (pw_and (pt_cmpR op_gt (pv 1) pe_int (nomark _)) (pw_and1 (pt_cmpR (op_eqD hr.units) (pe_ix ix_list (pv 0) (pe_op op_sub (pv 1) pe_int) (fun _ _ => rfl))
          (pe_tup (pa_cons (pe_tup (pa_cons pe_int (pa_cons pe_int pa_nil))) (pa_cons (pe_tup (pa_cons pe_int (pa_cons pe_int pa_nil))) pa_nil))) (nomark _)))))
        (pss_one (ps_set (i := 1) sc.nd rfl (Or.inl rfl) (pe_op op_sub (pv 1) pe_int))))
      (pss_one (ps_ret (pe_callTy call_tuple_of (by rfl) T.tuple PyProof.Rows.boot_tuple (pa_cons (pe_slice sl_list (pv 0) po_none (po_some (pv 1))) pa_nil))))), ?_⟩
    refine ⟨_, rfl, l, xs, rfl, .inl (SqL.of hL), ?_⟩
    -- the end of the loop
    have fin : ∀ (m : Nat) (H' : Hp), Same H H' → m ≤ xs.length → LastOk (ps.take m) →
        tRet (tCB (fun vs H Q => ∃ p ys, vs = [.ref p] ∧ ((SqL K H p ys ∧ ∀ l, H l = none → Q (.ref l) (upd H l (.tup ys))) ∨ (SqT K H p ys ∧ Q (.ref p) H))) (tCons (tSl (rSlL K) (tVar 0) tNoPart (tPart (tVar 1))) tNil)) { nx := fun _ H' => Q .non H', rt := Q } [some (.ref l), some (.int (m : Int))] H' := by
      intro m H' s1 hm hlast
      have hc : cutV xs none (some (m : Int)) = xs.take m := by
        unfold cutV
        rw [HT.sIx_none, HT.sIx_nat, Nat.min_eq_left hm, List.drop_zero, Nat.sub_zero]
      refine ⟨_, rfl, _, rfl, _, rfl, l, xs, rfl, SqL.of (s1 _ _ hL), fun q hq => ?_⟩
      rw [hc]
      have s2 := same_upd (o := .lst (xs.take m)) hq
      refine ⟨q, _, rfl, .inl ⟨SqL.of upd_same, fun t ht => ?_⟩⟩
      have s3 := same_upd (o := .tup (xs.take m)) ht
      exact k _ m _ ((s1.trans s2).trans s3) hlast ⟨t, _, rfl, SqT.of upd_same, (Tk.of ((s1.trans s2).trans s3)).all (hall.take m)⟩
    refine ⟨fun m σ H' => Same H H' ∧ m ≤ xs.length ∧ σ = [some (.ref l), some (.int (m : Int))], ⟨xs.length, Same.refl _, Nat.le_refl _, rfl⟩, ?_⟩
    rintro m σ H' ⟨s1, hm, rfl⟩
    refine ⟨_, rfl, _, _, rfl, rfl, _, rfl, ite2 (fun hc => ?_) (fun hc => ?_)⟩
    · have hm0 : 0 < m := by have := of_decide_eq_true hc; omega
      have hmx : m - 1 < xs.length := by omega
      obtain ⟨q, hq, hqp⟩ := hall.get (List.getElem?_eq_getElem hmx)
      have hat : atI xs ((m : Int) - 1) = some xs[m - 1] := by
        have e : (m : Int) - 1 = ((m - 1 : Nat) : Int) := by omega
        rw [e]
        exact atI_nat (List.getElem?_eq_getElem hmx)
      refine ⟨_, rfl, _, rfl, _, _, rfl, rfl, l, xs, _, xs[m - 1], rfl, rfl, SqL.of (s1 _ _ hL), hat, (by show 2 ≤ sizeLine; decide), fun q1 h1 => ⟨(by show 2 ≤ sizeLine; decide), fun q2 h2 => ⟨(by show 2 ≤ sizeLine; decide), fun q3 h3 => ?_⟩⟩⟩
      have e1 := same_upd (o := .tup [.int 0, .int 1]) h1
      have e2 := same_upd (o := .tup [.int 0, .int 1]) h2
      have e3 := same_upd (o := .tup [.ref q1, .ref q2]) h3
      have eA := (e1.trans e2).trans e3
      refine ⟨dP q, dP (0, 0), ((Tk.of (s1.trans eA)).pr hqp).dp, ?_, shaped_P _, shaped_P _, decide (q = (0, 0)), ?_, ite2 (fun hd => ?_) (fun hd => ?_)⟩
      · refine .tup (SqT.of upd_same) (.cons (.tup (SqT.of ((e2.trans e3) _ _ upd_same)) (.cons (.int _) (.cons (.int _) .nil))) (.cons (.tup (SqT.of (e3 _ _ upd_same)) (.cons (.int _) (.cons (.int _) .nil))) .nil))
      · rw [eqv_P]
      · refine ⟨fun σ' H1 => ∃ m', m' < m ∧ (Same H H1 ∧ m' ≤ xs.length ∧ σ' = [some (.ref l), some (.int (m' : Int))]), fun _ _ z => z, ?_⟩
        refine ⟨_, rfl, _, _, rfl, rfl, m - 1, by omega, s1.trans eA, by omega, ?_⟩
        have e : (m : Int) - 1 = ((m - 1 : Nat) : Int) := by omega
        rw [← e]; rfl
      · refine fin m _ (s1.trans eA) hm ?_
        intro p hp
        have hlen : (ps.take m).length = m := by rw [List.length_take]; omega
        rw [List.getLast?_eq_getElem?, hlen, List.getElem?_take, if_pos (by omega), hq] at hp
        cases hp
        intro hz
        exact hd (decide_eq_true hz)
    · have hm0 : m = 0 := by
        rcases Nat.eq_zero_or_pos m with q | q
        · exact q
        · exact absurd (decide_eq_true (show (0 : Int) < (m : Int) by omega)) hc
      subst hm0
      refine iteF (fin 0 _ s1 hm ?_)
      intro p hp
      rw [List.take_zero] at hp
      cases hp
end
end Kw
set_option maxHeartbeats 4000000
/-! KwO: drawn waves; the well. -/
namespace Kw
open PySem PySem.Spec PyProof.Rows L2
section
variable {P : Program} {w : World} {K : PySem.W.Frag} {mg : Str → Option Value} {base : Heap}
def spWave (K : PySem.W.Frag) : Sp := fun vs H Q _ => ∃ (p : Addr) (m : Int), vs = [.ref p, .int m] ∧ Well H p ∧ 0 < m ∧ m ≤ 8 ∧ ∀ v (x : Wv) H', WOk 20 x → IsW K H' v x → Keep p H H' → Well H' p → Q v H'
theorem kp_wave (T : Txt K mg) (G1 : Kp P w K mg base "_law_dip" 1 ["_law_well_here", "_law_many"] spDip) (G2 : Kp P w K mg base "_law_pick" 2 ["_law_well_here", "_law_some"] (spPick K)) (G3 : Kp P w K mg base "_law_part" 4 ["_law_well_here"] (spPart K))
    (G4 : Kp P w K mg base "_law_trim" 1 ["_law_pairs"] (spTrim K)) (F : Fd K mg "_law_wave" (top 50) ["_law_well_here", "_law_most"]) : Kp P w K mg base "_law_wave" 5 ["_law_well_here", "_law_most"] (spWave K) := F.kp fun f fd F => by
  have sc : FnScope ["_law_well_here", "_law_most", "_law_pairs", "_law_many", "_law_k", "_law_is_blank", "_law_one", "_law_two"] ["_law_well_here", "_law_most"] (defScope (top 50)) := ⟨rfl, rfl, rfl, by decide +kernel, rfl, by decide +kernel, by decide +kernel⟩
  refine F.ok sc (fun vs H Q E h => ?_) (fun cdv A outer s H vs Q E hr h => ?_)
  · obtain ⟨p, m, rfl, _⟩ := h
    rfl
  · obtain ⟨p, m, rfl, hw, m0, m8, k⟩ := h
    have hr1 : Room 1 _ := hr.mono (by decide)
    have hr2 : Room 2 _ := hr.mono (by decide)
    refine ⟨_, pss_cons (ps_par (i := 2) (j := 3) rfl sc.nd rfl rfl (by decide) rfl rfl (pa_cons (pe_lst pa_nil) (pa_cons (pe_kp G2 hr2 rfl (pa_cons (pv 0) (pa_cons (pe_tup (pa_cons (pv 1)
          (pa_cons (pe_kp G1 hr1 rfl (pa_cons (pv 0) (pa_cons (pe_op op_add (pv 1) pe_int) pa_nil))) (pa_cons (pe_op op_add pe_int (pe_kp G1 hr1 rfl (pa_cons (pv 0) (pa_cons (pv 1) pa_nil)))) pa_nil)))) pa_nil))) pa_nil)) (by rfl))
      (pss_cons (ps_for PassesOwn.never rfl (pi_range1 rfl T.range (pa_cons (pv 3) pa_nil)) (pg_name (i := 4) sc.nd rfl (Or.inl rfl))
        (pss_cons (ps_set (i := 5) sc.nd rfl (Or.inl rfl) (pe_cmpR op_eq (pe_kp G1 hr1 rfl (pa_cons (pv 0) (pa_cons pe_int pa_nil))) pe_int (nomark _)))
        (pss_cons (ps_set (i := 6) sc.nd rfl (Or.inl rfl) (pe_kp G3 hr rfl (pa_cons (pv 0) pa_nil)))
        (pss_cons (ps_set (i := 7) sc.nd rfl (Or.inl rfl) (pe_kp G3 hr rfl (pa_cons (pv 0) pa_nil)))
        (pss_one (ps_expr (pe_bm PySem.F.plainAttrs_list PySem.F.slot_list_append PySem.F.type_list_append mt_append (pv 2) (pa_cons
          (pe_ifExp (pt_val (pv 5)) (pe_tup (pa_cons (pe_tup (pa_cons pe_int (pa_cons pe_int pa_nil))) (pa_cons (pe_tup (pa_cons pe_int (pa_cons pe_int pa_nil))) pa_nil)))
            (pe_tup (pa_cons (pv 6) (pa_cons (pv 7) pa_nil)))) pa_nil))))))))
      (pss_one (ps_ret (pe_tup (pa_cons (pe_kp G3 hr rfl (pa_cons (pv 0) pa_nil)) (pa_cons (pe_kp G4 hr1 rfl (pa_cons (pv 2) pa_nil)) pa_nil)))))), ?_⟩
    refine ⟨Nat.zero_le _, fun l hl => ?_⟩
    have hlp : l ≠ p := by
      obtain ⟨a, b, c, e⟩ := hw
      exact (ne_of_none e hl).symm
    have s0 := same_upd (o := .lst []) hl
    refine ⟨_, rfl, _, rfl, _, rfl, _, rfl, _, _, rfl, rfl, p, _, rfl, hw.same s0, by omega, by omega, fun d1 H1 d10 d11 k1 w1 => ?_⟩
    refine ⟨_, rfl, _, rfl, p, m, rfl, w1, m0, by omega, fun d2 H2 d20 d21 k2 w2 => ⟨_, _, rfl, rfl, (by show 3 ≤ sizeLine; decide), fun T1 hT1 => ?_⟩⟩
    have s3 := same_upd (o := .tup [.int m, .int d1, .int (1 + d2)]) hT1
    refine ⟨p, T1, _, rfl, w2.same s3, SqT.of upd_same, (by show 0 < 3; decide), (by show 3 < 1000; decide), fun v H3 hv k3 w3 => ?_⟩
    obtain ⟨n, rfl, hn⟩ : ∃ n : Nat, v = .int (n : Int) ∧ n ≤ 8 := by
      simp only [List.mem_cons, List.not_mem_nil, or_false] at hv
      rcases hv with rfl | rfl | rfl
      · exact ⟨m.toNat, by congr 1; omega, by omega⟩
      · exact ⟨d1.toNat, by congr 1; omega, by omega⟩
      · exact ⟨(1 + d2).toNat, by congr 1; omega, by omega⟩
    have kA : Keep p (upd H l (.lst [])) H3 := k1.trans (k2.trans ((Keep.of s3).trans k3))
    refine ⟨_, _, rfl, _, rfl, (n : Int), rfl, by omega, by omega, ?_⟩
    refine for_range (lo := 0) (n := (n : Int).toNat) (fun i σ H' => Keep p H H' ∧ Well H' p ∧ ∃ (c1 c2 c3 c4 : Option V) (xs : List V) (ps : List Cp), σ = [some (.ref p), some (.int m), some (.ref l), some (.int (n : Int)), c1, c2, c3, c4] ∧
        H' l = some (.lst xs) ∧ AllP K H' xs ps ∧ ps.length = i ∧ ∀ q ∈ ps, Bd 20 q.1 ∧ Bd 20 q.2) ?_ ?_ ?_
    · refine ⟨(Keep.of s0).trans kA, w3, none, none, none, none, [], [], rfl, kA _ _ hlp upd_same, AllP.nil, rfl, fun q hq => ?_⟩
      cases hq
    · rintro i σ H4 hi ⟨k4, w4, c1, c2, c3, c4, xs, ps, rfl, hL, hall, hlen, hbd⟩
      have lx := hall.1
      refine ⟨_, rfl, p, 4, rfl, w4, by decide, by decide, fun b H5 b0 b1 k5 w5 => ⟨rfl, ?_⟩⟩
      refine ⟨_, rfl, p, rfl, w5, fun v1 x1 H6 bd1 h1 k6 w6 => ?_⟩
      refine ⟨_, rfl, p, rfl, w6, fun v2 x2 H7 bd2 h2 k7 w7 => ?_⟩
      have k47 : Keep p H4 H7 := k5.trans (k6.trans k7)
      have hL7 := k47 _ _ hlp hL
      have t7 := w6.tk k7
      refine ⟨_, rfl, .inl ⟨rfl, _, SqL.of hL7⟩, _, rfl, _, rfl, ?_⟩
      -- what is appended
      have push : ∀ (v : V) (q : Cp) (H8 : Hp), Same H7 H8 → IsP K H8 v q → Bd 20 q.1 ∧ Bd 20 q.2 →
          rAppend (.ref l) [v] H8 (fun _ H1 => Keep p H H1 ∧ Well H1 p ∧ ∃ (c1 c2 c3 c4 : Option V) (xs : List V) (ps : List Cp), [some (.ref p), some (.int m), some (.ref l), some (.int (n : Int)), some (.int (0 + (i : Int))), some (.bl (decide (V.int b = V.int 0))), some v1, some v2] = [some (.ref p), some (.int m), some (.ref l), some (.int (n : Int)), c1, c2, c3, c4] ∧
            H1 l = some (.lst xs) ∧ AllP K H1 xs ps ∧ ps.length = i + 1 ∧ ∀ q ∈ ps, Bd 20 q.1 ∧ Bd 20 q.2) := by
        intro v q H8 s8 hq bq
        have hL8 := s8 _ _ hL7
        have tk : Tk H8 (upd H8 l (.lst (xs ++ [v]))) := Keep.tk (p := l) keep_upd hL8
        refine ⟨l, xs, v, rfl, rfl, hL8, small1000 (by omega), ?_, ?_, _, _, _, _, xs ++ [v], ps ++ [q], rfl, upd_same, ?_, ?_, ?_⟩
        · intro c o nc e
          rw [upd_ne (ne_of_none e hl)]
          exact s8 _ _ (k47 _ _ nc (k4 _ _ nc e))
        · obtain ⟨a1, a2, a3, e⟩ := w7.same s8
          exact ⟨a1, a2, a3, by rw [upd_ne hlp.symm]; exact e⟩
        · exact tk.all ((((w4.tk k47).trans (Tk.of s8)).all hall).push hq) |> fun z => z
        · rw [List.length_append, hlen]; rfl
        · intro r hr
          rcases List.mem_append.mp hr with hr | hr
          · exact hbd r hr
          · have e : r = q := by simpa using hr
            rw [e]; exact bq
      refine ite2 (fun _ => ?_) (fun _ => ?_)
      · refine ⟨(by show 2 ≤ sizeLine; decide), fun q1 h1' => ⟨(by show 2 ≤ sizeLine; decide), fun q2 h2' => ⟨(by show 2 ≤ sizeLine; decide), fun q3 h3' => ?_⟩⟩⟩
        have e1 := same_upd (o := .tup [.int 0, .int 1]) h1'
        have e2 := same_upd (o := .tup [.int 0, .int 1]) h2'
        have e3 := same_upd (o := .tup [.ref q1, .ref q2]) h3'
        exact push _ (0, 0) _ ((e1.trans e2).trans e3) ⟨q3, _, _, rfl, SqT.of upd_same, ⟨q1, rfl, SqT.of ((e2.trans e3) _ _ upd_same)⟩, ⟨q2, rfl, SqT.of (e3 _ _ upd_same)⟩⟩ ⟨⟨by decide, by decide⟩, ⟨by decide, by decide⟩⟩
      · refine ⟨_, rfl, _, rfl, (by show 2 ≤ sizeLine; decide), fun q1 h1' => ?_⟩
        have e1 := same_upd (o := .tup [v1, v2]) h1'
        exact push _ (x1, x2) _ e1 ⟨q1, v1, v2, rfl, SqT.of upd_same, (t7.trans (Tk.of e1)).r h1, (Tk.of e1).r h2⟩ ⟨bd1, bd2⟩
    · rintro σ H4 ⟨k4, w4, c1, c2, c3, c4, xs, ps, rfl, hL, hall, hlen, hbd⟩
      refine ⟨_, rfl, p, rfl, w4, fun v0 x0 H5 bd0 h0 k5 w5 => ?_⟩
      have t5 := w4.tk k5
      refine ⟨_, rfl, l, xs, ps, rfl, k5 _ _ hlp hL, t5.all hall, by omega, fun z mm H6 s6 hlast hz => ⟨(by show 2 ≤ sizeLine; decide), fun t ht => ?_⟩⟩
      have s7 := same_upd (o := .tup [v0, z]) ht
      refine k _ ⟨x0, ps.take mm⟩ _ ⟨?_, bd0, ?_, hlast⟩ ⟨t, v0, z, rfl, SqT.of upd_same, (Tk.of (s6.trans s7)).r h0, (Tk.of s7).prs hz⟩ (k4.trans (k5.trans (Keep.of (s6.trans s7)))) (w5.same (s6.trans s7))
      · show (ps.take mm).length ≤ 8
        rw [List.length_take]; omega
      · exact fun q hq => hbd q (List.mem_of_mem_take hq)
end
end Kw
set_option maxHeartbeats 4000000
/-! KwP: the well. -/
namespace Kw
open PySem PySem.Spec PyProof.Rows L2
theorem cut_ints (ns : List Int) (lo hi : Option Int) : ∃ ms : List Int, cutV (ns.map V.int) lo hi = ms.map V.int ∧ ms.length ≤ ns.length := by
  refine ⟨(ns.drop (HT.sIx (ns.map V.int).length 0 lo)).take (HT.sIx (ns.map V.int).length (ns.map V.int).length hi - HT.sIx (ns.map V.int).length 0 lo), ?_, ?_⟩
  · unfold cutV
    rw [List.map_take, List.map_drop]
  · rw [List.length_take, List.length_drop]; omega
/-- a rule whose reading is made weaker -/
theorem pe_imp {X : Cx} {e : Expr} {t t' : TE} (h : PE X e t) (hi : ∀ σ H Q, t' σ H Q → t σ H Q) : PE X e t' := ⟨fun pins s σ H Q I q => h.run pins s σ H Q I (hi σ H Q q)⟩
section
variable {P : Program} {w : World} {K : PySem.W.Frag} {mg : Str → Option Value} {base : Heap}
def tOwn (K : PySem.W.Frag) (a : Addr) (ns : List Int) (lap : Int) : TE := fun σ H Q => σ = [some (.ref a), some (.int lap), none, none, none] ∧ SqL K H a (ns.map V.int) ∧ ∀ (own : Int) H1, Same H H1 → Q (.int own) H1
def tBig : TE := fun σ H Q => (∃ own : Int, σ[2]? = some (some (.int own))) ∧ ∀ n : Int, Q (.int n) H
def spWell (K : PySem.W.Frag) : Sp := fun vs H Q _ => ∃ (a : Addr) (ns : List Int) (lap : Int), vs = [.ref a, .int lap] ∧ SqL K H a (ns.map V.int) ∧ ns.length ≤ 63 ∧ 0 ≤ lap ∧ ∀ p H', H p = none → Same H H' → Well H' p → Q (.ref p) H'
theorem kp_well (T : Txt K mg) (F : Fd K mg "_law_well" (top 39) ["_law_script", "_law_lap"]) : Kp P w K mg base "_law_well" 1 ["_law_script", "_law_lap"] (spWell K) := F.kp fun f fd F => by
  have sc : FnScope ["_law_script", "_law_lap", "_law_own", "_law_stir", "_law_each"] ["_law_script", "_law_lap"] (defScope (top 39)) := ⟨rfl, rfl, rfl, by decide +kernel, rfl, by decide +kernel, by decide +kernel⟩
  refine F.ok sc (fun vs H Q E h => ?_) (fun cdv A outer s H vs Q E hr h => ?_)
  · obtain ⟨a, ns, lap, rfl, _⟩ := h
    rfl
  · obtain ⟨a, ns, lap, rfl, hS, h63, l0, k⟩ := h
    refine ⟨_, pss_cons (ps_set (i := 2) sc.nd rfl (Or.inl rfl) (pe_imp (t' := tOwn K a ns lap) (pe_ifExp (pt_cmpR op_lt (pv 1) (pe_callB call_len_seq (by rfl) T.len PySem.boot_len (pa_cons (pv 0) pa_nil)) (nomark _))
          (pe_callTy call_int1 (by rfl) T.int PyProof.Rows.boot_int (pa_cons (pe_ix ix_list (pv 0) (pv 1) (fun _ _ => rfl)) pa_nil))
          (pe_op op_add (pe_op op_add (pe_op op_mul pe_int (pv 1)) pe_int) (pe_op op_mod (pe_callTy call_int1 (by rfl) T.int PyProof.Rows.boot_int (pa_cons
            (pe_callB (cr_sum rfl) (by rfl) T.sum PyProof.Rows.boot_sum (pa_cons (pe_slice sl_list (pv 0) po_none (po_some pe_int)) pa_nil)) pa_nil)) pe_int))) ?own))
      (pss_cons (ps_set (i := 3) sc.nd rfl (Or.inl rfl) (pe_op op_add pe_int (pe_op op_mul pe_int (pv 1))))
      (pss_cons (ps_for PassesOwn.never rfl (pi_list (pe_op op_cat (pe_slice sl_list (pv 0) po_none (po_some pe_int)) (pe_lst (pa_cons (pv 2) pa_nil)))) (pg_name (i := 4) sc.nd rfl (Or.inl rfl))
        (pss_one (ps_set (i := 3) sc.nd rfl (Or.inl rfl) (pe_op op_mod (pe_callTy call_int1 (by rfl) T.int PyProof.Rows.boot_int (pa_cons
          (pe_op op_add (pe_op op_add (pe_op op_mul (pv 3) pe_int) (pe_op op_mod (pe_callTy call_int1 (by rfl) T.int PyProof.Rows.boot_int (pa_cons (pv 4) pa_nil)) pe_int)) pe_int) pa_nil)) pe_int))))
      (pss_one (ps_ret (pe_lst (pa_cons (pe_imp (t' := tBig) (pe_ifExp (PW.pt (pw_or (pt_cmpR op_lt (pv 2) pe_int (nomark _)) (pw_or1 (pt_cmpR op_ge (pv 2) (pe_op op_pow pe_int pe_int) (nomark _)))))
          (pe_callB call_abs (by rfl) T.abs PyProof.Rows.boot_abs (pa_cons (pv 2) pa_nil)) pe_int) ?big) (pa_cons (pv 3) (pa_cons pe_int pa_nil)))))))), ?_⟩
    case own =>
      rintro σ H1 Q1 ⟨rfl, hS1, q⟩
      refine ⟨_, rfl, _, rfl, a, _, rfl, .inl hS1, _, _, rfl, rfl, _, rfl, ite2 (fun hc => ?_) (fun hc => ?_)⟩
      · have hlt : lap < ((ns.map V.int).length : Nat) := of_decide_eq_true hc
        rw [List.length_map] at hlt
        obtain ⟨j, rfl⟩ : ∃ j : Nat, lap = (j : Int) := ⟨lap.toNat, by omega⟩
        have hj : j < ns.length := by omega
        have hat : atI (ns.map V.int) (j : Int) = some (V.int ns[j]) := atI_nat (by rw [List.getElem?_map, List.getElem?_eq_getElem hj]; rfl)
        exact ⟨_, rfl, _, rfl, a, _, _, _, rfl, rfl, hS1, hat, .inl ⟨_, rfl, q _ _ (Same.refl _)⟩⟩
      · obtain ⟨ms, e, _⟩ := cut_ints ns none (some 5)
        refine ⟨_, rfl, _, _, rfl, rfl, .inl ⟨by decide, by decide⟩, _, _, rfl, rfl, _, rfl, _, rfl, a, _, rfl, hS1, fun q1 h1 => ?_⟩
        exact ⟨q1, ms, rfl, SqL.of (by rw [upd_same, e]), .inl ⟨_, rfl, _, _, rfl, rfl, (by show (0 : Int) < 999907; decide), _, _, rfl, rfl, q _ _ (same_upd h1)⟩⟩
    case big =>
      rintro σ H1 Q1 ⟨⟨own, h2⟩, q⟩
      refine ⟨_, h2, _, _, rfl, rfl, _, rfl, ite2 (fun _ => ?_) (fun _ => ?_)⟩
      · exact iteT ⟨_, h2, _, rfl, q _⟩
      · refine ⟨_, h2, _, _, rfl, rfl, ⟨by decide, by decide, by decide⟩, _, _, rfl, rfl, _, rfl, ite2 (fun _ => ?_) (fun _ => ?_)⟩
        · exact ⟨_, h2, _, rfl, q _⟩
        · exact q _
    refine ⟨rfl, hS, fun own H1 s1 => ?_⟩
    have hS1 := s1.seq hS
    obtain ⟨ms, e, hms⟩ := cut_ints ns none (some 12)
    refine ⟨_, rfl, _, _, rfl, rfl, .inl ⟨by decide, by decide⟩, _, _, rfl, rfl, ?_⟩
    refine ⟨_, rfl, _, rfl, a, _, rfl, hS1, fun q1 h1 => ⟨_, rfl, (by show 1 ≤ sizeLine; decide), fun q2 h2 => ?_⟩⟩
    have e1 := same_upd (o := .lst (cutV (ns.map V.int) none (some 12))) h1
    have e2 := same_upd (o := .lst [.int own]) h2
    refine ⟨q1, q2, _, _, rfl, rfl, e2 _ _ upd_same, upd_same, ?_, fun q3 h3 => ?_⟩
    · rw [e, List.length_map]
      exact Nat.le_of_lt (small1000 (by simp; omega))
    have e3 := same_upd (o := .lst (cutV (ns.map V.int) none (some 12) ++ [.int own])) h3
    have e123 := (e1.trans e2).trans e3
    refine ⟨q3, rfl, ⟨_, SqL.of upd_same⟩, for_list (K := K) (a := q3) (xs := cutV (ns.map V.int) none (some 12) ++ [.int own]) (fun i σ H' => Same H H' ∧ H' q3 = some (.lst (cutV (ns.map V.int) none (some 12) ++ [.int own])) ∧
      ∃ (st : Int) (c : Option V), σ = [some (.ref a), some (.int lap), some (.int own), some (.int st), c]) ⟨s1.trans e123, upd_same, _, _, rfl⟩ (fun i σ H' _ z => SqL.of z.2.1) ?_ ?_⟩
    · rintro i x σ H' hx ⟨z, hq3, st, c, rfl⟩
      obtain ⟨each, rfl⟩ : ∃ each : Int, x = .int each := by
        have hm := List.mem_of_getElem? hx
        rw [e] at hm
        rcases List.mem_append.mp hm with hm | hm
        · obtain ⟨y, _, rfl⟩ := List.mem_map.mp hm
          exact ⟨y, rfl⟩
        · exact ⟨own, by simpa using hm⟩
      refine ⟨_, rfl, _, _, rfl, rfl, .inr ⟨by decide, by decide⟩, _, rfl, .inl ⟨_, rfl, _, _, rfl, rfl, (by show (0 : Int) < 2147483423; decide), _, _, rfl, rfl, _, _, rfl, rfl, .inl ⟨_, rfl, _, _, rfl, rfl, (by show (0 : Int) < 2147483423; decide), ?_⟩⟩⟩
      exact ⟨z, hq3, _, _, rfl⟩
    · rintro σ H' ⟨z, _, st, c, rfl⟩
      refine ⟨⟨own, rfl⟩, fun n => ⟨_, rfl, (by show 3 ≤ sizeLine; decide), fun p hp => ?_⟩⟩
      exact k p _ (z.free hp) (z.trans (same_upd hp)) ⟨_, _, _, upd_same⟩
end
end Kw
set_option maxHeartbeats 4000000
/-! KwQ: the law's own turned wave. -/
namespace Kw
open PySem PySem.Spec PyProof.Rows L2
section
variable {P : Program} {w : World} {K : PySem.W.Frag} {mg : Str → Option Value} {base : Heap}
/-- a reduced fraction and one that need not be -/
structure RQ (K : PySem.W.Frag) (H : Hp) (u v : V) (x : Rat) (n d : Int) : Prop where
  u : IsR K H u x
  v : IsI2 K H v n d
  pos : 0 < d
  fit : ∃ a b : Nat, Bd a x ∧ Fit b n ∧ Fit b d ∧ a + b ≤ 9000
def spRQ (K : PySem.W.Frag) (f : Rat → Rat → Rat) : Sp := fun vs H Q _ => ∃ (u v : V) (x : Rat) (n d : Int), vs = [u, v] ∧ RQ K H u v x n d ∧ ∀ z H', Same H H' → IsR K H' z (f x ((n : Rat) / (d : Rat))) → Q z H'
theorem rq_of {x : Str} {k : Nat} {ps : List Str} {f : Rat → Rat → Rat} (G : Kp P w K mg base x k ps (spTwo K f)) : Kp P w K mg base x k ps (spRQ K f) := G.imp fun vs H Q E h => by
  obtain ⟨u, v, x, n, d, rfl, ⟨hu, hv, p, a, b, b1, b2, b3, l⟩, k⟩ := h
  refine ⟨u, v, _, _, _, _, rfl, ⟨hu, hv, den_pos x, p, a, b, b1.num, b1.den, b2, b3, l⟩, fun z H' s h => k z H' s ?_⟩
  rw [fr_eq] at h
  exact h
def spMoved (K : PySem.W.Frag) : Sp := fun vs H Q _ => ∃ (u v : V) (x : Wv) (o : Pt), vs = [u, v] ∧ IsW K H u x ∧ WOk 20 x ∧ IsT3 K H v o ∧ PtOk 26 o ∧ ∀ z H', Same H H' → IsW K H' z (turnBy x (tq o)) → Q z H'
theorem kp_moved_on (T : Txt K mg) (GA : Kp P w K mg base "_law_add" 3 ["_law_one", "_law_two"] (spRR K (· + ·))) (GM : Kp P w K mg base "_law_mul" 3 ["_law_one", "_law_two"] (spRQ K (· * ·))) (F : Fd K mg "_law_moved_on" (top 57) ["_law_some", "_law_point_here"]) :
    Kp P w K mg base "_law_moved_on" 4 ["_law_some", "_law_point_here"] (spMoved K) := F.kp fun f fd F => by
  have sc : FnScope ["_law_some", "_law_point_here", "_law_c", "_law_s", "_law_r", "_law_x", "_law_y", "_law_by", "_law_pairs", "_law_p", "_law_q", "_law_one", "_law_two"] ["_law_some", "_law_point_here"] (defScope (top 57)) := ⟨rfl, rfl, rfl, by decide +kernel, rfl, by decide +kernel, by decide +kernel⟩
  refine F.ok sc (fun vs H Q E h => ?_) (fun cdv A outer s H vs Q E hr h => ?_)
  · obtain ⟨u, v, x, o, rfl, _⟩ := h
    rfl
  · obtain ⟨_, _, x, o, rfl, ⟨a, u, _, rfl, hS, hu, b, zs, rfl, hB, hall⟩, wok, ⟨pt, rfl, hP⟩, ho, k⟩ := h
    have ln := hall.1
    have l8 := wok.len
    obtain ⟨f1, f2, f3⟩ := pt_fit ho
    refine ⟨_, pss_cons (ps_asg (pv 1) (pg_tup rfl (pgs_cons (pg_name (i := 2) sc.nd rfl (Or.inl rfl)) (pgs_cons (pg_name (i := 3) sc.nd rfl (Or.inl rfl)) (pgs_cons (pg_name (i := 4) sc.nd rfl (Or.inl rfl)) pgs_nil)))))
      (pss_cons (ps_asg (pe_tup (pa_cons pe_int (pa_cons pe_int (pa_cons pe_int (pa_cons (pe_lst pa_nil) pa_nil)))))
        (pg_tup rfl (pgs_cons (pg_name (i := 5) sc.nd rfl (Or.inl rfl)) (pgs_cons (pg_name (i := 6) sc.nd rfl (Or.inl rfl)) (pgs_cons (pg_name (i := 7) sc.nd rfl (Or.inl rfl)) (pgs_cons (pg_name (i := 8) sc.nd rfl (Or.inl rfl)) pgs_nil))))))
      (pss_cons (ps_for PassesOwn.never rfl (pi_tup (pe_ix ix_tup (pv 0) pe_int (fun _ _ => rfl))) (pg_tup rfl (pgs_cons (pg_name (i := 9) sc.nd rfl (Or.inl rfl)) (pgs_cons (pg_name (i := 10) sc.nd rfl (Or.inl rfl)) pgs_nil)))
        (pss_cons (ps_par3 (i := 5) (j := 6) (l := 7) rfl sc.nd rfl rfl rfl (by decide) (by decide) (by decide) rfl rfl rfl
          (pa_cons (pe_op op_sub (pe_op op_mulW (pv 5) (pv 2)) (pe_op op_mulW (pv 6) (pv 3))) (pa_cons (pe_op op_add (pe_op op_mulW (pv 5) (pv 3)) (pe_op op_mulW (pv 6) (pv 2))) (pa_cons (pe_op op_mulW (pv 7) (pv 4)) pa_nil))) (by rfl))
        (pss_cons (ps_set (i := 11) sc.nd rfl (Or.inl rfl) (pe_kp GA hr rfl (pa_cons (pe_kp GM hr rfl (pa_cons (pv 9) (pa_cons (pe_tup (pa_cons (pv 5) (pa_cons (pv 7) pa_nil))) pa_nil))) (pa_cons (pe_kp GM hr rfl (pa_cons (pv 10) (pa_cons (pe_tup (pa_cons (pv 6) (pa_cons (pv 7) pa_nil))) pa_nil))) pa_nil))))
        (pss_cons (ps_set (i := 12) sc.nd rfl (Or.inl rfl) (pe_kp GA hr rfl (pa_cons (pe_kp GM hr rfl (pa_cons (pv 10) (pa_cons (pe_tup (pa_cons (pv 5) (pa_cons (pv 7) pa_nil))) pa_nil))) (pa_cons (pe_kp GM hr rfl (pa_cons (pv 9) (pa_cons (pe_tup (pa_cons (pe_op op_sub pe_int (pv 6)) (pa_cons (pv 7) pa_nil))) pa_nil))) pa_nil))))
        (pss_one (ps_expr (pe_bm PySem.F.plainAttrs_list PySem.F.slot_list_append PySem.F.type_list_append mt_append (pv 8) (pa_cons (pe_tup (pa_cons (pv 11) (pa_cons (pv 12) pa_nil))) pa_nil))))))))
      (pss_one (ps_ret (pe_tup (pa_cons (pe_ix ix_tup (pv 0) pe_int (fun _ _ => rfl)) (pa_cons (pe_callTy call_tuple_of (by rfl) T.tuple PyProof.Rows.boot_tuple (pa_cons (pv 8) pa_nil)) pa_nil))))))), ?_⟩
    refine ⟨_, rfl, pt, _, rfl, hP, rfl, _, _, rfl, _, _, rfl, _, _, rfl, rfl, Nat.zero_le _, fun l hl => ⟨(by show 4 ≤ sizeLine; decide), fun t4 ht4 => ?_⟩⟩
    have e1 := same_upd (o := .lst []) hl
    have e2 := same_upd (o := .tup [.int 1, .int 0, .int 1, .ref l]) ht4
    have e12 := e1.trans e2
    refine ⟨t4, _, rfl, SqT.of upd_same, rfl, _, _, rfl, _, _, rfl, _, _, rfl, _, _, rfl, rfl, ?_⟩
    refine ⟨_, rfl, a, _, _, .ref b, rfl, rfl, (Tk.of e12).t hS, rfl, b, rfl, ⟨_, (Tk.of e12).t hB⟩, for_tup (K := K) (a := b) (xs := zs) (fun i σ H' => Same H H' ∧ i ≤ zs.length ∧ ∃ (c1 c2 c3 c4 : Option V) (xs : List V),
      σ = [some (.ref a), some (.ref pt), some (.int o.c), some (.int o.s), some (.int o.r), some (.int (ipw o i).1), some (.int (ipw o i).2.1), some (.int (ipw o i).2.2), some (.ref l), c1, c2, c3, c4] ∧
      H' l = some (.lst xs) ∧ AllP K H' xs ((turnBy x (tq o)).ps.take i)) ?_ ?_ ?_ ?_⟩
    · refine ⟨e12, Nat.zero_le _, none, none, none, none, [], rfl, e2 _ _ upd_same, ?_⟩
      rw [List.take_zero]; exact AllP.nil
    · exact fun i σ H' _ z => (Tk.of z.1).t hB
    · rintro i y σ H1 hi ⟨s1, hle, c1, c2, c3, c4, xs, rfl, hL, hxs⟩
      have t1 := Tk.of s1
      obtain ⟨p, hp, hpp⟩ := hall.get hi
      obtain ⟨bp1, bp2⟩ := wok.ps p (List.mem_of_getElem? hp)
      obtain ⟨g1, g2, g3⟩ := ipw_bd ho i
      obtain ⟨h1, h2, h3⟩ := ipw_bd ho (i + 1)
      have hi8 : i < 8 := by
        have := (List.getElem?_eq_some_iff.mp hi).1
        omega
      have hb : 26 * i + 1 ≤ 209 := by omega
      have hb' : 26 * (i + 1) + 1 ≤ 209 := by omega
      have pos := ipw_pos ho (i + 1)
      obtain ⟨A1, u1, u2, rfl, hA1, hu1, hu2⟩ := t1.pr hpp
      refine ⟨A1, _, rfl, hA1, rfl, _, _, rfl, _, _, rfl, rfl, ?_⟩
      refine ⟨_, rfl, _, rfl, _, _, rfl, rfl, cmul_ok g1 f1 (by omega), _, rfl, _, rfl, _, _, rfl, rfl, cmul_ok g2 f2 (by omega), _, _, rfl, rfl,
        _, rfl, _, rfl, _, _, rfl, rfl, cmul_ok g1 f2 (by omega), _, rfl, _, rfl, _, _, rfl, rfl, cmul_ok g2 f1 (by omega), _, _, rfl, rfl,
        _, rfl, _, rfl, _, _, rfl, rfl, cmul_ok g3 f3 (by omega), _, _, _, rfl, ?_⟩
      have fx : Fit 209 (ipw o (i + 1)).1 := up_lt h1 hb'
      have fy : Fit 209 (ipw o (i + 1)).2.1 := up_lt h2 hb'
      have fb : Fit 209 (ipw o (i + 1)).2.2 := up_lt h3 hb'
      have f0y : Fit 210 (0 - (ipw o (i + 1)).2.1) := Fit.sub (a := 209) (by show (0 : Nat) < 2 ^ 209; exact Nat.two_pow_pos _) fy
      -- one
      refine ⟨_, rfl, _, rfl, _, rfl, (by show 2 ≤ sizeLine; decide), fun q1 hq1 => ?_⟩
      have m1 := same_upd (o := .tup [.int (ipw o (i + 1)).1, .int (ipw o (i + 1)).2.2]) hq1
      refine ⟨u1, .ref q1, p.1, (ipw o (i + 1)).1, (ipw o (i + 1)).2.2, rfl, ⟨(Tk.of m1).r hu1, ⟨q1, rfl, SqT.of upd_same⟩, pos, 20, 209, bp1, fx, fb, by decide⟩, fun v1 H2 s2 r1 => ?_⟩
      have a2 := m1.trans s2
      refine ⟨_, rfl, _, rfl, _, rfl, (by show 2 ≤ sizeLine; decide), fun q2 hq2 => ?_⟩
      have m2 := same_upd (o := .tup [.int (ipw o (i + 1)).2.1, .int (ipw o (i + 1)).2.2]) hq2
      refine ⟨u2, .ref q2, p.2, (ipw o (i + 1)).2.1, (ipw o (i + 1)).2.2, rfl, ⟨(Tk.of (a2.trans m2)).r hu2, ⟨q2, rfl, SqT.of upd_same⟩, pos, 20, 209, bp2, fy, fb, by decide⟩, fun v2 H3 s3 r2 => ?_⟩
      have a3 := (a2.trans m2).trans s3
      have bx := bd_quo pos fx fb
      have bY := bd_quo pos fy fb
      have bZ := bd_quo pos f0y (fb.up (by decide))
      refine ⟨v1, v2, _, _, rfl, ⟨(Tk.of (m2.trans s3)).r r1, r2, _, _, bp1.mul bx, bp2.mul bY, by decide⟩, fun v3 H4 s4 r3 => ?_⟩
      have a4 := a3.trans s4
      -- two
      refine ⟨_, rfl, _, rfl, _, rfl, (by show 2 ≤ sizeLine; decide), fun q3 hq3 => ?_⟩
      have m3 := same_upd (o := .tup [.int (ipw o (i + 1)).1, .int (ipw o (i + 1)).2.2]) hq3
      refine ⟨u2, .ref q3, p.2, (ipw o (i + 1)).1, (ipw o (i + 1)).2.2, rfl, ⟨(Tk.of (a4.trans m3)).r hu2, ⟨q3, rfl, SqT.of upd_same⟩, pos, 20, 209, bp2, fx, fb, by decide⟩, fun v4 H5 s5 r4 => ?_⟩
      have a5 := (a4.trans m3).trans s5
      refine ⟨_, rfl, _, rfl, _, _, rfl, rfl, _, rfl, (by show 2 ≤ sizeLine; decide), fun q4 hq4 => ?_⟩
      have m4 := same_upd (o := .tup [.int (0 - (ipw o (i + 1)).2.1), .int (ipw o (i + 1)).2.2]) hq4
      refine ⟨u1, .ref q4, p.1, 0 - (ipw o (i + 1)).2.1, (ipw o (i + 1)).2.2, rfl, ⟨(Tk.of (a5.trans m4)).r hu1, ⟨q4, rfl, SqT.of upd_same⟩, pos, 20, 210, bp1, f0y, fb.up (by decide), by decide⟩, fun v5 H6 s6 r5 => ?_⟩
      have a6 := (a5.trans m4).trans s6
      refine ⟨v4, v5, _, _, rfl, ⟨(Tk.of (m4.trans s6)).r r4, r5, _, _, bp2.mul bx, bp1.mul bZ, by decide⟩, fun v6 H7 s7 r6 => ?_⟩
      have a7 := a6.trans s7
      -- pairs.append((one, two))
      have hL7 := a7 _ _ hL
      refine ⟨_, rfl, .inl ⟨rfl, _, SqL.of hL7⟩, _, rfl, _, rfl, (by show 2 ≤ sizeLine; decide), fun q5 hq5 => ?_⟩
      have m5 := same_upd (o := .tup [v3, v6]) hq5
      have a8 := a7.trans m5
      have hL8 := m5 _ _ hL7
      have lx := hxs.1
      rw [List.length_take] at lx
      have tk := Keep.tk (p := l) (keep_upd (o := .lst (xs ++ [.ref q5]))) hL8
      refine ⟨l, xs, _, rfl, rfl, hL8, small1000 (by omega), ?_, ?_, _, _, _, _, _, rfl, upd_same, ?_⟩
      · intro c ob e
        rw [upd_ne (ne_of_none e hl)]
        exact a8 _ _ (s1 _ _ e)
      · exact (List.getElem?_eq_some_iff.mp hi).1
      · rw [List.take_add_one, turn_get hp]
        refine (tk.all ((Tk.of a8).all hxs)).push (tk.pr ?_)
        have hz := ipw_pw ho (i + 1)
        have z1 : (tp p (pw (tq o) (i + 1))).1 = p.1 * (((ipw o (i + 1)).1 : Rat) / ((ipw o (i + 1)).2.2 : Rat)) + p.2 * (((ipw o (i + 1)).2.1 : Rat) / ((ipw o (i + 1)).2.2 : Rat)) := by
          rw [hz]; rfl
        have z2 : (tp p (pw (tq o) (i + 1))).2 = p.2 * (((ipw o (i + 1)).1 : Rat) / ((ipw o (i + 1)).2.2 : Rat)) + p.1 * (((0 - (ipw o (i + 1)).2.1 : Int) : Rat) / ((ipw o (i + 1)).2.2 : Rat)) := by
          rw [hz]
          have hne := cast_ne pos
          simp only [tp, Rat.intCast_sub]
          grind
        refine ⟨q5, v3, v6, rfl, SqT.of upd_same, ?_, ?_⟩
        · rw [z1]; exact (Tk.of ((((m3.trans s5).trans m4).trans s6).trans (s7.trans m5))).r r3
        · rw [z2]; exact (Tk.of m5).r r6
    · rintro σ H1 ⟨s1, _, c1, c2, c3, c4, xs, rfl, hL, hxs⟩
      have t1 := Tk.of s1
      refine ⟨_, rfl, a, _, _, u, rfl, rfl, t1.t hS, rfl, _, rfl, l, xs, rfl, .inl ⟨SqL.of hL, fun q hq => ⟨(by show 2 ≤ sizeLine; decide), fun r hr' => ?_⟩⟩⟩
      have m1 := same_upd (o := .tup xs) hq
      have m2 := same_upd (o := .tup [u, .ref q]) hr'
      rw [List.take_of_length_le (by rw [turn_len]; omega)] at hxs
      exact k _ _ (s1.trans (m1.trans m2)) ⟨r, u, .ref q, rfl, SqT.of upd_same, (t1.trans (Tk.of (m1.trans m2))).r hu, q, xs, rfl, SqT.of (m2 _ _ upd_same), (Tk.of (m1.trans m2)).all hxs⟩
end
end Kw
set_option maxHeartbeats 4000000
set_option exponentiation.threshold 2000
/-! KwR: the law's own worth. -/
namespace Kw
open PySem PySem.Spec PyProof.Rows L2

/-! ### a wave's fractions in a row -/
def flat (k0 : Rat) (ps : List Cp) : List Rat := k0 :: ps.flatMap fun p => [p.1, p.2]
theorem flat_len (k0 : Rat) (ps : List Cp) : (flat k0 ps).length = 2 * ps.length + 1 := by
  unfold flat
  rw [List.length_cons]
  congr 1
  induction ps with
  | nil => rfl
  | cons p ps ih =>
    rw [List.flatMap_cons, List.length_append, ih]
    simp only [List.length_cons, List.length_nil]
    omega
theorem flat_push (k0 : Rat) (ps : List Cp) (p : Cp) : flat k0 (ps ++ [p]) = flat k0 ps ++ [p.1, p.2] := by
  unfold flat
  rw [List.flatMap_append]; rfl
theorem fm_get : ∀ (ps : List Cp) (j : Nat) (p : Cp), ps[j]? = some p → (ps.flatMap fun p => [p.1, p.2])[2 * j]? = some p.1 ∧ (ps.flatMap fun p => [p.1, p.2])[2 * j + 1]? = some p.2
  | [], _, _, h => by simp at h
  | q :: ps, 0, p, h => by
    cases h
    exact ⟨rfl, rfl⟩
  | q :: ps, j + 1, p, h => by
    have := fm_get ps j p (by simpa using h)
    exact this
theorem flat_get {k0 : Rat} {ps : List Cp} {j : Nat} {p : Cp} (h : ps[j]? = some p) : (flat k0 ps)[2 * j + 1]? = some p.1 ∧ (flat k0 ps)[2 * j + 2]? = some p.2 := fm_get ps j p h
theorem flat_mem {k0 : Rat} {ps : List Cp} {b : Nat} (h0 : Bd b k0) (h : ∀ p ∈ ps, Bd b p.1 ∧ Bd b p.2) : ∀ x ∈ flat k0 ps, Bd b x := by
  intro x hx
  rcases List.mem_cons.mp hx with rfl | hx
  · exact h0
  · obtain ⟨p, hp, hq⟩ := List.mem_flatMap.mp hx
    have hq' : x = p.1 ∨ x = p.2 := by simpa using hq
    rcases hq' with rfl | rfl
    · exact (h p hp).1
    · exact (h p hp).2
/-- a common multiple of denominators, a whole number for each fraction -/
structure NumsOk (rs : List Rat) (ns : List Int) (U : Int) : Prop where
  pos : 0 < U
  fit : Fit 341 U
  len : ns.length = rs.length
  val : ∀ (i : Nat) (x : Rat) (n : Int), rs[i]? = some x → ns[i]? = some n → (n : Rat) = x * (U : Rat)
  small : ∀ n ∈ ns, Fit 361 n
theorem num_val {x : Rat} {U : Nat} (h : x.den ∣ U) : ((x.num * ((U : Int) / (x.den : Int)) : Int) : Rat) = x * ((U : Int) : Rat) := by
  obtain ⟨e, rfl⟩ := h
  have hd := x.den_pos
  have hq : (((x.den * e : Nat) : Int)) / (x.den : Int) = (e : Int) := by
    rw [Int.natCast_mul]
    exact Int.mul_ediv_cancel_left _ (by omega)
  have hx := fr_eq x
  have hne := den_ne x
  rw [hq, Int.natCast_mul, Rat.intCast_mul, Rat.intCast_mul]
  grind
theorem lcm_nat (U d : Nat) : (U : Int) * ((d : Int) / ((Nat.gcd ((U : Int)).natAbs ((d : Int)).natAbs : Nat) : Int)) = ((Nat.lcm U d : Nat) : Int) := by
  rw [Int.natAbs_natCast, Int.natAbs_natCast, ← Int.natCast_ediv, ← Int.natCast_mul]
  congr 1
  unfold Nat.lcm
  rw [Nat.mul_div_assoc _ (Nat.gcd_dvd_right U d)]
theorem lcm_lt {U d a b : Nat} (h1 : U < 2 ^ a) (h2 : d < 2 ^ b) : Nat.lcm U d < 2 ^ (a + b) := by
  refine Nat.lt_of_le_of_lt ?_ (by rw [Nat.pow_add]; exact Nat.mul_lt_mul'' h1 h2)
  exact Nat.div_le_self _ _
theorem lcm_pos {U d : Nat} (h1 : 0 < U) (h2 : 0 < d) : 0 < Nat.lcm U d := Nat.pos_of_ne_zero (Nat.lcm_ne_zero (by omega) (by omega))

section
variable {P : Program} {w : World} {K : PySem.W.Frag} {mg : Str → Option Value} {base : Heap} {H H' : Hp} {xs : List V} {rs : List Rat} {v : V} {x y : Rat}
def AllR (K : PySem.W.Frag) (H : Hp) (xs : List V) (rs : List Rat) : Prop := xs.length = rs.length ∧ ∀ (i : Nat) (v : V) (x : Rat), xs[i]? = some v → rs[i]? = some x → IsR K H v x
theorem Tk.rr (k : Tk H H') (h : AllR K H xs rs) : AllR K H' xs rs := ⟨h.1, fun i v x e1 e2 => k.r (h.2 i v x e1 e2)⟩
theorem AllR.nil : AllR K H [] [] := ⟨rfl, fun i v x e _ => by simp at e⟩
theorem AllR.push (h : AllR K H xs rs) (hv : IsR K H v x) : AllR K H (xs ++ [v]) (rs ++ [x]) := by
  refine ⟨by rw [List.length_append, List.length_append, h.1]; rfl, fun i u q e1 e2 => ?_⟩
  by_cases hi : i < xs.length
  · rw [List.getElem?_append_left hi] at e1
    rw [List.getElem?_append_left (by rw [← h.1]; exact hi)] at e2
    exact h.2 i u q e1 e2
  · rw [List.getElem?_append_right (by omega)] at e1
    rw [List.getElem?_append_right (by rw [← h.1]; omega)] at e2
    have hi0 : i - xs.length = 0 := by
      have := (List.getElem?_eq_some_iff.mp e1).1
      simp at this; omega
    rw [hi0] at e1
    rw [← h.1, hi0] at e2
    cases e1
    cases e2
    exact hv
theorem AllR.get (h : AllR K H xs rs) {i : Nat} (e : xs[i]? = some v) : ∃ q, rs[i]? = some q ∧ IsR K H v q := by
  have hi : i < rs.length := by rw [← h.1]; exact (List.getElem?_eq_some_iff.mp e).1
  exact ⟨rs[i], List.getElem?_eq_getElem hi, h.2 i v _ e (List.getElem?_eq_getElem hi)⟩
def spNums (K : PySem.W.Frag) : Sp := fun vs H Q _ => ∃ (u : V) (x : Wv), vs = [u] ∧ IsW K H u x ∧ WOk 20 x ∧ ∀ (t l : Addr) (ns : List Int) (U : Int) H', Same H H' → SqT K H' t [.ref l, .int U] → H' l = some (.lst (ns.map V.int)) → NumsOk (flat x.k0 x.ps) ns U → Q (.ref t) H'
theorem kp_nums (G : Kp P w K mg base "_law_common" 1 ["_law_one", "_law_two"] spCommon) (F : Fd K mg "_law_nums" (top 51) ["_law_wave_here"]) : Kp P w K mg base "_law_nums" 2 ["_law_wave_here"] (spNums K) := F.kp fun f fd F => by
  have sc : FnScope ["_law_wave_here", "_law_flat", "_law_pair", "_law_under", "_law_each"] ["_law_wave_here"] (defScope (top 51)) := ⟨rfl, rfl, rfl, by decide +kernel, rfl, by decide +kernel, by decide +kernel⟩
  refine F.ok sc (fun vs H Q E h => ?_) (fun cdv A outer s H vs Q E hr h => ?_)
  · obtain ⟨u, x, rfl, _⟩ := h
    rfl
  · obtain ⟨_, x, rfl, ⟨a, u, _, rfl, hS, hu, b, zs, rfl, hB, hall⟩, wok, k⟩ := h
    have ln := hall.1
    have l8 := wok.len
    refine ⟨_, pss_cons (ps_set (i := 1) sc.nd rfl (Or.inl rfl) (pe_lst (pa_cons (pe_ix ix_tup (pv 0) pe_int (fun _ _ => rfl)) pa_nil)))
      (pss_cons (ps_for PassesOwn.never rfl (pi_tup (pe_ix ix_tup (pv 0) pe_int (fun _ _ => rfl))) (pg_name (i := 2) sc.nd rfl (Or.inl rfl))
        (pss_one (ps_set (i := 1) sc.nd rfl (Or.inl rfl) (pe_op op_cat (pv 1) (pe_lst (pa_cons (pe_ix ix_tup (pv 2) pe_int (fun _ _ => rfl)) (pa_cons (pe_ix ix_tup (pv 2) pe_int (fun _ _ => rfl)) pa_nil)))))))
      (pss_cons (ps_set (i := 3) sc.nd rfl (Or.inr rfl) pe_int)
      (pss_cons (ps_for PassesOwn.never rfl (pi_list (pv 1)) (pg_name (i := 4) sc.nd rfl (Or.inl rfl))
        (pss_one (ps_set (i := 3) sc.nd rfl (Or.inr rfl) (pe_op op_mulW (pv 3) (pe_op op_fdivW (pe_ix ix_tup (pv 4) pe_int (fun _ _ => rfl)) (pe_kp G hr rfl (pa_cons (pv 3) (pa_cons (pe_ix ix_tup (pv 4) pe_int (fun _ _ => rfl)) pa_nil))))))))
      (pss_one (ps_ret (pe_tup (pa_cons
        (pe_lc (own := [("_law_each", 4)]) (g := gName 4) (tt := tYes) rfl sc.nd (pi_list (pv 1)) (blkOk_by (N := ["_law_wave_here", "_law_flat", "_law_pair", "_law_under", "_law_each"]) (sc := defScope (top 51)) (by decide +kernel))
          (fun _ _ _ _ _ => pg_name (i := 4) sc.nd rfl (Or.inl rfl)) (fun _ _ _ _ _ => pts_nil)
          (fun _ _ _ _ _ => pe_op op_mulW (pe_ix (r := rIxT K) ix_tup (pv 4) pe_int (fun _ _ => rfl)) (pe_op op_fdivW (pv 3) (pe_ix (r := rIxT K) ix_tup (pv 4) pe_int (fun _ _ => rfl)))))
        (pa_cons (pv 3) pa_nil)))))))), ?_⟩
    refine ⟨_, rfl, a, _, _, u, rfl, rfl, hS, rfl, (by show 1 ≤ sizeLine; decide), fun l0 hl0 => ?_⟩
    have e0 := same_upd (o := .lst [u]) hl0
    refine ⟨_, rfl, a, _, _, .ref b, rfl, rfl, (Tk.of e0).t hS, rfl, b, rfl, ⟨_, (Tk.of e0).t hB⟩, for_tup (K := K) (a := b) (xs := zs) (fun i σ H' => Same H H' ∧ i ≤ zs.length ∧ ∃ (l : Addr) (c1 : Option V) (ys : List V),
      σ = [some (.ref a), some (.ref l), c1, none, none] ∧ H' l = some (.lst ys) ∧ AllR K H' ys (flat x.k0 (x.ps.take i))) ?_ ?_ ?_ ?_⟩
    · refine ⟨e0, Nat.zero_le _, l0, none, [u], rfl, upd_same, ?_⟩
      exact AllR.push (xs := []) (rs := []) AllR.nil ((Tk.of e0).r hu)
    · exact fun i σ H' _ z => (Tk.of z.1).t hB
    · rintro i y σ H1 hi ⟨s1, hle, l, c1, ys, rfl, hL, hys⟩
      have t1 := Tk.of s1
      obtain ⟨p, hp, hpp⟩ := hall.get hi
      have hlt := (List.getElem?_eq_some_iff.mp hi).1
      obtain ⟨A1, u1, u2, rfl, hA1, hu1, hu2⟩ := t1.pr hpp
      refine ⟨_, rfl, _, rfl, A1, _, _, u1, rfl, rfl, hA1, rfl, _, rfl, A1, _, _, u2, rfl, rfl, hA1, rfl, (by show 2 ≤ sizeLine; decide), fun q hq => ?_⟩
      have e1 := same_upd (o := .lst [u1, u2]) hq
      have lys := hys.1
      rw [flat_len, List.length_take] at lys
      refine ⟨l, q, ys, _, rfl, rfl, e1 _ _ hL, upd_same, Nat.le_of_lt (small1000 (by show ys.length + 2 ≤ 1000; omega)), fun r hr' => ?_⟩
      have e2 := same_upd (o := .lst (ys ++ [u1, u2])) hr'
      refine ⟨s1.trans (e1.trans e2), hlt, r, _, _, rfl, upd_same, ?_⟩
      have tk := Tk.of (e1.trans e2)
      have e : x.ps.take (i + 1) = x.ps.take i ++ [p] := by rw [List.take_add_one, hp]; rfl
      have ex : ys ++ [u1, u2] = (ys ++ [u1]) ++ [u2] := by rw [List.append_assoc]; rfl
      have er : flat x.k0 (x.ps.take i) ++ [p.1, p.2] = (flat x.k0 (x.ps.take i) ++ [p.1]) ++ [p.2] := by rw [List.append_assoc]; rfl
      have fin := ((tk.rr hys).push (tk.r hu1)).push (tk.r hu2)
      rw [← ex, ← er] at fin
      rw [e, flat_push]
      exact fin
    · rintro σ H1 ⟨s1, _, l, c1, ys, rfl, hL, hys⟩
      rw [List.take_of_length_le (by omega)] at hys
      have lys := hys.1
      rw [flat_len] at lys
      have small := flat_mem wok.k0 wok.ps
      refine ⟨_, rfl, l, rfl, ⟨_, SqL.of hL⟩, for_list (K := K) (a := l) (xs := ys) (fun i σ H' => H' = H1 ∧ i ≤ ys.length ∧ ∃ (U : Nat) (c2 : Option V), σ = [some (.ref a), some (.ref l), c1, some (.int (U : Int)), c2] ∧ 0 < U ∧ U < 2 ^ (20 * i + 1) ∧
        ∀ (j : Nat) (r : Rat), j < i → (flat x.k0 x.ps)[j]? = some r → r.den ∣ U) ?_ ?_ ?_ ?_⟩
      · exact ⟨rfl, Nat.zero_le _, 1, none, rfl, by decide, by decide, fun j r hj _ => absurd hj (Nat.not_lt_zero _)⟩
      · rintro i σ H' _ ⟨rfl, _⟩
        exact SqL.of hL
      · rintro i y σ H' hi ⟨rfl, hle, U, c2, rfl, U0, U1, hdv⟩
        obtain ⟨r, hr1, hr2⟩ := hys.get hi
        have hlt := (List.getElem?_eq_some_iff.mp hi).1
        have hbd := small r (List.mem_of_getElem? hr1)
        obtain ⟨A1, rfl, hA1⟩ := hr2
        have dp := den_pos r
        have gp := gcd_pos (n := (U : Int)) dp
        have gle := gcd_le (n := (U : Int)) dp
        rw [den_abs] at gle
        refine ⟨_, rfl, _, rfl, A1, _, _, _, rfl, rfl, hA1, rfl, _, rfl, _, rfl, A1, _, _, _, rfl, rfl, hA1, rfl, _, _, rfl, ?_⟩
        have fd : Fit 20 (r.den : Int) := hbd.den
        refine ⟨_, _, rfl, rfl, ?_, _, _, rfl, rfl, ?_, ?_⟩
        · refine wide_div gp (b := 20) ?_ (by decide) (by decide)
          rw [Int.natAbs_natCast]
          rw [den_abs]
          exact Nat.lt_of_le_of_lt gle hbd.2
        · refine cmul_ok (a := 20 * i + 1) (b := 20) ?_ ?_ (by omega)
          · show ((U : Int)).natAbs < _
            rw [Int.natAbs_natCast]; exact U1
          · refine Nat.lt_of_le_of_lt (Int.natAbs_ediv_le_natAbs _ _) ?_
            rw [den_abs]; exact hbd.2
        · refine ⟨rfl, hlt, Nat.lcm U r.den, some (.ref A1), ?_, lcm_pos U0 r.den_pos, ?_, ?_⟩
          · rw [← lcm_nat]; rfl
          · have := lcm_lt U1 hbd.2
            have e : 20 * (i + 1) + 1 = 20 * i + 1 + 20 := by omega
            rw [e]; exact this
          · intro j q hj hq
            by_cases hji : j < i
            · exact Nat.dvd_trans (hdv j q hji hq) (Nat.dvd_lcm_left _ _)
            · have e : j = i := by omega
              subst e
              rw [hr1] at hq
              cases hq
              exact Nat.dvd_lcm_right _ _
      · rintro σ H' ⟨rfl, _, U, c2, rfl, U0, U1, hdv⟩
        have U2 : U < 2 ^ 341 := up_lt U1 (by omega)
        refine ⟨_, rfl, l, rfl, ⟨_, SqL.of hL⟩, fun D hD => lc_list (K := K) (a := l) (xs := ys) (fun i H2 => Same H' H2 ∧ i ≤ ys.length ∧ ∃ ns : List Int, H2 D = some (.lst (ns.map V.int)) ∧ ns.length = i ∧
          (∀ (j : Nat) (r : Rat) (n : Int), (flat x.k0 x.ps)[j]? = some r → ns[j]? = some n → (n : Rat) = r * ((U : Int) : Rat)) ∧ ∀ n ∈ ns, Fit 361 n) ?_ ?_ ?_ ?_⟩
        · exact ⟨same_upd hD, Nat.zero_le _, [], upd_same, rfl, fun j r n _ e => by simp at e, fun n e => nomatch e⟩
        · exact fun i H2 _ z => SqL.of (z.1 _ _ hL)
        · rintro i y H2 hi ⟨s2, hle, ns, hDn, hln, hval, hsm⟩
          obtain ⟨r, hr1, hr2⟩ := hys.get hi
          have hlt := (List.getElem?_eq_some_iff.mp hi).1
          have hbd := small r (List.mem_of_getElem? hr1)
          have dvd := hdv i r hlt hr1
          obtain ⟨A1, rfl, hA1⟩ := (Tk.of s2).r hr2
          have fU : Fit 341 ((U : Int) / (r.den : Int)) := by
            refine Nat.lt_of_le_of_lt (Int.natAbs_ediv_le_natAbs _ _) ?_
            rw [Int.natAbs_natCast]; exact U2
          refine ⟨rfl, _, rfl, A1, _, _, _, rfl, rfl, hA1, rfl, _, rfl, _, rfl, A1, _, _, _, rfl, rfl, hA1, rfl, _, _, rfl, rfl, ?_, _, _, rfl, rfl, ?_, ?_⟩
          · exact wide_div (den_pos r) (b := 20) (by rw [den_abs]; exact hbd.2) (by decide) (by decide)
          · exact cmul_ok hbd.num fU (by decide)
          · refine ⟨_, hDn, ?_, ?_, hlt, ns ++ [r.num * ((U : Int) / (r.den : Int))], ?_, ?_, ?_, ?_⟩
            · rw [List.length_map]; exact small1000 (by omega)
            · intro c ob e
              rw [upd_ne (ne_of_none e hD)]
              exact s2 _ _ e
            · rw [upd_same, List.map_append]; rfl
            · rw [List.length_append, hln]; rfl
            · intro j q n e1 e2
              by_cases hj : j < ns.length
              · rw [List.getElem?_append_left hj] at e2
                exact hval j q n e1 e2
              · have hj2 : j = i := by
                  have := (List.getElem?_eq_some_iff.mp e2).1
                  rw [List.length_append, List.length_singleton] at this
                  omega
                subst hj2
                rw [hr1] at e1
                cases e1
                rw [List.getElem?_append_right (by omega), hln, Nat.sub_self] at e2
                cases e2
                exact num_val dvd
            · intro n hn
              rcases List.mem_append.mp hn with hn | hn
              · exact hsm n hn
              · have e : n = r.num * ((U : Int) / (r.den : Int)) := by simpa using hn
                rw [e]; exact (hbd.num.mul fU).up (by decide)
        · rintro H2 ⟨s2, _, ns, hDn, hln, hval, hsm⟩
          refine ⟨_, rfl, (by show 2 ≤ sizeLine; decide), fun t ht => ?_⟩
          have e3 := same_upd (o := .tup [.ref D, .int (U : Int)]) ht
          refine k t D ns (U : Int) _ (s1.trans (s2.trans e3)) (SqT.of upd_same) (e3 _ _ hDn) ⟨by omega, ?_, by rw [hln, lys, flat_len], hval, hsm⟩
          show ((U : Int)).natAbs < _
          rw [Int.natAbs_natCast]; exact U2
end
end Kw
set_option maxHeartbeats 4000000
set_option exponentiation.threshold 2000
/-! KwS: the law's own worth, reckoned. -/
namespace Kw
open PySem PySem.Spec PyProof.Rows L2
def topF (ns : List Int) (o : Pt) : Nat → Int
  | 0 => ns.getD 0 0
  | i + 1 => topF ns o i * o.r + ns.getD (2 * i + 1) 0 * (ipw o (i + 1)).1 + ns.getD (2 * i + 2) 0 * (ipw o (i + 1)).2.1
theorem getD_fit {ns : List Int} (h : ∀ n ∈ ns, Fit 361 n) (i : Nat) : Fit 361 (ns.getD i 0) := by
  rw [List.getD_eq_getElem?_getD]
  cases e : ns[i]? with
  | none => show (0 : Nat) < 2 ^ 361; exact Nat.two_pow_pos _
  | some n => exact h n (List.mem_of_getElem? e)
theorem topF_fit {ns : List Int} {o : Pt} (h : ∀ n ∈ ns, Fit 361 n) (ho : PtOk 26 o) : ∀ i, Fit (362 + 28 * i) (topF ns o i)
  | 0 => (getD_fit h 0).up (by omega)
  | i + 1 => by
    obtain ⟨_, _, f3⟩ := pt_fit ho
    obtain ⟨g1, g2, _⟩ := ipw_bd ho (i + 1)
    have a1 : Fit (388 + 28 * i) (topF ns o i * o.r) := ((topF_fit h ho i).mul f3).up (by omega)
    have a2 : Fit (388 + 28 * i) (ns.getD (2 * i + 1) 0 * (ipw o (i + 1)).1) := (Fit.mul (getD_fit h (2 * i + 1)) g1).up (by omega)
    have a3 : Fit (389 + 28 * i) (ns.getD (2 * i + 2) 0 * (ipw o (i + 1)).2.1) := (Fit.mul (getD_fit h (2 * i + 2)) g2).up (by omega)
    have a4 : Fit (389 + 28 * i) (topF ns o i * o.r + ns.getD (2 * i + 1) 0 * (ipw o (i + 1)).1) := (a1.add a2).up (by omega)
    exact (a4.add a3).up (by omega)
theorem nums_at {rs : List Rat} {ns : List Int} {U : Int} (h : NumsOk rs ns U) {i : Nat} {x : Rat} (e : rs[i]? = some x) : ((ns.getD i 0 : Int) : Rat) = x * (U : Rat) := by
  have hi : i < ns.length := by rw [h.len]; exact (List.getElem?_eq_some_iff.mp e).1
  rw [List.getD_eq_getElem?_getD, List.getElem?_eq_getElem hi]
  exact h.val i x _ e (List.getElem?_eq_getElem hi)
theorem topF_val {x : Wv} {ns : List Int} {U : Int} {o : Pt} (h : NumsOk (flat x.k0 x.ps) ns U) (ho : PtOk 26 o) : ∀ i, i ≤ x.ps.length → (topF ns o i : Rat) = (x.k0 + wsum x.ps (tq o) i) * (((ipw o i).2.2 : Rat) * (U : Rat))
  | 0, _ => by
    have e := nums_at h (i := 0) (x := x.k0) rfl
    show ((ns.getD 0 0 : Int) : Rat) = (x.k0 + 0) * (((1 : Int) : Rat) * (U : Rat))
    rw [e, Rat.intCast_one]
    grind
  | i + 1, hi => by
    have ih := topF_val h ho i (by omega)
    have hp : x.ps[i]? = some x.ps[i] := List.getElem?_eq_getElem (by omega)
    obtain ⟨e1, e2⟩ := flat_get (k0 := x.k0) hp
    have n1 := nums_at h e1
    have n2 := nums_at h e2
    have hz := ipw_pw ho (i + 1)
    have hne := cast_ne (ipw_pos ho (i + 1))
    have hB : ((ipw o (i + 1)).2.2 : Rat) = ((ipw o i).2.2 : Rat) * (o.r : Rat) := by
      show (((ipw o i).2.2 * o.r : Int) : Rat) = _
      rw [Rat.intCast_mul]
    show ((topF ns o i * o.r + ns.getD (2 * i + 1) 0 * (ipw o (i + 1)).1 + ns.getD (2 * i + 2) 0 * (ipw o (i + 1)).2.1 : Int) : Rat) = (x.k0 + (wsum x.ps (tq o) i + tm (x.ps.getD i (0, 0)) (pw (tq o) (i + 1)))) * (((ipw o (i + 1)).2.2 : Rat) * (U : Rat))
    rw [getD_in hp, hz, Rat.intCast_add, Rat.intCast_add, Rat.intCast_mul, Rat.intCast_mul, Rat.intCast_mul, ih, n1, n2]
    simp only [tm]
    generalize ((ipw o (i + 1)).1 : Rat) = X at *
    generalize ((ipw o (i + 1)).2.1 : Rat) = Y at *
    generalize ((ipw o (i + 1)).2.2 : Rat) = B at *
    grind
section
variable {P : Program} {w : World} {K : PySem.W.Frag} {mg : Str → Option Value} {base : Heap}
def spTops (K : PySem.W.Frag) : Sp := fun vs H Q _ => ∃ (l : Addr) (ns : List Int) (v : V) (o : Pt) (n : Nat), vs = [.ref l, v] ∧ H l = some (.lst (ns.map V.int)) ∧ IsT3 K H v o ∧ PtOk 26 o ∧ ns.length = 2 * n + 1 ∧ n ≤ 8 ∧ (∀ m ∈ ns, Fit 361 m) ∧
  ∀ z H', Same H H' → IsI2 K H' z (topF ns o n) (ipw o n).2.2 → Q z H'
theorem kp_tops (T : Txt K mg) (F : Fd K mg "_law_tops" (top 52) ["_law_nums_here", "_law_point_here"]) : Kp P w K mg base "_law_tops" 1 ["_law_nums_here", "_law_point_here"] (spTops K) := F.kp fun f fd F => by
  have sc : FnScope ["_law_nums_here", "_law_point_here", "_law_c", "_law_s", "_law_r", "_law_x", "_law_y", "_law_top", "_law_under", "_law_j"] ["_law_nums_here", "_law_point_here"] (defScope (top 52)) := ⟨rfl, rfl, rfl, by decide +kernel, rfl, by decide +kernel, by decide +kernel⟩
  refine F.ok sc (fun vs H Q E h => ?_) (fun cdv A outer s H vs Q E hr h => ?_)
  · obtain ⟨l, ns, v, o, n, rfl, _⟩ := h
    rfl
  · obtain ⟨l, ns, _, o, n, rfl, hL, ⟨pt, rfl, hP⟩, ho, hlen, hn, hsm, k⟩ := h
    obtain ⟨f1, f2, f3⟩ := pt_fit ho
    refine ⟨_, pss_cons (ps_asg (pv 1) (pg_tup rfl (pgs_cons (pg_name (i := 2) sc.nd rfl (Or.inl rfl)) (pgs_cons (pg_name (i := 3) sc.nd rfl (Or.inl rfl)) (pgs_cons (pg_name (i := 4) sc.nd rfl (Or.inl rfl)) pgs_nil)))))
      (pss_cons (ps_asg (pe_tup (pa_cons pe_int (pa_cons pe_int (pa_cons (pe_ix ix_list (pv 0) pe_int (fun _ _ => rfl)) (pa_cons pe_int pa_nil)))))
        (pg_tup rfl (pgs_cons (pg_name (i := 5) sc.nd rfl (Or.inl rfl)) (pgs_cons (pg_name (i := 6) sc.nd rfl (Or.inl rfl)) (pgs_cons (pg_name (i := 7) sc.nd rfl (Or.inl rfl)) (pgs_cons (pg_name (i := 8) sc.nd rfl (Or.inl rfl)) pgs_nil))))))
      (pss_cons (ps_for PassesOwn.never rfl (pi_range2 (by rfl) T.range (pa_cons pe_int (pa_cons (pe_op op_add (pe_op op_fdiv (pe_callB call_len_seq (by rfl) T.len PySem.boot_len (pa_cons (pv 0) pa_nil)) pe_int) pe_int) pa_nil))) (pg_name (i := 9) sc.nd rfl (Or.inl rfl))
        (pss_cons (ps_par (i := 5) (j := 6) rfl sc.nd rfl rfl (by decide) rfl rfl (pa_cons (pe_op op_sub (pe_op op_mulW (pv 5) (pv 2)) (pe_op op_mulW (pv 6) (pv 3))) (pa_cons (pe_op op_add (pe_op op_mulW (pv 5) (pv 3)) (pe_op op_mulW (pv 6) (pv 2))) pa_nil)) (by rfl))
        (pss_one (ps_par (i := 7) (j := 8) rfl sc.nd rfl rfl (by decide) rfl rfl (pa_cons (pe_op op_add (pe_op op_add (pe_op op_mulW (pv 7) (pv 4))
            (pe_op op_mulW (pe_ix ix_list (pv 0) (pe_op op_sub (pe_op op_mul pe_int (pv 9)) pe_int) (fun _ _ => rfl)) (pv 5))) (pe_op op_mulW (pe_ix ix_list (pv 0) (pe_op op_mul pe_int (pv 9)) (fun _ _ => rfl)) (pv 6)))
          (pa_cons (pe_op op_mulW (pv 8) (pv 4)) pa_nil)) (by rfl)))))
      (pss_one (ps_ret (pe_tup (pa_cons (pv 7) (pa_cons (pv 8) pa_nil))))))), ?_⟩
    have at_ : ∀ (i : Nat), i < ns.length → atI (ns.map V.int) (i : Int) = some (V.int (ns.getD i 0)) := fun i hi => atI_nat (by
      rw [List.getElem?_map, List.getElem?_eq_getElem hi, List.getD_eq_getElem?_getD, List.getElem?_eq_getElem hi]; rfl)
    refine ⟨_, rfl, pt, _, rfl, hP, rfl, _, _, rfl, _, _, rfl, _, _, rfl, rfl, _, rfl, l, _, _, _, rfl, rfl, SqL.of hL, at_ 0 (by omega), (by show 4 ≤ sizeLine; decide), fun t4 ht4 => ?_⟩
    have e1 := same_upd (o := .tup [.int 1, .int 0, .int (ns.getD 0 0), .int 1]) ht4
    refine ⟨t4, _, rfl, SqT.of upd_same, rfl, _, _, rfl, _, _, rfl, _, _, rfl, _, _, rfl, rfl, ?_⟩
    have hdiv : (((ns.map V.int).length : Nat) : Int) / 2 + 1 = (n : Int) + 1 := by
      rw [List.length_map, hlen]; omega
    refine ⟨_, rfl, l, _, rfl, .inl (SqL.of (e1 _ _ hL)), _, _, rfl, rfl, ⟨by show (0 : Int) < 2; decide, by show (2 : Int) < 1073741824; decide⟩, _, _, rfl, rfl, 1, (n : Int) + 1, ?_, ⟨by decide, by decide, by omega, by omega⟩, ?_⟩
    · rw [← hdiv]
    have hto : ((n : Int) + 1 - 1).toNat = n := by omega
    rw [hto]
    refine for_range (lo := 1) (n := n) (fun i σ H' => Same H H' ∧ ∃ c : Option V, σ = [some (.ref l), some (.ref pt), some (.int o.c), some (.int o.s), some (.int o.r), some (.int (ipw o i).1), some (.int (ipw o i).2.1), some (.int (topF ns o i)), some (.int (ipw o i).2.2), c]) ⟨e1, none, rfl⟩ ?_ ?_
    · rintro i σ H1 hi ⟨s1, c, rfl⟩
      obtain ⟨g1, g2, g3⟩ := ipw_bd ho i
      obtain ⟨h1, h2, h3⟩ := ipw_bd ho (i + 1)
      have ft := topF_fit hsm ho i
      have hL1 := s1 _ _ hL
      refine ⟨_, rfl, _, rfl, _, _, rfl, rfl, cmul_ok g1 f1 (by omega), _, rfl, _, rfl, _, _, rfl, rfl, cmul_ok g2 f2 (by omega), _, _, rfl, rfl,
        _, rfl, _, rfl, _, _, rfl, rfl, cmul_ok g1 f2 (by omega), _, rfl, _, rfl, _, _, rfl, rfl, cmul_ok g2 f1 (by omega), _, _, rfl, rfl, _, _, rfl, ?_⟩
      have i1 : atI (ns.map V.int) (2 * (1 + (i : Int)) - 1) = some (V.int (ns.getD (2 * i + 1) 0)) := by
        have e : 2 * (1 + (i : Int)) - 1 = ((2 * i + 1 : Nat) : Int) := by omega
        rw [e]; exact at_ _ (by omega)
      have i2 : atI (ns.map V.int) (2 * (1 + (i : Int))) = some (V.int (ns.getD (2 * i + 2) 0)) := by
        have e : 2 * (1 + (i : Int)) = ((2 * i + 2 : Nat) : Int) := by omega
        rw [e]; exact at_ _ (by omega)
      refine ⟨_, rfl, _, rfl, _, _, rfl, rfl, cmul_ok ft f3 (by omega), _, rfl, _, rfl, _, _, rfl, rfl, .inl ⟨by decide, by decide⟩, _, _, rfl, rfl, l, _, _, _, rfl, rfl, SqL.of hL1, i1,
        _, rfl, _, _, rfl, rfl, cmul_ok (getD_fit hsm (2 * i + 1)) h1 (by omega), _, _, rfl, rfl,
        _, rfl, _, rfl, _, _, rfl, rfl, .inl ⟨by decide, by decide⟩, l, _, _, _, rfl, rfl, SqL.of hL1, i2, _, rfl, _, _, rfl, rfl, cmul_ok (getD_fit hsm (2 * i + 2)) h2 (by omega), _, _, rfl, rfl,
        _, rfl, _, rfl, _, _, rfl, rfl, cmul_ok g3 f3 (by omega), _, _, rfl, ?_⟩
      exact ⟨s1, _, rfl⟩
    · rintro σ H1 ⟨s1, c, rfl⟩
      refine ⟨_, rfl, _, rfl, (by show 2 ≤ sizeLine; decide), fun q hq => ?_⟩
      exact k _ _ (s1.trans (same_upd hq)) ⟨q, rfl, SqT.of upd_same⟩
def spLw (K : PySem.W.Frag) : Sp := fun vs H Q _ => ∃ (u v : V) (x : Wv) (o : Pt), vs = [u, v] ∧ IsW K H u x ∧ WOk 20 x ∧ IsT3 K H v o ∧ PtOk 26 o ∧ ∀ z H', Same H H' → Bd 600 (worthAt x (tq o)) → IsR K H' z (worthAt x (tq o)) → Q z H'
theorem kp_lw (G1 : Kp P w K mg base "_law_nums" 2 ["_law_wave_here"] (spNums K)) (G2 : Kp P w K mg base "_law_tops" 1 ["_law_nums_here", "_law_point_here"] (spTops K)) (G3 : Kp P w K mg base "_law_frac" 2 ["_law_top", "_law_under"] (spRatio K))
    (F : Fd K mg "_law_worth" (top 53) ["_law_wave_here", "_law_point_here"]) : Kp P w K mg base "_law_worth" 3 ["_law_wave_here", "_law_point_here"] (spLw K) := F.kp fun f fd F => by
  have sc : FnScope ["_law_wave_here", "_law_point_here", "_law_nums_here", "_law_under", "_law_top", "_law_by"] ["_law_wave_here", "_law_point_here"] (defScope (top 53)) := ⟨rfl, rfl, rfl, by decide +kernel, rfl, by decide +kernel, by decide +kernel⟩
  refine F.ok sc (fun vs H Q E h => ?_) (fun cdv A outer s H vs Q E hr h => ?_)
  · obtain ⟨u, v, x, o, rfl, _⟩ := h
    rfl
  · obtain ⟨u, v, x, o, rfl, hu, wok, hv, ho, k⟩ := h
    have hr1 : Room 1 _ := hr.mono (by decide)
    refine ⟨_, pss_cons (ps_asg (pe_kp G1 hr rfl (pa_cons (pv 0) pa_nil)) (pg_tup rfl (pgs_cons (pg_name (i := 2) sc.nd rfl (Or.inl rfl)) (pgs_cons (pg_name (i := 3) sc.nd rfl (Or.inl rfl)) pgs_nil))))
      (pss_cons (ps_asg (pe_kp G2 hr1 rfl (pa_cons (pv 2) (pa_cons (pv 1) pa_nil))) (pg_tup rfl (pgs_cons (pg_name (i := 4) sc.nd rfl (Or.inl rfl)) (pgs_cons (pg_name (i := 5) sc.nd rfl (Or.inl rfl)) pgs_nil))))
      (pss_one (ps_ret (pe_kp G3 hr rfl (pa_cons (pv 4) (pa_cons (pe_op op_mulW (pv 5) (pv 3)) pa_nil)))))), ?_⟩
    refine ⟨_, rfl, u, x, rfl, hu, wok, fun t l ns U H1 s1 ht hl nok => ⟨t, _, rfl, ht, rfl, _, _, rfl, _, _, rfl, rfl, ?_⟩⟩
    have l8 := wok.len
    have hlen : ns.length = 2 * x.ps.length + 1 := by rw [nok.len, flat_len]
    refine ⟨_, rfl, _, rfl, l, ns, v, o, x.ps.length, rfl, hl, (Tk.of s1).pt hv, ho, hlen, l8, nok.small, fun z H2 s2 hz => ?_⟩
    obtain ⟨q, rfl, hq⟩ := hz
    refine ⟨q, _, rfl, hq, rfl, _, _, rfl, _, _, rfl, rfl, ?_⟩
    have pos := ipw_pos ho x.ps.length
    obtain ⟨_, _, g3⟩ := ipw_bd ho x.ps.length
    have fB : Fit 209 (ipw o x.ps.length).2.2 := up_lt g3 (by omega)
    have fBU := fB.mul nok.fit
    have ft := topF_fit nok.small ho x.ps.length
    have pBU := Int.mul_pos pos nok.pos
    have hval : ((topF ns o x.ps.length : Int) : Rat) / (((ipw o x.ps.length).2.2 * U : Int) : Rat) = worthAt x (tq o) := by
      have e := topF_val nok ho x.ps.length (Nat.le_refl _)
      have n1 := cast_ne pBU
      rw [Rat.intCast_mul] at n1 ⊢
      unfold worthAt
      rw [e]
      grind
    refine ⟨_, rfl, _, rfl, _, rfl, _, _, rfl, rfl, cmul_ok fB nok.fit (by decide), _, _, rfl, pBU, fBU.up (by decide), fun z H3 s3 h3 => ?_⟩
    rw [hval] at h3
    refine k z H3 ((s1.trans s2).trans s3) ?_ h3
    rw [← hval]
    exact bd_quo pBU (ft.up (by omega)) (fBU.up (by decide))
end
end Kw
set_option maxHeartbeats 4000000
set_option exponentiation.threshold 2000
/-! KwT: what repr and == ask; bounds of what is turned. -/
namespace Kw
open PySem PySem.Spec PyProof.Rows L2
theorem PtOk.mono {a b : Nat} {o : Pt} (h : PtOk a o) (l : a ≤ b) : PtOk b o := by
  refine ⟨h.pos, ?_, h.on⟩
  have h1 : ((2 ^ a : Nat) : Int) ≤ ((2 ^ b : Nat) : Int) := Int.ofNat_le.mpr (Nat.pow_le_pow_right (by decide) l)
  rw [Int.natCast_pow, Int.natCast_pow] at h1
  exact Int.lt_of_lt_of_le h.lt h1
theorem turn_bd {b k : Nat} {x : Wv} {o : Pt} (h : WOk b x) (ho : PtOk k o) : ∀ p ∈ (turnBy x (tq o)).ps, Bd (2 * (b + (k * 8 + 1)) + 1) p.1 ∧ Bd (2 * (b + (k * 8 + 1)) + 1) p.2 := by
  intro p hp
  obtain ⟨i, hi⟩ := List.getElem?_of_mem hp
  have hlt : i < x.ps.length := by
    have := (List.getElem?_eq_some_iff.mp hi).1
    rw [turn_len] at this; exact this
  have e := turn_get (g := tq o) (List.getElem?_eq_getElem hlt)
  rw [hi] at e
  cases e
  obtain ⟨b1, b2⟩ := h.ps _ (List.getElem_mem hlt)
  obtain ⟨g1, g2⟩ := pw_bd ho (i + 1)
  have l8 := h.len
  have hk : k * (i + 1) + 1 ≤ k * 8 + 1 := Nat.succ_le_succ (Nat.mul_le_mul_left k (by omega))
  replace g1 := g1.mono hk
  replace g2 := g2.mono hk
  exact ⟨((b1.mul g1).add (b2.mul g2)).mono (by omega), ((b2.mul g1).sub (b1.mul g2)).mono (by omega)⟩
theorem turn_last {k : Nat} {x : Wv} {o : Pt} (ho : PtOk k o) (h : LastOk x.ps) : LastOk (turnBy x (tq o)).ps := by
  intro p hp
  rw [List.getLast?_eq_getElem?, turn_len] at hp
  have hlt : x.ps.length - 1 < x.ps.length := by
    have := (List.getElem?_eq_some_iff.mp hp).1
    rw [turn_len] at this; exact this
  have e := turn_get (g := tq o) (List.getElem?_eq_getElem hlt)
  rw [hp] at e
  cases e
  refine tp_ne (nrm_pw (tq_nrm ho) _) (h _ ?_)
  rw [List.getLast?_eq_getElem?]
  exact List.getElem?_eq_getElem hlt
theorem due_ok {x : Wv} {o : Pt} (h : WOk 20 x) (ho : PtOk 13 o) : WOk 260 (turnBy x (tq o)) where
  len := by rw [turn_len]; exact h.len
  k0 := h.k0.mono (by decide)
  ps := fun p hp => ⟨(turn_bd h ho p hp).1.mono (by decide), (turn_bd h ho p hp).2.mono (by decide)⟩
  last := turn_last ho h.last
/-- a common multiple -/
theorem common_of : ∀ rs : List Rat, (∀ r ∈ rs, Bd 20 r) → ∃ U : Nat, 0 < U ∧ U < 2 ^ (20 * rs.length + 1) ∧ ∀ r ∈ rs, r.den ∣ U
  | [], _ => ⟨1, by decide, by decide, fun r hr => nomatch hr⟩
  | r :: rs, h => by
    obtain ⟨U, h0, h1, h2⟩ := common_of rs fun q hq => h q (List.mem_cons_of_mem _ hq)
    have hr := h r (List.mem_cons_self ..)
    refine ⟨r.den * U, Nat.mul_pos r.den_pos h0, ?_, ?_⟩
    · have := Nat.mul_lt_mul'' hr.2 h1
      rw [← Nat.pow_add] at this
      refine up_lt this ?_
      rw [List.length_cons]; omega
    · intro q hq
      rcases List.mem_cons.mp hq with rfl | hq
      · exact Nat.dvd_mul_right _ _
      · exact Nat.dvd_trans (h2 q hq) (Nat.dvd_mul_left _ _)
theorem worth_bd {x : Wv} {o : Pt} (h : WOk 20 x) (ho : PtOk 26 o) : Bd 600 (worthAt x (tq o)) := by
  have sm := flat_mem h.k0 h.ps
  obtain ⟨U, U0, U1, dv⟩ := common_of (flat x.k0 x.ps) sm
  have l8 := h.len
  rw [flat_len] at U1
  have fU : Fit 341 (U : Int) := by
    show ((U : Int)).natAbs < _
    rw [Int.natAbs_natCast]; exact up_lt U1 (by omega)
  have nok : NumsOk (flat x.k0 x.ps) ((flat x.k0 x.ps).map fun r => r.num * ((U : Int) / (r.den : Int))) (U : Int) := by
    refine ⟨by omega, fU, List.length_map .., fun i r n e1 e2 => ?_, fun n hn => ?_⟩
    · rw [List.getElem?_map, e1] at e2
      cases e2
      exact num_val (dv r (List.mem_of_getElem? e1))
    · obtain ⟨r, hr, rfl⟩ := List.mem_map.mp hn
      have f1 : Fit 341 ((U : Int) / (r.den : Int)) := Nat.lt_of_le_of_lt (Int.natAbs_ediv_le_natAbs _ _) fU
      exact ((sm r hr).num.mul f1).up (by decide)
  have pos := ipw_pos ho x.ps.length
  obtain ⟨_, _, g3⟩ := ipw_bd ho x.ps.length
  have fB : Fit 209 (ipw o x.ps.length).2.2 := up_lt g3 (by omega)
  have pBU := Int.mul_pos pos nok.pos
  have e := topF_val nok ho x.ps.length (Nat.le_refl _)
  have n1 := cast_ne pBU
  have hval : ((topF ((flat x.k0 x.ps).map fun r => r.num * ((U : Int) / (r.den : Int))) o x.ps.length : Int) : Rat) / (((ipw o x.ps.length).2.2 * (U : Int) : Int) : Rat) = worthAt x (tq o) := by
    rw [Rat.intCast_mul] at n1 ⊢
    unfold worthAt
    rw [e]
    grind
  rw [← hval]
  exact bd_quo pBU ((topF_fit nok.small ho x.ps.length).up (by omega)) ((fB.mul fU).up (by decide))

/-! ### repr -/
theorem log_of {n : Nat} (h : n < 2 ^ 1900) : n.log2 < 1920 := Nat.lt_of_lt_of_le (PySem.Flt.log2_lt_of (by decide) h) (by decide)
theorem showable_R {x : Rat} (h : Bd 1900 x) : (dR x).showable = true := by
  show (decide (x.num.natAbs.log2 < 1920) && (decide (((x.den : Int)).natAbs.log2 < 1920) && true)) = true
  rw [decide_eq_true (log_of h.1), den_abs, decide_eq_true (log_of h.2)]; rfl
theorem showable_P {p : Cp} (h : Bd 1900 p.1 ∧ Bd 1900 p.2) : (dP p).showable = true := by
  show ((dR p.1).showable && ((dR p.2).showable && true)) = true
  rw [showable_R h.1, showable_R h.2]; rfl
theorem showable_all : ∀ {ps : List Cp}, (∀ p ∈ ps, Bd 1900 p.1 ∧ Bd 1900 p.2) → PyData.showableAll (ps.map dP) = true
  | [], _ => rfl
  | p :: ps, h => by
    show ((dP p).showable && PyData.showableAll (ps.map dP)) = true
    rw [showable_P (h p (List.mem_cons_self ..)), showable_all fun q hq => h q (List.mem_cons_of_mem _ hq)]; rfl
theorem len_R {x : Rat} (h : Bd 1900 x) : (dR x).shown.length ≤ 3849 := by
  have h1 := show_int (log_of h.1)
  have h2 : (PyData.shown (.int (x.den : Int))).length ≤ 1921 := show_int (by rw [den_abs]; exact log_of h.2)
  have h3 := tupleText_len_le [PyData.shown (.int x.num), PyData.shown (.int (x.den : Int))]
  simp only [List.map_cons, List.map_nil, List.sum_cons, List.sum_nil, List.length_cons, List.length_nil] at h3
  show (tupleText [PyData.shown (.int x.num), PyData.shown (.int (x.den : Int))]).length ≤ 3849
  omega
theorem len_P {p : Cp} (h : Bd 1900 p.1 ∧ Bd 1900 p.2) : (dP p).shown.length ≤ 7705 := by
  have h1 := len_R h.1
  have h2 := len_R h.2
  have h3 := tupleText_len_le [(dR p.1).shown, (dR p.2).shown]
  simp only [List.map_cons, List.map_nil, List.sum_cons, List.sum_nil, List.length_cons, List.length_nil] at h3
  show (tupleText [(dR p.1).shown, (dR p.2).shown]).length ≤ 7705
  omega
theorem len_all : ∀ {ps : List Cp}, (∀ p ∈ ps, Bd 1900 p.1 ∧ Bd 1900 p.2) → ((PyData.shownAll (ps.map dP)).map (·.length)).sum ≤ 7705 * ps.length ∧ (PyData.shownAll (ps.map dP)).length = ps.length
  | [], _ => ⟨Nat.zero_le _, rfl⟩
  | p :: ps, h => by
    obtain ⟨h1, h2⟩ := len_all fun q hq => h q (List.mem_cons_of_mem p hq)
    have h3 := len_P (h p (List.mem_cons_self ..))
    refine ⟨?_, ?_⟩
    · show ((dP p).shown.length :: (PyData.shownAll (ps.map dP)).map (·.length)).sum ≤ _
      rw [List.sum_cons, List.length_cons]; omega
    · show (PyData.shownAll (ps.map dP)).length + 1 = _
      rw [h2]; rfl
/-- fit to be shown -/
structure WSh (w : Wv) : Prop where
  len : w.ps.length ≤ 8
  k0 : Bd 1900 w.k0
  ps : ∀ p ∈ w.ps, Bd 1900 p.1 ∧ Bd 1900 p.2
theorem turn_sh {x : Wv} {o : Pt} (h : WOk 20 x) (ho : PtOk 26 o) : WSh (turnBy x (tq o)) where
  len := by rw [turn_len]; exact h.len
  k0 := h.k0.mono (by decide)
  ps := fun p hp => ⟨(turn_bd h ho p hp).1.mono (by decide), (turn_bd h ho p hp).2.mono (by decide)⟩
theorem showable_W {w : Wv} (h : WSh w) : (dW w).showable = true := by
  show ((dR w.k0).showable && (PyData.showableAll (w.ps.map dP) && true)) = true
  rw [showable_R h.k0, showable_all h.ps]; rfl
theorem len_W {w : Wv} (h : WSh w) : (dW w).shown.length ≤ 65600 := by
  have h1 := len_R h.k0
  obtain ⟨h2, h3⟩ := len_all h.ps
  have h4 := tupleText_len_le (PyData.shownAll (w.ps.map dP))
  have h5 := tupleText_len_le [(dR w.k0).shown, tupleText (PyData.shownAll (w.ps.map dP))]
  have l8 := h.len
  simp only [List.map_cons, List.map_nil, List.sum_cons, List.sum_nil, List.length_cons, List.length_nil] at h5
  show (tupleText [(dR w.k0).shown, tupleText (PyData.shownAll (w.ps.map dP))]).length ≤ 65600
  omega
def d2 (w : Wv) : PyData := .list [dW w, dW w]
theorem showable_2 {w : Wv} (h : WSh w) : (d2 w).showable = true := by
  show ((dW w).showable && ((dW w).showable && true)) = true
  rw [showable_W h]; rfl
theorem len_2 {w : Wv} (h : WSh w) : (d2 w).shown.length ≤ 200000 := by
  have h1 := len_W h
  have h2 := listText_len_le [(dW w).shown, (dW w).shown]
  simp only [List.map_cons, List.map_nil, List.sum_cons, List.sum_nil, List.length_cons, List.length_nil] at h2
  show (listText [(dW w).shown, (dW w).shown]).length ≤ 200000
  omega
theorem nd_W (w : Wv) : (dW w).hasDict = false := PyData.hasDict_of_canLay _ (can_W w)
theorem nd_R (x : Rat) : (dR x).hasDict = false := PyData.hasDict_of_canLay _ (can_R x)
theorem nd_2 (w : Wv) : (d2 w).hasDict = false := by
  show ((dW w).hasDict || ((dW w).hasDict || false)) = false
  rw [nd_W]; rfl
theorem dep_2 (w : Wv) : (d2 w).depth ≤ 20 := by
  show max (dW w).depth (max (dW w).depth 0) + 1 ≤ 20
  have := dep_W w
  omega
theorem size_le {n : Nat} (h : n ≤ 200000) : n ≤ sizeLine := by rw [sizeLine_eq]; omega
theorem shows_W {w : Wv} (hs : WSh w) : Shows (dW w) := ⟨showable_W hs, nd_W w, rfl, Nat.le_trans (dep_W w) (by decide), size_le (Nat.le_trans (len_W hs) (by decide))⟩
theorem shows_R {x : Rat} (hs : Bd 1900 x) : Shows (dR x) := ⟨showable_R hs, nd_R x, rfl, by rw [dep_R]; decide, size_le (Nat.le_trans (len_R hs) (by decide))⟩
theorem shows_2 {w : Wv} (hs : WSh w) : Shows (d2 w) := ⟨showable_2 hs, nd_2 w, rfl, dep_2 w, size_le (len_2 hs)⟩
theorem dp_2 {K : PySem.W.Frag} {H : Hp} {w : Wv} {l : Addr} {u z : V} (hl : H l = some (.lst [u, z])) (h1 : IsW K H u w) (h2 : IsW K H z w) : Dp K H (.ref l) (d2 w) := .lst (SqL.of hl) (.cons h1.dp (.cons h2.dp .nil))
theorem tq_one : tq ⟨1, 0, 1⟩ = (1, 0) := by
  apply cp_ext
  · show ((1 : Int) : Rat) / ((1 : Int) : Rat) = 1
    rw [Rat.intCast_one]; grind
  · show ((0 : Int) : Rat) / ((1 : Int) : Rat) = 0
    rw [Rat.intCast_one, Rat.intCast_zero]; grind
theorem one_ok : PtOk 13 ⟨1, 0, 1⟩ := ⟨by decide, by decide, by decide⟩
end Kw
set_option maxHeartbeats 8000000
set_option exponentiation.threshold 2000
/-! KwU: the law. -/
namespace Kw
open PySem PySem.Spec PyProof.Rows L2
theorem ne_self (s : Str) : V.bl (!decide (V.str s = V.str s)) = V.bl false := by
  rw [decide_eq_true rfl]; rfl
def gSwap : List Value → List Value → List Value
  | [], [a, b] => [b, a]
  | _, _ => []
def gSwapV : List V → List V → List V
  | [], [a, b] => [b, a]
  | _, _ => []
/-- all that the law's def calls -/
structure Calls (P : Program) (w : World) (K : PySem.W.Frag) (mg : Str → Option Value) (base : Heap) : Prop where
  pick : Kp P w K mg base "_law_pick" 2 ["_law_well_here", "_law_some"] (spPick K)
  wave : Kp P w K mg base "_law_wave" 5 ["_law_well_here", "_law_most"] (spWave K)
  half : Kp P w K mg base "_law_half" 3 ["_law_well_here"] (spHalf K)
  point : Kp P w K mg base "_law_point" 1 ["_law_half_here"] (spPoint K)
  turn : Kp P w K mg base "_law_turn" 3 ["_law_point_here"] (spTq K)
  moved : Kp P w K mg base "_law_moved_on" 4 ["_law_some", "_law_point_here"] (spMoved K)
  lw : Kp P w K mg base "_law_worth" 3 ["_law_wave_here", "_law_point_here"] (spLw K)
  wit : Kp P w K mg base "_law_with" 1 ["_law_one", "_law_two"] (spWith K)
  worth : Kp P w K mg base "worth" 7 ["wave", "turn"] (spWorthAt K)
  turned : Kp P w K mg base "turned" 7 ["wave", "turn"] (spTurn K)
  turnedK : Kq P w K mg base "turned" 7 ["wave", "turn"] ["turn", "wave"] gSwap gSwapV (spTurn K)
  well : Kp P w K mg base "_law_well" 1 ["_law_script", "_law_lap"] (spWell K)
section
variable {P : Program} {w : World} {K : PySem.W.Frag} {mg : Str → Option Value} {base : Heap}
def spRight : Sp := fun vs H Q _ => ∃ p : Addr, vs = [.ref p] ∧ Well H p ∧ ∀ H', Keep p H H' → Q (.bl true) H'
theorem gp_right (T : Txt K mg) (C : Calls P w K mg base) (F : Fd K mg "_law_right" (top 58) ["_law_well_here"]) : Gp P w K mg base "_law_right" 8 ["_law_well_here"] spRight := F.gp fun f fd F => by
  have sc : FnScope ["_law_well_here", "_law_some", "_law_one", "_law_two", "_law_first", "_law_last", "_law_due", "_law_each", "_law_behind"] ["_law_well_here"] (defScope (top 58)) := ⟨rfl, rfl, rfl, by decide +kernel, rfl, by decide +kernel, by decide +kernel⟩
  refine gn_of F sc (fun vs H Q h => ?_) (fun cdv A outer s H vs Q hgs hr h => ?_)
  · obtain ⟨p, rfl, _⟩ := h
    rfl
  · obtain ⟨p, rfl, hw, k⟩ := h
    have hr1 : Room 1 _ := hr.mono (by decide)
    have hr2 : Room 2 _ := hr.mono (by decide)
    have hr3 : Room 3 _ := hr.mono (by decide)
    have hr4 : Room 4 _ := hr.mono (by decide)
    have hr5 : Room 5 _ := hr.mono (by decide)
    refine ⟨_, pss_cons (ps_set (i := 1) sc.nd rfl (Or.inl rfl) (pe_kp C.wave hr5 rfl (pa_cons (pv 0) (pa_cons (pe_kp C.pick hr2 rfl (pa_cons (pv 0) (pa_cons (pe_tup (pa_cons pe_int (pa_cons pe_int (pa_cons pe_int (pa_cons pe_int pa_nil))))) pa_nil))) pa_nil))))
      (pss_cons (ps_par (i := 2) (j := 3) rfl sc.nd rfl rfl (by decide) rfl rfl (pa_cons (pe_kp C.point hr1 rfl (pa_cons (pe_kp C.half hr3 rfl (pa_cons (pv 0) pa_nil)) pa_nil)) (pa_cons (pe_kp C.point hr1 rfl (pa_cons (pe_kp C.half hr3 rfl (pa_cons (pv 0) pa_nil)) pa_nil)) pa_nil)) (by rfl))
      (pss_cons (ps_par (i := 4) (j := 5) rfl sc.nd rfl rfl (by decide) rfl rfl (pa_cons (pe_kp C.turn hr3 rfl (pa_cons (pv 2) pa_nil)) (pa_cons (pe_kp C.turn hr3 rfl (pa_cons (pv 3) pa_nil)) pa_nil)) (by rfl))
      (pss_cons (ps_set (i := 6) sc.nd rfl (Or.inl rfl) (pe_kp C.moved hr4 rfl (pa_cons (pv 1) (pa_cons (pv 2) pa_nil))))
      (pss_cons (ps_if (pt_cmpR op_ne
          (pe_callB (cr_repr hgs hr.units) (by rfl) T.repr PyProof.Rows.boot_repr (pa_cons (pe_lst (pa_cons (pe_kp C.turned hr rfl (pa_cons (pv 1) (pa_cons (pv 4) pa_nil))) (pa_cons (pe_kq C.turnedK hr (by rfl) (pk_cons (pv 4) (pk_cons (pv 1) pk_nil))) pa_nil))) pa_nil))
          (pe_callB (cr_repr hgs hr.units) (by rfl) T.repr PyProof.Rows.boot_repr (pa_cons (pe_lst (pa_cons (pv 6) (pa_cons (pv 6) pa_nil))) pa_nil)) (nomark _)) pss_never pss_nil)
      (pss_cons (ps_for PassesOwn.never rfl (pi_list (pe_lst (pa_cons (pe_tup (pa_cons pe_int (pa_cons pe_int (pa_cons pe_int pa_nil)))) (pa_cons (pv 3) (pa_cons (pe_kp C.point hr1 rfl (pa_cons (pe_kp C.half hr3 rfl (pa_cons (pv 0) pa_nil)) pa_nil)) pa_nil)))))
          (pg_name (i := 7) sc.nd rfl (Or.inl rfl))
        (pss_one (ps_if (pt_cmpR op_ne
          (pe_callB (cr_repr hgs hr.units) (by rfl) T.repr PyProof.Rows.boot_repr (pa_cons (pe_kp C.worth hr rfl (pa_cons (pv 6) (pa_cons (pe_kp C.turn hr3 rfl (pa_cons (pv 7) pa_nil)) pa_nil))) pa_nil))
          (pe_callB (cr_repr hgs hr.units) (by rfl) T.repr PyProof.Rows.boot_repr (pa_cons (pe_kp C.lw hr3 rfl (pa_cons (pv 1) (pa_cons (pe_kp C.wit hr1 rfl (pa_cons (pv 7) (pa_cons (pv 2) pa_nil))) pa_nil))) pa_nil)) (nomark _)) pss_never pss_nil)))
      (pss_cons (ps_if (pt_cmpR op_ne
          (pe_callB (cr_repr hgs hr.units) (by rfl) T.repr PyProof.Rows.boot_repr (pa_cons (pe_kp C.turned hr rfl (pa_cons (pv 6) (pa_cons (pv 5) pa_nil))) pa_nil))
          (pe_callB (cr_repr hgs hr.units) (by rfl) T.repr PyProof.Rows.boot_repr (pa_cons (pe_kp C.moved hr4 rfl (pa_cons (pv 1) (pa_cons (pe_kp C.wit hr1 rfl (pa_cons (pv 2) (pa_cons (pv 3) pa_nil))) pa_nil))) pa_nil)) (nomark _)) pss_never pss_nil)
      (pss_cons (ps_set (i := 8) sc.nd rfl (Or.inl rfl) (pe_kp C.turn hr3 rfl (pa_cons (pe_tup (pa_cons (pe_ix ix_tup (pv 2) pe_int (fun _ _ => rfl)) (pa_cons (pe_op op_sub pe_int (pe_ix ix_tup (pv 2) pe_int (fun _ _ => rfl))) (pa_cons (pe_ix ix_tup (pv 2) pe_int (fun _ _ => rfl)) pa_nil)))) pa_nil)))
      (pss_one (ps_ret (pe_and (pe_cmpR (op_eqD hr.units) (pe_kp C.turned hr rfl (pa_cons (pv 6) (pa_cons (pv 8) pa_nil))) (pv 1) (nomark _))
        (pe_one (pe_cmpR (op_eqD hr.units) (pe_kp C.turned hr rfl (pa_cons (pv 1) (pa_cons (pe_tup (pa_cons (pe_tup (pa_cons pe_int (pa_cons pe_int pa_nil))) (pa_cons (pe_tup (pa_cons pe_int (pa_cons pe_int pa_nil))) pa_nil))) pa_nil))) (pv 1) (nomark _))))))))))))), ?_⟩
    -- some
    refine ⟨_, rfl, _, rfl, (by show 4 ≤ sizeLine; decide), fun T1 hT1 => ?_⟩
    have s1 := same_upd (o := .tup [.int 2, .int 4, .int 4, .int 8]) hT1
    refine ⟨p, T1, _, rfl, hw.same s1, SqT.of upd_same, by decide, by decide, fun v H2 hv k2 w2 => ?_⟩
    obtain ⟨m, rfl, m0, m8⟩ : ∃ m : Int, v = .int m ∧ 0 < m ∧ m ≤ 8 := by
      simp only [List.mem_cons, List.not_mem_nil, or_false] at hv
      rcases hv with rfl | rfl | rfl | rfl
      all_goals exact ⟨_, rfl, by decide, by decide⟩
    refine ⟨p, m, rfl, w2, m0, m8, fun sv x H3 wok hx k3 w3 => ?_⟩
    have kp3 : Keep p H H3 := (Keep.of s1).trans (k2.trans k3)
    -- one, two
    refine ⟨_, rfl, p, rfl, w3, fun v4 a4 b4 H4 c1 c2 c3 c4 c5 hv4 k4 w4 => ⟨v4, a4, b4, rfl, hv4, ⟨c1, c2, c3, c4, c5⟩, fun ov one H5 one_ok5 s5 hone => ?_⟩⟩
    have w5 := w4.same s5
    refine ⟨_, rfl, p, rfl, w5, fun v6 a6 b6 H6 d1 d2 d3 d4 d5 hv6 k6 w6 => ⟨v6, a6, b6, rfl, hv6, ⟨d1, d2, d3, d4, d5⟩, fun tv two H7 two_ok7 s7 htwo => ?_⟩⟩
    have w7 := w6.same s7
    have t35 := (w3.tk k4).trans (Tk.of s5)
    have t57 := (w5.tk k6).trans (Tk.of s7)
    have kp7 : Keep p H H7 := kp3.trans ((k4.trans (Keep.of s5)).trans (k6.trans (Keep.of s7)))
    replace hx := (t35.trans t57).wv hx
    replace hone := t57.pt hone
    refine ⟨_, _, rfl, ?_⟩
    -- first, last
    refine ⟨_, rfl, ov, one, rfl, hone, one_ok5.mono (by decide), fun fv H8 s8 hfirst => ⟨_, rfl, tv, two, rfl, (Tk.of s8).pt htwo, two_ok7.mono (by decide), fun lv H9 s9 hlast => ⟨_, _, rfl, ?_⟩⟩⟩
    have s79 := s8.trans s9
    have t79 := Tk.of s79
    -- due
    refine ⟨_, rfl, _, rfl, sv, ov, x, one, rfl, t79.wv hx, wok, t79.pt hone, one_ok5.mono (by decide), fun dv H10 s10 hdue => ?_⟩
    have s7a := s79.trans s10
    have t7a := Tk.of s7a
    have dok := due_ok wok one_ok5
    have sh1 := turn_sh wok (one_ok5.mono (by decide))
    have wok2 : WOk 260 x := ⟨wok.len, wok.k0.mono (by decide), fun q hq => ⟨(wok.ps q hq).1.mono (by decide), (wok.ps q hq).2.mono (by decide)⟩, wok.last⟩
    -- if repr([turned(..), turned(..)]) != repr([due, due])
    refine ⟨_, rfl, _, rfl, sv, fv, x, one, rfl, t7a.wv hx, wok2, (Tk.of (s9.trans s10)).pr hfirst, one_ok5, fun g1 H11 s11 hg1 => ?_⟩
    have t8b := Tk.of ((s9.trans s10).trans s11)
    refine ⟨_, rfl, _, rfl, sv, fv, x, one, rfl, (t7a.trans (Tk.of s11)).wv hx, wok2, t8b.pr hfirst, one_ok5, fun g2 H12 s12 hg2 => ⟨(by show 2 ≤ sizeLine; decide), fun L1 hL1 => ?_⟩⟩
    have s13 := same_upd (o := .lst [g1, g2]) hL1
    refine ⟨_, _, rfl, dp_2 upd_same ((Tk.of (s12.trans s13)).wv hg1) ((Tk.of s13).wv hg2), shows_2 sh1, ?_⟩
    refine ⟨_, rfl, _, rfl, (by show 2 ≤ sizeLine; decide), fun L2 hL2 => ?_⟩
    have s14 := same_upd (o := .lst [dv, dv]) hL2
    have sA := ((s11.trans s12).trans s13).trans s14
    have tA := Tk.of sA
    refine ⟨_, _, rfl, dp_2 upd_same (tA.wv hdue) (tA.wv hdue), shows_2 sh1, rfl, false, ne_self _, iteF ?_⟩
    -- for each in [(1, 0, 1), two, point(half(well))]
    have w14 := w7.same (s7a.trans sA)
    refine ⟨(by show 3 ≤ sizeLine; decide), fun T3 hT3 => ⟨_, rfl, _, rfl, p, rfl, ?_⟩⟩
    have s15 := same_upd (o := .tup [.int 1, .int 0, .int 1]) hT3
    refine ⟨w14.same s15, fun v16 a16 b16 H16 q1 q2 q3 q4 q5 hv16 k16 w16 => ⟨v16, a16, b16, rfl, hv16, ⟨q1, q2, q3, q4, q5⟩, fun zv thr H17 thr_ok s17 hthr => ⟨(by show 3 ≤ sizeLine; decide), fun L3 hL3 => ?_⟩⟩⟩
    have s18 := same_upd (o := .lst [.ref T3, tv, zv]) hL3
    have tB := ((Tk.of s15).trans ((w14.same s15).tk k16)).trans (Tk.of (s17.trans s18))
    have tT3 := ((w14.same s15).tk k16).trans (Tk.of (s17.trans s18))
    -- what is known from here on
    generalize hHl : upd H17 L3 (.lst [.ref T3, tv, zv]) = Hl at *
    have hLl : Hl L3 = some (.lst [.ref T3, tv, zv]) := by rw [← hHl]; exact upd_same
    have t7l := (t7a.trans tA).trans tB
    have xl := t7l.wv hx
    have onel := t7l.pt hone
    have twol := t7l.pt htwo
    have duel := (tA.trans tB).wv hdue
    have lastl := ((Tk.of s10).trans (tA.trans tB)).pr hlast
    have kpl : Keep p H Hl := kp7.trans ((Keep.of (s7a.trans sA)).trans ((Keep.of s15).trans (k16.trans (Keep.of (s17.trans s18)))))
    have eachl : ∀ (i : Nat) (y : V), ([.ref T3, tv, zv] : List V)[i]? = some y → ∃ e : Pt, IsT3 K Hl y e ∧ PtOk 13 e := by
      intro i y hy
      match i, hy with
      | 0, hy =>
        have e : y = .ref T3 := by simpa using hy.symm
        subst e
        exact ⟨⟨1, 0, 1⟩, ⟨T3, rfl, tT3.t (SqT.of upd_same)⟩, one_ok⟩
      | 1, hy =>
        have e : y = tv := by simpa using hy.symm
        subst e
        exact ⟨two, twol, two_ok7⟩
      | 2, hy =>
        have e : y = zv := by simpa using hy.symm
        subst e
        exact ⟨thr, (Tk.of s18).pt hthr, thr_ok⟩
      | i + 3, hy => simp at hy
    refine ⟨L3, rfl, ⟨_, SqL.of hLl⟩, for_list (K := K) (a := L3) (xs := [.ref T3, tv, zv]) (fun i σ H' => Same Hl H' ∧ ∃ c : Option V, σ = [some (.ref p), some sv, some ov, some tv, some fv, some lv, some dv, c, none]) ⟨Same.refl _, none, rfl⟩ (fun i σ H' _ z => SqL.of (z.1 _ _ hLl)) ?_ ?_⟩
    · rintro i y σ H' hy ⟨z, c, rfl⟩
      obtain ⟨e, he, hek⟩ := eachl i y hy
      have tz := Tk.of z
      have eq : worthAt (turnBy x (tq one)) (tq e) = worthAt x (tq (withP e one)) := by rw [worth_turn, tq_with hek one_ok5]
      have bd := worth_bd wok ((with_ok hek one_ok5).mono (by decide))
      refine ⟨_, rfl, _, rfl, y, e, rfl, tz.pt he, hek.mono (by decide), fun v1 H1' u1 h1 => ?_⟩
      have t1 := tz.trans (Tk.of u1)
      refine ⟨dv, v1, _, e, rfl, t1.wv duel, dok, h1, hek, fun v2 H2' u2 h2 => ?_⟩
      rw [eq] at h2
      refine ⟨_, _, rfl, h2.dp, shows_R (bd.mono (by decide)), ?_⟩
      have t2 := t1.trans (Tk.of u2)
      refine ⟨_, rfl, _, rfl, _, rfl, y, ov, e, one, rfl, t2.pt he, t2.pt onel, hek, one_ok5, fun v3 H3' u3 h3 => ?_⟩
      have t3 := t2.trans (Tk.of u3)
      refine ⟨sv, v3, x, withP e one, rfl, t3.wv xl, wok, h3, (with_ok hek one_ok5).mono (by decide), fun v4 H4' u4 b4' h4 => ?_⟩
      refine ⟨_, _, rfl, h4.dp, shows_R (bd.mono (by decide)), rfl, false, ne_self _, iteF ?_⟩
      exact ⟨z.trans (u1.trans (u2.trans (u3.trans u4))), _, rfl⟩
    · rintro σ H19 ⟨s19, c, rfl⟩
      have t19 := Tk.of s19
      -- if repr(turned(due, last)) != repr(moved_on(some, with(one, two)))
      have eq : turnBy (turnBy x (tq one)) (tq two) = turnBy x (tq (withP one two)) := by rw [turn_turn, tq_with one_ok5 two_ok7]
      have sh2 := turn_sh wok ((with_ok one_ok5 two_ok7).mono (by decide : 13 + 13 ≤ 26))
      refine ⟨_, rfl, _, rfl, dv, lv, _, two, rfl, t19.wv duel, dok, t19.pr lastl, two_ok7, fun v1 H20 s20 h1 => ?_⟩
      rw [eq] at h1
      refine ⟨_, _, rfl, h1.dp, shows_W sh2, ?_⟩
      have t20 := t19.trans (Tk.of s20)
      refine ⟨_, rfl, _, rfl, _, rfl, ov, tv, one, two, rfl, t20.pt onel, t20.pt twol, one_ok5, two_ok7, fun v2 H21 s21 h2 => ?_⟩
      have t21 := t20.trans (Tk.of s21)
      refine ⟨sv, v2, x, withP one two, rfl, t21.wv xl, wok, h2, (with_ok one_ok5 two_ok7).mono (by decide), fun v3 H22 s22 h3 => ?_⟩
      have t22 := t21.trans (Tk.of s22)
      refine ⟨_, _, rfl, h3.dp, shows_W sh2, rfl, false, ne_self _, iteF ?_⟩
      -- behind
      obtain ⟨oa, rfl, hoa⟩ := t22.pt onel
      refine ⟨_, rfl, oa, _, _, .int one.c, rfl, rfl, hoa, rfl, _, rfl, oa, _, _, .int one.s, rfl, rfl, hoa, rfl, _, _, rfl, rfl, _, rfl, oa, _, _, .int one.r, rfl, rfl, hoa, rfl, (by show 3 ≤ sizeLine; decide), fun T4 hT4 => ?_⟩
      have s23 := same_upd (o := .tup [.int one.c, .int (0 - one.s), .int one.r]) hT4
      have bk := back_ok one_ok5
      refine ⟨.ref T4, backP one, rfl, ⟨T4, rfl, SqT.of upd_same⟩, bk.mono (by decide), fun bv H24 s24 hbv => ?_⟩
      have t24 := t22.trans (Tk.of (s23.trans s24))
      -- turned(due, behind) == some
      refine ⟨_, rfl, _, rfl, dv, bv, _, backP one, rfl, t24.wv duel, dok, hbv, bk, fun v5 H25 s25 h5 => ?_⟩
      rw [tq_back, turn_back (tq_nrm one_ok5)] at h5
      have t25 := t24.trans (Tk.of s25)
      refine ⟨_, rfl, _, _, h5.dp, (t25.wv xl).dp, shaped_W _, shaped_W _, true, congrArg V.bl (eqv_refl_W x), iteT ?_⟩
      -- turned(some, ((1, 1), (0, 1))) == some
      refine ⟨_, rfl, (by show 2 ≤ sizeLine; decide), fun q1 h1' => ⟨(by show 2 ≤ sizeLine; decide), fun q2 h2' => ⟨(by show 2 ≤ sizeLine; decide), fun q3 h3' => ?_⟩⟩⟩
      have e1 := same_upd (o := .tup [.int 1, .int 1]) h1'
      have e2 := same_upd (o := .tup [.int 0, .int 1]) h2'
      have e3 := same_upd (o := .tup [.ref q1, .ref q2]) h3'
      have e123 := (e1.trans e2).trans e3
      have t26 := t25.trans (Tk.of e123)
      refine ⟨sv, .ref q3, x, ⟨1, 0, 1⟩, rfl, t26.wv xl, wok2, ?_, one_ok, fun v6 H27 s27 h6 => ?_⟩
      · rw [tq_one]
        exact ⟨q3, .ref q1, .ref q2, rfl, SqT.of upd_same, ⟨q1, rfl, SqT.of ((e2.trans e3) _ _ upd_same)⟩, ⟨q2, rfl, SqT.of (e3 _ _ upd_same)⟩⟩
      rw [tq_one, turn_one] at h6
      refine ⟨_, rfl, _, _, h6.dp, ((t26.trans (Tk.of s27)).wv xl).dp, shaped_W _, shaped_W _, ?_⟩
      rw [eqv_refl_W]
      exact k _ (kpl.trans (Keep.of (s19.trans (s20.trans (s21.trans (s22.trans (s23.trans (s24.trans (s25.trans (e123.trans s27))))))))))
end
end Kw
set_option maxHeartbeats 8000000
/-! KwV: law; all defs together. -/
namespace Kw
open PySem PySem.Spec PyProof.Rows L2
section
variable {P : Program} {w : World} {K : PySem.W.Frag} {mg : Str → Option Value} {base : Heap}
def spLaw (K : PySem.W.Frag) : Sp := fun vs H Q _ => ∃ (a : Addr) (ns : List Int), vs = [.ref a] ∧ SqL K H a (ns.map V.int) ∧ ns.length ≤ 63 ∧ ∀ H', Q (.bl true) H'
theorem gn_the_law {f : Addr} {fd : FuncData} (T : Txt K mg) (GW : Kp P w K mg base "_law_well" 1 ["_law_script", "_law_lap"] (spWell K)) (GR : Gp P w K mg base "_law_right" 8 ["_law_well_here"] spRight)
    (F : Fun K "law" "law" (top 59) f fd) : GnOk P w K mg base 9 f fd ["_law_script"] (spLaw K) := by
  have sc : FnScope ["_law_script", "_law_lap"] ["_law_script"] (defScope (top 59)) := ⟨rfl, rfl, rfl, by decide +kernel, rfl, by decide +kernel, by decide +kernel⟩
  refine gn_of F sc (fun vs H Q h => ?_) (fun cdv A outer s H vs Q hgs hr h => ?_)
  · obtain ⟨a, ns, rfl, _⟩ := h
    rfl
  · obtain ⟨a, ns, rfl, hS, h63, k⟩ := h
    have hr1 : Room 1 _ := hr.mono (by decide)
    refine ⟨_, pss_one (ps_ret (pe_callB (cr_all rfl) (by rfl) T.all PyProof.Rows.boot_all (pa_cons
      (pe_lc (own := [("_law_lap", 1)]) (g := gName 1) (tt := tYes) rfl sc.nd (pi_range1 rfl T.range (pa_cons pe_int pa_nil)) (blkOk_by (N := ["_law_script", "_law_lap"]) (sc := defScope (top 59)) (by decide +kernel))
        (fun _ _ _ _ _ => pg_name (i := 1) sc.nd rfl (Or.inl rfl)) (fun _ _ _ _ _ => pts_nil) (fun _ _ _ _ _ => pe_gp GR hgs hr rfl (pa_cons (pe_kp GW hr1 rfl (pa_cons (pv 0) (pa_cons (pv 1) pa_nil))) pa_nil))) pa_nil))), ?_⟩
    refine ⟨2, rfl, by decide, by decide, fun D hD => lc_range (lo := 0) (n := 2) (fun i H' => Same H H' ∧ H' D = some (.lst (List.replicate i (.bl true)))) ⟨same_upd hD, upd_same⟩ ?_ ?_⟩
    · rintro i H1 hi ⟨s1, hL⟩
      refine ⟨rfl, _, rfl, _, rfl, a, ns, _, rfl, s1.seq hS, h63, by omega, fun p H2 hp s2 w2 => ⟨p, rfl, w2, fun H3 k3 => ?_⟩⟩
      have s3 : Same H1 H3 := fun b o e => k3 _ _ (ne_of_none e hp) (s2 _ _ e)
      refine ⟨_, s3 _ _ hL, ?_, ?_, ?_⟩
      · rw [List.length_replicate]; exact small1000 (by omega)
      · intro b o e
        rw [upd_ne (ne_of_none e hD)]
        exact s3 _ _ (s1 _ _ e)
      · rw [upd_same, List.replicate_succ']
    · rintro H1 ⟨s1, hL⟩
      exact ⟨D, [true, true], rfl, SqL.of hL, k _⟩
end

/-- where the module's defs stand -/
structure Defs (K : PySem.W.Frag) (mg : Str → Option Value) : Prop where
  is_whole : Fd K mg "is_whole" (top 6) ["value"]
  are_wholes : Fd K mg "are_wholes" (top 7) ["value", "many"]
  divisor_of : Fd K mg "divisor_of" (top 8) ["numbers"]
  is_reduced : Fd K mg "is_reduced" (top 9) ["numbers"]
  is_ratio : Fd K mg "is_ratio" (top 13) ["value"]
  ratio : Fd K mg "ratio" (top 14) ["number", "under"]
  ratio_sum : Fd K mg "ratio_sum" (top 15) ["one", "two"]
  ratio_less : Fd K mg "ratio_less" (top 16) ["one", "two"]
  ratio_product : Fd K mg "ratio_product" (top 17) ["one", "two"]
  is_pair : Fd K mg "is_pair" (top 20) ["value"]
  square_of : Fd K mg "square_of" (top 21) ["pair"]
  is_round : Fd K mg "is_round" (top 22) ["value"]
  product_of : Fd K mg "product_of" (top 23) ["one", "two"]
  is_waved : Fd K mg "is_waved" (top 27) ["value"]
  powers_of : Fd K mg "powers_of" (top 28) ["turn", "many"]
  worth_at : Fd K mg "worth_at" (top 29) ["wave", "turn"]
  turned_pair : Fd K mg "turned_pair" (top 30) ["pair", "raised"]
  turned_by : Fd K mg "turned_by" (top 31) ["wave", "turn"]
  check_turn : Fd K mg "check_turn" (top 33) ["value"]
  check_wave : Fd K mg "check_wave" (top 34) ["value"]
  worth : Fd K mg "worth" (top 36) ["wave", "turn"]
  turned : ∃ (f : Addr) (fd : FuncData), Fun K "turned" "turned" (top 37) f fd ∧ mg "turned" = some (.ref f) ∧ Binds K fd ["wave", "turn"] [] ∧ KBinds K fd ["wave", "turn"] ["turn", "wave"] gSwap gSwapV
  well : Fd K mg "_law_well" (top 39) ["_law_script", "_law_lap"]
  dip : Fd K mg "_law_dip" (top 40) ["_law_well_here", "_law_many"]
  pick : Fd K mg "_law_pick" (top 41) ["_law_well_here", "_law_some"]
  common : Fd K mg "_law_common" (top 42) ["_law_one", "_law_two"]
  frac : Fd K mg "_law_frac" (top 43) ["_law_top", "_law_under"]
  low : Fd K mg "_law_low" (top 44) ["_law_well_here"]
  part : Fd K mg "_law_part" (top 45) ["_law_well_here"]
  half : Fd K mg "_law_half" (top 46) ["_law_well_here"]
  point : Fd K mg "_law_point" (top 47) ["_law_half_here"]
  turn : Fd K mg "_law_turn" (top 48) ["_law_point_here"]
  trim : Fd K mg "_law_trim" (top 49) ["_law_pairs"]
  wave : Fd K mg "_law_wave" (top 50) ["_law_well_here", "_law_most"]
  nums : Fd K mg "_law_nums" (top 51) ["_law_wave_here"]
  tops : Fd K mg "_law_tops" (top 52) ["_law_nums_here", "_law_point_here"]
  lworth : Fd K mg "_law_worth" (top 53) ["_law_wave_here", "_law_point_here"]
  add : Fd K mg "_law_add" (top 54) ["_law_one", "_law_two"]
  mul : Fd K mg "_law_mul" (top 55) ["_law_one", "_law_two"]
  wit : Fd K mg "_law_with" (top 56) ["_law_one", "_law_two"]
  moved : Fd K mg "_law_moved_on" (top 57) ["_law_some", "_law_point_here"]
  right : Fd K mg "_law_right" (top 58) ["_law_well_here"]
theorem the_law {P : Program} {w : World} {K : PySem.W.Frag} {mg : Str → Option Value} {base : Heap} {f : Addr} {fd : FuncData} (T : Txt K mg) (D : Defs K mg) (F : Fun K "law" "law" (top 59) f fd) :
    GnOk P w K mg base 9 f fd ["_law_script"] (spLaw K) := by
  have whole := kp_is_whole (P := P) (w := w) (base := base) T D.is_whole
  have wholes := kp_are_wholes T whole D.are_wholes
  have divisor := kp_divisor_of (P := P) (w := w) (base := base) T D.divisor_of
  have reduced := kp_is_reduced divisor D.is_reduced
  have isr := kp_is_ratio wholes reduced D.is_ratio
  have rat := kp_ratio divisor D.ratio
  have ar : Ar P w K mg base := ⟨rr_of (kp_ratio_sum rat D.ratio_sum), rr_of (kp_ratio_less rat D.ratio_less), rr_of (kp_ratio_product rat D.ratio_product)⟩
  have isp := kp_is_pair T isr D.is_pair
  have sq := kp_square_of ar D.square_of
  have rnd := kp_is_round T isp sq D.is_round
  have pr := kp_product_of ar D.product_of
  have wv := kp_is_waved T isr isp D.is_waved
  have pows := kp_powers_of T pr D.powers_of
  have wat := kp_worth_at T ar pows D.worth_at
  have tpr := kp_turned_pair ar D.turned_pair
  have tby := kp_turned_by T pows tpr D.turned_by
  have ct := kp_check_turn rnd D.check_turn
  have cw := kp_check_wave wv D.check_wave
  have wor := kp_worth cw ct wat D.worth
  obtain ⟨ft, fdt, Ft, mt, bt, kt⟩ := D.turned
  have okt : FnOk P w K mg base CX0 7 ft fdt ["wave", "turn"] (spTurn K) := ok_turned cw ct tby Ft
  have dip := kp_dip (P := P) (w := w) (base := base) T D.dip
  have pick := kp_pick T dip D.pick
  have common := kp_common (P := P) (w := w) (base := base) T D.common
  have frac := kp_frac common D.frac
  have low := kp_low dip pick D.low
  have part := kp_part low pick frac D.part
  have trim := kp_trim (P := P) (w := w) (base := base) T D.trim
  have well := kp_well (P := P) (w := w) (base := base) T D.well
  have ca : Calls P w K mg base :=
    { pick := pick
      wave := kp_wave T dip pick part trim D.wave
      half := kp_half dip pick D.half
      point := kp_point D.point
      turn := kp_turn frac D.turn
      moved := kp_moved_on T (rr_of (kp_add frac D.add)) (rq_of (kp_mul frac D.mul)) D.moved
      lw := kp_lw (kp_nums common D.nums) (kp_tops T D.tops) frac D.lworth
      wit := kp_with D.wit
      worth := wor
      turned := ⟨ft, fdt, okt, mt, Ft.kp, bt⟩
      turnedK := ⟨ft, fdt, okt, mt, Ft.kp, kt⟩
      well := well }
  exact gn_the_law T well (gp_right T ca D.right) F
theorem walk {l : PySem.W.OpenLaw} {q : Program} {loose : List Str} {XP : (Str → Option Value) → Heap → Prop} {YP : World → Heap → Prop} {d : DefRec} {K : Params → PySem.W.Frag} (hn : l.most = some 63) (hdf : d.params.defaults = [])
    (hY : ∀ (w : World) (h : Heap), YP w h → (K w.params).In h)
    (F : ∀ (w : World) (mg : Str → Option Value) (fa : Addr) (h : Heap), (K w.params).In h → h.Ns mainGlobals mg → mg d.name = some (.ref fa) →
      ∃ fd : FuncData, (∀ (s : Shared) (u : Value), BindsTo s fd ⟨[u], []⟩ [("_law_script", u)]) ∧ Txt (K w.params) mg ∧ Defs (K w.params) mg ∧ Fun (K w.params) "law" "law" (top 59) fa fd) :
    PySem.W.WalkO q loose XP YP l.row.toRowW d [] (fun f vs => PySem.call f vs) := by
  refine walk_g (n := 63) (k := 9) (x := "_law_script") (sp := spLaw) hn (by decide) hdf ⟨rfl, by decide, by decide⟩ hY ?_ (fun K H a ns hl hS => ⟨a, ns, rfl, hS, hl, fun _ => rfl⟩)
  intro w mg fa h kin hns hmg
  obtain ⟨fd, hb, T, D, F1⟩ := F w mg fa h kin hns hmg
  exact ⟨fd, hb, fun base _ _ => the_law T D F1⟩
end Kw
set_option maxHeartbeats 8000000
/-! KwW: the facts that the top leaves, as the defs want them. -/
namespace Kw
open PySem PySem.Spec PyProof.Rows L2
section
variable {K : PySem.W.Frag} {mg : Str → Option Value} {h : Heap}
theorem fd_mk {x : Str} {st : Stmt} {ps : List Str} {f : Addr} {oc : Value} {od an : Option Addr} {osl : Array (Option Value)} {kV doc pm cdv ct : Value} (X : K.In h) (G : h.Ns mainGlobals mg)
    (a : PySem.W.nsIn K mainGlobals x = some (some (.ref f))) (l : K.lookup f = some ⟨oc, od, .func (PySem.W.fnOf x x (defArgs st) (defBody st) (defScope st) .none kV doc pm an cdv ct), osl⟩)
    (c : PySem.W.codeIn K cdv x = true) (k : PySem.W.keepIn K (.ref f) = true)
    (hb : ∀ (kV doc pm : Value) (an : Option Addr) (cdv ct : Value) (us : List Value), us.length = ps.length → bindArgs (PySem.W.fnOf x x (defArgs st) (defBody st) (defScope st) .none kV doc pm an cdv ct) ⟨us, []⟩ = pure (ps.zip us)) : Fd K mg x st ps :=
  ⟨f, _, fun_mk l c k, PySem.W.mg_of X G a, (fun_mk l c k).binds hb⟩
theorem turned_mk {f : Addr} {oc : Value} {od an : Option Addr} {osl : Array (Option Value)} {kV doc pm cdv ct : Value} (X : K.In h) (G : h.Ns mainGlobals mg)
    (a : PySem.W.nsIn K mainGlobals "turned" = some (some (.ref f))) (l : K.lookup f = some ⟨oc, od, .func (PySem.W.fnOf "turned" "turned" (defArgs (top 37)) (defBody (top 37)) (defScope (top 37)) .none kV doc pm an cdv ct), osl⟩)
    (c : PySem.W.codeIn K cdv "turned" = true) (k : PySem.W.keepIn K (.ref f) = true) :
    ∃ (f : Addr) (fd : FuncData), Fun K "turned" "turned" (top 37) f fd ∧ mg "turned" = some (.ref f) ∧ Binds K fd ["wave", "turn"] [] ∧ KBinds K fd ["wave", "turn"] ["turn", "wave"] gSwap gSwapV := by
  refine ⟨f, _, fun_mk l c k, PySem.W.mg_of X G a, (fun_mk (st := top 37) l c k).binds (ps := ["wave", "turn"]) fun _ _ _ _ _ _ us hl => match us, hl with | [_, _], _ => rfl, ⟨fun s us ws _ hl => ?_, fun {vs us zs ws} r1 r2 => ?_⟩⟩
  · match us, ws, hl with
    | [], [u1, u2], _ => exact .of_eq rfl
    | [], [], hl => exact nomatch hl
    | [], [_], hl => exact nomatch hl
    | [], _ :: _ :: _ :: _, hl => exact nomatch hl
    | _ :: _, _, hl => exact nomatch hl
  · cases r1 with
    | cons _ _ => exact .nil
    | nil =>
      cases r2 with
      | nil => exact .nil
      | cons p1 r2 =>
        cases r2 with
        | nil => exact .nil
        | cons p2 r2 =>
          cases r2 with
          | nil => exact .cons p2 (.cons p1 .nil)
          | cons _ _ => exact .nil
theorem law_mk {f : Addr} {oc : Value} {od an : Option Addr} {osl : Array (Option Value)} {kV doc pm cdv ct : Value} {fa : Addr} (X : K.In h) (G : h.Ns mainGlobals mg) (hfa : mg "law" = some (.ref fa)) (T : Txt K mg) (D : Defs K mg)
    (a : PySem.W.nsIn K mainGlobals "law" = some (some (.ref f))) (l : K.lookup f = some ⟨oc, od, .func (PySem.W.fnOf "law" "law" (defArgs (top 59)) (defBody (top 59)) (defScope (top 59)) .none kV doc pm an cdv ct), osl⟩)
    (c : PySem.W.codeIn K cdv "law" = true) (k : PySem.W.keepIn K (.ref f) = true) :
    ∃ fd : FuncData, (∀ (s : Shared) (u : Value), BindsTo s fd ⟨[u], []⟩ [("_law_script", u)]) ∧ Txt K mg ∧ Defs K mg ∧ Fun K "law" "law" (top 59) fa fd := by
  have e := hfa.symm.trans (PySem.W.mg_of X G a)
  cases e
  exact ⟨_, fun s u => .of_eq rfl, T, D, fun_mk l c k⟩
theorem k_r {z : Addr} {d : Option Addr} {n m : Int} {t0 t1 : Tok} {e : Nat} {sl : Array (Option Value)} (l : K.lookup z = some ⟨.type "tuple", d, .seq #[.int n t0, .int m t1] e, sl⟩) (H : Hp) : IsI2 K H (.ref z) n m :=
  ⟨z, rfl, .inr ⟨_, _, _, l, rfl, rfl, by show 2 ≤ sizeLine; decide, .cons ⟨_, rfl⟩ (.cons ⟨_, rfl⟩ .nil)⟩⟩
theorem k_p {z u v : Addr} {d : Option Addr} {e : Nat} {sl : Array (Option Value)} {x y : Rat} (l : K.lookup z = some ⟨.type "tuple", d, .seq #[.ref u, .ref v] e, sl⟩) (hu : ∀ H, IsR K H (.ref u) x) (hv : ∀ H, IsR K H (.ref v) y) (H : Hp) : IsP K H (.ref z) (x, y) :=
  ⟨z, .ref u, .ref v, rfl, .inr ⟨_, _, _, l, rfl, rfl, by show 2 ≤ sizeLine; decide, .cons rfl (.cons rfl .nil)⟩, hu H, hv H⟩
theorem txt_mk (X : K.In h) (G : h.Ns mainGlobals mg) {zz zo zs zb : Addr} {d1 d2 d3 d4 : Option Addr} {t1 t2 t3 t4 t5 : Tok} {n1 n2 n3 n4 : Nat} {sl1 sl2 sl3 sl4 : Array (Option Value)}
    (isi : PySem.W.nsIn K mainGlobals "isinstance" = some none) (int : PySem.W.nsIn K mainGlobals "int" = some none) (bool : PySem.W.nsIn K mainGlobals "bool" = some none) (tuple : PySem.W.nsIn K mainGlobals "tuple" = some none)
    (len : PySem.W.nsIn K mainGlobals "len" = some none) (all : PySem.W.nsIn K mainGlobals "all" = some none) (zip : PySem.W.nsIn K mainGlobals "zip" = some none) (range : PySem.W.nsIn K mainGlobals "range" = some none)
    (abs : PySem.W.nsIn K mainGlobals "abs" = some none) (sum : PySem.W.nsIn K mainGlobals "sum" = some none) (divmod : PySem.W.nsIn K mainGlobals "divmod" = some none) (repr : PySem.W.nsIn K mainGlobals "repr" = some none)
    (gcd : PySem.W.nsIn K mainGlobals "gcd" = some (some (.builtin "math.gcd")))
    (az : PySem.W.nsIn K mainGlobals "ZERO" = some (some (.ref zz))) (lz : K.lookup zz = some ⟨.type "tuple", d1, .seq #[.int 0 t1, .int 1 t2] n1, sl1⟩)
    (ao : PySem.W.nsIn K mainGlobals "ONE" = some (some (.ref zo))) (lo : K.lookup zo = some ⟨.type "tuple", d2, .seq #[.int 1 t3, .int 1 t4] n2, sl2⟩)
    (as : PySem.W.nsIn K mainGlobals "START" = some (some (.ref zs))) (ls : K.lookup zs = some ⟨.type "tuple", d3, .seq #[.ref zo, .ref zz] n3, sl3⟩)
    (ab : PySem.W.nsIn K mainGlobals "BLANK" = some (some (.ref zb))) (lb : K.lookup zb = some ⟨.type "tuple", d4, .seq #[.ref zz, .ref zz] n4, sl4⟩)
    (am : PySem.W.nsIn K mainGlobals "MOST_PAIRS" = some (some (.int 8 t5))) : Txt K mg where
  isi := PySem.W.mg_none_of X G isi
  int := PySem.W.mg_none_of X G int
  bool := PySem.W.mg_none_of X G bool
  tuple := PySem.W.mg_none_of X G tuple
  len := PySem.W.mg_none_of X G len
  all := PySem.W.mg_none_of X G all
  zip := PySem.W.mg_none_of X G zip
  range := PySem.W.mg_none_of X G range
  abs := PySem.W.mg_none_of X G abs
  sum := PySem.W.mg_none_of X G sum
  divmod := PySem.W.mg_none_of X G divmod
  repr := PySem.W.mg_none_of X G repr
  gcd := PySem.W.mg_of X G gcd
  zero := ⟨zz, PySem.W.mg_of X G az, k_r lz⟩
  one := ⟨zo, PySem.W.mg_of X G ao, k_r lo⟩
  start := ⟨zs, PySem.W.mg_of X G as, k_p ls (k_r lo) (k_r lz)⟩
  blank := ⟨zb, PySem.W.mg_of X G ab, k_p lb (k_r lz) (k_r lz)⟩
  most := ⟨t5, PySem.W.mg_of X G am⟩
end
end Kw
section
open PySem PySem.W PyProof.Rows
set_option maxHeartbeats 0
open_top kwHead for PySem.Challenge.rw_framecams_k09_whole_turned_waves
end
open PySem PySem.W PyProof.Rows in
set_option maxRecDepth 100000 in
set_option maxHeartbeats 0 in
theorem PySem.Challenge.cw_framecams_k09_whole_turned_waves_holds : PySem.Challenge.rw_framecams_k09_whole_turned_waves.Holds := by
  refine kwHead ?_
  k_fill
  refine Kw.walk (l := PySem.Challenge.rw_framecams_k09_whole_turned_waves) rfl rfl (fun w h Y => PySem.W.kIn_of Y) ?F
  case F =>
    intro w mg fa h KX G hmg
    refine' Kw.law_mk KX G hmg ?txt ?defs ?a ?l ?c ?k
    case txt =>
      refine' Kw.txt_mk KX G ?isi ?int ?bool ?tuple ?len ?all ?zip ?range ?abs ?sum ?divmod ?repr ?gcd ?az ?lz ?ao ?lo ?as ?ls ?ab ?lb ?am
      (case isi => k_is)
      (case int => k_is)
      (case bool => k_is)
      (case tuple => k_is)
      (case len => k_is)
      (case all => k_is)
      (case zip => k_is)
      (case range => k_is)
      (case abs => k_is)
      (case sum => k_is)
      (case divmod => k_is)
      (case repr => k_is)
      (case gcd => k_is)
      (case az => k_is)
      (case lz => k_is)
      (case ao => k_is)
      (case lo => k_is)
      (case as => k_is)
      (case ls => k_is)
      (case ab => k_is)
      (case lb => k_is)
      (case am => k_is)
    case defs =>
      constructor
      · refine' Kw.fd_mk KX G ?a0 ?l0 ?c0 ?k0 (fun _ _ _ _ _ _ us hl => match us, hl with | [_], _ => rfl)
        (case a0 => k_is)
        (case l0 => k_is)
        (case c0 => k_is)
        (case k0 => k_is)
      · refine' Kw.fd_mk KX G ?a1 ?l1 ?c1 ?k1 (fun _ _ _ _ _ _ us hl => match us, hl with | [_, _], _ => rfl)
        (case a1 => k_is)
        (case l1 => k_is)
        (case c1 => k_is)
        (case k1 => k_is)
      · refine' Kw.fd_mk KX G ?a2 ?l2 ?c2 ?k2 (fun _ _ _ _ _ _ us hl => match us, hl with | [_], _ => rfl)
        (case a2 => k_is)
        (case l2 => k_is)
        (case c2 => k_is)
        (case k2 => k_is)
      · refine' Kw.fd_mk KX G ?a3 ?l3 ?c3 ?k3 (fun _ _ _ _ _ _ us hl => match us, hl with | [_], _ => rfl)
        (case a3 => k_is)
        (case l3 => k_is)
        (case c3 => k_is)
        (case k3 => k_is)
      · refine' Kw.fd_mk KX G ?a4 ?l4 ?c4 ?k4 (fun _ _ _ _ _ _ us hl => match us, hl with | [_], _ => rfl)
        (case a4 => k_is)
        (case l4 => k_is)
        (case c4 => k_is)
        (case k4 => k_is)
      · refine' Kw.fd_mk KX G ?a5 ?l5 ?c5 ?k5 (fun _ _ _ _ _ _ us hl => match us, hl with | [_, _], _ => rfl)
        (case a5 => k_is)
        (case l5 => k_is)
        (case c5 => k_is)
        (case k5 => k_is)
      · refine' Kw.fd_mk KX G ?a6 ?l6 ?c6 ?k6 (fun _ _ _ _ _ _ us hl => match us, hl with | [_, _], _ => rfl)
        (case a6 => k_is)
        (case l6 => k_is)
        (case c6 => k_is)
        (case k6 => k_is)
      · refine' Kw.fd_mk KX G ?a7 ?l7 ?c7 ?k7 (fun _ _ _ _ _ _ us hl => match us, hl with | [_, _], _ => rfl)
        (case a7 => k_is)
        (case l7 => k_is)
        (case c7 => k_is)
        (case k7 => k_is)
      · refine' Kw.fd_mk KX G ?a8 ?l8 ?c8 ?k8 (fun _ _ _ _ _ _ us hl => match us, hl with | [_, _], _ => rfl)
        (case a8 => k_is)
        (case l8 => k_is)
        (case c8 => k_is)
        (case k8 => k_is)
      · refine' Kw.fd_mk KX G ?a9 ?l9 ?c9 ?k9 (fun _ _ _ _ _ _ us hl => match us, hl with | [_], _ => rfl)
        (case a9 => k_is)
        (case l9 => k_is)
        (case c9 => k_is)
        (case k9 => k_is)
      · refine' Kw.fd_mk KX G ?a10 ?l10 ?c10 ?k10 (fun _ _ _ _ _ _ us hl => match us, hl with | [_], _ => rfl)
        (case a10 => k_is)
        (case l10 => k_is)
        (case c10 => k_is)
        (case k10 => k_is)
      · refine' Kw.fd_mk KX G ?a11 ?l11 ?c11 ?k11 (fun _ _ _ _ _ _ us hl => match us, hl with | [_], _ => rfl)
        (case a11 => k_is)
        (case l11 => k_is)
        (case c11 => k_is)
        (case k11 => k_is)
      · refine' Kw.fd_mk KX G ?a12 ?l12 ?c12 ?k12 (fun _ _ _ _ _ _ us hl => match us, hl with | [_, _], _ => rfl)
        (case a12 => k_is)
        (case l12 => k_is)
        (case c12 => k_is)
        (case k12 => k_is)
      · refine' Kw.fd_mk KX G ?a13 ?l13 ?c13 ?k13 (fun _ _ _ _ _ _ us hl => match us, hl with | [_], _ => rfl)
        (case a13 => k_is)
        (case l13 => k_is)
        (case c13 => k_is)
        (case k13 => k_is)
      · refine' Kw.fd_mk KX G ?a14 ?l14 ?c14 ?k14 (fun _ _ _ _ _ _ us hl => match us, hl with | [_, _], _ => rfl)
        (case a14 => k_is)
        (case l14 => k_is)
        (case c14 => k_is)
        (case k14 => k_is)
      · refine' Kw.fd_mk KX G ?a15 ?l15 ?c15 ?k15 (fun _ _ _ _ _ _ us hl => match us, hl with | [_, _], _ => rfl)
        (case a15 => k_is)
        (case l15 => k_is)
        (case c15 => k_is)
        (case k15 => k_is)
      · refine' Kw.fd_mk KX G ?a16 ?l16 ?c16 ?k16 (fun _ _ _ _ _ _ us hl => match us, hl with | [_, _], _ => rfl)
        (case a16 => k_is)
        (case l16 => k_is)
        (case c16 => k_is)
        (case k16 => k_is)
      · refine' Kw.fd_mk KX G ?a17 ?l17 ?c17 ?k17 (fun _ _ _ _ _ _ us hl => match us, hl with | [_, _], _ => rfl)
        (case a17 => k_is)
        (case l17 => k_is)
        (case c17 => k_is)
        (case k17 => k_is)
      · refine' Kw.fd_mk KX G ?a18 ?l18 ?c18 ?k18 (fun _ _ _ _ _ _ us hl => match us, hl with | [_], _ => rfl)
        (case a18 => k_is)
        (case l18 => k_is)
        (case c18 => k_is)
        (case k18 => k_is)
      · refine' Kw.fd_mk KX G ?a19 ?l19 ?c19 ?k19 (fun _ _ _ _ _ _ us hl => match us, hl with | [_], _ => rfl)
        (case a19 => k_is)
        (case l19 => k_is)
        (case c19 => k_is)
        (case k19 => k_is)
      · refine' Kw.fd_mk KX G ?a20 ?l20 ?c20 ?k20 (fun _ _ _ _ _ _ us hl => match us, hl with | [_, _], _ => rfl)
        (case a20 => k_is)
        (case l20 => k_is)
        (case c20 => k_is)
        (case k20 => k_is)
      · refine' Kw.turned_mk KX G ?a99 ?l99 ?c99 ?k99
        (case a99 => k_is)
        (case l99 => k_is)
        (case c99 => k_is)
        (case k99 => k_is)
      · refine' Kw.fd_mk KX G ?a22 ?l22 ?c22 ?k22 (fun _ _ _ _ _ _ us hl => match us, hl with | [_, _], _ => rfl)
        (case a22 => k_is)
        (case l22 => k_is)
        (case c22 => k_is)
        (case k22 => k_is)
      · refine' Kw.fd_mk KX G ?a23 ?l23 ?c23 ?k23 (fun _ _ _ _ _ _ us hl => match us, hl with | [_, _], _ => rfl)
        (case a23 => k_is)
        (case l23 => k_is)
        (case c23 => k_is)
        (case k23 => k_is)
      · refine' Kw.fd_mk KX G ?a24 ?l24 ?c24 ?k24 (fun _ _ _ _ _ _ us hl => match us, hl with | [_, _], _ => rfl)
        (case a24 => k_is)
        (case l24 => k_is)
        (case c24 => k_is)
        (case k24 => k_is)
      · refine' Kw.fd_mk KX G ?a25 ?l25 ?c25 ?k25 (fun _ _ _ _ _ _ us hl => match us, hl with | [_, _], _ => rfl)
        (case a25 => k_is)
        (case l25 => k_is)
        (case c25 => k_is)
        (case k25 => k_is)
      · refine' Kw.fd_mk KX G ?a26 ?l26 ?c26 ?k26 (fun _ _ _ _ _ _ us hl => match us, hl with | [_, _], _ => rfl)
        (case a26 => k_is)
        (case l26 => k_is)
        (case c26 => k_is)
        (case k26 => k_is)
      · refine' Kw.fd_mk KX G ?a27 ?l27 ?c27 ?k27 (fun _ _ _ _ _ _ us hl => match us, hl with | [_], _ => rfl)
        (case a27 => k_is)
        (case l27 => k_is)
        (case c27 => k_is)
        (case k27 => k_is)
      · refine' Kw.fd_mk KX G ?a28 ?l28 ?c28 ?k28 (fun _ _ _ _ _ _ us hl => match us, hl with | [_], _ => rfl)
        (case a28 => k_is)
        (case l28 => k_is)
        (case c28 => k_is)
        (case k28 => k_is)
      · refine' Kw.fd_mk KX G ?a29 ?l29 ?c29 ?k29 (fun _ _ _ _ _ _ us hl => match us, hl with | [_], _ => rfl)
        (case a29 => k_is)
        (case l29 => k_is)
        (case c29 => k_is)
        (case k29 => k_is)
      · refine' Kw.fd_mk KX G ?a30 ?l30 ?c30 ?k30 (fun _ _ _ _ _ _ us hl => match us, hl with | [_], _ => rfl)
        (case a30 => k_is)
        (case l30 => k_is)
        (case c30 => k_is)
        (case k30 => k_is)
      · refine' Kw.fd_mk KX G ?a31 ?l31 ?c31 ?k31 (fun _ _ _ _ _ _ us hl => match us, hl with | [_], _ => rfl)
        (case a31 => k_is)
        (case l31 => k_is)
        (case c31 => k_is)
        (case k31 => k_is)
      · refine' Kw.fd_mk KX G ?a32 ?l32 ?c32 ?k32 (fun _ _ _ _ _ _ us hl => match us, hl with | [_], _ => rfl)
        (case a32 => k_is)
        (case l32 => k_is)
        (case c32 => k_is)
        (case k32 => k_is)
      · refine' Kw.fd_mk KX G ?a33 ?l33 ?c33 ?k33 (fun _ _ _ _ _ _ us hl => match us, hl with | [_, _], _ => rfl)
        (case a33 => k_is)
        (case l33 => k_is)
        (case c33 => k_is)
        (case k33 => k_is)
      · refine' Kw.fd_mk KX G ?a34 ?l34 ?c34 ?k34 (fun _ _ _ _ _ _ us hl => match us, hl with | [_], _ => rfl)
        (case a34 => k_is)
        (case l34 => k_is)
        (case c34 => k_is)
        (case k34 => k_is)
      · refine' Kw.fd_mk KX G ?a35 ?l35 ?c35 ?k35 (fun _ _ _ _ _ _ us hl => match us, hl with | [_, _], _ => rfl)
        (case a35 => k_is)
        (case l35 => k_is)
        (case c35 => k_is)
        (case k35 => k_is)
      · refine' Kw.fd_mk KX G ?a36 ?l36 ?c36 ?k36 (fun _ _ _ _ _ _ us hl => match us, hl with | [_, _], _ => rfl)
        (case a36 => k_is)
        (case l36 => k_is)
        (case c36 => k_is)
        (case k36 => k_is)
      · refine' Kw.fd_mk KX G ?a37 ?l37 ?c37 ?k37 (fun _ _ _ _ _ _ us hl => match us, hl with | [_, _], _ => rfl)
        (case a37 => k_is)
        (case l37 => k_is)
        (case c37 => k_is)
        (case k37 => k_is)
      · refine' Kw.fd_mk KX G ?a38 ?l38 ?c38 ?k38 (fun _ _ _ _ _ _ us hl => match us, hl with | [_, _], _ => rfl)
        (case a38 => k_is)
        (case l38 => k_is)
        (case c38 => k_is)
        (case k38 => k_is)
      · refine' Kw.fd_mk KX G ?a39 ?l39 ?c39 ?k39 (fun _ _ _ _ _ _ us hl => match us, hl with | [_, _], _ => rfl)
        (case a39 => k_is)
        (case l39 => k_is)
        (case c39 => k_is)
        (case k39 => k_is)
      · refine' Kw.fd_mk KX G ?a40 ?l40 ?c40 ?k40 (fun _ _ _ _ _ _ us hl => match us, hl with | [_, _], _ => rfl)
        (case a40 => k_is)
        (case l40 => k_is)
        (case c40 => k_is)
        (case k40 => k_is)
      · refine' Kw.fd_mk KX G ?a41 ?l41 ?c41 ?k41 (fun _ _ _ _ _ _ us hl => match us, hl with | [_], _ => rfl)
        (case a41 => k_is)
        (case l41 => k_is)
        (case c41 => k_is)
        (case k41 => k_is)
    (case a => k_is)
    (case l => k_is)
    (case c => k_is)
    (case k => k_is)
#print axioms PySem.Challenge.cw_framecams_k09_whole_turned_waves_holds
