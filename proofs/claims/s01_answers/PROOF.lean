import PyProof.Rows.All
import Wide.All
import OpenK.AllK
import Wide.FinOn
import PyProof.EqAt
import PyProof.EqKinds
import PyProof.TupleCall
import Open.SpecLaws
import KE.OsGo
import PyWideLaws
import HandS.ForSpec
import HandS.Comp
import HandS.Wide
import HandS.ExcSuper
import HandS.ExcInit
import HandS.ExcField
import HandS.NoneIn
import PySem.Challenge.RW_threebouts_s01_answers
set_option Elab.async false
set_option linter.all false
set_option maxRecDepth 100000
set_option maxHeartbeats 4000000
set_option exponentiation.threshold 10000
namespace Tb
open Sj12
/-! ### fractions -/
def fOne : Frac := ⟨1, 1⟩
def fNil : Frac := ⟨0, 1⟩
def plusF (u v : Frac) : Frac := frac (u.n * v.d + v.n * u.d) (u.d * v.d)
def timesF (u v : Frac) : Frac := frac (u.n * v.n) (u.d * v.d)
def overF (u v : Frac) : Frac := frac (u.n * v.d) (u.d * v.n)
def restF (u : Frac) : Frac := frac (u.d - u.n) u.d
theorem frac_pos {n d : Nat} (hd : 0 < d) : frac n d = ⟨n / Nat.gcd n d, d / Nat.gcd n d⟩ := by
  have g : Nat.gcd n d ≠ 0 := fun e => by
    have := Nat.gcd_eq_zero_iff.mp e
    omega
  show (if Nat.gcd n d = 0 then (⟨0, 1⟩ : Frac) else ⟨n / Nat.gcd n d, d / Nat.gcd n d⟩) = _
  rw [if_neg g]
theorem gcd_pos' {n d : Nat} (hd : 0 < d) : 0 < Nat.gcd n d := Nat.gcd_pos_of_pos_right _ hd
theorem frac_d {n d : Nat} (hd : 0 < d) : 0 < (frac n d).d := by
  rw [frac_pos hd]
  exact Nat.div_pos (Nat.le_of_dvd hd (Nat.gcd_dvd_right n d)) (gcd_pos' hd)
theorem frac_le {n d : Nat} (hd : 0 < d) : (frac n d).n ≤ n ∧ (frac n d).d ≤ d := by
  rw [frac_pos hd]
  exact ⟨Nat.div_le_self _ _, Nat.div_le_self _ _⟩
/-- the common factor -/
theorem frac_by {n d : Nat} (hd : 0 < d) : ∃ g, 0 < g ∧ n = (frac n d).n * g ∧ d = (frac n d).d * g := by
  refine ⟨Nat.gcd n d, gcd_pos' hd, ?_, ?_⟩
  · rw [frac_pos hd]
    exact (Nat.div_mul_cancel (Nat.gcd_dvd_left n d)).symm
  · rw [frac_pos hd]
    exact (Nat.div_mul_cancel (Nat.gcd_dvd_right n d)).symm
theorem frac_mul {n d g : Nat} (hd : 0 < d) (hg : 0 < g) : frac (n * g) (d * g) = frac n d := by
  rw [frac_pos (Nat.mul_pos hd hg), frac_pos hd, Nat.gcd_mul_right]
  rw [Nat.mul_div_mul_right _ _ hg, Nat.mul_div_mul_right _ _ hg]
/-- equal by crosswise products -/
theorem frac_eq {n d m e : Nat} (hd : 0 < d) (he : 0 < e) (h : n * e = m * d) : frac n d = frac m e := by
  rw [← frac_mul (n := n) hd he, h, Nat.mul_comm d e]
  exact frac_mul he hd
theorem frac_self {n d : Nat} (hd : 0 < d) : frac (frac n d).n (frac n d).d = frac n d := by
  obtain ⟨g, hg, e1, e2⟩ := frac_by (n := n) hd
  have h := frac_mul (n := (frac n d).n) (g := g) (frac_d (n := n) hd) hg
  rw [← e1, ← e2] at h
  exact h.symm
/-- in lowest terms -/
def Low (u : Frac) : Prop := 0 < u.d ∧ frac u.n u.d = u
theorem low_frac {n d : Nat} (hd : 0 < d) : Low (frac n d) := ⟨frac_d hd, frac_self hd⟩
theorem low_one : Low fOne := ⟨by decide, by decide⟩
theorem low_nil : Low fNil := ⟨by decide, by decide⟩
theorem cross {n d : Nat} (hd : 0 < d) : (frac n d).n * d = n * (frac n d).d := by
  obtain ⟨g, hg, e1, e2⟩ := frac_by (n := n) hd
  have : (frac n d).n * d = (frac n d).n * ((frac n d).d * g) := by rw [← e2]
  rw [this]
  have : n * (frac n d).d = (frac n d).n * g * (frac n d).d := by rw [← e1]
  rw [this]
  grind
theorem times_frac {a b c d : Nat} (hb : 0 < b) (hd : 0 < d) : timesF (frac a b) (frac c d) = frac (a * c) (b * d) := by
  have h1 := cross (n := a) hb
  have h2 := cross (n := c) hd
  refine frac_eq (Nat.mul_pos (frac_d hb) (frac_d hd)) (Nat.mul_pos hb hd) ?_
  calc (frac a b).n * (frac c d).n * (b * d) = ((frac a b).n * b) * ((frac c d).n * d) := by grind
    _ = (a * (frac a b).d) * (c * (frac c d).d) := by rw [h1, h2]
    _ = a * c * ((frac a b).d * (frac c d).d) := by grind
theorem plus_frac {a b c d : Nat} (hb : 0 < b) (hd : 0 < d) : plusF (frac a b) (frac c d) = frac (a * d + c * b) (b * d) := by
  have h1 := cross (n := a) hb
  have h2 := cross (n := c) hd
  refine frac_eq (Nat.mul_pos (frac_d hb) (frac_d hd)) (Nat.mul_pos hb hd) ?_
  calc ((frac a b).n * (frac c d).d + (frac c d).n * (frac a b).d) * (b * d) = ((frac a b).n * b) * ((frac c d).d * d) + ((frac c d).n * d) * ((frac a b).d * b) := by grind
    _ = (a * (frac a b).d) * ((frac c d).d * d) + (c * (frac c d).d) * ((frac a b).d * b) := by rw [h1, h2]
    _ = (a * d + c * b) * ((frac a b).d * (frac c d).d) := by grind
theorem frac_n0 {n d : Nat} (hd : 0 < d) (hn : 0 < n) : 0 < (frac n d).n := by
  rw [frac_pos hd]
  exact Nat.div_pos (Nat.le_of_dvd hn (Nat.gcd_dvd_left n d)) (gcd_pos' hd)
theorem over_frac {a b c d : Nat} (hb : 0 < b) (hd : 0 < d) (hc : 0 < c) : overF (frac a b) (frac c d) = frac (a * d) (b * c) := by
  have h1 := cross (n := a) hb
  have h2 := cross (n := c) hd
  refine frac_eq (Nat.mul_pos (frac_d hb) (frac_n0 hd hc)) (Nat.mul_pos hb hc) ?_
  calc (frac a b).n * (frac c d).d * (b * c) = ((frac a b).n * b) * (c * (frac c d).d) := by grind
    _ = (a * (frac a b).d) * ((frac c d).n * d) := by rw [h1, h2]
    _ = a * d * ((frac a b).d * (frac c d).n) := by grind
theorem frac_nd {n d : Nat} (hd : 0 < d) (h : n ≤ d) : (frac n d).n ≤ (frac n d).d := by
  rw [frac_pos hd]
  exact Nat.div_le_div_right h
theorem rest_frac {a b : Nat} (hb : 0 < b) (h : a ≤ b) : restF (frac a b) = frac (b - a) b := by
  obtain ⟨g, hg, e1, e2⟩ := frac_by (n := a) hb
  have h0 := frac_nd hb h
  have h1 : b - a = ((frac a b).d - (frac a b).n) * g := by
    rw [Nat.sub_mul, ← e1, ← e2]
  have h2 : frac (b - a) b = frac (((frac a b).d - (frac a b).n) * g) ((frac a b).d * g) := by rw [← h1, ← e2]
  rw [h2, frac_mul (frac_d hb) hg]
  rfl
theorem one_frac : fOne = frac 1 1 := by decide
theorem nil_frac : fNil = frac 0 1 := by decide
theorem frac_inj {a b c d : Nat} (hb : 0 < b) (hd : 0 < d) (h : frac a b = frac c d) : a * d = c * b := by
  obtain ⟨g, hg, e1, e2⟩ := frac_by (n := a) hb
  obtain ⟨k, hk, e3, e4⟩ := frac_by (n := c) hd
  rw [← h] at e3 e4
  have q : ∀ x y : Nat, a = x * g → b = y * g → c = x * k → d = y * k → a * d = c * b := by
    intro x y h1 h2 h3 h4
    subst h1 h2 h3 h4
    grind
  exact q _ _ e1 e2 e3 e4
end Tb
namespace Tb
open Sj12
/-! ### the chances -/
def beatsF (t : Three) (i k : Nat) : Frac := frac (t.wins i k) 100
def three (t : Three) (i k : Nat) : List (Nat × Frac) := [(i, beatsF t i (other i k)), (other i k, beatsF t (other i k) k), (k, beatsF t k i)]
def roundF (t : Three) (i k : Nat) : Frac := (three t i k).foldl (fun f p => timesF f (restF p.2)) fOne
def bStep (x : Nat) (s : Frac × Frac) (p : Nat × Frac) : Frac × Frac := (timesF s.1 (restF p.2), if p.1 = x then timesF s.1 p.2 else s.2)
def behindF (t : Three) (i k x : Nat) : Frac := let s := (three t i k).foldl (bStep x) (fOne, fNil)
  overF s.2 (restF s.1)
def lStep (s : Frac × Frac) (p : Nat × Frac) : Frac × Frac := (timesF s.1 (restF p.2), plusF s.2 s.1)
def longF (t : Three) (i k : Nat) : Frac := let s := (three t i k).foldl lStep (fOne, fNil)
  overF s.2 (restF s.1)
def firstL (t : Three) (i k : Nat) : List (Nat × Nat × Frac) := [(i, k, beatsF t i k), (k, i, beatsF t k i)]
def isWay (p : Nat × Nat × Frac) : Bool := !decide (p.2.2 = fNil)
def firstF (t : Three) (i k : Nat) : List (Nat × Nat × Frac) := (firstL t i k).filter isWay
def goes (t : Three) (p : Nat × Nat × Frac) : Bool := decide (roundF t p.1 p.2.1 = fOne)
def mayF (t : Three) (i k : Nat) : Bool := ((firstF t i k).map (goes t)).any id
def oddsF (t : Three) (i k x : Nat) : Frac := (firstF t i k).foldl (fun f p => plusF f (timesF p.2.2 (behindF t p.1 p.2.1 x))) fNil
def lastF (t : Three) (i k : Nat) : Frac := (firstF t i k).foldl (fun f p => plusF f (timesF p.2.2 (longF t p.1 p.2.1))) fOne
def twoOf (w : Nat) : List Nat := [0, 1, 2].filter fun o => !decide (o = w)
def bestStep (t : Three) (x : Nat) (m : Option (Nat × Frac)) (w : Nat) : Option (Nat × Frac) :=
  let i := (twoOf w).getD 0 0
  let k := (twoOf w).getD 1 0
  if mayF t i k = true then m else match m with
    | none => some (w, oddsF t i k x)
    | some z => if less z.2 (oddsF t i k x) = true then some (w, oddsF t i k x) else some z
def bestF (t : Three) (x : Nat) : Option (Nat × Frac) := [0, 1, 2].foldl (bestStep t x) none
/-- a hundred bouts of each two -/
def Good (t : Three) : Prop := t.a ≤ 100 ∧ t.b ≤ 100 ∧ t.c ≤ 100
/-- two of three -/
def Two (i k : Nat) : Prop := i < 3 ∧ k < 3 ∧ i ≠ k
theorem Two.swap {i k : Nat} (h : Two i k) : Two k i := ⟨h.2.1, h.1, fun e => h.2.2 e.symm⟩
theorem two_cases {i k : Nat} (h : Two i k) : (i = 0 ∧ k = 1) ∨ (i = 1 ∧ k = 2) ∨ (i = 2 ∧ k = 0) ∨ (i = 1 ∧ k = 0) ∨ (i = 2 ∧ k = 1) ∨ (i = 0 ∧ k = 2) := by
  obtain ⟨h1, h2, h3⟩ := h
  omega
theorem wins_le {t : Three} (g : Good t) (i k : Nat) : t.wins i k ≤ 100 := by
  obtain ⟨g1, g2, g3⟩ := g
  unfold Three.wins
  repeat (first | split | omega)
theorem wins_swap {t : Three} {i k : Nat} (g : Good t) (h : Two i k) : t.wins k i = 100 - t.wins i k := by
  obtain ⟨g1, g2, g3⟩ := g
  rcases two_cases h with ⟨rfl, rfl⟩ | ⟨rfl, rfl⟩ | ⟨rfl, rfl⟩ | ⟨rfl, rfl⟩ | ⟨rfl, rfl⟩ | ⟨rfl, rfl⟩ <;> simp [Three.wins] <;> omega
theorem two_ij {i k : Nat} (h : Two i k) : Two i (other i k) := by
  rcases two_cases h with ⟨rfl, rfl⟩ | ⟨rfl, rfl⟩ | ⟨rfl, rfl⟩ | ⟨rfl, rfl⟩ | ⟨rfl, rfl⟩ | ⟨rfl, rfl⟩ <;> exact ⟨by decide, by decide, by decide⟩
theorem two_jk {i k : Nat} (h : Two i k) : Two (other i k) k := by
  rcases two_cases h with ⟨rfl, rfl⟩ | ⟨rfl, rfl⟩ | ⟨rfl, rfl⟩ | ⟨rfl, rfl⟩ | ⟨rfl, rfl⟩ | ⟨rfl, rfl⟩ <;> exact ⟨by decide, by decide, by decide⟩
theorem low_beats (t : Three) (i k : Nat) : Low (beatsF t i k) := low_frac (by decide)
/-- the three chances of a round, by numbers -/
structure Rd3 (t : Three) (i k : Nat) (p q r : Nat) : Prop where
  wp : t.wins i (other i k) = p
  wq : t.wins (other i k) k = q
  wr : t.wins k i = r
  vp : t.wins (other i k) i = 100 - p
  vq : t.wins k (other i k) = 100 - q
  vr : t.wins i k = 100 - r
  lp : p ≤ 100
  lq : q ≤ 100
  lr : r ≤ 100
theorem rd3 {t : Three} {i k : Nat} (g : Good t) (h : Two i k) : Rd3 t i k (t.wins i (other i k)) (t.wins (other i k) k) (t.wins k i) :=
  ⟨rfl, rfl, rfl, wins_swap g (two_ij h), wins_swap g (two_jk h), wins_swap g h.swap, wins_le g _ _, wins_le g _ _, wins_le g _ _⟩
section
variable {t : Three} {i k p q r : Nat}
theorem Rd3.three (R : Rd3 t i k p q r) : three t i k = [(i, frac p 100), (other i k, frac q 100), (k, frac r 100)] := by
  unfold Tb.three beatsF
  rw [R.wp, R.wq, R.wr]
theorem rest100 {p : Nat} (h : p ≤ 100) : restF (frac p 100) = frac (100 - p) 100 := rest_frac (by decide) h
theorem r1 {p : Nat} (h : p ≤ 100) : timesF fOne (restF (frac p 100)) = frac (100 - p) 100 := by
  rw [rest100 h, one_frac, times_frac (by decide) (by decide)]
  exact congrArg (fun z => frac z 100) (by omega)
theorem r2 {p q : Nat} (h : p ≤ 100) (h2 : q ≤ 100) : timesF (timesF fOne (restF (frac p 100))) (restF (frac q 100)) = frac ((100 - p) * (100 - q)) 10000 := by
  rw [r1 h, rest100 h2, times_frac (by decide) (by decide)]
theorem r3 {p q r : Nat} (h : p ≤ 100) (h2 : q ≤ 100) (h3 : r ≤ 100) : timesF (timesF (timesF fOne (restF (frac p 100))) (restF (frac q 100))) (restF (frac r 100)) = frac ((100 - p) * (100 - q) * (100 - r)) 1000000 := by
  rw [r2 h h2, rest100 h3, times_frac (by decide) (by decide)]
theorem Rd3.back (R : Rd3 t i k p q r) : t.back i k = (100 - p) * (100 - q) * (100 - r) := by
  show t.wins (other i k) i * (t.wins k (other i k) * t.wins i k) = _
  rw [R.vp, R.vq, R.vr, Nat.mul_assoc]
theorem back_le {p q r : Nat} : (100 - p) * (100 - q) * (100 - r) ≤ 1000000 := by
  have h : (100 - p) * (100 - q) ≤ 100 * 100 := Nat.mul_le_mul (by omega) (by omega)
  have h2 : (100 - p) * (100 - q) * (100 - r) ≤ 100 * 100 * 100 := Nat.mul_le_mul h (by omega)
  exact h2
theorem Rd3.round (R : Rd3 t i k p q r) : roundF t i k = frac (t.back i k) 1000000 := by
  unfold roundF
  rw [R.three, R.back]
  exact r3 R.lp R.lq R.lr
theorem Rd3.roundOne (R : Rd3 t i k p q r) : roundF t i k = fOne ↔ 1000000 - t.back i k = 0 := by
  rw [R.round, one_frac]
  have hb := back_le (p := p) (q := q) (r := r)
  rw [← R.back] at hb
  constructor
  · intro h
    have e := frac_inj (by decide) (by decide) h
    omega
  · intro h
    exact frac_eq (by decide) (by decide) (by omega)
theorem rest6 {m : Nat} (h : m ≤ 1000000) : restF (frac m 1000000) = frac (1000000 - m) 1000000 := rest_frac (by decide) h
theorem other_ne {i k : Nat} (h : Two i k) : other i k ≠ i ∧ other i k ≠ k := ⟨fun e => (two_ij h).2.2 e.symm, (two_jk h).2.2⟩
theorem Rd3.behind (R : Rd3 t i k p q r) (h : Two i k) {x : Nat} (hx : x < 3) (h0 : ¬ 1000000 - t.back i k = 0) : t.from_ i k x = some (behindF t i k x) := by
  have hb := back_le (p := p) (q := q) (r := r)
  rw [← R.back] at hb
  obtain ⟨n1, n2⟩ := other_ne h
  have h3 := h.2.2
  show (if 1000000 - t.back i k = 0 then none else some (frac (if x = i then t.at_ i k else if x = k then t.last i k else t.next i k) (1000000 - t.back i k))) = _
  rw [if_neg h0]
  refine congrArg some ?_
  unfold behindF
  rw [R.three]
  show _ = overF (if k = x then timesF (timesF (timesF fOne (restF (frac p 100))) (restF (frac q 100))) (frac r 100) else if other i k = x then timesF (timesF fOne (restF (frac p 100))) (frac q 100) else if i = x then timesF fOne (frac p 100) else fNil) (restF (timesF (timesF (timesF fOne (restF (frac p 100))) (restF (frac q 100))) (restF (frac r 100))))
  rw [r3 R.lp R.lq R.lr, r2 R.lp R.lq, r1 R.lp, ← R.back, rest6 hb]
  have hx3 : x = i ∨ x = k ∨ x = other i k := by
    unfold other
    obtain ⟨a, b, c⟩ := h
    omega
  rcases hx3 with rfl | rfl | rfl
  · rw [if_pos rfl, if_neg (fun e => h3 e.symm), if_neg n1, if_pos rfl, one_frac, times_frac (by decide) (by decide), over_frac (by decide) (by decide) (by omega)]
    refine frac_eq (by omega) (Nat.mul_pos (by decide) (by omega)) ?_
    unfold Three.at_
    rw [R.wp]
    grind
  · rw [if_neg (fun e => h3 e.symm), if_pos rfl, if_pos rfl, times_frac (by decide) (by decide), over_frac (by decide) (by decide) (by omega)]
    refine frac_eq (by omega) (Nat.mul_pos (by decide) (by omega)) ?_
    show t.wins (other i x) i * (t.wins x (other i x) * t.wins x i) * _ = _
    rw [R.vp, R.vq, R.wr]
    grind
  · rw [if_neg n1, if_neg n2, if_neg (fun e => n2 e.symm), if_pos rfl, times_frac (by decide) (by decide), over_frac (by decide) (by decide) (by omega)]
    refine frac_eq (by omega) (Nat.mul_pos (by decide) (by omega)) ?_
    show 100 * (t.wins (other i k) i * t.wins (other i k) k) * _ = _
    rw [R.vp, R.wq]
    grind
theorem Rd3.longer (R : Rd3 t i k p q r) (h0 : ¬ 1000000 - t.back i k = 0) : t.longFrom i k = some (longF t i k) := by
  have hb := back_le (p := p) (q := q) (r := r)
  have eb := R.back
  rw [← R.back] at hb
  show (if 1000000 - t.back i k = 0 then none else some (frac (t.at_ i k + 2 * t.next i k + 3 * (t.last i k + t.back i k)) (1000000 - t.back i k))) = _
  rw [if_neg h0]
  refine congrArg some ?_
  unfold longF
  rw [R.three]
  show _ = overF (plusF (plusF (plusF fNil fOne) (timesF fOne (restF (frac p 100)))) (timesF (timesF fOne (restF (frac p 100))) (restF (frac q 100)))) (restF (timesF (timesF (timesF fOne (restF (frac p 100))) (restF (frac q 100))) (restF (frac r 100))))
  rw [r3 R.lp R.lq R.lr, r2 R.lp R.lq, r1 R.lp, ← R.back, rest6 hb, one_frac, nil_frac, plus_frac (by decide) (by decide), plus_frac (by decide) (by decide), plus_frac (by decide) (by decide), over_frac (by decide) (by decide) (by omega)]
  refine frac_eq (by omega) (Nat.mul_pos (by decide) (by omega)) ?_
  have e1 : t.at_ i k = 10000 * p := by
    unfold Three.at_
    rw [R.wp]
  have e2 : t.next i k = 100 * ((100 - p) * q) := by
    show 100 * (t.wins (other i k) i * t.wins (other i k) k) = _
    rw [R.vp, R.wq]
  have e3 : t.last i k = (100 - p) * ((100 - q) * r) := by
    show t.wins (other i k) i * (t.wins k (other i k) * t.wins k i) = _
    rw [R.vp, R.vq, R.wr]
  rw [e1, e2, e3, eb]
  have lp := R.lp
  have lq := R.lq
  have lr := R.lr
  have hpP : p + (100 - p) = 100 := by omega
  have hq : (100 - p) * q + (100 - p) * (100 - q) = 100 * (100 - p) := by
    rw [← Nat.mul_add, show q + (100 - q) = 100 by omega, Nat.mul_comm]
  have hr : (100 - p) * ((100 - q) * r) + (100 - p) * (100 - q) * (100 - r) = 100 * ((100 - p) * (100 - q)) := by
    rw [← Nat.mul_assoc, ← Nat.mul_add, show r + (100 - r) = 100 by omega, Nat.mul_comm]
  have hb2 := back_le (p := p) (q := q) (r := r)
  generalize (100 - p) * ((100 - q) * r) = u1 at hr ⊢
  generalize (100 - p) * (100 - q) * (100 - r) = u2 at hr hb2 ⊢
  generalize (100 - p) * (100 - q) = u3 at hr hq ⊢
  generalize (100 - p) * q = u4 at hq ⊢
  generalize 100 - p = P at hq hpP ⊢
  have hN : 10000 * p + 2 * (100 * u4) + 3 * (u1 + u2) = 1000000 + 10000 * P + 100 * u3 := by omega
  rw [hN]
  generalize 1000000 - u2 = z
  grind
end
end Tb
namespace Tb
open Sj12
theorem beats_nil {t : Three} {i k : Nat} : beatsF t i k = fNil ↔ t.wins i k = 0 := by
  unfold beatsF
  rw [nil_frac]
  constructor
  · intro h
    have e := frac_inj (by decide) (by decide) h
    omega
  · intro h
    rw [h]
    exact frac_eq (by decide) (by decide) rfl
theorem first_none {t : Three} {i k : Nat} (g : Good t) (h : Two i k) (c : t.wins i k = 0) : firstF t i k = [(k, i, beatsF t k i)] := by
  have e1 : isWay (i, k, beatsF t i k) = false := by
    unfold isWay
    rw [decide_eq_true (beats_nil.mpr c)]
    rfl
  have e2 : isWay (k, i, beatsF t k i) = true := by
    unfold isWay
    have := wins_swap g h
    rw [decide_eq_false (fun z => by have := beats_nil.mp z; omega)]
    rfl
  unfold firstF firstL
  rw [List.filter_cons_of_neg (by rw [e1]; exact Bool.false_ne_true), List.filter_cons_of_pos e2]
  rfl
theorem first_all {t : Three} {i k : Nat} (g : Good t) (h : Two i k) (c : t.wins i k = 100) : firstF t i k = [(i, k, beatsF t i k)] := by
  have e1 : isWay (i, k, beatsF t i k) = true := by
    unfold isWay
    rw [decide_eq_false (fun z => by have := beats_nil.mp z; omega)]
    rfl
  have e2 : isWay (k, i, beatsF t k i) = false := by
    unfold isWay
    have := wins_swap g h
    rw [decide_eq_true (beats_nil.mpr (by omega))]
    rfl
  unfold firstF firstL
  rw [List.filter_cons_of_pos e1, List.filter_cons_of_neg (by rw [e2]; exact Bool.false_ne_true)]
  rfl
theorem first_both {t : Three} {i k : Nat} (g : Good t) (h : Two i k) (c0 : t.wins i k ≠ 0) (c : t.wins i k ≠ 100) : firstF t i k = [(i, k, beatsF t i k), (k, i, beatsF t k i)] := by
  have l := wins_le g i k
  have e1 : isWay (i, k, beatsF t i k) = true := by
    unfold isWay
    rw [decide_eq_false (fun z => by have := beats_nil.mp z; omega)]
    rfl
  have e2 : isWay (k, i, beatsF t k i) = true := by
    unfold isWay
    have := wins_swap g h
    rw [decide_eq_false (fun z => by have := beats_nil.mp z; omega)]
    rfl
  unfold firstF firstL
  rw [List.filter_cons_of_pos e1, List.filter_cons_of_pos e2]
  rfl
theorem low_over {a b c d : Nat} (hb : 0 < b) (hd : 0 < d) (hc : 0 < c) : Low (overF (frac a b) (frac c d)) := low_frac (Nat.mul_pos (frac_d hb) (frac_n0 hd hc))
/-- for ever for sure, behind a bout -/
def Never (t : Three) (i k : Nat) : Prop := 1000000 - t.back i k = 0
theorem goes_iff {t : Three} {i k : Nat} {u : Frac} (g : Good t) (h : Two i k) : goes t (i, k, u) = true ↔ Never t i k := by
  unfold goes
  rw [decide_eq_true_iff]
  exact (rd3 g h).roundOne
theorem goes_false {t : Three} {i k : Nat} {u : Frac} (g : Good t) (h : Two i k) (c : ¬ Never t i k) : goes t (i, k, u) = false := by
  cases e : goes t (i, k, u) with
  | false => rfl
  | true => exact absurd ((goes_iff g h).mp e) c
theorem from_none {t : Three} {i k x : Nat} (c : Never t i k) : t.from_ i k x = none := if_pos c
theorem longFrom_none {t : Three} {i k : Nat} (c : Never t i k) : t.longFrom i k = none := if_pos c
theorem low_behind {t : Three} {i k x : Nat} (g : Good t) (h : Two i k) (hx : x < 3) (c : ¬ Never t i k) : Low (behindF t i k x) := by
  have e := (rd3 g h).behind h hx c
  have e2 : t.from_ i k x = some (frac (if x = i then t.at_ i k else if x = k then t.last i k else t.next i k) (1000000 - t.back i k)) := if_neg c
  rw [e] at e2
  rw [Option.some.inj e2]
  exact low_frac (Nat.pos_of_ne_zero c)
theorem low_long {t : Three} {i k : Nat} (g : Good t) (h : Two i k) (c : ¬ Never t i k) : Low (longF t i k) := by
  have e := (rd3 g h).longer c
  have e2 : t.longFrom i k = some (frac (t.at_ i k + 2 * t.next i k + 3 * (t.last i k + t.back i k)) (1000000 - t.back i k)) := if_neg c
  rw [e] at e2
  rw [Option.some.inj e2]
  exact low_frac (Nat.pos_of_ne_zero c)
theorem beats_all {t : Three} {i k : Nat} (c : t.wins i k = 100) : beatsF t i k = fOne := by
  unfold beatsF
  rw [c, one_frac]
  exact frac_eq (by decide) (by decide) rfl
theorem times_one {u : Frac} (h : Low u) : timesF fOne u = u := by
  have e : timesF fOne u = frac (1 * u.n) (1 * u.d) := rfl
  rw [e, Nat.one_mul, Nat.one_mul]
  exact h.2
theorem nil_plus {u : Frac} (h : Low u) : plusF fNil u = u := by
  have e : plusF fNil u = frac (0 * u.d + u.n * 1) (1 * u.d) := rfl
  rw [e, Nat.zero_mul, Nat.zero_add, Nat.mul_one, Nat.one_mul]
  exact h.2
theorem one_plus {u : Frac} : plusF fOne u = frac (u.n + u.d) u.d := by
  have e : plusF fOne u = frac (1 * u.d + u.n * 1) (1 * u.d) := rfl
  rw [e, Nat.one_mul, Nat.mul_one, Nat.add_comm]
/-- two ways, each by its chance -/
theorem two_ways {t : Three} {i k : Nat} (g : Good t) (h : Two i k) {u v : Frac} (hu : Low u) (hv : Low v) :
    plusF (timesF (beatsF t i k) u) (timesF (beatsF t k i) v) = frac (t.wins i k * u.n * v.d + (100 - t.wins i k) * v.n * u.d) (100 * u.d * v.d) := by
  have e1 : timesF (beatsF t i k) u = frac (t.wins i k * u.n) (100 * u.d) := by
    rw [← hu.2]
    unfold beatsF
    rw [times_frac (by decide) hu.1, hu.2]
  have e2 : timesF (beatsF t k i) v = frac ((100 - t.wins i k) * v.n) (100 * v.d) := by
    rw [← hv.2]
    unfold beatsF
    rw [times_frac (by decide) hv.1, hv.2, wins_swap g h]
  have pu := hu.1
  have pv := hv.1
  rw [e1, e2, plus_frac (Nat.mul_pos (by decide) pu) (Nat.mul_pos (by decide) pv)]
  refine frac_eq (Nat.mul_pos (Nat.mul_pos (by decide) pu) (Nat.mul_pos (by decide) pv)) (Nat.mul_pos (Nat.mul_pos (by decide) pu) pv) ?_
  generalize 100 - t.wins i k = z
  grind
theorem plus_assoc {u v w : Frac} (hu : Low u) (hv : Low v) (hw : Low w) : plusF (plusF u v) w = plusF u (plusF v w) := by
  have h1 := hu.1
  have h2 := hv.1
  have h3 := hw.1
  rw [← hu.2, ← hv.2, ← hw.2, plus_frac h1 h2, plus_frac (Nat.mul_pos h1 h2) h3, plus_frac h2 h3, plus_frac h1 (Nat.mul_pos h2 h3)]
  refine frac_eq (Nat.mul_pos (Nat.mul_pos h1 h2) h3) (Nat.mul_pos h1 (Nat.mul_pos h2 h3)) ?_
  generalize u.n = a
  generalize u.d = b
  generalize v.n = c
  generalize v.d = d
  generalize w.n = e
  generalize w.d = f
  grind
theorem low_times {u v : Frac} (hu : Low u) (hv : Low v) : Low (timesF u v) := low_frac (Nat.mul_pos hu.1 hv.1)
theorem low_plus {u v : Frac} (hu : Low u) (hv : Low v) : Low (plusF u v) := low_frac (Nat.mul_pos hu.1 hv.1)
theorem may_none {t : Three} {i k : Nat} (g : Good t) (h : Two i k) (x : Nat) (c : mayF t i k = true) : t.odds i k x = none ∧ t.long i k = none := by
  have sw := wins_swap g h
  unfold mayF at c
  unfold Three.odds Three.long mix
  by_cases c0 : t.wins i k = 0
  · rw [first_none g h c0] at c
    have n : Never t k i := (goes_iff g h.swap).mp (by simpa using c)
    rw [if_pos c0, if_pos c0, from_none n, longFrom_none n]
    exact ⟨rfl, rfl⟩
  · by_cases c1 : t.wins i k = 100
    · rw [first_all g h c1] at c
      have n : Never t i k := (goes_iff g h).mp (by simpa using c)
      rw [if_neg c0, if_neg c0, if_pos c1, if_pos c1, from_none n, longFrom_none n]
      exact ⟨rfl, rfl⟩
    · rw [first_both g h c0 c1] at c
      have n : Never t i k ∨ Never t k i := by
        have c' : goes t (i, k, beatsF t i k) = true ∨ goes t (k, i, beatsF t k i) = true := by simpa using c
        rcases c' with c' | c'
        · exact .inl ((goes_iff g h).mp c')
        · exact .inr ((goes_iff g h.swap).mp c')
      rw [if_neg c0, if_neg c0, if_neg c1, if_neg c1]
      rcases n with n | n
      · rw [from_none n, longFrom_none n]
        exact ⟨rfl, rfl⟩
      · rw [from_none n, longFrom_none n]
        constructor
        · cases t.from_ i k x <;> rfl
        · cases t.longFrom i k <;> rfl
theorem may_some {t : Three} {i k : Nat} (g : Good t) (h : Two i k) {x : Nat} (hx : x < 3) (c : mayF t i k = false) : t.odds i k x = some (oddsF t i k x) ∧ t.long i k = some (lastF t i k) := by
  have sw := wins_swap g h
  unfold mayF at c
  unfold Three.odds Three.long mix oddsF lastF
  by_cases c0 : t.wins i k = 0
  · rw [first_none g h c0] at c ⊢
    have n : ¬ Never t k i := fun z => by
      have := (goes_iff (u := beatsF t k i) g h.swap).mpr z
      simp [this] at c
    rw [if_pos c0, if_pos c0, (rd3 g h.swap).behind h.swap hx n, (rd3 g h.swap).longer n]
    constructor
    · show _ = some (plusF fNil (timesF (beatsF t k i) (behindF t k i x)))
      rw [beats_all (by omega), times_one (low_behind g h.swap hx n), nil_plus (low_behind g h.swap hx n)]
    · show _ = some (plusF fOne (timesF (beatsF t k i) (longF t k i)))
      rw [beats_all (by omega), times_one (low_long g h.swap n), one_plus]
      rfl
  · by_cases c1 : t.wins i k = 100
    · rw [first_all g h c1] at c ⊢
      have n : ¬ Never t i k := fun z => by
        have := (goes_iff (u := beatsF t i k) g h).mpr z
        simp [this] at c
      rw [if_neg c0, if_neg c0, if_pos c1, if_pos c1, (rd3 g h).behind h hx n, (rd3 g h).longer n]
      constructor
      · show _ = some (plusF fNil (timesF (beatsF t i k) (behindF t i k x)))
        rw [beats_all c1, times_one (low_behind g h hx n), nil_plus (low_behind g h hx n)]
      · show _ = some (plusF fOne (timesF (beatsF t i k) (longF t i k)))
        rw [beats_all c1, times_one (low_long g h n), one_plus]
        rfl
    · rw [first_both g h c0 c1] at c ⊢
      have n : ¬ Never t i k := fun z => by
        have := (goes_iff (u := beatsF t i k) g h).mpr z
        simp [this] at c
      have n2 : ¬ Never t k i := fun z => by
        have := (goes_iff (u := beatsF t k i) g h.swap).mpr z
        simp [this] at c
      rw [if_neg c0, if_neg c0, if_neg c1, if_neg c1, (rd3 g h).behind h hx n, (rd3 g h).longer n, (rd3 g h.swap).behind h.swap hx n2, (rd3 g h.swap).longer n2]
      have l1 := low_behind g h hx n
      have l2 := low_behind g h.swap hx n2
      have l3 := low_long g h n
      have l4 := low_long g h.swap n2
      have b1 := low_beats t i k
      have b2 := low_beats t k i
      constructor
      · show _ = some (plusF (plusF fNil (timesF (beatsF t i k) (behindF t i k x))) (timesF (beatsF t k i) (behindF t k i x)))
        rw [nil_plus (low_times b1 l1), two_ways g h l1 l2]
      · show _ = some (plusF (plusF fOne (timesF (beatsF t i k) (longF t i k))) (timesF (beatsF t k i) (longF t k i)))
        rw [plus_assoc low_one (low_times b1 l3) (low_times b2 l4), one_plus, two_ways g h l3 l4]
        rfl
/-- it is the same who is told first -/
theorem odds_swap {t : Three} {i k : Nat} (g : Good t) (h : Two i k) (x : Nat) : t.odds k i x = t.odds i k x := by
  have sw := wins_swap g h
  have l := wins_le g i k
  unfold Three.odds mix
  by_cases c0 : t.wins i k = 0
  · rw [if_pos c0, if_neg (by omega), if_pos (by omega)]
  · by_cases c1 : t.wins i k = 100
    · rw [if_neg c0, if_pos c1, if_pos (by omega)]
    · rw [if_neg c0, if_neg c1, if_neg (by omega), if_neg (by omega)]
      cases e1 : t.from_ i k x with
      | none =>
        cases e2 : t.from_ k i x <;> rfl
      | some u =>
        cases e2 : t.from_ k i x with
        | none => rfl
        | some v =>
          refine congrArg some ?_
          show frac (t.wins k i * v.n * u.d + (100 - t.wins k i) * u.n * v.d) (100 * v.d * u.d) = frac (t.wins i k * u.n * v.d + (100 - t.wins i k) * v.n * u.d) (100 * u.d * v.d)
          rw [sw, show 100 - (100 - t.wins i k) = t.wins i k by omega, Nat.add_comm, Nat.mul_right_comm 100 v.d u.d]
/-- one who waits -/
theorem wait_way {t : Three} {w : Nat} (g : Good t) (hw : w < 3) (x : Nat) : t.odds ((w + 1) % 3) ((w + 2) % 3) x = t.odds ((twoOf w).getD 0 0) ((twoOf w).getD 1 0) x := by
  match w, hw with
  | 0, _ => rfl
  | 1, _ => exact odds_swap g ⟨by decide, by decide, by decide⟩ x
  | 2, _ => rfl
theorem two_of {w : Nat} (hw : w < 3) : Two ((twoOf w).getD 0 0) ((twoOf w).getD 1 0) ∧ twoOf w = [(twoOf w).getD 0 0, (twoOf w).getD 1 0] := by
  match w, hw with
  | 0, _ => exact ⟨⟨by decide, by decide, by decide⟩, by decide⟩
  | 1, _ => exact ⟨⟨by decide, by decide, by decide⟩, by decide⟩
  | 2, _ => exact ⟨⟨by decide, by decide, by decide⟩, by decide⟩
def pick (m : Option (Nat × Frac)) (y : Nat × Frac) : Option (Nat × Frac) := match m with
  | none => some y
  | some z => if less z.2 y.2 = true then some y else some z
theorem best_fold {t : Three} (g : Good t) {x : Nat} (hx : x < 3) : ∀ (l : List Nat) (m : Option (Nat × Frac)), (∀ w ∈ l, w < 3) →
    (l.filterMap fun w => (t.odds ((w + 1) % 3) ((w + 2) % 3) x).map fun f => (w, f)).foldl pick m = l.foldl (bestStep t x) m
  | [], m, _ => rfl
  | w :: l, m, h => by
    have hw : w < 3 := h w List.mem_cons_self
    have ih := fun m => best_fold g hx l m fun v hv => h v (List.mem_cons_of_mem _ hv)
    have T := (two_of hw).1
    rw [List.foldl_cons]
    cases c : mayF t ((twoOf w).getD 0 0) ((twoOf w).getD 1 0) with
    | true =>
      have e : ((t.odds ((w + 1) % 3) ((w + 2) % 3) x).map fun f => (w, f)) = none := by
        rw [wait_way g hw, (may_none g T x c).1]
        rfl
      simp only [List.filterMap_cons, e]
      rw [ih]
      have e2 : bestStep t x m w = m := by
        unfold bestStep
        exact if_pos c
      rw [e2]
    | false =>
      have e : ((t.odds ((w + 1) % 3) ((w + 2) % 3) x).map fun f => (w, f)) = some (w, oddsF t ((twoOf w).getD 0 0) ((twoOf w).getD 1 0) x) := by
        rw [wait_way g hw, (may_some g T hx c).1]
        rfl
      simp only [List.filterMap_cons, e]
      rw [List.foldl_cons, ih]
      have e2 : bestStep t x m w = pick m (w, oddsF t ((twoOf w).getD 0 0) ((twoOf w).getD 1 0) x) := by
        unfold bestStep pick
        rw [if_neg (by rw [c]; exact Bool.false_ne_true)] <;> cases m <;> rfl
      rw [e2]
theorem best_is {t : Three} (g : Good t) {x : Nat} (hx : x < 3) : t.wait x = bestF t x := best_fold g hx [0, 1, 2] none (by decide)
end Tb
namespace Tb
open Sj12
/-! ### calls and their answers -/
/-- a call from its numbers -/
def cq (l : List Nat) : Option Sj12.Call := match l with
  | [0, a, b, c] => some (.begins a b c)
  | [1, i, k, x] => some (.odds i k x)
  | [2, i, k] => some (.long i k)
  | [3, x] => some (.wait x)
  | 4 :: i :: k :: r => if r.length ≤ 20 then some (.check i k r) else none
  | _ => none
theorem callOf_eq (l : List Int) : Sj12Neutral.callOf l = cq (l.map Int.toNat) := rfl
inductive Kind (c : Nat) (xs : List Nat) (q : Sj12.Call) : Prop where
  | b (x y z : Nat) (hc : c = 0) (hx : xs = [x, y, z]) (hq : q = .begins x y z)
  | o (i k x : Nat) (hc : c = 1) (hx : xs = [i, k, x]) (hq : q = .odds i k x)
  | l (i k : Nat) (hc : c = 2) (hx : xs = [i, k]) (hq : q = .long i k)
  | w (x : Nat) (hc : c = 3) (hx : xs = [x]) (hq : q = .wait x)
  | c (i k : Nat) (r : List Nat) (hc : c = 4) (hx : xs = i :: k :: r) (hq : q = .check i k r) (hr : r.length ≤ 20)
theorem cq_kind {c : Nat} {xs : List Nat} {q : Sj12.Call} (h : cq (c :: xs) = some q) : Kind c xs q := by
  unfold cq at h
  split at h
  · rename_i e
    obtain ⟨e1, e2⟩ := List.cons.inj e
    exact .b _ _ _ e1 e2 (Option.some.inj h).symm
  · rename_i e
    obtain ⟨e1, e2⟩ := List.cons.inj e
    exact .o _ _ _ e1 e2 (Option.some.inj h).symm
  · rename_i e
    obtain ⟨e1, e2⟩ := List.cons.inj e
    exact .l _ _ e1 e2 (Option.some.inj h).symm
  · rename_i e
    obtain ⟨e1, e2⟩ := List.cons.inj e
    exact .w _ e1 e2 (Option.some.inj h).symm
  · rename_i e
    obtain ⟨e1, e2⟩ := List.cons.inj e
    split at h
    · rename_i hr
      exact .c _ _ _ e1 e2 (Option.some.inj h).symm hr
    · cases h
  · cases h
theorem cq_len {c : Nat} {xs : List Nat} {q : Sj12.Call} (h : cq (c :: xs) = some q) : xs.length ≤ 22 := by
  cases cq_kind h with
  | b x y z hc hx hq => rw [hx]; show 3 ≤ 22; decide
  | o i k x hc hx hq => rw [hx]; show 3 ≤ 22; decide
  | l i k hc hx hq => rw [hx]; show 2 ≤ 22; decide
  | w x hc hx hq => rw [hx]; show 1 ≤ 22; decide
  | c i k r hc hx hq hr =>
    rw [hx, List.length_cons, List.length_cons]
    omega
theorem step_same {t : Three} {q : Sj12.Call} (h : ∀ a b c, q ≠ .begins a b c) : (Sj12.step t q).1 = t := by
  cases q with
  | begins a b c => exact absurd rfl (h a b c)
  | odds i k x =>
    show (if two i k = false ∨ 3 ≤ x then (t, ok (-2)) else (t, told (t.odds i k x))).1 = t
    split <;> rfl
  | long i k =>
    show (if two i k = false then (t, ok (-2)) else (t, told (t.long i k))).1 = t
    split <;> rfl
  | wait x =>
    show (if 3 ≤ x then (t, ok (-2)) else (t, _)).1 = t
    split <;> rfl
  | check i k o =>
    show (if two i k = false then (t, ok (-2)) else if o = [] ∨ (o.all fun x => decide (x < 2)) = false then (t, ok (-1)) else (t, _)).1 = t
    split
    · rfl
    · split <;> rfl
theorem step_good {t : Three} (g : Good t) (q : Sj12.Call) : Good (Sj12.step t q).1 := by
  cases q with
  | begins a b c =>
    show Good (if 100 < a ∨ 100 < b ∨ 100 < c then (t, ok (-1)) else (⟨a, b, c⟩, ok 0)).1
    split
    · exact g
    · exact ⟨by show a ≤ 100; omega, by show b ≤ 100; omega, by show c ≤ 100; omega⟩
  | odds i k x =>
    rw [step_same (by intro a b c z; cases z)]
    exact g
  | long i k =>
    rw [step_same (by intro a b c z; cases z)]
    exact g
  | wait x =>
    rw [step_same (by intro a b c z; cases z)]
    exact g
  | check i k o =>
    rw [step_same (by intro a b c z; cases z)]
    exact g
theorem told_len (f : Option Frac) : (told f).l.length ≤ 3 := by
  cases f with
  | none => decide
  | some f => show (Sj12.ints [f.n, f.d]).length ≤ 3; show 2 ≤ 3; decide
theorem step_len (t : Three) (q : Sj12.Call) : (Sj12.step t q).2.l.length ≤ 3 := by
  cases q with
  | begins a b c =>
    show (if 100 < a ∨ 100 < b ∨ 100 < c then (t, ok (-1)) else ((⟨a, b, c⟩ : Three), ok 0)).2.l.length ≤ 3
    split <;> exact Nat.zero_le 3
  | odds i k x =>
    show (if two i k = false ∨ 3 ≤ x then (t, ok (-2)) else (t, told (t.odds i k x))).2.l.length ≤ 3
    split
    · exact Nat.zero_le 3
    · exact told_len _
  | long i k =>
    show (if two i k = false then (t, ok (-2)) else (t, told (t.long i k))).2.l.length ≤ 3
    split
    · exact Nat.zero_le 3
    · exact told_len _
  | wait x =>
    show (if 3 ≤ x then (t, ok (-2)) else (t, match t.wait x with
      | none => ok (-6)
      | some y => ⟨(y.1 : Nat), Sj12.ints [y.2.n, y.2.d]⟩)).2.l.length ≤ 3
    split
    · exact Nat.zero_le 3
    · cases t.wait x with
      | none => exact Nat.zero_le 3
      | some y => show 2 ≤ 3; decide
  | check i k o =>
    show (if two i k = false then (t, ok (-2)) else if o = [] ∨ (o.all fun x => decide (x < 2)) = false then (t, ok (-1)) else (t, _)).2.l.length ≤ 3
    split
    · exact Nat.zero_le 3
    · split
      · exact Nat.zero_le 3
      · show 3 ≤ 3
        decide
/-! ### a list of calls -/
/-- its place and its numbers -/
abbrev Raw := Nat × List Nat
def rawI (c : Raw) : List Int := (c.1 : Int) :: c.2.map fun (n : Nat) => (n : Int)
def flat : List Raw → List Int
  | [] => []
  | c :: cs => (c.1 : Int) :: (c.2.length : Int) :: ((c.2.map fun (n : Nat) => (n : Int)) ++ (0 :: flat cs))
def tells : Three → List Raw → List Int
  | _, [] => []
  | t, c :: cs => match cq (c.1 :: c.2) with
    | none => 0 :: tells t cs
    | some q => ((Sj12.step t q).2.l.length + 1 : Nat) :: ((Sj12.step t q).2.v :: ((Sj12.step t q).2.l ++ tells (Sj12.step t q).1 cs))
theorem tells_cons {t : Three} {c : Raw} {cs : List Raw} {q : Sj12.Call} (h : cq (c.1 :: c.2) = some q) :
    tells t (c :: cs) = (((Sj12.step t q).2.l.length + 1 : Nat) : Int) :: ((Sj12.step t q).2.v :: ((Sj12.step t q).2.l ++ tells (Sj12.step t q).1 cs)) := by
  show (match cq (c.1 :: c.2) with
    | none => 0 :: tells t cs
    | some q => (((Sj12.step t q).2.l.length + 1 : Nat) : Int) :: ((Sj12.step t q).2.v :: ((Sj12.step t q).2.l ++ tells (Sj12.step t q).1 cs))) = _
  rw [h]
theorem back_nat : ∀ (l : List Int), (∀ z ∈ l, 0 ≤ z) → (l.map Int.toNat).map (fun (n : Nat) => (n : Int)) = l
  | [], _ => rfl
  | z :: l, h => by
    rw [List.map_cons, List.map_cons, back_nat l fun y hy => h y (List.mem_cons_of_mem _ hy)]
    have := h z List.mem_cons_self
    rw [show ((z.toNat : Nat) : Int) = z by omega]
theorem toNat_back : ∀ (l : List Nat), (l.map fun (n : Nat) => (n : Int)).map Int.toNat = l
  | [] => rfl
  | n :: l => by rw [List.map_cons, List.map_cons, toNat_back l]; rfl
/-- what is asked of one call, in plain words -/
theorem raw_of {c : List (List Int)} (h : Sj12Neutral.asked1 c = true) : ∃ (r : Raw) (q : Sj12.Call), c = [rawI r] ∧ cq (r.1 :: r.2) = some q := by
  unfold Sj12Neutral.asked1 at h
  rw [Bool.and_eq_true, Bool.and_eq_true] at h
  obtain ⟨h1, h2, h3⟩ := h
  match c, h1, h2, h3 with
  | [row], _, h2, h3 =>
    have nn : ∀ z ∈ row, 0 ≤ z := fun z hz => by
      have := List.all_eq_true.mp h2 z hz
      unfold Sj12Neutral.natural at this
      rw [Bool.and_eq_true] at this
      exact of_decide_eq_true this.1
    have e3 : (cq (row.map Int.toNat)).isSome = true := h3
    match row, nn, e3 with
    | [], _, e3 => exact absurd e3 (by decide)
    | z :: row, nn, e3 =>
      obtain ⟨q, hq⟩ := Option.isSome_iff_exists.mp e3
      refine ⟨(z.toNat, row.map Int.toNat), q, ?_, hq⟩
      unfold rawI
      have e := back_nat (z :: row) nn
      rw [List.map_cons, List.map_cons] at e
      rw [e]
  | [], h1, _, _ => exact absurd h1 (by decide)
  | _ :: _ :: _, h1, _, _ => simp at h1
theorem raws_of : ∀ (cs : List (List (List Int))), (cs.all Sj12Neutral.asked1) = true → ∃ rs : List Raw, cs = rs.map (fun r => [rawI r]) ∧ ∀ r ∈ rs, ∃ q, cq (r.1 :: r.2) = some q
  | [], _ => ⟨[], rfl, fun r hr => by cases hr⟩
  | c :: cs, h => by
    rw [List.all_cons, Bool.and_eq_true] at h
    obtain ⟨r, q, e, hq⟩ := raw_of h.1
    obtain ⟨rs, e2, h2⟩ := raws_of cs h.2
    refine ⟨r :: rs, by rw [e, e2]; rfl, fun s hs => ?_⟩
    rcases List.mem_cons.mp hs with rfl | hs
    · exact ⟨q, hq⟩
    · exact h2 s hs
theorem put_flat : ∀ (rs : List Raw), PyWide.put (rs.map fun r => [rawI r]) = flat rs
  | [] => rfl
  | r :: rs => by
    have ih := put_flat rs
    show PyWide.put1 [rawI r] ++ PyWide.put (rs.map fun r => [rawI r]) = flat (r :: rs)
    rw [ih]
    unfold rawI
    rw [PyWide.put1_append]
    show (r.1 : Int) :: (((r.2.map fun (n : Nat) => (n : Int)).length : Int) :: (r.2.map fun (n : Nat) => (n : Int)) ++ (0 :: ([] ++ flat rs))) = flat (r :: rs)
    rw [List.length_map]
    rfl
theorem played_tells : ∀ (rs : List Raw) (t : Three), (∀ r ∈ rs, ∃ q, cq (r.1 :: r.2) = some q) → PyFlat.told (PyFlat.played Sj12Neutral.step t (rs.map fun r => [rawI r])) = tells t rs
  | [], t, _ => rfl
  | r :: rs, t, h => by
    obtain ⟨q, hq⟩ := h r List.mem_cons_self
    have e : Sj12Neutral.step t [rawI r] = ((Sj12.step t q).1, (Sj12.step t q).2.v :: (Sj12.step t q).2.l) := by
      have e1 : Sj12Neutral.callOf (rawI r) = some q := by
        rw [callOf_eq]
        unfold rawI
        rw [List.map_cons, toNat_back]
        exact hq
      show (match Sj12Neutral.callOf (rawI r) with
        | none => (t, [])
        | some q => ((Sj12.step t q).1, (Sj12.step t q).2.v :: (Sj12.step t q).2.l)) = _
      rw [e1]
    have ih := played_tells rs (Sj12.step t q).1 fun s hs => h s (List.mem_cons_of_mem _ hs)
    show PyFlat.told ((Sj12Neutral.step t [rawI r]).2 :: PyFlat.played Sj12Neutral.step (Sj12Neutral.step t [rawI r]).1 (rs.map fun r => [rawI r])) = _
    rw [e]
    show (((Sj12.step t q).2.v :: (Sj12.step t q).2.l).length : Int) :: (((Sj12.step t q).2.v :: (Sj12.step t q).2.l) ++ PyFlat.told (PyFlat.played Sj12Neutral.step (Sj12.step t q).1 (rs.map fun r => [rawI r]))) = tells t (r :: rs)
    rw [ih, tells_cons hq]
    rfl
/-- what is asked, in plain words -/
theorem asked_flat {ns : List Int} (h : PySj12.answers_asked ns = true) : ∃ rs : List Raw, ns = flat rs ∧ (∀ r ∈ rs, ∃ q, cq (r.1 :: r.2) = some q) ∧ rs.length ≤ 60 ∧ PySj12.answers ns = tells Sj12.init rs := by
  unfold PySj12.answers_asked at h
  cases e : PySj12.calls ns with
  | none =>
    rw [e] at h
    cases h
  | some cs =>
    rw [e] at h
    have h' : (!cs.isEmpty && cs.all PySj12.fits && PyFlat.atMost 60 cs && Sj12Neutral.asked cs && PyFlat.short 10000000 (PySj12.answers ns)) = true := h
    rw [Bool.and_eq_true, Bool.and_eq_true, Bool.and_eq_true] at h'
    obtain ⟨⟨⟨_, hm⟩, ha⟩, _⟩ := h'
    have ha' : (cs.all Sj12Neutral.asked1 && (!cs.isEmpty && (decide (cs.length ≤ 60) && Sj12Neutral.short Sj12Neutral.start 999999 cs))) = true := ha
    rw [Bool.and_eq_true] at ha'
    obtain ⟨rs, e2, hr⟩ := raws_of cs ha'.1
    have p := (PyWide.put_calls _ _ _ e).1
    refine ⟨rs, ?_, hr, ?_, ?_⟩
    · rw [p, e2, put_flat]
    · have hm' : cs.length ≤ 60 := of_decide_eq_true hm
      rw [e2, List.length_map] at hm'
      exact hm'
    · unfold PySj12.answers
      rw [e]
      show PyFlat.told (PyFlat.played Sj12Neutral.step Sj12Neutral.start cs) = _
      rw [e2]
      exact played_tells rs _ hr
/-! ### one call's place in the list -/
theorem drop_get {l tl : List Int} {m : Nat} {a : Int} (h : l.drop m = a :: tl) : l[m]? = some a ∧ l.drop (m + 1) = tl := by
  have h1 : (l.drop m)[0]? = some a := by rw [h]; rfl
  rw [List.getElem?_drop, Nat.add_zero] at h1
  refine ⟨h1, ?_⟩
  have h2 : (l.drop m).drop 1 = tl := by rw [h]; rfl
  rw [List.drop_drop] at h2
  exact h2
theorem flat_one {ns : List Int} {m : Nat} {r : Raw} {rs : List Raw} (h : ns.drop m = flat (r :: rs)) :
    ns[m]? = some (r.1 : Int) ∧ ns[m + 1]? = some (r.2.length : Int) ∧ (ns.drop (m + 2)).take r.2.length = r.2.map (fun (n : Nat) => (n : Int)) ∧ ns.drop (m + 2 + r.2.length + 1) = flat rs ∧ m + 2 + r.2.length + 1 ≤ ns.length := by
  have h0 : ns.drop m = (r.1 : Int) :: ((r.2.length : Int) :: ((r.2.map fun (n : Nat) => (n : Int)) ++ (0 :: flat rs))) := h
  obtain ⟨a1, h1⟩ := drop_get h0
  obtain ⟨a2, h2⟩ := drop_get h1
  have h3 : ns.drop (m + 2) = (r.2.map fun (n : Nat) => (n : Int)) ++ (0 :: flat rs) := h2
  have h4 : ns.drop (m + 2 + r.2.length) = 0 :: flat rs := by
    rw [← List.drop_drop, h3, List.drop_append_of_le_length (by rw [List.length_map]; exact Nat.le_refl _), List.drop_of_length_le (by rw [List.length_map]; exact Nat.le_refl _), List.nil_append]
  refine ⟨a1, a2, ?_, (drop_get h4).2, ?_⟩
  · rw [h3, List.take_append_of_le_length (by rw [List.length_map]; exact Nat.le_refl _)]
    exact List.take_of_length_le (by rw [List.length_map]; exact Nat.le_refl _)
  · have := (List.getElem?_eq_some_iff.mp (drop_get h4).1).1
    omega
theorem flat_nil {ns : List Int} {m : Nat} {rs : List Raw} (h : ns.drop m = flat rs) (hm : ns.length ≤ m) : rs = [] := by
  cases rs with
  | nil => rfl
  | cons r rs =>
    have := (flat_one h).2.2.2.2
    omega
theorem flat_cons {ns : List Int} {m : Nat} {rs : List Raw} (h : ns.drop m = flat rs) (hm : m < ns.length) : ∃ r rs', rs = r :: rs' := by
  cases rs with
  | nil =>
    have : (ns.drop m).length = 0 := by rw [h]; rfl
    rw [List.length_drop] at this
    omega
  | cons r rs => exact ⟨r, rs, rfl⟩
end Tb
/-! ### an own error over Exception: its __init__ calls Exception.__init__ and stores one field -/
namespace Tb
open PySem PySem.Spec PyProof.Rows L2
abbrev St := L2.St
abbrev fN : Str := "number"
/-- what the top has written of the error's class at C -/
structure ErrC (K : PySem.W.Frag) (C : Addr) : Prop where
  obj : ∃ (nm q : Str) (N : Addr) (bs : List Value) (sn : List Str) (sub : List Value) (ab : Bool) (col : Option Bool) (dd : Option Addr) (k0 k1 k2 k3 k5 : Option Value),
    K.lookup C = some (excClassObj nm q C N bs PySem.ESX.exTail true sn sub ab col dd k0 k1 k2 k3 k5 "Exception.__new__")
  setA : PySem.W.findIn K (.ref C) "__setattr__" = some (some (.builtin "object.__setattr__"))
  isB : PySem.W.subIn K (.ref C) (.type "BaseException") = some true
  isT : PySem.W.typeIn K (.ref C) = some (.type "type")
  kept : PySem.W.keepIn K (.ref C) = true
  free : PySem.W.findIn K (.ref C) fN = some none
theorem ErrC.data {K : PySem.W.Frag} {C : Addr} (T : ErrC K C) : ∃ cd, PySem.W.clsIn K C = some cd ∧ cd.mro = .ref C :: PySem.ESX.exTail ∧ cd.hasDict = true := by
  obtain ⟨nm, q, N, bs, sn, sub, ab, col, dd, k0, k1, k2, k3, k5, h⟩ := T.obj
  refine ⟨{ name := nm, bases := bs, mro := .ref C :: PySem.ESX.exTail, ns := N, qualname := q, hasDict := true, slotNames := sn, subclasses := sub, abstract := ab, collection := col, hasDel := false }, ?_, rfl, rfl⟩
  unfold PySem.W.clsIn
  rw [h] <;> rfl
section
variable {X : Cx} {pins : List (Addr × Obj)} {σ : St} {H : Hp} {s : Shared} {a C : Addr} {y : V} {u : Value} {A : Around} {E : Value → Shared → Prop}
/-- self.number = y -/
theorem err_store {Q : Unit → Shared → Prop} (T : ErrC X.K C) (I : Inv X pins σ H s) (e : H a = some (exo a C none)) (ry : RelV y u)
    (h : ∀ dx s', H dx = none → dx ≠ a → Inv X pins σ (upd (upd H dx (exd dx [(fN, y)])) a (exo a C (some dx))) s' → Q () s') :
    wpAny (model X.prog X.w) A (setAttr (.ref a) fN u) Q E s := by
  obtain ⟨cd, hcd, hmro, hdict⟩ := T.data
  obtain ⟨t1, ho⟩ := exo_at I.hok e
  obtain ⟨hp, g, d, t, os⟩ := s
  refine PySem.W.set_plain I.kIn (ox := { cls := .ref C, dict := none, data := .fields #[.ref t1, .none, .none, .none, .bool false, .none] }) (od := none) ⟨ho, rfl, rfl, trivial⟩ T.setA ?_
  refine PySem.ESX.osa_new I.kIn ho hcd hmro hdict T.free fun h' tk' dx k dn dne hx hn => ?_
  have fresh : H dx = none := I.hok.fresh dn
  have off : ∀ {b : Addr} {o : Obj}, hp.get? b = some o → b ≠ dx := fun q => Nat.ne_of_lt (Nat.lt_of_lt_of_le (Heap.lt_size q) dn)
  have aside : ∀ {b : Addr}, H b = none → b ≠ a := fun n z => by
    rw [z, e] at n
    cases n
  have stays : ∀ {b : Addr} {o : HO}, H b = some o → b ≠ a → upd (upd H dx (exd dx [(fN, y)])) a (exo a C (some dx)) b = some o := fun q hb => by
    rw [upd_ne hb, upd_ne (ne_of_none q fresh)]
    exact q
  have U : Un X.fs [] H (upd (upd H dx (exd dx [(fN, y)])) a (exo a C (some dx))) hp h' :=
    ⟨fun b o q n _ _ => k b o (aside n) q, fun b o q n _ _ => ⟨o.slots, k b o (aside n) q⟩,
      fun b o q n _ => by
        rw [upd_ne (aside n), upd_ne (off q)]
        exact n,
      fun b o q _ => by
        by_cases hb : b = a
        · exact ⟨_, by rw [hb]; exact hx⟩
        · exact ⟨o, k b o hb q⟩,
      fun b xs q => stays q (at_ne e q exo_tup), fun b o v q => stays q (at_ne e q exo_frz),
      fun b ps q => ⟨#[], by
        rw [Array.append_empty]
        exact stays q (at_ne e q exo_tbl)⟩⟩
  refine h dx _ fresh dne (I.un (t' := tk') U fun b o q => ?_)
  by_cases hb : b = a
  · rw [hb, upd_same] at q
    rw [hb, ← Option.some.inj q]
    exact exo_ok hx
  · rw [upd_ne hb] at q
    by_cases hd : b = dx
    · rw [hd, upd_same] at q
      rw [hd, ← Option.some.inj q]
      exact exd_ok hn (relO_put (fs := []) ry fun _ => True.intro)
    · rw [upd_ne hd] at q
      refine (I.hok b o q).stay (fun c v hc z => k c v ?_ z) (fun c hc => stays hc (at_ne e hc exo_own)) fun c xs hc => stays hc (at_ne e hc exo_tup)
      rcases hc with hc | hc
      · rw [hc]
        exact hb
      · exact at_ne e hc exo_own
/-- Exception.__init__(self, ..): of the args nothing is told -/
theorem err_base {us : List Value} {Q : Value → Shared → Prop} (T : ErrC X.K C) (I : Inv X pins σ H s) (e : H a = some (exo a C none)) (hl : us.length ≤ sizeLine)
    (h : ∀ s', Inv X pins σ H s' → Q .none s') : wpAny (model X.prog X.w) A (call (.builtin "Exception.__init__") (.ref a :: us)) Q E s := by
  obtain ⟨nm, q, N, bs, sn, sub, ab, col, dd, k0, k1, k2, k3, k5, hC⟩ := T.obj
  obtain ⟨t1, ho⟩ := exo_at I.hok e
  obtain ⟨hp, g, d, t, os⟩ := s
  refine wpAny_call (PySem.HandSPX.init_base F.excBase_Exception (fun _ => rfl) (I.kIn _ _ hC) ho hl fun h' t2 k hx => ?_)
  have J := I.write (t' := t) (x := a) (e := a) (o := exo a C none) (by rw [e]; exact True.intro) (.inl rfl) k ⟨_, hx⟩ (exo_ok hx)
  have same : upd H a (exo a C none) = H := funext fun b => by
    by_cases hb : b = a
    · rw [hb, upd_same, e]
    · exact upd_ne hb
  rw [same] at J
  exact h _ J
end
theorem type_Exc : typeOf (.type "Exception") = pure (.type "type") := by kernel_rfl
def tBase (K : PySem.W.Frag) (ta : TA) : TE := fun σ H Q => ta σ H fun vs H1 => ∃ (a C : Addr) (ws : List V), vs = .ref a :: ws ∧ ws.length ≤ 1000 ∧ ErrC K C ∧ H1 a = some (exo a C none) ∧ Q .non H1
def tNum (K : PySem.W.Frag) (to te : TE) : TS := fun D σ H => te σ H fun y H1 => to σ H1 fun x H2 => ∃ a C : Addr, x = .ref a ∧ ErrC K C ∧ H2 a = some (exo a C none) ∧
  ∀ dx, H2 dx = none → dx ≠ a → D.nx σ (upd (upd H2 dx (exd dx [(fN, y)])) a (exo a C (some dx)))
/-- C(e, ..) by its own __init__, whose promise is sp -/
def tErr (C : Addr) (sp : Sp) (ta : TA) : St → Hp → XK → Prop := fun σ H Q => ta σ H fun vs H1 => vs.length ≤ 1000 ∧ ∀ a, H1 a = none → sp (.ref a :: vs) (upd H1 a (exo a C none))
  (fun v H2 => v = .non ∧ ∃ (d : Addr) (fs : List (Str × V)), H2 a = some (exo a C (some d)) ∧ H2 d = some (exd d fs) ∧ H1 d = none ∧ Q (.ref C) (some d) (upd (del H2 a) d (.xd fs))) (fun _ _ _ => False)
section
variable {X : Cx} {o e : Expr} {es : List Expr} {to te : TE} {ta : TA} {p p' p1 p2 pos : Pos}
theorem pe_base {pl : Sem Bool} (hg : Gl X "Exception") (hm : X.mg "Exception" = none) (vV : PySem.W.findCls X.K (.type "Exception") (.type "type") "__init__" = some (.val (.builtin "Exception.__init__"))) (ha : PA X (e :: es) ta)
    (hc : eval (.Call (.Attribute (.Name "Exception" p1) "__init__" p2) (e :: es) [] pos) X.env = (do
      let ov ← eval (.Name "Exception" p1) X.env
      standAt p2.atName
      let (f, first) ← holding [ov] (getMethod ov "__init__" pl)
      callWith pos f first (backTo pos (starEach (e :: es) X.env)) (backToKw pos (keywordEach [] X.env))) := by rfl)
    (he : starEach (e :: es) X.env = (false, eval e X.env) :: starEach es X.env := by rfl) (hpl : (backTo pos (starEach es X.env)).any (·.1) = false := by rfl) :
    PE X (.Call (.Attribute (.Name "Exception" p1) "__init__" p2) (e :: es) [] pos) (tBase X.K ta) :=
  ⟨fun pins s σ H Q I h => by
    refine PySem.W.methodCall_KW (ld_blt I hg hm PyProof.Rows.Boot.«Exception» ?_ (by decide) (by decide)) hc
    obtain ⟨m, fr⟩ := I.fr
    refine PySem.W.method_type fr I.ok.mod.kin type_Exc (by decide +kernel) vV (by decide +kernel) ?_
    show wpAny _ _ (callWith pos (Value.builtin "Exception.__init__") [] (backTo pos (starEach (e :: es) X.env)) []) _ _ _
    refine PyProof.Rows.callWith_method1 (thn (ha.run pos pins _ σ H _ (I.tok _) h) fun us s1 got => ?_) he hpl
    obtain ⟨vs, H1, I1, r1, a, C, ws, rfl, hl, T, ea, q⟩ := got
    cases r1 with
    | @cons _ u0 _ ur ra rw' =>
      obtain rfl : u0 = Value.ref a := ra
      refine err_base T I1 ea ?_ fun s' J => ⟨.non, H1, J, rfl, q⟩
      rw [← Paired.length rw', sizeLine_eq]
      omega⟩
theorem ps_num (ho : PE X o to) (he : PE X e te) (hs : swapsWith e (some (.Attribute o fN p')) pos.line X.env = pure false := by rfl) : PS X (.Assign [.Attribute o fN p'] e pos) (tNum X.K to te) :=
  ⟨fun pins s σ H D I h => plainObj_wpAny_Assign_Attribute (thn (he.run pins s σ H _ I h) fun v s1 got => by
    obtain ⟨y, H1, I1, r1, q1⟩ := got
    refine thn (ho.run pins s1 σ H1 _ I1 q1) fun u s2 got2 => ?_
    obtain ⟨x, H2, I2, r2, a, C, rfl, T, ea, q⟩ := got2
    obtain rfl : u = Value.ref a := r2
    exact err_store T I2 ea r1 fun dx s' n ne J => ⟨σ, _, J, q dx n ne⟩) hs⟩
theorem pmk_err {CX : CXT} {x : Str} {C fI : Addr} {k : Nat} {fd : FuncData} {ps : List Str} {sp : Sp} (T : ErrC X.K C) (iC : PySem.W.findIn X.K (.ref C) "__init__" = some (some (.ref fI))) (tI : PySem.W.typeIn X.K (.ref fI) = some (.type "function"))
    (F1 : FnOk X.prog X.w X.K X.mg X.base CX k fI fd ps sp) (hr : Room (k + 1) X.A) (hb : Binds X.K fd ps []) (hx : Passes CX X (fun _ _ _ => False)) (hg : Gl X x) (hm : X.mg x = some (.ref C)) (ha : PA X (e :: es) ta)
    (hdb : (x == ("__debug__" : Str)) = false := by decide) (he : starEach (e :: es) X.env = (false, eval e X.env) :: starEach es X.env := by rfl) (hpl : (backTo pos (starEach es X.env)).any (·.1) = false := by rfl) :
    PMk X (.Call (.Name x p) (e :: es) [] pos) (tErr C sp ta) := fun pins s σ H Q I h => by
  obtain ⟨nm, q, N, bs, sn, sub, ab, col, dd, k0, k1, k2, k3, k5, hC⟩ := T.obj
  refine wpAny_Call_Name_kw (ld_glob I hg hm ?_ hdb)
  refine PySem.W.callWith_K (h₀ := X.base) I.ok.mod.kin T.kept (thn (ha.run pos pins s σ H _ I h) fun us s1 got => ?_) he hpl
  obtain ⟨vs, H1, I1, r1, hz, q1⟩ := got
  refine ⟨I1.kIn, ?_⟩
  show wpAny _ _ (call (.ref C) us) _ _ _
  obtain ⟨hp, g, dr, tk, os⟩ := s1
  have ge : hp.objs.size ≤ hp.objs.size + 1 := Nat.le_succ _
  have hq := q1 (hp.objs.size + 1) (I1.hok.fresh ge)
  have kk : ∀ b o, hp.get? b = some o → ((hp.push (PySem.W.kdv_tup us)).push (PySem.HandSPX.excO C hp.objs.size)).get? b = some o := fun b o e => Heap.get?_push_of_some _ (Heap.get?_push_of_some _ e)
  have there : ((hp.push (PySem.W.kdv_tup us)).push (PySem.HandSPX.excO C hp.objs.size)).get? (hp.objs.size + 1) = some (PySem.HandSPX.excO C hp.objs.size) := by heap_get
  have I2 := I1.laid (t' := tk) (a := hp.objs.size + 1) (o := exo (hp.objs.size + 1) C none) (h' := (hp.push (PySem.W.kdv_tup us)).push (PySem.HandSPX.excO C hp.objs.size)) kk ge (exo_ok there)
  have r2 : Vals (V.ref (hp.objs.size + 1) :: vs) (Value.ref (hp.objs.size + 1) :: us) := .cons rfl r1
  have r3 : Vals (V.ref (hp.objs.size + 1) :: vs) ((Value.ref (hp.objs.size + 1) :: us) ++ []) := by
    rw [List.append_nil]
    exact r2
  have hl : ((Value.ref (hp.objs.size + 1) :: us) ++ []).length = ps.length := by
    rw [← F1.len _ _ _ _ hq]
    exact r3.length.symm
  have room : us.length ≤ sizeLine := by
    rw [← Paired.length r1, sizeLine_eq]
    omega
  have ran := F1.run _ X.stack _ _ ⟨Value.ref (hp.objs.size + 1) :: us, []⟩ ((Value.ref (hp.objs.size + 1) :: us) ++ []) _ _ (fun _ _ _ => False) (hr.make C us []) (I2.env0.make C us []) (hb _ (Value.ref (hp.objs.size + 1) :: us) I2.kIn hl) r3 hq
  refine wpAny_call (PySem.HandSPX.call_own F.excBase_Exception (fun _ => rfl) (I1.kIn _ _ hC) (PySem.W.looks_findIn I1.kIn iC) (fun self => PySem.W.bind_fn I1.kIn self tI) room (codeAny_mono ran fun r s' hq' => ?_))
  match r, hq' with
  | .error er, hq' => exact hx pins σ _ _ er s' I2 hq'
  | .ok .next, hq' => exact False.elim hq'
  | .ok .brk, hq' => exact False.elim hq'
  | .ok .cont, hq' => exact False.elim hq'
  | .ok (.ret u), hq' =>
    obtain ⟨v, H2, os2, bare2, un2, hok2, rv, rfl, d, fs, ea, ed, hd1, q2⟩ := hq'
    obtain ⟨h2, g2, d2, t2, os'⟩ := s'
    exact ⟨rv, mk_end (raises_own T.isB T.isT) I1 ge kk un2 hok2 os2 bare2 ea ed hd1 q2⟩
end
end Tb
/-! ### words for the walk -/
namespace Tb
open PySem PySem.Spec PyProof.Rows L2
abbrev nV (n : Nat) : V := .int (n : Int)
abbrev fr := Sj12.Frac
/-- the i-th statement of the program -/
def top (i : Nat) : Stmt := PySem.Challenge.pw_threebouts_s01_answers.main.body.getD i (.Pass ⟨0, 0, 0, 0⟩)
/-- a def of the text, and the module's name of it -/
structure Def (K : PySem.W.Frag) (mg : Str → Option Value) (x : Str) (st : Stmt) (ps : List Str) (f : Addr) (fd : FuncData) : Prop where
  F : Fun K x x st f fd
  g : mg x = some (.ref f)
  b : L2.Binds K fd ps []
/-- a method of the text -/
structure DefM (K : PySem.W.Frag) (C : Addr) (m q : Str) (st : Stmt) (ps : List Str) (f : Addr) (fd : FuncData) : Prop where
  F : Fun K m q st f fd
  m : Meth K C m f
  b : L2.Binds K fd ps []
/-- an __init__ -/
structure DefI (K : PySem.W.Frag) (mg : Str → Option Value) (C : Addr) (x q : Str) (st : Stmt) (ps : List Str) (f : Addr) (fd : FuncData) : Prop where
  F : Fun K "__init__" q st f fd
  m : Mk K C f
  g : mg x = some (.ref C)
  b : L2.Binds K fd ps []
section
variable (P : Program) (w : World) (K : PySem.W.Frag) (mg : Str → Option Value) (base : Heap)
/-- the module's name x is a def that keeps a promise -/
def Has (CX : CXT) (k : Nat) (x : Str) (ps : List Str) (sp : Sp) : Prop := ∃ f fd, mg x = some (.ref f) ∧ PySem.W.keepIn K (.ref f) = true ∧ L2.Binds K fd ps [] ∧ FnOk P w K mg base CX k f fd ps sp
def HasM (CX : CXT) (k : Nat) (C : Addr) (m : Str) (ps : List Str) (sp : Sp) : Prop := ∃ f fd, Meth K C m f ∧ L2.Binds K fd ps [] ∧ FnOk P w K mg base CX k f fd ps sp
def HasI (CX : CXT) (k : Nat) (C : Addr) (x : Str) (ps : List Str) (sp : Sp) : Prop := ∃ f fd, mg x = some (.ref C) ∧ Mk K C f ∧ L2.Binds K fd ps [] ∧ FnOk P w K mg base CX k f fd ps sp
end
section
variable {P : Program} {w : World} {K : PySem.W.Frag} {mg : Str → Option Value} {base : Heap} {CX : CXT} {k : Nat} {x m q : Str} {st : Stmt} {ps : List Str} {sp : Sp} {f C : Addr} {fd : FuncData}
theorem Def.has (D : Def K mg x st ps f fd) (G : FnOk P w K mg base CX k f fd ps sp) : Has P w K mg base CX k x ps sp := ⟨f, fd, D.g, D.F.kp, D.b, G⟩
theorem DefM.has (D : DefM K C m q st ps f fd) (G : FnOk P w K mg base CX k f fd ps sp) : HasM P w K mg base CX k C m ps sp := ⟨f, fd, D.m, D.b, G⟩
theorem DefI.has (D : DefI K mg C x q st ps f fd) (G : FnOk P w K mg base CX k f fd ps sp) : HasI P w K mg base CX k C x ps sp := ⟨f, fd, D.g, D.m, D.b, G⟩
end
section
variable {X : Cx} {CX : CXT} {k : Nat} {x m : Str} {ps : List Str} {sp : Sp} {C : Addr} {E : XK} {p pos apos : Pos} {e o : Expr} {es : List Expr} {t : TA} {ta : TE}
/-- f(e, ..) -/
theorem pe_has (h : Has X.prog X.w X.K X.mg X.base CX k x ps sp) (hr : Room k X.A) (hx : Passes CX X E) (ha : PA X (e :: es) t) (hg : Gl X x := by rfl)
    (hdb : (x == ("__debug__" : Str)) = false := by decide) (he : starEach (e :: es) X.env = (false, eval e X.env) :: starEach es X.env := by rfl) (hpl : (backTo pos (starEach es X.env)).any (·.1) = false := by rfl) :
    PE X (.Call (.Name x p) (e :: es) [] pos) (tCall sp [] E t) := by
  obtain ⟨f, fd, g, kp, b, G⟩ := h
  exact pe_call G hr hg g kp b .nil hx ha hdb he hpl
/-- C(e, ..) -/
theorem pe_hasI (h : HasI X.prog X.w X.K X.mg X.base CX k C x ps sp) (hr : Room (k + 1) X.A) (hx : Passes CX X E) (ha : PA X (e :: es) t) (hg : Gl X x := by rfl)
    (hdb : (x == ("__debug__" : Str)) = false := by decide) (he : starEach (e :: es) X.env = (false, eval e X.env) :: starEach es X.env := by rfl) (hpl : (backTo pos (starEach es X.env)).any (·.1) = false := by rfl) :
    PE X (.Call (.Name x p) (e :: es) [] pos) (tMake C sp [] E t) := by
  obtain ⟨f, fd, g, M, b, G⟩ := h
  exact pe_make M G hr hg g b .nil hx ha hdb he hpl
/-- o.m(e, ..) -/
theorem pe_hasM {pl : Sem Bool} (h : HasM X.prog X.w X.K X.mg X.base CX k C m ps sp) (c : Cls X.K C) (hr : Room k X.A) (hx : Passes CX X E) (ho : PE X o ta) (ha : PA X (e :: es) t)
    (hst : starEach (e :: es) X.env = (false, eval e X.env) :: starEach es X.env := by rfl) (hpl : (backTo pos (starEach es X.env)).any (·.1) = false := by rfl)
    (ht : eval (.Call (.Attribute o m apos) (e :: es) [] pos) X.env = (do
      let ov ← eval o X.env
      standAt apos.atName
      let (f, first) ← holding [ov] (getMethod ov m pl)
      callWith pos f first (backTo pos (starEach (e :: es) X.env)) (backToKw pos (keywordEach [] X.env))) := by rfl) :
    PE X (.Call (.Attribute o m apos) (e :: es) [] pos) (tMeth C m sp [] E ta t) := by
  obtain ⟨f, fd, M, b, G⟩ := h
  exact pe_meth ho c M G hr b .nil hx ha hst hpl ht
end
/-! ### fractions in the heap -/
def IsF (K : PySem.W.Frag) (H : Hp) (a : Addr) (u : fr) : Prop := SqT K H a [nV u.n, nV u.d]
/-- a tuple of the written part -/
def TupK (K : PySem.W.Frag) (a : Addr) (xs : List V) : Prop := ∃ (o : Obj) (its : Array Value) (n : Nat), K.lookup a = some o ∧ o.cls = .type "tuple" ∧ o.data = .seq its n ∧ its.size ≤ sizeLine ∧ Vals xs its.toList
theorem TupK.at {K : PySem.W.Frag} {a : Addr} {xs : List V} (h : TupK K a xs) (H : Hp) : SqT K H a xs := .inr h
theorem _root_.L2.Same.tup {K : PySem.W.Frag} {H H' : Hp} {a : Addr} {xs : List V} (e : Same H H') (h : SqT K H a xs) : SqT K H' a xs := by
  rcases h with (h | ⟨o, h⟩) | h
  · exact .inl (.inl (e _ _ h))
  · exact .inl (.inr ⟨o, e _ _ h⟩)
  · exact .inr h
theorem _root_.L2.Same.new {H H' : Hp} (e : Same H H') {p : Addr} {o : HO} (hp : H' p = none) : Same H (upd H' p o) := fun b u h => by
  have h1 := e b u h
  rw [upd_ne (ne_of_none h1 hp)]
  exact h1
theorem _root_.L2.Same.upd {H : Hp} {p : Addr} {o : HO} (hp : H p = none) : Same H (L2.upd H p o) := (Same.refl H).new hp
/-- numbers of a bounded size, the lower one above 0 -/
def Ok (k : Nat) (u : fr) : Prop := 0 < u.d ∧ u.n < 2 ^ k ∧ u.d < 2 ^ k
theorem Ok.mono {j k : Nat} {u : fr} (h : Ok j u) (l : j ≤ k) : Ok k u :=
  ⟨h.1, Nat.lt_of_lt_of_le h.2.1 (Nat.pow_le_pow_right (by decide) l), Nat.lt_of_lt_of_le h.2.2 (Nat.pow_le_pow_right (by decide) l)⟩
/-- a new tuple of a fraction is handed back, all else stands -/
def Gives (K : PySem.W.Frag) (u : fr) (H : Hp) (Q : VK) : Prop := ∀ H' p, Same H H' → IsF K H' p u → Q (.ref p) H'
theorem Gives.of {K : PySem.W.Frag} {u : fr} {H H1 : Hp} {Q : VK} (h : Gives K u H Q) (e : Same H H1) : Gives K u H1 Q := fun H' p s f => h H' p (e.trans s) f
theorem mul_lt {a b j k : Nat} (ha : a < 2 ^ j) (hb : b < 2 ^ k) : a * b < 2 ^ (j + k) := by
  rw [Nat.pow_add]
  exact Nat.mul_lt_mul'' ha hb
theorem add_lt {a b j : Nat} (ha : a < 2 ^ j) (hb : b < 2 ^ j) : a + b < 2 ^ (j + 1) := by
  rw [Nat.pow_succ]
  omega
theorem ok_frac {n d k : Nat} (hd : 0 < d) (hn : n < 2 ^ k) (h : d < 2 ^ k) : Ok k (Sj12.frac n d) :=
  ⟨frac_d hd, Nat.lt_of_le_of_lt (frac_le hd).1 hn, Nat.lt_of_le_of_lt (frac_le hd).2 h⟩
theorem ok_times {u v : fr} {j k : Nat} (hu : Ok j u) (hv : Ok k v) : Ok (j + k) (timesF u v) := ok_frac (Nat.mul_pos hu.1 hv.1) (mul_lt hu.2.1 hv.2.1) (mul_lt hu.2.2 hv.2.2)
theorem ok_plus {u v : fr} {j k : Nat} (hu : Ok j u) (hv : Ok k v) : Ok (j + k + 1) (plusF u v) := by
  refine ok_frac (Nat.mul_pos hu.1 hv.1) (add_lt (mul_lt hu.2.1 hv.2.2) ?_) (Nat.lt_of_lt_of_le (mul_lt hu.2.2 hv.2.2) (Nat.pow_le_pow_right (by decide) (Nat.le_succ _)))
  rw [Nat.add_comm j k]
  exact mul_lt hv.2.1 hu.2.2
theorem ok_over {u v : fr} {j k : Nat} (hu : Ok j u) (hv : Ok k v) (h : 0 < v.n) : Ok (j + k) (overF u v) := ok_frac (Nat.mul_pos hu.1 h) (mul_lt hu.2.1 hv.2.2) (mul_lt hu.2.2 hv.2.1)
theorem ok_rest {u : fr} {j : Nat} (hu : Ok j u) : Ok j (restF u) := ok_frac hu.1 (Nat.lt_of_le_of_lt (Nat.sub_le _ _) hu.2.2) hu.2.2
theorem ok_one : Ok 1 fOne := ⟨by decide, by decide, by decide⟩
theorem ok_nil : Ok 1 fNil := ⟨by decide, by decide, by decide⟩
theorem ok_beats {t : Sj12.Three} (g : Good t) (i k : Nat) : Ok 7 (beatsF t i k) := ok_frac (by decide) (Nat.lt_of_le_of_lt (wins_le g i k) (by decide)) (by decide)
theorem le_rest {u : fr} (h : 0 < u.d) : (restF u).n ≤ (restF u).d := frac_nd h (Nat.sub_le _ _)
theorem le_times {u v : fr} (hu : 0 < u.d) (hv : 0 < v.d) (h : u.n ≤ u.d) (h' : v.n ≤ v.d) : (timesF u v).n ≤ (timesF u v).d := frac_nd (Nat.mul_pos hu hv) (Nat.mul_le_mul h h')
theorem le_beats {t : Sj12.Three} (g : Good t) (i k : Nat) : (beatsF t i k).n ≤ (beatsF t i k).d := frac_nd (by decide) (wins_le g i k)
theorem pow_up {j k : Nat} (h : j ≤ k) : 2 ^ j ≤ 2 ^ k := Nat.pow_le_pow_right (by decide) h
/-! ### products of such numbers -/
theorem mulW {a b j k : Nat} (ha : a < 2 ^ j) (hb : b < 2 ^ k) (h0 : 0 < j) (h1 : 0 < k) (h : j + k ≤ 1000000) : CMulW (a : Int) (b : Int) := wide_mul (a := j) (b := k) (by rw [Int.natAbs_natCast]; exact ha) (by rw [Int.natAbs_natCast]; exact hb) h0 h1 h
theorem mulC (a b : Nat) : V.int ((a : Int) * (b : Int)) = nV (a * b) := by rw [nV, Int.natCast_mul]
/-! ### an if whose test is known -/
theorem ifT {c : Bool} {A B : Prop} (hc : c = true) (h : A) : if c = true then A else B := by
  rw [if_pos hc]
  exact h
theorem ifF {c : Bool} {A B : Prop} (hc : c = false) (h : B) : if c = true then A else B := by
  rw [hc, if_neg Bool.false_ne_true]
  exact h
theorem two_le : 2 ≤ sizeLine := by decide
end Tb
namespace Tb
open PySem PySem.Spec PyProof.Rows L2
section
variable {P : Program} {w : World} {K : PySem.W.Frag} {mg : Str → Option Value} {base : Heap} {f : Addr} {fd : FuncData}
/-! ### common -/
abbrev sCommon : Stmt := top 3
theorem scCommon : FnScope ["one", "other"] ["one", "other"] (defScope sCommon) := ⟨rfl, rfl, rfl, by decide +kernel, rfl, by decide +kernel, by decide +kernel⟩
def spCommon : Sp := fun vs H Q _ => ∃ a b : Nat, vs = [nV a, nV b] ∧ Q (nV (Nat.gcd a b)) H
def muC : St → Hp → Nat := fun σ _ => match σ with
  | [_, some (.int y)] => y.toNat
  | _ => 0
theorem gcd_turn (a b : Nat) : Nat.gcd b (a % b) = Nat.gcd a b := by
  rw [Nat.gcd_comm b (a % b), ← Nat.gcd_rec b a, Nat.gcd_comm]
theorem ok_common (D : Def K mg "common" sCommon ["one", "other"] f fd) : FnOk P w K mg base CX0 2 f fd ["one", "other"] spCommon := by
  refine D.F.ok scCommon (fun vs H Q E h => ?_) (fun cdv A outer s H vs Q E hr h => ?_)
  · obtain ⟨a, b, rfl, _⟩ := h
    rfl
  · refine ⟨_, pss_cons (ps_while PassesOwn.never (pt_cmpR op_gt (pv 1) pe_int (nomark _))
        (pss_one (ps_par (i := 0) (j := 1) rfl scCommon.nd rfl rfl (by decide) rfl rfl (pa_cons (pv 1) (pa_cons (pe_op op_mod (pv 0) (pv 1)) pa_nil)) (by rfl))))
      (pss_one (ps_ret (pv 0))), ?_⟩
    obtain ⟨a, b, rfl, k⟩ := h
    refine while_by (fun σ H' => H' = H ∧ ∃ x y : Nat, σ = [some (nV x), some (nV y)] ∧ Nat.gcd x y = Nat.gcd a b) muC ⟨rfl, a, b, rfl, rfl⟩ ?_ ?_
    · rintro σ H' ⟨rfl, x, y, rfl, e⟩
      refine ⟨_, rfl, _, _, rfl, rfl, _, rfl, ?_⟩
      by_cases c : (0 : Int) < (y : Int)
      · refine ifT (decide_eq_true c) ?_
        refine ⟨_, rfl, _, rfl, _, rfl, _, _, rfl, rfl, c, _, _, rfl, ⟨rfl, y, x % y, ?_, ?_⟩, ?_⟩
        · show [some (nV y), some (V.int ((x : Int) % (y : Int)))] = _
          rw [nV, nV, Int.natCast_emod]
        · rw [gcd_turn]
          exact e
        · show ((x : Int) % (y : Int)).toNat < ((y : Nat) : Int).toNat
          have := Int.emod_lt_of_pos (x : Int) c
          have := Int.emod_nonneg (x : Int) (show (y : Int) ≠ 0 by omega)
          omega
      · refine ifF (decide_eq_false c) ?_
        have y0 : y = 0 := by omega
        subst y0
        refine ⟨_, rfl, ?_⟩
        rw [Nat.gcd_zero_right] at e
        rw [e]
        exact k
    · rintro σ H' Q1 Q2 hq ⟨v, h1, i, j, e1, e2, b, e3, q⟩
      exact ⟨v, h1, i, j, e1, e2, b, e3, hq _ _ q⟩
/-! ### fraction -/
abbrev sFraction : Stmt := top 4
theorem scFraction : FnScope ["above", "below", "by"] ["above", "below"] (defScope sFraction) := ⟨rfl, rfl, rfl, by decide +kernel, rfl, by decide +kernel, by decide +kernel⟩
def spFraction (K : PySem.W.Frag) : Sp := fun vs H Q _ => ∃ a b : Nat, vs = [nV a, nV b] ∧ 0 < b ∧ b < 2 ^ 8000 ∧ Gives K (Sj12.frac a b) H Q
theorem ok_fraction (D : Def K mg "fraction" sFraction ["above", "below"] f fd) (h1 : Has P w K mg base CX0 2 "common" ["one", "other"] spCommon) : FnOk P w K mg base CX0 3 f fd ["above", "below"] (spFraction K) := by
  refine D.F.ok scFraction (fun vs H Q E h => ?_) (fun cdv A outer s H vs Q E hr h => ?_)
  · obtain ⟨a, b, rfl, _⟩ := h
    rfl
  · refine ⟨_, pss_cons (ps_set (i := 2) scFraction.nd rfl (Or.inl rfl) (pe_has h1 hr pass0 (pa_cons (pv 0) (pa_cons (pv 1) pa_nil))))
      (pss_one (ps_ret (pe_tup (pa_cons (pe_op op_fdivW (pv 0) (pv 2)) (pa_cons (pe_op op_fdivW (pv 1) (pv 2)) pa_nil))))), ?_⟩
    obtain ⟨a, b, rfl, hb, hs, k⟩ := h
    have g0 := gcd_pos' (n := a) hb
    have gl : Nat.gcd a b < 2 ^ 8000 := Nat.lt_of_le_of_lt (Nat.gcd_le_right a hb) hs
    have cd : ∀ i : Int, CDivW i ((Nat.gcd a b : Nat) : Int) := fun i => wide_div (b := 8000) (by omega) (by rw [Int.natAbs_natCast]; exact gl) (by decide) (by decide)
    refine ⟨_, rfl, _, rfl, a, b, rfl, ?_⟩
    refine ⟨_, rfl, _, rfl, _, _, rfl, rfl, cd _, _, rfl, _, rfl, _, _, rfl, rfl, cd _, two_le, fun p hp => ?_⟩
    refine k _ p (Same.upd hp) ?_
    rw [frac_pos hb]
    refine SqT.of ?_
    rw [upd_same, nV, nV, Int.natCast_ediv, Int.natCast_ediv]
/-! ### plus, times, over, rest_of, is_less -/
section
variable {X : Cx}
theorem pix (i : Nat) {j : Int} {e : Nat} {x : Str} {pos pos2 pos3 : Pos} (hN : X.N[i]? = some x := by rfl) (hv : Vis X.env.scope x := by first | exact Or.inl rfl | exact Or.inr (Or.inl rfl) | exact Or.inr (Or.inr rfl)) (hd : (x == ("__debug__" : Str)) = false := by decide)
    (hcd : (x == ("__classdict__" : Str)) = false := by decide) : PE X (.Subscript (.Name x pos) (.Constant (.int j) e pos2) pos3) (tOp (rIxT X.K) (tVar i) (tC (.int j))) := pe_ix ix_tup (pe_var hN hv hd hcd) pe_int (fun _ _ => rfl)
end
/-- of two fractions a fraction -/
def spBin (K : PySem.W.Frag) (g : fr → fr → fr) (pre : fr → fr → Prop) : Sp := fun vs H Q _ => ∃ (a b : Addr) (u v : fr), vs = [.ref a, .ref b] ∧ IsF K H a u ∧ IsF K H b v ∧ Ok 2000 u ∧ Ok 2000 v ∧ pre u v ∧ Gives K (g u v) H Q
abbrev anyF : fr → fr → Prop := fun _ _ => True
abbrev overP : fr → fr → Prop := fun _ v => 0 < v.n
theorem m20 {a b : Nat} (ha : a < 2 ^ 2000) (hb : b < 2 ^ 2000) : CMulW (a : Int) (b : Int) := mulW ha hb (by decide) (by decide) (by decide)
theorem l40 {a b : Nat} (ha : a < 2 ^ 2000) (hb : b < 2 ^ 2000) : a * b < 2 ^ 8000 := Nat.lt_of_lt_of_le (mul_lt ha hb) (pow_up (by decide))
abbrev sPlus : Stmt := top 5
abbrev sTimes : Stmt := top 6
abbrev sOver : Stmt := top 7
abbrev sRest : Stmt := top 8
abbrev sLess : Stmt := top 9
theorem scPlus : FnScope ["one", "other"] ["one", "other"] (defScope sPlus) := ⟨rfl, rfl, rfl, by decide +kernel, rfl, by decide +kernel, by decide +kernel⟩
theorem scTimes : FnScope ["one", "other"] ["one", "other"] (defScope sTimes) := ⟨rfl, rfl, rfl, by decide +kernel, rfl, by decide +kernel, by decide +kernel⟩
theorem scOver : FnScope ["one", "other"] ["one", "other"] (defScope sOver) := ⟨rfl, rfl, rfl, by decide +kernel, rfl, by decide +kernel, by decide +kernel⟩
theorem scRest : FnScope ["one"] ["one"] (defScope sRest) := ⟨rfl, rfl, rfl, by decide +kernel, rfl, by decide +kernel, by decide +kernel⟩
theorem scLess : FnScope ["one", "other"] ["one", "other"] (defScope sLess) := ⟨rfl, rfl, rfl, by decide +kernel, rfl, by decide +kernel, by decide +kernel⟩
theorem ok_pluss (D : Def K mg "plus" sPlus ["one", "other"] f fd) (h1 : Has P w K mg base CX0 3 "fraction" ["above", "below"] (spFraction K)) : FnOk P w K mg base CX0 4 f fd ["one", "other"] (spBin K plusF anyF) := by
  refine D.F.ok scPlus (fun vs H Q E h => ?_) (fun cdv A outer s H vs Q E hr h => ?_)
  · obtain ⟨a, b, u, v, rfl, _⟩ := h
    rfl
  · refine ⟨_, pss_one (ps_ret (pe_has h1 hr pass0 (pa_cons (pe_op op_add (pe_op op_mulW (pix 0) (pix 1)) (pe_op op_mulW (pix 1) (pix 0))) (pa_cons (pe_op op_mulW (pix 0) (pix 1)) pa_nil)))), ?_⟩
    obtain ⟨a, b, u, v, rfl, hu, hv, ou, ov, _, k⟩ := h
    refine ⟨_, rfl, _, _, _, _, rfl, rfl, hu, rfl, _, rfl, _, _, _, _, rfl, rfl, hv, rfl, _, _, rfl, rfl, m20 ou.2.1 ov.2.2, ?_⟩
    refine ⟨_, rfl, _, _, _, _, rfl, rfl, hv, rfl, _, rfl, _, _, _, _, rfl, rfl, hu, rfl, _, _, rfl, rfl, m20 ov.2.1 ou.2.2, _, _, rfl, rfl, ?_⟩
    refine ⟨_, rfl, _, _, _, _, rfl, rfl, hu, rfl, _, rfl, _, _, _, _, rfl, rfl, hv, rfl, _, _, rfl, rfl, m20 ou.2.2 ov.2.2, ?_⟩
    refine ⟨u.n * v.d + v.n * u.d, u.d * v.d, ?_, Nat.mul_pos ou.1 ov.1, l40 ou.2.2 ov.2.2, k⟩
    rw [nV, nV, Int.natCast_add, Int.natCast_mul, Int.natCast_mul, Int.natCast_mul]
    rfl
theorem ok_timess (D : Def K mg "times" sTimes ["one", "other"] f fd) (h1 : Has P w K mg base CX0 3 "fraction" ["above", "below"] (spFraction K)) : FnOk P w K mg base CX0 4 f fd ["one", "other"] (spBin K timesF anyF) := by
  refine D.F.ok scTimes (fun vs H Q E h => ?_) (fun cdv A outer s H vs Q E hr h => ?_)
  · obtain ⟨a, b, u, v, rfl, _⟩ := h
    rfl
  · refine ⟨_, pss_one (ps_ret (pe_has h1 hr pass0 (pa_cons (pe_op op_mulW (pix 0) (pix 1)) (pa_cons (pe_op op_mulW (pix 0) (pix 1)) pa_nil)))), ?_⟩
    obtain ⟨a, b, u, v, rfl, hu, hv, ou, ov, _, k⟩ := h
    refine ⟨_, rfl, _, _, _, _, rfl, rfl, hu, rfl, _, rfl, _, _, _, _, rfl, rfl, hv, rfl, _, _, rfl, rfl, m20 ou.2.1 ov.2.1, ?_⟩
    refine ⟨_, rfl, _, _, _, _, rfl, rfl, hu, rfl, _, rfl, _, _, _, _, rfl, rfl, hv, rfl, _, _, rfl, rfl, m20 ou.2.2 ov.2.2, ?_⟩
    refine ⟨u.n * v.n, u.d * v.d, ?_, Nat.mul_pos ou.1 ov.1, l40 ou.2.2 ov.2.2, k⟩
    rw [nV, nV, Int.natCast_mul, Int.natCast_mul]
    rfl
theorem ok_overs (D : Def K mg "over" sOver ["one", "other"] f fd) (h1 : Has P w K mg base CX0 3 "fraction" ["above", "below"] (spFraction K)) : FnOk P w K mg base CX0 4 f fd ["one", "other"] (spBin K overF overP) := by
  refine D.F.ok scOver (fun vs H Q E h => ?_) (fun cdv A outer s H vs Q E hr h => ?_)
  · obtain ⟨a, b, u, v, rfl, _⟩ := h
    rfl
  · refine ⟨_, pss_one (ps_ret (pe_has h1 hr pass0 (pa_cons (pe_op op_mulW (pix 0) (pix 1)) (pa_cons (pe_op op_mulW (pix 0) (pix 1)) pa_nil)))), ?_⟩
    obtain ⟨a, b, u, v, rfl, hu, hv, ou, ov, h0, k⟩ := h
    refine ⟨_, rfl, _, _, _, _, rfl, rfl, hu, rfl, _, rfl, _, _, _, _, rfl, rfl, hv, rfl, _, _, rfl, rfl, m20 ou.2.1 ov.2.2, ?_⟩
    refine ⟨_, rfl, _, _, _, _, rfl, rfl, hu, rfl, _, rfl, _, _, _, _, rfl, rfl, hv, rfl, _, _, rfl, rfl, m20 ou.2.2 ov.2.1, ?_⟩
    refine ⟨u.n * v.d, u.d * v.n, ?_, Nat.mul_pos ou.1 h0, l40 ou.2.2 ov.2.1, k⟩
    rw [nV, nV, Int.natCast_mul, Int.natCast_mul]
    rfl
def spRest (K : PySem.W.Frag) : Sp := fun vs H Q _ => ∃ (a : Addr) (u : fr), vs = [.ref a] ∧ IsF K H a u ∧ Ok 2000 u ∧ u.n ≤ u.d ∧ Gives K (restF u) H Q
theorem ok_rests (D : Def K mg "rest_of" sRest ["one"] f fd) (h1 : Has P w K mg base CX0 3 "fraction" ["above", "below"] (spFraction K)) : FnOk P w K mg base CX0 4 f fd ["one"] (spRest K) := by
  refine D.F.ok scRest (fun vs H Q E h => ?_) (fun cdv A outer s H vs Q E hr h => ?_)
  · obtain ⟨a, u, rfl, _⟩ := h
    rfl
  · refine ⟨_, pss_one (ps_ret (pe_has h1 hr pass0 (pa_cons (pe_op op_sub (pix 0) (pix 0)) (pa_cons (pix 0) pa_nil)))), ?_⟩
    obtain ⟨a, u, rfl, hu, ou, le, k⟩ := h
    refine ⟨_, rfl, _, _, _, _, rfl, rfl, hu, rfl, _, rfl, _, _, _, _, rfl, rfl, hu, rfl, _, _, rfl, rfl, _, rfl, _, _, _, _, rfl, rfl, hu, rfl, ?_⟩
    refine ⟨u.d - u.n, u.d, ?_, ou.1, Nat.lt_of_lt_of_le ou.2.2 (pow_up (by decide)), k⟩
    show [V.int ((u.d : Int) - (u.n : Int)), nV u.d] = _
    rw [nV, nV, Int.natCast_sub le]
def spLess (K : PySem.W.Frag) : Sp := fun vs H Q _ => ∃ (a b : Addr) (u v : fr), vs = [.ref a, .ref b] ∧ IsF K H a u ∧ IsF K H b v ∧ Ok 2000 u ∧ Ok 2000 v ∧ Q (.bl (Sj12.less u v)) H
theorem ok_less (D : Def K mg "is_less" sLess ["one", "other"] f fd) : FnOk P w K mg base CX0 1 f fd ["one", "other"] (spLess K) := by
  refine D.F.ok scLess (fun vs H Q E h => ?_) (fun cdv A outer s H vs Q E hr h => ?_)
  · obtain ⟨a, b, u, v, rfl, _⟩ := h
    rfl
  · refine ⟨_, pss_one (ps_ret (pe_cmpR op_lt (pe_op op_mulW (pix 0) (pix 1)) (pe_op op_mulW (pix 1) (pix 0)) (nomark _))), ?_⟩
    obtain ⟨a, b, u, v, rfl, hu, hv, ou, ov, k⟩ := h
    refine ⟨_, rfl, _, _, _, _, rfl, rfl, hu, rfl, _, rfl, _, _, _, _, rfl, rfl, hv, rfl, _, _, rfl, rfl, m20 ou.2.1 ov.2.2, ?_⟩
    refine ⟨_, rfl, _, _, _, _, rfl, rfl, hv, rfl, _, rfl, _, _, _, _, rfl, rfl, hu, rfl, _, _, rfl, rfl, m20 ov.2.1 ou.2.2, _, _, rfl, rfl, ?_⟩
    have e : decide ((u.n : Int) * (v.d : Int) < (v.n : Int) * (u.d : Int)) = Sj12.less u v := by
      unfold Sj12.less
      refine decide_eq_decide.mpr ?_
      rw [← Int.natCast_mul, ← Int.natCast_mul]
      exact Int.ofNat_lt
    show Q (.bl (decide ((u.n : Int) * (v.d : Int) < (v.n : Int) * (u.d : Int)))) H
    rw [e]
    exact k
end
end Tb
namespace Tb
open PySem PySem.Spec PyProof.Rows L2
/-! ### what the top has written: classes, constants, built-in names -/
structure Txt (K : PySem.W.Frag) (mg : Str → Option Value) (CS CW CT CR : Addr) : Prop where
  clS : Cls K CS
  nWon : NoAttr K CS "won"
  clW : Cls K CW
  nWin : NoAttr K CW "winner"
  nLos : NoAttr K CW "loser"
  nMan : NoAttr K CW "many"
  nCha : NoAttr K CW "champion"
  clT : Cls K CT
  nStr : NoAttr K CT "strengths"
  err : ErrC K CR
  xf : XfC K CR
  te : PySem.W.exmOne K (.ref CR) (.ref CR) = some true
  gR : mg "Refused" = some (.ref CR)
  exi : PySem.W.findCls K (.type "Exception") (.type "type") "__init__" = some (.val (.builtin "Exception.__init__"))
  bExc : mg "Exception" = none
  bAny : mg "any" = none
  bAll : mg "all" = none
  bList : mg "list" = none
  bLen : mg "len" = none
  cNil : ∃ a, mg "NOUGHT" = some (.ref a) ∧ TupK K a [nV 0, nV 1]
  cOne : ∃ a, mg "ONE" = some (.ref a) ∧ TupK K a [nV 1, nV 1]
  cWre : ∃ a, mg "WRESTLERS" = some (.ref a) ∧ TupK K a [nV 0, nV 1, nV 2]
  cHun : ∃ t, mg "HUNDRED" = some (.int 100 t)
  cNob : ∃ t, mg "NOBODY" = some (.int 3 t)
  cBeg : ∃ t, mg "BEGINS" = some (.int 0 t)
  cOdd : ∃ t, mg "ODDS" = some (.int 1 t)
  cLon : ∃ t, mg "LONG" = some (.int 2 t)
  cWai : ∃ t, mg "WAIT" = some (.int 3 t)
  cFif : ∃ t, mg "FIFTY" = some (.int 50 t)
  cBad : ∃ t, mg "BAD" = some (.int (-1) t)
  cNoW : ∃ t, mg "NO_WRESTLERS" = some (.int (-2) t)
  cFor : ∃ t, mg "FOR_EVER" = some (.int (-6) t)
section
variable {X : Cx}
/-- a constant of the module: a number -/
theorem pgi {x : Str} {i : Int} {pos : Pos} (h : ∃ t, X.mg x = some (.int i t)) (hg : Gl X x := by rfl) (hd : (x == ("__debug__" : Str)) = false := by decide) : PE X (.Name x pos) (tC (.int i)) := by
  obtain ⟨t, h⟩ := h
  exact pe_glob hg h ⟨t, rfl⟩ hd
theorem pgr {x : Str} {a : Addr} {pos : Pos} (h : X.mg x = some (.ref a)) (hg : Gl X x := by rfl) (hd : (x == ("__debug__" : Str)) = false := by decide) : PE X (.Name x pos) (tC (.ref a)) := pe_glob (v := V.ref a) hg h rfl hd
end
/-! ### attributes -/
theorem lk_here {k : Str} {v : V} {r : List (Str × V)} : List.lookup k ((k, v) :: r) = some v := by
  have e : (k == k) = true := beq_self_eq_true k
  simp only [List.lookup, e]
theorem lk_past {k g : Str} {v : V} {r : List (Str × V)} (h : (k == g) = false) : List.lookup k ((g, v) :: r) = List.lookup k r := by
  simp only [List.lookup, h]
theorem put_here {f : Str} {v x : V} {r : List (Str × V)} : putF f v ((f, x) :: r) = (f, v) :: r := if_pos rfl
theorem put_past {f g : Str} {v x : V} {r : List (Str × V)} (h : ¬ g = f) : putF f v ((g, x) :: r) = (g, x) :: putF f v r := if_neg h
/-! ### the strengths in the heap -/
def wonL (t : Sj12.Three) : List V := [nV t.a, nV t.b, nV t.c]
def StrAt (C : Addr) (H : Hp) (s : Addr) (t : Sj12.Three) : Prop := ∃ dx q : Addr, H s = some (.ins C dx [("won", .ref q)]) ∧ H q = some (.tup (wonL t))
theorem StrAt.same {C s : Addr} {H H' : Hp} {t : Sj12.Three} (h : StrAt C H s t) (e : Same H H') : StrAt C H' s t := by
  obtain ⟨dx, q, h1, h2⟩ := h
  exact ⟨dx, q, e _ _ h1, e _ _ h2⟩
/-- all but what stands at a is as it was -/
def Keep (a : Addr) (H H' : Hp) : Prop := ∀ b o, H b = some o → b ≠ a → H' b = some o
theorem won_lk (q : Addr) : List.lookup ("won" : Str) [(("won" : Str), V.ref q)] = some (.ref q) := lk_here
theorem won_no (q : Addr) : List.lookup ("beats" : Str) [(("won" : Str), V.ref q)] = none := (lk_past (by decide +kernel)).trans rfl
theorem won_a {t : Sj12.Three} {i k : Nat} (h : Two i k) (c : k = (i + 1) % 3) : atI (wonL t) (i : Int) = some (nV (t.wins i k)) := by
  rcases two_cases h with ⟨rfl, rfl⟩ | ⟨rfl, rfl⟩ | ⟨rfl, rfl⟩ | ⟨rfl, rfl⟩ | ⟨rfl, rfl⟩ | ⟨rfl, rfl⟩ <;> first | rfl | (exact absurd c (by decide))
theorem won_b {t : Sj12.Three} (g : Good t) {i k : Nat} (h : Two i k) (c : ¬ k = (i + 1) % 3) : ∃ m : Nat, atI (wonL t) (k : Int) = some (nV m) ∧ m ≤ 100 ∧ t.wins i k = 100 - m := by
  obtain ⟨g1, g2, g3⟩ := g
  rcases two_cases h with ⟨rfl, rfl⟩ | ⟨rfl, rfl⟩ | ⟨rfl, rfl⟩ | ⟨rfl, rfl⟩ | ⟨rfl, rfl⟩ | ⟨rfl, rfl⟩ <;> first | (exact absurd rfl c) | (exact ⟨_, rfl, by assumption, rfl⟩)
section
variable {P : Program} {w : World} {K : PySem.W.Frag} {mg : Str → Option Value} {base : Heap} {f : Addr} {fd : FuncData} {CS CW CT CR : Addr}
/-! ### Strengths.__init__, beats, third_of -/
abbrev sSI : Stmt := inClass (top 13) 0
abbrev sBeats : Stmt := inClass (top 13) 1
abbrev sThird : Stmt := top 14
theorem scSI : FnScope ["self", "zero_one", "one_two", "two_zero"] ["self", "zero_one", "one_two", "two_zero"] (defScope sSI) := ⟨rfl, rfl, rfl, by decide +kernel, rfl, by decide +kernel, by decide +kernel⟩
theorem scBeats : FnScope ["self", "one", "other"] ["self", "one", "other"] (defScope sBeats) := ⟨rfl, rfl, rfl, by decide +kernel, rfl, by decide +kernel, by decide +kernel⟩
theorem scThird : FnScope ["one", "other"] ["one", "other"] (defScope sThird) := ⟨rfl, rfl, rfl, by decide +kernel, rfl, by decide +kernel, by decide +kernel⟩
def spSI (CS : Addr) : Sp := fun vs H Q _ => ∃ (p dx : Addr) (a b c : Nat), vs = [.ref p, nV a, nV b, nV c] ∧ H p = some (.ins CS dx []) ∧ ∀ H' : Hp, StrAt CS H' p ⟨a, b, c⟩ → Keep p H H' → Q .non H'
theorem ok_sInit (D : DefI K mg CS "Strengths" "Strengths.__init__" sSI ["self", "zero_one", "one_two", "two_zero"] f fd) (T : Txt K mg CS CW CT CR) : FnOk P w K mg base CX0 1 f fd ["self", "zero_one", "one_two", "two_zero"] (spSI CS) := by
  refine D.F.ok scSI (fun vs H Q E h => ?_) (fun cdv A outer s H vs Q E hr h => ?_)
  · obtain ⟨p, dx, a, b, c, rfl, _⟩ := h
    rfl
  · refine ⟨_, pss_one (ps_fld (pv 0) (pe_tup (pa_cons (pv 1) (pa_cons (pv 2) (pa_cons (pv 3) pa_nil)))) rfl), ?_⟩
    obtain ⟨p, dx, a, b, c, rfl, hp, k⟩ := h
    refine ⟨_, rfl, _, rfl, _, rfl, (by show 3 ≤ sizeLine; decide), fun q hq => ?_⟩
    have ne : p ≠ q := ne_of_none hp hq
    refine ⟨_, rfl, p, CS, dx, [], rfl, (upd_ne ne).trans hp, T.clS, T.nWon, (by show 0 < 1000; decide), ?_⟩
    exact k _ ⟨dx, q, upd_same, (upd_ne (Ne.symm ne)).trans upd_same⟩ fun b o hb hn => by
      rw [upd_ne hn, upd_ne (ne_of_none hb hq)]
      exact hb
def spBeats (K : PySem.W.Frag) (CS : Addr) : Sp := fun vs H Q _ => ∃ (s : Addr) (t : Sj12.Three) (i k : Nat), vs = [.ref s, nV i, nV k] ∧ StrAt CS H s t ∧ Good t ∧ Two i k ∧ Gives K (beatsF t i k) H Q
theorem ok_beatss (D : DefM K CS "beats" "Strengths.beats" sBeats ["self", "one", "other"] f fd) (T : Txt K mg CS CW CT CR) (h1 : Has P w K mg base CX0 3 "fraction" ["above", "below"] (spFraction K)) :
    FnOk P w K mg base CX0 4 f fd ["self", "one", "other"] (spBeats K CS) := by
  refine D.F.ok scBeats (fun vs H Q E h => ?_) (fun cdv A outer s H vs Q E hr h => ?_)
  · obtain ⟨s, t, i, k, rfl, _⟩ := h
    rfl
  · refine ⟨_, pss_cons (ps_if (pt_cmpR op_eq (pv 2) (pe_op op_mod (pe_op op_add (pv 1) pe_int) pe_int) (nomark _))
        (pss_one (ps_ret (pe_has h1 hr pass0 (pa_cons (pe_ix ix_tup (pe_fld (pv 0) rfl) (pv 1) (fun _ _ => rfl)) (pa_cons (pgi T.cHun) pa_nil))))) pss_nil)
      (pss_one (ps_ret (pe_has h1 hr pass0 (pa_cons (pe_op op_sub (pgi T.cHun) (pe_ix ix_tup (pe_fld (pv 0) rfl) (pv 2) (fun _ _ => rfl))) (pa_cons (pgi T.cHun) pa_nil))))), ?_⟩
    obtain ⟨s, t, i, k, rfl, ⟨dx, q, hs, hq⟩, g, tw, kk⟩ := h
    refine ⟨_, rfl, _, rfl, _, _, rfl, rfl, _, _, rfl, rfl, (by show (0 : Int) < 3; decide), rfl, _, rfl, ?_⟩
    have ce : ∀ z : Nat, z = (i + 1) % 3 → V.int ((z : Nat) : Int) = V.int ((((i : Nat) : Int) + 1) % 3) := fun z hz => by
      subst hz
      rfl
    by_cases c : k = (i + 1) % 3
    · refine ifT (decide_eq_true (ce k c)) ?_
      refine ⟨_, rfl, s, CS, dx, _, _, rfl, hs, T.clS, T.nWon, won_lk q, _, rfl, _, _, _, _, rfl, rfl, SqT.of hq, won_a tw c, ?_⟩
      exact ⟨_, 100, rfl, by decide, by decide, kk⟩
    · refine ifF (decide_eq_false fun z => c ?_) ?_
      · have z' : ((k : Nat) : Int) = (((i : Nat) : Int) + 1) % 3 := V.int.inj z
        omega
      · obtain ⟨m, hm, le, ew⟩ := won_b g tw c
        refine ⟨_, rfl, s, CS, dx, _, _, rfl, hs, T.clS, T.nWon, won_lk q, _, rfl, _, _, _, _, rfl, rfl, SqT.of hq, hm, _, _, rfl, rfl, ?_⟩
        refine ⟨100 - m, 100, ?_, by decide, by decide, ?_⟩
        · show [V.int ((100 : Int) - (m : Int)), nV 100] = _
          rw [nV, nV, Int.natCast_sub le]
          rfl
        · rw [← ew]
          exact kk
def spThird : Sp := fun vs H Q _ => ∃ i k : Nat, vs = [nV i, nV k] ∧ Two i k ∧ Q (nV (Sj12.other i k)) H
theorem ok_third (D : Def K mg "third_of" sThird ["one", "other"] f fd) : FnOk P w K mg base CX0 1 f fd ["one", "other"] spThird := by
  refine D.F.ok scThird (fun vs H Q E h => ?_) (fun cdv A outer s H vs Q E hr h => ?_)
  · obtain ⟨i, k, rfl, _⟩ := h
    rfl
  · refine ⟨_, pss_one (ps_ret (pe_op op_sub (pe_op op_sub pe_int (pv 0)) (pv 1))), ?_⟩
    obtain ⟨i, k, rfl, tw, kk⟩ := h
    refine ⟨_, rfl, _, _, rfl, rfl, _, rfl, _, _, rfl, rfl, ?_⟩
    have e : (3 : Int) - (i : Int) - (k : Int) = ((Sj12.other i k : Nat) : Int) := by
      rcases two_cases tw with ⟨rfl, rfl⟩ | ⟨rfl, rfl⟩ | ⟨rfl, rfl⟩ | ⟨rfl, rfl⟩ | ⟨rfl, rfl⟩ | ⟨rfl, rfl⟩ <;> rfl
    show Q (V.int ((3 : Int) - (i : Int) - (k : Int))) H
    rw [e]
    exact kk
end
end Tb
namespace Tb
/-! ### sizes along the loops -/
/-- a chance: small, not above 1 -/
def Ch (u : fr) : Prop := Ok 7 u ∧ u.n ≤ u.d
theorem ch_beats {t : Sj12.Three} (g : Good t) (i k : Nat) : Ch (beatsF t i k) := ⟨ok_beats g i k, le_beats g i k⟩
def rSt (f : fr) (p : Nat × fr) : fr := timesF f (restF p.2)
theorem round_eq (t : Sj12.Three) (i k : Nat) : roundF t i k = (three t i k).foldl rSt fOne := rfl
theorem three_ch {t : Sj12.Three} (g : Good t) (i k : Nat) : ∀ p ∈ three t i k, Ch p.2 := by
  intro p hp
  unfold three at hp
  rcases List.mem_cons.mp hp with rfl | hp
  · exact ch_beats g _ _
  · rcases List.mem_cons.mp hp with rfl | hp
    · exact ch_beats g _ _
    · rcases List.mem_cons.mp hp with rfl | hp
      · exact ch_beats g _ _
      · cases hp
def grow : Nat → Nat → Nat
  | 0, k => k
  | n + 1, k => grow n (2 * k + 8)
theorem grow_le : ∀ n : Nat, n ≤ 3 → grow n 1 ≤ 64
  | 0, _ => by decide
  | 1, _ => by decide
  | 2, _ => by decide
  | 3, _ => by decide
  | n + 4, h => by omega
theorem le_n {u : fr} {k : Nat} (h : Ok k u) : 0 < u.d := h.1
theorem rst_grow : ∀ (ps : List (Nat × fr)) (f : fr) (k : Nat), (∀ p ∈ ps, Ch p.2) → Ok k f → f.n ≤ f.d → Ok (grow ps.length k) (ps.foldl rSt f) ∧ (ps.foldl rSt f).n ≤ (ps.foldl rSt f).d
  | [], f, k, _, h, l => ⟨h, l⟩
  | p :: ps, f, k, c, h, l => by
    have cp := c p List.mem_cons_self
    exact rst_grow ps (rSt f p) (2 * k + 8) (fun q hq => c q (List.mem_cons_of_mem _ hq)) ((ok_times h (ok_rest cp.1)).mono (by omega)) (le_times h.1 (ok_rest cp.1).1 l (le_rest cp.1.1))
theorem rst_ok {t : Sj12.Three} (g : Good t) (i k n : Nat) : Ok 64 (((three t i k).take n).foldl rSt fOne) ∧ (((three t i k).take n).foldl rSt fOne).n ≤ (((three t i k).take n).foldl rSt fOne).d := by
  have h := rst_grow ((three t i k).take n) fOne 1 (fun p hp => three_ch g i k p (List.mem_of_mem_take hp)) ok_one (by decide)
  exact ⟨h.1.mono (grow_le _ (by rw [List.length_take]; exact Nat.min_le_right _ _)), h.2⟩
theorem b_one : ∀ (x : Nat) (ps : List (Nat × fr)) (s : fr × fr), (ps.foldl (bStep x) s).1 = ps.foldl rSt s.1
  | x, [], s => rfl
  | x, p :: ps, s => b_one x ps (bStep x s p)
theorem l_one : ∀ (ps : List (Nat × fr)) (s : fr × fr), (ps.foldl lStep s).1 = ps.foldl rSt s.1
  | [], s => rfl
  | p :: ps, s => l_one ps (lStep s p)
theorem b_grow (x : Nat) : ∀ (ps : List (Nat × fr)) (s : fr × fr) (k : Nat), (∀ p ∈ ps, Ch p.2) → Ok k s.1 → Ok k s.2 → Ok (grow ps.length k) (ps.foldl (bStep x) s).2
  | [], s, k, _, _, h => h
  | p :: ps, s, k, c, h1, h2 => by
    have cp := c p List.mem_cons_self
    refine b_grow x ps (bStep x s p) (2 * k + 8) (fun q hq => c q (List.mem_cons_of_mem _ hq)) ((ok_times h1 (ok_rest cp.1)).mono (by omega)) ?_
    show Ok (2 * k + 8) (if p.1 = x then timesF s.1 p.2 else s.2)
    split
    · exact (ok_times h1 cp.1).mono (by omega)
    · exact h2.mono (by omega)
theorem l_grow : ∀ (ps : List (Nat × fr)) (s : fr × fr) (k : Nat), (∀ p ∈ ps, Ch p.2) → Ok k s.1 → Ok k s.2 → Ok (grow ps.length k) (ps.foldl lStep s).2
  | [], s, k, _, _, h => h
  | p :: ps, s, k, c, h1, h2 => by
    have cp := c p List.mem_cons_self
    exact l_grow ps (lStep s p) (2 * k + 8) (fun q hq => c q (List.mem_cons_of_mem _ hq)) ((ok_times h1 (ok_rest cp.1)).mono (by omega)) ((ok_plus h2 h1).mono (by omega))
abbrev bAt (t : Sj12.Three) (i k x n : Nat) : fr × fr := ((three t i k).take n).foldl (bStep x) (fOne, fNil)
abbrev lAt (t : Sj12.Three) (i k n : Nat) : fr × fr := ((three t i k).take n).foldl lStep (fOne, fNil)
theorem b_ok {t : Sj12.Three} (g : Good t) (i k x n : Nat) : Ok 64 (bAt t i k x n).1 ∧ (bAt t i k x n).1.n ≤ (bAt t i k x n).1.d ∧ Ok 64 (bAt t i k x n).2 := by
  have h1 := rst_ok g i k n
  have e : (bAt t i k x n).1 = ((three t i k).take n).foldl rSt fOne := b_one x _ _
  rw [e]
  refine ⟨h1.1, h1.2, ?_⟩
  exact (b_grow x _ _ 1 (fun p hp => three_ch g i k p (List.mem_of_mem_take hp)) ok_one ok_nil).mono (grow_le _ (by rw [List.length_take]; exact Nat.min_le_right _ _))
theorem l_ok {t : Sj12.Three} (g : Good t) (i k n : Nat) : Ok 64 (lAt t i k n).1 ∧ (lAt t i k n).1.n ≤ (lAt t i k n).1.d ∧ Ok 64 (lAt t i k n).2 := by
  have h1 := rst_ok g i k n
  have e : (lAt t i k n).1 = ((three t i k).take n).foldl rSt fOne := l_one _ _
  rw [e]
  refine ⟨h1.1, h1.2, ?_⟩
  exact (l_grow _ _ 1 (fun p hp => three_ch g i k p (List.mem_of_mem_take hp)) ok_one ok_nil).mono (grow_le _ (by rw [List.length_take]; exact Nat.min_le_right _ _))
theorem take_three (t : Sj12.Three) (i k : Nat) : (three t i k).take 3 = three t i k := rfl
/-- what is left for an end is above 0, where it may not go round for ever for sure -/
theorem rest_pos {t : Sj12.Three} {i k : Nat} (g : Good t) (h : Two i k) (c : ¬ Never t i k) : 0 < (restF (roundF t i k)).n := by
  have R := rd3 g h
  have hb := back_le (p := t.wins i (Sj12.other i k)) (q := t.wins (Sj12.other i k) k) (r := t.wins k i)
  rw [← R.back] at hb
  rw [R.round, rest6 hb]
  exact frac_n0 (by decide) (Nat.pos_of_ne_zero c)
theorem behind_eq (t : Sj12.Three) (i k x : Nat) : behindF t i k x = overF (bAt t i k x 3).2 (restF (bAt t i k x 3).1) := rfl
theorem long_eq (t : Sj12.Three) (i k : Nat) : longF t i k = overF (lAt t i k 3).2 (restF (lAt t i k 3).1) := rfl
theorem b_rest {t : Sj12.Three} {i k : Nat} (g : Good t) (h : Two i k) (x : Nat) (c : ¬ Never t i k) : 0 < (restF (bAt t i k x 3).1).n := by
  have e : (bAt t i k x 3).1 = roundF t i k := b_one x _ _
  rw [e]
  exact rest_pos g h c
theorem l_rest {t : Sj12.Three} {i k : Nat} (g : Good t) (h : Two i k) (c : ¬ Never t i k) : 0 < (restF (lAt t i k 3).1).n := by
  have e : (lAt t i k 3).1 = roundF t i k := l_one _ _
  rw [e]
  exact rest_pos g h c
theorem ok_behind {t : Sj12.Three} {i k x : Nat} (g : Good t) (h : Two i k) (c : ¬ Never t i k) : Ok 128 (behindF t i k x) := ok_over (b_ok g i k x 3).2.2 (ok_rest (b_ok g i k x 3).1) (b_rest g h x c)
theorem ok_longF {t : Sj12.Three} {i k : Nat} (g : Good t) (h : Two i k) (c : ¬ Never t i k) : Ok 128 (longF t i k) := ok_over (l_ok g i k 3).2.2 (ok_rest (l_ok g i k 3).1) (l_rest g h c)
/-! ### ways -/
theorem way_mem {t : Sj12.Three} {i k : Nat} (h : Two i k) {p : Nat × Nat × fr} (hp : p ∈ firstL t i k) : Two p.1 p.2.1 ∧ p.2.2 = beatsF t p.1 p.2.1 := by
  unfold firstL at hp
  rcases List.mem_cons.mp hp with rfl | hp
  · exact ⟨h, rfl⟩
  · rcases List.mem_cons.mp hp with rfl | hp
    · exact ⟨h.swap, rfl⟩
    · cases hp
theorem first_mem {t : Sj12.Three} {i k : Nat} (h : Two i k) {p : Nat × Nat × fr} (hp : p ∈ firstF t i k) : Two p.1 p.2.1 ∧ p.2.2 = beatsF t p.1 p.2.1 := way_mem h (List.mem_filter.mp hp).1
theorem first_goes {t : Sj12.Three} {i k : Nat} (g : Good t) (h : Two i k) (c : mayF t i k = false) {p : Nat × Nat × fr} (hp : p ∈ firstF t i k) : ¬ Never t p.1 p.2.1 := fun z => by
  have e := (goes_iff (u := p.2.2) g (first_mem h hp).1).mpr z
  have hm : goes t p ∈ (firstF t i k).map (goes t) := List.mem_map_of_mem hp
  have e2 : ((firstF t i k).map (goes t)).any id = true := List.any_eq_true.mpr ⟨_, hm, e⟩
  have c' : ((firstF t i k).map (goes t)).any id = false := c
  rw [e2] at c'
  cases c'
theorem first_len (t : Sj12.Three) (i k : Nat) : (firstF t i k).length ≤ 2 := List.length_filter_le _ _
def oSt (t : Sj12.Three) (x : Nat) (f : fr) (p : Nat × Nat × fr) : fr := plusF f (timesF p.2.2 (behindF t p.1 p.2.1 x))
def hSt (t : Sj12.Three) (f : fr) (p : Nat × Nat × fr) : fr := plusF f (timesF p.2.2 (longF t p.1 p.2.1))
theorem odds_eq (t : Sj12.Three) (i k x : Nat) : oddsF t i k x = (firstF t i k).foldl (oSt t x) fNil := rfl
theorem last_eq (t : Sj12.Three) (i k : Nat) : lastF t i k = (firstF t i k).foldl (hSt t) fOne := rfl
theorem o_grow {t : Sj12.Three} (g : Good t) (x : Nat) : ∀ (ps : List (Nat × Nat × fr)) (f : fr) (k : Nat), (∀ p ∈ ps, Two p.1 p.2.1 ∧ p.2.2 = beatsF t p.1 p.2.1 ∧ ¬ Never t p.1 p.2.1) → Ok k f → Ok (k + 136 * ps.length) (ps.foldl (oSt t x) f)
  | [], f, k, _, h => h
  | p :: ps, f, k, c, h => by
    obtain ⟨c1, c2, c3⟩ := c p List.mem_cons_self
    have e := o_grow g x ps (oSt t x f p) (k + 136) (fun q hq => c q (List.mem_cons_of_mem _ hq)) ((ok_plus h (ok_times (c2 ▸ ok_beats g p.1 p.2.1) (ok_behind g c1 c3))).mono (by omega))
    exact e.mono (by rw [List.length_cons]; omega)
theorem h_grow {t : Sj12.Three} (g : Good t) : ∀ (ps : List (Nat × Nat × fr)) (f : fr) (k : Nat), (∀ p ∈ ps, Two p.1 p.2.1 ∧ p.2.2 = beatsF t p.1 p.2.1 ∧ ¬ Never t p.1 p.2.1) → Ok k f → Ok (k + 136 * ps.length) (ps.foldl (hSt t) f)
  | [], f, k, _, h => h
  | p :: ps, f, k, c, h => by
    obtain ⟨c1, c2, c3⟩ := c p List.mem_cons_self
    have e := h_grow g ps (hSt t f p) (k + 136) (fun q hq => c q (List.mem_cons_of_mem _ hq)) ((ok_plus h (ok_times (c2 ▸ ok_beats g p.1 p.2.1) (ok_longF g c1 c3))).mono (by omega))
    exact e.mono (by rw [List.length_cons]; omega)
theorem o_ok {t : Sj12.Three} {i k : Nat} (g : Good t) (h : Two i k) (c : mayF t i k = false) (x n : Nat) : Ok 300 (((firstF t i k).take n).foldl (oSt t x) fNil) := by
  refine (o_grow g x ((firstF t i k).take n) fNil 1 (fun p hp => ?_) ok_nil).mono ?_
  · have hm := List.mem_of_mem_take hp
    exact ⟨(first_mem h hm).1, (first_mem h hm).2, first_goes g h c hm⟩
  · have l := first_len t i k
    have l2 : ((firstF t i k).take n).length ≤ 2 := by
      rw [List.length_take]
      exact Nat.le_trans (Nat.min_le_right _ _) l
    omega
theorem h_ok {t : Sj12.Three} {i k : Nat} (g : Good t) (h : Two i k) (c : mayF t i k = false) (n : Nat) : Ok 300 (((firstF t i k).take n).foldl (hSt t) fOne) := by
  refine (h_grow g ((firstF t i k).take n) fOne 1 (fun p hp => ?_) ok_one).mono ?_
  · have hm := List.mem_of_mem_take hp
    exact ⟨(first_mem h hm).1, (first_mem h hm).2, first_goes g h c hm⟩
  · have l := first_len t i k
    have l2 : ((firstF t i k).take n).length ≤ 2 := by
      rw [List.length_take]
      exact Nat.le_trans (Nat.min_le_right _ _) l
    omega
theorem ok_odds {t : Sj12.Three} {i k x : Nat} (g : Good t) (h : Two i k) (c : mayF t i k = false) : Ok 300 (oddsF t i k x) := by
  have e := o_ok g h c x (firstF t i k).length
  rw [List.take_length] at e
  exact e
/-! ### lists of objects that stand for lists of things -/
def Al {α : Type} (R : L2.V → α → Prop) (xs : List L2.V) (ps : List α) : Prop := xs.length = ps.length ∧ ∀ (n : Nat) (x : L2.V) (p : α), xs[n]? = some x → ps[n]? = some p → R x p
theorem Al.nil {α : Type} {R : L2.V → α → Prop} : Al R [] [] := ⟨rfl, fun n x p h _ => by simp at h⟩
theorem Al.snoc {α : Type} {R : L2.V → α → Prop} {xs : List L2.V} {ps : List α} {x : L2.V} {p : α} (h : Al R xs ps) (r : R x p) : Al R (xs ++ [x]) (ps ++ [p]) := by
  refine ⟨by rw [List.length_append, List.length_append, h.1]; rfl, fun n y q hy hq => ?_⟩
  by_cases c : n < xs.length
  · rw [List.getElem?_append_left c] at hy
    rw [List.getElem?_append_left (h.1 ▸ c)] at hq
    exact h.2 n y q hy hq
  · rw [List.getElem?_append_right (by omega)] at hy
    rw [List.getElem?_append_right (by have := h.1; omega), ← h.1] at hq
    have e : n - xs.length = 0 := by
      cases e : n - xs.length with
      | zero => rfl
      | succ m =>
        rw [e] at hy
        simp at hy
    rw [e] at hy hq
    rw [← Option.some.inj hy, ← Option.some.inj hq]
    exact r
theorem Al.imp {α : Type} {R R' : L2.V → α → Prop} {xs : List L2.V} {ps : List α} (h : Al R xs ps) (k : ∀ x p, R x p → R' x p) : Al R' xs ps := ⟨h.1, fun n x p a b => k x p (h.2 n x p a b)⟩
theorem Al.get {α : Type} {R : L2.V → α → Prop} {xs : List L2.V} {ps : List α} (h : Al R xs ps) {n : Nat} {x : L2.V} (hx : xs[n]? = some x) : ∃ p, ps[n]? = some p ∧ R x p := by
  have l : n < ps.length := by
    rw [← h.1]
    exact (List.getElem?_eq_some_iff.mp hx).1
  exact ⟨ps[n], List.getElem?_eq_getElem l, h.2 n x _ hx (List.getElem?_eq_getElem l)⟩
theorem take_next {α : Type} {l : List α} {n : Nat} {p : α} (h : l[n]? = some p) : l.take (n + 1) = l.take n ++ [p] := by
  rw [List.take_add_one, h]
  rfl
theorem fold_next {α β : Type} {l : List α} {n : Nat} {p : α} (h : l[n]? = some p) (s : β → α → β) (b : β) : (l.take (n + 1)).foldl s b = s ((l.take n).foldl s b) p := by
  rw [take_next h, List.foldl_append]
  rfl
theorem filter_next {α : Type} {l : List α} {n : Nat} {p : α} (h : l[n]? = some p) (c : α → Bool) : (l.take (n + 1)).filter c = if c p = true then (l.take n).filter c ++ [p] else (l.take n).filter c := by
  rw [take_next h, List.filter_append]
  by_cases e : c p = true
  · rw [if_pos e, List.filter_cons_of_pos e]
    rfl
  · rw [if_neg e, List.filter_cons_of_neg e, List.filter_nil, List.append_nil]
theorem mem_of_at {α : Type} {l : List α} {n : Nat} {p : α} (h : l[n]? = some p) : p ∈ l := List.mem_of_getElem? h
end Tb
namespace Tb
open PySem PySem.Spec PyProof.Rows L2
/-! ### pairs and ways in the heap -/
def IsPair (K : PySem.W.Frag) (H : Hp) (v : V) (p : Nat × fr) : Prop := ∃ q a : Addr, v = .ref q ∧ SqT K H q [nV p.1, .ref a] ∧ IsF K H a p.2
def IsWay (K : PySem.W.Frag) (H : Hp) (v : V) (p : Nat × Nat × fr) : Prop := ∃ q a : Addr, v = .ref q ∧ SqT K H q [nV p.1, nV p.2.1, .ref a] ∧ IsF K H a p.2.2
theorem tup_keep {K : PySem.W.Frag} {H H' : Hp} {D q : Addr} {xs acc : List V} (h : SqT K H q xs) (hD : H D = some (.lst acc)) (k : Keep D H H') : SqT K H' q xs := by
  rcases h with (h | ⟨o, h⟩) | h
  · exact .inl (.inl (k _ _ h (ne_of h hD (by intro z; cases z))))
  · exact .inl (.inr ⟨o, k _ _ h (ne_of h hD (by intro z; cases z))⟩)
  · exact .inr h
theorem IsPair.keep {K : PySem.W.Frag} {H H' : Hp} {D : Addr} {v : V} {p : Nat × fr} {acc : List V} (h : IsPair K H v p) (hD : H D = some (.lst acc)) (k : Keep D H H') : IsPair K H' v p := by
  obtain ⟨q, a, e, h1, h2⟩ := h
  exact ⟨q, a, e, tup_keep h1 hD k, tup_keep h2 hD k⟩
theorem IsWay.keep {K : PySem.W.Frag} {H H' : Hp} {D : Addr} {v : V} {p : Nat × Nat × fr} {acc : List V} (h : IsWay K H v p) (hD : H D = some (.lst acc)) (k : Keep D H H') : IsWay K H' v p := by
  obtain ⟨q, a, e, h1, h2⟩ := h
  exact ⟨q, a, e, tup_keep h1 hD k, tup_keep h2 hD k⟩
theorem IsPair.same {K : PySem.W.Frag} {H H' : Hp} {v : V} {p : Nat × fr} (h : IsPair K H v p) (e : Same H H') : IsPair K H' v p := by
  obtain ⟨q, a, e1, h1, h2⟩ := h
  exact ⟨q, a, e1, e.tup h1, e.tup h2⟩
theorem IsWay.same {K : PySem.W.Frag} {H H' : Hp} {v : V} {p : Nat × Nat × fr} (h : IsWay K H v p) (e : Same H H') : IsWay K H' v p := by
  obtain ⟨q, a, e1, h1, h2⟩ := h
  exact ⟨q, a, e1, e.tup h1, e.tup h2⟩
theorem Keep.of_same {D : Addr} {H H' : Hp} (e : Same H H') : Keep D H H' := fun b o h _ => e b o h
theorem Keep.upd {D : Addr} {H H' : Hp} {o : HO} (k : Keep D H H') : Keep D H (L2.upd H' D o) := fun b u h n => by
  rw [upd_ne n]
  exact k b u h n
/-- a list that was made behind H0 grows: what stood at H0 stands -/
theorem _root_.L2.Same.lst {H0 H : Hp} {D : Addr} {o : HO} (e : Same H0 H) (hn : H0 D = none) : Same H0 (L2.upd H D o) := fun b u h => by
  rw [upd_ne (ne_of_none h hn)]
  exact e b u h
section
variable {P : Program} {w : World} {K : PySem.W.Frag} {mg : Str → Option Value} {base : Heap} {f : Addr} {fd : FuncData} {CS CW CT CR : Addr}
/-! ### three_bouts -/
abbrev sThree : Stmt := top 16
abbrev nThree : List Str := ["strengths", "winner", "loser", "third", "pairs", "one", "other"]
theorem scThree : FnScope nThree ["strengths", "winner", "loser"] (defScope sThree) := ⟨rfl, rfl, rfl, by decide +kernel, rfl, by decide +kernel, by decide +kernel⟩
def spThree (K : PySem.W.Frag) (CS : Addr) : Sp := fun vs H Q _ => ∃ (s : Addr) (t : Sj12.Three) (i k : Nat), vs = [.ref s, nV i, nV k] ∧ StrAt CS H s t ∧ Good t ∧ Two i k ∧
  ∀ H' p xs, Same H H' → H' p = some (.lst xs) → Al (IsPair K H') xs (three t i k) → Q (.ref p) H'
theorem ok_threes (D : Def K mg "three_bouts" sThree ["strengths", "winner", "loser"] f fd) (T : Txt K mg CS CW CT CR) (h1 : Has P w K mg base CX0 1 "third_of" ["one", "other"] spThird) (h2 : HasM P w K mg base CX0 4 CS "beats" ["self", "one", "other"] (spBeats K CS)) :
    FnOk P w K mg base CX0 5 f fd ["strengths", "winner", "loser"] (spThree K CS) := by
  refine D.F.ok scThree (fun vs H Q E h => ?_) (fun cdv A outer s H vs Q E hr h => ?_)
  · obtain ⟨s, t, i, k, rfl, _⟩ := h
    rfl
  · refine ⟨_, pss_cons (ps_set (i := 3) scThree.nd rfl (Or.inl rfl) (pe_has h1 (hr.mono (by decide)) pass0 (pa_cons (pv 1) (pa_cons (pv 2) pa_nil))))
      (pss_cons (ps_set (i := 4) scThree.nd rfl (Or.inl rfl) (pe_lst (pa_cons (pe_tup (pa_cons (pv 1) (pa_cons (pv 3) pa_nil))) (pa_cons (pe_tup (pa_cons (pv 3) (pa_cons (pv 2) pa_nil))) (pa_cons (pe_tup (pa_cons (pv 2) (pa_cons (pv 1) pa_nil))) pa_nil)))))
      (pss_one (ps_ret (pe_lc (own := [("one", 5), ("other", 6)]) (g := gTup K 2 (gCons (gName 5) (gCons (gName 6) gNil))) (tt := tYes) rfl scThree.nd (pi_list (pv 4)) (blkOk_by (N := nThree) (sc := defScope sThree) (by decide +kernel))
        (fun _ _ _ _ _ => pg_tup rfl (pgs_cons (pg_name (i := 5) scThree.nd rfl (Or.inl rfl)) (pgs_cons (pg_name (i := 6) scThree.nd rfl (Or.inl rfl)) pgs_nil)))
        (fun _ _ _ _ _ => pts_nil)
        (fun _ _ _ _ _ => pe_tup (pa_cons (pv 5) (pa_cons (pe_hasM h2 T.clS hr pass0 (pv 0) (pa_cons (pv 5) (pa_cons (pv 6) pa_nil))) pa_nil))))))), ?_⟩
    obtain ⟨s, t, i, k, rfl, hs, g, tw, kk⟩ := h
    refine ⟨_, rfl, _, rfl, i, k, rfl, tw, ?_⟩
    refine ⟨_, rfl, _, rfl, two_le, fun q1 n1 => ⟨_, rfl, _, rfl, two_le, fun q2 n2 => ⟨_, rfl, _, rfl, two_le, fun q3 n3 => ⟨(by show 3 ≤ sizeLine; decide), fun l nl => ?_⟩⟩⟩⟩
    refine ⟨_, rfl, l, rfl, ⟨_, SqL.of upd_same⟩, fun D nD => ?_⟩
    -- the heap where the comprehension begins
    generalize hHs : upd (upd (upd (upd H q1 (.tup [nV i, nV (Sj12.other i k)])) q2 (.tup [nV (Sj12.other i k), nV k])) q3 (.tup [nV k, nV i])) l (.lst [.ref q1, .ref q2, .ref q3]) = Hs
    have s1 : Same H Hs := by
      rw [← hHs]
      exact (((Same.upd n1).new n2).new n3).new nl
    have e3 : Hs q3 = some (.tup [nV k, nV i]) := by
      rw [← hHs, upd_ne (ne_of_none upd_same nl)]
      exact upd_same
    have e2 : Hs q2 = some (.tup [nV (Sj12.other i k), nV k]) := by
      rw [← hHs, upd_ne (ne_of_none (o := .tup [nV (Sj12.other i k), nV k]) ?_ nl), upd_ne (ne_of_none upd_same n3)]
      · exact upd_same
      · rw [upd_ne (ne_of_none upd_same n3)]
        exact upd_same
    have e1 : Hs q1 = some (.tup [nV i, nV (Sj12.other i k)]) := by
      have a2 : upd (upd H q1 (.tup [nV i, nV (Sj12.other i k)])) q2 (.tup [nV (Sj12.other i k), nV k]) q1 = some (.tup [nV i, nV (Sj12.other i k)]) := by
        rw [upd_ne (ne_of_none upd_same n2)]
        exact upd_same
      have a3 : upd (upd (upd H q1 (.tup [nV i, nV (Sj12.other i k)])) q2 (.tup [nV (Sj12.other i k), nV k])) q3 (.tup [nV k, nV i]) q1 = some (.tup [nV i, nV (Sj12.other i k)]) := by
        rw [upd_ne (ne_of_none a2 n3)]
        exact a2
      rw [← hHs, upd_ne (ne_of_none a3 nl)]
      exact a3
    have el : Hs l = some (.lst [.ref q1, .ref q2, .ref q3]) := by
      rw [← hHs]
      exact upd_same
    have nD' : Hs D = none := by
      rw [← hHs]
      exact nD
    have src : ∀ (n : Nat) (x : V), ([.ref q1, .ref q2, .ref q3] : List V)[n]? = some x → ∃ (a b : Nat) (q : Addr), x = .ref q ∧ (three t i k)[n]? = some (a, beatsF t a b) ∧ Two a b ∧ Hs q = some (.tup [nV a, nV b]) := by
      intro n x hx
      match n, hx with
      | 0, hx => exact ⟨i, Sj12.other i k, q1, (Option.some.inj hx).symm, rfl, two_ij tw, e1⟩
      | 1, hx => exact ⟨Sj12.other i k, k, q2, (Option.some.inj hx).symm, rfl, two_jk tw, e2⟩
      | 2, hx => exact ⟨k, i, q3, (Option.some.inj hx).symm, rfl, tw.swap, e3⟩
      | n + 3, hx => simp at hx
    refine lc_list (K := K) (a := l) (xs := [.ref q1, .ref q2, .ref q3]) (fun n H' => ∃ acc, H' D = some (.lst acc) ∧ Al (IsPair K H') acc ((three t i k).take n) ∧ Same Hs H') ?_ ?_ ?_ ?_
    · exact ⟨[], upd_same, Al.nil, Same.upd nD'⟩
    · rintro n H' _ ⟨acc, _, _, sm⟩
      exact sm.seq (SqL.of el)
    · rintro n x H' hx ⟨acc, hD, al, sm⟩
      obtain ⟨a, b, q, rfl, ep, tab, hq⟩ := src n x hx
      refine ⟨q, _, rfl, SqT.of (sm _ _ hq), rfl, _, _, rfl, _, _, rfl, rfl, rfl, ?_⟩
      obtain ⟨dx, ww, hs1, hs2⟩ := hs
      refine ⟨_, rfl, _, rfl, s, dx, _, rfl, sm _ _ (s1 _ _ hs1), won_no ww, _, rfl, _, rfl, s, t, a, b, rfl, ⟨dx, ww, sm _ _ (s1 _ _ hs1), sm _ _ (s1 _ _ hs2)⟩, g, tab, fun H2 r sm2 isr => ?_⟩
      refine ⟨two_le, fun z nz => ⟨acc, ?_, ?_, ?_⟩⟩
      · exact (sm2.new nz) _ _ hD
      · have len : acc.length ≤ 3 := by
          rw [al.1, List.length_take]
          exact Nat.min_le_right _ _
        exact Nat.lt_of_le_of_lt len (by decide)
      · refine ⟨acc ++ [.ref z], upd_same, ?_, (sm.trans (sm2.new nz)).lst nD'⟩
        have kp : Keep D H' (upd (upd H2 z (.tup [nV a, .ref r])) D (.lst (acc ++ [.ref z]))) := (Keep.of_same (sm2.new nz)).upd
        have hD3 : upd H2 z (.tup [nV a, .ref r]) D = some (.lst acc) := (sm2.new nz) _ _ hD
        rw [take_next ep]
        refine (al.imp fun v p hp => hp.keep hD kp).snoc ⟨z, r, rfl, ?_, ?_⟩
        · exact tup_keep (SqT.of upd_same) hD3 (Keep.of_same (Same.refl _)).upd
        · exact tup_keep ((Same.upd nz).tup isr) hD3 (Keep.of_same (Same.refl _)).upd
    · rintro H' ⟨acc, hD, al, sm⟩
      exact kk H' D acc (s1.trans sm) hD al
end
end Tb
namespace Tb
open PySem PySem.Spec PyProof.Rows L2
section
variable {P : Program} {w : World} {K : PySem.W.Frag} {mg : Str → Option Value} {base : Heap} {f : Addr} {fd : FuncData} {CS CW CT CR : Addr}
/-! ### chance_of_round -/
abbrev sRound : Stmt := top 17
abbrev nRound : List Str := ["strengths", "winner", "loser", "found", "one", "chance"]
theorem scRound : FnScope nRound ["strengths", "winner", "loser"] (defScope sRound) := ⟨rfl, rfl, rfl, by decide +kernel, rfl, by decide +kernel, by decide +kernel⟩
def spRound (K : PySem.W.Frag) (CS : Addr) : Sp := fun vs H Q _ => ∃ (s : Addr) (t : Sj12.Three) (i k : Nat), vs = [.ref s, nV i, nV k] ∧ StrAt CS H s t ∧ Good t ∧ Two i k ∧ Gives K (roundF t i k) H Q
theorem ok_rounds (D : Def K mg "chance_of_round" sRound ["strengths", "winner", "loser"] f fd) (T : Txt K mg CS CW CT CR) (h3 : Has P w K mg base CX0 5 "three_bouts" ["strengths", "winner", "loser"] (spThree K CS))
    (ht : Has P w K mg base CX0 4 "times" ["one", "other"] (spBin K timesF anyF)) (hre : Has P w K mg base CX0 4 "rest_of" ["one"] (spRest K)) :
    FnOk P w K mg base CX0 6 f fd ["strengths", "winner", "loser"] (spRound K CS) := by
  refine D.F.ok scRound (fun vs H Q E h => ?_) (fun cdv A outer s H vs Q E hr h => ?_)
  · obtain ⟨s, t, i, k, rfl, _⟩ := h
    rfl
  · obtain ⟨aO, gO, kO⟩ := T.cOne
    have hr4 : Room 4 _ := hr.mono (by decide)
    refine ⟨_, pss_cons (ps_set (i := 3) scRound.nd rfl (Or.inl rfl) (pgr gO))
      (pss_cons (ps_for PassesOwn.never rfl (pi_list (pe_has h3 hr pass0 (pa_cons (pv 0) (pa_cons (pv 1) (pa_cons (pv 2) pa_nil))))) (pg_tup rfl (pgs_cons (pg_name (i := 4) scRound.nd rfl (Or.inl rfl)) (pgs_cons (pg_name (i := 5) scRound.nd rfl (Or.inl rfl)) pgs_nil)))
        (pss_one (ps_set (i := 3) scRound.nd rfl (Or.inl rfl) (pe_has ht hr4 pass0 (pa_cons (pv 3) (pa_cons (pe_has hre hr4 pass0 (pa_cons (pv 5) pa_nil)) pa_nil))))))
      (pss_one (ps_ret (pv 3)))), ?_⟩
    obtain ⟨s, t, i, k, rfl, hs, g, tw, kk⟩ := h
    refine ⟨_, rfl, _, rfl, _, rfl, s, t, i, k, rfl, hs, g, tw, fun H1 l xs s1 hl al => ?_⟩
    refine ⟨l, rfl, ⟨_, SqL.of hl⟩, for_list (K := K) (a := l) (xs := xs) (fun n σ H' => ∃ (v4 v5 : Option V) (af : Addr), σ = [some (.ref s), some (nV i), some (nV k), some (.ref af), v4, v5] ∧ Same H1 H' ∧ IsF K H' af (((three t i k).take n).foldl rSt fOne)) ?_ ?_ ?_ ?_⟩
    · exact ⟨none, none, aO, rfl, Same.refl _, kO.at _⟩
    · rintro n σ H' _ ⟨v4, v5, af, rfl, sm, isf⟩
      exact sm.seq (SqL.of hl)
    · rintro n x σ H' hx ⟨v4, v5, af, rfl, sm, isf⟩
      obtain ⟨p, hp, q, a, rfl, hq, ha⟩ := al.get hx
      have ch := three_ch g i k p (mem_of_at hp)
      refine ⟨q, _, rfl, sm.tup hq, rfl, _, _, rfl, _, _, rfl, rfl, ?_⟩
      refine ⟨_, rfl, _, rfl, a, p.2, rfl, sm.tup ha, ch.1.mono (by decide), ch.2, fun H2 r s2 isr => ?_⟩
      refine ⟨af, r, _, _, rfl, s2.tup isf, isr, (rst_ok g i k n).1.mono (by decide), (ok_rest ch.1).mono (by decide), True.intro, fun H3 r3 s3 is3 => ?_⟩
      refine ⟨_, _, r3, rfl, sm.trans (s2.trans s3), ?_⟩
      rw [fold_next hp]
      exact is3
    · rintro σ H' ⟨v4, v5, af, rfl, sm, isf⟩
      rw [al.1] at isf
      exact ⟨_, rfl, kk H' af (s1.trans sm) isf⟩
/-! ### likely_behind -/
abbrev sBehind : Stmt := top 18
abbrev nBehind : List Str := ["strengths", "winner", "loser", "wrestler", "reached", "found", "one", "chance"]
theorem scBehind : FnScope nBehind ["strengths", "winner", "loser", "wrestler"] (defScope sBehind) := ⟨rfl, rfl, rfl, by decide +kernel, rfl, by decide +kernel, by decide +kernel⟩
def spBehind (K : PySem.W.Frag) (CS : Addr) : Sp := fun vs H Q _ => ∃ (s : Addr) (t : Sj12.Three) (i k x : Nat), vs = [.ref s, nV i, nV k, nV x] ∧ StrAt CS H s t ∧ Good t ∧ Two i k ∧ ¬ Never t i k ∧ Gives K (behindF t i k x) H Q
theorem nV_inj {a b : Nat} : nV a = nV b ↔ a = b := ⟨fun e => by
  have e' : ((a : Nat) : Int) = ((b : Nat) : Int) := V.int.inj e
  omega, fun e => by rw [e]⟩
theorem ok_behinds (D : Def K mg "likely_behind" sBehind ["strengths", "winner", "loser", "wrestler"] f fd) (T : Txt K mg CS CW CT CR) (h3 : Has P w K mg base CX0 5 "three_bouts" ["strengths", "winner", "loser"] (spThree K CS))
    (ht : Has P w K mg base CX0 4 "times" ["one", "other"] (spBin K timesF anyF)) (hre : Has P w K mg base CX0 4 "rest_of" ["one"] (spRest K)) (ho : Has P w K mg base CX0 4 "over" ["one", "other"] (spBin K overF overP)) :
    FnOk P w K mg base CX0 6 f fd ["strengths", "winner", "loser", "wrestler"] (spBehind K CS) := by
  refine D.F.ok scBehind (fun vs H Q E h => ?_) (fun cdv A outer s H vs Q E hr h => ?_)
  · obtain ⟨s, t, i, k, x, rfl, _⟩ := h
    rfl
  · obtain ⟨aO, gO, kO⟩ := T.cOne
    obtain ⟨aN, gN, kN⟩ := T.cNil
    have hr4 : Room 4 _ := hr.mono (by decide)
    refine ⟨_, pss_cons (ps_set (i := 4) scBehind.nd rfl (Or.inl rfl) (pgr gO)) (pss_cons (ps_set (i := 5) scBehind.nd rfl (Or.inl rfl) (pgr gN))
      (pss_cons (ps_for PassesOwn.never rfl (pi_list (pe_has h3 hr pass0 (pa_cons (pv 0) (pa_cons (pv 1) (pa_cons (pv 2) pa_nil))))) (pg_tup rfl (pgs_cons (pg_name (i := 6) scBehind.nd rfl (Or.inl rfl)) (pgs_cons (pg_name (i := 7) scBehind.nd rfl (Or.inl rfl)) pgs_nil)))
        (pss_cons (ps_if (pt_cmpR op_eq (pv 6) (pv 3) (nomark _)) (pss_one (ps_set (i := 5) scBehind.nd rfl (Or.inl rfl) (pe_has ht hr4 pass0 (pa_cons (pv 4) (pa_cons (pv 7) pa_nil))))) pss_nil)
        (pss_one (ps_set (i := 4) scBehind.nd rfl (Or.inl rfl) (pe_has ht hr4 pass0 (pa_cons (pv 4) (pa_cons (pe_has hre hr4 pass0 (pa_cons (pv 7) pa_nil)) pa_nil)))))))
      (pss_one (ps_ret (pe_has ho hr4 pass0 (pa_cons (pv 5) (pa_cons (pe_has hre hr4 pass0 (pa_cons (pv 4) pa_nil)) pa_nil))))))), ?_⟩
    obtain ⟨s, t, i, k, x, rfl, hs, g, tw, nv, kk⟩ := h
    refine ⟨_, rfl, _, rfl, _, rfl, s, t, i, k, rfl, hs, g, tw, fun H1 l xs s1 hl al => ?_⟩
    refine ⟨l, rfl, ⟨_, SqL.of hl⟩, for_list (K := K) (a := l) (xs := xs) (fun n σ H' => ∃ (v6 v7 : Option V) (ar af : Addr), σ = [some (.ref s), some (nV i), some (nV k), some (nV x), some (.ref ar), some (.ref af), v6, v7] ∧ Same H1 H' ∧ IsF K H' ar (bAt t i k x n).1 ∧ IsF K H' af (bAt t i k x n).2) ?_ ?_ ?_ ?_⟩
    · exact ⟨none, none, aO, aN, rfl, Same.refl _, kO.at _, kN.at _⟩
    · rintro n σ H' _ ⟨v6, v7, ar, af, rfl, sm, isr, isf⟩
      exact sm.seq (SqL.of hl)
    · rintro n y σ H' hy ⟨v6, v7, ar, af, rfl, sm, isr, isf⟩
      obtain ⟨p, hp, q, a, rfl, hq, ha⟩ := al.get hy
      have ch := three_ch g i k p (mem_of_at hp)
      have ob := b_ok g i k x n
      have nxt : bAt t i k x (n + 1) = bStep x (bAt t i k x n) p := fold_next hp _ _
      refine ⟨q, _, rfl, sm.tup hq, rfl, _, _, rfl, _, _, rfl, rfl, ?_⟩
      have tail : ∀ (H2 : Hp) (af2 : Addr), Same H' H2 → IsF K H2 af2 (bAt t i k x (n + 1)).2 → ∀ D' : Ends, (∀ H3 ar3, Same H1 H3 → IsF K H3 ar3 (bAt t i k x (n + 1)).1 → IsF K H3 af2 (bAt t i k x (n + 1)).2 → D'.nx [some (.ref s), some (nV i), some (nV k), some (nV x), some (.ref ar3), some (.ref af2), some (nV p.1), some (.ref a)] H3) →
          tAsg (tCall (spBin K timesF anyF) [] E0 (tCons (tVar 4) (tCons (tCall (spRest K) [] E0 (tCons (tVar 7) tNil)) tNil))) (gName 4) D' [some (.ref s), some (nV i), some (nV k), some (nV x), some (.ref ar), some (.ref af2), some (nV p.1), some (.ref a)] H2 := by
        intro H2 af2 sm2 is2 D' fin
        refine ⟨_, rfl, _, rfl, a, p.2, rfl, sm2.tup (sm.tup ha), ch.1.mono (by decide), ch.2, fun H3 r s3 isr3 => ?_⟩
        refine ⟨ar, r, _, _, rfl, s3.tup (sm2.tup isr), isr3, ob.1.mono (by decide), (ok_rest ch.1).mono (by decide), True.intro, fun H4 r4 s4 is4 => ?_⟩
        refine fin H4 r4 (sm.trans (sm2.trans (s3.trans s4))) ?_ (s4.tup (s3.tup is2))
        rw [nxt]
        exact is4
      refine ⟨_, rfl, _, rfl, rfl, _, rfl, ?_⟩
      by_cases c : p.1 = x
      · refine ifT (decide_eq_true (nV_inj.mpr c)) ?_
        refine ⟨_, rfl, _, rfl, ar, a, _, _, rfl, isr, sm.tup ha, ob.1.mono (by decide), ch.1.mono (by decide), True.intro, fun H2 r s2 is2 => ?_⟩
        refine tail H2 r s2 ?_ _ fun H3 ar3 s3 i1 i2 => ⟨_, _, ar3, r, rfl, s3, i1, i2⟩
        rw [nxt]
        show IsF K H2 r (if p.1 = x then timesF (bAt t i k x n).1 p.2 else (bAt t i k x n).2)
        rw [if_pos c]
        exact is2
      · refine ifF (decide_eq_false fun z => c (nV_inj.mp z)) ?_
        refine tail H' af (Same.refl _) ?_ _ fun H3 ar3 s3 i1 i2 => ⟨_, _, ar3, af, rfl, s3, i1, i2⟩
        rw [nxt]
        show IsF K H' af (if p.1 = x then timesF (bAt t i k x n).1 p.2 else (bAt t i k x n).2)
        rw [if_neg c]
        exact isf
    · rintro σ H' ⟨v6, v7, ar, af, rfl, sm, isr, isf⟩
      rw [al.1] at isr isf
      have ob := b_ok g i k x 3
      refine ⟨_, rfl, _, rfl, ar, _, rfl, isr, ob.1.mono (by decide), ob.2.1, fun H2 r s2 is2 => ?_⟩
      refine ⟨af, r, _, _, rfl, s2.tup isf, is2, ob.2.2.mono (by decide), (ok_rest ob.1).mono (by decide), b_rest g tw x nv, fun H3 r3 s3 is3 => ?_⟩
      refine kk H3 r3 (s1.trans (sm.trans (s2.trans s3))) ?_
      rw [behind_eq]
      exact is3
/-! ### long_behind -/
abbrev sLong : Stmt := top 19
abbrev nLong : List Str := ["strengths", "winner", "loser", "reached", "found", "one", "chance"]
theorem scLong : FnScope nLong ["strengths", "winner", "loser"] (defScope sLong) := ⟨rfl, rfl, rfl, by decide +kernel, rfl, by decide +kernel, by decide +kernel⟩
def spLong (K : PySem.W.Frag) (CS : Addr) : Sp := fun vs H Q _ => ∃ (s : Addr) (t : Sj12.Three) (i k : Nat), vs = [.ref s, nV i, nV k] ∧ StrAt CS H s t ∧ Good t ∧ Two i k ∧ ¬ Never t i k ∧ Gives K (longF t i k) H Q
theorem ok_longs (D : Def K mg "long_behind" sLong ["strengths", "winner", "loser"] f fd) (T : Txt K mg CS CW CT CR) (h3 : Has P w K mg base CX0 5 "three_bouts" ["strengths", "winner", "loser"] (spThree K CS))
    (ht : Has P w K mg base CX0 4 "times" ["one", "other"] (spBin K timesF anyF)) (hp : Has P w K mg base CX0 4 "plus" ["one", "other"] (spBin K plusF anyF)) (hre : Has P w K mg base CX0 4 "rest_of" ["one"] (spRest K)) (ho : Has P w K mg base CX0 4 "over" ["one", "other"] (spBin K overF overP)) :
    FnOk P w K mg base CX0 6 f fd ["strengths", "winner", "loser"] (spLong K CS) := by
  refine D.F.ok scLong (fun vs H Q E h => ?_) (fun cdv A outer s H vs Q E hr h => ?_)
  · obtain ⟨s, t, i, k, rfl, _⟩ := h
    rfl
  · obtain ⟨aO, gO, kO⟩ := T.cOne
    obtain ⟨aN, gN, kN⟩ := T.cNil
    have hr4 : Room 4 _ := hr.mono (by decide)
    refine ⟨_, pss_cons (ps_set (i := 3) scLong.nd rfl (Or.inl rfl) (pgr gO)) (pss_cons (ps_set (i := 4) scLong.nd rfl (Or.inl rfl) (pgr gN))
      (pss_cons (ps_for PassesOwn.never rfl (pi_list (pe_has h3 hr pass0 (pa_cons (pv 0) (pa_cons (pv 1) (pa_cons (pv 2) pa_nil))))) (pg_tup rfl (pgs_cons (pg_name (i := 5) scLong.nd rfl (Or.inl rfl)) (pgs_cons (pg_name (i := 6) scLong.nd rfl (Or.inl rfl)) pgs_nil)))
        (pss_cons (ps_set (i := 4) scLong.nd rfl (Or.inl rfl) (pe_has hp hr4 pass0 (pa_cons (pv 4) (pa_cons (pv 3) pa_nil))))
        (pss_one (ps_set (i := 3) scLong.nd rfl (Or.inl rfl) (pe_has ht hr4 pass0 (pa_cons (pv 3) (pa_cons (pe_has hre hr4 pass0 (pa_cons (pv 6) pa_nil)) pa_nil)))))))
      (pss_one (ps_ret (pe_has ho hr4 pass0 (pa_cons (pv 4) (pa_cons (pe_has hre hr4 pass0 (pa_cons (pv 3) pa_nil)) pa_nil))))))), ?_⟩
    obtain ⟨s, t, i, k, rfl, hs, g, tw, nv, kk⟩ := h
    refine ⟨_, rfl, _, rfl, _, rfl, s, t, i, k, rfl, hs, g, tw, fun H1 l xs s1 hl al => ?_⟩
    refine ⟨l, rfl, ⟨_, SqL.of hl⟩, for_list (K := K) (a := l) (xs := xs) (fun n σ H' => ∃ (v5 v6 : Option V) (ar af : Addr), σ = [some (.ref s), some (nV i), some (nV k), some (.ref ar), some (.ref af), v5, v6] ∧ Same H1 H' ∧ IsF K H' ar (lAt t i k n).1 ∧ IsF K H' af (lAt t i k n).2) ?_ ?_ ?_ ?_⟩
    · exact ⟨none, none, aO, aN, rfl, Same.refl _, kO.at _, kN.at _⟩
    · rintro n σ H' _ ⟨v5, v6, ar, af, rfl, sm, isr, isf⟩
      exact sm.seq (SqL.of hl)
    · rintro n y σ H' hy ⟨v5, v6, ar, af, rfl, sm, isr, isf⟩
      obtain ⟨p, hp, q, a, rfl, hq, ha⟩ := al.get hy
      have ch := three_ch g i k p (mem_of_at hp)
      have ob := l_ok g i k n
      have nxt : lAt t i k (n + 1) = lStep (lAt t i k n) p := fold_next hp _ _
      refine ⟨q, _, rfl, sm.tup hq, rfl, _, _, rfl, _, _, rfl, rfl, ?_⟩
      refine ⟨_, rfl, _, rfl, af, ar, _, _, rfl, isf, isr, ob.2.2.mono (by decide), ob.1.mono (by decide), True.intro, fun H2 r2 s2 is2 => ?_⟩
      refine ⟨_, rfl, _, rfl, a, p.2, rfl, s2.tup (sm.tup ha), ch.1.mono (by decide), ch.2, fun H3 r3 s3 is3 => ?_⟩
      refine ⟨ar, r3, _, _, rfl, s3.tup (s2.tup isr), is3, ob.1.mono (by decide), (ok_rest ch.1).mono (by decide), True.intro, fun H4 r4 s4 is4 => ?_⟩
      refine ⟨_, _, r4, r2, rfl, sm.trans (s2.trans (s3.trans s4)), ?_, ?_⟩
      · rw [nxt]
        exact is4
      · rw [nxt]
        exact s4.tup (s3.tup is2)
    · rintro σ H' ⟨v5, v6, ar, af, rfl, sm, isr, isf⟩
      rw [al.1] at isr isf
      have ob := l_ok g i k 3
      refine ⟨_, rfl, _, rfl, ar, _, rfl, isr, ob.1.mono (by decide), ob.2.1, fun H2 r s2 is2 => ?_⟩
      refine ⟨af, r, _, _, rfl, s2.tup isf, is2, ob.2.2.mono (by decide), (ok_rest ob.1).mono (by decide), l_rest g tw nv, fun H3 r3 s3 is3 => ?_⟩
      refine kk H3 r3 (s1.trans (sm.trans (s2.trans s3))) ?_
      rw [long_eq]
      exact is3
end
end Tb
namespace Tb
open PySem PySem.Spec PyProof.Rows L2
/-! ### two fractions compared -/
def dF (u : fr) : PyData := .tuple [.int (u.n : Int), .int (u.d : Int)]
theorem dF_shaped (u : fr) : SeqAt.shaped (dF u) = true := rfl
theorem dF_eqv (u v : fr) : PyData.eqv (dF u) (dF v) = decide (u = v) := by
  have e : PyData.eqv (dF u) (dF v) = (((u.n : Int) == (v.n : Int)) && (((u.d : Int) == (v.d : Int)) && true)) := by
    simp only [dF, PyData.eqv, PyData.eqvAll]
  rw [e]
  obtain ⟨a, b⟩ := u
  obtain ⟨c, d⟩ := v
  by_cases h : (⟨a, b⟩ : fr) = ⟨c, d⟩
  · rw [decide_eq_true h]
    cases h
    simp
  · rw [decide_eq_false h]
    cases h1 : ((((a : Nat) : Int) == ((c : Nat) : Int)) && ((((b : Nat) : Int) == ((d : Nat) : Int)) && true)) with
    | false => rfl
    | true =>
      simp at h1
      exact absurd (by rw [show a = c by omega, show b = d by omega]) h
theorem dF_at {K : PySem.W.Frag} {H : Hp} {a : Addr} {u : fr} (h : IsF K H a u) : Dp K H (.ref a) (dF u) := .tup h (.cons (.int _) (.cons (.int _) .nil))
/-! ### who waits best -/
def IsBest (K : PySem.W.Frag) (H : Hp) (v : V) : Option (Nat × fr) → Prop
  | none => v = .non
  | some z => ∃ q a : Addr, v = .ref q ∧ SqT K H q [nV z.1, .ref a] ∧ IsF K H a z.2
theorem IsBest.same {K : PySem.W.Frag} {H H' : Hp} {v : V} {m : Option (Nat × fr)} (h : IsBest K H v m) (e : Same H H') : IsBest K H' v m := by
  cases m with
  | none => exact h
  | some z =>
    obtain ⟨q, a, h0, h1, h2⟩ := h
    exact ⟨q, a, h0, e.tup h1, e.tup h2⟩
theorem step_ok {t : Sj12.Three} (g : Good t) (x : Nat) {m : Option (Nat × fr)} {w : Nat} (hw : w < 3) (h : ∀ z, m = some z → Ok 300 z.2) : ∀ z, bestStep t x m w = some z → Ok 300 z.2 := by
  intro z hz
  have T := (two_of hw).1
  unfold bestStep at hz
  dsimp only at hz
  by_cases c : mayF t ((twoOf w).getD 0 0) ((twoOf w).getD 1 0) = true
  · rw [if_pos c] at hz
    exact h z hz
  · rw [if_neg c] at hz
    have c' : mayF t ((twoOf w).getD 0 0) ((twoOf w).getD 1 0) = false := by simpa using c
    cases m with
    | none =>
      have e := Option.some.inj hz
      rw [← e]
      exact ok_odds g T c'
    | some y =>
      by_cases c2 : Sj12.less y.2 (oddsF t ((twoOf w).getD 0 0) ((twoOf w).getD 1 0) x) = true
      · have e : some (w, oddsF t ((twoOf w).getD 0 0) ((twoOf w).getD 1 0) x) = some z := by
          rw [← hz]
          exact (if_pos c2).symm
        rw [← Option.some.inj e]
        exact ok_odds g T c'
      · have e : some y = some z := by
          rw [← hz]
          exact (if_neg c2).symm
        exact h z e
abbrev bestAt (t : Sj12.Three) (x n : Nat) : Option (Nat × fr) := (([0, 1, 2] : List Nat).take n).foldl (bestStep t x) none
theorem best_ok {t : Sj12.Three} (g : Good t) (x : Nat) : ∀ (l : List Nat) (m : Option (Nat × fr)), (∀ w ∈ l, w < 3) → (∀ z, m = some z → Ok 300 z.2) → ∀ z, l.foldl (bestStep t x) m = some z → Ok 300 z.2
  | [], m, _, h => h
  | w :: l, m, hl, h => best_ok g x l (bestStep t x m w) (fun v hv => hl v (List.mem_cons_of_mem _ hv)) (step_ok g x (hl w List.mem_cons_self) h)
theorem bestAt_ok {t : Sj12.Three} (g : Good t) (x n : Nat) : ∀ z, bestAt t x n = some z → Ok 300 z.2 := best_ok g x _ _ (fun w hw => by
  have h := List.mem_of_mem_take hw
  have h3 : ∀ w ∈ ([0, 1, 2] : List Nat), w < 3 := by decide
  exact h3 w h) fun z hz => by cases hz
section
variable {P : Program} {w : World} {K : PySem.W.Frag} {mg : Str → Option Value} {base : Heap} {f : Addr} {fd : FuncData} {CS CW CT CR : Addr}
/-! ### first_bouts -/
abbrev sFirst : Stmt := top 20
abbrev nFirst : List Str := ["strengths", "one", "other", "ways", "way"]
theorem scFirst : FnScope nFirst ["strengths", "one", "other"] (defScope sFirst) := ⟨rfl, rfl, rfl, by decide +kernel, rfl, by decide +kernel, by decide +kernel⟩
def spFirst (K : PySem.W.Frag) (CS : Addr) : Sp := fun vs H Q _ => ∃ (s : Addr) (t : Sj12.Three) (i k : Nat), vs = [.ref s, nV i, nV k] ∧ StrAt CS H s t ∧ Good t ∧ Two i k ∧
  ∀ H' p xs, Same H H' → H' p = some (.lst xs) → Al (IsWay K H') xs (firstF t i k) → Q (.ref p) H'
theorem ok_firsts (D : Def K mg "first_bouts" sFirst ["strengths", "one", "other"] f fd) (T : Txt K mg CS CW CT CR) (h2 : HasM P w K mg base CX0 4 CS "beats" ["self", "one", "other"] (spBeats K CS)) :
    FnOk P w K mg base CX0 5 f fd ["strengths", "one", "other"] (spFirst K CS) := by
  refine D.F.ok scFirst (fun vs H Q E h => ?_) (fun cdv A outer s H vs Q E hr h => ?_)
  · obtain ⟨s, t, i, k, rfl, _⟩ := h
    rfl
  · obtain ⟨aN, gN, kN⟩ := T.cNil
    refine ⟨_, pss_cons (ps_set (i := 3) scFirst.nd rfl (Or.inl rfl) (pe_lst (pa_cons (pe_tup (pa_cons (pv 1) (pa_cons (pv 2) (pa_cons (pe_hasM h2 T.clS hr pass0 (pv 0) (pa_cons (pv 1) (pa_cons (pv 2) pa_nil))) pa_nil))))
        (pa_cons (pe_tup (pa_cons (pv 2) (pa_cons (pv 1) (pa_cons (pe_hasM h2 T.clS hr pass0 (pv 0) (pa_cons (pv 2) (pa_cons (pv 1) pa_nil))) pa_nil)))) pa_nil))))
      (pss_one (ps_ret (pe_lc (own := [("way", 4)]) (g := gName 4) rfl scFirst.nd (pi_list (pv 3)) (blkOk_by (N := nFirst) (sc := defScope sFirst) (by decide +kernel))
        (fun _ _ _ _ _ => pg_name (i := 4) scFirst.nd rfl (Or.inl rfl))
        (fun _ _ _ _ _ => pts_one (pt_cmpR (r := rNeD K) (op_neD hr.units) (pe_ix (r := rIxT K) ix_tup (pv 4) pe_int (fun _ _ => rfl)) (pgr gN) (nomark _)))
        (fun _ _ _ _ _ => pv 4)))), ?_⟩
    obtain ⟨s, t, i, k, rfl, hs, g, tw, kk⟩ := h
    obtain ⟨dx, ww, hs1, hs2⟩ := id hs
    refine ⟨_, rfl, _, rfl, _, rfl, s, dx, _, rfl, hs1, won_no ww, _, rfl, _, rfl, s, t, i, k, rfl, hs, g, tw, fun H1 r1 s1 is1 => ⟨(by show 3 ≤ sizeLine; decide), fun q1 n1 => ?_⟩⟩
    have s1' := s1.new (o := .tup [nV i, nV k, .ref r1]) n1
    refine ⟨_, rfl, _, rfl, _, rfl, s, dx, _, rfl, s1' _ _ hs1, won_no ww, _, rfl, _, rfl, s, t, k, i, rfl, hs.same s1', g, tw.swap, fun H2 r2 s2 is2 => ⟨(by show 3 ≤ sizeLine; decide), fun q2 n2 => ⟨two_le, fun l nl => ?_⟩⟩⟩
    refine ⟨_, rfl, l, rfl, ⟨_, SqL.of upd_same⟩, fun D nD => ?_⟩
    have s2' := s2.new (o := .tup [nV k, nV i, .ref r2]) n2
    generalize hHs : upd (upd H2 q2 (.tup [nV k, nV i, .ref r2])) l (.lst [.ref q1, .ref q2]) = Hs
    have sH : Same H Hs := by
      rw [← hHs]
      exact (s1'.trans s2').new nl
    have w2 : IsWay K Hs (.ref q2) (k, i, beatsF t k i) := by
      rw [← hHs]
      exact ⟨q2, r2, rfl, (Same.upd nl).tup (SqT.of upd_same), (Same.upd nl).tup ((Same.upd n2).tup is2)⟩
    have w1 : IsWay K Hs (.ref q1) (i, k, beatsF t i k) := by
      have a : IsWay K (upd H1 q1 (.tup [nV i, nV k, .ref r1])) (.ref q1) (i, k, beatsF t i k) := ⟨q1, r1, rfl, SqT.of upd_same, (Same.upd n1).tup is1⟩
      have b := (a.same s2').same (Same.upd (o := .lst [.ref q1, .ref q2]) nl)
      rw [← hHs]
      exact b
    have el : Hs l = some (.lst [.ref q1, .ref q2]) := by
      rw [← hHs]
      exact upd_same
    have nD' : Hs D = none := by
      rw [← hHs]
      exact nD
    have src : ∀ (n : Nat) (x : V), ([.ref q1, .ref q2] : List V)[n]? = some x → ∃ p, (firstL t i k)[n]? = some p ∧ IsWay K Hs x p := by
      intro n x hx
      match n, hx with
      | 0, hx => exact ⟨_, rfl, (Option.some.inj hx) ▸ w1⟩
      | 1, hx => exact ⟨_, rfl, (Option.some.inj hx) ▸ w2⟩
      | n + 2, hx => simp at hx
    refine lc_list (K := K) (a := l) (xs := [.ref q1, .ref q2]) (fun n H' => ∃ acc, H' D = some (.lst acc) ∧ Al (IsWay K H') acc (((firstL t i k).take n).filter isWay) ∧ Same Hs H') ?_ ?_ ?_ ?_
    · exact ⟨[], upd_same, Al.nil, Same.upd nD'⟩
    · rintro n H' _ ⟨acc, _, _, sm⟩
      exact sm.seq (SqL.of el)
    · rintro n x H' hx ⟨acc, hD, al, sm⟩
      obtain ⟨p, hp, wx⟩ := src n x hx
      obtain ⟨q, a, rfl, hq, ha⟩ := wx
      refine ⟨rfl, _, rfl, _, _, _, _, rfl, rfl, sm.tup hq, rfl, dF p.2.2, dF fNil, dF_at (sm.tup ha), dF_at (u := fNil) (kN.at _), dF_shaped _, dF_shaped _, _, rfl, ?_⟩
      rw [dF_eqv, filter_next hp]
      cases c : isWay p with
      | true =>
        have c' : (!decide (p.2.2 = fNil)) = true := c
        refine ifT c' ⟨_, rfl, acc, hD, ?_, ?_⟩
        · have len : acc.length ≤ 2 := by
            rw [al.1]
            exact Nat.le_trans (List.length_filter_le _ _) (by rw [List.length_take]; exact Nat.min_le_right _ _)
          exact Nat.lt_of_le_of_lt len (by decide)
        · refine ⟨acc ++ [.ref q], upd_same, ?_, sm.lst nD'⟩
          have kp : Keep D H' (upd H' D (.lst (acc ++ [.ref q]))) := (Keep.of_same (Same.refl _)).upd
          rw [if_pos rfl]
          exact (al.imp fun v z hz => hz.keep hD kp).snoc ⟨q, a, rfl, tup_keep (sm.tup hq) hD kp, tup_keep (sm.tup ha) hD kp⟩
      | false =>
        have c' : (!decide (p.2.2 = fNil)) = false := c
        refine ifF c' ⟨acc, hD, ?_, sm⟩
        rw [if_neg Bool.false_ne_true]
        exact al
    · rintro H' ⟨acc, hD, al, sm⟩
      exact kk H' D acc (sH.trans sm) hD al
/-! ### may_go_round -/
abbrev sMay : Stmt := top 21
abbrev nMay : List Str := ["strengths", "one", "other", "some", "winner", "loser", "chance"]
theorem scMay : FnScope nMay ["strengths", "one", "other"] (defScope sMay) := ⟨rfl, rfl, rfl, by decide +kernel, rfl, by decide +kernel, by decide +kernel⟩
def spMay (CS : Addr) : Sp := fun vs H Q _ => ∃ (s : Addr) (t : Sj12.Three) (i k : Nat), vs = [.ref s, nV i, nV k] ∧ StrAt CS H s t ∧ Good t ∧ Two i k ∧ ∀ H', Same H H' → Q (.bl (mayF t i k)) H'
theorem ok_may (D : Def K mg "may_go_round" sMay ["strengths", "one", "other"] f fd) (T : Txt K mg CS CW CT CR) (hf : Has P w K mg base CX0 5 "first_bouts" ["strengths", "one", "other"] (spFirst K CS)) (hro : Has P w K mg base CX0 6 "chance_of_round" ["strengths", "winner", "loser"] (spRound K CS)) :
    FnOk P w K mg base CX0 7 f fd ["strengths", "one", "other"] (spMay CS) := by
  refine D.F.ok scMay (fun vs H Q E h => ?_) (fun cdv A outer s H vs Q E hr h => ?_)
  · obtain ⟨s, t, i, k, rfl, _⟩ := h
    rfl
  · obtain ⟨aO, gO, kO⟩ := T.cOne
    refine ⟨_, pss_cons (ps_set (i := 3) scMay.nd rfl (Or.inl rfl) (pe_has hf (hr.mono (by decide)) pass0 (pa_cons (pv 0) (pa_cons (pv 1) (pa_cons (pv 2) pa_nil)))))
      (pss_one (ps_ret (pe_callB (cr_any rfl) (by rfl) T.bAny (by decide +kernel) (pa_cons (pe_lc (own := [("winner", 4), ("loser", 5), ("chance", 6)]) (g := gTup K 3 (gCons (gName 4) (gCons (gName 5) (gCons (gName 6) gNil)))) (tt := tYes) rfl scMay.nd (pi_list (pv 3)) (blkOk_by (N := nMay) (sc := defScope sMay) (by decide +kernel))
        (fun _ _ _ _ _ => pg_tup rfl (pgs_cons (pg_name (i := 4) scMay.nd rfl (Or.inl rfl)) (pgs_cons (pg_name (i := 5) scMay.nd rfl (Or.inl rfl)) (pgs_cons (pg_name (i := 6) scMay.nd rfl (Or.inl rfl)) pgs_nil))))
        (fun _ _ _ _ _ => pts_nil)
        (fun _ _ _ _ _ => pe_cmpR (r := rEqD K) (op_eqD hr.units) (pe_has hro hr pass0 (pa_cons (pv 0) (pa_cons (pv 4) (pa_cons (pv 5) pa_nil)))) (pgr gO) (nomark _))) pa_nil)))), ?_⟩
    obtain ⟨s, t, i, k, rfl, hs, g, tw, kk⟩ := h
    refine ⟨_, rfl, _, rfl, _, rfl, s, t, i, k, rfl, hs, g, tw, fun H1 l xs s1 hl al => ?_⟩
    refine ⟨_, rfl, l, rfl, ⟨_, SqL.of hl⟩, fun D nD => ?_⟩
    refine lc_list (K := K) (a := l) (xs := xs) (fun n H' => H' D = some (.lst ((((firstF t i k).take n).map (goes t)).map V.bl)) ∧ Same H1 H') ?_ ?_ ?_ ?_
    · exact ⟨upd_same, Same.upd nD⟩
    · rintro n H' _ ⟨hD, sm⟩
      exact sm.seq (SqL.of hl)
    · rintro n x H' hx ⟨hD, sm⟩
      obtain ⟨p, hp, q, a, rfl, hq, ha⟩ := al.get hx
      have way := first_mem tw (mem_of_at hp)
      refine ⟨q, _, rfl, sm.tup hq, rfl, _, _, rfl, _, _, rfl, _, _, rfl, rfl, rfl, ?_⟩
      refine ⟨_, rfl, _, rfl, _, rfl, s, t, p.1, p.2.1, rfl, hs.same (s1.trans sm), g, way.1, fun H2 r s2 is2 => ?_⟩
      refine ⟨dF _, dF fOne, dF_at is2, dF_at (u := fOne) (kO.at _), dF_shaped _, dF_shaped _, _, s2 _ _ hD, ?_, ?_, (sm.trans s2).lst nD⟩
      · rw [List.length_map, List.length_map]
        exact Nat.lt_of_le_of_lt (Nat.le_trans (by rw [List.length_take]; exact Nat.min_le_right _ _) (first_len t i k)) (by decide)
      · rw [dF_eqv, take_next hp, List.map_append, List.map_append]
        exact upd_same
    · rintro H' ⟨hD, sm⟩
      rw [al.1, List.take_length] at hD
      exact ⟨D, _, rfl, SqL.of hD, kk H' (s1.trans sm)⟩
end
end Tb
namespace Tb
open PySem PySem.Spec PyProof.Rows L2
section
variable {P : Program} {w : World} {K : PySem.W.Frag} {mg : Str → Option Value} {base : Heap} {f : Addr} {fd : FuncData} {CS CW CT CR : Addr}
/-! ### likely -/
abbrev sLikely : Stmt := top 22
abbrev nLikely : List Str := ["strengths", "one", "other", "wrestler", "found", "winner", "loser", "chance"]
theorem scLikely : FnScope nLikely ["strengths", "one", "other", "wrestler"] (defScope sLikely) := ⟨rfl, rfl, rfl, by decide +kernel, rfl, by decide +kernel, by decide +kernel⟩
def spLikely (K : PySem.W.Frag) (CS : Addr) : Sp := fun vs H Q _ => ∃ (s : Addr) (t : Sj12.Three) (i k x : Nat), vs = [.ref s, nV i, nV k, nV x] ∧ StrAt CS H s t ∧ Good t ∧ Two i k ∧ mayF t i k = false ∧ Gives K (oddsF t i k x) H Q
theorem ok_likely (D : Def K mg "likely" sLikely ["strengths", "one", "other", "wrestler"] f fd) (T : Txt K mg CS CW CT CR) (hf : Has P w K mg base CX0 5 "first_bouts" ["strengths", "one", "other"] (spFirst K CS))
    (ht : Has P w K mg base CX0 4 "times" ["one", "other"] (spBin K timesF anyF)) (hp : Has P w K mg base CX0 4 "plus" ["one", "other"] (spBin K plusF anyF)) (hb : Has P w K mg base CX0 6 "likely_behind" ["strengths", "winner", "loser", "wrestler"] (spBehind K CS)) :
    FnOk P w K mg base CX0 7 f fd ["strengths", "one", "other", "wrestler"] (spLikely K CS) := by
  refine D.F.ok scLikely (fun vs H Q E h => ?_) (fun cdv A outer s H vs Q E hr h => ?_)
  · obtain ⟨s, t, i, k, x, rfl, _⟩ := h
    rfl
  · obtain ⟨aN, gN, kN⟩ := T.cNil
    have hr4 : Room 4 _ := hr.mono (by decide)
    refine ⟨_, pss_cons (ps_set (i := 4) scLikely.nd rfl (Or.inl rfl) (pgr gN))
      (pss_cons (ps_for PassesOwn.never rfl (pi_list (pe_has hf (hr.mono (by decide)) pass0 (pa_cons (pv 0) (pa_cons (pv 1) (pa_cons (pv 2) pa_nil))))) (pg_tup rfl (pgs_cons (pg_name (i := 5) scLikely.nd rfl (Or.inl rfl)) (pgs_cons (pg_name (i := 6) scLikely.nd rfl (Or.inl rfl)) (pgs_cons (pg_name (i := 7) scLikely.nd rfl (Or.inl rfl)) pgs_nil))))
        (pss_one (ps_set (i := 4) scLikely.nd rfl (Or.inl rfl) (pe_has hp hr4 pass0 (pa_cons (pv 4) (pa_cons (pe_has ht hr4 pass0 (pa_cons (pv 7) (pa_cons (pe_has hb hr pass0 (pa_cons (pv 0) (pa_cons (pv 5) (pa_cons (pv 6) (pa_cons (pv 3) pa_nil))))) pa_nil))) pa_nil))))))
      (pss_one (ps_ret (pv 4)))), ?_⟩
    obtain ⟨s, t, i, k, x, rfl, hs, g, tw, mf, kk⟩ := h
    refine ⟨_, rfl, _, rfl, _, rfl, s, t, i, k, rfl, hs, g, tw, fun H1 l xs s1 hl al => ?_⟩
    refine ⟨l, rfl, ⟨_, SqL.of hl⟩, for_list (K := K) (a := l) (xs := xs) (fun n σ H' => ∃ (v5 v6 v7 : Option V) (af : Addr), σ = [some (.ref s), some (nV i), some (nV k), some (nV x), some (.ref af), v5, v6, v7] ∧ Same H1 H' ∧ IsF K H' af (((firstF t i k).take n).foldl (oSt t x) fNil)) ?_ ?_ ?_ ?_⟩
    · exact ⟨none, none, none, aN, rfl, Same.refl _, kN.at _⟩
    · rintro n σ H' _ ⟨v5, v6, v7, af, rfl, sm, isf⟩
      exact sm.seq (SqL.of hl)
    · rintro n y σ H' hy ⟨v5, v6, v7, af, rfl, sm, isf⟩
      obtain ⟨p, hp, q, a, rfl, hq, ha⟩ := al.get hy
      have way := first_mem tw (mem_of_at hp)
      have nev := first_goes g tw mf (mem_of_at hp)
      have cb : Ok 7 p.2.2 := by
        rw [way.2]
        exact ok_beats g _ _
      refine ⟨q, _, rfl, sm.tup hq, rfl, _, _, rfl, _, _, rfl, _, _, rfl, rfl, ?_⟩
      refine ⟨_, rfl, _, rfl, _, rfl, _, rfl, _, rfl, _, rfl, s, t, p.1, p.2.1, x, rfl, hs.same (s1.trans sm), g, way.1, nev, fun H2 r2 s2 is2 => ?_⟩
      refine ⟨a, r2, _, _, rfl, s2.tup (sm.tup ha), is2, cb.mono (by decide), (ok_behind g way.1 nev).mono (by decide), True.intro, fun H3 r3 s3 is3 => ?_⟩
      refine ⟨af, r3, _, _, rfl, s3.tup (s2.tup isf), is3, (o_ok g tw mf x n).mono (by decide), (ok_times cb (ok_behind g way.1 nev)).mono (by decide), True.intro, fun H4 r4 s4 is4 => ?_⟩
      refine ⟨_, _, _, r4, rfl, sm.trans (s2.trans (s3.trans s4)), ?_⟩
      rw [fold_next hp]
      exact is4
    · rintro σ H' ⟨v5, v6, v7, af, rfl, sm, isf⟩
      rw [al.1, List.take_length] at isf
      exact ⟨_, rfl, kk H' af (s1.trans sm) isf⟩
/-! ### how_long -/
abbrev sHow : Stmt := top 23
abbrev nHow : List Str := ["strengths", "one", "other", "found", "winner", "loser", "chance"]
theorem scHow : FnScope nHow ["strengths", "one", "other"] (defScope sHow) := ⟨rfl, rfl, rfl, by decide +kernel, rfl, by decide +kernel, by decide +kernel⟩
def spHow (K : PySem.W.Frag) (CS : Addr) : Sp := fun vs H Q _ => ∃ (s : Addr) (t : Sj12.Three) (i k : Nat), vs = [.ref s, nV i, nV k] ∧ StrAt CS H s t ∧ Good t ∧ Two i k ∧ mayF t i k = false ∧ Gives K (lastF t i k) H Q
theorem ok_how (D : Def K mg "how_long" sHow ["strengths", "one", "other"] f fd) (T : Txt K mg CS CW CT CR) (hf : Has P w K mg base CX0 5 "first_bouts" ["strengths", "one", "other"] (spFirst K CS))
    (ht : Has P w K mg base CX0 4 "times" ["one", "other"] (spBin K timesF anyF)) (hp : Has P w K mg base CX0 4 "plus" ["one", "other"] (spBin K plusF anyF)) (hb : Has P w K mg base CX0 6 "long_behind" ["strengths", "winner", "loser"] (spLong K CS)) :
    FnOk P w K mg base CX0 7 f fd ["strengths", "one", "other"] (spHow K CS) := by
  refine D.F.ok scHow (fun vs H Q E h => ?_) (fun cdv A outer s H vs Q E hr h => ?_)
  · obtain ⟨s, t, i, k, rfl, _⟩ := h
    rfl
  · obtain ⟨aO, gO, kO⟩ := T.cOne
    have hr4 : Room 4 _ := hr.mono (by decide)
    refine ⟨_, pss_cons (ps_set (i := 3) scHow.nd rfl (Or.inl rfl) (pgr gO))
      (pss_cons (ps_for PassesOwn.never rfl (pi_list (pe_has hf (hr.mono (by decide)) pass0 (pa_cons (pv 0) (pa_cons (pv 1) (pa_cons (pv 2) pa_nil))))) (pg_tup rfl (pgs_cons (pg_name (i := 4) scHow.nd rfl (Or.inl rfl)) (pgs_cons (pg_name (i := 5) scHow.nd rfl (Or.inl rfl)) (pgs_cons (pg_name (i := 6) scHow.nd rfl (Or.inl rfl)) pgs_nil))))
        (pss_one (ps_set (i := 3) scHow.nd rfl (Or.inl rfl) (pe_has hp hr4 pass0 (pa_cons (pv 3) (pa_cons (pe_has ht hr4 pass0 (pa_cons (pv 6) (pa_cons (pe_has hb hr pass0 (pa_cons (pv 0) (pa_cons (pv 4) (pa_cons (pv 5) pa_nil)))) pa_nil))) pa_nil))))))
      (pss_one (ps_ret (pv 3)))), ?_⟩
    obtain ⟨s, t, i, k, rfl, hs, g, tw, mf, kk⟩ := h
    refine ⟨_, rfl, _, rfl, _, rfl, s, t, i, k, rfl, hs, g, tw, fun H1 l xs s1 hl al => ?_⟩
    refine ⟨l, rfl, ⟨_, SqL.of hl⟩, for_list (K := K) (a := l) (xs := xs) (fun n σ H' => ∃ (v4 v5 v6 : Option V) (af : Addr), σ = [some (.ref s), some (nV i), some (nV k), some (.ref af), v4, v5, v6] ∧ Same H1 H' ∧ IsF K H' af (((firstF t i k).take n).foldl (hSt t) fOne)) ?_ ?_ ?_ ?_⟩
    · exact ⟨none, none, none, aO, rfl, Same.refl _, kO.at _⟩
    · rintro n σ H' _ ⟨v4, v5, v6, af, rfl, sm, isf⟩
      exact sm.seq (SqL.of hl)
    · rintro n y σ H' hy ⟨v4, v5, v6, af, rfl, sm, isf⟩
      obtain ⟨p, hp, q, a, rfl, hq, ha⟩ := al.get hy
      have way := first_mem tw (mem_of_at hp)
      have nev := first_goes g tw mf (mem_of_at hp)
      have cb : Ok 7 p.2.2 := by
        rw [way.2]
        exact ok_beats g _ _
      refine ⟨q, _, rfl, sm.tup hq, rfl, _, _, rfl, _, _, rfl, _, _, rfl, rfl, ?_⟩
      refine ⟨_, rfl, _, rfl, _, rfl, _, rfl, _, rfl, s, t, p.1, p.2.1, rfl, hs.same (s1.trans sm), g, way.1, nev, fun H2 r2 s2 is2 => ?_⟩
      refine ⟨a, r2, _, _, rfl, s2.tup (sm.tup ha), is2, cb.mono (by decide), (ok_longF g way.1 nev).mono (by decide), True.intro, fun H3 r3 s3 is3 => ?_⟩
      refine ⟨af, r3, _, _, rfl, s3.tup (s2.tup isf), is3, (h_ok g tw mf n).mono (by decide), (ok_times cb (ok_longF g way.1 nev)).mono (by decide), True.intro, fun H4 r4 s4 is4 => ?_⟩
      refine ⟨_, _, _, r4, rfl, sm.trans (s2.trans (s3.trans s4)), ?_⟩
      rw [fold_next hp]
      exact is4
    · rintro σ H' ⟨v4, v5, v6, af, rfl, sm, isf⟩
      rw [al.1, List.take_length] at isf
      exact ⟨_, rfl, kk H' af (s1.trans sm) isf⟩
/-! ### two_without -/
abbrev sTwoW : Stmt := top 24
theorem scTwoW : FnScope ["waiting", "one"] ["waiting"] (defScope sTwoW) := ⟨rfl, rfl, rfl, by decide +kernel, rfl, by decide +kernel, by decide +kernel⟩
def spTwoW : Sp := fun vs H Q _ => ∃ w : Nat, vs = [nV w] ∧ ∀ H' p, Same H H' → H' p = some (.lst ((twoOf w).map nV)) → Q (.ref p) H'
theorem at_three {n : Nat} {x : V} (h : ([nV 0, nV 1, nV 2] : List V)[n]? = some x) : ∃ o : Nat, x = nV o ∧ ([0, 1, 2] : List Nat)[n]? = some o := by
  match n, h with
  | 0, h => exact ⟨0, (Option.some.inj h).symm, rfl⟩
  | 1, h => exact ⟨1, (Option.some.inj h).symm, rfl⟩
  | 2, h => exact ⟨2, (Option.some.inj h).symm, rfl⟩
  | n + 3, h => simp at h
theorem ok_twoW (D : Def K mg "two_without" sTwoW ["waiting"] f fd) (T : Txt K mg CS CW CT CR) : FnOk P w K mg base CX0 1 f fd ["waiting"] spTwoW := by
  refine D.F.ok scTwoW (fun vs H Q E h => ?_) (fun cdv A outer s H vs Q E hr h => ?_)
  · obtain ⟨w, rfl, _⟩ := h
    rfl
  · obtain ⟨aW, gW, kW⟩ := T.cWre
    refine ⟨_, pss_one (ps_ret (pe_lc (own := [("one", 1)]) (g := gName 1) rfl scTwoW.nd (pi_tup (pgr gW)) (blkOk_by (N := ["waiting", "one"]) (sc := defScope sTwoW) (by decide +kernel))
        (fun _ _ _ _ _ => pg_name (i := 1) scTwoW.nd rfl (Or.inl rfl))
        (fun _ _ _ _ _ => pts_one (pt_cmpR op_ne (pv 1) (pv 0) (nomark _)))
        (fun _ _ _ _ _ => pv 1))), ?_⟩
    obtain ⟨w, rfl, kk⟩ := h
    refine ⟨aW, rfl, ⟨_, kW.at _⟩, fun D nD => ?_⟩
    refine lc_tup (K := K) (a := aW) (xs := [nV 0, nV 1, nV 2]) (fun n H' => H' D = some (.lst (((([0, 1, 2] : List Nat).take n).filter fun o => !decide (o = w)).map nV)) ∧ Same H H') ?_ ?_ ?_ ?_
    · exact ⟨upd_same, Same.upd nD⟩
    · rintro n H' _ _
      exact kW.at _
    · rintro n x H' hx ⟨hD, sm⟩
      obtain ⟨o, rfl, ho⟩ := at_three hx
      refine ⟨rfl, _, rfl, _, rfl, rfl, _, rfl, ?_⟩
      have f1 := filter_next ho fun o => !decide (o = w)
      by_cases c : o = w
      · refine ifF (by rw [decide_eq_true (nV_inj.mpr c)]; rfl) ⟨?_, sm⟩
        rw [f1, if_neg (by rw [decide_eq_true c]; exact Bool.false_ne_true)]
        exact hD
      · refine ifT (by rw [decide_eq_false (fun z => c (nV_inj.mp z))]; rfl) ⟨_, rfl, _, hD, ?_, ?_, sm.lst nD⟩
        · rw [List.length_map]
          exact Nat.lt_of_le_of_lt (Nat.le_trans (List.length_filter_le _ _) (by rw [List.length_take]; exact Nat.min_le_right _ _)) (by decide)
        · rw [f1, if_pos (by rw [decide_eq_false c]; rfl), List.map_append]
          exact upd_same
    · rintro H' ⟨hD, sm⟩
      exact kk H' D sm hD
/-! ### best_wait -/
abbrev sBest : Stmt := top 25
abbrev nBest : List Str := ["strengths", "wrestler", "found", "waiting", "one", "other", "chance"]
theorem scBest : FnScope nBest ["strengths", "wrestler"] (defScope sBest) := ⟨rfl, rfl, rfl, by decide +kernel, rfl, by decide +kernel, by decide +kernel⟩
def spBest (K : PySem.W.Frag) (CS : Addr) : Sp := fun vs H Q _ => ∃ (s : Addr) (t : Sj12.Three) (x : Nat), vs = [.ref s, nV x] ∧ StrAt CS H s t ∧ Good t ∧ ∀ H' v, Same H H' → IsBest K H' v (bestF t x) → Q v H'
theorem ok_best (D : Def K mg "best_wait" sBest ["strengths", "wrestler"] f fd) (T : Txt K mg CS CW CT CR) (h2 : Has P w K mg base CX0 1 "two_without" ["waiting"] spTwoW) (hm : Has P w K mg base CX0 7 "may_go_round" ["strengths", "one", "other"] (spMay CS))
    (hl : Has P w K mg base CX0 7 "likely" ["strengths", "one", "other", "wrestler"] (spLikely K CS)) (hle : Has P w K mg base CX0 1 "is_less" ["one", "other"] (spLess K)) :
    FnOk P w K mg base CX0 8 f fd ["strengths", "wrestler"] (spBest K CS) := by
  refine D.F.ok scBest (fun vs H Q E h => ?_) (fun cdv A outer s H vs Q E hr h => ?_)
  · obtain ⟨s, t, x, rfl, _⟩ := h
    rfl
  · obtain ⟨aW, gW, kW⟩ := T.cWre
    have hr1 : Room 1 _ := hr.mono (by decide)
    refine ⟨_, pss_cons (ps_set (i := 2) scBest.nd rfl (Or.inl rfl) pe_non)
      (pss_cons (ps_for PassesOwn.never rfl (pi_tup (pgr gW)) (pg_name (i := 3) scBest.nd rfl (Or.inl rfl))
        (pss_cons (ps_asg (pe_has h2 hr1 pass0 (pa_cons (pv 3) pa_nil)) (pg_unl rfl (pgs_cons (pg_name (i := 4) scBest.nd rfl (Or.inl rfl)) (pgs_cons (pg_name (i := 5) scBest.nd rfl (Or.inl rfl)) pgs_nil))))
        (pss_one (ps_if (pt_not (pt_val (pe_has hm hr pass0 (pa_cons (pv 0) (pa_cons (pv 4) (pa_cons (pv 5) pa_nil))))))
          (pss_cons (ps_set (i := 6) scBest.nd rfl (Or.inl rfl) (pe_has hl hr pass0 (pa_cons (pv 0) (pa_cons (pv 4) (pa_cons (pv 5) (pa_cons (pv 1) pa_nil))))))
          (pss_one (ps_if (PW.pt (pw_or (pt_cmp (pc_isN (pv 2))) (pw_or1 (pt_val (pe_has hle hr1 pass0 (pa_cons (pe_ix ix_tup (pv 2) pe_int (fun _ _ => rfl)) (pa_cons (pv 6) pa_nil)))))))
            (pss_one (ps_set (i := 2) scBest.nd rfl (Or.inl rfl) (pe_tup (pa_cons (pv 3) (pa_cons (pv 6) pa_nil))))) pss_nil)))
          pss_nil))))
      (pss_one (ps_ret (pv 2)))), ?_⟩
    obtain ⟨s, t, x, rfl, hs, g, kk⟩ := h
    refine ⟨aW, rfl, ⟨_, kW.at _⟩, for_tup (K := K) (a := aW) (xs := [nV 0, nV 1, nV 2]) (fun n σ H' => ∃ (v3 v4 v5 v6 : Option V) (vf : V), σ = [some (.ref s), some (nV x), some vf, v3, v4, v5, v6] ∧ Same H H' ∧ IsBest K H' vf (bestAt t x n)) ?_ ?_ ?_ ?_⟩
    · exact ⟨none, none, none, none, .non, rfl, Same.refl _, rfl⟩
    · rintro n σ H' _ _
      exact kW.at _
    · rintro n y σ H' hy ⟨v3, v4, v5, v6, vf, rfl, sm, isb⟩
      obtain ⟨o, rfl, ho⟩ := at_three hy
      have o3 : o < 3 := by
        have h3 : ∀ w ∈ ([0, 1, 2] : List Nat), w < 3 := by decide
        exact h3 o (mem_of_at ho)
      obtain ⟨tw, e2⟩ := two_of o3
      have nxt : bestAt t x (n + 1) = bestStep t x (bestAt t x n) o := fold_next ho _ _
      have bok := bestAt_ok g x n
      generalize hi : (twoOf o).getD 0 0 = i at tw e2
      generalize hk : (twoOf o).getD 1 0 = k at tw e2
      have unf : bestStep t x (bestAt t x n) o = if mayF t i k = true then bestAt t x n else match bestAt t x n with
          | none => some (o, oddsF t i k x)
          | some z => if Sj12.less z.2 (oddsF t i k x) = true then some (o, oddsF t i k x) else some z := by
        rw [← hi, ← hk]
        rfl
      refine ⟨_, rfl, o, rfl, fun H1 l s1 hl => ?_⟩
      rw [e2] at hl
      refine ⟨l, _, rfl, SqL.of hl, rfl, _, _, rfl, _, _, rfl, rfl, ?_⟩
      refine ⟨_, rfl, _, rfl, _, rfl, s, t, i, k, rfl, hs.same (sm.trans s1), g, tw, fun H2 s2 => ⟨_, rfl, ?_⟩⟩
      have s12 : Same H' H2 := s1.trans s2
      cases c : mayF t i k with
      | true =>
        refine ifF rfl ⟨_, _, _, _, vf, rfl, sm.trans s12, ?_⟩
        rw [nxt, unf, if_pos c]
        exact isb.same s12
      | false =>
        refine ifT rfl ?_
        refine ⟨_, rfl, _, rfl, _, rfl, _, rfl, s, t, i, k, x, rfl, hs.same (sm.trans s12), g, tw, c, fun H3 r3 s3 is3 => ?_⟩
        have s13 : Same H' H3 := s12.trans s3
        have unf2 : bestStep t x (bestAt t x n) o = match bestAt t x n with
            | none => some (o, oddsF t i k x)
            | some z => if Sj12.less z.2 (oddsF t i k x) = true then some (o, oddsF t i k x) else some z := by
          rw [unf, if_neg (by rw [c]; exact Bool.false_ne_true)]
        have isb3 := isb.same s13
        -- found = (waiting, chance)
        have take : ∀ D' : Ends, (∀ H4 q4, Same H H4 → SqT K H4 q4 [nV o, .ref r3] → IsF K H4 r3 (oddsF t i k x) → D'.nx [some (.ref s), some (nV x), some (.ref q4), some (nV o), some (nV i), some (nV k), some (.ref r3)] H4) →
            tAsg (tTup (tCons (tVar 3) (tCons (tVar 6) tNil))) (gName 2) D' [some (.ref s), some (nV x), some vf, some (nV o), some (nV i), some (nV k), some (.ref r3)] H3 := fun D' fin =>
          ⟨_, rfl, _, rfl, two_le, fun q4 n4 => fin _ q4 ((sm.trans s13).new n4) (SqT.of upd_same) ((Same.upd n4).tup is3)⟩
        cases e : bestAt t x n with
        | none =>
          rw [e] at isb3 unf2
          have ev : vf = .non := isb3
          refine ⟨_, rfl, _, rfl, ifT (decide_eq_true ev) (ifT rfl ?_)⟩
          refine take _ fun H4 q4 s4 ht hf => ⟨_, _, _, _, _, rfl, s4, ?_⟩
          rw [nxt, e, unf2]
          exact ⟨q4, r3, rfl, ht, hf⟩
        | some z =>
          rw [e] at isb3 unf2
          obtain ⟨q, a, ev, hq, ha⟩ := isb3
          have zok := bok z e
          refine ⟨_, rfl, _, rfl, ifF (decide_eq_false (by rw [ev]; intro z; cases z)) ?_⟩
          refine ⟨_, rfl, q, _, _, _, ev, rfl, hq, rfl, _, rfl, a, r3, z.2, oddsF t i k x, rfl, ha, is3, zok.mono (by decide), (ok_odds g tw c).mono (by decide), _, rfl, ?_⟩
          cases c2 : Sj12.less z.2 (oddsF t i k x) with
          | true =>
            refine ifT rfl (take _ fun H4 q4 s4 ht hf => ⟨_, _, _, _, _, rfl, s4, ?_⟩)
            rw [nxt, e, unf2]
            show IsBest K H4 (.ref q4) (if Sj12.less z.2 (oddsF t i k x) = true then some (o, oddsF t i k x) else some z)
            rw [if_pos c2]
            exact ⟨q4, r3, rfl, ht, hf⟩
          | false =>
            refine ifF rfl ⟨_, _, _, _, vf, rfl, sm.trans s13, ?_⟩
            rw [nxt, e, unf2]
            show IsBest K H3 vf (if Sj12.less z.2 (oddsF t i k x) = true then some (o, oddsF t i k x) else some z)
            rw [if_neg (by rw [c2]; exact Bool.false_ne_true)]
            exact ⟨q, a, ev, hq, ha⟩
    · rintro σ H' ⟨v3, v4, v5, v6, vf, rfl, sm, isb⟩
      exact ⟨_, rfl, kk H' vf sm isb⟩
end
end Tb
namespace Tb
open PySem PySem.Spec PyProof.Rows L2
/-! ### a play-off walked along: who won the last bout, against whom, how many, who has won (3: nobody) -/
abbrev Wk := Nat × Nat × Nat × Nat
def wkStart (i k o : Nat) : Wk := if o = 1 then (i, k, 1, 3) else (k, i, 1, 3)
def wkStep (s : Wk) (o : Nat) : Wk := if s.2.2.2 ≠ 3 then s else if o = 1 then (s.1, Sj12.other s.1 s.2.1, s.2.2.1 + 1, s.1) else (Sj12.other s.1 s.2.1, s.1, s.2.2.1 + 1, 3)
def WkOk (s : Wk) : Prop := Two s.1 s.2.1
theorem wkStart_ok {i k : Nat} (h : Two i k) (o : Nat) : WkOk (wkStart i k o) := by
  unfold wkStart
  split
  · exact h
  · exact h.swap
theorem wkStep_ok {s : Wk} (h : WkOk s) (o : Nat) : WkOk (wkStep s o) := by
  unfold wkStep
  split
  · exact h
  · split
    · exact two_ij h
    · exact (two_ij h).swap
theorem wkFold_ok : ∀ (l : List Nat) {s : Wk}, WkOk s → WkOk (l.foldl wkStep s)
  | [], s, h => h
  | o :: l, s, h => wkFold_ok l (wkStep_ok h o)
theorem wk_over : ∀ (l : List Nat) {s : Wk}, s.2.2.2 ≠ 3 → l.foldl wkStep s = s
  | [], s, _ => rfl
  | o :: l, s, h => by
    have e : wkStep s o = s := if_pos h
    rw [List.foldl_cons, e]
    exact wk_over l h
/-- the specification tells the same -/
theorem wk_plays : ∀ (l : List Nat) (n i k : Nat), Two i k → l.foldl wkStep (i, k, n, 3) =
    ((Sj12.plays n i k l).1.2.1, (Sj12.plays n i k l).1.2.2, (Sj12.plays n i k l).1.1, if (Sj12.plays n i k l).2 = true then (Sj12.plays n i k l).1.2.1 else 3)
  | [], n, i, k, _ => rfl
  | o :: l, n, i, k, h => by
    by_cases c : o = 1
    · have e : Sj12.plays n i k (o :: l) = ((n + 1, i, Sj12.other i k), true) := if_pos c
      have e2 : wkStep (i, k, n, 3) o = (i, Sj12.other i k, n + 1, i) := by
        unfold wkStep
        rw [if_neg (fun z => z rfl), if_pos c]
      have ne : i ≠ 3 := by
        have := h.1
        omega
      rw [List.foldl_cons, e2, wk_over l ne, e]
      rfl
    · have e : Sj12.plays n i k (o :: l) = Sj12.plays (n + 1) (Sj12.other i k) i l := if_neg c
      have e2 : wkStep (i, k, n, 3) o = (Sj12.other i k, i, n + 1, 3) := by
        unfold wkStep
        rw [if_neg (fun z => z rfl), if_neg c]
      rw [List.foldl_cons, e2, e]
      exact wk_plays l (n + 1) (Sj12.other i k) i (two_ij h).swap
/-! ### in the heap -/
def wkF (s : Wk) : List (Str × V) := [("winner", nV s.1), ("loser", nV s.2.1), ("many", nV s.2.2.1), ("champion", nV s.2.2.2)]
def WalkAt (C : Addr) (H : Hp) (a : Addr) (s : Wk) : Prop := ∃ dx : Addr, H a = some (.ins C dx (wkF s))
theorem wk_win (s : Wk) : List.lookup ("winner" : Str) (wkF s) = some (nV s.1) := lk_here
theorem wk_los (s : Wk) : List.lookup ("loser" : Str) (wkF s) = some (nV s.2.1) := (lk_past (by decide +kernel)).trans lk_here
theorem wk_man (s : Wk) : List.lookup ("many" : Str) (wkF s) = some (nV s.2.2.1) := (lk_past (by decide +kernel)).trans ((lk_past (by decide +kernel)).trans lk_here)
theorem wk_cha (s : Wk) : List.lookup ("champion" : Str) (wkF s) = some (nV s.2.2.2) := (lk_past (by decide +kernel)).trans ((lk_past (by decide +kernel)).trans ((lk_past (by decide +kernel)).trans lk_here))
theorem wk_go (s : Wk) : List.lookup ("go_on" : Str) (wkF s) = none := (lk_past (by decide +kernel)).trans ((lk_past (by decide +kernel)).trans ((lk_past (by decide +kernel)).trans ((lk_past (by decide +kernel)).trans rfl)))
theorem pt_win (s : Wk) (x : Nat) : putF "winner" (nV x) (wkF s) = wkF (x, s.2) := put_here
theorem pt_los (s : Wk) (x : Nat) : putF "loser" (nV x) (wkF s) = wkF (s.1, x, s.2.2) := (put_past (by decide +kernel)).trans (congrArg _ put_here)
theorem pt_man (s : Wk) (x : Nat) : putF "many" (nV x) (wkF s) = wkF (s.1, s.2.1, x, s.2.2.2) := (put_past (by decide +kernel)).trans (congrArg _ ((put_past (by decide +kernel)).trans (congrArg _ put_here)))
theorem pt_cha (s : Wk) (x : Nat) : putF "champion" (nV x) (wkF s) = wkF (s.1, s.2.1, s.2.2.1, x) := (put_past (by decide +kernel)).trans (congrArg _ ((put_past (by decide +kernel)).trans (congrArg _ ((put_past (by decide +kernel)).trans (congrArg _ put_here)))))
abbrev f1 (i : Nat) : List (Str × V) := [("winner", nV i)]
abbrev f2 (i k : Nat) : List (Str × V) := [("winner", nV i), ("loser", nV k)]
abbrev f3 (i k n : Nat) : List (Str × V) := [("winner", nV i), ("loser", nV k), ("many", nV n)]
theorem pf2 (i k : Nat) : putF "loser" (nV k) (f1 i) = f2 i k := (put_past (by decide +kernel)).trans rfl
theorem pf3 (i k n : Nat) : putF "many" (nV n) (f2 i k) = f3 i k n := (put_past (by decide +kernel)).trans (congrArg _ ((put_past (by decide +kernel)).trans rfl))
theorem pf4 (i k n c : Nat) : putF "champion" (nV c) (f3 i k n) = wkF (i, k, n, c) := (put_past (by decide +kernel)).trans (congrArg _ ((put_past (by decide +kernel)).trans (congrArg _ ((put_past (by decide +kernel)).trans rfl))))
theorem at_0 (x : V) (xs : List V) : atI (x :: xs) 0 = some x := atI_nat (xs := x :: xs) (j := 0) rfl
theorem wk_len (s : Wk) : (wkF s).length < 1000 := by show 4 < 1000; decide
theorem cut1 (xs : List V) : cutV xs (some 1) none = xs.drop 1 := by
  unfold cutV
  have e : HT.sIx xs.length 0 (some 1) = min 1 xs.length := HT.sIx_nat xs.length 0 1
  rw [e, HT.sIx_none]
  cases xs with
  | nil => rfl
  | cons x xs =>
    rw [show min 1 (x :: xs).length = 1 from Nat.min_eq_left (by rw [List.length_cons]; omega)]
    refine List.take_of_length_le ?_
    rw [List.length_drop]
    exact Nat.le_refl _
section
variable {P : Program} {w : World} {K : PySem.W.Frag} {mg : Str → Option Value} {base : Heap} {f : Addr} {fd : FuncData} {CS CW CT CR : Addr}
/-! ### Walk.__init__, go_on, walked -/
abbrev sWI : Stmt := inClass (top 28) 0
abbrev sGo : Stmt := inClass (top 28) 1
abbrev sWalked : Stmt := top 29
theorem scWI : FnScope ["self", "one", "other", "is_won"] ["self", "one", "other", "is_won"] (defScope sWI) := ⟨rfl, rfl, rfl, by decide +kernel, rfl, by decide +kernel, by decide +kernel⟩
theorem scGo : FnScope ["self", "is_won", "third"] ["self", "is_won"] (defScope sGo) := ⟨rfl, rfl, rfl, by decide +kernel, rfl, by decide +kernel, by decide +kernel⟩
abbrev nWalked : List Str := ["one", "other", "bouts", "walk", "is_won"]
theorem scWalked : FnScope nWalked ["one", "other", "bouts"] (defScope sWalked) := ⟨rfl, rfl, rfl, by decide +kernel, rfl, by decide +kernel, by decide +kernel⟩
def spWI (CW : Addr) : Sp := fun vs H Q _ => ∃ (p dx : Addr) (i k o : Nat), vs = [.ref p, nV i, nV k, nV o] ∧ H p = some (.ins CW dx []) ∧ ∀ H' : Hp, WalkAt CW H' p (wkStart i k o) → Keep p H H' → Q .non H'
theorem ok_wInit (D : DefI K mg CW "Walk" "Walk.__init__" sWI ["self", "one", "other", "is_won"] f fd) (T : Txt K mg CS CW CT CR) : FnOk P w K mg base CX0 1 f fd ["self", "one", "other", "is_won"] (spWI CW) := by
  refine D.F.ok scWI (fun vs H Q E h => ?_) (fun cdv A outer s H vs Q E hr h => ?_)
  · obtain ⟨p, dx, i, k, o, rfl, _⟩ := h
    rfl
  · refine ⟨_, pss_cons (ps_fld (pv 0) (pe_ifExp (pt_cmpR op_eq (pv 3) pe_int (nomark _)) (pv 1) (pv 2)) rfl)
      (pss_cons (ps_fld (pv 0) (pe_ifExp (pt_cmpR op_eq (pv 3) pe_int (nomark _)) (pv 2) (pv 1)) rfl)
      (pss_cons (ps_fld (pv 0) pe_int rfl) (pss_one (ps_fld (pv 0) (pgi T.cNob) rfl)))), ?_⟩
    obtain ⟨p, dx, i, k, o, rfl, hp, kk⟩ := h
    have fin : ∀ (a b : Nat), wkStart i k o = (a, b, 1, 3) → ∀ h4 : Hp, h4 p = some (.ins CW dx (wkF (a, b, 1, 3))) → Keep p H h4 → Q .non h4 := by
      intro a b e h4 h5 kp
      refine kk _ ⟨dx, ?_⟩ kp
      rw [h5, e]
    have tail : ∀ (a b : Nat) (D' : Ends) (h2 : Hp), h2 p = some (.ins CW dx (f2 a b)) → Keep p H h2 → (∀ h4 : Hp, h4 p = some (.ins CW dx (wkF (a, b, 1, 3))) → Keep p H h4 → D'.nx [some (.ref p), some (nV i), some (nV k), some (nV o)] h4) →
        tSeq (sFld K (tVar 0) (tC (.int 1)) "many") (sFld K (tVar 0) (tC (.int 3)) "champion") D' [some (.ref p), some (nV i), some (nV k), some (nV o)] h2 := by
      intro a b D' h2 hp2 kp2 fin2
      refine ⟨_, rfl, p, CW, dx, _, rfl, hp2, T.clW, T.nMan, (by show 2 < 1000; decide), ?_⟩
      have e3 : putF "many" (.int 1) (f2 a b) = f3 a b 1 := pf3 a b 1
      rw [e3]
      refine ⟨_, rfl, p, CW, dx, _, rfl, upd_same, T.clW, T.nCha, (by show 3 < 1000; decide), ?_⟩
      have e4 : putF "champion" (.int 3) (f3 a b 1) = wkF (a, b, 1, 3) := pf4 a b 1 3
      rw [e4]
      exact fin2 _ upd_same kp2.upd.upd
    by_cases c : o = 1
    · refine ⟨_, rfl, rfl, _, rfl, ifT (decide_eq_true (nV_inj.mpr c)) ⟨_, rfl, _, rfl, p, CW, dx, [], rfl, hp, T.clW, T.nWin, (by show 0 < 1000; decide), ?_⟩⟩
      refine ⟨_, rfl, rfl, _, rfl, ifT (decide_eq_true (nV_inj.mpr c)) ⟨_, rfl, _, rfl, p, CW, dx, f1 i, rfl, upd_same, T.clW, T.nLos, (by show 1 < 1000; decide), ?_⟩⟩
      rw [pf2]
      exact tail i k _ _ upd_same (Keep.of_same (Same.refl _)).upd.upd (fin i k (if_pos c))
    · refine ⟨_, rfl, rfl, _, rfl, ifF (decide_eq_false fun z => c (nV_inj.mp z)) ⟨_, rfl, _, rfl, p, CW, dx, [], rfl, hp, T.clW, T.nWin, (by show 0 < 1000; decide), ?_⟩⟩
      refine ⟨_, rfl, rfl, _, rfl, ifF (decide_eq_false fun z => c (nV_inj.mp z)) ⟨_, rfl, _, rfl, p, CW, dx, f1 k, rfl, upd_same, T.clW, T.nLos, (by show 1 < 1000; decide), ?_⟩⟩
      rw [pf2]
      exact tail k i _ _ upd_same (Keep.of_same (Same.refl _)).upd.upd (fin k i (if_neg c))
def spGo (CW : Addr) : Sp := fun vs H Q _ => ∃ (a : Addr) (s : Wk) (o : Nat), vs = [.ref a, nV o] ∧ WalkAt CW H a s ∧ WkOk s ∧ ∀ H' : Hp, WalkAt CW H' a (wkStep s o) → Keep a H H' → Q .non H'
theorem ok_go (D : DefM K CW "go_on" "Walk.go_on" sGo ["self", "is_won"] f fd) (T : Txt K mg CS CW CT CR) (h1 : Has P w K mg base CX0 1 "third_of" ["one", "other"] spThird) : FnOk P w K mg base CX0 2 f fd ["self", "is_won"] (spGo CW) := by
  refine D.F.ok scGo (fun vs H Q E h => ?_) (fun cdv A outer s H vs Q E hr h => ?_)
  · obtain ⟨a, s, o, rfl, _⟩ := h
    rfl
  · refine ⟨_, pss_cons (ps_if (pt_cmpR op_ne (pe_fld (pv 0) rfl) (pgi T.cNob) (nomark _)) (pss_one ps_retN) pss_nil)
      (pss_cons (ps_set (i := 2) scGo.nd rfl (Or.inl rfl) (pe_has h1 hr pass0 (pa_cons (pe_fld (pv 0) rfl) (pa_cons (pe_fld (pv 0) rfl) pa_nil))))
      (pss_cons (ps_fld (pv 0) (pe_op op_add (pe_fld (pv 0) rfl) pe_int) rfl)
      (pss_one (ps_if (pt_cmpR op_eq (pv 1) pe_int (nomark _))
        (pss_cons (ps_fld (pv 0) (pv 2) rfl) (pss_one (ps_fld (pv 0) (pe_fld (pv 0) rfl) rfl)))
        (pss_cons (ps_fld (pv 0) (pe_fld (pv 0) rfl) rfl) (pss_one (ps_fld (pv 0) (pv 2) rfl))))))), ?_⟩
    obtain ⟨a, s, o, rfl, ⟨dx, ha⟩, ok, kk⟩ := h
    refine ⟨_, rfl, a, CW, dx, _, _, rfl, ha, T.clW, T.nCha, wk_cha s, rfl, _, rfl, ?_⟩
    by_cases c : s.2.2.2 = 3
    · refine ifF (by rw [decide_eq_true (show nV s.2.2.2 = V.int 3 by rw [c]; rfl)]; rfl) ?_
      refine ⟨_, rfl, a, CW, dx, _, _, rfl, ha, T.clW, T.nWin, wk_win s, _, rfl, a, CW, dx, _, _, rfl, ha, T.clW, T.nLos, wk_los s, s.1, s.2.1, rfl, ok, ?_⟩
      refine ⟨_, rfl, a, CW, dx, _, _, rfl, ha, T.clW, T.nMan, wk_man s, _, _, rfl, rfl, _, rfl, a, CW, dx, _, rfl, ha, T.clW, T.nMan, wk_len s, ?_⟩
      have e1 : putF "many" (V.int ((s.2.2.1 : Int) + 1)) (wkF s) = wkF (s.1, s.2.1, s.2.2.1 + 1, s.2.2.2) := pt_man s (s.2.2.1 + 1)
      have h1 : upd H a (.ins CW dx (putF "many" (V.int ((s.2.2.1 : Int) + 1)) (wkF s))) a = some (.ins CW dx (wkF (s.1, s.2.1, s.2.2.1 + 1, s.2.2.2))) := by
        rw [upd_same, e1]
      refine ⟨_, rfl, rfl, _, rfl, ?_⟩
      by_cases c2 : o = 1
      · refine ifT (decide_eq_true (nV_inj.mpr c2)) ?_
        refine ⟨_, rfl, _, rfl, a, CW, dx, _, rfl, h1, T.clW, T.nLos, wk_len _, ?_⟩
        rw [pt_los]
        refine ⟨_, rfl, a, CW, dx, _, _, rfl, upd_same, T.clW, T.nWin, wk_win _, _, rfl, a, CW, dx, _, rfl, upd_same, T.clW, T.nCha, wk_len _, ?_⟩
        rw [pt_cha]
        refine kk _ ⟨dx, ?_⟩ fun z u hz hn => by
          rw [upd_ne hn, upd_ne hn, upd_ne hn]
          exact hz
        rw [upd_same]
        unfold wkStep
        rw [if_neg (fun z => z c), if_pos c2]
      · refine ifF (decide_eq_false fun z => c2 (nV_inj.mp z)) ?_
        refine ⟨_, rfl, a, CW, dx, _, _, rfl, h1, T.clW, T.nWin, wk_win _, _, rfl, a, CW, dx, _, rfl, h1, T.clW, T.nLos, wk_len _, ?_⟩
        rw [pt_los]
        refine ⟨_, rfl, _, rfl, a, CW, dx, _, rfl, upd_same, T.clW, T.nWin, wk_len _, ?_⟩
        rw [pt_win]
        refine kk _ ⟨dx, ?_⟩ fun z u hz hn => by
          rw [upd_ne hn, upd_ne hn, upd_ne hn]
          exact hz
        rw [upd_same]
        unfold wkStep
        rw [if_neg (fun z => z c), if_neg c2, c]
    · refine ifT (by show (!decide (nV s.2.2.2 = nV 3)) = true; rw [decide_eq_false (fun z => c (nV_inj.mp z))]; rfl) ?_
      refine kk H ⟨dx, ?_⟩ fun z u hz _ => hz
      have e : wkStep s o = s := if_pos c
      rw [e]
      exact ha
def spWalked (K : PySem.W.Frag) (CW : Addr) : Sp := fun vs H Q _ => ∃ (l : Addr) (i k o : Nat) (os : List Nat), vs = [nV i, nV k, .ref l] ∧ Two i k ∧ SqL K H l ((o :: os).map nV) ∧
  ∀ H' p, Same H H' → WalkAt CW H' p (os.foldl wkStep (wkStart i k o)) → Q (.ref p) H'
theorem ok_walked (D : Def K mg "walked" sWalked ["one", "other", "bouts"] f fd) (T : Txt K mg CS CW CT CR) (hI : HasI P w K mg base CX0 1 CW "Walk" ["self", "one", "other", "is_won"] (spWI CW)) (hG : HasM P w K mg base CX0 2 CW "go_on" ["self", "is_won"] (spGo CW)) :
    FnOk P w K mg base CX0 3 f fd ["one", "other", "bouts"] (spWalked K CW) := by
  refine D.F.ok scWalked (fun vs H Q E h => ?_) (fun cdv A outer s H vs Q E hr h => ?_)
  · obtain ⟨l, i, k, o, os, rfl, _⟩ := h
    rfl
  · refine ⟨_, pss_cons (ps_set (i := 3) scWalked.nd rfl (Or.inl rfl) (pe_hasI hI hr pass0 (pa_cons (pv 0) (pa_cons (pv 1) (pa_cons (pe_ix ix_list (pv 2) pe_int (fun _ _ => rfl)) pa_nil)))))
      (pss_cons (ps_for PassesOwn.never rfl (pi_list (pe_slice sl_list (pv 2) (po_some pe_int) po_none)) (pg_name (i := 4) scWalked.nd rfl (Or.inl rfl))
        (pss_one (ps_expr (pe_hasM hG T.clW hr pass0 (pv 3) (pa_cons (pv 4) pa_nil)))))
      (pss_one (ps_ret (pv 3)))), ?_⟩
    obtain ⟨l, i, k, o, os, rfl, tw, hl, kk⟩ := h
    refine ⟨_, rfl, _, rfl, _, rfl, l, _, _, _, rfl, rfl, hl, at_0 _ _, fun x dx nx nd ne => ?_⟩
    refine ⟨x, dx, i, k, o, rfl, upd_same, fun H1 wk kp => ⟨rfl, ?_⟩⟩
    have s1 : Same H H1 := Same.made nx nd kp
    refine ⟨_, rfl, 1, rfl, l, _, rfl, s1.seq hl, fun p np => ?_⟩
    rw [cut1]
    refine ⟨p, rfl, ⟨_, SqL.of upd_same⟩, for_list (K := K) (a := p) (xs := os.map nV) (fun n σ H' => ∃ v : Option V, σ = [some (nV i), some (nV k), some (.ref l), some (.ref x), v] ∧ WalkAt CW H' x ((os.take n).foldl wkStep (wkStart i k o)) ∧ Same H H' ∧ H' p = some (.lst (os.map nV))) ?_ ?_ ?_ ?_⟩
    · obtain ⟨dw, hw⟩ := wk
      exact ⟨none, rfl, ⟨dw, (Same.upd np) _ _ hw⟩, s1.new np, upd_same⟩
    · rintro n σ H' _ ⟨v, rfl, wk2, sm, hp⟩
      exact SqL.of hp
    · rintro n y σ H' hy ⟨v, rfl, wk2, sm, hp⟩
      rw [List.getElem?_map] at hy
      obtain ⟨b, hb, rfl⟩ : ∃ b, os[n]? = some b ∧ y = nV b := by
        cases e : os[n]? with
        | none =>
          rw [e] at hy
          cases hy
        | some b =>
          rw [e] at hy
          exact ⟨b, rfl, (Option.some.inj hy).symm⟩
      obtain ⟨dw, hw⟩ := id wk2
      refine ⟨_, rfl, x, dw, _, rfl, hw, wk_go _, _, rfl, x, _, b, rfl, wk2, wkFold_ok _ (wkStart_ok tw o), fun H2 wk3 kp2 => ?_⟩
      have px : p ≠ x := ne_of hp hw (by intro z; cases z)
      refine ⟨_, rfl, ?_, fun z u hz => kp2 z u (sm z u hz) (ne_of_none hz nx), kp2 _ _ hp px⟩
      rw [fold_next hb]
      exact wk3
    · rintro σ H' ⟨v, rfl, wk2, sm, hp⟩
      rw [List.length_map, List.take_length] at wk2
      exact ⟨_, rfl, kk H' x sm wk2⟩
end
end Tb
namespace Tb
open PySem PySem.Spec PyProof.Rows L2
/-- the error's __init__ -/
structure DefE (K : PySem.W.Frag) (CR : Addr) (st : Stmt) (ps : List Str) (f : Addr) (fd : FuncData) : Prop where
  F : Fun K "__init__" "Refused.__init__" st f fd
  i : PySem.W.findIn K (.ref CR) "__init__" = some (some (.ref f))
  t : PySem.W.typeIn K (.ref f) = some (.type "function")
  b : L2.Binds K fd ps []
def HasE (P : Program) (w : World) (K : PySem.W.Frag) (mg : Str → Option Value) (base : Heap) (k : Nat) (CR : Addr) (ps : List Str) (sp : Sp) : Prop :=
  ∃ f fd, PySem.W.findIn K (.ref CR) "__init__" = some (some (.ref f)) ∧ PySem.W.typeIn K (.ref f) = some (.type "function") ∧ L2.Binds K fd ps [] ∧ FnOk P w K mg base CX0 k f fd ps sp
/-- a refusal: a new error with its number -/
def Rfs (CR : Addr) (z : Int) (H : Hp) (E : XK) : Prop := ∀ (H1 : Hp) (d : Addr), Same H H1 → H1 d = none → E (.ref CR) (some d) (upd H1 d (.xd [(fN, .int z)]))
theorem Rfs.of {CR : Addr} {z : Int} {H H' : Hp} {E : XK} (h : Rfs CR z H E) (s : Same H H') : Rfs CR z H' E := fun H1 d s1 hd => h H1 d (s.trans s1) hd
theorem del_upd {H : Hp} {a d : Addr} {o1 o2 o3 u : HO} (ha : H a = none) : upd (del (upd (upd (upd H a o1) d o2) a o3) a) d u = upd H d u := funext fun b => by
  by_cases h1 : b = d
  · rw [h1, upd_same, upd_same]
  · rw [upd_ne h1, upd_ne h1]
    by_cases h2 : b = a
    · rw [h2, del_same, ha]
    · rw [del_ne h2, upd_ne h2, upd_ne h1, upd_ne h2]
section
variable {P : Program} {w : World} {K : PySem.W.Frag} {mg : Str → Option Value} {base : Heap} {f : Addr} {fd : FuncData} {CS CW CT CR : Addr}
/-! ### Refused.__init__, want, want_wrestlers, want_two -/
abbrev sRI : Stmt := inClass (top 39) 0
abbrev sWant : Stmt := top 40
abbrev sWantW : Stmt := top 41
abbrev sWantT : Stmt := top 42
theorem scRI : FnScope ["self", "number"] ["self", "number"] (defScope sRI) := ⟨rfl, rfl, rfl, by decide +kernel, rfl, by decide +kernel, by decide +kernel⟩
theorem scWant : FnScope ["truth", "number"] ["truth", "number"] (defScope sWant) := ⟨rfl, rfl, rfl, by decide +kernel, rfl, by decide +kernel, by decide +kernel⟩
theorem scWantW : FnScope ["some", "one"] ["some"] (defScope sWantW) := ⟨rfl, rfl, rfl, by decide +kernel, rfl, by decide +kernel, by decide +kernel⟩
theorem scWantT : FnScope ["one", "other"] ["one", "other"] (defScope sWantT) := ⟨rfl, rfl, rfl, by decide +kernel, rfl, by decide +kernel, by decide +kernel⟩
def spRI (CR : Addr) : Sp := fun vs H Q _ => ∃ (a : Addr) (y : V), vs = [.ref a, y] ∧ H a = some (exo a CR none) ∧ ∀ dx, H dx = none → dx ≠ a → Q .non (upd (upd H dx (exd dx [(fN, y)])) a (exo a CR (some dx)))
theorem ok_rInit (D : DefE K CR sRI ["self", "number"] f fd) (T : Txt K mg CS CW CT CR) : FnOk P w K mg base CX0 1 f fd ["self", "number"] (spRI CR) := by
  refine D.F.ok scRI (fun vs H Q E h => ?_) (fun cdv A outer s H vs Q E hr h => ?_)
  · obtain ⟨a, y, rfl, _⟩ := h
    rfl
  · refine ⟨_, pss_cons (ps_expr (pe_base rfl T.bExc T.exi (pa_cons (pv 0) (pa_cons pe_str pa_nil)))) (pss_one (ps_num (pv 0) (pv 1))), ?_⟩
    obtain ⟨a, y, rfl, ha, kk⟩ := h
    exact ⟨_, rfl, a, CR, _, rfl, (by show 1 ≤ 1000; decide), T.err, ha, _, rfl, _, rfl, a, CR, rfl, T.err, ha, kk⟩
theorem DefE.has (D : DefE K CR sRI ["self", "number"] f fd) (T : Txt K mg CS CW CT CR) : HasE P w K mg base 1 CR ["self", "number"] (spRI CR) := ⟨f, fd, D.i, D.t, D.b, ok_rInit D T⟩
def spWant (CR : Addr) : Sp := fun vs H Q E => ∃ (b : Bool) (z : Int), vs = [.bl b, .int z] ∧ (b = true → Q .non H) ∧ (b = false → Rfs CR z H E)
theorem ok_want (D : Def K mg "want" sWant ["truth", "number"] f fd) (T : Txt K mg CS CW CT CR) (hE : HasE P w K mg base 1 CR ["self", "number"] (spRI CR)) : FnOk P w K mg base (L2.CX P w) 3 f fd ["truth", "number"] (spWant CR) := by
  refine D.F.okX scWant (fun vs H Q E h => ?_) (fun cdv A outer s H vs Q E hr h => ?_)
  · obtain ⟨b, z, rfl, _⟩ := h
    rfl
  · obtain ⟨fI, fdI, iC, tI, bI, GI⟩ := hE
    refine ⟨_, pss_one (ps_if (pt_not (pt_val (pv 0))) (pss_one (ps_raise rfl (takes_of rfl rfl rfl rfl) (pmk_err T.err iC tI GI hr bI pass0 rfl T.gR (pa_cons (pv 1) pa_nil)))) pss_nil), ?_⟩
    obtain ⟨b, z, rfl, kT, kF⟩ := h
    refine ⟨_, rfl, _, rfl, ?_⟩
    cases b with
    | true => exact ifF rfl (kT rfl)
    | false =>
      refine ifT rfl ⟨_, rfl, (by show 1 ≤ 1000; decide), fun a ha => ⟨a, .int z, rfl, upd_same, fun dx n ne => ?_⟩⟩
      have n' : H dx = none := by
        rw [upd_ne ne] at n
        exact n
      refine ⟨rfl, dx, [(fN, .int z)], upd_same, (upd_ne ne).trans upd_same, n', ?_⟩
      rw [del_upd ha]
      exact kF rfl H dx (Same.refl _) n'
def lt3 (n : Nat) : Bool := decide (n < 3)
theorem in_three (n : Nat) : inV (nV n) [nV 0, nV 1, nV 2] = lt3 n := by
  have e : inV (nV n) [nV 0, nV 1, nV 2] = (((0 : Int) == (n : Int)) || (((1 : Int) == (n : Int)) || (((2 : Int) == (n : Int)) || false))) := rfl
  rw [e]
  unfold lt3
  match n with
  | 0 => rfl
  | 1 => rfl
  | 2 => rfl
  | n + 3 =>
    rw [decide_eq_false (by omega)]
    have h0 : ((0 : Int) == ((n + 3 : Nat) : Int)) = false := by
      refine beq_eq_false_iff_ne.mpr ?_
      omega
    have h1 : ((1 : Int) == ((n + 3 : Nat) : Int)) = false := by
      refine beq_eq_false_iff_ne.mpr ?_
      omega
    have h2 : ((2 : Int) == ((n + 3 : Nat) : Int)) = false := by
      refine beq_eq_false_iff_ne.mpr ?_
      omega
    rw [h0, h1, h2]
    rfl
theorem map_at {xs : List Nat} {n : Nat} {y : V} (h : (xs.map nV)[n]? = some y) : ∃ b, xs[n]? = some b ∧ y = nV b := by
  rw [List.getElem?_map] at h
  cases e : xs[n]? with
  | none =>
    rw [e] at h
    cases h
  | some b =>
    rw [e] at h
    exact ⟨b, rfl, (Option.some.inj h).symm⟩
def spWantW (K : PySem.W.Frag) (CR : Addr) : Sp := fun vs H Q E => ∃ (l : Addr) (ns : List Nat), vs = [.ref l] ∧ SqL K H l (ns.map nV) ∧ ns.length ≤ 1000 ∧ (ns.all lt3 = true → ∀ H', Same H H' → Q .non H') ∧ (ns.all lt3 = false → Rfs CR (-2) H E)
theorem ok_wantW (D : Def K mg "want_wrestlers" sWantW ["some"] f fd) (T : Txt K mg CS CW CT CR) (hW : Has P w K mg base (L2.CX P w) 3 "want" ["truth", "number"] (spWant CR)) : FnOk P w K mg base (L2.CX P w) 4 f fd ["some"] (spWantW K CR) := by
  refine D.F.okX scWantW (fun vs H Q E h => ?_) (fun cdv A outer s H vs Q E hr h => ?_)
  · obtain ⟨l, ns, rfl, _⟩ := h
    rfl
  · obtain ⟨aW, gW, kW⟩ := T.cWre
    refine ⟨_, pss_one (ps_expr (pe_has hW hr (passes_call (takes_of rfl rfl rfl rfl) (fun _ _ _ _ h => h)) (pa_cons (pe_callB (cr_all rfl) (by rfl) T.bAll (by decide +kernel) (pa_cons
        (pe_lc (own := [("one", 1)]) (g := gName 1) (tt := tYes) rfl scWantW.nd (pi_list (pv 0)) (blkOk_by (N := ["some", "one"]) (sc := defScope sWantW) (by decide +kernel))
          (fun _ _ _ _ _ => pg_name (i := 1) scWantW.nd rfl (Or.inl rfl)) (fun _ _ _ _ _ => pts_nil)
          (fun _ _ _ _ _ => pe_cmpR (r := rIn K false) op_in_seq (pv 1) (pgr gW) (by rfl))) pa_nil)) (pa_cons (pgi T.cNoW) pa_nil)))), ?_⟩
    obtain ⟨l, ns, rfl, hl, len, kT, kF⟩ := h
    refine ⟨_, rfl, l, rfl, ⟨_, hl⟩, fun D nD => ?_⟩
    refine lc_list (K := K) (a := l) (xs := ns.map nV) (fun n H' => H' D = some (.lst (((ns.take n).map lt3).map V.bl)) ∧ Same H H') ?_ ?_ ?_ ?_
    · exact ⟨upd_same, Same.upd nD⟩
    · rintro n H' _ ⟨hD, sm⟩
      exact sm.seq hl
    · rintro n x H' hx ⟨hD, sm⟩
      obtain ⟨b, hb, rfl⟩ := map_at hx
      refine ⟨rfl, _, rfl, aW, _, rfl, .inr (kW.at _), rfl, rfl, _, hD, ?_, ?_, sm.lst nD⟩
      · rw [List.length_map, List.length_map]
        exact Nat.lt_of_le_of_lt (Nat.le_trans (by rw [List.length_take]; exact Nat.min_le_right _ _) len) (by decide)
      · have e : (if false = true then !inV (nV b) [nV 0, nV 1, nV 2] else inV (nV b) [nV 0, nV 1, nV 2]) = lt3 b := in_three b
        rw [e, take_next hb, List.map_append, List.map_append]
        exact upd_same
    · rintro H' ⟨hD, sm⟩
      rw [List.length_map, List.take_length] at hD
      refine ⟨D, _, rfl, SqL.of hD, ?_⟩
      have e : (ns.map lt3).all id = ns.all lt3 := by
        rw [List.all_map]
        rfl
      rw [e]
      exact ⟨_, _, rfl, fun c => kT c H' sm, fun c => (kF c).of sm⟩
def spWantT (CR : Addr) : Sp := fun vs H Q E => ∃ i k : Nat, vs = [nV i, nV k] ∧ (Sj12.two i k = true → ∀ H', Same H H' → Q .non H') ∧ (Sj12.two i k = false → Rfs CR (-2) H E)
theorem ok_wantT (D : Def K mg "want_two" sWantT ["one", "other"] f fd) (T : Txt K mg CS CW CT CR) (hW : Has P w K mg base (L2.CX P w) 3 "want" ["truth", "number"] (spWant CR)) (hWW : Has P w K mg base (L2.CX P w) 4 "want_wrestlers" ["some"] (spWantW K CR)) :
    FnOk P w K mg base (L2.CX P w) 5 f fd ["one", "other"] (spWantT CR) := by
  refine D.F.okX scWantT (fun vs H Q E h => ?_) (fun cdv A outer s H vs Q E hr h => ?_)
  · obtain ⟨i, k, rfl, _⟩ := h
    rfl
  · refine ⟨_, pss_cons (ps_expr (pe_has hWW hr (passes_call (takes_of rfl rfl rfl rfl) (fun _ _ _ _ h => h)) (pa_cons (pe_lst (pa_cons (pv 0) (pa_cons (pv 1) pa_nil))) pa_nil)))
      (pss_one (ps_expr (pe_has hW (hr.mono (by decide)) (passes_call (takes_of rfl rfl rfl rfl) (fun _ _ _ _ h => h)) (pa_cons (pe_cmpR op_ne (pv 0) (pv 1) (nomark _)) (pa_cons (pgi T.cNoW) pa_nil))))), ?_⟩
    obtain ⟨i, k, rfl, kT, kF⟩ := h
    have e2 : ([i, k] : List Nat).all lt3 = (lt3 i && lt3 k) := by simp
    refine ⟨_, rfl, _, rfl, two_le, fun l nl => ⟨l, [i, k], rfl, SqL.of upd_same, (by show 2 ≤ 1000; decide), fun c H' s1 => ?_, fun c => ?_⟩⟩
    · rw [e2, Bool.and_eq_true] at c
      have sm : Same H H' := (Same.upd nl).trans s1
      refine ⟨_, rfl, _, rfl, rfl, _, _, rfl, fun c2 => kT ?_ H' sm, fun c2 => (kF ?_).of sm⟩
      · have ne : i ≠ k := fun z => by
          subst z
          rw [decide_eq_true rfl] at c2
          cases c2
        unfold Sj12.two
        have a1 : decide (i < 3) = true := c.1
        have a2 : decide (k < 3) = true := c.2
        rw [a1, a2]
        simpa using ne
      · have eq : i = k := by
          by_cases z : i = k
          · exact z
          · rw [decide_eq_false (fun y => z (nV_inj.mp y))] at c2
            cases c2
        unfold Sj12.two
        rw [eq]
        simp
    · refine (kF ?_).of (Same.upd nl)
      rw [e2] at c
      unfold Sj12.two
      have a1 : (decide (i < 3) && decide (k < 3)) = false := c
      rw [← Bool.and_assoc, a1]
      rfl
end
end Tb
namespace Tb
open PySem PySem.Spec PyProof.Rows L2
/-! ### the table in the heap -/
abbrev tabL (s : Addr) : List (Str × V) := [("strengths", .ref s)]
def TabAt (CT CS : Addr) (H : Hp) (a : Addr) (t : Sj12.Three) : Prop := ∃ dx s : Addr, H a = some (.ins CT dx (tabL s)) ∧ StrAt CS H s t
theorem TabAt.same {CT CS a : Addr} {H H' : Hp} {t : Sj12.Three} (h : TabAt CT CS H a t) (e : Same H H') : TabAt CT CS H' a t := by
  obtain ⟨dx, s, h1, h2⟩ := h
  exact ⟨dx, s, e _ _ h1, h2.same e⟩
theorem tab_lk (s : Addr) : List.lookup ("strengths" : Str) (tabL s) = some (.ref s) := lk_here
/-- a list of whole numbers -/
abbrev lI (l : List Int) : HO := .lst (l.map V.int)
/-- what is told by a call that changes nothing: the list, or the refusal -/
def Told (CR : Addr) (an : Sj12.Ans) (H : Hp) (Q : VK) (E : XK) : Prop :=
  (an.l ≠ [] → ∀ H' p, Same H H' → H p = none → H' p = some (lI (an.v :: an.l)) → Q (.ref p) H') ∧ (an.l = [] → Rfs CR an.v H E)
theorem Told.no {CR : Addr} {an : Sj12.Ans} {z : Int} {H : Hp} {Q : VK} {E : XK} (h : Told CR an H Q E) (e : an = Sj12.ok z) : Rfs CR z H E := by
  subst e
  exact h.2 rfl
theorem Told.make {CR : Addr} {an : Sj12.Ans} {v : Int} {x : Int} {l : List Int} {H Hx : Hp} {Q : VK} {E : XK} {p : Addr} (h : Told CR an H Q E) (e : an = ⟨v, x :: l⟩) (s : Same H Hx) (np : Hx p = none) : Q (.ref p) (upd Hx p (lI (v :: x :: l))) := by
  subst e
  exact h.1 (by intro z; cases z) _ p (s.new np) (s.free np) upd_same
section
variable {X : Cx} {E : XK}
theorem px (tk : Takes X (fun cls d _ H => E cls d H)) : Passes (L2.CX X.prog X.w) X E := passes_call tk fun _ _ _ _ h => h
end
section
variable {P : Program} {w : World} {K : PySem.W.Frag} {mg : Str → Option Value} {base : Heap} {f : Addr} {fd : FuncData} {CS CW CT CR : Addr}
/-! ### Table.__init__ -/
abbrev sTI : Stmt := inClass (top 43) 0
theorem scTI : FnScope ["self"] ["self"] (defScope sTI) := ⟨rfl, rfl, rfl, by decide +kernel, rfl, by decide +kernel, by decide +kernel⟩
def spTI (CT CS : Addr) : Sp := fun vs H Q _ => ∃ p dx : Addr, vs = [.ref p] ∧ H p = some (.ins CT dx []) ∧ ∀ H' : Hp, TabAt CT CS H' p Sj12.init → Keep p H H' → Q .non H'
theorem ok_tInit (D : DefI K mg CT "Table" "Table.__init__" sTI ["self"] f fd) (T : Txt K mg CS CW CT CR) (hS : HasI P w K mg base CX0 1 CS "Strengths" ["self", "zero_one", "one_two", "two_zero"] (spSI CS)) : FnOk P w K mg base CX0 3 f fd ["self"] (spTI CT CS) := by
  refine D.F.ok scTI (fun vs H Q E h => ?_) (fun cdv A outer s H vs Q E hr h => ?_)
  · obtain ⟨p, dx, rfl, _⟩ := h
    rfl
  · refine ⟨_, pss_one (ps_fld (pv 0) (pe_hasI hS hr pass0 (pa_cons (pgi T.cFif) (pa_cons (pgi T.cFif) (pa_cons (pgi T.cFif) pa_nil)))) rfl), ?_⟩
    obtain ⟨p, dx, rfl, hp, kk⟩ := h
    intro x dy nx nd ne
    refine ⟨x, dy, 50, 50, 50, rfl, upd_same, fun H1 st kp => ⟨rfl, ?_⟩⟩
    have s1 : Same H H1 := Same.made nx nd kp
    refine ⟨_, rfl, p, CT, dx, [], rfl, s1 _ _ hp, T.clT, T.nStr, (by show 0 < 1000; decide), ?_⟩
    obtain ⟨d2, q, h1, h2⟩ := st
    have n1 : x ≠ p := Ne.symm (ne_of_none hp nx)
    have n2 : q ≠ p := ne_of h2 (s1 _ _ hp) (by intro z; cases z)
    refine kk _ ⟨dx, x, upd_same, d2, q, ?_, ?_⟩ fun b o hb hn => ?_
    · rw [upd_ne n1]
      exact h1
    · rw [upd_ne n2]
      exact h2
    · rw [upd_ne hn]
      exact s1 _ _ hb
/-! ### begin -/
abbrev sBegin : Stmt := inClass (top 43) 1
theorem scBegin : FnScope ["self", "n", "number"] ["self", "n"] (defScope sBegin) := ⟨rfl, rfl, rfl, by decide +kernel, rfl, by decide +kernel, by decide +kernel⟩
def le100 (n : Nat) : Bool := decide ((n : Int) ≤ 100)
def spBegin (K : PySem.W.Frag) (CT CS CR : Addr) : Sp := fun vs H Q E => ∃ (a l : Addr) (t : Sj12.Three) (x y z : Nat), vs = [.ref a, .ref l] ∧ TabAt CT CS H a t ∧ SqL K H l [nV x, nV y, nV z] ∧
  (¬ (100 < x ∨ 100 < y ∨ 100 < z) → ∀ H' p, TabAt CT CS H' a ⟨x, y, z⟩ → Keep a H H' → H p = none → H' p = some (lI [0]) → Q (.ref p) H') ∧ ((100 < x ∨ 100 < y ∨ 100 < z) → Rfs CR (-1) H E)
theorem ok_begin (D : DefM K CT "begin" "Table.begin" sBegin ["self", "n"] f fd) (T : Txt K mg CS CW CT CR) (hW : Has P w K mg base (L2.CX P w) 3 "want" ["truth", "number"] (spWant CR))
    (hS : HasI P w K mg base CX0 1 CS "Strengths" ["self", "zero_one", "one_two", "two_zero"] (spSI CS)) : FnOk P w K mg base (L2.CX P w) 4 f fd ["self", "n"] (spBegin K CT CS CR) := by
  refine D.F.okX scBegin (fun vs H Q E h => ?_) (fun cdv A outer s H vs Q E hr h => ?_)
  · obtain ⟨a, l, t, x, y, z, rfl, _⟩ := h
    rfl
  · refine ⟨_, pss_cons (ps_expr (pe_has hW hr (px (takes_of rfl rfl rfl rfl)) (pa_cons (pe_callB (cr_all rfl) (by rfl) T.bAll (by decide +kernel) (pa_cons
        (pe_lc (own := [("number", 2)]) (g := gName 2) (tt := tYes) rfl scBegin.nd (pi_list (pv 1)) (blkOk_by (N := ["self", "n", "number"]) (sc := defScope sBegin) (by decide +kernel))
          (fun _ _ _ _ _ => pg_name (i := 2) scBegin.nd rfl (Or.inl rfl)) (fun _ _ _ _ _ => pts_nil)
          (fun _ _ _ _ _ => pe_cmpR op_le (pv 2) (pgi T.cHun) (nomark _))) pa_nil)) (pa_cons (pgi T.cBad) pa_nil))))
      (pss_cons (ps_fld (pv 0) (pe_hasI hS (hr.mono (by decide)) pass0 (pa_cons (pe_ix ix_list (pv 1) pe_int (fun _ _ => rfl)) (pa_cons (pe_ix ix_list (pv 1) pe_int (fun _ _ => rfl)) (pa_cons (pe_ix ix_list (pv 1) pe_int (fun _ _ => rfl)) pa_nil)))) rfl)
      (pss_one (ps_ret (pe_lst (pa_cons pe_int pa_nil))))), ?_⟩
    obtain ⟨a, l, t, x, y, z, rfl, ht, hl, kT, kF⟩ := h
    refine ⟨_, rfl, l, rfl, ⟨_, hl⟩, fun D nD => ?_⟩
    refine lc_list (K := K) (a := l) (xs := ([x, y, z] : List Nat).map nV) (fun n H' => H' D = some (.lst (((([x, y, z] : List Nat).take n).map le100).map V.bl)) ∧ Same H H') ?_ ?_ ?_ ?_
    · exact ⟨upd_same, Same.upd nD⟩
    · rintro n H' _ ⟨hD, sm⟩
      exact sm.seq hl
    · rintro n v H' hx ⟨hD, sm⟩
      obtain ⟨b, hb, rfl⟩ := map_at hx
      refine ⟨rfl, _, rfl, _, _, rfl, rfl, _, hD, ?_, ?_, sm.lst nD⟩
      · rw [List.length_map, List.length_map]
        exact Nat.lt_of_le_of_lt (Nat.le_trans (by rw [List.length_take]; exact Nat.min_le_right _ _) (show ([x, y, z] : List Nat).length ≤ 3 from Nat.le_refl _)) (by decide)
      · rw [take_next hb, List.map_append, List.map_append]
        exact upd_same
    · rintro H1 ⟨hD, s1⟩
      have e : (([x, y, z] : List Nat).map le100).all id = (le100 x && (le100 y && (le100 z && true))) := rfl
      have hc : (([x, y, z] : List Nat).map le100).all id = true ↔ ¬ (100 < x ∨ 100 < y ∨ 100 < z) := by
        rw [e]
        unfold le100
        simp only [Bool.and_eq_true, decide_eq_true_eq]
        constructor
        · rintro ⟨h1, h2, h3, _⟩
          omega
        · intro h
          exact ⟨by omega, by omega, by omega, trivial⟩
      refine ⟨D, ([x, y, z] : List Nat).map le100, rfl, SqL.of hD, _, _, rfl, fun c => ?_, fun c => ?_⟩
      · have nb := hc.mp c
        have hl1 := s1.seq hl
        refine ⟨_, rfl, _, _, _, _, rfl, rfl, hl1, at_0 _ _, _, rfl, _, _, _, _, rfl, rfl, hl1, atI_nat (xs := [nV x, nV y, nV z]) (j := 1) rfl, _, rfl, _, _, _, _, rfl, rfl, hl1, atI_nat (xs := [nV x, nV y, nV z]) (j := 2) rfl, fun u du nu nd ne => ?_⟩
        refine ⟨u, du, x, y, z, rfl, upd_same, fun H2 st kp => ⟨rfl, ?_⟩⟩
        have s2 : Same H1 H2 := Same.made nu nd kp
        obtain ⟨dx, s0, ha, _⟩ := ht
        have ha2 := s2 _ _ (s1 _ _ ha)
        refine ⟨_, rfl, a, CT, dx, _, rfl, ha2, T.clT, T.nStr, (by show 1 < 1000; decide), (by show 1 ≤ sizeLine; decide), fun p np => ?_⟩
        obtain ⟨d2, q, h1, h2⟩ := st
        have ep : putF "strengths" (.ref u) (tabL s0) = tabL u := put_here
        rw [ep] at np ⊢
        have n1 : u ≠ a := Ne.symm (ne_of_none (s1 _ _ ha) nu)
        have n2 : q ≠ a := ne_of h2 ha2 (by intro z; cases z)
        have sp : Same (upd H2 a (.ins CT dx (tabL u))) (upd (upd H2 a (.ins CT dx (tabL u))) p (lI [0])) := Same.upd np
        refine kT nb _ p (TabAt.same ⟨dx, u, upd_same, d2, q, ?_, ?_⟩ sp) (fun b o hb hn => sp _ _ ?_) ?_ upd_same
        · rw [upd_ne n1]
          exact h1
        · rw [upd_ne n2]
          exact h2
        · rw [upd_ne hn]
          exact s2 _ _ (s1 _ _ hb)
        · have pa : p ≠ a := fun z => by
            rw [z, upd_same] at np
            cases np
          rw [upd_ne pa] at np
          exact (s1.trans s2).free np
      · refine (kF ?_).of s1
        by_cases b : 100 < x ∨ 100 < y ∨ 100 < z
        · exact b
        · rw [hc.mpr b] at c
          cases c
/-! ### want_end -/
abbrev sEnd : Stmt := inClass (top 43) 2
theorem scEnd : FnScope ["self", "one", "other"] ["self", "one", "other"] (defScope sEnd) := ⟨rfl, rfl, rfl, by decide +kernel, rfl, by decide +kernel, by decide +kernel⟩
def spEnd (CT CS CR : Addr) : Sp := fun vs H Q E => ∃ (a : Addr) (t : Sj12.Three) (i k : Nat), vs = [.ref a, nV i, nV k] ∧ TabAt CT CS H a t ∧ Good t ∧ Two i k ∧ (mayF t i k = false → ∀ H', Same H H' → Q .non H') ∧ (mayF t i k = true → Rfs CR (-6) H E)
theorem ok_end (D : DefM K CT "want_end" "Table.want_end" sEnd ["self", "one", "other"] f fd) (T : Txt K mg CS CW CT CR) (hW : Has P w K mg base (L2.CX P w) 3 "want" ["truth", "number"] (spWant CR)) (hm : Has P w K mg base CX0 7 "may_go_round" ["strengths", "one", "other"] (spMay CS)) :
    FnOk P w K mg base (L2.CX P w) 8 f fd ["self", "one", "other"] (spEnd CT CS CR) := by
  refine D.F.okX scEnd (fun vs H Q E h => ?_) (fun cdv A outer s H vs Q E hr h => ?_)
  · obtain ⟨a, t, i, k, rfl, _⟩ := h
    rfl
  · refine ⟨_, pss_one (ps_expr (pe_has hW (hr.mono (by decide)) (px (takes_of rfl rfl rfl rfl)) (pa_cons (pe_not (pe_has hm hr pass0 (pa_cons (pe_fld (pv 0) rfl) (pa_cons (pv 1) (pa_cons (pv 2) pa_nil))))) (pa_cons (pgi T.cFor) pa_nil)))), ?_⟩
    obtain ⟨a, t, i, k, rfl, ⟨dx, s0, ha, hs⟩, g, tw, kT, kF⟩ := h
    refine ⟨_, rfl, a, CT, dx, _, _, rfl, ha, T.clT, T.nStr, tab_lk s0, _, rfl, _, rfl, s0, t, i, k, rfl, hs, g, tw, fun H1 s1 => ⟨_, rfl, _, _, rfl, fun c => ?_, fun c => ?_⟩⟩
    · exact kT (by simpa using c) H1 s1
    · exact (kF (by simpa using c)).of s1
/-! ### odds, long -/
abbrev sOdds : Stmt := inClass (top 43) 3
abbrev sLongM : Stmt := inClass (top 43) 4
theorem scOdds : FnScope ["self", "one", "other", "wrestler"] ["self", "one", "other", "wrestler"] (defScope sOdds) := ⟨rfl, rfl, rfl, by decide +kernel, rfl, by decide +kernel, by decide +kernel⟩
theorem scLongM : FnScope ["self", "one", "other"] ["self", "one", "other"] (defScope sLongM) := ⟨rfl, rfl, rfl, by decide +kernel, rfl, by decide +kernel, by decide +kernel⟩
theorem two_iff {i k : Nat} : Sj12.two i k = true ↔ Two i k := by
  unfold Sj12.two Two
  simp
theorem odds_no {t : Sj12.Three} {i k x : Nat} (h : Sj12.two i k = false ∨ 3 ≤ x) : (Sj12.step t (.odds i k x)).2 = Sj12.ok (-2) := by
  show (if Sj12.two i k = false ∨ 3 ≤ x then (t, Sj12.ok (-2)) else (t, Sj12.told (t.odds i k x))).2 = _
  rw [if_pos h]
theorem long_no {t : Sj12.Three} {i k : Nat} (h : Sj12.two i k = false) : (Sj12.step t (.long i k)).2 = Sj12.ok (-2) := by
  show (if Sj12.two i k = false then (t, Sj12.ok (-2)) else (t, Sj12.told (t.long i k))).2 = _
  rw [if_pos h]
theorem tab_end (s : Addr) : List.lookup ("want_end" : Str) (tabL s) = none := (lk_past (by decide +kernel)).trans rfl
def spOdds (CT CS CR : Addr) : Sp := fun vs H Q E => ∃ (a : Addr) (t : Sj12.Three) (i k x : Nat), vs = [.ref a, nV i, nV k, nV x] ∧ TabAt CT CS H a t ∧ Good t ∧ Told CR (Sj12.step t (.odds i k x)).2 H Q E
theorem ok_odd (D : DefM K CT "odds" "Table.odds" sOdds ["self", "one", "other", "wrestler"] f fd) (T : Txt K mg CS CW CT CR) (hT : Has P w K mg base (L2.CX P w) 5 "want_two" ["one", "other"] (spWantT CR)) (hWW : Has P w K mg base (L2.CX P w) 4 "want_wrestlers" ["some"] (spWantW K CR))
    (hE : HasM P w K mg base (L2.CX P w) 8 CT "want_end" ["self", "one", "other"] (spEnd CT CS CR)) (hl : Has P w K mg base CX0 7 "likely" ["strengths", "one", "other", "wrestler"] (spLikely K CS)) :
    FnOk P w K mg base (L2.CX P w) 9 f fd ["self", "one", "other", "wrestler"] (spOdds CT CS CR) := by
  refine D.F.okX scOdds (fun vs H Q E h => ?_) (fun cdv A outer s H vs Q E hr h => ?_)
  · obtain ⟨a, t, i, k, x, rfl, _⟩ := h
    rfl
  · refine ⟨_, pss_cons (ps_expr (pe_has hT (hr.mono (by decide)) (px (takes_of rfl rfl rfl rfl)) (pa_cons (pv 1) (pa_cons (pv 2) pa_nil))))
      (pss_cons (ps_expr (pe_has hWW (hr.mono (by decide)) (px (takes_of rfl rfl rfl rfl)) (pa_cons (pe_lst (pa_cons (pv 3) pa_nil)) pa_nil)))
      (pss_cons (ps_expr (pe_hasM hE T.clT hr (px (takes_of rfl rfl rfl rfl)) (pv 0) (pa_cons (pv 1) (pa_cons (pv 2) pa_nil))))
      (pss_one (ps_ret (pe_op op_cat (pe_lst (pa_cons pe_int pa_nil)) (pe_callTy call_list_of (by rfl) T.bList (by decide +kernel) (pa_cons (pe_has hl (hr.mono (by decide)) pass0 (pa_cons (pe_fld (pv 0) rfl) (pa_cons (pv 1) (pa_cons (pv 2) (pa_cons (pv 3) pa_nil))))) pa_nil))))))), ?_⟩
    obtain ⟨a, t, i, k, x, rfl, ht, g, told⟩ := h
    refine ⟨_, rfl, _, rfl, i, k, rfl, fun c H1 s1 => ?_, fun c => told.no (odds_no (.inl c))⟩
    refine ⟨_, rfl, (by show 1 ≤ sizeLine; decide), fun l nl => ⟨l, [x], rfl, SqL.of upd_same, (by show 1 ≤ 1000; decide), fun c2 H2 s2 => ?_, fun c2 => ?_⟩⟩
    · have tw := two_iff.mp c
      have x3 : x < 3 := by
        have c3 : (lt3 x && true) = true := c2
        rw [Bool.and_true] at c3
        exact of_decide_eq_true c3
      have nn : ¬ (Sj12.two i k = false ∨ 3 ≤ x) := fun z => by
        rcases z with z | z
        · rw [c] at z
          cases z
        · omega
      have stp : (Sj12.step t (.odds i k x)).2 = Sj12.told (t.odds i k x) := by
        show (if Sj12.two i k = false ∨ 3 ≤ x then (t, Sj12.ok (-2)) else (t, Sj12.told (t.odds i k x))).2 = _
        rw [if_neg nn]
      have s12 : Same H H2 := s1.trans ((Same.upd nl).trans s2)
      obtain ⟨dx, s0, ha, hs⟩ := id (ht.same s12)
      refine ⟨_, rfl, a, dx, _, rfl, ha, tab_end s0, _, rfl, _, rfl, a, t, i, k, rfl, ht.same s12, g, tw, fun m H3 s3 => ?_, fun m => ?_⟩
      · refine ⟨(by show 1 ≤ sizeLine; decide), fun p np => ?_⟩
        have s3' : Same H2 (upd H3 p (lI [0])) := s3.new np
        refine ⟨_, rfl, a, CT, dx, _, _, rfl, s3' _ _ ha, T.clT, T.nStr, tab_lk s0, _, rfl, _, rfl, _, rfl, s0, t, i, k, x, rfl, hs.same s3', g, tw, m, fun H4 r s4 isr => ?_⟩
        refine ⟨r, _, rfl, .inr isr, fun q nq => ?_⟩
        refine ⟨p, q, _, _, rfl, rfl, (s4.new nq) _ _ upd_same, upd_same, (by show 1 + 2 ≤ sizeLine; decide), fun z nz => ?_⟩
        have e1 : (Sj12.step t (.odds i k x)).2 = ⟨0, Sj12.ints [(oddsF t i k x).n, (oddsF t i k x).d]⟩ := by
          rw [stp, (may_some g tw x3 m).1]
          rfl
        exact told.make e1 (s12.trans (s3'.trans (s4.new nq))) nz
      · refine (told.no (z := -6) ?_).of s12
        rw [stp, (may_none g tw x m).1]
        rfl
    · refine (told.no (z := -2) ?_).of (s1.trans (Same.upd nl))
      have x3 : 3 ≤ x := by
        have c3 : (lt3 x && true) = false := c2
        rw [Bool.and_true] at c3
        have := of_decide_eq_false c3
        omega
      exact odds_no (.inr x3)
def spLongM (CT CS CR : Addr) : Sp := fun vs H Q E => ∃ (a : Addr) (t : Sj12.Three) (i k : Nat), vs = [.ref a, nV i, nV k] ∧ TabAt CT CS H a t ∧ Good t ∧ Told CR (Sj12.step t (.long i k)).2 H Q E
theorem ok_longM (D : DefM K CT "long" "Table.long" sLongM ["self", "one", "other"] f fd) (T : Txt K mg CS CW CT CR) (hT : Has P w K mg base (L2.CX P w) 5 "want_two" ["one", "other"] (spWantT CR))
    (hE : HasM P w K mg base (L2.CX P w) 8 CT "want_end" ["self", "one", "other"] (spEnd CT CS CR)) (hl : Has P w K mg base CX0 7 "how_long" ["strengths", "one", "other"] (spHow K CS)) :
    FnOk P w K mg base (L2.CX P w) 9 f fd ["self", "one", "other"] (spLongM CT CS CR) := by
  refine D.F.okX scLongM (fun vs H Q E h => ?_) (fun cdv A outer s H vs Q E hr h => ?_)
  · obtain ⟨a, t, i, k, rfl, _⟩ := h
    rfl
  · refine ⟨_, pss_cons (ps_expr (pe_has hT (hr.mono (by decide)) (px (takes_of rfl rfl rfl rfl)) (pa_cons (pv 1) (pa_cons (pv 2) pa_nil))))
      (pss_cons (ps_expr (pe_hasM hE T.clT hr (px (takes_of rfl rfl rfl rfl)) (pv 0) (pa_cons (pv 1) (pa_cons (pv 2) pa_nil))))
      (pss_one (ps_ret (pe_op op_cat (pe_lst (pa_cons pe_int pa_nil)) (pe_callTy call_list_of (by rfl) T.bList (by decide +kernel) (pa_cons (pe_has hl (hr.mono (by decide)) pass0 (pa_cons (pe_fld (pv 0) rfl) (pa_cons (pv 1) (pa_cons (pv 2) pa_nil)))) pa_nil)))))), ?_⟩
    obtain ⟨a, t, i, k, rfl, ht, g, told⟩ := h
    refine ⟨_, rfl, _, rfl, i, k, rfl, fun c H2 s12 => ?_, fun c => told.no (long_no c)⟩
    have tw := two_iff.mp c
    have stp : (Sj12.step t (.long i k)).2 = Sj12.told (t.long i k) := by
      show (if Sj12.two i k = false then (t, Sj12.ok (-2)) else (t, Sj12.told (t.long i k))).2 = _
      rw [if_neg (by rw [c]; intro z; cases z)]
    obtain ⟨dx, s0, ha, hs⟩ := id (ht.same s12)
    refine ⟨_, rfl, a, dx, _, rfl, ha, tab_end s0, _, rfl, _, rfl, a, t, i, k, rfl, ht.same s12, g, tw, fun m H3 s3 => ?_, fun m => ?_⟩
    · refine ⟨(by show 1 ≤ sizeLine; decide), fun p np => ?_⟩
      have s3' : Same H2 (upd H3 p (lI [0])) := s3.new np
      refine ⟨_, rfl, a, CT, dx, _, _, rfl, s3' _ _ ha, T.clT, T.nStr, tab_lk s0, _, rfl, _, rfl, s0, t, i, k, rfl, hs.same s3', g, tw, m, fun H4 r s4 isr => ?_⟩
      refine ⟨r, _, rfl, .inr isr, fun q nq => ?_⟩
      refine ⟨p, q, _, _, rfl, rfl, (s4.new nq) _ _ upd_same, upd_same, (by show 1 + 2 ≤ sizeLine; decide), fun z nz => ?_⟩
      have e1 : (Sj12.step t (.long i k)).2 = ⟨0, Sj12.ints [(lastF t i k).n, (lastF t i k).d]⟩ := by
        rw [stp, (may_some g tw (x := 0) (by decide) m).2]
        rfl
      exact told.make e1 (s12.trans (s3'.trans (s4.new nq))) nz
    · refine (told.no (z := -6) ?_).of s12
      rw [stp, (may_none g tw 0 m).2]
      rfl
end
end Tb
namespace Tb
open PySem PySem.Spec PyProof.Rows L2
/-! ### what check tells -/
theorem wait_no {t : Sj12.Three} {x : Nat} (h : 3 ≤ x) : (Sj12.step t (.wait x)).2 = Sj12.ok (-2) := by
  show (if 3 ≤ x then (t, Sj12.ok (-2)) else (t, match t.wait x with
    | none => Sj12.ok (-6)
    | some y => ⟨(y.1 : Nat), Sj12.ints [y.2.n, y.2.d]⟩)).2 = _
  rw [if_pos h]
theorem wait_yes {t : Sj12.Three} {x : Nat} (h : x < 3) : (Sj12.step t (.wait x)).2 = match t.wait x with
    | none => Sj12.ok (-6)
    | some y => ⟨(y.1 : Nat), Sj12.ints [y.2.n, y.2.d]⟩ := by
  show (if 3 ≤ x then (t, Sj12.ok (-2)) else (t, match t.wait x with
    | none => Sj12.ok (-6)
    | some y => ⟨(y.1 : Nat), Sj12.ints [y.2.n, y.2.d]⟩)).2 = _
  rw [if_neg (by omega)]
def lt2 (n : Nat) : Bool := decide (n < 2)
theorem in_two (n : Nat) : inV (nV n) [nV 0, nV 1] = lt2 n := by
  have e : inV (nV n) [nV 0, nV 1] = (((0 : Int) == (n : Int)) || (((1 : Int) == (n : Int)) || false)) := rfl
  rw [e]
  unfold lt2
  match n with
  | 0 => rfl
  | 1 => rfl
  | n + 2 =>
    rw [decide_eq_false (by omega)]
    have h0 : ((0 : Int) == ((n + 2 : Nat) : Int)) = false := by
      refine beq_eq_false_iff_ne.mpr ?_
      omega
    have h1 : ((1 : Int) == ((n + 2 : Nat) : Int)) = false := by
      refine beq_eq_false_iff_ne.mpr ?_
      omega
    rw [h0, h1]
    rfl
abbrev bad (os : List Nat) : Prop := os = [] ∨ (os.all fun x => decide (x < 2)) = false
theorem check_no1 {t : Sj12.Three} {i k : Nat} {os : List Nat} (h : Sj12.two i k = false) : (Sj12.step t (.check i k os)).2 = Sj12.ok (-2) := by
  show (if Sj12.two i k = false then (t, Sj12.ok (-2)) else if bad os then (t, Sj12.ok (-1)) else _).2 = _
  rw [if_pos h]
theorem check_no2 {t : Sj12.Three} {i k : Nat} {os : List Nat} (h : Sj12.two i k = true) (b : bad os) : (Sj12.step t (.check i k os)).2 = Sj12.ok (-1) := by
  show (if Sj12.two i k = false then (t, Sj12.ok (-2)) else if bad os then (t, Sj12.ok (-1)) else _).2 = _
  rw [if_neg (by rw [h]; intro z; cases z), if_pos b]
theorem check_yes {t : Sj12.Three} {i k o : Nat} {os : List Nat} (h : Sj12.two i k = true) (b : ¬ bad (o :: os)) :
    (Sj12.step t (.check i k (o :: os))).2 = ⟨((os.foldl wkStep (wkStart i k o)).2.2.2 : Nat), Sj12.ints [(os.foldl wkStep (wkStart i k o)).2.2.1, (os.foldl wkStep (wkStart i k o)).1, (os.foldl wkStep (wkStart i k o)).2.1]⟩ := by
  show (if Sj12.two i k = false then (t, Sj12.ok (-2)) else if bad (o :: os) then (t, Sj12.ok (-1)) else (t, let p := if o = 1 then Sj12.plays 1 i k os else Sj12.plays 1 k i os
    ⟨if p.2 = true then (p.1.2.1 : Nat) else 3, Sj12.ints [p.1.1, p.1.2.1, p.1.2.2]⟩)).2 = _
  rw [if_neg (by rw [h]; intro z; cases z), if_neg b]
  have tw := two_iff.mp h
  have key : ∀ (a c : Nat), Two a c → (⟨if (Sj12.plays 1 a c os).2 = true then ((Sj12.plays 1 a c os).1.2.1 : Nat) else 3, Sj12.ints [(Sj12.plays 1 a c os).1.1, (Sj12.plays 1 a c os).1.2.1, (Sj12.plays 1 a c os).1.2.2]⟩ : Sj12.Ans) =
      ⟨((os.foldl wkStep (a, c, 1, 3)).2.2.2 : Nat), Sj12.ints [(os.foldl wkStep (a, c, 1, 3)).2.2.1, (os.foldl wkStep (a, c, 1, 3)).1, (os.foldl wkStep (a, c, 1, 3)).2.1]⟩ := by
    intro a c hac
    rw [wk_plays os 1 a c hac]
    dsimp only
    split <;> rfl
  by_cases c : o = 1
  · have e : wkStart i k o = (i, k, 1, 3) := if_pos c
    rw [e, ← key i k tw, if_pos c]
  · have e : wkStart i k o = (k, i, 1, 3) := if_neg c
    rw [e, ← key k i tw.swap, if_neg c]
/-! ### two lists of numbers, one of them empty -/
def dL (l : List Nat) : PyData := .list (l.map fun (n : Nat) => PyData.int (n : Int))
theorem dL_lay : ∀ l : List Nat, PyData.canLayAll0 (l.map fun (n : Nat) => PyData.int (n : Int)) = true
  | [] => rfl
  | n :: l => by
    have ih := dL_lay l
    show (PyData.canLay0 (.int (n : Int)) && PyData.canLayAll0 (l.map fun (n : Nat) => PyData.int (n : Int))) = true
    rw [ih]
    rfl
theorem dL_deep : ∀ l : List Nat, PyData.depthAll (l.map fun (n : Nat) => PyData.int (n : Int)) ≤ 1
  | [] => by decide
  | n :: l => by
    have ih := dL_deep l
    simp only [List.map_cons, PyData.depthAll, PyData.depth]
    omega
theorem dL_at {K : PySem.W.Frag} {H : Hp} {a : Addr} {l : List Nat} (h : SqL K H a (l.map nV)) : Dp K H (.ref a) (dL l) := by
  refine .lst h ?_
  clear h
  induction l with
  | nil => exact .nil
  | cons n l ih => exact .cons (.int _) ih
theorem dL_eqv (l : List Nat) : PyData.eqv (dL l) (.list []) = decide (l = []) := by
  cases l with
  | nil => rfl
  | cons n l => rfl
theorem dL_shaped (l : List Nat) : SeqAt.shaped (dL l) = true := by
  have h := dL_deep l
  have e : PyData.depth (dL l) ≤ 64 := by
    show PyData.depthAll (l.map fun (n : Nat) => PyData.int (n : Int)) + 1 ≤ 64
    omega
  unfold SeqAt.shaped
  rw [Bool.and_eq_true]
  exact ⟨dL_lay l, decide_eq_true e⟩
section
variable {P : Program} {w : World} {K : PySem.W.Frag} {mg : Str → Option Value} {base : Heap} {f : Addr} {fd : FuncData} {CS CW CT CR : Addr}
/-! ### wait -/
abbrev sWait : Stmt := inClass (top 43) 5
theorem scWait : FnScope ["self", "wrestler", "found"] ["self", "wrestler"] (defScope sWait) := ⟨rfl, rfl, rfl, by decide +kernel, rfl, by decide +kernel, by decide +kernel⟩
def spWait (CT CS CR : Addr) : Sp := fun vs H Q E => ∃ (a : Addr) (t : Sj12.Three) (x : Nat), vs = [.ref a, nV x] ∧ TabAt CT CS H a t ∧ Good t ∧ Told CR (Sj12.step t (.wait x)).2 H Q E
theorem ok_wait (D : DefM K CT "wait" "Table.wait" sWait ["self", "wrestler"] f fd) (T : Txt K mg CS CW CT CR) (hW : Has P w K mg base (L2.CX P w) 3 "want" ["truth", "number"] (spWant CR)) (hWW : Has P w K mg base (L2.CX P w) 4 "want_wrestlers" ["some"] (spWantW K CR))
    (hb : Has P w K mg base CX0 8 "best_wait" ["strengths", "wrestler"] (spBest K CS)) : FnOk P w K mg base (L2.CX P w) 9 f fd ["self", "wrestler"] (spWait CT CS CR) := by
  refine D.F.okX scWait (fun vs H Q E h => ?_) (fun cdv A outer s H vs Q E hr h => ?_)
  · obtain ⟨a, t, x, rfl, _⟩ := h
    rfl
  · refine ⟨_, pss_cons (ps_expr (pe_has hWW (hr.mono (by decide)) (px (takes_of rfl rfl rfl rfl)) (pa_cons (pe_lst (pa_cons (pv 1) pa_nil)) pa_nil)))
      (pss_cons (ps_set (i := 2) scWait.nd rfl (Or.inl rfl) (pe_has hb hr pass0 (pa_cons (pe_fld (pv 0) rfl) (pa_cons (pv 1) pa_nil))))
      (pss_cons (ps_expr (pe_has hW (hr.mono (by decide)) (px (takes_of rfl rfl rfl rfl)) (pa_cons (pe_cmp (pc_notN (pv 2)) rfl) (pa_cons (pgi T.cFor) pa_nil))))
      (pss_one (ps_ret (pe_op op_cat (pe_lst (pa_cons (pe_ix ix_tup (pv 2) pe_int (fun _ _ => rfl)) pa_nil)) (pe_callTy call_list_of (by rfl) T.bList (by decide +kernel) (pa_cons (pe_ix ix_tup (pv 2) pe_int (fun _ _ => rfl)) pa_nil))))))), ?_⟩
    obtain ⟨a, t, x, rfl, ht, g, told⟩ := h
    refine ⟨_, rfl, (by show 1 ≤ sizeLine; decide), fun l nl => ⟨l, [x], rfl, SqL.of upd_same, (by show 1 ≤ 1000; decide), fun c H1 s1 => ?_, fun c => ?_⟩⟩
    · have x3 : x < 3 := by
        have c3 : (lt3 x && true) = true := c
        rw [Bool.and_true] at c3
        exact of_decide_eq_true c3
      have stp := wait_yes (t := t) x3
      rw [best_is g x3] at stp
      have s01 : Same H H1 := (Same.upd nl).trans s1
      obtain ⟨dx, s0, ha, hs⟩ := id (ht.same s01)
      refine ⟨_, rfl, a, CT, dx, _, _, rfl, ha, T.clT, T.nStr, tab_lk s0, _, rfl, s0, t, x, rfl, hs, g, fun H2 v s2 isb => ?_⟩
      have s02 := s01.trans s2
      cases e : bestF t x with
      | none =>
        rw [e] at isb stp
        have ev : v = .non := isb
        refine ⟨_, rfl, _, _, rfl, fun c2 => ?_, fun c2 => (told.no (z := -6) stp).of s02⟩
        rw [ev, decide_eq_true rfl] at c2
        cases c2
      | some z =>
        rw [e] at isb stp
        obtain ⟨q, r, ev, hq, hr2⟩ := isb
        subst ev
        refine ⟨_, rfl, _, _, rfl, fun c2 => ?_, fun c2 => ?_⟩
        · refine ⟨_, rfl, q, _, _, _, rfl, rfl, hq, at_0 _ _, (by show 1 ≤ sizeLine; decide), fun p np => ?_⟩
          have sp := Same.upd (o := .lst [nV z.1]) np
          refine ⟨_, rfl, q, _, _, _, rfl, rfl, sp.tup hq, atI_nat (xs := [nV z.1, .ref r]) (j := 1) rfl, r, _, rfl, .inr (sp.tup hr2), fun p2 np2 => ?_⟩
          refine ⟨p, p2, _, _, rfl, rfl, (Same.upd np2) _ _ upd_same, upd_same, (by show 1 + 2 ≤ sizeLine; decide), fun p3 np3 => ?_⟩
          exact told.make stp (s02.trans (sp.trans (Same.upd np2))) np3
        · rw [decide_eq_false (by intro z; cases z)] at c2
          cases c2
    · have x3 : 3 ≤ x := by
        have c3 : (lt3 x && true) = false := c
        rw [Bool.and_true] at c3
        have := of_decide_eq_false c3
        omega
      exact (told.no (wait_no x3)).of (Same.upd nl)
/-! ### check -/
abbrev sCheck : Stmt := inClass (top 43) 6
abbrev nCheck : List Str := ["self", "one", "other", "bouts", "walk", "bout"]
theorem scCheck : FnScope nCheck ["self", "one", "other", "bouts"] (defScope sCheck) := ⟨rfl, rfl, rfl, by decide +kernel, rfl, by decide +kernel, by decide +kernel⟩
def spCheck (K : PySem.W.Frag) (CR : Addr) : Sp := fun vs H Q E => ∃ (a l : Addr) (t : Sj12.Three) (i k : Nat) (os : List Nat), vs = [.ref a, nV i, nV k, .ref l] ∧ SqL K H l (os.map nV) ∧ os.length ≤ 1000 ∧ Told CR (Sj12.step t (.check i k os)).2 H Q E
theorem ok_check (D : DefM K CT "check" "Table.check" sCheck ["self", "one", "other", "bouts"] f fd) (T : Txt K mg CS CW CT CR) (hT : Has P w K mg base (L2.CX P w) 5 "want_two" ["one", "other"] (spWantT CR)) (hW : Has P w K mg base (L2.CX P w) 3 "want" ["truth", "number"] (spWant CR))
    (hw : Has P w K mg base CX0 3 "walked" ["one", "other", "bouts"] (spWalked K CW)) : FnOk P w K mg base (L2.CX P w) 6 f fd ["self", "one", "other", "bouts"] (spCheck K CR) := by
  refine D.F.okX scCheck (fun vs H Q E h => ?_) (fun cdv A outer s H vs Q E hr h => ?_)
  · obtain ⟨a, l, t, i, k, os, rfl, _⟩ := h
    rfl
  · refine ⟨_, pss_cons (ps_expr (pe_has hT hr (px (takes_of rfl rfl rfl rfl)) (pa_cons (pv 1) (pa_cons (pv 2) pa_nil))))
      (pss_cons (ps_expr (pe_has hW (hr.mono (by decide)) (px (takes_of rfl rfl rfl rfl)) (pa_cons (pe_and (pe_cmpR (op_neD hr.units) (pv 3) (pe_lst pa_nil) (nomark _)) (pe_one (pe_callB (cr_all rfl) (by rfl) T.bAll (by decide +kernel) (pa_cons
        (pe_lc (own := [("bout", 5)]) (g := gName 5) (tt := tYes) rfl scCheck.nd (pi_list (pv 3)) (blkOk_by (N := nCheck) (sc := defScope sCheck) (by decide +kernel))
          (fun _ _ _ _ _ => pg_name (i := 5) scCheck.nd rfl (Or.inl rfl)) (fun _ _ _ _ _ => pts_nil)
          (fun _ _ _ _ _ => pe_cmpR (r := rIn K false) op_in_seq (pv 5) (pe_tup (pa_cons pe_int (pa_cons pe_int pa_nil))) (by rfl))) pa_nil)))) (pa_cons (pgi T.cBad) pa_nil))))
      (pss_cons (ps_set (i := 4) scCheck.nd rfl (Or.inl rfl) (pe_has hw (hr.mono (by decide)) pass0 (pa_cons (pv 1) (pa_cons (pv 2) (pa_cons (pv 3) pa_nil)))))
      (pss_one (ps_ret (pe_lst (pa_cons (pe_fld (pv 4) rfl) (pa_cons (pe_fld (pv 4) rfl) (pa_cons (pe_fld (pv 4) rfl) (pa_cons (pe_fld (pv 4) rfl) pa_nil))))))))), ?_⟩
    obtain ⟨a, l, t, i, k, os, rfl, hl, len, told⟩ := h
    refine ⟨_, rfl, _, rfl, i, k, rfl, fun c H1 s1 => ?_, fun c => told.no (check_no1 c)⟩
    have tw := two_iff.mp c
    refine ⟨_, rfl, (by show 0 ≤ sizeLine; decide), fun e ne => ?_⟩
    have s2 : Same H (upd H1 e (.lst [])) := s1.new ne
    refine ⟨dL os, .list [], dL_at (s2.seq hl), .lst (SqL.of upd_same) .nil, dL_shaped os, rfl, _, rfl, ?_⟩
    rw [dL_eqv]
    cases os with
    | nil =>
      refine ifF rfl ⟨_, _, rfl, (fun z => nomatch z), (fun _ => (told.no (check_no2 c (.inl rfl))).of s2)⟩
    | cons o os =>
      refine ifT rfl ?_
      refine ⟨_, rfl, l, rfl, ⟨_, s2.seq hl⟩, fun D nD => ?_⟩
      generalize upd H1 e (.lst []) = H2 at s2 nD
      refine lc_list (K := K) (a := l) (xs := (o :: os).map nV) (fun n H' => H' D = some (.lst ((((o :: os).take n).map lt2).map V.bl)) ∧ Same H2 H') ?_ ?_ ?_ ?_
      · exact ⟨upd_same, Same.upd nD⟩
      · rintro n H' _ ⟨hD, sm⟩
        exact (s2.trans sm).seq hl
      · rintro n v H' hx ⟨hD, sm⟩
        obtain ⟨b, hb, rfl⟩ := map_at hx
        refine ⟨rfl, _, rfl, two_le, fun q nq => ⟨q, _, rfl, .inr (SqT.of upd_same), rfl, rfl, _, (Same.upd nq) _ _ hD, ?_, ?_, (sm.new nq).lst nD⟩⟩
        · rw [List.length_map, List.length_map]
          exact Nat.lt_of_le_of_lt (Nat.le_trans (by rw [List.length_take]; exact Nat.min_le_right _ _) len) (by decide)
        · have e : (if false = true then !inV (nV b) [nV 0, nV 1] else inV (nV b) [nV 0, nV 1]) = lt2 b := in_two b
          show upd _ D (.lst (_ ++ [V.bl (if false = true then !inV (nV b) [nV 0, nV 1] else inV (nV b) [nV 0, nV 1])])) D = _
          rw [e, take_next hb, List.map_append, List.map_append]
          exact upd_same
      · rintro H3 ⟨hD, s3⟩
        rw [List.length_map, List.take_length] at hD
        have s03 := s2.trans s3
        refine ⟨D, _, rfl, SqL.of hD, ?_⟩
        have e : ((o :: os).map lt2).all id = (o :: os).all fun x => decide (x < 2) := by
          rw [List.all_map]
          rfl
        rw [e]
        refine ⟨_, _, rfl, fun c2 => ?_, fun c2 => (told.no (check_no2 c (.inr c2))).of s03⟩
        have nb : ¬ bad (o :: os) := fun z => by
          rcases z with z | z
          · cases z
          · rw [c2] at z
            cases z
        refine ⟨_, rfl, _, rfl, _, rfl, l, i, k, o, os, rfl, tw, s03.seq hl, fun H4 p s4 wk => ?_⟩
        obtain ⟨dx, hp⟩ := wk
        refine ⟨_, rfl, p, CW, dx, _, _, rfl, hp, T.clW, T.nCha, wk_cha _, _, rfl, p, CW, dx, _, _, rfl, hp, T.clW, T.nMan, wk_man _, _, rfl, p, CW, dx, _, _, rfl, hp, T.clW, T.nWin, wk_win _, _, rfl, p, CW, dx, _, _, rfl, hp, T.clW, T.nLos, wk_los _, (by show 4 ≤ sizeLine; decide), fun r nr => ?_⟩
        exact told.make (check_yes c nb) (s03.trans s4) nr
end
end Tb
namespace Tb
open PySem PySem.Spec PyProof.Rows L2
/-! ### a method's call within a try -/
/-- o.m(e, ..) within a try: what it raises is wished for at the slots as they stand -/
def tMethS (C : Addr) (m : Str) (sp : Sp) (E : L2.St → XK) (ta : TE) (t : TA) : TE := fun σ H Q => ta σ H fun x H1 => ∃ a dx fs, x = .ref a ∧ H1 a = some (.ins C dx fs) ∧ fs.lookup m = none ∧ t σ H1 fun vs H2 => sp (x :: vs) H2 Q (E σ)
theorem pe_methS {X : Cx} {CX : CXT} {k : Nat} {f C : Addr} {fd : FuncData} {ps : List Str} {sp : Sp} {E : L2.St → XK} {m : Str} {pos apos : Pos} {e o : Expr} {es : List Expr} {ta : TE} {t : TA} {pl : Sem Bool} (he : PE X o ta) (c : Cls X.K C) (hm : Meth X.K C m f)
    (F : FnOk X.prog X.w X.K X.mg X.base CX k f fd ps sp) (hr : Room k X.A) (hb : L2.Binds X.K fd ps []) (hx : ∀ σ, PassesAt CX X σ (E σ)) (ha : PA X (e :: es) t)
    (hst : starEach (e :: es) X.env = (false, eval e X.env) :: starEach es X.env := by rfl) (hpl : (backTo pos (starEach es X.env)).any (·.1) = false := by rfl)
    (ht : eval (.Call (.Attribute o m apos) (e :: es) [] pos) X.env = (do
      let ov ← eval o X.env
      standAt apos.atName
      let (f, first) ← holding [ov] (getMethod ov m pl)
      callWith pos f first (backTo pos (starEach (e :: es) X.env)) (backToKw pos (keywordEach [] X.env))) := by rfl) :
    PE X (.Call (.Attribute o m apos) (e :: es) [] pos) (tMethS C m sp E ta t) := by
  refine ⟨fun pins s σ H Q I h => ?_⟩
  refine PySem.W.methodCall_KW (pl := pl) (thn (he.run pins s σ H _ I h) fun u s1 ⟨x, H1, I1, rx, a, dx, fs, ex, ea, l, q⟩ => ?_) ht
  subst ex
  obtain rfl : u = Value.ref a := rx
  refine getmeth_ok I1 ea c hm l ?_
  refine PySem.W.callWith_K (first := [.ref a]) (h₀ := X.base) I.ok.mod.kin hm.kp (thn (ha.run pos pins s1 σ H1 _ I1 q) fun us s2 ⟨vs, H2, I2, r, q2⟩ => ⟨I2.kIn, ?_⟩) hst hpl
  exact run_fnS (us := .ref a :: us) (vs := .ref a :: vs) F hr hb (hx σ) I2 (.cons rfl r) q2
/-- C() -/
theorem pe_hasI0 {X : Cx} {CX : CXT} {k : Nat} {x : Str} {ps : List Str} {sp : Sp} {C : Addr} {E : XK} {p pos : Pos} (h : HasI X.prog X.w X.K X.mg X.base CX k C x ps sp) (hr : Room (k + 1) X.A) (hx : Passes CX X E) (hg : Gl X x := by rfl)
    (hdb : (x == ("__debug__" : Str)) = false := by decide) : PE X (.Call (.Name x p) [] [] pos) (tMake C sp [] E tNil) := by
  obtain ⟨f, fd, g, M, b, G⟩ := h
  exact pe_make0 M G hr hg g b .nil hx hdb
/-! ### what a call does to the table -/
theorem TabAt.keep {CT CS a D : Addr} {H H' : Hp} {t : Sj12.Three} {acc : List V} (h : TabAt CT CS H a t) (hD : H D = some (.lst acc)) (k : Keep D H H') : TabAt CT CS H' a t := by
  obtain ⟨dx, s, h1, d2, q, h2, h3⟩ := h
  exact ⟨dx, s, k _ _ h1 (ne_of h1 hD (by intro z; cases z)), d2, q, k _ _ h2 (ne_of h2 hD (by intro z; cases z)), k _ _ h3 (ne_of h3 hD (by intro z; cases z))⟩
def ansL (an : Sj12.Ans) : List Int := an.v :: an.l
def DoneQ (CT CS CR a : Addr) (t : Sj12.Three) (q : Sj12.Call) (H : Hp) (Q : VK) (E : XK) : Prop :=
  (∀ H' p, TabAt CT CS H' a (Sj12.step t q).1 → Keep a H H' → H p = none → H' p = some (lI (ansL (Sj12.step t q).2)) → Q (.ref p) H') ∧ ((Sj12.step t q).1 = t → (Sj12.step t q).2.l = [] → Rfs CR (Sj12.step t q).2.v H E)
theorem DoneQ.told {CT CS CR a : Addr} {t : Sj12.Three} {q : Sj12.Call} {H : Hp} {Q : VK} {E : XK} (h : DoneQ CT CS CR a t q H Q E) (ht : TabAt CT CS H a t) (e : (Sj12.step t q).1 = t) : Told CR (Sj12.step t q).2 H Q E :=
  ⟨fun _ H' p s np hp => h.1 H' p (by rw [e]; exact ht.same s) (Keep.of_same s) np hp, fun hl => h.2 e hl⟩
theorem cut_at {xs : List V} {m n : Nat} (h : m + n ≤ xs.length) : cutV xs (some (m : Int)) (some ((m + n : Nat) : Int)) = (xs.drop m).take n := by
  unfold cutV
  rw [HT.sIx_nat, HT.sIx_nat, Nat.min_eq_left (show m ≤ xs.length by omega), Nat.min_eq_left h, Nat.add_sub_cancel_left]
theorem cut2 (xs : List V) (h : 2 ≤ xs.length) : cutV xs (some 2) none = xs.drop 2 := by
  unfold cutV
  have e : HT.sIx xs.length 0 (some 2) = min 2 xs.length := HT.sIx_nat xs.length 0 2
  rw [e, HT.sIx_none, Nat.min_eq_left h]
  refine List.take_of_length_le ?_
  rw [List.length_drop]
  exact Nat.le_refl _
section
variable {P : Program} {w : World} {K : PySem.W.Frag} {mg : Str → Option Value} {base : Heap} {f : Addr} {fd : FuncData} {CS CW CT CR : Addr}
/-! ### done -/
abbrev sDone : Stmt := inClass (top 43) 7
theorem scDone : FnScope ["self", "call", "n"] ["self", "call", "n"] (defScope sDone) := ⟨rfl, rfl, rfl, by decide +kernel, rfl, by decide +kernel, by decide +kernel⟩
theorem tab_b (s : Addr) : List.lookup ("begin" : Str) (tabL s) = none := (lk_past (by decide +kernel)).trans rfl
theorem tab_o (s : Addr) : List.lookup ("odds" : Str) (tabL s) = none := (lk_past (by decide +kernel)).trans rfl
theorem tab_l (s : Addr) : List.lookup ("long" : Str) (tabL s) = none := (lk_past (by decide +kernel)).trans rfl
theorem tab_w (s : Addr) : List.lookup ("wait" : Str) (tabL s) = none := (lk_past (by decide +kernel)).trans rfl
theorem tab_c (s : Addr) : List.lookup ("check" : Str) (tabL s) = none := (lk_past (by decide +kernel)).trans rfl
theorem tab_d (s : Addr) : List.lookup ("done" : Str) (tabL s) = none := (lk_past (by decide +kernel)).trans rfl
theorem tab_a (s : Addr) : List.lookup ("answer" : Str) (tabL s) = none := (lk_past (by decide +kernel)).trans rfl
def spDone (K : PySem.W.Frag) (CT CS CR : Addr) : Sp := fun vs H Q E => ∃ (a l : Addr) (t : Sj12.Three) (c : Nat) (xs : List Nat) (q : Sj12.Call), vs = [.ref a, nV c, .ref l] ∧ TabAt CT CS H a t ∧ Good t ∧ SqL K H l (xs.map nV) ∧ cq (c :: xs) = some q ∧ DoneQ CT CS CR a t q H Q E
theorem ok_done (D : DefM K CT "done" "Table.done" sDone ["self", "call", "n"] f fd) (T : Txt K mg CS CW CT CR)
    (hB : HasM P w K mg base (L2.CX P w) 4 CT "begin" ["self", "n"] (spBegin K CT CS CR)) (hO : HasM P w K mg base (L2.CX P w) 9 CT "odds" ["self", "one", "other", "wrestler"] (spOdds CT CS CR)) (hL : HasM P w K mg base (L2.CX P w) 9 CT "long" ["self", "one", "other"] (spLongM CT CS CR))
    (hW : HasM P w K mg base (L2.CX P w) 9 CT "wait" ["self", "wrestler"] (spWait CT CS CR)) (hC : HasM P w K mg base (L2.CX P w) 6 CT "check" ["self", "one", "other", "bouts"] (spCheck K CR)) :
    FnOk P w K mg base (L2.CX P w) 10 f fd ["self", "call", "n"] (spDone K CT CS CR) := by
  refine D.F.okX scDone (fun vs H Q E h => ?_) (fun cdv A outer s H vs Q E hr h => ?_)
  · obtain ⟨a, l, t, c, xs, q, rfl, _⟩ := h
    rfl
  · have hr4 : Room 4 _ := hr.mono (by decide)
    have hr6 : Room 6 _ := hr.mono (by decide)
    refine ⟨_, pss_cons (ps_if (pt_cmpR op_eq (pv 1) (pgi T.cBeg) (nomark _)) (pss_one (ps_ret (pe_hasM hB T.clT hr4 (px (takes_of rfl rfl rfl rfl)) (pv 0) (pa_cons (pv 2) pa_nil)))) pss_nil)
      (pss_cons (ps_if (pt_cmpR op_eq (pv 1) (pgi T.cOdd) (nomark _)) (pss_one (ps_ret (pe_hasM hO T.clT hr (px (takes_of rfl rfl rfl rfl)) (pv 0) (pa_cons (pe_ix ix_list (pv 2) pe_int (fun _ _ => rfl)) (pa_cons (pe_ix ix_list (pv 2) pe_int (fun _ _ => rfl)) (pa_cons (pe_ix ix_list (pv 2) pe_int (fun _ _ => rfl)) pa_nil)))))) pss_nil)
      (pss_cons (ps_if (pt_cmpR op_eq (pv 1) (pgi T.cLon) (nomark _)) (pss_one (ps_ret (pe_hasM hL T.clT hr (px (takes_of rfl rfl rfl rfl)) (pv 0) (pa_cons (pe_ix ix_list (pv 2) pe_int (fun _ _ => rfl)) (pa_cons (pe_ix ix_list (pv 2) pe_int (fun _ _ => rfl)) pa_nil))))) pss_nil)
      (pss_cons (ps_if (pt_cmpR op_eq (pv 1) (pgi T.cWai) (nomark _)) (pss_one (ps_ret (pe_hasM hW T.clT hr (px (takes_of rfl rfl rfl rfl)) (pv 0) (pa_cons (pe_ix ix_list (pv 2) pe_int (fun _ _ => rfl)) pa_nil)))) pss_nil)
      (pss_one (ps_ret (pe_hasM hC T.clT hr6 (px (takes_of rfl rfl rfl rfl)) (pv 0) (pa_cons (pe_ix ix_list (pv 2) pe_int (fun _ _ => rfl)) (pa_cons (pe_ix ix_list (pv 2) pe_int (fun _ _ => rfl)) (pa_cons (pe_slice sl_list (pv 2) (po_some pe_int) po_none) pa_nil))))))))), ?_⟩
    obtain ⟨a, l, t, c, xs, q, rfl, ht, g, hl, hq, dq⟩ := h
    obtain ⟨dx, s0, ha, _⟩ := id ht
    have no : ∀ {k : Nat}, c ≠ k → decide (nV c = V.int ((k : Nat) : Int)) = false := fun h => decide_eq_false fun z => h (nV_inj.mp z)
    have is : ∀ {k : Nat}, c = k → decide (nV c = V.int ((k : Nat) : Int)) = true := fun h => decide_eq_true (nV_inj.mpr h)
    cases cq_kind hq with
    | b x y z hc hx hk =>
      subst hx hk
      refine ⟨_, rfl, rfl, _, rfl, ifT (is hc) ⟨_, rfl, a, dx, _, rfl, ha, tab_b s0, _, rfl, a, l, t, x, y, z, rfl, ht, hl, fun nb H' p ht' kp np hp => ?_, fun b => ?_⟩⟩
      · have e : Sj12.step t (.begins x y z) = (⟨x, y, z⟩, Sj12.ok 0) := if_neg nb
        refine dq.1 H' p ?_ kp np ?_
        · rw [e]
          exact ht'
        · rw [e]
          exact hp
      · have e : Sj12.step t (.begins x y z) = (t, Sj12.ok (-1)) := if_pos b
        have r := dq.2
        rw [e] at r
        exact r rfl rfl
    | o i k x hc hx hk =>
      subst hx hk
      have told := dq.told ht (step_same (by intro a b c z; cases z))
      refine ⟨_, rfl, rfl, _, rfl, ifF (no (k := 0) (by omega)) ⟨_, rfl, rfl, _, rfl, ifT (is hc) ?_⟩⟩
      exact ⟨_, rfl, a, dx, _, rfl, ha, tab_o s0, _, rfl, _, _, _, _, rfl, rfl, hl, at_0 _ _, _, rfl, _, _, _, _, rfl, rfl, hl, atI_nat (xs := [nV i, nV k, nV x]) (j := 1) rfl, _, rfl, _, _, _, _, rfl, rfl, hl, atI_nat (xs := [nV i, nV k, nV x]) (j := 2) rfl, a, t, i, k, x, rfl, ht, g, told⟩
    | l i k hc hx hk =>
      subst hx hk
      have told := dq.told ht (step_same (by intro a b c z; cases z))
      refine ⟨_, rfl, rfl, _, rfl, ifF (no (k := 0) (by omega)) ⟨_, rfl, rfl, _, rfl, ifF (no (k := 1) (by omega)) ⟨_, rfl, rfl, _, rfl, ifT (is hc) ?_⟩⟩⟩
      exact ⟨_, rfl, a, dx, _, rfl, ha, tab_l s0, _, rfl, _, _, _, _, rfl, rfl, hl, at_0 _ _, _, rfl, _, _, _, _, rfl, rfl, hl, atI_nat (xs := [nV i, nV k]) (j := 1) rfl, a, t, i, k, rfl, ht, g, told⟩
    | w x hc hx hk =>
      subst hx hk
      have told := dq.told ht (step_same (by intro a b c z; cases z))
      refine ⟨_, rfl, rfl, _, rfl, ifF (no (k := 0) (by omega)) ⟨_, rfl, rfl, _, rfl, ifF (no (k := 1) (by omega)) ⟨_, rfl, rfl, _, rfl, ifF (no (k := 2) (by omega)) ⟨_, rfl, rfl, _, rfl, ifT (is hc) ?_⟩⟩⟩⟩
      exact ⟨_, rfl, a, dx, _, rfl, ha, tab_w s0, _, rfl, _, _, _, _, rfl, rfl, hl, at_0 _ _, a, t, x, rfl, ht, g, told⟩
    | c i k r hc hx hk hlen =>
      subst hx hk
      have told := dq.told ht (step_same (by intro a b c z; cases z))
      refine ⟨_, rfl, rfl, _, rfl, ifF (no (k := 0) (by omega)) ⟨_, rfl, rfl, _, rfl, ifF (no (k := 1) (by omega)) ⟨_, rfl, rfl, _, rfl, ifF (no (k := 2) (by omega)) ⟨_, rfl, rfl, _, rfl, ifF (no (k := 3) (by omega)) ?_⟩⟩⟩⟩
      refine ⟨_, rfl, a, dx, _, rfl, ha, tab_c s0, _, rfl, _, _, _, _, rfl, rfl, hl, at_0 _ _, _, rfl, _, _, _, _, rfl, rfl, hl, atI_nat (xs := (i :: k :: r).map nV) (j := 1) rfl, _, rfl, 2, rfl, l, _, rfl, hl, fun p np => ?_⟩
      rw [cut2 _ (by rw [List.length_map, List.length_cons, List.length_cons]; omega)]
      have sp := Same.upd (o := .lst (((i :: k :: r).map nV).drop 2)) np
      refine ⟨a, p, t, i, k, r, rfl, SqL.of upd_same, by omega, fun hne H' p2 s np2 hp => told.1 hne H' p2 (sp.trans s) (sp.free np2) hp, fun he => (told.2 he).of sp⟩
/-! ### answer -/
abbrev sAnswer : Stmt := inClass (top 43) 8
abbrev nAnswer : List Str := ["self", "call", "n", "found", "e"]
theorem scAnswer : FnScope nAnswer ["self", "call", "n"] (defScope sAnswer) := ⟨rfl, rfl, rfl, by decide +kernel, rfl, by decide +kernel, by decide +kernel⟩
def spAnswer (K : PySem.W.Frag) (CT CS : Addr) : Sp := fun vs H Q _ => ∃ (a l : Addr) (t : Sj12.Three) (c : Nat) (xs : List Nat) (q : Sj12.Call), vs = [.ref a, nV c, .ref l] ∧ TabAt CT CS H a t ∧ Good t ∧ SqL K H l (xs.map nV) ∧ cq (c :: xs) = some q ∧
  ∀ H' p, TabAt CT CS H' a (Sj12.step t q).1 → Keep a H H' → H p = none → H' p = some (lI (ansL (Sj12.step t q).2)) → Q (.ref p) H'
theorem ok_answer (D : DefM K CT "answer" "Table.answer" sAnswer ["self", "call", "n"] f fd) (T : Txt K mg CS CW CT CR) (hD : HasM P w K mg base (L2.CX P w) 10 CT "done" ["self", "call", "n"] (spDone K CT CS CR)) :
    FnOk P w K mg base CX0 11 f fd ["self", "call", "n"] (spAnswer K CT CS) := by
  refine D.F.ok scAnswer (fun vs H Q E h => ?_) (fun cdv A outer s H vs Q E hr h => ?_)
  · obtain ⟨a, l, t, c, xs, q, rfl, _⟩ := h
    rfl
  · obtain ⟨fd1, fdd1, M1, b1, G1⟩ := hD
    refine ⟨_, pss_cons (ps_try_as (i := 4) (tb := fun W => tAsg (tMethS CT "done" (spDone K CT CS CR) (WE W) (tVar 0) (tCons (tVar 1) (tCons (tVar 2) tNil))) (gName 3)) (ts := fun a cls d => tAsg (tLst (tCons (tXf a cls d CR fN (tVar 4)) tNil)) (gName 3)) (Wout := fun _ _ _ _ => False)
        rfl rfl scAnswer.nd rfl rfl ⟨rfl, by decide, Or.inl T.gR⟩ takes0
        (fun W pn xe tk _ => pss_one (ps_set (i := 3) scAnswer.nd rfl (Or.inl rfl) (pe_methS (pv 0) T.clT M1 G1 hr b1 (fun σ => passAt tk σ) (by exact (pa_cons (pv 1) (pa_cons (pv 2) pa_nil))))))
        (fun a oe cls d pn hz hf => pss_one (ps_set (i := 3) scAnswer.nd rfl (Or.inl rfl) (pe_lst (pa_cons (pe_xf T.xf T.err.free hz hf (pv 4)) pa_nil)))))
      (pss_one (ps_ret (pv 3))), ?_⟩
    obtain ⟨a, l, t, c, xs, q, rfl, ht, g, hl, hq, kk⟩ := h
    obtain ⟨dx, s0, ha, _⟩ := id ht
    refine ⟨_, rfl, a, dx, _, rfl, ha, tab_d s0, _, rfl, _, rfl, a, l, t, c, xs, q, rfl, ht, g, hl, hq, fun H' p ht' kp np hp => ?_, fun e el => ?_⟩
    · exact ⟨_, rfl, kk H' p ht' kp np hp⟩
    · intro H1 d s1 nd
      refine ⟨true, T.te, fun _ a0 n0 => ?_, fun z => Bool.noConfusion z⟩
      refine ⟨_, rfl, rfl, rfl, d, _, _, rfl, upd_same, lk_here, (by show 1 ≤ sizeLine; decide), fun p np => ?_⟩
      have s2 : Same H (upd H1 d (.xd [(fN, .int (Sj12.step t q).2.v)])) := s1.new nd
      refine ⟨_, rfl, kk _ p ?_ (Keep.of_same (s2.new np)) (s2.free np) ?_⟩
      · rw [e]
        exact ht.same (s2.new np)
      · unfold ansL
        rw [el]
        exact upd_same
end
end Tb
namespace Tb
open PySem PySem.Spec PyProof.Rows L2
def muA (N : Nat) : St → Hp → Nat := fun σ _ => match σ with
  | _ :: _ :: _ :: some (.int m) :: _ => N - m.toNat
  | _ => 0
section
variable {P : Program} {w : World} {K : PySem.W.Frag} {mg : Str → Option Value} {base : Heap} {f : Addr} {fd : FuncData} {CS CW CT CR : Addr}
abbrev sAns : Stmt := top 44
abbrev nAns : List Str := ["calls", "table", "found", "at", "begin", "end", "one"]
theorem scAns : FnScope nAns ["calls"] (defScope sAns) := ⟨rfl, rfl, rfl, by decide +kernel, rfl, by decide +kernel, by decide +kernel⟩
def spAns (K : PySem.W.Frag) : Sp := fun vs H Q _ => ∃ (a : Addr) (ns : List Int), vs = [.ref a] ∧ SqL K H a (ns.map V.int) ∧ PySj12.answers_asked ns = true ∧ ∀ (H' : Hp) (p : Addr), H' p = some (lI (PySj12.answers ns)) → Q (.ref p) H'
theorem ok_answers (D : Def K mg "answers" sAns ["calls"] f fd) (T : Txt K mg CS CW CT CR) (hI : HasI P w K mg base CX0 3 CT "Table" ["self"] (spTI CT CS)) (hA : HasM P w K mg base CX0 11 CT "answer" ["self", "call", "n"] (spAnswer K CT CS)) :
    FnOk P w K mg base CX0 12 f fd ["calls"] (spAns K) := by
  refine D.F.ok scAns (fun vs H Q E h => ?_) (fun cdv A outer s H vs Q E hr h => ?_)
  · obtain ⟨a, ns, rfl, _⟩ := h
    rfl
  · refine ⟨_, pss_cons (ps_set (i := 1) scAns.nd rfl (Or.inl rfl) (pe_hasI0 hI (hr.mono (by decide)) pass0))
      (pss_cons (ps_set (i := 2) scAns.nd rfl (Or.inl rfl) (pe_lst pa_nil))
      (pss_cons (ps_set (i := 3) scAns.nd rfl (Or.inl rfl) pe_int)
      (pss_cons (ps_while PassesOwn.never (pt_cmpR op_lt (pv 3) (pe_callB call_len_seq (by rfl) T.bLen PySem.boot_len (pa_cons (pv 0) pa_nil)) (nomark _))
        (pss_cons (ps_set (i := 4) scAns.nd rfl (Or.inl rfl) (pe_op op_add (pv 3) pe_int))
        (pss_cons (ps_set (i := 5) scAns.nd rfl (Or.inl rfl) (pe_op op_add (pv 4) (pe_ix ix_list (pv 0) (pe_op op_add (pv 3) pe_int) (fun _ _ => rfl))))
        (pss_cons (ps_set (i := 6) scAns.nd rfl (Or.inl rfl) (pe_hasM hA T.clT hr pass0 (pv 1) (pa_cons (pe_ix ix_list (pv 0) (pv 3) (fun _ _ => rfl)) (pa_cons (pe_slice sl_list (pv 0) (po_some (pv 4)) (po_some (pv 5))) pa_nil))))
        (pss_cons (ps_expr (pe_bm PySem.F.plainAttrs_list PySem.F.slot_list_append PySem.F.type_list_append mt_append (pv 2) (pa_cons (pe_callB call_len_seq (by rfl) T.bLen PySem.boot_len (pa_cons (pv 6) pa_nil)) pa_nil)))
        (pss_cons (ps_expr (pe_bm PySem.F.plainAttrs_list PySem.F.slot_list_extend PySem.F.type_list_extend mt_extend (pv 2) (pa_cons (pv 6) pa_nil)))
        (pss_one (ps_set (i := 3) scAns.nd rfl (Or.inl rfl) (pe_op op_add (pv 5) pe_int)))))))))
      (pss_one (ps_ret (pv 2)))))), ?_⟩
    obtain ⟨a, ns, rfl, hns, asked, kk⟩ := h
    obtain ⟨rs0, ens, hraw, hlen, eans⟩ := asked_flat asked
    intro x dx nx nd ne
    refine ⟨x, dx, rfl, upd_same, fun H1 tab1 kp1 => ⟨rfl, ?_⟩⟩
    have s1 : Same H H1 := Same.made nx nd kp1
    refine ⟨(by show 0 ≤ sizeLine; decide), fun fnd nf => ?_⟩
    have nfH : H fnd = none := s1.free nf
    refine while_by (fun σ H' => ∃ (m : Nat) (st : Sj12.Three) (rs : List Raw) (out : List Int) (v4 v5 v6 : Option V), σ = [some (.ref a), some (.ref x), some (.ref fnd), some (nV m), v4, v5, v6] ∧ Same H H' ∧ TabAt CT CS H' x st ∧ Good st ∧ H' fnd = some (lI out) ∧
      ns.drop m = flat rs ∧ (∀ r ∈ rs, ∃ q, cq (r.1 :: r.2) = some q) ∧ PySj12.answers ns = out ++ tells st rs ∧ out.length + 5 * rs.length ≤ 300) (muA ns.length) ?_ ?_ ?_
    · refine ⟨0, Sj12.init, rs0, [], none, none, none, rfl, s1.new nf, tab1.same (Same.upd nf), ⟨by decide, by decide, by decide⟩, upd_same, ens, hraw, eans, ?_⟩
      show 0 + 5 * rs0.length ≤ 300
      omega
    · rintro σ H' ⟨m, st, rs, out, v4, v5, v6, rfl, sm, tab, good, hf, hd, hq, ha, hl⟩
      have hns' := sm.seq hns
      refine ⟨_, rfl, _, rfl, a, _, rfl, .inl hns', _, _, rfl, rfl, _, rfl, ?_⟩
      by_cases c : m < ns.length
      · refine ifT (decide_eq_true (by rw [List.length_map]; omega)) ?_
        obtain ⟨r, rs', rfl⟩ := flat_cons hd c
        obtain ⟨g1, g2, g3, g4, g5⟩ := flat_one hd
        obtain ⟨q, hcq⟩ := hq r List.mem_cons_self
        have at1 : atI (ns.map V.int) ((m : Int)) = some (nV r.1) := atI_nat (by rw [List.getElem?_map, g1]; rfl)
        have at2 : atI (ns.map V.int) ((m : Int) + 1) = some (nV r.2.length) := atI_nat (j := m + 1) (by rw [List.getElem?_map, g2]; rfl)
        have cut : cutV (ns.map V.int) (some ((m : Int) + 2)) (some ((m : Int) + 2 + (r.2.length : Int))) = r.2.map nV := by
          have e1 : (m : Int) + 2 = ((m + 2 : Nat) : Int) := by omega
          have e2 : ((m + 2 : Nat) : Int) + (r.2.length : Int) = ((m + 2 + r.2.length : Nat) : Int) := by omega
          rw [e1, e2, cut_at (by rw [List.length_map]; omega), ← List.map_drop, ← List.map_take, g3, List.map_map]
          rfl
        obtain ⟨dt, st0, hx, hstr⟩ := id tab
        refine ⟨_, rfl, _, _, rfl, rfl, ?_⟩
        refine ⟨_, rfl, _, rfl, _, rfl, _, _, rfl, rfl, a, _, _, _, rfl, rfl, hns', at2, _, _, rfl, rfl, ?_⟩
        refine ⟨_, rfl, x, dt, _, rfl, hx, tab_a st0, _, rfl, _, rfl, a, _, _, _, rfl, rfl, hns', at1, _, rfl, _, rfl, _, rfl, _, rfl, _, rfl, a, _, rfl, hns', fun p np => ?_⟩
        rw [cut]
        have sp := Same.upd (o := .lst (r.2.map nV)) np
        refine ⟨x, p, st, r.1, r.2, q, rfl, tab.same sp, good, SqL.of upd_same, hcq, fun H3 one tab3 kp3 no3 ho3 => ?_⟩
        have fx : fnd ≠ x := ne_of hf hx (by intro z; cases z)
        have hf2 := sp _ _ hf
        have hf3 := kp3 _ _ hf2 fx
        have one_ne : one ≠ fnd := Ne.symm (ne_of_none hf2 no3)
        have len1 : (ansL (Sj12.step st q).2).length ≤ 4 := by
          have := step_len st q
          unfold ansL
          rw [List.length_cons]
          omega
        rw [List.length_cons] at hl
        have fits : ∀ n : Nat, n ≤ 1000 → n ≤ sizeLine := fun n h => Nat.le_trans h (by decide)
        refine ⟨_, rfl, .inl ⟨rfl, _, SqL.of hf3⟩, _, rfl, one, _, rfl, .inl (SqL.of ho3), fnd, _, _, rfl, rfl, hf3, ?_, ?_⟩
        · rw [List.length_map]
          exact Nat.lt_of_le_of_lt (show out.length ≤ 1000 by omega) (by decide)
        · refine ⟨_, rfl, .inl ⟨rfl, _, SqL.of upd_same⟩, _, rfl, fnd, one, _, _, rfl, rfl, upd_same, (upd_ne one_ne).trans ho3, ?_, ?_⟩
          · rw [List.length_append, List.length_map, List.length_map]
            refine fits _ ?_
            show out.length + 1 + _ ≤ 1000
            omega
          · refine ⟨_, rfl, _, _, rfl, rfl, ?_⟩
            have k5 : Keep fnd H3 (upd (upd H3 fnd (.lst (out.map V.int ++ [V.int (((ansL (Sj12.step st q).2).map V.int).length : Int)]))) fnd (.lst ((out.map V.int ++ [V.int (((ansL (Sj12.step st q).2).map V.int).length : Int)]) ++ (ansL (Sj12.step st q).2).map V.int))) := (Keep.of_same (Same.refl _)).upd.upd
            refine ⟨⟨m + 2 + r.2.length + 1, (Sj12.step st q).1, rs', (out ++ [((ansL (Sj12.step st q).2).length : Int)]) ++ ansL (Sj12.step st q).2, some (.int ((m : Int) + 2)), some (.int ((m : Int) + 2 + (r.2.length : Int))), some (.ref one), rfl, ?_, tab3.keep hf3 k5, step_good good q, ?_, g4, fun s hs => hq s (List.mem_cons_of_mem _ hs), ?_, ?_⟩, ?_⟩
            · intro b u hb
              exact k5 _ _ (kp3 _ _ (sp _ _ (sm _ _ hb)) (ne_of_none hb nx)) (ne_of_none hb nfH)
            · rw [upd_same, List.length_map]
              show _ = some (HO.lst (((out ++ [((ansL (Sj12.step st q).2).length : Int)]) ++ ansL (Sj12.step st q).2).map V.int))
              rw [List.map_append, List.map_append]
              rfl
            · rw [ha, tells_cons hcq, List.append_assoc, List.append_assoc]
              rfl
            · rw [List.length_append, List.length_append]
              show out.length + 1 + _ + 5 * rs'.length ≤ 300
              omega
            · show ns.length - (((m : Int) + 2 + (r.2.length : Int) + 1)).toNat < ns.length - ((m : Int)).toNat
              omega
      · refine ifF (decide_eq_false (by rw [List.length_map]; omega)) ?_
        have e := flat_nil hd (by omega)
        subst e
        refine ⟨_, rfl, kk H' fnd ?_⟩
        rw [ha]
        show H' fnd = some (lI (out ++ []))
        rw [List.append_nil]
        exact hf
    · rintro σ H' Q1 Q2 hq ⟨v, h1, v2, h2, p, ys, e0, e1, i, j, e2, e3, b, e4, q⟩
      exact ⟨v, h1, v2, h2, p, ys, e0, e1, i, j, e2, e3, b, e4, hq _ _ q⟩
end
end Tb
namespace Tb
open PySem PySem.Spec PyProof.Rows L2
/-! ### the end: what the top has written -/
/-- an error of the class at S is what «except S» names -/
theorem exm_self {K : PySem.W.Frag} {S : Addr} (h1 : PySem.W.subIn K (.ref S) (.type "BaseException") = some true) (h2 : PySem.W.isClsIn K S = true) (h3 : PySem.W.typeIn K (.ref S) = some (.type "type")) (h4 : PySem.W.subIn K (.ref S) (.ref S) = some true) :
    PySem.W.exmOne K (.ref S) (.ref S) = some true := by
  have e1 : (PySem.W.subIn K (.ref S) (.type "BaseException") == some true) = true := by rw [h1] <;> rfl
  have e2 : ((PySem.W.clsIn K S).isSome && PySem.W.typeIn K (.ref S) == some (.type "type")) = true := by
    have h2' : (PySem.W.clsIn K S).isSome = true := h2
    rw [h2', h3] <;> rfl
  show (if (PySem.W.subIn K (.ref S) (.type "BaseException") == some true) = true then (if ((PySem.W.clsIn K S).isSome && PySem.W.typeIn K (.ref S) == some (.type "type")) = true then PySem.W.subIn K (.ref S) (.ref S) else none) else none) = some true
  rw [if_pos e1, if_pos e2]
  exact h4
theorem all_mk {P : Program} {w : World} {K : PySem.W.Frag} {h : Heap} {mg : Str → Option Value} {fa : Addr} (X : K.In h) (G : h.Ns mainGlobals mg) (hfa : mg "answers" = some (.ref fa))
    {CS CW CT CR : Addr}
    {nmR qR : Str} {NR : Addr} {bsR : List Value} {snR : List Str} {subR : List Value} {abR : Bool} {colR : Option Bool} {ddR : Option Addr} {m0 m1 m2 m3 m5 : Option Value}
    {tHUNDRED : Tok}
    {tNOBODY : Tok}
    {tBEGINS : Tok}
    {tODDS : Tok}
    {tLONG : Tok}
    {tWAIT : Tok}
    {tFIFTY : Tok}
    {tBAD : Tok}
    {tNO_WRESTLERS : Tok}
    {tFOR_EVER : Tok}
    {aNOUGHT : Addr} {odNOUGHT : Option Addr} {nNOUGHT : Nat} {slNOUGHT : Array (Option Value)} {tNOUGHT0 tNOUGHT1 : Tok}
    {aONE : Addr} {odONE : Option Addr} {nONE : Nat} {slONE : Array (Option Value)} {tONE0 tONE1 : Tok}
    {aWRESTLERS : Addr} {odWRESTLERS : Option Addr} {nWRESTLERS : Nat} {slWRESTLERS : Array (Option Value)} {tWRESTLERS0 tWRESTLERS1 tWRESTLERS2 : Tok}
    {f1 : Addr} {od1 an1 : Option Addr} {sl1 : Array (Option Value)} {oc1 kV1 dc1 pm1 cd1 ct1 : Value}
    {f2 : Addr} {od2 an2 : Option Addr} {sl2 : Array (Option Value)} {oc2 kV2 dc2 pm2 cd2 ct2 : Value}
    {f3 : Addr} {od3 an3 : Option Addr} {sl3 : Array (Option Value)} {oc3 kV3 dc3 pm3 cd3 ct3 : Value}
    {f4 : Addr} {od4 an4 : Option Addr} {sl4 : Array (Option Value)} {oc4 kV4 dc4 pm4 cd4 ct4 : Value}
    {f5 : Addr} {od5 an5 : Option Addr} {sl5 : Array (Option Value)} {oc5 kV5 dc5 pm5 cd5 ct5 : Value}
    {f6 : Addr} {od6 an6 : Option Addr} {sl6 : Array (Option Value)} {oc6 kV6 dc6 pm6 cd6 ct6 : Value}
    {f7 : Addr} {od7 an7 : Option Addr} {sl7 : Array (Option Value)} {oc7 kV7 dc7 pm7 cd7 ct7 : Value}
    {f8 : Addr} {od8 an8 : Option Addr} {sl8 : Array (Option Value)} {oc8 kV8 dc8 pm8 cd8 ct8 : Value}
    {f9 : Addr} {od9 an9 : Option Addr} {sl9 : Array (Option Value)} {oc9 kV9 dc9 pm9 cd9 ct9 : Value}
    {f10 : Addr} {od10 an10 : Option Addr} {sl10 : Array (Option Value)} {oc10 kV10 dc10 pm10 cd10 ct10 : Value}
    {f11 : Addr} {od11 an11 : Option Addr} {sl11 : Array (Option Value)} {oc11 kV11 dc11 pm11 cd11 ct11 : Value}
    {f12 : Addr} {od12 an12 : Option Addr} {sl12 : Array (Option Value)} {oc12 kV12 dc12 pm12 cd12 ct12 : Value}
    {f13 : Addr} {od13 an13 : Option Addr} {sl13 : Array (Option Value)} {oc13 kV13 dc13 pm13 cd13 ct13 : Value}
    {f14 : Addr} {od14 an14 : Option Addr} {sl14 : Array (Option Value)} {oc14 kV14 dc14 pm14 cd14 ct14 : Value}
    {f15 : Addr} {od15 an15 : Option Addr} {sl15 : Array (Option Value)} {oc15 kV15 dc15 pm15 cd15 ct15 : Value}
    {f16 : Addr} {od16 an16 : Option Addr} {sl16 : Array (Option Value)} {oc16 kV16 dc16 pm16 cd16 ct16 : Value}
    {f17 : Addr} {od17 an17 : Option Addr} {sl17 : Array (Option Value)} {oc17 kV17 dc17 pm17 cd17 ct17 : Value}
    {f18 : Addr} {od18 an18 : Option Addr} {sl18 : Array (Option Value)} {oc18 kV18 dc18 pm18 cd18 ct18 : Value}
    {f19 : Addr} {od19 an19 : Option Addr} {sl19 : Array (Option Value)} {oc19 kV19 dc19 pm19 cd19 ct19 : Value}
    {f20 : Addr} {od20 an20 : Option Addr} {sl20 : Array (Option Value)} {oc20 kV20 dc20 pm20 cd20 ct20 : Value}
    {f21 : Addr} {od21 an21 : Option Addr} {sl21 : Array (Option Value)} {oc21 kV21 dc21 pm21 cd21 ct21 : Value}
    {f22 : Addr} {od22 an22 : Option Addr} {sl22 : Array (Option Value)} {oc22 kV22 dc22 pm22 cd22 ct22 : Value}
    {f23 : Addr} {od23 an23 : Option Addr} {sl23 : Array (Option Value)} {oc23 kV23 dc23 pm23 cd23 ct23 : Value}
    {f24 : Addr} {od24 an24 : Option Addr} {sl24 : Array (Option Value)} {oc24 kV24 dc24 pm24 cd24 ct24 : Value}
    {f25 : Addr} {od25 an25 : Option Addr} {sl25 : Array (Option Value)} {oc25 kV25 dc25 pm25 cd25 ct25 : Value}
    {f26 : Addr} {od26 an26 : Option Addr} {sl26 : Array (Option Value)} {oc26 kV26 dc26 pm26 cd26 ct26 : Value}
    {f27 : Addr} {od27 an27 : Option Addr} {sl27 : Array (Option Value)} {oc27 kV27 dc27 pm27 cd27 ct27 : Value}
    {f28 : Addr} {od28 an28 : Option Addr} {sl28 : Array (Option Value)} {oc28 kV28 dc28 pm28 cd28 ct28 : Value}
    {f29 : Addr} {od29 an29 : Option Addr} {sl29 : Array (Option Value)} {oc29 kV29 dc29 pm29 cd29 ct29 : Value}
    {f30 : Addr} {od30 an30 : Option Addr} {sl30 : Array (Option Value)} {oc30 kV30 dc30 pm30 cd30 ct30 : Value}
    {f31 : Addr} {od31 an31 : Option Addr} {sl31 : Array (Option Value)} {oc31 kV31 dc31 pm31 cd31 ct31 : Value}
    {f32 : Addr} {od32 an32 : Option Addr} {sl32 : Array (Option Value)} {oc32 kV32 dc32 pm32 cd32 ct32 : Value}
    {f33 : Addr} {od33 an33 : Option Addr} {sl33 : Array (Option Value)} {oc33 kV33 dc33 pm33 cd33 ct33 : Value}
    {f34 : Addr} {od34 an34 : Option Addr} {sl34 : Array (Option Value)} {oc34 kV34 dc34 pm34 cd34 ct34 : Value}
    {f35 : Addr} {od35 an35 : Option Addr} {sl35 : Array (Option Value)} {oc35 kV35 dc35 pm35 cd35 ct35 : Value}
    {f36 : Addr} {od36 an36 : Option Addr} {sl36 : Array (Option Value)} {oc36 kV36 dc36 pm36 cd36 ct36 : Value}
    {f37 : Addr} {od37 an37 : Option Addr} {sl37 : Array (Option Value)} {oc37 kV37 dc37 pm37 cd37 ct37 : Value}
    (aS : PySem.W.nsIn K mainGlobals "Strengths" = some (some (.ref CS)))
    (pgS : PySem.W.plainGet K CS Str.empty = true)
    (hdS : PySem.W.hasDictIn K CS = true)
    (poS : PySem.W.plainOver K CS = true)
    (saS : PySem.W.findIn K (.ref CS) "__setattr__" = some (some (.builtin "object.__setattr__")))
    (mkS : PySem.W.makesIn K CS = true)
    (kcS : PySem.W.keepIn K (.ref CS) = true)
    (nSwon : PySem.W.findIn K (.ref CS) "won" = some none)
    (aW : PySem.W.nsIn K mainGlobals "Walk" = some (some (.ref CW)))
    (pgW : PySem.W.plainGet K CW Str.empty = true)
    (hdW : PySem.W.hasDictIn K CW = true)
    (poW : PySem.W.plainOver K CW = true)
    (saW : PySem.W.findIn K (.ref CW) "__setattr__" = some (some (.builtin "object.__setattr__")))
    (mkW : PySem.W.makesIn K CW = true)
    (kcW : PySem.W.keepIn K (.ref CW) = true)
    (nWwinner : PySem.W.findIn K (.ref CW) "winner" = some none)
    (nWloser : PySem.W.findIn K (.ref CW) "loser" = some none)
    (nWmany : PySem.W.findIn K (.ref CW) "many" = some none)
    (nWchampion : PySem.W.findIn K (.ref CW) "champion" = some none)
    (aT : PySem.W.nsIn K mainGlobals "Table" = some (some (.ref CT)))
    (pgT : PySem.W.plainGet K CT Str.empty = true)
    (hdT : PySem.W.hasDictIn K CT = true)
    (poT : PySem.W.plainOver K CT = true)
    (saT : PySem.W.findIn K (.ref CT) "__setattr__" = some (some (.builtin "object.__setattr__")))
    (mkT : PySem.W.makesIn K CT = true)
    (kcT : PySem.W.keepIn K (.ref CT) = true)
    (nTstrengths : PySem.W.findIn K (.ref CT) "strengths" = some none)
    (aR : PySem.W.nsIn K mainGlobals "Refused" = some (some (.ref CR)))
    (xR : K.lookup CR = some (excClassObj nmR qR CR NR bsR [.type "Exception", .type "BaseException", .type "object"] true snR subR abR colR ddR m0 m1 m2 m3 m5 "Exception.__new__"))
    (saR : PySem.W.findIn K (.ref CR) "__setattr__" = some (some (.builtin "object.__setattr__")))
    (gaR : PySem.W.findIn K (.ref CR) "__getattribute__" = some (some (.builtin "BaseException.__getattribute__")))
    (ggR : PySem.W.findIn K (.ref CR) "__getattr__" = some none)
    (nnR : PySem.W.findIn K (.ref CR) "number" = some none)
    (kcR : PySem.W.keepIn K (.ref CR) = true)
    (eR : PySem.W.subIn K (.ref CR) (.type "BaseException") = some true)
    (tR : PySem.W.typeIn K (.ref CR) = some (.type "type"))
    (hdR : PySem.W.hasDictIn K CR = true)
    (iR : PySem.W.isClsIn K CR = true)
    (sR : PySem.W.subIn K (.ref CR) (.ref CR) = some true)
    (exi : PySem.W.findCls K (.type "Exception") (.type "type") "__init__" = some (.val (.builtin "Exception.__init__")))
    (bException : PySem.W.nsIn K mainGlobals "Exception" = some none)
    (bany : PySem.W.nsIn K mainGlobals "any" = some none)
    (ball : PySem.W.nsIn K mainGlobals "all" = some none)
    (blist : PySem.W.nsIn K mainGlobals "list" = some none)
    (blen : PySem.W.nsIn K mainGlobals "len" = some none)
    (iHUNDRED : PySem.W.nsIn K mainGlobals "HUNDRED" = some (some (.int 100 tHUNDRED)))
    (iNOBODY : PySem.W.nsIn K mainGlobals "NOBODY" = some (some (.int 3 tNOBODY)))
    (iBEGINS : PySem.W.nsIn K mainGlobals "BEGINS" = some (some (.int 0 tBEGINS)))
    (iODDS : PySem.W.nsIn K mainGlobals "ODDS" = some (some (.int 1 tODDS)))
    (iLONG : PySem.W.nsIn K mainGlobals "LONG" = some (some (.int 2 tLONG)))
    (iWAIT : PySem.W.nsIn K mainGlobals "WAIT" = some (some (.int 3 tWAIT)))
    (iFIFTY : PySem.W.nsIn K mainGlobals "FIFTY" = some (some (.int 50 tFIFTY)))
    (iBAD : PySem.W.nsIn K mainGlobals "BAD" = some (some (.int (-1) tBAD)))
    (iNO_WRESTLERS : PySem.W.nsIn K mainGlobals "NO_WRESTLERS" = some (some (.int (-2) tNO_WRESTLERS)))
    (iFOR_EVER : PySem.W.nsIn K mainGlobals "FOR_EVER" = some (some (.int (-6) tFOR_EVER)))
    (gNOUGHT : PySem.W.nsIn K mainGlobals "NOUGHT" = some (some (.ref aNOUGHT)))
    (uNOUGHT : K.lookup aNOUGHT = some ⟨.type "tuple", odNOUGHT, .seq #[.int 0 tNOUGHT0, .int 1 tNOUGHT1] nNOUGHT, slNOUGHT⟩)
    (gONE : PySem.W.nsIn K mainGlobals "ONE" = some (some (.ref aONE)))
    (uONE : K.lookup aONE = some ⟨.type "tuple", odONE, .seq #[.int 1 tONE0, .int 1 tONE1] nONE, slONE⟩)
    (gWRESTLERS : PySem.W.nsIn K mainGlobals "WRESTLERS" = some (some (.ref aWRESTLERS)))
    (uWRESTLERS : K.lookup aWRESTLERS = some ⟨.type "tuple", odWRESTLERS, .seq #[.int 0 tWRESTLERS0, .int 1 tWRESTLERS1, .int 2 tWRESTLERS2] nWRESTLERS, slWRESTLERS⟩)
    (a1 : PySem.W.findIn K (.ref CS) "__init__" = some (some (.ref f1)))
    (i1 : PySem.W.isFn K (.ref f1) = true)
    (l1 : K.lookup f1 = some ⟨oc1, od1, .func (PySem.W.fnOf "__init__" "Strengths.__init__" (defArgs sSI) (defBody sSI) (defScope sSI) .none kV1 dc1 pm1 an1 cd1 ct1), sl1⟩)
    (c1 : PySem.W.codeIn K cd1 "Strengths.__init__" = true)
    (k1 : PySem.W.keepIn K (.ref f1) = true)
    (a2 : PySem.W.findIn K (.ref CW) "__init__" = some (some (.ref f2)))
    (i2 : PySem.W.isFn K (.ref f2) = true)
    (l2 : K.lookup f2 = some ⟨oc2, od2, .func (PySem.W.fnOf "__init__" "Walk.__init__" (defArgs sWI) (defBody sWI) (defScope sWI) .none kV2 dc2 pm2 an2 cd2 ct2), sl2⟩)
    (c2 : PySem.W.codeIn K cd2 "Walk.__init__" = true)
    (k2 : PySem.W.keepIn K (.ref f2) = true)
    (a3 : PySem.W.findIn K (.ref CT) "__init__" = some (some (.ref f3)))
    (i3 : PySem.W.isFn K (.ref f3) = true)
    (l3 : K.lookup f3 = some ⟨oc3, od3, .func (PySem.W.fnOf "__init__" "Table.__init__" (defArgs sTI) (defBody sTI) (defScope sTI) .none kV3 dc3 pm3 an3 cd3 ct3), sl3⟩)
    (c3 : PySem.W.codeIn K cd3 "Table.__init__" = true)
    (k3 : PySem.W.keepIn K (.ref f3) = true)
    (a4 : PySem.W.findIn K (.ref CR) "__init__" = some (some (.ref f4)))
    (t4 : PySem.W.typeIn K (.ref f4) = some (.type "function"))
    (l4 : K.lookup f4 = some ⟨oc4, od4, .func (PySem.W.fnOf "__init__" "Refused.__init__" (defArgs sRI) (defBody sRI) (defScope sRI) .none kV4 dc4 pm4 an4 cd4 ct4), sl4⟩)
    (c4 : PySem.W.codeIn K cd4 "Refused.__init__" = true)
    (k4 : PySem.W.keepIn K (.ref f4) = true)
    (a5 : PySem.W.findIn K (.ref CS) "beats" = some (some (.ref f5)))
    (i5 : PySem.W.isFn K (.ref f5) = true)
    (l5 : K.lookup f5 = some ⟨oc5, od5, .func (PySem.W.fnOf "beats" "Strengths.beats" (defArgs sBeats) (defBody sBeats) (defScope sBeats) .none kV5 dc5 pm5 an5 cd5 ct5), sl5⟩)
    (c5 : PySem.W.codeIn K cd5 "Strengths.beats" = true)
    (k5 : PySem.W.keepIn K (.ref f5) = true)
    (a6 : PySem.W.findIn K (.ref CW) "go_on" = some (some (.ref f6)))
    (i6 : PySem.W.isFn K (.ref f6) = true)
    (l6 : K.lookup f6 = some ⟨oc6, od6, .func (PySem.W.fnOf "go_on" "Walk.go_on" (defArgs sGo) (defBody sGo) (defScope sGo) .none kV6 dc6 pm6 an6 cd6 ct6), sl6⟩)
    (c6 : PySem.W.codeIn K cd6 "Walk.go_on" = true)
    (k6 : PySem.W.keepIn K (.ref f6) = true)
    (a7 : PySem.W.findIn K (.ref CT) "begin" = some (some (.ref f7)))
    (i7 : PySem.W.isFn K (.ref f7) = true)
    (l7 : K.lookup f7 = some ⟨oc7, od7, .func (PySem.W.fnOf "begin" "Table.begin" (defArgs sBegin) (defBody sBegin) (defScope sBegin) .none kV7 dc7 pm7 an7 cd7 ct7), sl7⟩)
    (c7 : PySem.W.codeIn K cd7 "Table.begin" = true)
    (k7 : PySem.W.keepIn K (.ref f7) = true)
    (a8 : PySem.W.findIn K (.ref CT) "want_end" = some (some (.ref f8)))
    (i8 : PySem.W.isFn K (.ref f8) = true)
    (l8 : K.lookup f8 = some ⟨oc8, od8, .func (PySem.W.fnOf "want_end" "Table.want_end" (defArgs sEnd) (defBody sEnd) (defScope sEnd) .none kV8 dc8 pm8 an8 cd8 ct8), sl8⟩)
    (c8 : PySem.W.codeIn K cd8 "Table.want_end" = true)
    (k8 : PySem.W.keepIn K (.ref f8) = true)
    (a9 : PySem.W.findIn K (.ref CT) "odds" = some (some (.ref f9)))
    (i9 : PySem.W.isFn K (.ref f9) = true)
    (l9 : K.lookup f9 = some ⟨oc9, od9, .func (PySem.W.fnOf "odds" "Table.odds" (defArgs sOdds) (defBody sOdds) (defScope sOdds) .none kV9 dc9 pm9 an9 cd9 ct9), sl9⟩)
    (c9 : PySem.W.codeIn K cd9 "Table.odds" = true)
    (k9 : PySem.W.keepIn K (.ref f9) = true)
    (a10 : PySem.W.findIn K (.ref CT) "long" = some (some (.ref f10)))
    (i10 : PySem.W.isFn K (.ref f10) = true)
    (l10 : K.lookup f10 = some ⟨oc10, od10, .func (PySem.W.fnOf "long" "Table.long" (defArgs sLongM) (defBody sLongM) (defScope sLongM) .none kV10 dc10 pm10 an10 cd10 ct10), sl10⟩)
    (c10 : PySem.W.codeIn K cd10 "Table.long" = true)
    (k10 : PySem.W.keepIn K (.ref f10) = true)
    (a11 : PySem.W.findIn K (.ref CT) "wait" = some (some (.ref f11)))
    (i11 : PySem.W.isFn K (.ref f11) = true)
    (l11 : K.lookup f11 = some ⟨oc11, od11, .func (PySem.W.fnOf "wait" "Table.wait" (defArgs sWait) (defBody sWait) (defScope sWait) .none kV11 dc11 pm11 an11 cd11 ct11), sl11⟩)
    (c11 : PySem.W.codeIn K cd11 "Table.wait" = true)
    (k11 : PySem.W.keepIn K (.ref f11) = true)
    (a12 : PySem.W.findIn K (.ref CT) "check" = some (some (.ref f12)))
    (i12 : PySem.W.isFn K (.ref f12) = true)
    (l12 : K.lookup f12 = some ⟨oc12, od12, .func (PySem.W.fnOf "check" "Table.check" (defArgs sCheck) (defBody sCheck) (defScope sCheck) .none kV12 dc12 pm12 an12 cd12 ct12), sl12⟩)
    (c12 : PySem.W.codeIn K cd12 "Table.check" = true)
    (k12 : PySem.W.keepIn K (.ref f12) = true)
    (a13 : PySem.W.findIn K (.ref CT) "done" = some (some (.ref f13)))
    (i13 : PySem.W.isFn K (.ref f13) = true)
    (l13 : K.lookup f13 = some ⟨oc13, od13, .func (PySem.W.fnOf "done" "Table.done" (defArgs sDone) (defBody sDone) (defScope sDone) .none kV13 dc13 pm13 an13 cd13 ct13), sl13⟩)
    (c13 : PySem.W.codeIn K cd13 "Table.done" = true)
    (k13 : PySem.W.keepIn K (.ref f13) = true)
    (a14 : PySem.W.findIn K (.ref CT) "answer" = some (some (.ref f14)))
    (i14 : PySem.W.isFn K (.ref f14) = true)
    (l14 : K.lookup f14 = some ⟨oc14, od14, .func (PySem.W.fnOf "answer" "Table.answer" (defArgs sAnswer) (defBody sAnswer) (defScope sAnswer) .none kV14 dc14 pm14 an14 cd14 ct14), sl14⟩)
    (c14 : PySem.W.codeIn K cd14 "Table.answer" = true)
    (k14 : PySem.W.keepIn K (.ref f14) = true)
    (a15 : PySem.W.nsIn K mainGlobals "common" = some (some (.ref f15)))
    (l15 : K.lookup f15 = some ⟨oc15, od15, .func (PySem.W.fnOf "common" "common" (defArgs sCommon) (defBody sCommon) (defScope sCommon) .none kV15 dc15 pm15 an15 cd15 ct15), sl15⟩)
    (c15 : PySem.W.codeIn K cd15 "common" = true)
    (k15 : PySem.W.keepIn K (.ref f15) = true)
    (a16 : PySem.W.nsIn K mainGlobals "fraction" = some (some (.ref f16)))
    (l16 : K.lookup f16 = some ⟨oc16, od16, .func (PySem.W.fnOf "fraction" "fraction" (defArgs sFraction) (defBody sFraction) (defScope sFraction) .none kV16 dc16 pm16 an16 cd16 ct16), sl16⟩)
    (c16 : PySem.W.codeIn K cd16 "fraction" = true)
    (k16 : PySem.W.keepIn K (.ref f16) = true)
    (a17 : PySem.W.nsIn K mainGlobals "plus" = some (some (.ref f17)))
    (l17 : K.lookup f17 = some ⟨oc17, od17, .func (PySem.W.fnOf "plus" "plus" (defArgs sPlus) (defBody sPlus) (defScope sPlus) .none kV17 dc17 pm17 an17 cd17 ct17), sl17⟩)
    (c17 : PySem.W.codeIn K cd17 "plus" = true)
    (k17 : PySem.W.keepIn K (.ref f17) = true)
    (a18 : PySem.W.nsIn K mainGlobals "times" = some (some (.ref f18)))
    (l18 : K.lookup f18 = some ⟨oc18, od18, .func (PySem.W.fnOf "times" "times" (defArgs sTimes) (defBody sTimes) (defScope sTimes) .none kV18 dc18 pm18 an18 cd18 ct18), sl18⟩)
    (c18 : PySem.W.codeIn K cd18 "times" = true)
    (k18 : PySem.W.keepIn K (.ref f18) = true)
    (a19 : PySem.W.nsIn K mainGlobals "over" = some (some (.ref f19)))
    (l19 : K.lookup f19 = some ⟨oc19, od19, .func (PySem.W.fnOf "over" "over" (defArgs sOver) (defBody sOver) (defScope sOver) .none kV19 dc19 pm19 an19 cd19 ct19), sl19⟩)
    (c19 : PySem.W.codeIn K cd19 "over" = true)
    (k19 : PySem.W.keepIn K (.ref f19) = true)
    (a20 : PySem.W.nsIn K mainGlobals "rest_of" = some (some (.ref f20)))
    (l20 : K.lookup f20 = some ⟨oc20, od20, .func (PySem.W.fnOf "rest_of" "rest_of" (defArgs sRest) (defBody sRest) (defScope sRest) .none kV20 dc20 pm20 an20 cd20 ct20), sl20⟩)
    (c20 : PySem.W.codeIn K cd20 "rest_of" = true)
    (k20 : PySem.W.keepIn K (.ref f20) = true)
    (a21 : PySem.W.nsIn K mainGlobals "is_less" = some (some (.ref f21)))
    (l21 : K.lookup f21 = some ⟨oc21, od21, .func (PySem.W.fnOf "is_less" "is_less" (defArgs sLess) (defBody sLess) (defScope sLess) .none kV21 dc21 pm21 an21 cd21 ct21), sl21⟩)
    (c21 : PySem.W.codeIn K cd21 "is_less" = true)
    (k21 : PySem.W.keepIn K (.ref f21) = true)
    (a22 : PySem.W.nsIn K mainGlobals "third_of" = some (some (.ref f22)))
    (l22 : K.lookup f22 = some ⟨oc22, od22, .func (PySem.W.fnOf "third_of" "third_of" (defArgs sThird) (defBody sThird) (defScope sThird) .none kV22 dc22 pm22 an22 cd22 ct22), sl22⟩)
    (c22 : PySem.W.codeIn K cd22 "third_of" = true)
    (k22 : PySem.W.keepIn K (.ref f22) = true)
    (a23 : PySem.W.nsIn K mainGlobals "three_bouts" = some (some (.ref f23)))
    (l23 : K.lookup f23 = some ⟨oc23, od23, .func (PySem.W.fnOf "three_bouts" "three_bouts" (defArgs sThree) (defBody sThree) (defScope sThree) .none kV23 dc23 pm23 an23 cd23 ct23), sl23⟩)
    (c23 : PySem.W.codeIn K cd23 "three_bouts" = true)
    (k23 : PySem.W.keepIn K (.ref f23) = true)
    (a24 : PySem.W.nsIn K mainGlobals "chance_of_round" = some (some (.ref f24)))
    (l24 : K.lookup f24 = some ⟨oc24, od24, .func (PySem.W.fnOf "chance_of_round" "chance_of_round" (defArgs sRound) (defBody sRound) (defScope sRound) .none kV24 dc24 pm24 an24 cd24 ct24), sl24⟩)
    (c24 : PySem.W.codeIn K cd24 "chance_of_round" = true)
    (k24 : PySem.W.keepIn K (.ref f24) = true)
    (a25 : PySem.W.nsIn K mainGlobals "likely_behind" = some (some (.ref f25)))
    (l25 : K.lookup f25 = some ⟨oc25, od25, .func (PySem.W.fnOf "likely_behind" "likely_behind" (defArgs sBehind) (defBody sBehind) (defScope sBehind) .none kV25 dc25 pm25 an25 cd25 ct25), sl25⟩)
    (c25 : PySem.W.codeIn K cd25 "likely_behind" = true)
    (k25 : PySem.W.keepIn K (.ref f25) = true)
    (a26 : PySem.W.nsIn K mainGlobals "long_behind" = some (some (.ref f26)))
    (l26 : K.lookup f26 = some ⟨oc26, od26, .func (PySem.W.fnOf "long_behind" "long_behind" (defArgs sLong) (defBody sLong) (defScope sLong) .none kV26 dc26 pm26 an26 cd26 ct26), sl26⟩)
    (c26 : PySem.W.codeIn K cd26 "long_behind" = true)
    (k26 : PySem.W.keepIn K (.ref f26) = true)
    (a27 : PySem.W.nsIn K mainGlobals "first_bouts" = some (some (.ref f27)))
    (l27 : K.lookup f27 = some ⟨oc27, od27, .func (PySem.W.fnOf "first_bouts" "first_bouts" (defArgs sFirst) (defBody sFirst) (defScope sFirst) .none kV27 dc27 pm27 an27 cd27 ct27), sl27⟩)
    (c27 : PySem.W.codeIn K cd27 "first_bouts" = true)
    (k27 : PySem.W.keepIn K (.ref f27) = true)
    (a28 : PySem.W.nsIn K mainGlobals "may_go_round" = some (some (.ref f28)))
    (l28 : K.lookup f28 = some ⟨oc28, od28, .func (PySem.W.fnOf "may_go_round" "may_go_round" (defArgs sMay) (defBody sMay) (defScope sMay) .none kV28 dc28 pm28 an28 cd28 ct28), sl28⟩)
    (c28 : PySem.W.codeIn K cd28 "may_go_round" = true)
    (k28 : PySem.W.keepIn K (.ref f28) = true)
    (a29 : PySem.W.nsIn K mainGlobals "likely" = some (some (.ref f29)))
    (l29 : K.lookup f29 = some ⟨oc29, od29, .func (PySem.W.fnOf "likely" "likely" (defArgs sLikely) (defBody sLikely) (defScope sLikely) .none kV29 dc29 pm29 an29 cd29 ct29), sl29⟩)
    (c29 : PySem.W.codeIn K cd29 "likely" = true)
    (k29 : PySem.W.keepIn K (.ref f29) = true)
    (a30 : PySem.W.nsIn K mainGlobals "how_long" = some (some (.ref f30)))
    (l30 : K.lookup f30 = some ⟨oc30, od30, .func (PySem.W.fnOf "how_long" "how_long" (defArgs sHow) (defBody sHow) (defScope sHow) .none kV30 dc30 pm30 an30 cd30 ct30), sl30⟩)
    (c30 : PySem.W.codeIn K cd30 "how_long" = true)
    (k30 : PySem.W.keepIn K (.ref f30) = true)
    (a31 : PySem.W.nsIn K mainGlobals "two_without" = some (some (.ref f31)))
    (l31 : K.lookup f31 = some ⟨oc31, od31, .func (PySem.W.fnOf "two_without" "two_without" (defArgs sTwoW) (defBody sTwoW) (defScope sTwoW) .none kV31 dc31 pm31 an31 cd31 ct31), sl31⟩)
    (c31 : PySem.W.codeIn K cd31 "two_without" = true)
    (k31 : PySem.W.keepIn K (.ref f31) = true)
    (a32 : PySem.W.nsIn K mainGlobals "best_wait" = some (some (.ref f32)))
    (l32 : K.lookup f32 = some ⟨oc32, od32, .func (PySem.W.fnOf "best_wait" "best_wait" (defArgs sBest) (defBody sBest) (defScope sBest) .none kV32 dc32 pm32 an32 cd32 ct32), sl32⟩)
    (c32 : PySem.W.codeIn K cd32 "best_wait" = true)
    (k32 : PySem.W.keepIn K (.ref f32) = true)
    (a33 : PySem.W.nsIn K mainGlobals "walked" = some (some (.ref f33)))
    (l33 : K.lookup f33 = some ⟨oc33, od33, .func (PySem.W.fnOf "walked" "walked" (defArgs sWalked) (defBody sWalked) (defScope sWalked) .none kV33 dc33 pm33 an33 cd33 ct33), sl33⟩)
    (c33 : PySem.W.codeIn K cd33 "walked" = true)
    (k33 : PySem.W.keepIn K (.ref f33) = true)
    (a34 : PySem.W.nsIn K mainGlobals "want" = some (some (.ref f34)))
    (l34 : K.lookup f34 = some ⟨oc34, od34, .func (PySem.W.fnOf "want" "want" (defArgs sWant) (defBody sWant) (defScope sWant) .none kV34 dc34 pm34 an34 cd34 ct34), sl34⟩)
    (c34 : PySem.W.codeIn K cd34 "want" = true)
    (k34 : PySem.W.keepIn K (.ref f34) = true)
    (a35 : PySem.W.nsIn K mainGlobals "want_wrestlers" = some (some (.ref f35)))
    (l35 : K.lookup f35 = some ⟨oc35, od35, .func (PySem.W.fnOf "want_wrestlers" "want_wrestlers" (defArgs sWantW) (defBody sWantW) (defScope sWantW) .none kV35 dc35 pm35 an35 cd35 ct35), sl35⟩)
    (c35 : PySem.W.codeIn K cd35 "want_wrestlers" = true)
    (k35 : PySem.W.keepIn K (.ref f35) = true)
    (a36 : PySem.W.nsIn K mainGlobals "want_two" = some (some (.ref f36)))
    (l36 : K.lookup f36 = some ⟨oc36, od36, .func (PySem.W.fnOf "want_two" "want_two" (defArgs sWantT) (defBody sWantT) (defScope sWantT) .none kV36 dc36 pm36 an36 cd36 ct36), sl36⟩)
    (c36 : PySem.W.codeIn K cd36 "want_two" = true)
    (k36 : PySem.W.keepIn K (.ref f36) = true)
    (a37 : PySem.W.nsIn K mainGlobals "answers" = some (some (.ref f37)))
    (l37 : K.lookup f37 = some ⟨oc37, od37, .func (PySem.W.fnOf "answers" "answers" (defArgs sAns) (defBody sAns) (defScope sAns) .none kV37 dc37 pm37 an37 cd37 ct37), sl37⟩)
    (c37 : PySem.W.codeIn K cd37 "answers" = true)
    (k37 : PySem.W.keepIn K (.ref f37) = true) :
    ∃ fd : FuncData, (∀ (s : Shared) (us : List Value), us.length = (["calls"] : List Str).length → BindsTo s fd ⟨us, []⟩ ((["calls"] : List Str).zip us)) ∧ ∀ base : Heap, K.In base → base.Ns mainGlobals mg → FnOk P w K mg base CX0 12 fa fd ["calls"] (spAns K) := by
  have e := hfa.symm.trans (PySem.W.mg_of X G a37)
  cases e
  have T : Txt K mg CS CW CT CR :=
    { clS := ⟨pgS, hdS, poS, saS⟩, nWon := nSwon, clW := ⟨pgW, hdW, poW, saW⟩, nWin := nWwinner, nLos := nWloser, nMan := nWmany, nCha := nWchampion, clT := ⟨pgT, hdT, poT, saT⟩, nStr := nTstrengths,
      err := ⟨⟨_, _, _, _, _, _, _, _, _, _, _, _, _, _, xR⟩, saR, eR, tR, kcR, nnR⟩, xf := ⟨gaR, ggR, eR, hdR⟩, te := exm_self eR iR tR sR, gR := PySem.W.mg_of X G aR, exi := exi,
      bExc := PySem.W.mg_none_of X G bException, bAny := PySem.W.mg_none_of X G bany, bAll := PySem.W.mg_none_of X G ball, bList := PySem.W.mg_none_of X G blist, bLen := PySem.W.mg_none_of X G blen,
      cNil := ⟨aNOUGHT, PySem.W.mg_of X G gNOUGHT, ⟨_, _, _, uNOUGHT, rfl, rfl, (by show 2 ≤ sizeLine; decide), .cons ⟨_, rfl⟩ (.cons ⟨_, rfl⟩ (.nil))⟩⟩,
      cOne := ⟨aONE, PySem.W.mg_of X G gONE, ⟨_, _, _, uONE, rfl, rfl, (by show 2 ≤ sizeLine; decide), .cons ⟨_, rfl⟩ (.cons ⟨_, rfl⟩ (.nil))⟩⟩,
      cWre := ⟨aWRESTLERS, PySem.W.mg_of X G gWRESTLERS, ⟨_, _, _, uWRESTLERS, rfl, rfl, (by show 3 ≤ sizeLine; decide), .cons ⟨_, rfl⟩ (.cons ⟨_, rfl⟩ (.cons ⟨_, rfl⟩ (.nil)))⟩⟩,
      cHun := ⟨_, PySem.W.mg_of X G iHUNDRED⟩, cNob := ⟨_, PySem.W.mg_of X G iNOBODY⟩, cBeg := ⟨_, PySem.W.mg_of X G iBEGINS⟩, cOdd := ⟨_, PySem.W.mg_of X G iODDS⟩, cLon := ⟨_, PySem.W.mg_of X G iLONG⟩, cWai := ⟨_, PySem.W.mg_of X G iWAIT⟩, cFif := ⟨_, PySem.W.mg_of X G iFIFTY⟩,
      cBad := ⟨_, PySem.W.mg_of X G iBAD⟩, cNoW := ⟨_, PySem.W.mg_of X G iNO_WRESTLERS⟩, cFor := ⟨_, PySem.W.mg_of X G iFOR_EVER⟩ }
  have F1 := fun_mk (st := sSI) l1 c1 k1
  have B1 := F1.binds (ps := ["self", "zero_one", "one_two", "two_zero"]) fun _ _ _ _ _ _ us hl => match us, hl with | [_, _, _, _], _ => rfl
  have D1 : DefI K mg CS "Strengths" "Strengths.__init__" sSI ["self", "zero_one", "one_two", "two_zero"] f1 _ := ⟨F1, ⟨mkS, a1, i1, kcS⟩, PySem.W.mg_of X G aS, B1⟩
  have F2 := fun_mk (st := sWI) l2 c2 k2
  have B2 := F2.binds (ps := ["self", "one", "other", "is_won"]) fun _ _ _ _ _ _ us hl => match us, hl with | [_, _, _, _], _ => rfl
  have D2 : DefI K mg CW "Walk" "Walk.__init__" sWI ["self", "one", "other", "is_won"] f2 _ := ⟨F2, ⟨mkW, a2, i2, kcW⟩, PySem.W.mg_of X G aW, B2⟩
  have F3 := fun_mk (st := sTI) l3 c3 k3
  have B3 := F3.binds (ps := ["self"]) fun _ _ _ _ _ _ us hl => match us, hl with | [_], _ => rfl
  have D3 : DefI K mg CT "Table" "Table.__init__" sTI ["self"] f3 _ := ⟨F3, ⟨mkT, a3, i3, kcT⟩, PySem.W.mg_of X G aT, B3⟩
  have F4 := fun_mk (st := sRI) l4 c4 k4
  have B4 := F4.binds (ps := ["self", "number"]) fun _ _ _ _ _ _ us hl => match us, hl with | [_, _], _ => rfl
  have D4 : DefE K CR sRI ["self", "number"] f4 _ := ⟨F4, a4, t4, B4⟩
  have F5 := fun_mk (st := sBeats) l5 c5 k5
  have B5 := F5.binds (ps := ["self", "one", "other"]) fun _ _ _ _ _ _ us hl => match us, hl with | [_, _, _], _ => rfl
  have D5 : DefM K CS "beats" "Strengths.beats" sBeats ["self", "one", "other"] f5 _ := ⟨F5, ⟨a5, i5, k5⟩, B5⟩
  have F6 := fun_mk (st := sGo) l6 c6 k6
  have B6 := F6.binds (ps := ["self", "is_won"]) fun _ _ _ _ _ _ us hl => match us, hl with | [_, _], _ => rfl
  have D6 : DefM K CW "go_on" "Walk.go_on" sGo ["self", "is_won"] f6 _ := ⟨F6, ⟨a6, i6, k6⟩, B6⟩
  have F7 := fun_mk (st := sBegin) l7 c7 k7
  have B7 := F7.binds (ps := ["self", "n"]) fun _ _ _ _ _ _ us hl => match us, hl with | [_, _], _ => rfl
  have D7 : DefM K CT "begin" "Table.begin" sBegin ["self", "n"] f7 _ := ⟨F7, ⟨a7, i7, k7⟩, B7⟩
  have F8 := fun_mk (st := sEnd) l8 c8 k8
  have B8 := F8.binds (ps := ["self", "one", "other"]) fun _ _ _ _ _ _ us hl => match us, hl with | [_, _, _], _ => rfl
  have D8 : DefM K CT "want_end" "Table.want_end" sEnd ["self", "one", "other"] f8 _ := ⟨F8, ⟨a8, i8, k8⟩, B8⟩
  have F9 := fun_mk (st := sOdds) l9 c9 k9
  have B9 := F9.binds (ps := ["self", "one", "other", "wrestler"]) fun _ _ _ _ _ _ us hl => match us, hl with | [_, _, _, _], _ => rfl
  have D9 : DefM K CT "odds" "Table.odds" sOdds ["self", "one", "other", "wrestler"] f9 _ := ⟨F9, ⟨a9, i9, k9⟩, B9⟩
  have F10 := fun_mk (st := sLongM) l10 c10 k10
  have B10 := F10.binds (ps := ["self", "one", "other"]) fun _ _ _ _ _ _ us hl => match us, hl with | [_, _, _], _ => rfl
  have D10 : DefM K CT "long" "Table.long" sLongM ["self", "one", "other"] f10 _ := ⟨F10, ⟨a10, i10, k10⟩, B10⟩
  have F11 := fun_mk (st := sWait) l11 c11 k11
  have B11 := F11.binds (ps := ["self", "wrestler"]) fun _ _ _ _ _ _ us hl => match us, hl with | [_, _], _ => rfl
  have D11 : DefM K CT "wait" "Table.wait" sWait ["self", "wrestler"] f11 _ := ⟨F11, ⟨a11, i11, k11⟩, B11⟩
  have F12 := fun_mk (st := sCheck) l12 c12 k12
  have B12 := F12.binds (ps := ["self", "one", "other", "bouts"]) fun _ _ _ _ _ _ us hl => match us, hl with | [_, _, _, _], _ => rfl
  have D12 : DefM K CT "check" "Table.check" sCheck ["self", "one", "other", "bouts"] f12 _ := ⟨F12, ⟨a12, i12, k12⟩, B12⟩
  have F13 := fun_mk (st := sDone) l13 c13 k13
  have B13 := F13.binds (ps := ["self", "call", "n"]) fun _ _ _ _ _ _ us hl => match us, hl with | [_, _, _], _ => rfl
  have D13 : DefM K CT "done" "Table.done" sDone ["self", "call", "n"] f13 _ := ⟨F13, ⟨a13, i13, k13⟩, B13⟩
  have F14 := fun_mk (st := sAnswer) l14 c14 k14
  have B14 := F14.binds (ps := ["self", "call", "n"]) fun _ _ _ _ _ _ us hl => match us, hl with | [_, _, _], _ => rfl
  have D14 : DefM K CT "answer" "Table.answer" sAnswer ["self", "call", "n"] f14 _ := ⟨F14, ⟨a14, i14, k14⟩, B14⟩
  have F15 := fun_mk (st := sCommon) l15 c15 k15
  have B15 := F15.binds (ps := ["one", "other"]) fun _ _ _ _ _ _ us hl => match us, hl with | [_, _], _ => rfl
  have D15 : Def K mg "common" sCommon ["one", "other"] f15 _ := ⟨F15, PySem.W.mg_of X G a15, B15⟩
  have F16 := fun_mk (st := sFraction) l16 c16 k16
  have B16 := F16.binds (ps := ["above", "below"]) fun _ _ _ _ _ _ us hl => match us, hl with | [_, _], _ => rfl
  have D16 : Def K mg "fraction" sFraction ["above", "below"] f16 _ := ⟨F16, PySem.W.mg_of X G a16, B16⟩
  have F17 := fun_mk (st := sPlus) l17 c17 k17
  have B17 := F17.binds (ps := ["one", "other"]) fun _ _ _ _ _ _ us hl => match us, hl with | [_, _], _ => rfl
  have D17 : Def K mg "plus" sPlus ["one", "other"] f17 _ := ⟨F17, PySem.W.mg_of X G a17, B17⟩
  have F18 := fun_mk (st := sTimes) l18 c18 k18
  have B18 := F18.binds (ps := ["one", "other"]) fun _ _ _ _ _ _ us hl => match us, hl with | [_, _], _ => rfl
  have D18 : Def K mg "times" sTimes ["one", "other"] f18 _ := ⟨F18, PySem.W.mg_of X G a18, B18⟩
  have F19 := fun_mk (st := sOver) l19 c19 k19
  have B19 := F19.binds (ps := ["one", "other"]) fun _ _ _ _ _ _ us hl => match us, hl with | [_, _], _ => rfl
  have D19 : Def K mg "over" sOver ["one", "other"] f19 _ := ⟨F19, PySem.W.mg_of X G a19, B19⟩
  have F20 := fun_mk (st := sRest) l20 c20 k20
  have B20 := F20.binds (ps := ["one"]) fun _ _ _ _ _ _ us hl => match us, hl with | [_], _ => rfl
  have D20 : Def K mg "rest_of" sRest ["one"] f20 _ := ⟨F20, PySem.W.mg_of X G a20, B20⟩
  have F21 := fun_mk (st := sLess) l21 c21 k21
  have B21 := F21.binds (ps := ["one", "other"]) fun _ _ _ _ _ _ us hl => match us, hl with | [_, _], _ => rfl
  have D21 : Def K mg "is_less" sLess ["one", "other"] f21 _ := ⟨F21, PySem.W.mg_of X G a21, B21⟩
  have F22 := fun_mk (st := sThird) l22 c22 k22
  have B22 := F22.binds (ps := ["one", "other"]) fun _ _ _ _ _ _ us hl => match us, hl with | [_, _], _ => rfl
  have D22 : Def K mg "third_of" sThird ["one", "other"] f22 _ := ⟨F22, PySem.W.mg_of X G a22, B22⟩
  have F23 := fun_mk (st := sThree) l23 c23 k23
  have B23 := F23.binds (ps := ["strengths", "winner", "loser"]) fun _ _ _ _ _ _ us hl => match us, hl with | [_, _, _], _ => rfl
  have D23 : Def K mg "three_bouts" sThree ["strengths", "winner", "loser"] f23 _ := ⟨F23, PySem.W.mg_of X G a23, B23⟩
  have F24 := fun_mk (st := sRound) l24 c24 k24
  have B24 := F24.binds (ps := ["strengths", "winner", "loser"]) fun _ _ _ _ _ _ us hl => match us, hl with | [_, _, _], _ => rfl
  have D24 : Def K mg "chance_of_round" sRound ["strengths", "winner", "loser"] f24 _ := ⟨F24, PySem.W.mg_of X G a24, B24⟩
  have F25 := fun_mk (st := sBehind) l25 c25 k25
  have B25 := F25.binds (ps := ["strengths", "winner", "loser", "wrestler"]) fun _ _ _ _ _ _ us hl => match us, hl with | [_, _, _, _], _ => rfl
  have D25 : Def K mg "likely_behind" sBehind ["strengths", "winner", "loser", "wrestler"] f25 _ := ⟨F25, PySem.W.mg_of X G a25, B25⟩
  have F26 := fun_mk (st := sLong) l26 c26 k26
  have B26 := F26.binds (ps := ["strengths", "winner", "loser"]) fun _ _ _ _ _ _ us hl => match us, hl with | [_, _, _], _ => rfl
  have D26 : Def K mg "long_behind" sLong ["strengths", "winner", "loser"] f26 _ := ⟨F26, PySem.W.mg_of X G a26, B26⟩
  have F27 := fun_mk (st := sFirst) l27 c27 k27
  have B27 := F27.binds (ps := ["strengths", "one", "other"]) fun _ _ _ _ _ _ us hl => match us, hl with | [_, _, _], _ => rfl
  have D27 : Def K mg "first_bouts" sFirst ["strengths", "one", "other"] f27 _ := ⟨F27, PySem.W.mg_of X G a27, B27⟩
  have F28 := fun_mk (st := sMay) l28 c28 k28
  have B28 := F28.binds (ps := ["strengths", "one", "other"]) fun _ _ _ _ _ _ us hl => match us, hl with | [_, _, _], _ => rfl
  have D28 : Def K mg "may_go_round" sMay ["strengths", "one", "other"] f28 _ := ⟨F28, PySem.W.mg_of X G a28, B28⟩
  have F29 := fun_mk (st := sLikely) l29 c29 k29
  have B29 := F29.binds (ps := ["strengths", "one", "other", "wrestler"]) fun _ _ _ _ _ _ us hl => match us, hl with | [_, _, _, _], _ => rfl
  have D29 : Def K mg "likely" sLikely ["strengths", "one", "other", "wrestler"] f29 _ := ⟨F29, PySem.W.mg_of X G a29, B29⟩
  have F30 := fun_mk (st := sHow) l30 c30 k30
  have B30 := F30.binds (ps := ["strengths", "one", "other"]) fun _ _ _ _ _ _ us hl => match us, hl with | [_, _, _], _ => rfl
  have D30 : Def K mg "how_long" sHow ["strengths", "one", "other"] f30 _ := ⟨F30, PySem.W.mg_of X G a30, B30⟩
  have F31 := fun_mk (st := sTwoW) l31 c31 k31
  have B31 := F31.binds (ps := ["waiting"]) fun _ _ _ _ _ _ us hl => match us, hl with | [_], _ => rfl
  have D31 : Def K mg "two_without" sTwoW ["waiting"] f31 _ := ⟨F31, PySem.W.mg_of X G a31, B31⟩
  have F32 := fun_mk (st := sBest) l32 c32 k32
  have B32 := F32.binds (ps := ["strengths", "wrestler"]) fun _ _ _ _ _ _ us hl => match us, hl with | [_, _], _ => rfl
  have D32 : Def K mg "best_wait" sBest ["strengths", "wrestler"] f32 _ := ⟨F32, PySem.W.mg_of X G a32, B32⟩
  have F33 := fun_mk (st := sWalked) l33 c33 k33
  have B33 := F33.binds (ps := ["one", "other", "bouts"]) fun _ _ _ _ _ _ us hl => match us, hl with | [_, _, _], _ => rfl
  have D33 : Def K mg "walked" sWalked ["one", "other", "bouts"] f33 _ := ⟨F33, PySem.W.mg_of X G a33, B33⟩
  have F34 := fun_mk (st := sWant) l34 c34 k34
  have B34 := F34.binds (ps := ["truth", "number"]) fun _ _ _ _ _ _ us hl => match us, hl with | [_, _], _ => rfl
  have D34 : Def K mg "want" sWant ["truth", "number"] f34 _ := ⟨F34, PySem.W.mg_of X G a34, B34⟩
  have F35 := fun_mk (st := sWantW) l35 c35 k35
  have B35 := F35.binds (ps := ["some"]) fun _ _ _ _ _ _ us hl => match us, hl with | [_], _ => rfl
  have D35 : Def K mg "want_wrestlers" sWantW ["some"] f35 _ := ⟨F35, PySem.W.mg_of X G a35, B35⟩
  have F36 := fun_mk (st := sWantT) l36 c36 k36
  have B36 := F36.binds (ps := ["one", "other"]) fun _ _ _ _ _ _ us hl => match us, hl with | [_, _], _ => rfl
  have D36 : Def K mg "want_two" sWantT ["one", "other"] f36 _ := ⟨F36, PySem.W.mg_of X G a36, B36⟩
  have F37 := fun_mk (st := sAns) l37 c37 k37
  have B37 := F37.binds (ps := ["calls"]) fun _ _ _ _ _ _ us hl => match us, hl with | [_], _ => rfl
  have D37 : Def K mg "answers" sAns ["calls"] fa _ := ⟨F37, PySem.W.mg_of X G a37, B37⟩
  refine ⟨PySem.W.fnOf "answers" "answers" (defArgs sAns) (defBody sAns) (defScope sAns) .none kV37 dc37 pm37 an37 cd37 ct37, fun s us hu => match us, hu with | [_], _ => .of_eq rfl, fun base _ _ => ?_⟩
  have H_common := D15.has (ok_common (P := P) (w := w) (base := base) D15)
  have H_fraction := D16.has (ok_fraction D16 H_common)
  have H_plus := D17.has (ok_pluss D17 H_fraction)
  have H_times := D18.has (ok_timess D18 H_fraction)
  have H_over := D19.has (ok_overs D19 H_fraction)
  have H_rest := D20.has (ok_rests D20 H_fraction)
  have H_less := D21.has (ok_less (P := P) (w := w) (base := base) D21)
  have H_sI := D1.has (ok_sInit (P := P) (w := w) (base := base) D1 T)
  have H_beats := D5.has (ok_beatss D5 T H_fraction)
  have H_third := D22.has (ok_third (P := P) (w := w) (base := base) D22)
  have H_three := D23.has (ok_threes D23 T H_third H_beats)
  have H_round := D24.has (ok_rounds D24 T H_three H_times H_rest)
  have H_behind := D25.has (ok_behinds D25 T H_three H_times H_rest H_over)
  have H_longB := D26.has (ok_longs D26 T H_three H_times H_plus H_rest H_over)
  have H_first := D27.has (ok_firsts D27 T H_beats)
  have H_may := D28.has (ok_may D28 T H_first H_round)
  have H_likely := D29.has (ok_likely D29 T H_first H_times H_plus H_behind)
  have H_how := D30.has (ok_how D30 T H_first H_times H_plus H_longB)
  have H_twoW := D31.has (ok_twoW (P := P) (w := w) (base := base) D31 T)
  have H_best := D32.has (ok_best D32 T H_twoW H_may H_likely H_less)
  have H_wI := D2.has (ok_wInit (P := P) (w := w) (base := base) D2 T)
  have H_go := D6.has (ok_go D6 T H_third)
  have H_walked := D33.has (ok_walked D33 T H_wI H_go)
  have H_rI := D4.has (P := P) (w := w) (base := base) T
  have H_want := D34.has (ok_want D34 T H_rI)
  have H_wantW := D35.has (ok_wantW D35 T H_want)
  have H_wantT := D36.has (ok_wantT D36 T H_want H_wantW)
  have H_tI := D3.has (ok_tInit D3 T H_sI)
  have H_begin := D7.has (ok_begin D7 T H_want H_sI)
  have H_end := D8.has (ok_end D8 T H_want H_may)
  have H_odds := D9.has (ok_odd D9 T H_wantT H_wantW H_end H_likely)
  have H_long := D10.has (ok_longM D10 T H_wantT H_end H_how)
  have H_wait := D11.has (ok_wait D11 T H_want H_wantW H_best)
  have H_check := D12.has (ok_check D12 T H_wantT H_want H_walked)
  have H_done := D13.has (ok_done D13 T H_begin H_odds H_long H_wait H_check)
  have H_answer := D14.has (ok_answer D14 T H_done)
  exact ok_answers D37 T H_tI H_answer
end Tb
open PySem PySem.W PyProof.Rows
set_option maxRecDepth 100000 in
set_option maxHeartbeats 8000000 in
theorem PySem.Challenge.cw_threebouts_s01_answers_holds : PySem.Challenge.rw_threebouts_s01_answers.Holds := by
  w_on; k_headS; (case hw => exact ⟨[.list [.int 2, .int 2, .int 0, .int 0, .int 0]], by decide +kernel, by decide +kernel⟩)
  k_fillS
  refine L2.walk_specK (r := PySem.Challenge.rw_threebouts_s01_answers) (k := 12) (CX := L2.CX0) (ps := ["calls"]) (sp := Tb.spAns) (by decide +kernel) rfl rfl ⟨rfl, by decide, by decide⟩ (fun w h Y => PySem.W.kIn_of Y) ?F ?S (fun _ _ _ _ z => z)
  case F =>
    intro w mg fa h Y KX G hmg
    refine' Tb.all_mk KX G hmg ?aS ?pgS ?hdS ?poS ?saS ?mkS ?kcS ?nSwon ?aW ?pgW ?hdW ?poW ?saW ?mkW ?kcW ?nWwinner ?nWloser ?nWmany ?nWchampion ?aT ?pgT ?hdT ?poT ?saT ?mkT ?kcT ?nTstrengths ?aR ?xR ?saR ?gaR ?ggR ?nnR ?kcR ?eR ?tR ?hdR ?iR ?sR ?exi ?bException ?bany ?ball ?blist ?blen ?iHUNDRED ?iNOBODY ?iBEGINS ?iODDS ?iLONG ?iWAIT ?iFIFTY ?iBAD ?iNO_WRESTLERS ?iFOR_EVER ?gNOUGHT ?uNOUGHT ?gONE ?uONE ?gWRESTLERS ?uWRESTLERS ?a1 ?i1 ?l1 ?c1 ?k1 ?a2 ?i2 ?l2 ?c2 ?k2 ?a3 ?i3 ?l3 ?c3 ?k3 ?a4 ?t4 ?l4 ?c4 ?k4 ?a5 ?i5 ?l5 ?c5 ?k5 ?a6 ?i6 ?l6 ?c6 ?k6 ?a7 ?i7 ?l7 ?c7 ?k7 ?a8 ?i8 ?l8 ?c8 ?k8 ?a9 ?i9 ?l9 ?c9 ?k9 ?a10 ?i10 ?l10 ?c10 ?k10 ?a11 ?i11 ?l11 ?c11 ?k11 ?a12 ?i12 ?l12 ?c12 ?k12 ?a13 ?i13 ?l13 ?c13 ?k13 ?a14 ?i14 ?l14 ?c14 ?k14 ?a15 ?l15 ?c15 ?k15 ?a16 ?l16 ?c16 ?k16 ?a17 ?l17 ?c17 ?k17 ?a18 ?l18 ?c18 ?k18 ?a19 ?l19 ?c19 ?k19 ?a20 ?l20 ?c20 ?k20 ?a21 ?l21 ?c21 ?k21 ?a22 ?l22 ?c22 ?k22 ?a23 ?l23 ?c23 ?k23 ?a24 ?l24 ?c24 ?k24 ?a25 ?l25 ?c25 ?k25 ?a26 ?l26 ?c26 ?k26 ?a27 ?l27 ?c27 ?k27 ?a28 ?l28 ?c28 ?k28 ?a29 ?l29 ?c29 ?k29 ?a30 ?l30 ?c30 ?k30 ?a31 ?l31 ?c31 ?k31 ?a32 ?l32 ?c32 ?k32 ?a33 ?l33 ?c33 ?k33 ?a34 ?l34 ?c34 ?k34 ?a35 ?l35 ?c35 ?k35 ?a36 ?l36 ?c36 ?k36 ?a37 ?l37 ?c37 ?k37
    (case aS => k_is)
    (case pgS => k_is)
    (case hdS => k_is)
    (case poS => k_is)
    (case saS => k_is)
    (case mkS => k_is)
    (case kcS => k_is)
    (case nSwon => k_is)
    (case aW => k_is)
    (case pgW => k_is)
    (case hdW => k_is)
    (case poW => k_is)
    (case saW => k_is)
    (case mkW => k_is)
    (case kcW => k_is)
    (case nWwinner => k_is)
    (case nWloser => k_is)
    (case nWmany => k_is)
    (case nWchampion => k_is)
    (case aT => k_is)
    (case pgT => k_is)
    (case hdT => k_is)
    (case poT => k_is)
    (case saT => k_is)
    (case mkT => k_is)
    (case kcT => k_is)
    (case nTstrengths => k_is)
    (case aR => k_is)
    (case xR => k_is)
    (case saR => k_is)
    (case gaR => k_is)
    (case ggR => k_is)
    (case nnR => k_is)
    (case kcR => k_is)
    (case eR => k_is)
    (case tR => k_is)
    (case hdR => k_is)
    (case iR => k_is)
    (case sR => first | rfl | k_is)
    (case exi => first | k_is | rfl | kernel_rfl)
    (case bException => k_is)
    (case bany => k_is)
    (case ball => k_is)
    (case blist => k_is)
    (case blen => k_is)
    (case iHUNDRED => k_is)
    (case iNOBODY => k_is)
    (case iBEGINS => k_is)
    (case iODDS => k_is)
    (case iLONG => k_is)
    (case iWAIT => k_is)
    (case iFIFTY => k_is)
    (case iBAD => k_is)
    (case iNO_WRESTLERS => k_is)
    (case iFOR_EVER => k_is)
    (case gNOUGHT => k_is)
    (case uNOUGHT => k_is)
    (case gONE => k_is)
    (case uONE => k_is)
    (case gWRESTLERS => k_is)
    (case uWRESTLERS => k_is)
    (case a1 => k_is)
    (case i1 => k_is)
    (case l1 => k_is)
    (case c1 => k_is)
    (case k1 => k_is)
    (case a2 => k_is)
    (case i2 => k_is)
    (case l2 => k_is)
    (case c2 => k_is)
    (case k2 => k_is)
    (case a3 => k_is)
    (case i3 => k_is)
    (case l3 => k_is)
    (case c3 => k_is)
    (case k3 => k_is)
    (case a4 => k_is)
    (case t4 => k_is)
    (case l4 => k_is)
    (case c4 => k_is)
    (case k4 => k_is)
    (case a5 => k_is)
    (case i5 => k_is)
    (case l5 => k_is)
    (case c5 => k_is)
    (case k5 => k_is)
    (case a6 => k_is)
    (case i6 => k_is)
    (case l6 => k_is)
    (case c6 => k_is)
    (case k6 => k_is)
    (case a7 => k_is)
    (case i7 => k_is)
    (case l7 => k_is)
    (case c7 => k_is)
    (case k7 => k_is)
    (case a8 => k_is)
    (case i8 => k_is)
    (case l8 => k_is)
    (case c8 => k_is)
    (case k8 => k_is)
    (case a9 => k_is)
    (case i9 => k_is)
    (case l9 => k_is)
    (case c9 => k_is)
    (case k9 => k_is)
    (case a10 => k_is)
    (case i10 => k_is)
    (case l10 => k_is)
    (case c10 => k_is)
    (case k10 => k_is)
    (case a11 => k_is)
    (case i11 => k_is)
    (case l11 => k_is)
    (case c11 => k_is)
    (case k11 => k_is)
    (case a12 => k_is)
    (case i12 => k_is)
    (case l12 => k_is)
    (case c12 => k_is)
    (case k12 => k_is)
    (case a13 => k_is)
    (case i13 => k_is)
    (case l13 => k_is)
    (case c13 => k_is)
    (case k13 => k_is)
    (case a14 => k_is)
    (case i14 => k_is)
    (case l14 => k_is)
    (case c14 => k_is)
    (case k14 => k_is)
    (case a15 => k_is)
    (case l15 => k_is)
    (case c15 => k_is)
    (case k15 => k_is)
    (case a16 => k_is)
    (case l16 => k_is)
    (case c16 => k_is)
    (case k16 => k_is)
    (case a17 => k_is)
    (case l17 => k_is)
    (case c17 => k_is)
    (case k17 => k_is)
    (case a18 => k_is)
    (case l18 => k_is)
    (case c18 => k_is)
    (case k18 => k_is)
    (case a19 => k_is)
    (case l19 => k_is)
    (case c19 => k_is)
    (case k19 => k_is)
    (case a20 => k_is)
    (case l20 => k_is)
    (case c20 => k_is)
    (case k20 => k_is)
    (case a21 => k_is)
    (case l21 => k_is)
    (case c21 => k_is)
    (case k21 => k_is)
    (case a22 => k_is)
    (case l22 => k_is)
    (case c22 => k_is)
    (case k22 => k_is)
    (case a23 => k_is)
    (case l23 => k_is)
    (case c23 => k_is)
    (case k23 => k_is)
    (case a24 => k_is)
    (case l24 => k_is)
    (case c24 => k_is)
    (case k24 => k_is)
    (case a25 => k_is)
    (case l25 => k_is)
    (case c25 => k_is)
    (case k25 => k_is)
    (case a26 => k_is)
    (case l26 => k_is)
    (case c26 => k_is)
    (case k26 => k_is)
    (case a27 => k_is)
    (case l27 => k_is)
    (case c27 => k_is)
    (case k27 => k_is)
    (case a28 => k_is)
    (case l28 => k_is)
    (case c28 => k_is)
    (case k28 => k_is)
    (case a29 => k_is)
    (case l29 => k_is)
    (case c29 => k_is)
    (case k29 => k_is)
    (case a30 => k_is)
    (case l30 => k_is)
    (case c30 => k_is)
    (case k30 => k_is)
    (case a31 => k_is)
    (case l31 => k_is)
    (case c31 => k_is)
    (case k31 => k_is)
    (case a32 => k_is)
    (case l32 => k_is)
    (case c32 => k_is)
    (case k32 => k_is)
    (case a33 => k_is)
    (case l33 => k_is)
    (case c33 => k_is)
    (case k33 => k_is)
    (case a34 => k_is)
    (case l34 => k_is)
    (case c34 => k_is)
    (case k34 => k_is)
    (case a35 => k_is)
    (case l35 => k_is)
    (case c35 => k_is)
    (case k35 => k_is)
    (case a36 => k_is)
    (case l36 => k_is)
    (case c36 => k_is)
    (case k36 => k_is)
    (case a37 => k_is)
    (case l37 => k_is)
    (case c37 => k_is)
    (case k37 => k_is)
  case S =>
    intro K H xs a hO hwi hask hx
    cases hx with
    | cons h1 h2 =>
      cases h2
      cases h1 with
      | lst hs ha =>
        have e := L2.ints_dw a.1 _ ha
        subst e
        exact ⟨_, a.1, rfl, hs, hask, fun H' p hp => .lst (L2.SqL.of hp) (L2.dw_ints _)⟩
#print axioms PySem.Challenge.cw_threebouts_s01_answers_holds
