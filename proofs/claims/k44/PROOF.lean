import PyProof.Rows.All
import Wide.All
import OpenK.AllK
import Wide.FinOn
import PySem.PyData
import HandS.Deep
import HandS.ForMost
import HandS.Wide
import HandS.Defaults
import HandS.HeadHook2
import HandS.Zip
import HandS.NoneIn
import HandS.More
import HandS.AnyAll
import HandS.GenList
import HandS.GenOver
import KE.DataFind
import HandS.HeadHook4
import KE.KStateDown
import HandS.Head0
import HandS.Head1
import HandS.Head2
import PyProof.ReprText
import PyProof.ReprRoads
import PyProof.StrBlockL
import PyProof.FitsInt
import HandS.EndTab
import KE.KNestM
import PySem.Challenge.RW_raytrain_k44_edges_that_are_not_needed
section
set_option linter.all false
/-! M0: fractions, planes, trains as plain data; bounds by bits. -/
namespace RT
open PySem

/-! ### encodings -/
def fr (q : Rat) : PyData := .tuple [.int q.num, .int (q.den : Int)]
def ofr : Option Rat → PyData
  | none => .none
  | some q => fr q
abbrev Ray := Rat × Rat
def ray (z : Ray) : PyData := .tuple [fr z.1, fr z.2]
structure Mp where
  a : Rat
  b : Rat
  c : Rat
  d : Rat
  e : Rat
  f : Rat
def mp (m : Mp) : PyData := .tuple [fr m.a, fr m.b, fr m.c, fr m.d, fr m.e, fr m.f]
structure Pl where
  p : Int
  q : Int
  r : Int
deriving DecidableEq
def pl (h : Pl) : PyData := .tuple [.int h.p, .int h.q, .int h.r]
inductive El where
  | gap (x : Rat)
  | lens (p c : Rat)
  | prism (x : Rat)
  | afocal (m : Rat)
  | stop (lo hi : Option Rat)
deriving DecidableEq
def el : El → PyData
  | .gap x => .tuple [.str "gap", fr x]
  | .lens p c => .tuple [.str "lens", fr p, fr c]
  | .prism x => .tuple [.str "prism", fr x]
  | .afocal m => .tuple [.str "afocal", fr m]
  | .stop lo hi => .tuple [.str "stop", ofr lo, ofr hi]
/-- an edge: the place of its stop; is it the upper one -/
structure Ed where
  i : Nat
  up : Bool
deriving DecidableEq
def sideS (b : Bool) : Str := if b then "upper" else "lower"
def ed (e : Ed) : PyData := .tuple [.int (e.i : Int), .str (sideS e.up)]
def edp (z : Ed × Pl) : PyData := .tuple [ed z.1, pl z.2]

/-! ### bits -/
/-- numerator below 2 ^ n, denominator at most 2 ^ d -/
def RB (n d : Nat) (q : Rat) : Prop := q.num.natAbs < 2 ^ n ∧ q.den ≤ 2 ^ d
theorem pow_mono {n m : Nat} (h : n ≤ m) : 2 ^ n ≤ 2 ^ m := Nat.pow_le_pow_right (by decide) h
theorem RB.mono {n d m e : Nat} {q : Rat} (h : RB n d q) (l : n ≤ m) (l2 : d ≤ e) : RB m e q := ⟨Nat.lt_of_lt_of_le h.1 (pow_mono l), Nat.le_trans h.2 (pow_mono l2)⟩
theorem num_divInt_le (a b : Int) : (Rat.divInt a b).num.natAbs ≤ a.natAbs := by
  rw [Rat.num_divInt]
  have hd : ((b.gcd a : Nat) : Int) ∣ b.sign * a := Int.dvd_mul_of_dvd_right (Int.gcd_dvd_right b a)
  rw [Int.natAbs_ediv_of_dvd hd, Int.natAbs_mul]
  refine Nat.le_trans (Nat.div_le_self _ _) ?_
  have hs : b.sign.natAbs ≤ 1 := by
    rcases Int.lt_trichotomy b 0 with h | h | h
    · rw [Int.sign_eq_neg_one_of_neg h]; decide
    · subst h; decide
    · rw [Int.sign_eq_one_of_pos h]; decide
  calc b.sign.natAbs * a.natAbs ≤ 1 * a.natAbs := Nat.mul_le_mul_right _ hs
    _ = a.natAbs := Nat.one_mul _
theorem den_divInt_le {a b : Int} (hb : b ≠ 0) : (Rat.divInt a b).den ≤ b.natAbs := by
  rw [Rat.den_divInt, if_neg hb]
  exact Nat.div_le_self _ _
theorem RB.divInt {n d : Nat} {a b : Int} (ha : a.natAbs < 2 ^ n) (hb : b.natAbs ≤ 2 ^ d) (h0 : b ≠ 0) : RB n d (Rat.divInt a b) :=
  ⟨Nat.lt_of_le_of_lt (num_divInt_le a b) ha, Nat.le_trans (den_divInt_le h0) hb⟩
theorem imul_lt {a b : Int} {n m : Nat} (ha : a.natAbs < 2 ^ n) (hb : b.natAbs < 2 ^ m) : (a * b).natAbs < 2 ^ (n + m) := by
  rw [Int.natAbs_mul, Nat.pow_add]; exact Nat.mul_lt_mul'' ha hb
theorem imul_lt2 {a b : Int} {n m : Nat} (ha : a.natAbs < 2 ^ n) (hb : b.natAbs ≤ 2 ^ m) : (a * b).natAbs < 2 ^ (n + m) := by
  rw [Int.natAbs_mul, Nat.pow_add]
  exact Nat.lt_of_le_of_lt (Nat.mul_le_mul_left _ hb) (Nat.mul_lt_mul_of_pos_right ha (Nat.two_pow_pos m))
theorem imul_le {a b : Int} {n m : Nat} (ha : a.natAbs ≤ 2 ^ n) (hb : b.natAbs ≤ 2 ^ m) : (a * b).natAbs ≤ 2 ^ (n + m) := by
  rw [Int.natAbs_mul, Nat.pow_add]; exact Nat.mul_le_mul ha hb
theorem iadd_lt {a b : Int} {n m : Nat} (ha : a.natAbs < 2 ^ n) (hb : b.natAbs < 2 ^ m) : (a + b).natAbs < 2 ^ (max n m + 1) := by
  rw [Nat.pow_succ]
  have := Int.natAbs_add_le a b
  have h1 := pow_mono (Nat.le_max_left n m)
  have h2 := pow_mono (Nat.le_max_right n m)
  omega
theorem isub_lt {a b : Int} {n m : Nat} (ha : a.natAbs < 2 ^ n) (hb : b.natAbs < 2 ^ m) : (a - b).natAbs < 2 ^ (max n m + 1) := by
  rw [Nat.pow_succ]
  have := Int.natAbs_sub_le a b
  have h1 := pow_mono (Nat.le_max_left n m)
  have h2 := pow_mono (Nat.le_max_right n m)
  omega
theorem lt_mono {a n m : Nat} (h : a < 2 ^ n) (l : n ≤ m) : a < 2 ^ m := Nat.lt_of_lt_of_le h (pow_mono l)
theorem den_ne (q : Rat) : (q.den : Int) ≠ 0 := by have := q.den_nz; omega
theorem add_divInt (x y : Rat) : Rat.divInt (x.num * y.den + y.num * x.den) (x.den * y.den) = x + y := by
  have h := Rat.divInt_add_divInt x.num y.num (den_ne x) (den_ne y)
  rw [Rat.num_divInt_den, Rat.num_divInt_den] at h
  exact h.symm
theorem mul_divInt (x y : Rat) : Rat.divInt (x.num * y.num) (x.den * y.den) = x * y := by
  have h := Rat.divInt_mul_divInt x.num y.num (d₁ := x.den) (d₂ := y.den)
  rw [Rat.num_divInt_den, Rat.num_divInt_den] at h
  exact h.symm
theorem div_divInt (x y : Rat) : Rat.divInt (x.num * y.den) (x.den * y.num) = x / y := by
  rw [Rat.div_def, Rat.inv_def, ← Rat.divInt_mul_divInt, Rat.num_divInt_den]
theorem RB.add {n d m e : Nat} {x y : Rat} (hx : RB n d x) (hy : RB m e y) : RB (max (n + e) (m + d) + 1) (d + e) (x + y) := by
  rw [← add_divInt]
  refine RB.divInt (iadd_lt (imul_lt2 hx.1 (by simpa using hy.2)) (imul_lt2 hy.1 (by simpa using hx.2))) (imul_le (by simpa using hx.2) (by simpa using hy.2)) (Int.mul_ne_zero (den_ne x) (den_ne y))
theorem RB.neg {n d : Nat} {x : Rat} (hx : RB n d x) : RB n d (-x) := by
  refine ⟨?_, hx.2⟩
  rw [Rat.neg_num, Int.natAbs_neg]; exact hx.1
theorem RB.sub {n d m e : Nat} {x y : Rat} (hx : RB n d x) (hy : RB m e y) : RB (max (n + e) (m + d) + 1) (d + e) (x - y) := by
  rw [Rat.sub_eq_add_neg]; exact hx.add hy.neg
theorem RB.mul {n d m e : Nat} {x y : Rat} (hx : RB n d x) (hy : RB m e y) : RB (n + m) (d + e) (x * y) := by
  rw [← mul_divInt]
  exact RB.divInt (imul_lt hx.1 hy.1) (imul_le (by simpa using hx.2) (by simpa using hy.2)) (Int.mul_ne_zero (den_ne x) (den_ne y))
theorem RB.div {n d m e : Nat} {x y : Rat} (hx : RB n d x) (hy : RB m e y) (h0 : y ≠ 0) : RB (n + e) (d + m) (x / y) := by
  rw [← div_divInt]
  exact RB.divInt (imul_lt2 hx.1 (by simpa using hy.2)) (imul_le (by simpa using hx.2) (Nat.le_of_lt hy.1)) (Int.mul_ne_zero (den_ne x) fun z => h0 (Rat.num_eq_zero.mp z))
theorem RB.int {n : Nat} {i : Int} (h : i.natAbs < 2 ^ n) : RB n 0 (i : Rat) := ⟨by rw [Rat.num_intCast]; exact h, by rw [Rat.den_intCast]; exact Nat.le_refl _⟩
theorem RB.zero : RB 0 0 0 := RB.int (i := 0) (by decide)
theorem RB.one : RB 1 0 1 := RB.int (i := 1) (by decide)

/-! ### fraction(n, d) -/
theorem frac_pos {n d : Int} (h : 0 < d) : n.fdiv (Int.gcd n d : Nat) = (Rat.divInt n d).num ∧ d.fdiv (Int.gcd n d : Nat) = ((Rat.divInt n d).den : Int) := by
  have hg : (0 : Int) ≤ ((Int.gcd n d : Nat) : Int) := Int.natCast_nonneg _
  rw [Int.fdiv_eq_ediv_of_nonneg _ hg, Int.fdiv_eq_ediv_of_nonneg _ hg, Rat.num_divInt, Rat.den_divInt, if_neg (by omega), Int.sign_eq_one_of_pos h, Int.one_mul, Int.gcd_comm d n]
  refine ⟨rfl, ?_⟩
  rw [Int.natCast_ediv, Int.natAbs_of_nonneg (by omega)]
theorem fdiv_neg_of_dvd {a g : Int} (h : g ∣ a) (h0 : g ≠ 0) : a.fdiv (-g) = (-a) / g := by
  obtain ⟨k, rfl⟩ := h
  rw [← Int.mul_neg g k, Int.mul_ediv_cancel_left _ h0, show g * k = (-g) * (-k) by rw [Int.neg_mul_neg], Int.mul_fdiv_cancel_left _ (by omega)]
theorem frac_neg {n d : Int} (h : d < 0) : n.fdiv (-(Int.gcd n d : Nat)) = (Rat.divInt n d).num ∧ d.fdiv (-(Int.gcd n d : Nat)) = ((Rat.divInt n d).den : Int) := by
  have h0 : ((Int.gcd n d : Nat) : Int) ≠ 0 := by
    intro z
    have z' : Int.gcd n d = 0 := by omega
    rw [Int.gcd_eq_zero_iff] at z'
    omega
  rw [fdiv_neg_of_dvd (Int.gcd_dvd_left n d) h0, fdiv_neg_of_dvd (Int.gcd_dvd_right n d) h0, Rat.num_divInt, Rat.den_divInt, if_neg (by omega), Int.sign_eq_neg_one_of_neg h, Int.neg_one_mul, Int.gcd_comm d n]
  refine ⟨rfl, ?_⟩
  rw [Int.natCast_ediv]
  congr 1
  omega
theorem gcd_le {n d : Int} (h : d ≠ 0) : Int.gcd n d ≤ d.natAbs := Nat.le_of_dvd (by omega) (Int.gcd_dvd_natAbs_right n d)
theorem gcd_pos {n d : Int} (h : d ≠ 0) : 0 < Int.gcd n d := by
  rcases Nat.eq_zero_or_pos (Int.gcd n d) with e | e
  · rw [Int.gcd_eq_zero_iff] at e; exact absurd e.2 h
  · exact e
/-- -1, 0, 1 -/
def sgn (q : Rat) : Int := if q.num > 0 then 1 else if q.num < 0 then -1 else 0
def cmp (x y : Rat) : Int := sgn (x - y)
theorem num_pos {q : Rat} : 0 < q.num ↔ 0 < q := by
  have h1 := @Rat.num_nonneg q
  have h2 := @Rat.num_eq_zero q
  constructor
  · intro h
    have := h1.mp (by omega)
    rcases Rat.le_iff_lt_or_eq.mp this with e | e
    · exact e
    · rw [← e] at h; exact absurd h (by decide)
  · intro h
    have h3 := h1.mpr (Rat.le_of_lt h)
    rcases Int.lt_or_le 0 q.num with e | e
    · exact e
    · have : q.num = 0 := by omega
      rw [h2.mp this] at h
      exact absurd h Rat.lt_irrefl
theorem num_neg {q : Rat} : q.num < 0 ↔ q < 0 := by
  have h := @num_pos (-q)
  rw [Rat.neg_num] at h
  constructor
  · intro z
    have := h.mp (by omega)
    rw [show (0 : Rat) = -0 from rfl, Rat.neg_lt_neg_iff] at this
    exact this
  · intro z
    have := h.mpr (by rw [show (0 : Rat) = -0 from rfl, Rat.neg_lt_neg_iff]; exact z)
    omega
theorem sgn_neg {q : Rat} : sgn q < 0 ↔ q < 0 := by
  unfold sgn
  rw [← num_neg]
  split <;> (try split) <;> omega
theorem sgn_pos {q : Rat} : 0 < sgn q ↔ 0 < q := by
  unfold sgn
  rw [← num_pos]
  split <;> (try split) <;> omega
theorem sgn_zero {q : Rat} : sgn q = 0 ↔ q = 0 := by
  unfold sgn
  rw [← Rat.num_eq_zero]
  split <;> (try split) <;> omega
theorem cmp_lt {x y : Rat} : cmp x y < 0 ↔ x < y := by
  unfold cmp
  rw [sgn_neg]
  constructor <;> intro h <;> grind
theorem cmp_eq {x y : Rat} : cmp x y = 0 ↔ x = y := by
  unfold cmp
  rw [sgn_zero]
  constructor <;> intro h <;> grind
theorem cmp_le {x y : Rat} : cmp x y ≤ 0 ↔ x ≤ y := by
  have h := @cmp_lt x y
  have h2 := @cmp_eq x y
  rw [Rat.le_iff_lt_or_eq, ← h, ← h2]
  omega
def pick (b v : Option Rat) : Option Rat :=
  match v with
  | none => b
  | some x => match b with
    | none => some x
    | some y => if x < y then some x else some y
def leastO (xs : List (Option Rat)) : Option Rat := xs.foldl pick none
theorem leastO_none (xs : List (Option Rat)) : leastO (xs ++ [none]) = leastO xs := by unfold leastO; rw [List.foldl_append]; rfl
theorem leastO_some (xs : List (Option Rat)) (x : Rat) : leastO (xs ++ [some x]) = pick (leastO xs) (some x) := by unfold leastO; rw [List.foldl_append]; rfl
theorem pick_mem {xs : List (Option Rat)} {c b : Option Rat} : xs.foldl pick c = b → b = c ∨ b ∈ xs := by
  induction xs generalizing c with
  | nil => intro h; exact .inl h.symm
  | cons x xs ih =>
    intro h
    rcases ih h with e | e
    · rw [e]
      cases x with
      | none => exact .inl rfl
      | some x =>
        cases c with
        | none => exact .inr List.mem_cons_self
        | some c =>
          by_cases hlt : x < c
          · skip
            exact .inr (by rw [show pick (some c) (some x) = some x from if_pos hlt]; exact List.mem_cons_self)
          · exact .inl (if_neg hlt)
    · exact .inr (List.mem_cons_of_mem _ e)
theorem least_mem {xs : List (Option Rat)} {b : Rat} (h : leastO xs = some b) : some b ∈ xs := (pick_mem h).resolve_left fun z => nomatch z
def leastL (xs : List Rat) : Option Rat := leastO (xs.map some)
def pickG (b : Option Rat) (x : Rat) : Option Rat :=
  match b with
  | none => some x
  | some y => if y < x then some x else some y
def greatL (xs : List Rat) : Option Rat := xs.foldl pickG none
theorem leastL_add (xs : List Rat) (x : Rat) : leastL (xs ++ [x]) = pick (leastL xs) (some x) := by unfold leastL; rw [List.map_append]; exact leastO_some _ _
theorem greatL_add (xs : List Rat) (x : Rat) : greatL (xs ++ [x]) = pickG (greatL xs) x := by unfold greatL; rw [List.foldl_append]; rfl
theorem leastL_mem {xs : List Rat} {b : Rat} (h : leastL xs = some b) : b ∈ xs := by
  have := least_mem h
  simpa using this
theorem pickG_mem {xs : List Rat} {c : Option Rat} {b : Rat} : xs.foldl pickG c = some b → c = some b ∨ b ∈ xs := by
  induction xs generalizing c with
  | nil => intro h; exact .inl h
  | cons x xs ih =>
    intro h
    rcases ih h with e | e
    · cases c with
      | none => cases e; exact .inr List.mem_cons_self
      | some c =>
        have e' : (if c < x then some x else some c) = some b := e
        by_cases hlt : c < x
        · rw [if_pos hlt] at e'; cases e'; exact .inr List.mem_cons_self
        · rw [if_neg hlt] at e'; exact .inl e'
    · exact .inr (List.mem_cons_of_mem _ e)
theorem greatL_mem {xs : List Rat} {b : Rat} (h : greatL xs = some b) : b ∈ xs := (pickG_mem h).resolve_left fun z => nomatch z
end RT
end
section
set_option linter.all false
/-! M1: what the defs compute, as plain functions. -/
namespace RT
open PySem

theorem eqv_fr (x y : Rat) : PyData.eqv (fr x) (fr y) = decide (x = y) := by
  have h : decide (x = y) = (decide (x.num = y.num) && decide (x.den = y.den)) := by
    rw [← Bool.decide_and]
    exact decide_eq_decide.mpr ⟨fun h => by subst h; exact ⟨rfl, rfl⟩, fun h => Rat.ext h.1 h.2⟩
  rw [h]
  unfold fr
  simp only [PyData.eqv, PyData.eqvAll, Bool.and_true]
  congr 1
  · exact decide_eq_decide.mpr (by omega)

/-! ### maps -/
def idm : Mp := ⟨1, 0, 0, 1, 0, 0⟩
def elMap : El → Mp
  | .gap x => ⟨1, x, 0, 1, 0, 0⟩
  | .lens p c => ⟨1, 0, -p, 1, 0, p * c⟩
  | .prism x => ⟨1, 0, 0, 1, 0, x⟩
  | .afocal m => ⟨m, 0, 0, 1 / m, 0, 0⟩
  | .stop _ _ => idm
def wgt (a b c d : Rat) : Rat := a * b + c * d
def comp (f g : Mp) : Mp := ⟨wgt g.a f.a g.b f.c, wgt g.a f.b g.b f.d, wgt g.c f.a g.d f.c, wgt g.c f.b g.d f.d, wgt g.a f.e g.b f.f + g.e, wgt g.c f.e g.d f.f + g.f⟩
def mapOf (t : List El) : Mp := t.foldl (fun m e => comp m (elMap e)) idm
theorem mapOf_add (t : List El) (e : El) : mapOf (t ++ [e]) = comp (mapOf t) (elMap e) := by unfold mapOf; rw [List.foldl_append]; rfl
def igcd3 (a b c : Int) : Int := (Int.gcd (Int.gcd a b : Nat) c : Nat)
def mkPl (p q r : Rat) : Pl :=
  let s : Int := p.den * q.den * r.den
  let a := p.num * (s / p.den)
  let b := q.num * (s / q.den)
  let c := r.num * (s / r.den)
  ⟨a / igcd3 a b c, b / igcd3 a b c, c / igcd3 a b c⟩
def edgesOf (i : Nat) (lo hi : Option Rat) (m : Mp) : List (Ed × Pl) :=
  (match lo with | none => [] | some x => [(⟨i, false⟩, mkPl (-m.a) (-m.b) (m.e - x))]) ++ (match hi with | none => [] | some y => [(⟨i, true⟩, mkPl m.a m.b (y - m.e))])
def hpAt (t : List El) (j : Nat) : List (Ed × Pl) :=
  match t[j]? with
  | some (.stop lo hi) => edgesOf j lo hi (mapOf (t.take j))
  | _ => []
def hpTo (t : List El) (i : Nat) : List (Ed × Pl) := (List.range i).flatMap (hpAt t)
theorem hpTo_succ (t : List El) (i : Nat) : hpTo t (i + 1) = hpTo t i ++ hpAt t i := by
  unfold hpTo
  rw [List.range_succ, List.flatMap_append]
  simp
def hps (t : List El) : List (Ed × Pl) := hpTo t t.length
def planes (t : List El) : List Pl := (hps t).map (·.2)

/-! ### planes -/
def det (f g : Pl) : Int := f.p * g.q - f.q * g.p
def prod (f g : Pl) : Int := f.p * g.p + f.q * g.q
def size1 (f : Pl) : Int := (f.p.natAbs : Int) + (f.q.natAbs : Int)
def inFirst (h : Pl) : Bool := decide (h.q > 0) || (decide (h.q = 0) && decide (h.p > 0))
def reachOf (h : Pl) : Rat := Rat.divInt h.r (size1 h)
def comesBefore (f g : Pl) : Bool :=
  if inFirst f != inFirst g then inFirst f
  else if det f g ≠ 0 then decide (det f g > 0) else decide (reachOf f < reachOf g)
def insAt {α : Type} (k : Nat) (x : α) (xs : List α) : List α := xs.take k ++ [x] ++ xs.drop k
def ordAdd (found : List Pl) (h : Pl) : List Pl := if h ∈ found then found else insAt (found.filter fun o => comesBefore o h).length h found
def inOrder (hs : List Pl) : List Pl := hs.foldl ordAdd []
def valueAt (h : Pl) (z : Ray) : Rat := (h.p : Rat) * z.1 + (h.q : Rat) * z.2
def contains (hs : List Pl) (z : Ray) : Bool := hs.all fun h => decide (cmp (valueAt h z) (h.r : Rat) ≤ 0)
def oppW (f g : Pl) : Option (List Int) :=
  if det f g ≠ 0 ∨ prod f g ≥ 0 then none
  else
    let d : Int := (Int.gcd (size1 g) (size1 f) : Nat)
    some [size1 g / d, size1 f / d]
def tripL (f g h : Pl) : List Int :=
  let a := det g h
  let b := det h f
  let c := det f g
  if a < 0 then [-a, -b, -c] else [a, b, c]
def tripW (f g h : Pl) : Option (List Int) :=
  if (tripL f g h).any (fun x => decide (x ≤ 0)) then none
  else
    let w := tripL f g h
    let d := igcd3 (w.getD 0 0) (w.getD 1 0) (w.getD 2 0)
    some (w.map fun x => x / d)
def pairsFrom {α β : Type} (f : α → α → β) : List α → List β
  | [] => []
  | x :: xs => xs.map (f x) ++ pairsFrom f xs
def triplesFrom {α β : Type} (f : α → α → α → β) : List α → List β
  | [] => []
  | x :: xs => pairsFrom (f x) xs ++ triplesFrom f xs
abbrev Ow := List Nat × Option (List Int)
def opp2 (x y : Pl × Nat) : Ow := ([x.2, y.2], oppW x.1 y.1)
def opp3 (x y z : Pl × Nat) : Ow := ([x.2, y.2, z.2], tripW x.1 y.1 z.1)
def oppAll (hs : List Pl) : List Ow := pairsFrom opp2 hs.zipIdx ++ triplesFrom opp3 hs.zipIdx
def oppSets (hs : List Pl) : List (List Nat × List Int) := (oppAll hs).filterMap fun o => o.2.map fun w => (o.1, w)
def numberOf (hs : List Pl) (ix : List Nat) (ws : List Int) : Int := ((ix.zip ws).map fun z => ((hs.getD z.1 ⟨0, 0, 0⟩).r * z.2)).sum
def isEmp (hs : List Pl) : Bool := (oppSets hs).any fun o => decide (numberOf hs o.1 o.2 < 0)
def single (h : Pl) (p q : Rat) : Option Rat :=
  if (h.p : Rat) * q - (h.q : Rat) * p ≠ 0 ∨ (h.p : Rat) * p + (h.q : Rat) * q ≤ 0 then none
  else some (((h.p : Rat) * p + (h.q : Rat) * q) / (prod h h : Rat) * (h.r : Rat))
def pairWs (f g : Pl) (p q : Rat) : Option (Rat × Rat) :=
  if det f g = 0 then none
  else
    let one := (p * (g.q : Rat) - q * (g.p : Rat)) / (det f g : Rat)
    let other := (q * (f.p : Rat) - p * (f.q : Rat)) / (det f g : Rat)
    if one ≤ 0 ∨ other ≤ 0 then none else some (one, other)
def pairB (p q : Rat) (f g : Pl) : Option Rat :=
  match pairWs f g p q with
  | none => none
  | some w => some (w.1 * (f.r : Rat) + w.2 * (g.r : Rat))
def supr (hs : List Pl) (p q : Rat) : Option Rat :=
  if p = 0 ∧ q = 0 then some 0
  else leastO ((hs.map fun h => single h p q) ++ pairsFrom (pairB p q) hs)
def infi (hs : List Pl) (p q : Rat) : Option Rat := (supr hs (-p) (-q)).map fun x => -x
def dirRange (hs : List Pl) (p q : Rat) : Option (Option Rat × Option Rat) := if isEmp hs then none else some (infi hs p q, supr hs p q)
def lineOf (hs : List Pl) : Option Pl := hs.find? fun h => decide (infi hs (h.p : Rat) (h.q : Rat) = some (h.r : Rat))
inductive Kind where
  | empty
  | area
  | line
  | half
  | point
  | segment
deriving DecidableEq
def kindS : Kind → Str
  | .empty => "empty"
  | .area => "area"
  | .line => "line"
  | .half => "halfLine"
  | .point => "point"
  | .segment => "segment"
def endsKind : Option Rat → Option Rat → Kind
  | none, none => .line
  | none, some _ => .half
  | some _, none => .half
  | some x, some y => if x = y then .point else .segment
def kindOf (hs : List Pl) : Kind :=
  if isEmp hs then .empty
  else match lineOf hs with
    | none => .area
    | some l => endsKind (infi hs (-l.q : Int) (l.p : Rat)) (supr hs (-l.q : Int) (l.p : Rat))
def implied (hs : List Pl) (h : Pl) : Bool :=
  isEmp hs || (match supr hs (h.p : Rat) (h.q : Rat) with | none => false | some b => decide (cmp b (h.r : Rat) ≤ 0))
def neededOf (hs : List Pl) : List Pl := (inOrder hs).filter fun h => !implied ((inOrder hs).filter fun o => decide (o ≠ h)) h

/-! ### trains -/
def woEdge (t : List El) (e : Ed) : List El :=
  match t[e.i]? with
  | some (.stop lo hi) => t.take e.i ++ [if e.up then .stop lo none else .stop none hi] ++ t.drop (e.i + 1)
  | _ => t
def isRed (t : List El) (z : Ed × Pl) : Bool := isEmp (planes (woEdge t z.1)) || implied (planes (woEdge t z.1)) z.2
def redEdges (t : List El) : List Ed := ((hps t).filter (isRed t)).map (·.1)

/-! ### shapes -/
def meet (f g : Pl) : Option Ray :=
  if det f g = 0 then none else some (Rat.divInt (f.r * g.q - g.r * f.q) (det f g), Rat.divInt (f.p * g.r - g.p * f.r) (det f g))
def isBef (a b : Ray) : Bool := if cmp a.1 b.1 = 0 then decide (cmp a.2 b.2 < 0) else decide (cmp a.1 b.1 < 0)
def putIn (rays : List Ray) (z : Ray) : List Ray := if z ∈ rays then rays else insAt (rays.filter fun o => isBef o z).length z rays
def cornAdd (hs : List Pl) (found : List Ray) (o : Option Ray) : List Ray :=
  match o with
  | none => found
  | some z => if contains hs z then putIn found z else found
def cornersOf (hs : List Pl) : List Ray := (pairsFrom meet hs).foldl (cornAdd hs) []
def turnOf (a b c : Ray) : Rat := (b.1 - a.1) * (c.2 - a.2) - (b.2 - a.2) * (c.1 - a.1)
def chainOf (rays : List Ray) (lower : Bool) : List Ray :=
  let first := rays.headD (0, 0)
  let last := rays.getLastD (0, 0)
  [first] ++ ((rays.drop 1).take (rays.length - 2)).filter (fun z => decide (cmp (turnOf first last z) 0 < 0) == lower) ++ [last]
def chainTo (c : List Ray) (i : Nat) : Rat := ((List.range i).map fun j => turnOf (c.getD 0 (0, 0)) (c.getD (j + 1) (0, 0)) (c.getD (j + 2) (0, 0))).foldl (· + ·) 0
def chainArea (rays : List Ray) (lower : Bool) : Rat := chainTo (chainOf rays lower) ((chainOf rays lower).length - 2)
def bounded (hs : List Pl) : Bool := (infi hs 1 0).isSome && (supr hs 1 0).isSome && (infi hs 0 1).isSome && (supr hs 0 1).isSome
def areaOf (hs : List Pl) : Option Rat :=
  if kindOf hs ≠ .area then some 0
  else if !bounded hs then none
  else some ((chainArea (cornersOf hs) true - chainArea (cornersOf hs) false) / 2)
end RT
end
section
set_option Elab.async false
set_option linter.all false
set_option maxRecDepth 100000
/-! A1: data in a heap, with a part of the heap set aside; what evaluates to which data. -/
namespace RT
open PySem PySem.Spec PyProof.Rows L2

abbrev PD := PyData
/-- a heap without the addresses set aside -/
def msk (P : Addr → Bool) (H : Hp) : Hp := fun a => bif P a then none else H a
theorem msk_some {P : Addr → Bool} {H : Hp} {a : Addr} {o : HO} (h : msk P H a = some o) : P a = false ∧ H a = some o := by
  unfold msk at h
  cases e : P a with
  | true => rw [e] at h; cases h
  | false => rw [e] at h; exact ⟨rfl, h⟩
theorem msk_of {P : Addr → Bool} {H : Hp} {a : Addr} {o : HO} (h1 : P a = false) (h2 : H a = some o) : msk P H a = some o := by
  unfold msk; rw [h1]; exact h2
def Le (H H' : Hp) : Prop := ∀ a o, H a = some o → H' a = some o
theorem msk_le {P : Addr → Bool} {H : Hp} : Le (msk P H) H := fun a o h => (msk_some h).2

mutual
/-- v is the data d in the heap H; a list that is only read (the script) is told as a dict's keys -/
inductive DD (K : PySem.W.Frag) (H : Hp) : V → PD → Prop
  | non : DD K H .non .none
  | bl (b : Bool) : DD K H (.bl b) (.bool b)
  | int (i : Int) : DD K H (.int i) (.int i)
  | str (x : Str) : DD K H (.str x) (.str x)
  | lst {a : Addr} {xs : List V} {ds : List PD} : H a = some (.lst xs) → DDs K H xs ds → DD K H (.ref a) (.list ds)
  | tup {a : Addr} {xs : List V} {ds : List PD} : SqT K H a xs → DDs K H xs ds → DD K H (.ref a) (.tuple ds)
  | frz {a : Addr} {ns : List Int} : SqL K H a (ns.map V.int) → DD K H (.ref a) (.dict (ns.map fun n => (.int n, .none)))
  | opq (a : Addr) : DD K H (.ref a) (.dict [(.none, .int ((a : Nat) : Int))])
inductive DDs (K : PySem.W.Frag) (H : Hp) : List V → List PD → Prop
  | nil : DDs K H [] []
  | cons {v : V} {vs : List V} {d : PD} {ds : List PD} : DD K H v d → DDs K H vs ds → DDs K H (v :: vs) (d :: ds)
end
section
variable {K : PySem.W.Frag} {H H' : Hp}
theorem Le.sqt (l : Le H H') {a : Addr} {xs : List V} (h : SqT K H a xs) : SqT K H' a xs := by
  rcases h with (h | ⟨o, h⟩) | h
  · exact .inl (.inl (l _ _ h))
  · exact .inl (.inr ⟨o, l _ _ h⟩)
  · exact .inr h
theorem Le.sql (l : Le H H') {a : Addr} {xs : List V} (h : SqL K H a xs) : SqL K H' a xs := by
  rcases h with (h | ⟨o, h⟩) | h
  · exact .inl (.inl (l _ _ h))
  · exact .inl (.inr ⟨o, l _ _ h⟩)
  · exact .inr h
mutual
theorem DD.mono (l : Le H H') : ∀ {d : PD} {v : V}, DD K H v d → DD K H' v d
  | .none, _, h => by cases h; exact .non
  | .bool b, _, h => by cases h; exact .bl b
  | .int i, _, h => by cases h; exact .int i
  | .str x, _, h => by cases h; exact .str x
  | .list ds, _, h => by
    cases h with
    | lst h1 h2 => exact .lst (l _ _ h1) (DDs.mono l h2)
  | .tuple ds, _, h => by
    cases h with
    | tup h1 h2 => exact .tup (l.sqt h1) (DDs.mono l h2)
  | .dict _, _, h => by
    cases h with
    | frz h1 => exact .frz (l.sql h1)
    | opq a => exact .opq a
theorem DDs.mono (l : Le H H') : ∀ {ds : List PD} {vs : List V}, DDs K H vs ds → DDs K H' vs ds
  | [], _, h => by cases h; exact .nil
  | d :: ds, _, h => by
    cases h with
    | cons h1 h2 => exact .cons (DD.mono l h1) (DDs.mono l h2)
end
mutual
theorem DD.dp : ∀ {d : PD} {v : V}, d.hasDict = false → DD K H v d → Dp K H v d
  | .none, _, _, h => by cases h; exact .non
  | .bool b, _, _, h => by cases h; exact .bl b
  | .int i, _, _, h => by cases h; exact .int i
  | .str x, _, _, h => by cases h; exact .str x
  | .list ds, _, n, h => by
    cases h with
    | lst h1 h2 => exact .lst (SqL.of h1) (DDs.dp (by simpa only [PyData.hasDict] using n) h2)
  | .tuple ds, _, n, h => by
    cases h with
    | tup h1 h2 => exact .tup h1 (DDs.dp (by simpa only [PyData.hasDict] using n) h2)
  | .dict _, _, n, h => by simp only [PyData.hasDict] at n; cases n
theorem DDs.dp : ∀ {ds : List PD} {vs : List V}, PyData.hasDictAll ds = false → DDs K H vs ds → DpAll K H vs ds
  | [], _, _, h => by cases h; exact .nil
  | d :: ds, _, n, h => by
    have n' : d.hasDict = false ∧ PyData.hasDictAll ds = false := by simpa only [PyData.hasDictAll, Bool.or_eq_false_iff] using n
    cases h with
    | cons h1 h2 => exact .cons (DD.dp n'.1 h1) (DDs.dp n'.2 h2)
end
theorem DDs.length : ∀ {ds : List PD} {vs : List V}, DDs K H vs ds → vs.length = ds.length
  | [], _, h => by cases h; rfl
  | d :: ds, _, h => by
    cases h with
    | cons _ h2 => rw [List.length_cons, List.length_cons, DDs.length h2]
theorem DDs.append : ∀ {ds es : List PD} {vs us : List V}, DDs K H vs ds → DDs K H us es → DDs K H (vs ++ us) (ds ++ es)
  | [], _, _, _, h, k => by cases h; exact k
  | d :: ds, es, _, us, h, k => by
    cases h with
    | cons h1 h2 => exact .cons h1 (DDs.append h2 k)
theorem DDs.get : ∀ {ds : List PD} {vs : List V} {i : Nat} {d : PD}, DDs K H vs ds → ds[i]? = some d → ∃ v, vs[i]? = some v ∧ DD K H v d
  | [], _, _, _, h, e => by simp at e
  | d :: ds, _, 0, d', h, e => by
    cases h with
    | cons h1 h2 =>
      have e' : d = d' := by simpa using e
      subst e'
      exact ⟨_, rfl, h1⟩
  | d :: ds, _, i + 1, d', h, e => by
    cases h with
    | cons h1 h2 =>
      obtain ⟨v, e1, e2⟩ := DDs.get (i := i) h2 (by simpa using e)
      exact ⟨v, by simpa using e1, e2⟩
theorem DDs.getV : ∀ {ds : List PD} {vs : List V} {i : Nat} {v : V}, DDs K H vs ds → vs[i]? = some v → ∃ d, ds[i]? = some d ∧ DD K H v d
  | [], _, _, _, h, e => by cases h; simp at e
  | d :: ds, _, 0, v', h, e => by
    cases h with
    | cons h1 h2 =>
      cases (show some _ = some v' from by simpa using e)
      exact ⟨_, rfl, h1⟩
  | d :: ds, _, i + 1, v', h, e => by
    cases h with
    | cons h1 h2 =>
      obtain ⟨d', e1, e2⟩ := DDs.getV (i := i) h2 (by simpa using e)
      exact ⟨d', by simpa using e1, e2⟩
theorem DDs.drop : ∀ (n : Nat) {ds : List PD} {vs : List V}, DDs K H vs ds → DDs K H (vs.drop n) (ds.drop n)
  | 0, _, _, h => h
  | n + 1, [], _, h => by cases h; exact .nil
  | n + 1, d :: ds, _, h => by
    cases h with
    | cons _ h2 => exact DDs.drop n h2
theorem DDs.take : ∀ (n : Nat) {ds : List PD} {vs : List V}, DDs K H vs ds → DDs K H (vs.take n) (ds.take n)
  | 0, _, _, h => .nil
  | n + 1, [], _, h => by cases h; exact .nil
  | n + 1, d :: ds, _, h => by
    cases h with
    | cons h1 h2 => exact .cons h1 (DDs.take n h2)
theorem DDs.set : ∀ {ds : List PD} {vs : List V} (i : Nat) {v : V} {d : PD}, DDs K H vs ds → DD K H v d → DDs K H (vs.set i v) (ds.set i d)
  | [], _, _, _, _, h, _ => by cases h; exact .nil
  | d :: ds, _, 0, _, _, h, k => by
    cases h with
    | cons h1 h2 => exact .cons k h2
  | d :: ds, _, i + 1, _, _, h, k => by
    cases h with
    | cons h1 h2 => exact .cons h1 (DDs.set i h2 k)
theorem DDs.ints : ∀ {ns : List Int} {vs : List V}, DDs K H vs (ns.map .int) → vs = ns.map V.int
  | [], _, h => by cases h; rfl
  | n :: ns, _, h => by
    cases h with
    | cons h1 h2 =>
      cases h1
      rw [DDs.ints h2]; rfl
end

/-- objects whose state is told by a property (tables; the box of draws) -/
structure Wo where
  wob : Addr → Prop
  ok : Hp → Prop
  dom : ∀ H a, ok H → wob a → H a ≠ none
  loc : ∀ H H', (∀ a, wob a → H' a = H a) → ok H → ok H'
theorem Wo.upd (W : Wo) {H : Hp} {p : Addr} {o : HO} (h : W.ok H) (n : ¬ W.wob p) : W.ok (upd H p o) := W.loc H _ (fun a z => upd_ne fun y => n (by rw [← y]; exact z)) h
theorem Wo.free (W : Wo) {H : Hp} {p : Addr} (h : W.ok H) (n : H p = none) : ¬ W.wob p := fun z => W.dom H p h z n
theorem Wo.new (W : Wo) {H : Hp} {p : Addr} {o : HO} (h : W.ok H) (n : H p = none) : W.ok (L2.upd H p o) := W.upd h (W.free h n)
/-- all else stays as it was -/
def Ext (W : Wo) (H H' : Hp) : Prop := ∀ a o, ¬ W.wob a → H a = some o → H' a = some o
theorem Ext.refl (W : Wo) (H : Hp) : Ext W H H := fun _ _ _ h => h
theorem Ext.trans {W : Wo} {H H1 H2 : Hp} (a : Ext W H H1) (b : Ext W H1 H2) : Ext W H H2 := fun x o n h => b x o n (a x o n h)
theorem Ext.new {W : Wo} {H : Hp} {p : Addr} {o : HO} (h : H p = none) : Ext W H (upd H p o) := fun a u _ e => by
  rw [upd_ne (ne_of_none e h)]; exact e
theorem Ext.mut {W : Wo} {H H' : Hp} {p : Addr} {o : HO} (e : Ext W H H') (h : H p = none) : Ext W H (upd H' p o) := fun a u n ha => by
  rw [upd_ne (ne_of_none ha h)]; exact e a u n ha
theorem Ext.le {W : Wo} {H H' : Hp} {P : Addr → Bool} (e : Ext W H H') (hw : ∀ a, W.wob a → P a = true) : Le (msk P H) (msk P H') := fun a o h => by
  obtain ⟨h1, h2⟩ := msk_some h
  exact msk_of h1 (e a o (fun z => by rw [hw a z] at h1; cases h1) h2)
theorem Ext.dom {W : Wo} {H H' : Hp} (e : Ext W H H') (ok : W.ok H') {a : Addr} (h : H a ≠ none) : H' a ≠ none := by
  by_cases z : W.wob a
  · exact W.dom H' a ok z
  · cases q : H a with
    | none => exact absurd q h
    | some o => rw [e a o z q]; exact fun w => nomatch w
theorem Ext.back {W : Wo} {H H' : Hp} (e : Ext W H H') (ok : W.ok H') {p : Addr} (h : H' p = none) : H p = none := by
  cases q : H p with
  | none => rfl
  | some o =>
    have := e.dom ok (a := p) (by rw [q]; exact fun w => nomatch w)
    exact absurd h this

/-! ### slots -/
inductive Sl where
  | no
  | pu (d : PD)
  | ow (ds : List PD)
structure Ct where
  K : PySem.W.Frag
  W : Wo
  H0 : Hp
  P0 : Addr → Bool
def SlOk (C : Ct) (P : Addr → Bool) (H : Hp) (σ : L2.St) (i : Nat) : Sl → Prop
  | .no => True
  | .pu d => ∃ v, σ[i]? = some (some v) ∧ DD C.K (msk P H) v d
  | .ow ds => ∃ p vs, σ[i]? = some (some (.ref p)) ∧ P p = true ∧ C.P0 p = false ∧ H p = some (.lst vs) ∧ DDs C.K (msk P H) vs ds
structure Ok (C : Ct) (P : Addr → Bool) (H : Hp) (σ : L2.St) (Γ : List Sl) : Prop where
  ext : Ext C.W C.H0 H
  wok : C.W.ok H
  dom : ∀ a, P a = true → H a ≠ none
  wob : ∀ a, C.W.wob a → C.P0 a = true
  sub : ∀ a, C.P0 a = true → P a = true
  new : ∀ a, P a = true → C.P0 a = true ∨ C.H0 a = none
  len : Γ.length = σ.length
  sl : ∀ (i : Nat) (x : Sl), Γ[i]? = some x → SlOk C P H σ i x
  ap : ∀ (i j : Nat) (ds es : List PD) (p : Addr), Γ[i]? = some (.ow ds) → Γ[j]? = some (.ow es) → σ[i]? = some (some (.ref p)) → σ[j]? = some (some (.ref p)) → i = j
section
variable {C : Ct} {P : Addr → Bool} {H H' : Hp} {σ : L2.St} {Γ : List Sl}
theorem Ok.pw (h : Ok C P H σ Γ) : ∀ a, C.W.wob a → P a = true := fun a z => h.sub a (h.wob a z)
theorem SlOk.step (hw : ∀ a, C.W.wob a → C.P0 a = true) (sub : ∀ a, C.P0 a = true → P a = true) (e : Ext C.W H H') {i : Nat} : ∀ {x : Sl}, SlOk C P H σ i x → SlOk C P H' σ i x
  | .no, _ => trivial
  | .pu d, ⟨v, h1, h2⟩ => ⟨v, h1, h2.mono (e.le fun a z => sub a (hw a z))⟩
  | .ow ds, ⟨p, vs, h1, h2, h3, h4, h5⟩ => ⟨p, vs, h1, h2, h3, e p _ (fun z => by rw [hw p z] at h3; cases h3) h4, h5.mono (e.le fun a z => sub a (hw a z))⟩
/-- behind a step that leaves all as it was -/
theorem Ok.step (h : Ok C P H σ Γ) (e : Ext C.W H H') (ok : C.W.ok H') : Ok C P H' σ Γ :=
  ⟨h.ext.trans e, ok, fun a z => e.dom ok (h.dom a z), h.wob, h.sub, h.new, h.len, fun i x q => (h.sl i x q).step h.wob h.sub e, h.ap⟩
theorem Ok.le (h : Ok C P H σ Γ) (e : Ext C.W H H') : Le (msk P H) (msk P H') := e.le h.pw
/-- a slot is stored -/
theorem Ok.set (h : Ok C P H σ Γ) {i : Nat} {v : V} {d : PD} (hi : i < Γ.length) (q : DD C.K (msk P H) v d) : Ok C P H (σ.set i (some v)) (Γ.set i (.pu d)) := by
  refine ⟨h.ext, h.wok, h.dom, h.wob, h.sub, h.new, by rw [List.length_set, List.length_set]; exact h.len, fun j x e => ?_, fun j k ds es p e1 e2 e3 e4 => ?_⟩
  · by_cases hj : i = j
    · subst hj
      rw [List.getElem?_set_self hi] at e
      cases e
      exact ⟨v, by rw [List.getElem?_set_self (by rw [← h.len]; exact hi)], q⟩
    · rw [List.getElem?_set_ne hj] at e
      have z := h.sl j x e
      cases x with
      | no => trivial
      | pu d' =>
        obtain ⟨v', z1, z2⟩ := z
        exact ⟨v', by rw [List.getElem?_set_ne hj]; exact z1, z2⟩
      | ow ds =>
        obtain ⟨p, vs, z1, z2⟩ := z
        exact ⟨p, vs, by rw [List.getElem?_set_ne hj]; exact z1, z2⟩
  · have hj : i ≠ j := fun z => by subst z; rw [List.getElem?_set_self hi] at e1; cases e1
    have hk : i ≠ k := fun z => by subst z; rw [List.getElem?_set_self hi] at e2; cases e2
    rw [List.getElem?_set_ne hj] at e1 e3
    rw [List.getElem?_set_ne hk] at e2 e4
    exact h.ap j k ds es p e1 e2 e3 e4
/-- a slot is forgotten -/
theorem Ok.wipe1 (h : Ok C P H σ Γ) (i : Nat) : Ok C P H (σ.set i none) (Γ.set i .no) := by
  refine ⟨h.ext, h.wok, h.dom, h.wob, h.sub, h.new, by rw [List.length_set, List.length_set]; exact h.len, fun j x e => ?_, fun j k ds es p e1 e2 e3 e4 => ?_⟩
  · by_cases hj : i = j
    · subst hj
      by_cases hi : i < Γ.length
      · rw [List.getElem?_set_self hi] at e; cases e; trivial
      · rw [List.getElem?_eq_none (by simpa using hi)] at e; cases e
    · rw [List.getElem?_set_ne hj] at e
      have z := h.sl j x e
      cases x with
      | no => trivial
      | pu d' =>
        obtain ⟨v', z1, z2⟩ := z
        exact ⟨v', by rw [List.getElem?_set_ne hj]; exact z1, z2⟩
      | ow ds =>
        obtain ⟨p, vs, z1, z2⟩ := z
        exact ⟨p, vs, by rw [List.getElem?_set_ne hj]; exact z1, z2⟩
  · have key : ∀ m ds, (Γ.set i Sl.no)[m]? = some (.ow ds) → i ≠ m := fun m ds q z => by
      subst z
      by_cases hi : i < Γ.length
      · rw [List.getElem?_set_self hi] at q; cases q
      · rw [List.getElem?_eq_none (by simpa using hi)] at q; cases q
    have hj := key j ds e1
    have hk := key k es e2
    rw [List.getElem?_set_ne hj] at e1 e3
    rw [List.getElem?_set_ne hk] at e2 e4
    exact h.ap j k ds es p e1 e2 e3 e4
def wipeG (Γ : List Sl) : List Nat → List Sl
  | [] => Γ
  | v :: vs => (wipeG Γ vs).set v .no
theorem Ok.wipe (h : Ok C P H σ Γ) : ∀ vs : List Nat, Ok C P H (L2.wipe σ vs) (wipeG Γ vs)
  | [] => h
  | v :: vs => (Ok.wipe h vs).wipe1 v
/-- P with one address more -/
def add1 (P : Addr → Bool) (p : Addr) : Addr → Bool := fun a => decide (a = p) || P a
theorem add1_le {P : Addr → Bool} {H : Hp} {p : Addr} : Le (msk (add1 P p) H) (msk P H) := fun a o h => by
  obtain ⟨h1, h2⟩ := msk_some h
  unfold add1 at h1
  exact msk_of (by cases e : P a with | true => rw [e, Bool.or_true] at h1; cases h1 | false => rfl) h2
theorem add1_self {P : Addr → Bool} {p : Addr} : add1 P p p = true := by unfold add1; rw [decide_eq_true rfl, Bool.true_or]
theorem add1_of {P : Addr → Bool} {p a : Addr} (h : P a = true) : add1 P p a = true := by unfold add1; rw [h, Bool.or_true]
/-- in a heap without p nothing leans on p -/
theorem le_add1 {P : Addr → Bool} {H : Hp} {p : Addr} (h : H p = none) : Le (msk P H) (msk (add1 P p) H) := fun a o e => by
  obtain ⟨h1, h2⟩ := msk_some e
  refine msk_of ?_ h2
  unfold add1
  rw [h1, Bool.or_false]
  exact decide_eq_false fun z => by rw [z, h] at h2; cases h2
/-- a new list becomes the def's own, at the slot i -/
theorem Ok.own (h : Ok C P H σ Γ) (e : Ext C.W H H') (ok : C.W.ok H') {i : Nat} {p : Addr} {vs : List V} {ds : List PD} (hi : i < Γ.length) (hp : H p = none) (hl : H' p = some (.lst vs)) (q : DDs C.K (msk (add1 P p) H') vs ds) :
    Ok C (add1 P p) H' (σ.set i (some (.ref p))) (Γ.set i (.ow ds)) := by
  have hp0 : C.P0 p = false := by
    cases z : C.P0 p with
    | false => rfl
    | true => exact absurd hp (h.dom p (h.sub p z))
  have hP : P p = false := by
    cases z : P p with
    | false => rfl
    | true => exact absurd hp (h.dom p z)
  have hlt : i < σ.length := by rw [← h.len]; exact hi
  have L : Le (msk P H) (msk (add1 P p) H') := fun a o z => by
    obtain ⟨z1, z2⟩ := msk_some z
    obtain ⟨w1, w2⟩ := msk_some (h.le e a o z)
    refine msk_of ?_ w2
    unfold add1
    rw [z1, Bool.or_false]
    exact decide_eq_false fun y => by rw [y, hp] at z2; cases z2
  refine ⟨h.ext.trans e, ok, fun a z => ?_, h.wob, fun a z => add1_of (h.sub a z), fun a z => ?_, by rw [List.length_set, List.length_set]; exact h.len, fun j x q1 => ?_, fun j k ds' es p' e1 e2 e3 e4 => ?_⟩
  · by_cases y : a = p
    · rw [y, hl]; exact fun w => nomatch w
    · unfold add1 at z
      rw [decide_eq_false y, Bool.false_or] at z
      exact e.dom ok (h.dom a z)
  · by_cases y : a = p
    · exact .inr (by rw [y]; exact h.ext.back h.wok hp)
    · unfold add1 at z
      rw [decide_eq_false y, Bool.false_or] at z
      exact h.new a z
  · by_cases hj : i = j
    · subst hj
      rw [List.getElem?_set_self hi] at q1
      cases q1
      exact ⟨p, vs, by rw [List.getElem?_set_self hlt], add1_self, hp0, hl, q⟩
    · rw [List.getElem?_set_ne hj] at q1
      have z := h.sl j x q1
      cases x with
      | no => trivial
      | pu d' =>
        obtain ⟨v', z1, z2⟩ := z
        exact ⟨v', by rw [List.getElem?_set_ne hj]; exact z1, z2.mono L⟩
      | ow ds' =>
        obtain ⟨p', vs', z1, z2, z3, z4, z5⟩ := z
        exact ⟨p', vs', by rw [List.getElem?_set_ne hj]; exact z1, add1_of z2, z3, e p' _ (fun y => by rw [h.wob p' y] at z3; cases z3) z4, z5.mono L⟩
  · have old : ∀ m ds, i ≠ m → Γ[m]? = some (.ow ds) → σ[m]? ≠ some (some (.ref p)) := fun m ds _ z1 z2 => by
      obtain ⟨p2, vs2, y1, y2, _⟩ := h.sl m _ z1
      rw [z2] at y1
      cases y1
      rw [hP] at y2; cases y2
    by_cases hj : i = j
    · by_cases hk : i = k
      · rw [← hj, ← hk]
      · subst hj
        rw [List.getElem?_set_self hlt] at e3
        cases e3
        rw [List.getElem?_set_ne hk] at e2 e4
        exact absurd e4 (old k es hk e2)
    · by_cases hk : i = k
      · subst hk
        rw [List.getElem?_set_self hlt] at e4
        cases e4
        rw [List.getElem?_set_ne hj] at e1 e3
        exact absurd e3 (old j ds' hj e1)
      · rw [List.getElem?_set_ne hj] at e1 e3
        rw [List.getElem?_set_ne hk] at e2 e4
        exact h.ap j k ds' es p' e1 e2 e3 e4
/-- an own list is written -/
theorem Ok.mut (h : Ok C P H σ Γ) {i : Nat} {p : Addr} {vs : List V} {ds es : List PD} (hΓ : Γ[i]? = some (.ow ds)) (hs : σ[i]? = some (some (.ref p))) (q : DDs C.K (msk P H) vs es) :
    Ok C P (upd H p (.lst vs)) σ (Γ.set i (.ow es)) := by
  obtain ⟨p1, vs1, y1, y2, y3, y4, y5⟩ := h.sl i _ hΓ
  rw [hs] at y1
  cases y1
  have hi : i < Γ.length := (List.getElem?_eq_some_iff.mp hΓ).1
  have hH0 : C.H0 p = none := (h.new p y2).resolve_left fun z => by rw [y3] at z; cases z
  have L : Le (msk P H) (msk P (upd H p (.lst vs))) := fun a o z => by
    obtain ⟨z1, z2⟩ := msk_some z
    refine msk_of z1 ?_
    rw [upd_ne (fun y => by rw [y, y2] at z1; cases z1)]
    exact z2
  have nw : ¬ C.W.wob p := fun z => by rw [h.wob p z] at y3; cases y3
  refine ⟨h.ext.mut hH0, ?_, fun a z => ?_, h.wob, h.sub, h.new, by rw [List.length_set]; exact h.len, fun j x e => ?_, fun j k ds' es' p' e1 e2 e3 e4 => ?_⟩
  · exact C.W.upd h.wok nw
  · by_cases y : a = p
    · rw [y, upd_same]; exact fun w => nomatch w
    · rw [upd_ne y]; exact h.dom a z
  · by_cases hj : i = j
    · subst hj
      rw [List.getElem?_set_self hi] at e
      cases e
      exact ⟨p, vs, hs, y2, y3, upd_same, q.mono L⟩
    · rw [List.getElem?_set_ne hj] at e
      have z := h.sl j x e
      cases x with
      | no => trivial
      | pu d' =>
        obtain ⟨v', z1, z2⟩ := z
        exact ⟨v', z1, z2.mono L⟩
      | ow ds' =>
        obtain ⟨p', vs', z1, z2, z3, z4, z5⟩ := z
        have hne : p' ≠ p := fun y => by
          rw [y] at z1
          exact hj (h.ap i j ds ds' p hΓ e hs z1)
        exact ⟨p', vs', z1, z2, z3, by rw [upd_ne hne]; exact z4, z5.mono L⟩
  · have at_ : ∀ (m : Nat) (ds : List PD), (Γ.set i (.ow es))[m]? = some (Sl.ow ds) → ∃ ds', Γ[m]? = some (Sl.ow ds') := fun m ds z => by
      by_cases hm : i = m
      · subst hm; exact ⟨_, hΓ⟩
      · rw [List.getElem?_set_ne hm] at z; exact ⟨_, z⟩
    obtain ⟨_, w1⟩ := at_ j ds' e1
    obtain ⟨_, w2⟩ := at_ k es' e2
    exact h.ap j k _ _ p' w1 w2 e3 e4
end
end RT
end
section
set_option Elab.async false
set_option linter.all false
set_option maxRecDepth 100000
/-! A2: expressions: what evaluates to which data. -/
namespace RT
open PySem PySem.Spec PyProof.Rows L2

/-- a heap that the def may work in -/
structure Md (C : Ct) (P : Addr → Bool) (H : Hp) : Prop where
  wok : C.W.ok H
  dom : ∀ a, P a = true → H a ≠ none
  pw : ∀ a, C.W.wob a → P a = true
section
variable {C : Ct} {P : Addr → Bool} {H H' : Hp} {σ : L2.St} {Γ : List Sl}
theorem Ok.md (h : Ok C P H σ Γ) : Md C P H := ⟨h.wok, h.dom, h.pw⟩
theorem Md.step (m : Md C P H) (e : Ext C.W H H') (ok : C.W.ok H') : Md C P H' := ⟨ok, fun a z => e.dom ok (m.dom a z), m.pw⟩
theorem Md.free (m : Md C P H) {p : Addr} (h : H p = none) : P p = false := by
  cases z : P p with
  | false => rfl
  | true => exact absurd h (m.dom p z)
theorem Md.le_new (m : Md C P H) {p : Addr} {o : HO} (h : H p = none) : Le (msk P H) (msk P (upd H p o)) := (Ext.new (W := C.W) h).le m.pw
theorem Md.ok_new (m : Md C P H) {p : Addr} {o : HO} (h : H p = none) : C.W.ok (upd H p o) := C.W.new m.wok h
theorem Md.tup (m : Md C P H) {p : Addr} {vs : List V} {ds : List PD} (h : H p = none) (q : DDs C.K (msk P H) vs ds) : DD C.K (msk P (upd H p (.tup vs))) (.ref p) (.tuple ds) :=
  .tup (.inl (.inl (msk_of (m.free h) upd_same))) (q.mono (m.le_new h))
theorem Md.lst (m : Md C P H) {p : Addr} {vs : List V} {ds : List PD} (h : H p = none) (q : DDs C.K (msk P H) vs ds) : DD C.K (msk P (upd H p (.lst vs))) (.ref p) (.list ds) :=
  .lst (msk_of (m.free h) upd_same) (q.mono (m.le_new h))
theorem DD.lst_at {K : PySem.W.Frag} {v : V} {ds : List PD} (h : DD K (msk P H) v (.list ds)) : ∃ a vs, v = .ref a ∧ P a = false ∧ H a = some (.lst vs) ∧ DDs K (msk P H) vs ds := by
  cases h with
  | lst h1 h2 => exact ⟨_, _, rfl, (msk_some h1).1, (msk_some h1).2, h2⟩
theorem DD.tup_at {K : PySem.W.Frag} {v : V} {ds : List PD} (h : DD K (msk P H) v (.tuple ds)) : ∃ a vs, v = .ref a ∧ SqT K H a vs ∧ DDs K (msk P H) vs ds := by
  cases h with
  | tup h1 h2 => exact ⟨_, _, rfl, msk_le.sqt h1, h2⟩
end

/-! ### the judgements -/
def wE (X : Cx) (e : Expr) : TE := fun σ H Q => ∀ (pins : List (Addr × Obj)) (s : Shared), Inv X pins σ H s → wpAny (model X.prog X.w) X.A (eval e X.env) (EP X pins σ Q) X.xe s
theorem pe_w {X : Cx} {e : Expr} : PE X e (wE X e) := ⟨fun pins s _ _ _ I h => h pins s I⟩
theorem w_pe {X : Cx} {e : Expr} {t : TE} (h : PE X e t) {σ : L2.St} {H : Hp} {Q : VK} (q : t σ H Q) : wE X e σ H Q := fun pins s I => h.run pins s σ H Q I q
def wT (X : Cx) (e : Expr) : TT := fun σ H Q => ∀ (pins : List (Addr × Obj)) (s : Shared), Inv X pins σ H s → wpAny (model X.prog X.w) X.A (isTrue e X.env (eval e X.env)) (TP X pins σ Q) X.xe s
theorem pt_w {X : Cx} {e : Expr} : PT X e (wT X e) := ⟨fun pins s _ _ _ I h => h pins s I⟩
theorem w_pt {X : Cx} {e : Expr} {t : TT} (h : PT X e t) {σ : L2.St} {H : Hp} {Q : Bool → Hp → Prop} (q : t σ H Q) : wT X e σ H Q := fun pins s I => h.run pins s σ H Q I q
def wW (X : Cx) (e : Expr) : TT := fun σ H Q => ∀ (wh : Sem Value) (pins : List (Addr × Obj)) (s : Shared), Inv X pins σ H s → wpAny (model X.prog X.w) X.A (isTrue e X.env wh) (TP X pins σ Q) X.xe s
theorem pw_w {X : Cx} {e : Expr} : PW X e (wW X e) := ⟨fun wh pins s _ _ _ I h => h wh pins s I⟩
theorem w_pw {X : Cx} {e : Expr} {t : TT} (h : PW X e t) {σ : L2.St} {H : Hp} {Q : Bool → Hp → Prop} (q : t σ H Q) : wW X e σ H Q := fun wh pins s I => h.run wh pins s σ H Q I q
def wA (X : Cx) (es : List Expr) : TA := fun σ H Q => ∀ (pos : Pos) (pins : List (Addr × Obj)) (s : Shared), Inv X pins σ H s → wpAny (model X.prog X.w) X.A (spliced (backTo pos (starEach es X.env))) (AP X pins σ Q) X.xe s
theorem pa_w {X : Cx} {es : List Expr} : PA X es (wA X es) := ⟨fun pos pins s _ _ _ I h => h pos pins s I⟩
theorem w_pa {X : Cx} {es : List Expr} {t : TA} (h : PA X es t) {σ : L2.St} {H : Hp} {Q : List V → Hp → Prop} (q : t σ H Q) : wA X es σ H Q := fun pos pins s I => h.run pos pins s σ H Q I q

/-- e evaluates to the data d -/
structure EV (X : Cx) (C : Ct) (e : Expr) (Γ : List Sl) (d : PD) : Prop where
  run : C.K = X.K → ∀ P σ H, Ok C P H σ Γ → ∀ Q : VK, (∀ v H', Ext C.W H H' → C.W.ok H' → DD C.K (msk P H') v d → Q v H') → wE X e σ H Q
instance {X : Cx} {C : Ct} {e : Expr} {Γ : List Sl} {d : PD} : CoeFun (EV X C e Γ d) fun _ => (C.K = X.K → ∀ P σ H, Ok C P H σ Γ → ∀ Q : VK, (∀ v H', Ext C.W H H' → C.W.ok H' → DD C.K (msk P H') v d → Q v H') → wE X e σ H Q) := ⟨EV.run⟩
/-- .. to a new list -/
structure EVL (X : Cx) (C : Ct) (e : Expr) (Γ : List Sl) (ds : List PD) : Prop where
  run : C.K = X.K → ∀ P σ H, Ok C P H σ Γ → ∀ Q : VK, (∀ p vs H', Ext C.W H H' → C.W.ok H' → H p = none → H' p = some (.lst vs) → DDs C.K (msk (add1 P p) H') vs ds → Q (.ref p) H') → wE X e σ H Q
instance {X : Cx} {C : Ct} {e : Expr} {Γ : List Sl} {ds : List PD} : CoeFun (EVL X C e Γ ds) fun _ => (C.K = X.K → ∀ P σ H, Ok C P H σ Γ → ∀ Q : VK, (∀ p vs H', Ext C.W H H' → C.W.ok H' → H p = none → H' p = some (.lst vs) → DDs C.K (msk (add1 P p) H') vs ds → Q (.ref p) H') → wE X e σ H Q) := ⟨EVL.run⟩
/-- .. to what the def may hand back (its own lists too) -/
structure EVR (X : Cx) (C : Ct) (e : Expr) (Γ : List Sl) (d : PD) : Prop where
  run : C.K = X.K → ∀ P σ H, Ok C P H σ Γ → ∀ Q : VK, (∀ v H', Ext C.W H H' → C.W.ok H' → DD C.K (msk C.P0 H') v d → Q v H') → wE X e σ H Q
instance {X : Cx} {C : Ct} {e : Expr} {Γ : List Sl} {d : PD} : CoeFun (EVR X C e Γ d) fun _ => (C.K = X.K → ∀ P σ H, Ok C P H σ Γ → ∀ Q : VK, (∀ v H', Ext C.W H H' → C.W.ok H' → DD C.K (msk C.P0 H') v d → Q v H') → wE X e σ H Q) := ⟨EVR.run⟩
structure EVs (X : Cx) (C : Ct) (es : List Expr) (Γ : List Sl) (ds : List PD) : Prop where
  run : C.K = X.K → ∀ P σ H, Ok C P H σ Γ → ∀ Q : List V → Hp → Prop, (∀ vs H', Ext C.W H H' → C.W.ok H' → DDs C.K (msk P H') vs ds → Q vs H') → wA X es σ H Q
instance {X : Cx} {C : Ct} {es : List Expr} {Γ : List Sl} {ds : List PD} : CoeFun (EVs X C es Γ ds) fun _ => (C.K = X.K → ∀ P σ H, Ok C P H σ Γ → ∀ Q : List V → Hp → Prop, (∀ vs H', Ext C.W H H' → C.W.ok H' → DDs C.K (msk P H') vs ds → Q vs H') → wA X es σ H Q) := ⟨EVs.run⟩
/-- a test -/
structure TV (X : Cx) (C : Ct) (e : Expr) (Γ : List Sl) (b : Bool) : Prop where
  run : C.K = X.K → ∀ P σ H, Ok C P H σ Γ → ∀ Q : Bool → Hp → Prop, (∀ H', Ext C.W H H' → C.W.ok H' → Q b H') → wT X e σ H Q
instance {X : Cx} {C : Ct} {e : Expr} {Γ : List Sl} {b : Bool} : CoeFun (TV X C e Γ b) fun _ => (C.K = X.K → ∀ P σ H, Ok C P H σ Γ → ∀ Q : Bool → Hp → Prop, (∀ H', Ext C.W H H' → C.W.ok H' → Q b H') → wT X e σ H Q) := ⟨TV.run⟩
structure TW (X : Cx) (C : Ct) (e : Expr) (Γ : List Sl) (b : Bool) : Prop where
  run : C.K = X.K → ∀ P σ H, Ok C P H σ Γ → ∀ Q : Bool → Hp → Prop, (∀ H', Ext C.W H H' → C.W.ok H' → Q b H') → wW X e σ H Q
instance {X : Cx} {C : Ct} {e : Expr} {Γ : List Sl} {b : Bool} : CoeFun (TW X C e Γ b) fun _ => (C.K = X.K → ∀ P σ H, Ok C P H σ Γ → ∀ Q : Bool → Hp → Prop, (∀ H', Ext C.W H H' → C.W.ok H' → Q b H') → wW X e σ H Q) := ⟨TW.run⟩

section
variable {X : Cx} {C : Ct} {Γ : List Sl} {e a b : Expr} {es : List Expr} {d d1 d2 : PD} {ds es' : List PD} {pos : Pos}
theorem EVL.ev (h : EVL X C e Γ ds) : EV X C e Γ (.list ds) := .mk fun hK P σ H o Q q => h hK P σ H o Q fun p vs H' e ok h1 h2 h3 => q _ _ e ok
  (.lst (msk_of (o.md.free h1) h2) (h3.mono add1_le))
theorem Le.p0 {P0 P : Addr → Bool} {H : Hp} (s : ∀ a, P0 a = true → P a = true) : Le (msk P H) (msk P0 H) := fun a o h => by
  obtain ⟨h1, h2⟩ := msk_some h
  refine msk_of ?_ h2
  cases z : P0 a with
  | false => rfl
  | true => rw [s a z] at h1; cases h1
theorem EV.r (h : EV X C e Γ d) : EVR X C e Γ d := .mk fun hK P σ H o Q q => h hK P σ H o Q fun v H' e ok z => q v H' e ok (z.mono (Le.p0 o.sub))
theorem EV.is (h : EV X C e Γ d) (z : d = d1) : EV X C e Γ d1 := by rw [← z]; exact h
theorem EVR.is (h : EVR X C e Γ d) (z : d = d1) : EVR X C e Γ d1 := by rw [← z]; exact h
theorem TV.is {x y : Bool} (h : TV X C e Γ x) (z : x = y) : TV X C e Γ y := by rw [← z]; exact h
theorem EVs.is (h : EVs X C es Γ ds) (z : ds = es') : EVs X C es Γ es' := by rw [← z]; exact h

/-! ### names, constants -/
theorem ev_var (i : Nat) {x : Str} (hΓ : Γ[i]? = some (.pu d)) (hN : X.N[i]? = some x := by rfl) (hv : Vis X.env.scope x := by first | exact Or.inl rfl | exact Or.inr (Or.inl rfl) | exact Or.inr (Or.inr rfl)) (hd : (x == ("__debug__" : Str)) = false := by decide)
    (hcd : (x == ("__classdict__" : Str)) = false := by decide) : EV X C (.Name x pos) Γ d := .mk fun _ P σ H o Q q => by
  obtain ⟨v, h1, h2⟩ := o.sl i _ hΓ
  exact w_pe (pe_var hN hv hd hcd) ⟨v, h1, q v H (Ext.refl _ _) o.wok h2⟩
/-- the def's own list, handed back -/
theorem evr_own (i : Nat) {x : Str} (hΓ : Γ[i]? = some (.ow ds)) (hN : X.N[i]? = some x := by rfl) (hv : Vis X.env.scope x := by first | exact Or.inl rfl | exact Or.inr (Or.inl rfl) | exact Or.inr (Or.inr rfl)) (hd : (x == ("__debug__" : Str)) = false := by decide)
    (hcd : (x == ("__classdict__" : Str)) = false := by decide) : EVR X C (.Name x pos) Γ (.list ds) := .mk fun _ P σ H o Q q => by
  obtain ⟨p, vs, h1, h2, h3, h4, h5⟩ := o.sl i _ hΓ
  exact w_pe (pe_var hN hv hd hcd) ⟨_, h1, q _ H (Ext.refl _ _) o.wok (.lst (msk_of h3 h4) (h5.mono (Le.p0 o.sub)))⟩
theorem ev_int {i : Int} {j : Nat} : EV X C (.Constant (.int i) j pos) Γ (.int i) := .mk fun _ P σ H o Q q => w_pe pe_int (q _ H (Ext.refl _ _) o.wok (.int i))
theorem ev_bl {x : Bool} {j : Nat} : EV X C (.Constant (.bool x) j pos) Γ (.bool x) := .mk fun _ P σ H o Q q => w_pe pe_bl (q _ H (Ext.refl _ _) o.wok (.bl x))
theorem ev_non {j : Nat} : EV X C (.Constant .none j pos) Γ .none := .mk fun _ P σ H o Q q => w_pe pe_non (q _ H (Ext.refl _ _) o.wok .non)
theorem ev_str {x : Str} {j : Nat} : EV X C (.Constant (.str x) j pos) Γ (.str x) := .mk fun _ P σ H o Q q => w_pe pe_str (q _ H (Ext.refl _ _) o.wok (.str x))
/-- a constant of the module -/
theorem ev_con {x : Str} {v : V} {u : Value} (hm : X.mg x = some u) (r : RelV v u) (hd : ∀ H, DD X.K H v d) (hg : Gl X x := by rfl) (hdb : (x == ("__debug__" : Str)) = false := by decide) : EV X C (.Name x pos) Γ d := .mk fun hK P σ H o Q q =>
  w_pe (pe_glob hg hm r hdb) (q v H (Ext.refl _ _) o.wok (by rw [hK]; exact hd _))

/-! ### argument lists, displays -/
theorem evs_nil : EVs X C [] Γ [] := .mk fun _ P σ H o Q q => w_pa pa_nil (q [] H (Ext.refl _ _) o.wok .nil)
theorem evs_cons (h : EV X C e Γ d) (hs : EVs X C es Γ ds) (hst : starEach (e :: es) X.env = (false, eval e X.env) :: starEach es X.env := by rfl) : EVs X C (e :: es) Γ (d :: ds) := .mk fun hK P σ H o Q q =>
  w_pa (pa_cons pe_w pa_w hst) (h hK P σ H o _ fun v H1 e1 ok1 z1 => hs hK P σ H1 (o.step e1 ok1) _ fun vs H2 e2 ok2 z2 => q _ H2 (e1.trans e2) ok2 (.cons (z1.mono ((o.step e1 ok1).le e2)) z2))
theorem evs_one (h : EV X C e Γ d) (hst : starEach [e] X.env = (false, eval e X.env) :: starEach [] X.env := by rfl) : EVs X C [e] Γ [d] := evs_cons h evs_nil hst
theorem sz_le {n : Nat} (h : n ≤ 100000) : n ≤ sizeLine := Nat.le_trans h (by decide)
theorem sz_lt' {n : Nat} (h : n < 100000) : n < sizeLine := Nat.lt_of_lt_of_le h (by decide)
theorem ev_tup {x1 : Nat} (h : EVs X C es Γ ds) (hz : Nat.ble ds.length 100000 = true := by rfl) : EV X C (.Tuple es x1 pos) Γ (.tuple ds) := .mk fun hK P σ H o Q q =>
  w_pe (pe_tup pa_w) (h hK P σ H o _ fun vs H1 e1 ok1 z1 => ⟨by rw [z1.length]; exact sz_le (Nat.le_of_ble_eq_true hz), fun p hp =>
    have m := (o.step e1 ok1).md
    q _ _ (e1.trans (Ext.new hp)) (m.ok_new hp) (m.tup hp z1)⟩)
theorem evl_lst (h : EVs X C es Γ ds) (hz : Nat.ble ds.length 100000 = true := by rfl) : EVL X C (.List es pos) Γ ds := .mk fun hK P σ H o Q q =>
  w_pe (pe_lst pa_w) (h hK P σ H o _ fun vs H1 e1 ok1 z1 => ⟨by rw [z1.length]; exact sz_le (Nat.le_of_ble_eq_true hz), fun p hp =>
    have m := (o.step e1 ok1).md
    q p vs _ (e1.trans (Ext.new hp)) (m.ok_new hp) (e1.back ok1 hp) upd_same (z1.mono fun a o' w => by
      obtain ⟨w1, w2⟩ := msk_some (le_add1 hp a o' w)
      exact msk_of w1 (by rw [upd_ne (ne_of_none w2 hp)]; exact w2))⟩)
theorem ev_lst (h : EVs X C es Γ ds) (hz : Nat.ble ds.length 100000 = true := by rfl) : EV X C (.List es pos) Γ (.list ds) := (evl_lst h hz).ev

/-! ### operations by values -/
/-- a two-place operation's reading takes d1, d2 to d -/
def R2D (X : Cx) (C : Ct) (r : R2) (d1 d2 d : PD) : Prop := C.K = X.K → ∀ P H x y, Md C P H → DD C.K (msk P H) x d1 → DD C.K (msk P H) y d2 → ∀ Q : VK, (∀ v H', Ext C.W H H' → C.W.ok H' → DD C.K (msk P H') v d → Q v H') → r x y H Q
def R2L (X : Cx) (C : Ct) (r : R2) (d1 d2 : PD) (ds : List PD) : Prop := C.K = X.K → ∀ P H x y, Md C P H → DD C.K (msk P H) x d1 → DD C.K (msk P H) y d2 → ∀ Q : VK, (∀ p vs H', Ext C.W H H' → C.W.ok H' → H p = none → H' p = some (.lst vs) → DDs C.K (msk (add1 P p) H') vs ds → Q (.ref p) H') → r x y H Q
theorem ev_t2 {t : TE} {r : R2} (hp : PE X e t) (ht : ∀ σ H Q, tOp r (wE X a) (wE X b) σ H Q → t σ H Q) (ha : EV X C a Γ d1) (hb : EV X C b Γ d2) (hr : R2D X C r d1 d2 d) : EV X C e Γ d := .mk fun hK P σ H o Q q =>
  w_pe hp (ht σ H Q (ha hK P σ H o _ fun v H1 e1 ok1 z1 => hb hK P σ H1 (o.step e1 ok1) _ fun u H2 e2 ok2 z2 =>
    have o2 := (o.step e1 ok1).step e2 ok2
    hr hK P H2 v u o2.md (z1.mono ((o.step e1 ok1).le e2)) z2 Q fun w H3 e3 ok3 z3 => q w H3 ((e1.trans e2).trans e3) ok3 z3))
theorem ev_op {op : Operator} {r : R2} (ho : OpR X (binaryOp op) r) (hr : R2D X C r d1 d2 d) (ha : EV X C a Γ d1) (hb : EV X C b Γ d2) : EV X C (.BinOp a op b pos) Γ d := ev_t2 (pe_op ho pe_w pe_w) (fun _ _ _ h => h) ha hb hr
theorem evl_op {op : Operator} {r : R2} (ho : OpR X (binaryOp op) r) (hr : R2L X C r d1 d2 ds) (ha : EV X C a Γ d1) (hb : EV X C b Γ d2) : EVL X C (.BinOp a op b pos) Γ ds := .mk fun hK P σ H o Q q =>
  w_pe (pe_op ho pe_w pe_w) (ha hK P σ H o _ fun v H1 e1 ok1 z1 => hb hK P σ H1 (o.step e1 ok1) _ fun u H2 e2 ok2 z2 =>
    have o2 := (o.step e1 ok1).step e2 ok2
    hr hK P H2 v u o2.md (z1.mono ((o.step e1 ok1).le e2)) z2 Q fun p vs H3 e3 ok3 h1 h2 z3 => q p vs H3 ((e1.trans e2).trans e3) ok3 ((e1.trans e2).back ok2 h1) h2 z3)
theorem ev_cmp {op : CmpOp} {r : R2} (ho : OpR X (compareOp op) r) (hr : R2D X C r d1 d2 d) (ha : EV X C a Γ d1) (hb : EV X C b Γ d2) (hm : behindInMarks op b = false := by first | exact nomark _ | rfl) : EV X C (.Compare a [op] [b] pos) Γ d := ev_t2 (pe_cmpR ho pe_w pe_w hm) (fun _ _ _ h => h) ha hb hr
theorem tv_cmp {op : CmpOp} {r : R2} {k : Bool} (ho : OpR X (compareOp op) r) (hr : R2D X C r d1 d2 (.bool k)) (ha : EV X C a Γ d1) (hb : EV X C b Γ d2) (hm : behindInMarks op b = false := by first | exact nomark _ | rfl) : TV X C (.Compare a [op] [b] pos) Γ k := .mk fun hK P σ H o Q q =>
  w_pt (pt_cmpR ho pe_w pe_w hm) (ha hK P σ H o _ fun v H1 e1 ok1 z1 => hb hK P σ H1 (o.step e1 ok1) _ fun u H2 e2 ok2 z2 =>
    have o2 := (o.step e1 ok1).step e2 ok2
    hr hK P H2 v u o2.md (z1.mono ((o.step e1 ok1).le e2)) z2 _ fun w H3 e3 ok3 z3 => by cases z3; exact ⟨k, rfl, q H3 ((e1.trans e2).trans e3) ok3⟩)

theorem rd_I0 {g : Int → Int → V} {i j : Int} (hd : ∀ K H, DD K H (g i j) d) : R2D X C (rI0 g) (.int i) (.int j) d := fun _ P H x y m h1 h2 Q q => by
  cases h1; cases h2; exact ⟨i, j, rfl, rfl, q _ H (Ext.refl _ _) m.wok (hd _ _)⟩
theorem rd_I {c : Int → Int → Prop} {g : Int → Int → V} {i j : Int} (hc : c i j) (hd : ∀ K H, DD K H (g i j) d) : R2D X C (rI c g) (.int i) (.int j) d := fun _ P H x y m h1 h2 Q q => by
  cases h1; cases h2; exact ⟨i, j, rfl, rfl, hc, q _ H (Ext.refl _ _) m.wok (hd _ _)⟩
section
variable {i j : Int}
theorem ev_add (ha : EV X C a Γ (.int i)) (hb : EV X C b Γ (.int j)) : EV X C (.BinOp a .Add b pos) Γ (.int (i + j)) := ev_op op_add (rd_I0 fun _ _ => .int _) ha hb
theorem ev_sub (ha : EV X C a Γ (.int i)) (hb : EV X C b Γ (.int j)) : EV X C (.BinOp a .Sub b pos) Γ (.int (i - j)) := ev_op op_sub (rd_I0 fun _ _ => .int _) ha hb
theorem ev_mul (ha : EV X C a Γ (.int i)) (hb : EV X C b Γ (.int j)) (hc : CMulW i j) : EV X C (.BinOp a .Mult b pos) Γ (.int (i * j)) := ev_op op_mulW (rd_I hc fun _ _ => .int _) ha hb
theorem ev_fdiv (ha : EV X C a Γ (.int i)) (hb : EV X C b Γ (.int j)) (hc : CDivW i j) : EV X C (.BinOp a .FloorDiv b pos) Γ (.int (i / j)) := ev_op op_fdivW (rd_I hc fun _ _ => .int _) ha hb
theorem ev_mod (ha : EV X C a Γ (.int i)) (hb : EV X C b Γ (.int j)) (hc : 0 < j) : EV X C (.BinOp a .Mod b pos) Γ (.int (i % j)) := ev_op op_mod (rd_I hc fun _ _ => .int _) ha hb
theorem ev_pow (ha : EV X C a Γ (.int i)) (hb : EV X C b Γ (.int j)) (hc : CPow i j) : EV X C (.BinOp a .Pow b pos) Γ (.int (i ^ j.toNat)) := ev_op op_pow (rd_I hc fun _ _ => .int _) ha hb
/-- a divisor of either sign, below 2 ^ 9000 -/
def CDivWN (_ j : Int) : Prop := j ≠ 0 ∧ j.natAbs.log2 < 9000
theorem op_fdivWN : OpR X (binaryOp .FloorDiv) (rI CDivWN fun i j => .int (i.fdiv j)) := opI fun i j _ _ _ _ _ hc q => floordiv_int hc.1 q (.inl (PyProof.noPylong_of_log2 hc.2))
theorem ev_fdivN (ha : EV X C a Γ (.int i)) (hb : EV X C b Γ (.int j)) (hc : CDivWN i j) : EV X C (.BinOp a .FloorDiv b pos) Γ (.int (i.fdiv j)) := ev_op op_fdivWN (rd_I hc fun _ _ => .int _) ha hb
theorem ev_neg (ha : EV X C a Γ (.int i)) : EV X C (.UnaryOp .USub a pos) Γ (.int (-i)) := .mk fun hK P σ H o Q q =>
  w_pe (pe_un un_neg pe_w) (ha hK P σ H o _ fun v H1 e1 ok1 z1 => by cases z1; exact ⟨i, rfl, q _ H1 e1 ok1 (.int _)⟩)
theorem ev_lt (ha : EV X C a Γ (.int i)) (hb : EV X C b Γ (.int j)) : EV X C (.Compare a [.Lt] [b] pos) Γ (.bool (decide (i < j))) := ev_cmp op_lt (rd_I0 fun _ _ => .bl _) ha hb
theorem ev_le (ha : EV X C a Γ (.int i)) (hb : EV X C b Γ (.int j)) : EV X C (.Compare a [.LtE] [b] pos) Γ (.bool (decide (i ≤ j))) := ev_cmp op_le (rd_I0 fun _ _ => .bl _) ha hb
theorem ev_gt (ha : EV X C a Γ (.int i)) (hb : EV X C b Γ (.int j)) : EV X C (.Compare a [.Gt] [b] pos) Γ (.bool (decide (i > j))) := ev_cmp op_gt (rd_I0 fun _ _ => .bl _) ha hb
theorem ev_ge (ha : EV X C a Γ (.int i)) (hb : EV X C b Γ (.int j)) : EV X C (.Compare a [.GtE] [b] pos) Γ (.bool (decide (i ≥ j))) := ev_cmp op_ge (rd_I0 fun _ _ => .bl _) ha hb
theorem tv_lt (ha : EV X C a Γ (.int i)) (hb : EV X C b Γ (.int j)) : TV X C (.Compare a [.Lt] [b] pos) Γ (decide (i < j)) := tv_cmp op_lt (rd_I0 fun _ _ => .bl _) ha hb
theorem tv_le (ha : EV X C a Γ (.int i)) (hb : EV X C b Γ (.int j)) : TV X C (.Compare a [.LtE] [b] pos) Γ (decide (i ≤ j)) := tv_cmp op_le (rd_I0 fun _ _ => .bl _) ha hb
theorem tv_gt (ha : EV X C a Γ (.int i)) (hb : EV X C b Γ (.int j)) : TV X C (.Compare a [.Gt] [b] pos) Γ (decide (i > j)) := tv_cmp op_gt (rd_I0 fun _ _ => .bl _) ha hb
theorem tv_ge (ha : EV X C a Γ (.int i)) (hb : EV X C b Γ (.int j)) : TV X C (.Compare a [.GtE] [b] pos) Γ (decide (i ≥ j)) := tv_cmp op_ge (rd_I0 fun _ _ => .bl _) ha hb
end
/-! equality of scalars -/
def vOf : PD → Option V
  | .none => some .non
  | .bool b => some (.bl b)
  | .int i => some (.int i)
  | .str x => some (.str x)
  | _ => none
theorem DD.vOf {K : PySem.W.Frag} {H : Hp} {v v' : V} (h : DD K H v d) (e : vOf d = some v') : v = v' := by
  cases h <;> simp [RT.vOf] at e <;> exact e
theorem rd_eq {x y : V} (h1 : vOf d1 = some x) (h2 : vOf d2 = some y) (hs : scal x y = true) : R2D X C rEq d1 d2 (.bool (decide (x = y))) := fun _ P H v w m z1 z2 Q q => by
  rw [z1.vOf h1, z2.vOf h2]
  exact ⟨hs, q _ H (Ext.refl _ _) m.wok (.bl _)⟩
theorem rd_ne {x y : V} (h1 : vOf d1 = some x) (h2 : vOf d2 = some y) (hs : scal x y = true) : R2D X C rNe d1 d2 (.bool (!decide (x = y))) := fun _ P H v w m z1 z2 Q q => by
  rw [z1.vOf h1, z2.vOf h2]
  exact ⟨hs, q _ H (Ext.refl _ _) m.wok (.bl _)⟩
theorem rd_as {r : R2} (h : R2D X C r d1 d2 d) {d' : PD} (e : d = d') : R2D X C r d1 d2 d' := by rw [← e]; exact h
theorem rd_eqI {i j : Int} : R2D X C rEq (.int i) (.int j) (.bool (decide (i = j))) := rd_as (rd_eq rfl rfl rfl) (by simp)
theorem rd_neI {i j : Int} : R2D X C rNe (.int i) (.int j) (.bool (!decide (i = j))) := rd_as (rd_ne rfl rfl rfl) (by simp)
theorem rd_eqS {i j : Str} : R2D X C rEq (.str i) (.str j) (.bool (decide (i = j))) := rd_as (rd_eq rfl rfl rfl) (by simp)
theorem rd_neS {i j : Str} : R2D X C rNe (.str i) (.str j) (.bool (!decide (i = j))) := rd_as (rd_ne rfl rfl rfl) (by simp)
theorem rd_eqB {i j : Bool} : R2D X C rEq (.bool i) (.bool j) (.bool (decide (i = j))) := rd_as (rd_eq rfl rfl rfl) (by simp)
theorem rd_neB {i j : Bool} : R2D X C rNe (.bool i) (.bool j) (.bool (!decide (i = j))) := rd_as (rd_ne rfl rfl rfl) (by simp)
/-! is None -/
def isN : PD → Bool
  | .none => true
  | _ => false
theorem DD.isN {K : PySem.W.Frag} {H : Hp} {v : V} (h : DD K H v d) : decide (v = V.non) = RT.isN d := by
  cases h <;> simp [RT.isN]
theorem rd_isN : R2D X C (fun x y H Q => y = .non ∧ Q (.bl (decide (x = .non))) H) d1 .none (.bool (isN d1)) := fun _ P H v w m z1 z2 Q q => by
  cases z2
  refine ⟨rfl, ?_⟩
  rw [z1.isN]
  exact q _ H (Ext.refl _ _) m.wok (.bl _)
theorem rd_notN : R2D X C (fun x y H Q => y = .non ∧ Q (.bl (!decide (x = .non))) H) d1 .none (.bool (!isN d1)) := fun _ P H v w m z1 z2 Q q => by
  cases z2
  refine ⟨rfl, ?_⟩
  rw [z1.isN]
  exact q _ H (Ext.refl _ _) m.wok (.bl _)
theorem ev_isN {j : Nat} {p2 : Pos} (ha : EV X C a Γ d1) : EV X C (.Compare a [.Is] [.Constant .none j p2] pos) Γ (.bool (isN d1)) := ev_cmp op_isN rd_isN ha ev_non
theorem ev_notN {j : Nat} {p2 : Pos} (ha : EV X C a Γ d1) : EV X C (.Compare a [.IsNot] [.Constant .none j p2] pos) Γ (.bool (!isN d1)) := ev_cmp op_notN rd_notN ha ev_non
theorem tv_isN {j : Nat} {p2 : Pos} (ha : EV X C a Γ d1) : TV X C (.Compare a [.Is] [.Constant .none j p2] pos) Γ (isN d1) := tv_cmp op_isN rd_isN ha ev_non
theorem tv_notN {j : Nat} {p2 : Pos} (ha : EV X C a Γ d1) : TV X C (.Compare a [.IsNot] [.Constant .none j p2] pos) Γ (!isN d1) := tv_cmp op_notN rd_notN ha ev_non
/-! == of data -/
theorem shaped_nd {d : PD} (h : SeqAt.shaped d = true) : d.hasDict = false := PyData.hasDict_of_canLay d (SeqAt.canLay_of_shaped h)
theorem rd_eqD (s1 : SeqAt.shaped d1 = true) (s2 : SeqAt.shaped d2 = true) : R2D X C (rEqD X.K) d1 d2 (.bool (PyData.eqv d1 d2)) := fun hK P H v w m z1 z2 Q q => by
  rw [hK] at z1 z2
  exact ⟨d1, d2, (z1.mono msk_le).dp (shaped_nd s1), (z2.mono msk_le).dp (shaped_nd s2), s1, s2, q _ H (Ext.refl _ _) m.wok (.bl _)⟩
theorem rd_neD (s1 : SeqAt.shaped d1 = true) (s2 : SeqAt.shaped d2 = true) : R2D X C (rNeD X.K) d1 d2 (.bool (!PyData.eqv d1 d2)) := fun hK P H v w m z1 z2 Q q => by
  rw [hK] at z1 z2
  exact ⟨d1, d2, (z1.mono msk_le).dp (shaped_nd s1), (z2.mono msk_le).dp (shaped_nd s2), s1, s2, q _ H (Ext.refl _ _) m.wok (.bl _)⟩
theorem rd_inD (s1 : SeqAt.shaped d1 = true) (s2 : SeqAt.shaped (.list ds) = true) : R2D X C (rInD X.K) d1 (.list ds) (.bool (ds.any fun z => PyData.eqv z d1)) := fun hK P H v w m z1 z2 Q q => by
  rw [hK] at z1 z2
  exact ⟨d1, ds, (z1.mono msk_le).dp (shaped_nd s1), (z2.mono msk_le).dp (shaped_nd s2), s1, s2, q _ H (Ext.refl _ _) m.wok (.bl _)⟩
theorem rd_notInD (s1 : SeqAt.shaped d1 = true) (s2 : SeqAt.shaped (.list ds) = true) : R2D X C (rNotInD X.K) d1 (.list ds) (.bool (!ds.any fun z => PyData.eqv z d1)) := fun hK P H v w m z1 z2 Q q => by
  rw [hK] at z1 z2
  exact ⟨d1, ds, (z1.mono msk_le).dp (shaped_nd s1), (z2.mono msk_le).dp (shaped_nd s2), s1, s2, q _ H (Ext.refl _ _) m.wok (.bl _)⟩

/-! ### items, slices, concatenations -/
theorem DDs.atI {K : PySem.W.Frag} {H : Hp} {vs : List V} (h : DDs K H vs ds) {i : Int} (e : L2.atI ds i = some d) : ∃ v, L2.atI vs i = some v ∧ DD K H v d := by
  unfold L2.atI at e ⊢
  rw [h.length]
  cases z : ixN ds.length i with
  | none => rw [z] at e; cases e
  | some j =>
    rw [z] at e
    exact h.get e
theorem ev_ixT {i : Int} (ha : EV X C a Γ (.tuple ds)) (hb : EV X C b Γ (.int i)) (h : L2.atI ds i = some d) (hs : PlainIx b := by exact fun _ _ => rfl) : EV X C (.Subscript a b pos) Γ d :=
  ev_t2 (pe_ix ix_tup pe_w pe_w hs) (fun _ _ _ h => h) ha hb fun hK P H x y m z1 z2 Q q => by
    cases z2
    obtain ⟨p, vs, rfl, h1, h2⟩ := z1.tup_at
    obtain ⟨v, h3, h4⟩ := h2.atI h
    exact ⟨p, vs, i, v, rfl, rfl, by rw [← hK]; exact h1, h3, q v H (Ext.refl _ _) m.wok h4⟩
theorem ev_ixL {i : Int} (ha : EV X C a Γ (.list ds)) (hb : EV X C b Γ (.int i)) (h : L2.atI ds i = some d) (hs : PlainIx b := by exact fun _ _ => rfl) : EV X C (.Subscript a b pos) Γ d :=
  ev_t2 (pe_ix ix_list pe_w pe_w hs) (fun _ _ _ h => h) ha hb fun hK P H x y m z1 z2 Q q => by
    cases z2
    obtain ⟨p, vs, rfl, _, h1, h2⟩ := z1.lst_at
    obtain ⟨v, h3, h4⟩ := h2.atI h
    exact ⟨p, vs, i, v, rfl, rfl, SqL.of h1, h3, q v H (Ext.refl _ _) m.wok h4⟩
theorem ev_ixF {i : Int} {ns : List Int} {z : Int} (ha : EV X C a Γ (.dict (ns.map fun n => (.int n, .none)))) (hb : EV X C b Γ (.int i)) (h : L2.atI ns i = some z) (hs : PlainIx b := by exact fun _ _ => rfl) : EV X C (.Subscript a b pos) Γ (.int z) :=
  ev_t2 (pe_ix ix_list pe_w pe_w hs) (fun _ _ _ h => h) ha hb fun hK P H x y m z1 z2 Q q => by
    cases z2
    generalize hd : (PyData.dict (ns.map fun n => (PyData.int n, PyData.none))) = dd at z1
    cases z1 with
    | frz hl =>
      rename_i p ns'
      have e : ns = ns' := by
        have e1 := PyData.dict.inj hd
        have e2 := congrArg (List.map fun (p : PD × PD) => match p.1 with | .int i => i | _ => 0) e1
        rw [List.map_map, List.map_map] at e2
        simpa [Function.comp_def] using e2
      subst e
      have h' : L2.atI (ns.map V.int) i = some (V.int z) := by
        unfold L2.atI at h ⊢
        rw [List.length_map]
        cases w : ixN ns.length i with
        | none => rw [w] at h; cases h
        | some j =>
          rw [w] at h
          show (ns.map V.int)[j]? = _
          rw [List.getElem?_map, show ns[j]? = some z from h]
          rfl
      exact ⟨_, _, i, _, rfl, rfl, by rw [← hK]; exact msk_le.sql hl, h', q _ H (Ext.refl _ _) m.wok (.int z)⟩
    | opq a => cases ns with
      | nil => cases hd
      | cons n ns => cases hd
    | _ => cases hd
end
/-- the part lo, hi of a list -/
def cutD (xs : List PD) (lo hi : Option Int) : List PD := (xs.drop (HT.sIx xs.length 0 lo)).take (HT.sIx xs.length xs.length hi - HT.sIx xs.length 0 lo)
section
variable {X : Cx} {C : Ct} {Γ : List Sl} {e a b : Expr} {es : List Expr} {d d1 d2 : PD} {ds es' : List PD} {pos p2 : Pos}
theorem DDs.cut {K : PySem.W.Frag} {H : Hp} {vs : List V} (h : DDs K H vs ds) (lo hi : Option Int) : DDs K H (cutV vs lo hi) (cutD ds lo hi) := by
  unfold cutV cutD
  rw [h.length]
  exact (h.drop _).take _
/-- a part of a slice -/
def EVO (X : Cx) (C : Ct) (o : Option Expr) (Γ : List Sl) (k : Option Int) : Prop := ∃ t : TO, PO X o t ∧ (C.K = X.K → ∀ P σ H, Ok C P H σ Γ → ∀ Q : Option Int → Hp → Prop, (∀ H', Ext C.W H H' → C.W.ok H' → Q k H') → t σ H Q)
theorem evo_none : EVO X C none Γ none := ⟨_, po_none, fun _ P σ H o Q q => q H (Ext.refl _ _) o.wok⟩
theorem evo_some {i : Int} (h : EV X C e Γ (.int i)) : EVO X C (some e) Γ (some i) := ⟨_, po_some pe_w, fun hK P σ H o Q q => h hK P σ H o _ fun v H' e ok z => by cases z; exact ⟨i, rfl, q H' e ok⟩⟩
theorem le_add_new {P : Addr → Bool} {H : Hp} {p : Addr} {o : HO} (hp : H p = none) : Le (msk P H) (msk (add1 P p) (upd H p o)) := fun a o' w => by
  obtain ⟨w1, w2⟩ := msk_some (le_add1 hp a o' w)
  exact msk_of w1 (by rw [upd_ne (ne_of_none w2 hp)]; exact w2)
theorem evl_slice {lo hi : Option Expr} {i j : Option Int} (ha : EV X C a Γ (.list ds)) (hl : EVO X C lo Γ i) (hh : EVO X C hi Γ j) : EVL X C (.Subscript a (.Slice lo hi none p2) pos) Γ (cutD ds i j) := .mk fun hK P σ H o Q q => by
  obtain ⟨tl, hl1, hl2⟩ := hl
  obtain ⟨th, hh1, hh2⟩ := hh
  refine w_pe (pe_slice sl_list pe_w hl1 hh1) (ha hK P σ H o _ fun v H1 e1 ok1 z1 => hl2 hK P σ H1 (o.step e1 ok1) _ fun H2 e2 ok2 => hh2 hK P σ H2 ((o.step e1 ok1).step e2 ok2) _ fun H3 e3 ok3 => ?_)
  have z3 := z1.mono ((o.step e1 ok1).le (e2.trans e3))
  obtain ⟨p, vs, rfl, _, h1, h2⟩ := z3.lst_at
  have E := (e1.trans e2).trans e3
  exact ⟨p, vs, rfl, SqL.of h1, fun r hr => q r _ _ (E.trans (Ext.new hr)) (C.W.new ok3 hr) (E.back ok3 hr) upd_same ((h2.cut i j).mono (le_add_new hr))⟩
theorem ev_slice {lo hi : Option Expr} {i j : Option Int} (ha : EV X C a Γ (.list ds)) (hl : EVO X C lo Γ i) (hh : EVO X C hi Γ j) : EV X C (.Subscript a (.Slice lo hi none p2) pos) Γ (.list (cutD ds i j)) := (evl_slice ha hl hh).ev
theorem evl_cat (ha : EV X C a Γ (.list ds)) (hb : EV X C b Γ (.list es')) (hz : ds.length + es'.length ≤ 100000) : EVL X C (.BinOp a .Add b pos) Γ (ds ++ es') := evl_op op_cat (fun hK P H x y m z1 z2 Q q => by
  obtain ⟨p1, vs, rfl, _, h1, h2⟩ := z1.lst_at
  obtain ⟨p2, us, rfl, _, h3, h4⟩ := z2.lst_at
  exact ⟨p1, p2, vs, us, rfl, rfl, h1, h3, by rw [h2.length, h4.length]; exact sz_le hz, fun r hr => q r _ _ (Ext.new hr) (C.W.new m.wok hr) hr upd_same ((h2.append h4).mono (le_add_new hr))⟩) ha hb
theorem ev_cat (ha : EV X C a Γ (.list ds)) (hb : EV X C b Γ (.list es')) (hz : ds.length + es'.length ≤ 100000) : EV X C (.BinOp a .Add b pos) Γ (.list (ds ++ es')) := (evl_cat ha hb hz).ev
theorem ev_catT (ha : EV X C a Γ (.tuple ds)) (hb : EV X C b Γ (.tuple es')) (hn : ds ≠ []) (hn2 : es' ≠ []) (hz : ds.length + es'.length ≤ 100000) : EV X C (.BinOp a .Add b pos) Γ (.tuple (ds ++ es')) := ev_op op_catT (fun hK P H x y m z1 z2 Q q => by
  obtain ⟨p1, vs, rfl, h1, h2⟩ := z1.tup_at
  obtain ⟨p2, us, rfl, h3, h4⟩ := z2.tup_at
  have hu : us ≠ [] := fun z => by
    have := h4.length
    rw [z] at this
    exact hn2 (List.eq_nil_of_length_eq_zero this.symm)
  have hv : vs ≠ [] := fun z => by
    have := h2.length
    rw [z] at this
    exact hn (List.eq_nil_of_length_eq_zero this.symm)
  exact ⟨p1, p2, vs, us, rfl, rfl, by rw [← hK]; exact h1, by rw [← hK]; exact h3, hv, by rw [h2.length, h4.length]; exact sz_le hz, (fun z => absurd z hu), fun _ r hr => q _ _ (Ext.new hr) (C.W.new m.wok hr) (m.tup hr (h2.append h4))⟩) ha hb
end
end RT
end
section
set_option Elab.async false
set_option linter.all false
set_option maxRecDepth 100000
/-! A3: tests, targets, what is walked, comprehensions. -/
namespace RT
open PySem PySem.Spec PyProof.Rows L2
section
variable {X : Cx} {C : Ct} {Γ Γ' : List Sl} {e a b : Expr} {es : List Expr} {d d1 d2 : PD} {ds es' : List PD} {pos p2 : Pos} {x y : Bool}

/-! ### tests -/
theorem tv_val (h : EV X C e Γ (.bool x)) (he : ∀ whole, isTrue e X.env whole = (do let v ← whole; standAt e.pos; holding [v] (truthy v)) := by intro _; rfl) : TV X C e Γ x := .mk fun hK P σ H o Q q =>
  w_pt (pt_val pe_w he) (h hK P σ H o _ fun v H' e1 ok z => by cases z; exact ⟨x, rfl, q H' e1 ok⟩)
/-- a list as a test -/
theorem tv_lst (h : EV X C e Γ (.list ds)) (he : ∀ whole, isTrue e X.env whole = (do let v ← whole; standAt e.pos; holding [v] (truthy v)) := by intro _; rfl) : TV X C e Γ (!ds.isEmpty) := .mk fun hK P σ H o Q q =>
  w_pt (pt_truth pe_w he) (h hK P σ H o _ fun v H' e1 ok z => by
    obtain ⟨p, vs, rfl, _, h1, h2⟩ := z.lst_at
    refine ⟨!ds.isEmpty, .inl ⟨vs, SqL.of h1, ?_⟩, q H' e1 ok⟩
    have := h2.length
    cases vs <;> cases ds <;> simp_all)
theorem tv_not (h : TV X C e Γ x) : TV X C (.UnaryOp .Not e pos) Γ (!x) := .mk fun hK P σ H o Q q => w_pt (pt_not pt_w) (h hK P σ H o _ fun H' e1 ok => q H' e1 ok)
theorem TW.tv (h : TW X C e Γ x) : TV X C e Γ x := .mk fun hK P σ H o Q q => w_pt (PW.pt pw_w) (h hK P σ H o Q q)
theorem tw_and1 (h : TV X C a Γ x) : TW X C (.BoolOp .And [a] pos) Γ x := .mk fun hK P σ H o Q q => w_pw (pw_and1 pt_w) (h hK P σ H o Q q)
theorem tw_or1 (h : TV X C a Γ x) : TW X C (.BoolOp .Or [a] pos) Γ x := .mk fun hK P σ H o Q q => w_pw (pw_or1 pt_w) (h hK P σ H o Q q)
theorem tw_and {rest : List Expr} (h : TV X C a Γ x) (h2 : x = true → TW X C (.BoolOp .And (b :: rest) pos) Γ y) : TW X C (.BoolOp .And (a :: b :: rest) pos) Γ (x && y) := .mk fun hK P σ H o Q q =>
  w_pw (pw_and pt_w pw_w) (h hK P σ H o _ fun H' e1 ok => by
    cases x with
    | true => rw [if_pos rfl]; exact h2 rfl hK P σ H' (o.step e1 ok) Q fun H2 e2 ok2 => q H2 (e1.trans e2) ok2
    | false => rw [if_neg Bool.false_ne_true]; exact q H' e1 ok)
theorem tw_or {rest : List Expr} (h : TV X C a Γ x) (h2 : x = false → TW X C (.BoolOp .Or (b :: rest) pos) Γ y) : TW X C (.BoolOp .Or (a :: b :: rest) pos) Γ (x || y) := .mk fun hK P σ H o Q q =>
  w_pw (pw_or pt_w pw_w) (h hK P σ H o _ fun H' e1 ok => by
    cases x with
    | true => rw [if_pos rfl]; exact q H' e1 ok
    | false => rw [if_neg Bool.false_ne_true]; exact h2 rfl hK P σ H' (o.step e1 ok) Q fun H2 e2 ok2 => q H2 (e1.trans e2) ok2)
/-- .. as values -/
theorem ev_one {op : BoolOp} (h : EV X C a Γ d) : EV X C (.BoolOp op [a] pos) Γ d := .mk fun hK P σ H o Q q => w_pe (pe_one pe_w) (h hK P σ H o Q q)
theorem ev_and {rest : List Expr} (h : EV X C a Γ (.bool x)) (h2 : x = true → EV X C (.BoolOp .And (b :: rest) pos) Γ (.bool y)) : EV X C (.BoolOp .And (a :: b :: rest) pos) Γ (.bool (x && y)) := .mk fun hK P σ H o Q q =>
  w_pe (pe_and pe_w pe_w) (h hK P σ H o _ fun v H' e1 ok z => by
    cases z
    refine ⟨x, rfl, ?_⟩
    cases x with
    | true => rw [if_pos rfl]; exact h2 rfl hK P σ H' (o.step e1 ok) Q fun v2 H2 e2 ok2 z2 => q v2 H2 (e1.trans e2) ok2 z2
    | false => rw [if_neg Bool.false_ne_true]; exact q _ H' e1 ok (.bl _))
theorem ev_or {rest : List Expr} (h : EV X C a Γ (.bool x)) (h2 : x = false → EV X C (.BoolOp .Or (b :: rest) pos) Γ (.bool y)) : EV X C (.BoolOp .Or (a :: b :: rest) pos) Γ (.bool (x || y)) := .mk fun hK P σ H o Q q =>
  w_pe (pe_or pe_w pe_w) (h hK P σ H o _ fun v H' e1 ok z => by
    cases z
    refine ⟨x, rfl, ?_⟩
    cases x with
    | true => rw [if_pos rfl]; exact q _ H' e1 ok (.bl _)
    | false => rw [if_neg Bool.false_ne_true]; exact h2 rfl hK P σ H' (o.step e1 ok) Q fun v2 H2 e2 ok2 z2 => q v2 H2 (e1.trans e2) ok2 z2)
theorem ev_not (h : EV X C a Γ (.bool x)) : EV X C (.UnaryOp .Not a pos) Γ (.bool (!x)) := .mk fun hK P σ H o Q q => w_pe (pe_not pe_w) (h hK P σ H o _ fun v H' e1 ok z => by cases z; exact ⟨x, rfl, q _ H' e1 ok (.bl _)⟩)

/-! ### targets -/
def wG (X : Cx) (tg : Expr) : TG := fun v σ H Q => ∀ (pins : List (Addr × Obj)) (s : Shared) (u : Value), Inv X pins σ H s → RelV v u → wpAny (model X.prog X.w) X.A (assign tg X.env u) (fun _ s' => ∃ σ' H', Inv X pins σ' H' s' ∧ Q σ' H') X.xe s
theorem pg_w {tg : Expr} : PG X tg (wG X tg) := ⟨fun pins s σ H v u Q I r h => h pins s u I r⟩
theorem w_pg {tg : Expr} {t : TG} (h : PG X tg t) {v : V} {σ : L2.St} {H : Hp} {Q : L2.St → Hp → Prop} (q : t v σ H Q) : wG X tg v σ H Q := fun pins s u I r => h.run pins s σ H v u Q I r q
def wGs (X : Cx) (ts : List Expr) : TGs := fun vs σ H Q => ∀ (pins : List (Addr × Obj)) (s : Shared) (us : List Value), Inv X pins σ H s → Vals vs us → wpAny (model X.prog X.w) X.A (assignInOrder ((assignEach ts X.env).map (·.2)) us) (fun _ s' => ∃ σ' H', Inv X pins σ' H' s' ∧ Q σ' H') X.xe s
theorem pgs_w {ts : List Expr} : PGs X ts (wGs X ts) := ⟨fun pins s σ H vs us Q I r h => h pins s us I r⟩
theorem w_pgs {ts : List Expr} {t : TGs} (h : PGs X ts t) {vs : List V} {σ : L2.St} {H : Hp} {Q : L2.St → Hp → Prop} (q : t vs σ H Q) : wGs X ts vs σ H Q := fun pins s us I r => h.run pins s σ H vs us Q I r q
/-- the target takes the data d: then Γ', nothing else is changed but the slots vs -/
structure GV (X : Cx) (C : Ct) (tg : Expr) (Γ : List Sl) (d : PD) (Γ' : List Sl) (ws : List Nat) : Prop where
  run : C.K = X.K → ∀ P σ H v, Ok C P H σ Γ → DD C.K (msk P H) v d → ∀ Q : L2.St → Hp → Prop, (∀ σ', Ok C P H σ' Γ' → (∀ vs : List Nat, (∀ i ∈ ws, i ∈ vs) → L2.wipe σ' vs = L2.wipe σ vs) → Q σ' H) → wG X tg v σ H Q
instance {X : Cx} {C : Ct} {tg : Expr} {Γ : List Sl} {d : PD} {Γ' : List Sl} {ws : List Nat} : CoeFun (GV X C tg Γ d Γ' ws) fun _ => (C.K = X.K → ∀ P σ H v, Ok C P H σ Γ → DD C.K (msk P H) v d → ∀ Q : L2.St → Hp → Prop, (∀ σ', Ok C P H σ' Γ' → (∀ vs : List Nat, (∀ i ∈ ws, i ∈ vs) → L2.wipe σ' vs = L2.wipe σ vs) → Q σ' H) → wG X tg v σ H Q) := ⟨GV.run⟩
structure GVs (X : Cx) (C : Ct) (ts : List Expr) (Γ : List Sl) (ds : List PD) (Γ' : List Sl) (ws : List Nat) : Prop where
  run : C.K = X.K → ∀ P σ H us, Ok C P H σ Γ → DDs C.K (msk P H) us ds → ∀ Q : L2.St → Hp → Prop, (∀ σ', Ok C P H σ' Γ' → (∀ vs : List Nat, (∀ i ∈ ws, i ∈ vs) → L2.wipe σ' vs = L2.wipe σ vs) → Q σ' H) → wGs X ts us σ H Q
instance {X : Cx} {C : Ct} {ts : List Expr} {Γ : List Sl} {ds : List PD} {Γ' : List Sl} {ws : List Nat} : CoeFun (GVs X C ts Γ ds Γ' ws) fun _ => (C.K = X.K → ∀ P σ H us, Ok C P H σ Γ → DDs C.K (msk P H) us ds → ∀ Q : L2.St → Hp → Prop, (∀ σ', Ok C P H σ' Γ' → (∀ vs : List Nat, (∀ i ∈ ws, i ∈ vs) → L2.wipe σ' vs = L2.wipe σ vs) → Q σ' H) → wGs X ts us σ H Q) := ⟨GVs.run⟩
theorem wipe_get {σ : L2.St} {j : Nat} : ∀ {vs : List Nat}, j ∈ vs → j < σ.length → (L2.wipe σ vs)[j]? = some none
  | v :: vs, h, hl => by
    show ((L2.wipe σ vs).set v none)[j]? = some none
    by_cases e : v = j
    · subst e
      rw [List.getElem?_set_self (by rw [wipe_length]; exact hl)]
    · rw [List.getElem?_set_ne e]
      exact wipe_get ((List.mem_cons.mp h).resolve_left fun z => e z.symm) hl
theorem wipe_ne {σ : L2.St} {j : Nat} : ∀ {vs : List Nat}, j ∉ vs → (L2.wipe σ vs)[j]? = σ[j]?
  | [], _ => rfl
  | v :: vs, h => by
    show ((L2.wipe σ vs).set v none)[j]? = _
    rw [List.getElem?_set_ne fun z => h (by rw [z]; exact List.mem_cons_self)]
    exact wipe_ne fun z => h (List.mem_cons_of_mem _ z)
theorem wipe_set {σ : L2.St} {i : Nat} {x : Option V} {vs : List Nat} (h : i ∈ vs) : L2.wipe (σ.set i x) vs = L2.wipe σ vs := by
  refine List.ext_getElem? fun j => ?_
  by_cases hj : j ∈ vs
  · by_cases hl : j < σ.length
    · rw [wipe_get hj (by rw [List.length_set]; exact hl), wipe_get hj hl]
    · rw [List.getElem?_eq_none (by rw [wipe_length, List.length_set]; omega), List.getElem?_eq_none (by rw [wipe_length]; omega)]
  · rw [wipe_ne hj, wipe_ne hj, List.getElem?_set_ne fun z => hj (by rw [← z]; exact h)]
theorem gv_name (i : Nat) {x : Str} (hN : X.N.Nodup) (hi : X.N[i]? = some x := by rfl) (hx : Loc X.env.scope x := by first | exact Or.inl rfl | exact Or.inr rfl) (hf : X.fn x = true ∨ X.env.scope.names.lookup x = some .local := by first | exact .inl rfl | exact .inr rfl) (hl : Nat.blt i Γ.length = true := by rfl) : GV X C (.Name x pos) Γ d (Γ.set i (.pu d)) [i] := .mk fun hK P σ H v o z Q q =>
  w_pg (pg_name hN hi hx hf) (q _ (o.set (Nat.le_of_ble_eq_true hl) z) fun vs h => wipe_set (h i (by simp)))
theorem gvs_nil : GVs X C [] Γ [] Γ [] := .mk fun hK P σ H us o z Q q => w_pgs pgs_nil (by cases z; exact ⟨rfl, q σ o fun _ _ => rfl⟩)
theorem gvs_cons {Γ2 : List Sl} {w1 w2 : List Nat} (h1 : GV X C e Γ d Γ' w1) (h2 : GVs X C es Γ' ds Γ2 w2) (hs : (assignEach (e :: es) X.env).map (·.2) = assign e X.env :: (assignEach es X.env).map (·.2) := by rfl) : GVs X C (e :: es) Γ (d :: ds) Γ2 (w1 ++ w2) := .mk fun hK P σ H us o z Q q => by
  cases z with
  | cons z1 z2 =>
    exact w_pgs (pgs_cons pg_w pgs_w hs) ⟨_, _, rfl, h1 hK P σ H _ o z1 _ fun σ1 o1 k1 => h2 hK P σ1 H _ o1 z2 Q fun σ2 o2 k2 => q σ2 o2 fun vs hv =>
      (k2 vs fun i hi => hv i (List.mem_append_right _ hi)).trans (k1 vs fun i hi => hv i (List.mem_append_left _ hi))⟩
theorem gv_tup {k : Nat} {ws : List Nat} (h : GVs X C es Γ ds Γ' ws) (hc : X.calm = true := by rfl) (hn : (assignEach es X.env).length = ds.length := by rfl) (hst : (assignEach es X.env).findIdx? (·.1) = none := by rfl) : GV X C (.Tuple es k pos) Γ (.tuple ds) Γ' ws := .mk fun hK P σ H v o z Q q => by
  obtain ⟨a, vs, rfl, h1, h2⟩ := z.tup_at
  exact w_pg (pg_tup hc pgs_w hn hst) ⟨a, vs, rfl, by rw [← hK]; exact h1, h2.length, h hK P σ H vs o h2 Q q⟩

/-! ### what is walked -/
/-- at each turn an item of its -/
structure JD (C : Ct) (J : It) (its : List PD) (Src : Hp → Prop) : Prop where
  mono : ∀ M M', Le M M' → Src M → Src M'
  go : ∀ P H i d, Md C P H → Src (msk P H) → its[i]? = some d → J.go i H ∧ ∀ x H', J.yld i H x H' → Ext C.W H H' ∧ C.W.ok H' ∧ DD C.K (msk P H') x d
  stop : ∀ P H, Md C P H → Src (msk P H) → J.stop its.length H
def wI (X : Cx) (tg iter : Expr) : TI := fun σ H R => ∀ (pins : List (Addr × Obj)) (s : Shared), Inv X pins σ H s → wpAny (model X.prog X.w) X.A (eval iter X.env) (fun v s1 => wpAny (model X.prog X.w) X.A (pyIter v) (PIE X pins σ tg R) X.xe s1) X.xe s
theorem pi_w {tg iter : Expr} : PI X tg iter (wI X tg iter) := ⟨fun pins s σ H R I h => h pins s I⟩
theorem w_pi {tg iter : Expr} {t : TI} (h : PI X tg iter t) {σ : L2.St} {H : Hp} {R : It → Hp → Prop} (q : t σ H R) : wI X tg iter σ H R := fun pins s I => h.run pins s σ H R I q
structure IV (X : Cx) (C : Ct) (tg iter : Expr) (Γ : List Sl) (its : List PD) : Prop where
  run : C.K = X.K → ∀ P σ H, Ok C P H σ Γ → ∀ R : It → Hp → Prop, (∀ J Src H', Ext C.W H H' → C.W.ok H' → JD C J its Src → Src (msk P H') → R J H') → wI X tg iter σ H R
instance {X : Cx} {C : Ct} {tg iter : Expr} {Γ : List Sl} {its : List PD} : CoeFun (IV X C tg iter Γ its) fun _ => (C.K = X.K → ∀ P σ H, Ok C P H σ Γ → ∀ R : It → Hp → Prop, (∀ J Src H', Ext C.W H H' → C.W.ok H' → JD C J its Src → Src (msk P H') → R J H') → wI X tg iter σ H R) := ⟨IV.run⟩
theorem iv_lst {tg : Expr} (h : EV X C e Γ (.list ds)) : IV X C tg e Γ ds := .mk fun hK P σ H o R q =>
  w_pi (pi_list pe_w) (h hK P σ H o _ fun v H' e1 ok z => by
    obtain ⟨p, vs, rfl, hP, h1, h2⟩ := z.lst_at
    refine ⟨p, rfl, ⟨vs, SqL.of h1⟩, q _ (fun M => M p = some (.lst vs) ∧ DDs C.K M vs ds) H' e1 ok ⟨fun M M' l s => ⟨l _ _ s.1, s.2.mono l⟩, fun P H i d m s hi => ?_, fun P H m s => ⟨vs, SqL.of (msk_some s.1).2, Nat.le_of_eq s.2.length⟩⟩ ⟨msk_of hP h1, h2⟩⟩
    obtain ⟨v, hv, z⟩ := s.2.get hi
    refine ⟨⟨vs, v, SqL.of (msk_some s.1).2, hv⟩, fun x H' y => ?_⟩
    obtain ⟨rfl, y⟩ := y
    have hx := y vs (SqL.of (msk_some s.1).2)
    rw [hv] at hx
    cases hx
    exact ⟨Ext.refl _ _, m.wok, z⟩)
theorem iv_tup {tg : Expr} (h : EV X C e Γ (.tuple ds)) : IV X C tg e Γ ds := .mk fun hK P σ H o R q =>
  w_pi (pi_tup pe_w) (h hK P σ H o _ fun v H' e1 ok z => by
    cases z with
    | tup h1 h2 =>
      rename_i p vs
      refine ⟨p, rfl, ⟨vs, by rw [← hK]; exact msk_le.sqt h1⟩, q _ (fun M => SqT C.K M p vs ∧ DDs C.K M vs ds) H' e1 ok ⟨fun M M' l s => ⟨l.sqt s.1, s.2.mono l⟩, fun P H i d m s hi => ?_, fun P H m s => ⟨vs, by rw [← hK]; exact msk_le.sqt s.1, Nat.le_of_eq s.2.length⟩⟩ ⟨h1, h2⟩⟩
      obtain ⟨v, hv, z⟩ := s.2.get hi
      refine ⟨⟨vs, v, by rw [← hK]; exact msk_le.sqt s.1, hv⟩, fun x H' y => ?_⟩
      obtain ⟨rfl, y⟩ := y
      have hx := y vs (by rw [← hK]; exact msk_le.sqt s.1)
      rw [hv] at hx
      cases hx
      exact ⟨Ext.refl _ _, m.wok, z⟩)
/-- lo, lo + 1, .. -/
def rngD (lo : Int) (n : Nat) : List PD := (List.range n).map fun (i : Nat) => PyData.int (lo + (i : Int))
theorem rngD_len (lo : Int) (n : Nat) : (rngD lo n).length = n := by unfold rngD; simp
theorem rngD_at {lo : Int} {n i : Nat} {d : PD} (h : (rngD lo n)[i]? = some d) : i < n ∧ d = .int (lo + (i : Int)) := by
  obtain ⟨h1, h2⟩ := List.getElem?_eq_some_iff.mp h
  rw [rngD_len] at h1
  refine ⟨h1, ?_⟩
  rw [← h2]
  simp [rngD]
theorem jd_rng {lo : Int} {n : Nat} : JD C (Itr lo n) (rngD lo n) fun _ => True := ⟨fun _ _ _ _ => trivial, fun P H i d m _ hi => by
    obtain ⟨h1, rfl⟩ := rngD_at hi
    refine ⟨h1, fun x H' y => ?_⟩
    obtain ⟨rfl, rfl⟩ := y
    exact ⟨Ext.refl _ _, m.wok, .int _⟩, fun P H m _ => by rw [rngD_len]; exact Nat.le_refl _⟩
theorem iv_rng1 {tg : Expr} {p : Pos} {n : Int} (hm : X.mg "range" = none) (h : EV X C e Γ (.int n)) (hb : -(2 ^ 62) ≤ n ∧ n < 2 ^ 62) (hg : Gl X "range" := by rfl) (hs : starEach [e] X.env = [(false, eval e X.env)] := by rfl) : IV X C tg (.Call (.Name "range" p) [e] [] pos) Γ (rngD 0 n.toNat) := .mk fun hK P σ H o R q =>
  w_pi (pi_range1 hg hm pa_w hs) (evs_one h hs hK P σ H o _ fun vs H' e1 ok z => by
    cases z with
    | cons z1 z2 => cases z1; cases z2; exact ⟨n, rfl, hb.1, hb.2, q _ _ H' e1 ok jd_rng trivial⟩)
theorem iv_rng2 {tg : Expr} {p : Pos} {m n : Int} (hm : X.mg "range" = none) (h : EV X C a Γ (.int m)) (h2 : EV X C b Γ (.int n)) (hb : -(2 ^ 62) ≤ m ∧ m < 2 ^ 62 ∧ -(2 ^ 62) ≤ n ∧ n < 2 ^ 62) (hg : Gl X "range" := by rfl)
    (hs : starEach [a, b] X.env = [(false, eval a X.env), (false, eval b X.env)] := by rfl) (hs2 : starEach [b] X.env = [(false, eval b X.env)] := by rfl) : IV X C tg (.Call (.Name "range" p) [a, b] [] pos) Γ (rngD m (n - m).toNat) := .mk fun hK P σ H o R q =>
  w_pi (pi_range2 hg hm pa_w hs hs2) (evs_cons h (evs_one h2 hs2) (by rw [hs, hs2]) hK P σ H o _ fun vs H' e1 ok z => by
    cases z with
    | cons z1 z2 =>
      cases z1
      cases z2 with
      | cons z2 z3 => cases z2; cases z3; exact ⟨m, n, rfl, hb, q _ _ H' e1 ok jd_rng trivial⟩)
/-- pairs of a place and an item -/
def enumD (ds : List PD) : List PD := ds.zipIdx.map fun p => .tuple [.int (p.2 : Int), p.1]
theorem enumD_at {i : Nat} (h : (enumD ds)[i]? = some d) : ∃ d', ds[i]? = some d' ∧ d = .tuple [.int (i : Int), d'] := by
  unfold enumD at h
  rw [List.getElem?_map, List.getElem?_zipIdx] at h
  cases e : ds[i]? with
  | none => rw [e] at h; cases h
  | some d' =>
    rw [e] at h
    refine ⟨d', rfl, ?_⟩
    simpa using h.symm
theorem iv_enum {p tpos : Pos} {elts : List Expr} {kk : Nat} (hm : X.mg "enumerate" = none) (h : EV X C e Γ (.list ds)) (hg : Gl X "enumerate" := by rfl) (hs : starEach [e] X.env = [(false, eval e X.env)] := by rfl) : IV X C (.Tuple elts kk tpos) (.Call (.Name "enumerate" p) [e] [] pos) Γ (enumD ds) := .mk fun hK P σ H o R q =>
  w_pi (pi_enum hg hm pa_w hs) (evs_one h hs hK P σ H o _ fun vs H' e1 ok z => by
    cases z with
    | cons z1 z2 =>
      cases z2
      obtain ⟨p, vs, rfl, hP, h1, h2⟩ := z1.lst_at
      refine ⟨p, vs, rfl, SqL.of h1, q _ (fun M => M p = some (.lst vs) ∧ DDs C.K M vs ds) H' e1 ok ⟨fun M M' l s => ⟨l _ _ s.1, s.2.mono l⟩, fun P H i d m s hi => ?_, fun P H m s => ⟨vs, SqL.of (msk_some s.1).2, by unfold enumD; rw [List.length_map, List.length_zipIdx]; exact Nat.le_of_eq s.2.length⟩⟩ ⟨msk_of hP h1, h2⟩⟩
      obtain ⟨d', hd', rfl⟩ := enumD_at hi
      obtain ⟨v, hv, z⟩ := s.2.get hd'
      refine ⟨⟨vs, v, SqL.of (msk_some s.1).2, hv⟩, fun x H' y => ?_⟩
      obtain ⟨T, x', rfl, hT, rfl, y⟩ := y
      have hx := y vs (SqL.of (msk_some s.1).2)
      rw [hv] at hx
      cases hx
      exact ⟨Ext.new hT, m.ok_new hT, m.tup hT (.cons (.int _) (.cons z .nil))⟩)
end
section
variable {X : Cx} {C : Ct} {Γ Γ' : List Sl} {e a b : Expr} {es : List Expr} {d d1 d2 : PD} {ds es' : List PD} {pos p2 : Pos} {x y : Bool}
/-- pairs of two tuples' items -/
def zipD (ds es : List PD) : List PD := (ds.zip es).map fun p => .tuple [p.1, p.2]
theorem zipD_at {i : Nat} (h : (zipD ds es')[i]? = some d) : ∃ d1 d2, ds[i]? = some d1 ∧ es'[i]? = some d2 ∧ d = .tuple [d1, d2] := by
  unfold zipD at h
  rw [List.getElem?_map] at h
  cases e : (ds.zip es')[i]? with
  | none => rw [e] at h; cases h
  | some p =>
    rw [e] at h
    obtain ⟨h1, h2⟩ := List.getElem?_zip_eq_some.mp e
    exact ⟨p.1, p.2, h1, h2, by simpa using h.symm⟩
theorem iv_zip {p tpos : Pos} {elts : List Expr} {kk : Nat} (hm : X.mg "zip" = none) (h : EV X C a Γ (.tuple ds)) (h2 : EV X C b Γ (.tuple es')) (hl : ds.length = es'.length) (hg : Gl X "zip" := by rfl)
    (hs : starEach [a, b] X.env = (false, eval a X.env) :: starEach [b] X.env := by rfl) (hpl : (backTo pos (starEach [b] X.env)).any (·.1) = false := by rfl) (hs2 : starEach [b] X.env = (false, eval b X.env) :: starEach [] X.env := by rfl) :
    IV X C (.Tuple elts kk tpos) (.Call (.Name "zip" p) [a, b] [] pos) Γ (zipD ds es') := .mk fun hK P σ H o R q =>
  w_pi (RZ.pi_zipA hg hm pa_w hs hpl) (evs_cons h (evs_one h2 hs2) hs hK P σ H o _ fun vs H' e1 ok z => by
    cases z with
    | cons z1 z2 =>
      cases z2 with
      | cons z2 z3 =>
        cases z3
        cases z1 with
        | tup a1 a2 =>
          cases z2 with
          | tup b1 b2 =>
            rename_i p1 vs1 p2 vs2
            refine ⟨p1, p2, vs1, vs2, rfl, .inr ⟨by rw [← hK]; exact msk_le.sqt a1, by rw [← hK]; exact msk_le.sqt b1, q _ (fun M => (SqT C.K M p1 vs1 ∧ DDs C.K M vs1 ds) ∧ SqT C.K M p2 vs2 ∧ DDs C.K M vs2 es') H' e1 ok
              ⟨fun M M' l s => ⟨⟨l.sqt s.1.1, s.1.2.mono l⟩, l.sqt s.2.1, s.2.2.mono l⟩, fun P H i d m s hi => ?_, fun P H m s => ⟨vs1, vs2, by rw [← hK]; exact msk_le.sqt s.1.1, by rw [← hK]; exact msk_le.sqt s.2.1, ?_⟩⟩ ⟨⟨a1, a2⟩, b1, b2⟩⟩⟩
            · obtain ⟨d1, d2, h1, h2, rfl⟩ := zipD_at hi
              obtain ⟨v1, hv1, y1⟩ := s.1.2.get h1
              obtain ⟨v2, hv2, y2⟩ := s.2.2.get h2
              have q1 : SqT X.K H p1 vs1 := by rw [← hK]; exact msk_le.sqt s.1.1
              have q2 : SqT X.K H p2 vs2 := by rw [← hK]; exact msk_le.sqt s.2.1
              refine ⟨⟨vs1, vs2, v1, v2, q1, q2, hv1, hv2⟩, fun x H' y => ?_⟩
              obtain ⟨T, x1, x2, rfl, hT, rfl, y1', y2'⟩ := y
              have hx1 := y1' vs1 q1
              have hx2 := y2' vs2 q2
              rw [hv1] at hx1
              rw [hv2] at hx2
              cases hx1
              cases hx2
              exact ⟨Ext.new hT, m.ok_new hT, m.tup hT (.cons y1 (.cons y2 .nil))⟩
            · unfold zipD
              rw [List.length_map, List.length_zip, s.1.2.length, hl, Nat.min_self]
              exact .inl (Nat.le_refl _))

/-! ### comprehensions -/
/-- the block's context -/
abbrev bk (X : Cx) (s : Shared) (H : Hp) (sc : Scope) (Ca : Addr) (cl : List (Str × Addr)) (fp : List Addr) : Cx := X.blk s H sc (compEnvC sc cl Ca X.env) fp
/-- a list aside, that no slot holds, is written -/
theorem Ok.upd {P : Addr → Bool} {H : Hp} {σ : L2.St} {D : Addr} {u : HO} (h : Ok C P H σ Γ) (hP : P D = true) (h0 : C.P0 D = false) (n : ∀ (j : Nat) (ds : List PD), Γ[j]? = some (.ow ds) → σ[j]? ≠ some (some (.ref D))) : Ok C P (L2.upd H D u) σ Γ := by
  have hH0 : C.H0 D = none := (h.new D hP).resolve_left fun z => by rw [h0] at z; cases z
  have L : Le (msk P H) (msk P (L2.upd H D u)) := fun a o z => by
    obtain ⟨z1, z2⟩ := msk_some z
    refine msk_of z1 ?_
    rw [upd_ne (fun y => by rw [y, hP] at z1; cases z1)]
    exact z2
  have nw : ¬ C.W.wob D := fun z => by rw [h.wob D z] at h0; cases h0
  refine ⟨h.ext.mut hH0, C.W.upd h.wok nw, fun a z => ?_, h.wob, h.sub, h.new, h.len, fun j x e => ?_, h.ap⟩
  · by_cases y : a = D
    · rw [y, upd_same]; exact fun w => nomatch w
    · rw [upd_ne y]; exact h.dom a z
  · have z := h.sl j x e
    cases x with
    | no => trivial
    | pu d' =>
      obtain ⟨v', z1, z2⟩ := z
      exact ⟨v', z1, z2.mono L⟩
    | ow ds' =>
      obtain ⟨p', vs', z1, z2, z3, z4, z5⟩ := z
      have hne : p' ≠ D := fun y => by
        rw [y] at z1
        exact n j ds' e z1
      exact ⟨p', vs', z1, z2, z3, by rw [upd_ne hne]; exact z4, z5.mono L⟩
/-- a new list aside -/
theorem Ok.aside {P : Addr → Bool} {H : Hp} {σ : L2.St} {D : Addr} {u : HO} (h : Ok C P H σ Γ) (hD : H D = none) : Ok C (add1 P D) (L2.upd H D u) σ Γ ∧ ∀ (j : Nat) (ds : List PD), Γ[j]? = some (.ow ds) → σ[j]? ≠ some (some (.ref D)) := by
  have hP : P D = false := h.md.free hD
  have L : Le (msk P H) (msk (add1 P D) (L2.upd H D u)) := le_add_new hD
  refine ⟨⟨h.ext.trans (Ext.new hD), C.W.new h.wok hD, fun a z => ?_, h.wob, fun a z => add1_of (h.sub a z), fun a z => ?_, h.len, fun j x e => ?_, h.ap⟩, fun j ds e z => ?_⟩
  · by_cases y : a = D
    · rw [y, upd_same]; exact fun w => nomatch w
    · unfold add1 at z
      rw [decide_eq_false y, Bool.false_or] at z
      rw [upd_ne y]; exact h.dom a z
  · by_cases y : a = D
    · exact .inr (by rw [y]; exact h.ext.back h.wok hD)
    · unfold add1 at z
      rw [decide_eq_false y, Bool.false_or] at z
      exact h.new a z
  · have z := h.sl j x e
    cases x with
    | no => trivial
    | pu d' =>
      obtain ⟨v', z1, z2⟩ := z
      exact ⟨v', z1, z2.mono L⟩
    | ow ds' =>
      obtain ⟨p', vs', z1, z2, z3, z4, z5⟩ := z
      have hne : p' ≠ D := fun y => by rw [y, hP] at z2; cases z2
      exact ⟨p', vs', z1, add1_of z2, z3, by rw [upd_ne hne]; exact z4, z5.mono L⟩
  · obtain ⟨p', vs', z1, z2, _⟩ := h.sl j _ e
    rw [z] at z1
    cases z1
    rw [hP] at z2; cases z2
theorem wipe_idem {σ : L2.St} {vs : List Nat} : L2.wipe (L2.wipe σ vs) vs = L2.wipe σ vs := by
  refine List.ext_getElem? fun j => ?_
  by_cases hj : j ∈ vs
  · by_cases hl : j < σ.length
    · rw [wipe_get hj (by rw [wipe_length]; exact hl), wipe_get hj hl]
    · rw [List.getElem?_eq_none (by rw [wipe_length, wipe_length]; omega), List.getElem?_eq_none (by rw [wipe_length]; omega)]
  · rw [wipe_ne hj]
theorem lcG_read {α : Type} {tg iter elt : Expr} {scope : Scope} {own : List (Str × Nat)} {tt : TT} (en : α → PD) (b : α → Bool) (v : α → PD) (xs : List α) (hi : IV X C tg iter Γ (xs.map en)) (hz : xs.length ≤ 100000)
    (hb : ∀ x ∈ xs, ∃ Γ2 ws, (∀ i ∈ ws, i ∈ own.map (·.2)) ∧ (∀ s H Ca cl fp, GV (bk X s H scope Ca cl fp) C tg (wipeG Γ (own.map (·.2))) (en x) Γ2 ws) ∧
      (C.K = X.K → ∀ P σ H, Ok C P H σ Γ2 → ∀ Q : Bool → Hp → Prop, (∀ H', Ext C.W H H' → C.W.ok H' → Q (b x) H') → tt σ H Q) ∧
      (b x = true → ∀ s H Ca cl fp, EV (bk X s H scope Ca cl fp) C elt Γ2 (v x)))  (hK : C.K = X.K) {P : Addr → Bool} {σ : L2.St} {H : Hp} (o : Ok C P H σ Γ) {Q : VK} (q : ∀ p vs H', Ext C.W H H' → C.W.ok H' → H p = none → H' p = some (.lst vs) → DDs C.K (msk (add1 P p) H') vs ((xs.filter b).map v) → Q (.ref p) H') :
    tLc (wI X tg iter) (fun v σ H Q => ∀ s H' Ca cl fp, wG (bk X s H' scope Ca cl fp) tg v σ H Q) tt (fun σ H Q => ∀ s H' Ca cl fp, wE (bk X s H' scope Ca cl fp) elt σ H Q) (own.map (·.2)) σ H Q := by
  refine hi hK P σ H o _ fun J Src H1 e1 ok1 jd src D hD => ?_
  have o1 := o.step e1 ok1
  obtain ⟨oA, nA⟩ := o1.aside (u := .lst []) hD
  have oW : ∀ {H'}, Ok C (add1 P D) H' σ Γ → Ok C (add1 P D) H' (L2.wipe σ (own.map (·.2))) (wipeG Γ (own.map (·.2))) := fun {H'} w => w.wipe _
  have h0 : C.P0 D = false := by
    cases z : C.P0 D with
    | false => rfl
    | true =>
      have := o1.md.free hD
      rw [o.sub D z] at this; cases this
  let Pv : Nat → Hp → Prop := fun i H' => Ok C (add1 P D) H' σ Γ ∧ Ext C.W H H' ∧ Src (msk (add1 P D) H') ∧ ∃ us, H' D = some (.lst us) ∧ DDs C.K (msk (add1 P D) H') us (((xs.take i).filter b).map v)
  refine ⟨fun i m H' => m = xs.length - i ∧ i ≤ xs.length ∧ Pv i H', ⟨xs.length, by simp, Nat.zero_le _, oA, e1.trans (Ext.new hD), jd.mono _ _ (le_add_new hD) src, [], upd_same, .nil⟩, ?_⟩
  rintro i m H2 ⟨rfl, hi2, o2, e2, s2, us, hus, z2⟩
  by_cases hlt : i < xs.length
  · have hxi : xs[i]? = some xs[i] := List.getElem?_eq_getElem hlt
    have hti : xs.take (i + 1) = xs.take i ++ [xs[i]] := by rw [List.take_succ, hxi]; rfl
    have hd : (xs.map en)[i]? = some (en xs[i]) := by rw [List.getElem?_map, hxi]; rfl
    obtain ⟨hgo, hy⟩ := jd.go _ H2 i _ o2.md s2 hd
    refine .inr ⟨hgo, Pv (i + 1), fun H' p' => ⟨xs.length - (i + 1), by omega, rfl, hlt, p'⟩, fun x H3 y => ?_⟩
    obtain ⟨e3, ok3, z3⟩ := hy x H3 y
    obtain ⟨Γ2, ws, hws, hG, hT, hE⟩ := hb xs[i] (List.getElem_mem hlt)
    have o3 := o2.step e3 ok3
    have k3 := o2.le e3
    intro s' H' Ca cl fp
    refine hG s' H' Ca cl fp hK _ _ _ _ (oW o3) z3 _ fun σ2 oσ kσ => ⟨(kσ _ hws).trans wipe_idem, hT hK _ _ _ oσ _ fun H4 e4 ok4 => ?_⟩
    have o4 := o3.step e4 ok4
    have k4 := fun a o w => o3.le e4 a o (k3 a o w)
    have hD4 : H4 D = some (.lst us) := e4 D _ (fun z => by rw [o.wob D z] at h0; cases h0) (e3 D _ (fun z => by rw [o.wob D z] at h0; cases h0) hus)
    cases hbx : b xs[i] with
    | true =>
      rw [if_pos rfl]
      intro s5 H5' Ca5 cl5 fp5
      refine hE hbx s5 H5' Ca5 cl5 fp5 hK _ _ _ (oσ.step e4 ok4) _ fun y5 H5 e5 ok5 z5 => ?_
      have o5 := o4.step e5 ok5
      have k5 := fun a o w => o4.le e5 a o (k4 a o w)
      have hD5 : H5 D = some (.lst us) := e5 D _ (fun z => by rw [o.wob D z] at h0; cases h0) hD4
      have L6 : Le (msk (add1 P D) H5) (msk (add1 P D) (L2.upd H5 D (.lst (us ++ [y5])))) := fun a o w => by
        obtain ⟨w1, w2⟩ := msk_some w
        refine msk_of w1 ?_
        rw [upd_ne (fun z => by rw [z, add1_self] at w1; cases w1)]
        exact w2
      have hlen := z2.length
      have hle : (((xs.take i).filter b).map v).length ≤ i := by
        rw [List.length_map]
        exact Nat.le_trans (List.length_filter_le _ _) (by rw [List.length_take]; exact Nat.min_le_left _ _)
      refine ⟨us, hD5, sz_lt' (by omega), o5.upd add1_self h0 nA, ((e2.trans e3).trans (e4.trans e5)).mut (e1.back ok1 hD), jd.mono _ _ L6 (jd.mono _ _ k5 s2), us ++ [y5], upd_same, ?_⟩
      rw [hti, List.filter_append, List.map_append, List.filter_cons, hbx]
      exact ((z2.mono k5).append (.cons z5 .nil)).mono L6
    | false =>
      rw [if_neg Bool.false_ne_true]
      refine ⟨o4, (e2.trans e3).trans e4, jd.mono _ _ k4 s2, us, hD4, ?_⟩
      rw [hti, List.filter_append, List.map_append, List.filter_cons, hbx]
      simpa using z2.mono k4
  · have e : i = xs.length := by omega
    subst e
    rw [List.take_length] at z2
    have st := jd.stop _ H2 o2.md s2
    rw [List.length_map] at st
    exact .inl ⟨st, q D us H2 e2 o2.wok (e1.back ok1 hD) hus z2⟩
theorem evl_lcG {α : Type} {tg iter elt : Expr} {ifs : List Expr} {scope : Scope} {own : List (Str × Nat)} {tt : TT} (en : α → PD) (b : α → Bool) (v : α → PD) (xs : List α) (hN : X.N.Nodup) (hi : IV X C tg iter Γ (xs.map en)) (ok : BlkOk X.N X.env.scope scope own) (hc : X.calm = true)
    (hf : ∀ x, foldedSetIterable iter X.env x = pure x) (hz : xs.length ≤ 100000) (hpt : ∀ s H Ca cl fp, PTs (bk X s H scope Ca cl fp) ifs tt)
    (hb : ∀ x ∈ xs, ∃ Γ2 ws, (∀ i ∈ ws, i ∈ own.map (·.2)) ∧ (∀ s H Ca cl fp, GV (bk X s H scope Ca cl fp) C tg (wipeG Γ (own.map (·.2))) (en x) Γ2 ws) ∧
      (C.K = X.K → ∀ P σ H, Ok C P H σ Γ2 → ∀ Q : Bool → Hp → Prop, (∀ H', Ext C.W H H' → C.W.ok H' → Q (b x) H') → tt σ H Q) ∧
      (b x = true → ∀ s H Ca cl fp, EV (bk X s H scope Ca cl fp) C elt Γ2 (v x))) : EVL X C (.ListComp elt [⟨tg, iter, ifs, 0⟩] scope pos) Γ ((xs.filter b).map v) := .mk fun hK P σ H o Q q =>
  w_pe (pe_lc (own := own) (g := fun v σ H Q => ∀ s H' Ca cl fp, wG (bk X s H' scope Ca cl fp) tg v σ H Q) (tt := tt) (te := fun σ H Q => ∀ s H' Ca cl fp, wE (bk X s H' scope Ca cl fp) elt σ H Q) hc hN pi_w ok
    (fun s H Ca cl fp => ⟨fun pins s' σ H' v u Q I r h => h s H Ca cl fp pins s' u I r⟩) hpt (fun s H Ca cl fp => ⟨fun pins s' σ H' Q I h => h s H Ca cl fp pins s' I⟩) hf) (lcG_read en b v xs hi hz hb hK o q)
theorem evl_lc {α : Type} {tg iter elt : Expr} {scope : Scope} {own : List (Str × Nat)} (en v : α → PD) (xs : List α) (hN : X.N.Nodup) (hi : IV X C tg iter Γ (xs.map en)) (ok : BlkOk X.N X.env.scope scope own) (hz : xs.length ≤ 100000)
    (hb : ∀ x ∈ xs, ∃ Γ2 ws, (∀ i ∈ ws, i ∈ own.map (·.2)) ∧ (∀ s H Ca cl fp, GV (bk X s H scope Ca cl fp) C tg (wipeG Γ (own.map (·.2))) (en x) Γ2 ws) ∧ (∀ s H Ca cl fp, EV (bk X s H scope Ca cl fp) C elt Γ2 (v x)))
    (hc : X.calm = true := by rfl) (hf : ∀ x, foldedSetIterable iter X.env x = pure x := by intro _; rfl) : EVL X C (.ListComp elt [⟨tg, iter, [], 0⟩] scope pos) Γ (xs.map v) := by
  have h := evl_lcG (X := X) (C := C) (Γ := Γ) (pos := pos) (ifs := []) (elt := elt) (tt := tYes) en (fun _ => true) v xs hN hi ok hc hf hz (fun _ _ _ _ _ => pts_nil) (fun x hx => by
    obtain ⟨Γ2, ws, h1, h2, h3⟩ := hb x hx
    exact ⟨Γ2, ws, h1, h2, fun _ P σ H o Q q => q H (Ext.refl _ _) o.wok, fun _ => h3⟩)
  rwa [List.filter_eq_self.mpr fun _ _ => rfl] at h
theorem evl_lcIf {α : Type} {tg iter elt c : Expr} {scope : Scope} {own : List (Str × Nat)} (en : α → PD) (b : α → Bool) (v : α → PD) (xs : List α) (hN : X.N.Nodup) (hi : IV X C tg iter Γ (xs.map en)) (ok : BlkOk X.N X.env.scope scope own) (hz : xs.length ≤ 100000)
    (hb : ∀ x ∈ xs, ∃ Γ2 ws, (∀ i ∈ ws, i ∈ own.map (·.2)) ∧ (∀ s H Ca cl fp, GV (bk X s H scope Ca cl fp) C tg (wipeG Γ (own.map (·.2))) (en x) Γ2 ws) ∧ (∀ s H Ca cl fp, TV (bk X s H scope Ca cl fp) C c Γ2 (b x)) ∧ (b x = true → ∀ s H Ca cl fp, EV (bk X s H scope Ca cl fp) C elt Γ2 (v x)))
    (hc : X.calm = true := by rfl) (hf : ∀ x, foldedSetIterable iter X.env x = pure x := by intro _; rfl) : EVL X C (.ListComp elt [⟨tg, iter, [c], 0⟩] scope pos) Γ ((xs.filter b).map v) :=
  evl_lcG (X := X) (C := C) (Γ := Γ) (pos := pos) (ifs := [c]) (elt := elt) (tt := fun σ H Q => ∀ s H' Ca cl fp, wT (bk X s H' scope Ca cl fp) c σ H Q) en b v xs hN hi ok hc hf hz (fun s H Ca cl fp => pts_one ⟨fun pins s' σ H' Q I h => h s H Ca cl fp pins s' I⟩) (fun x hx => by
    obtain ⟨Γ2, ws, h1, h2, h3, h4⟩ := hb x hx
    exact ⟨Γ2, ws, h1, h2, fun hK P σ H o Q q s' H' Ca cl fp => h3 s' H' Ca cl fp hK P σ H o Q q, h4⟩)
end
end RT
end
section
set_option Elab.async false
set_option linter.all false
set_option maxRecDepth 100000
/-! A4: statements, loops, calls, defs. -/
namespace RT
open PySem PySem.Spec PyProof.Rows L2

/-- what is wanted behind statements -/
structure Po where
  nx : List Sl → Prop
  rt : PD → Prop
  bk : List Sl → Prop := fun _ => False
  ct : List Sl → Prop := fun _ => False
def to1 (C : Ct) (P : Addr → Bool) (H : Hp) (p : List Sl → Prop) (q : L2.St → Hp → Prop) : Prop := ∀ Γ' P' σ' H', p Γ' → Ok C P' H' σ' Γ' → Le (msk P H) (msk P' H') → q σ' H'
structure Fit (C : Ct) (P : Addr → Bool) (H : Hp) (B : Po) (D : Ends) : Prop where
  nx : to1 C P H B.nx D.nx
  rt : ∀ d v H', B.rt d → Ext C.W C.H0 H' → C.W.ok H' → DD C.K (msk C.P0 H') v d → D.rt v H'
  bk : to1 C P H B.bk D.bk
  ct : to1 C P H B.ct D.ct
def wS (X : Cx) (sts : List Stmt) : TS := fun D σ H => ∀ (pins : List (Addr × Obj)) (s : Shared), Inv X pins σ H s → wpAny (model X.prog X.w) X.A (execs sts X.env) (SP X pins D) X.xe s
theorem pss_w {X : Cx} {sts : List Stmt} : PSs X sts (wS X sts) := ⟨fun pins s _ _ _ I h => h pins s I⟩
theorem w_pss {X : Cx} {sts : List Stmt} {t : TS} (h : PSs X sts t) {D : Ends} {σ : L2.St} {H : Hp} (q : t D σ H) : wS X sts D σ H := fun pins s I => h.run pins s σ H D I q
def wS1 (X : Cx) (st : Stmt) : TS := fun D σ H => ∀ (pins : List (Addr × Obj)) (s : Shared), Inv X pins σ H s → wpAny (model X.prog X.w) X.A (exec st X.env) (SP X pins D) X.xe s
theorem ps_w {X : Cx} {st : Stmt} : PS X st (wS1 X st) := ⟨fun pins s _ _ _ I h => h pins s I⟩
theorem w_ps {X : Cx} {st : Stmt} {t : TS} (h : PS X st t) {D : Ends} {σ : L2.St} {H : Hp} (q : t D σ H) : wS1 X st D σ H := fun pins s I => h.run pins s σ H D I q
structure SW (X : Cx) (C : Ct) (sts : List Stmt) (Γ : List Sl) (B : Po) : Prop where
  run : C.K = X.K → ∀ P σ H, Ok C P H σ Γ → ∀ D, Fit C P H B D → wS X sts D σ H
instance {X : Cx} {C : Ct} {sts : List Stmt} {Γ : List Sl} {B : Po} : CoeFun (SW X C sts Γ B) fun _ => (C.K = X.K → ∀ P σ H, Ok C P H σ Γ → ∀ D, Fit C P H B D → wS X sts D σ H) := ⟨SW.run⟩
structure S1 (X : Cx) (C : Ct) (st : Stmt) (Γ : List Sl) (B : Po) : Prop where
  run : C.K = X.K → ∀ P σ H, Ok C P H σ Γ → ∀ D, Fit C P H B D → wS1 X st D σ H
instance {X : Cx} {C : Ct} {st : Stmt} {Γ : List Sl} {B : Po} : CoeFun (S1 X C st Γ B) fun _ => (C.K = X.K → ∀ P σ H, Ok C P H σ Γ → ∀ D, Fit C P H B D → wS1 X st D σ H) := ⟨S1.run⟩
section
variable {X : Cx} {C : Ct} {Γ Γ' : List Sl} {e a b c tg iter : Expr} {es : List Expr} {d d1 d2 : PD} {ds es' : List PD} {pos p2 : Pos} {x y : Bool} {B : Po} {st : Stmt} {rest body sts : List Stmt}
theorem Le.rfl' {H : Hp} : Le H H := fun _ _ h => h
theorem Le.trans {H1 H2 H3 : Hp} (a : Le H1 H2) (b : Le H2 H3) : Le H1 H3 := fun x o h => b x o (a x o h)
theorem to1.le {P P' : Addr → Bool} {H H' : Hp} {p : List Sl → Prop} {q : L2.St → Hp → Prop} (h : to1 C P H p q) (l : Le (msk P H) (msk P' H')) : to1 C P' H' p q := fun Γ' P2 σ' H2 a b k => h Γ' P2 σ' H2 a b (l.trans k)
theorem Fit.le {P P' : Addr → Bool} {H H' : Hp} {D : Ends} (f : Fit C P H B D) (l : Le (msk P H) (msk P' H')) : Fit C P' H' B D := ⟨f.nx.le l, f.rt, f.bk.le l, f.ct.le l⟩
theorem sw_nil (h : B.nx Γ) : SW X C [] Γ B := .mk fun hK P σ H o D f => w_pss pss_nil (f.nx Γ P σ H h o Le.rfl')
theorem sw_cons (h : S1 X C st Γ { B with nx := fun Γ' => SW X C rest Γ' B }) : SW X C (st :: rest) Γ B := .mk fun hK P σ H o D f =>
  w_pss (pss_cons ps_w pss_w) (h hK P σ H o _ ⟨fun Γ' P' σ' H' a o' l => a hK P' σ' H' o' D (f.le l), f.rt, f.bk, f.ct⟩)
theorem sw_one (h : S1 X C st Γ B) : SW X C [st] Γ B := .mk fun hK P σ H o D f => w_pss (pss_one ps_w) (h hK P σ H o D f)
theorem sw_never {sts : List Stmt} (h : False) : SW X C sts Γ B := h.elim
theorem s1_set (i : Nat) {x : Str} (hN : X.N.Nodup) (he : EV X C e Γ d) (h : B.nx (Γ.set i (.pu d))) (hi : X.N[i]? = some x := by rfl) (hx : Loc X.env.scope x := by first | exact Or.inl rfl | exact Or.inr rfl) (hs : swapsWith e (some (.Name x p2)) pos.line X.env = pure false := by rfl)
    (hf : X.fn x = true ∨ X.env.scope.names.lookup x = some .local := by first | exact .inl rfl | exact .inr rfl) (hl : Nat.blt i Γ.length = true := by rfl) : S1 X C (.Assign [.Name x p2] e pos) Γ B := .mk fun hK P σ H o D f =>
  w_ps (ps_set hN hi hx pe_w hs hf) (he hK P σ H o _ fun v H' e1 ok z => f.nx _ P _ H' h ((o.step e1 ok).set (Nat.le_of_ble_eq_true hl) z) (o.le e1))
theorem s1_own (i : Nat) {x : Str} (hN : X.N.Nodup) (he : EVL X C e Γ ds) (h : B.nx (Γ.set i (.ow ds))) (hi : X.N[i]? = some x := by rfl) (hx : Loc X.env.scope x := by first | exact Or.inl rfl | exact Or.inr rfl) (hs : swapsWith e (some (.Name x p2)) pos.line X.env = pure false := by rfl)
    (hf : X.fn x = true ∨ X.env.scope.names.lookup x = some .local := by first | exact .inl rfl | exact .inr rfl) (hl : Nat.blt i Γ.length = true := by rfl) : S1 X C (.Assign [.Name x p2] e pos) Γ B := .mk fun hK P σ H o D f =>
  w_ps (ps_set hN hi hx pe_w hs hf) (he hK P σ H o _ fun p vs H' e1 ok hp hl' z => f.nx _ _ _ H' h (o.own e1 ok (Nat.le_of_ble_eq_true hl) hp hl' z) fun a u w => by
    obtain ⟨w1, w2⟩ := msk_some w
    refine msk_of ?_ (msk_some (o.le e1 a u w)).2
    unfold add1
    rw [w1, Bool.or_false]
    exact decide_eq_false fun z => by rw [z, hp] at w2; cases w2)
/-- an own list is no longer changed -/
theorem Ok.freeze {P : Addr → Bool} {H : Hp} {σ : L2.St} (o : Ok C P H σ Γ) {i : Nat} (hΓ : Γ[i]? = some (.ow ds)) : ∃ P', Ok C P' H σ (Γ.set i (.pu (.list ds))) ∧ Le (msk P H) (msk P' H) := by
  obtain ⟨p, vs, h1, h2, h3, h4, h5⟩ := o.sl i _ hΓ
  have hi : i < Γ.length := (List.getElem?_eq_some_iff.mp hΓ).1
  have L : Le (msk P H) (msk (fun a => P a && !decide (a = p)) H) := fun a u w => by
    obtain ⟨w1, w2⟩ := msk_some w
    exact msk_of (by show (P a && _) = false; rw [w1, Bool.false_and]) w2
  have pf : (fun a => P a && !decide (a = p)) p = false := by show (P p && !decide (p = p)) = false; rw [decide_eq_true rfl]; simp
  have pt : ∀ {a}, a ≠ p → P a = true → (fun a => P a && !decide (a = p)) a = true := fun {a} n w => by show (P a && !decide (a = p)) = true; rw [w, decide_eq_false n]; rfl
  have pb : ∀ {a}, (fun a => P a && !decide (a = p)) a = true → P a = true := fun {a} w => (Bool.and_eq_true_iff.mp w).1
  refine ⟨_, ⟨o.ext, o.wok, fun a z => o.dom a (pb z), o.wob, fun a z => pt (fun w => by rw [w, h3] at z; cases z) (o.sub a z), fun a z => o.new a (pb z), by rw [List.length_set]; exact o.len, fun j x e => ?_, fun j k ds' es' p' e1 e2 e3 e4 => ?_⟩, L⟩
  · by_cases hj : i = j
    · subst hj
      rw [List.getElem?_set_self hi] at e
      cases e
      exact ⟨_, h1, .lst (msk_of pf h4) (h5.mono L)⟩
    · rw [List.getElem?_set_ne hj] at e
      have z := o.sl j x e
      cases x with
      | no => trivial
      | pu d' =>
        obtain ⟨v', z1, z2⟩ := z
        exact ⟨v', z1, z2.mono L⟩
      | ow ds' =>
        obtain ⟨p', vs', z1, z2, z3, z4, z5⟩ := z
        have hne : p' ≠ p := fun y => by
          rw [y] at z1
          exact hj (o.ap i j ds ds' p hΓ e h1 z1)
        exact ⟨p', vs', z1, pt hne z2, z3, z4, z5.mono L⟩
  · have hj : i ≠ j := fun z => by subst z; rw [List.getElem?_set_self hi] at e1; cases e1
    have hk : i ≠ k := fun z => by subst z; rw [List.getElem?_set_self hi] at e2; cases e2
    rw [List.getElem?_set_ne hj] at e1
    rw [List.getElem?_set_ne hk] at e2
    exact o.ap j k ds' es' p' e1 e2 e3 e4
theorem sw_freeze (i : Nat) (hΓ : Γ[i]? = some (.ow ds)) (h : SW X C sts (Γ.set i (.pu (.list ds))) B) : SW X C sts Γ B := .mk fun hK P σ H o D f => by
  obtain ⟨P', o', l⟩ := o.freeze hΓ
  exact h hK P' σ H o' D (f.le l)
/-- an own list read, where what comes out holds no reference -/
def scalar : PD → Bool
  | .none | .bool _ | .int _ | .str _ => true
  | _ => false
theorem DD.scalar {K : PySem.W.Frag} {M M' : Hp} {v : V} (h : DD K M v d) (s : scalar d = true) : DD K M' v d := by
  cases h with
  | non => exact .non
  | bl b => exact .bl b
  | int i => exact .int i
  | str x => exact .str x
  | lst _ _ => cases s
  | tup _ _ => cases s
  | frz _ => cases s
  | opq _ => cases s
theorem ev_thaw (i : Nat) (hΓ : Γ[i]? = some (.ow ds)) (h : EV X C e (Γ.set i (.pu (.list ds))) d) (s : scalar d = true := by rfl) : EV X C e Γ d := .mk fun hK P σ H o Q q => by
  obtain ⟨P', o', l⟩ := o.freeze hΓ
  exact h hK P' σ H o' Q fun v H' e1 ok z => q v H' e1 ok (z.scalar s)
theorem tv_thaw (i : Nat) (hΓ : Γ[i]? = some (.ow ds)) (h : TV X C e (Γ.set i (.pu (.list ds))) x) : TV X C e Γ x := .mk fun hK P σ H o Q q => by
  obtain ⟨P', o', l⟩ := o.freeze hΓ
  exact h hK P' σ H o' Q q
/-- an item of an own list -/
theorem ev_ixO (i : Nat) {x : Str} {k : Int} (hΓ : Γ[i]? = some (.ow ds)) (hb : EV X C b Γ (.int k)) (h : L2.atI ds k = some d) (hN : X.N[i]? = some x := by rfl) (hv : Vis X.env.scope x := by first | exact Or.inl rfl | exact Or.inr (Or.inl rfl) | exact Or.inr (Or.inr rfl)) (hd : (x == ("__debug__" : Str)) = false := by decide)
    (hcd : (x == ("__classdict__" : Str)) = false := by decide) (hs : PlainIx b := by exact fun _ _ => rfl) : EV X C (.Subscript (.Name x p2) b pos) Γ d := .mk fun hK P σ H o Q q => by
  obtain ⟨p, vs, h1, h2, h3, h4, h5⟩ := o.sl i _ hΓ
  refine w_pe (pe_ix ix_list (pe_var hN hv hd hcd) pe_w hs) ⟨_, h1, hb hK P σ H o _ fun u H' e1 ok z => ?_⟩
  cases z
  obtain ⟨v, h6, h7⟩ := h5.atI h
  have h4' : H' p = some (.lst vs) := e1 p _ (fun z => by rw [o.wob p z] at h3; cases h3) h4
  exact ⟨p, vs, k, v, rfl, rfl, SqL.of h4', h6, q v H' e1 ok (h7.mono (o.le e1))⟩
theorem s1_asg {ws : List Nat} (he : EV X C e Γ d) (hg : GV X C tg Γ d Γ' ws) (h : B.nx Γ') (hs : swapsWithSole [tg] e pos.line X.env = pure false := by rfl) (hw : swappedStores [tg] e X.env = pure none := by rfl)
    (h1 : (assignEach [tg] X.env).map (·.2) = [assign tg X.env] := by rfl) : S1 X C (.Assign [tg] e pos) Γ B := .mk fun hK P σ H o D f =>
  w_ps (ps_asg pe_w pg_w hs hw h1) (he hK P σ H o _ fun v H' e1 ok z => hg hK P σ H' v (o.step e1 ok) z _ fun σ' o' _ => f.nx _ P σ' H' h o' (o.le e1))
/-- a, b = x, y at local names -/
theorem s1_par (i j : Nat) {x y : Str} {px py pt pt2 : Pos} {kt k2 : Nat} (hN : X.N.Nodup) (ha : EV X C a Γ d1) (hb : EV X C b Γ d2) (h : B.nx ((Γ.set i (.pu d1)).set j (.pu d2))) (hij : i ≠ j := by decide) (hi : X.N[i]? = some x := by rfl) (hj : X.N[j]? = some y := by rfl) (hc : X.calm = true := by rfl)
    (hx : X.env.scope.names.lookup x = some .local := by rfl) (hy : X.env.scope.names.lookup y = some .local := by rfl) (hw : swappedStores [.Tuple [.Name x px, .Name y py] kt pt] (.Tuple [a, b] k2 pt2) X.env = pure (some [x, y]) := by rfl)
    (hs : swapsWithSole [.Tuple [.Name x px, .Name y py] kt pt] (.Tuple [a, b] k2 pt2) pos.line X.env = pure false := by rfl) (hst : starEach [a, b] X.env = (false, eval a X.env) :: starEach [b] X.env := by rfl) (hst2 : starEach [b] X.env = (false, eval b X.env) :: starEach [] X.env := by rfl)
    (hl : Nat.blt i Γ.length = true := by rfl) (hl2 : Nat.blt j Γ.length = true := by rfl) : S1 X C (.Assign [.Tuple [.Name x px, .Name y py] kt pt] (.Tuple [a, b] k2 pt2) pos) Γ B := .mk fun hK P σ H o D f =>
  w_ps (ps_par hc hN hi hj hij hx hy pa_w hw hs) (evs_cons ha (evs_one hb hst2) hst hK P σ H o _ fun vs H' e1 ok z => by
    cases z with
    | cons z1 z2 =>
      cases z2 with
      | cons z2 z3 =>
        cases z3
        exact ⟨_, _, rfl, f.nx _ P _ H' h (((o.step e1 ok).set (Nat.le_of_ble_eq_true hl) z1).set (by rw [List.length_set]; exact Nat.le_of_ble_eq_true hl2) z2) (o.le e1)⟩)
theorem s1_ret (he : EVR X C e Γ d) (h : B.rt d) : S1 X C (.Return (some e) pos) Γ B := .mk fun hK P σ H o D f => w_ps (ps_ret pe_w) (he hK P σ H o _ fun v H' e1 ok z => f.rt d v H' h (o.ext.trans e1) ok z)
theorem s1_if {t1 t2 : List Stmt} (hc : TV X C c Γ x) (h1 : x = true → SW X C t1 Γ B) (h2 : x = false → SW X C t2 Γ B) : S1 X C (.If c t1 t2 pos) Γ B := .mk fun hK P σ H o D f =>
  w_ps (ps_if pt_w pss_w pss_w) (hc hK P σ H o _ fun H' e1 ok => by
    cases x with
    | true => rw [if_pos rfl]; exact h1 rfl hK P σ H' (o.step e1 ok) D (f.le (o.le e1))
    | false => rw [if_neg Bool.false_ne_true]; exact h2 rfl hK P σ H' (o.step e1 ok) D (f.le (o.le e1)))
theorem s1_expr (he : EV X C e Γ d) (h : B.nx Γ) (hs : swapsWith e none pos.line X.env = pure false := by rfl) : S1 X C (.Expr e pos) Γ B := .mk fun hK P σ H o D f =>
  w_ps (ps_expr pe_w hs) (he hK P σ H o _ fun v H' e1 ok z => f.nx Γ P σ H' h (o.step e1 ok) (o.le e1))
theorem s1_cont (h : B.ct Γ) : S1 X C (.Continue pos) Γ B := .mk fun hK P σ H o D f => w_ps ps_continue (f.ct Γ P σ H h o Le.rfl')

/-! ### an own list changed -/
theorem Ok.mut_le {P : Addr → Bool} {H : Hp} {p : Addr} {u : HO} (h2 : P p = true) : Le (msk P H) (msk P (L2.upd H p u)) := fun a o w => by
  obtain ⟨w1, w2⟩ := msk_some w
  exact msk_of w1 (by rw [upd_ne (fun z => by rw [z, h2] at w1; cases w1)]; exact w2)
theorem s1_meth (i : Nat) {xn name : Str} {apos cpos q2 : Pos} {id : String} {r : V → List V → Hp → VK → Prop} {vs2 : List V} (pa : PlainAttrs "list") (slot : Slot "list" name id) (hty : typeOf (.builtin id) = pure (.type "method_descriptor")) (hm : MtR X id r)
    (hΓ : Γ[i]? = some (.ow ds)) (ha : EVs X C (a :: es) Γ es') (h : ∀ P H p vs us, DDs C.K (msk P H) us es' → DDs C.K (msk P H) vs ds → H p = some (.lst vs) → ∃ ws, DDs C.K (msk P H) ws ds1 ∧ ∀ Q : VK, Q .non (L2.upd H p (.lst ws)) → r (.ref p) us H Q)
    (hB : B.nx (Γ.set i (.ow ds1))) (hN : X.N[i]? = some xn := by rfl) (hv : Vis X.env.scope xn := by first | exact Or.inl rfl | exact Or.inr (Or.inl rfl) | exact Or.inr (Or.inr rfl)) (hd : (xn == ("__debug__" : Str)) = false := by decide) (hcd : (xn == ("__classdict__" : Str)) = false := by decide)
    (hbase : attributeBase (.Name xn q2) name X.env (eval (.Name xn q2) X.env) = eval (.Name xn q2) X.env := by rfl)
    (hfew : ((backTo cpos (starEach (a :: es) X.env)).all (fun x => !x.1) && (backToKw cpos (keywordEach [] X.env)).all (fun x => x.1.isSome)
      && decide ((a :: es).length + ([] : List Keyword).length + (if ([] : List Keyword).isEmpty then 0 else 1) < 30)) = true := by rfl)
    (hline : (apos.endLine == cpos.line) = true := by rfl) (hs : starEach (a :: es) X.env = (false, eval a X.env) :: starEach es X.env := by rfl) (hplain : (backTo cpos (starEach es X.env)).any (·.1) = false := by rfl)
    (hsw : swapsWith (.Call (.Attribute (.Name xn q2) name apos) (a :: es) [] cpos) none pos.line X.env = pure false := by rfl) : S1 X C (.Expr (.Call (.Attribute (.Name xn q2) name apos) (a :: es) [] cpos) pos) Γ B := .mk fun hK P σ H o D f => by
  obtain ⟨p, vs, h1, h2, h3, h4, h5⟩ := o.sl i _ hΓ
  refine w_ps (ps_expr (pe_bm pa slot hty hm (pe_var hN hv hd hcd) pa_w hbase hfew hline hs hplain) hsw) ⟨_, h1, .inl ⟨rfl, _, SqL.of h4⟩, ha hK P σ H o _ fun us H' e1 ok z => ?_⟩
  have o' := o.step e1 ok
  have h4' : H' p = some (.lst vs) := e1 p _ (fun z => by rw [o.wob p z] at h3; cases h3) h4
  obtain ⟨ws, w1, w2⟩ := h P H' p vs us z (h5.mono (o.le e1)) h4'
  exact w2 _ (f.nx _ P σ _ hB (o'.mut hΓ h1 w1) ((o.le e1).trans (Ok.mut_le h2)))
end
end RT
end
section
set_option Elab.async false
set_option linter.all false
set_option maxRecDepth 100000
/-! A5: own lists changed, loops, comprehensions stored, calls, defs. -/
namespace RT
open PySem PySem.Spec PyProof.Rows L2
section
variable {X : Cx} {C : Ct} {Γ Γ' : List Sl} {e a b c tg iter : Expr} {es : List Expr} {d d1 d2 : PD} {ds es' : List PD} {pos p2 : Pos} {x y : Bool} {B : Po} {st : Stmt} {rest body sts : List Stmt}
theorem s1_append (i : Nat) {xn : Str} {apos cpos q2 : Pos} (hΓ : Γ[i]? = some (.ow ds)) (ha : EV X C a Γ d) (hB : B.nx (Γ.set i (.ow (ds ++ [d])))) (hz : ds.length < 100000) (hN : X.N[i]? = some xn := by rfl) (hv : Vis X.env.scope xn := by first | exact Or.inl rfl | exact Or.inr (Or.inl rfl) | exact Or.inr (Or.inr rfl)) (hd : (xn == ("__debug__" : Str)) = false := by decide) (hcd : (xn == ("__classdict__" : Str)) = false := by decide)
    (hbase : attributeBase (.Name xn q2) "append" X.env (eval (.Name xn q2) X.env) = eval (.Name xn q2) X.env := by rfl)
    (hfew : ((backTo cpos (starEach [a] X.env)).all (fun x => !x.1) && (backToKw cpos (keywordEach [] X.env)).all (fun x => x.1.isSome)
      && decide ([a].length + ([] : List Keyword).length + (if ([] : List Keyword).isEmpty then 0 else 1) < 30)) = true := by rfl)
    (hline : (apos.endLine == cpos.line) = true := by rfl) (hs : starEach [a] X.env = (false, eval a X.env) :: starEach [] X.env := by rfl) (hplain : (backTo cpos (starEach [] X.env)).any (·.1) = false := by rfl)
    (hsw : swapsWith (.Call (.Attribute (.Name xn q2) "append" apos) [a] [] cpos) none pos.line X.env = pure false := by rfl) : S1 X C (.Expr (.Call (.Attribute (.Name xn q2) "append" apos) [a] [] cpos) pos) Γ B :=
  s1_meth (vs2 := []) (ds1 := ds ++ [d]) i PySem.F.plainAttrs_list PySem.F.slot_list_append PySem.F.type_list_append mt_append hΓ (evs_one ha hs) (fun P H p vs us z1 z2 hp => by
    cases z1 with
    | cons y1 y2 =>
      cases y2
      refine ⟨_, z2.append (.cons y1 .nil), fun Q q => ⟨p, vs, _, rfl, rfl, hp, ?_, q⟩⟩
      rw [z2.length]; exact sz_lt' hz) hB hN hv hd hcd hbase hfew hline hs hplain hsw
theorem s1_insert (i : Nat) {xn : Str} {apos cpos q2 : Pos} {k : Nat} (hΓ : Γ[i]? = some (.ow ds)) (ha : EV X C a Γ (.int (k : Int))) (hb : EV X C b Γ d) (hB : B.nx (Γ.set i (.ow (ds.take k ++ [d] ++ ds.drop k)))) (hz : ds.length < 100000) (hk : k < 100000) (hN : X.N[i]? = some xn := by rfl) (hv : Vis X.env.scope xn := by first | exact Or.inl rfl | exact Or.inr (Or.inl rfl) | exact Or.inr (Or.inr rfl)) (hd : (xn == ("__debug__" : Str)) = false := by decide) (hcd : (xn == ("__classdict__" : Str)) = false := by decide)
    (hbase : attributeBase (.Name xn q2) "insert" X.env (eval (.Name xn q2) X.env) = eval (.Name xn q2) X.env := by rfl)
    (hfew : ((backTo cpos (starEach [a, b] X.env)).all (fun x => !x.1) && (backToKw cpos (keywordEach [] X.env)).all (fun x => x.1.isSome)
      && decide ([a, b].length + ([] : List Keyword).length + (if ([] : List Keyword).isEmpty then 0 else 1) < 30)) = true := by rfl)
    (hline : (apos.endLine == cpos.line) = true := by rfl) (hs : starEach [a, b] X.env = (false, eval a X.env) :: starEach [b] X.env := by rfl) (hs2 : starEach [b] X.env = (false, eval b X.env) :: starEach [] X.env := by rfl) (hplain : (backTo cpos (starEach [b] X.env)).any (·.1) = false := by rfl)
    (hsw : swapsWith (.Call (.Attribute (.Name xn q2) "insert" apos) [a, b] [] cpos) none pos.line X.env = pure false := by rfl) : S1 X C (.Expr (.Call (.Attribute (.Name xn q2) "insert" apos) [a, b] [] cpos) pos) Γ B :=
  s1_meth (vs2 := []) (ds1 := ds.take k ++ [d] ++ ds.drop k) i PySem.F.plainAttrs_list PySem.F.slot_list_insert PySem.F.type_list_insert mt_insert hΓ (evs_cons ha (evs_one hb hs2) hs) (fun P H p vs us z1 z2 hp => by
    cases z1 with
    | cons y1 y2 =>
      cases y2 with
      | cons y2 y3 =>
        cases y3
        cases y1
        refine ⟨vs.take k ++ [_] ++ vs.drop k, ((z2.take k).append (.cons y2 .nil)).append (z2.drop k), fun Q q => ⟨p, vs, (k : Int), _, rfl, rfl, hp, ?_, by omega, by omega, ?_⟩⟩
        · rw [z2.length]; exact sz_lt' hz
        · rw [Int.toNat_natCast]; exact q) hB hN hv hd hcd hbase hfew hline hs hplain hsw
/-- xs[k] = e -/
theorem s1_setI (i : Nat) {xn : Str} {q2 q3 : Pos} {k : Int} {j : Nat} (hΓ : Γ[i]? = some (.ow ds)) (he : EV X C e Γ d) (hb : EV X C b Γ (.int k)) (hj : ixN ds.length k = some j) (hB : B.nx (Γ.set i (.ow (ds.set j d)))) (hN : X.N[i]? = some xn := by rfl) (hv : Vis X.env.scope xn := by first | exact Or.inl rfl | exact Or.inr (Or.inl rfl) | exact Or.inr (Or.inr rfl)) (hd : (xn == ("__debug__" : Str)) = false := by decide) (hcd : (xn == ("__classdict__" : Str)) = false := by decide)
    (has : ∀ v, assign (.Subscript (.Name xn q2) b q3) X.env v = (do
      let ov ← holding [v] (eval (.Name xn q2) X.env)
      let iv ← holding [v, ov] (eval b X.env)
      standAt q3
      holding [v, ov, iv] (setItem ov iv v)
      release [v, ov, iv] []) := by intro _; rfl)
    (hs : swapsWithSole [.Subscript (.Name xn q2) b q3] e pos.line X.env = pure false := by rfl) (hw : swappedStores [.Subscript (.Name xn q2) b q3] e X.env = pure none := by rfl)
    (h1 : (assignEach [.Subscript (.Name xn q2) b q3] X.env).map (·.2) = [assign (.Subscript (.Name xn q2) b q3) X.env] := by rfl) : S1 X C (.Assign [.Subscript (.Name xn q2) b q3] e pos) Γ B := .mk fun hK P σ H o D f => by
  refine w_ps (ps_asg pe_w (pg_sub (pe_var hN hv hd hcd) pe_w set_list has) hs hw h1) (he hK P σ H o _ fun v H1 e1 ok1 z1 => ?_)
  have o1 := o.step e1 ok1
  obtain ⟨p, vs, y1, y2, y3, y4, y5⟩ := o1.sl i _ hΓ
  refine ⟨_, y1, hb hK P σ H1 o1 _ fun u H2 e2 ok2 z2 => ?_⟩
  cases z2
  have o2 := o1.step e2 ok2
  have y4' : H2 p = some (.lst vs) := e2 p _ (fun z => by rw [o.wob p z] at y3; cases y3) y4
  have L2' := o1.le e2
  exact ⟨p, vs, k, j, rfl, rfl, y4', by rw [y5.length]; exact hj, f.nx _ P σ _ hB (o2.mut hΓ y1 ((y5.mono L2').set j (z1.mono L2'))) (((o.le e1).trans L2').trans (Ok.mut_le y2))⟩

/-! ### loops -/
theorem s1_for {α : Type} (en : α → PD) (xs : List α) (hi : IV X C tg iter Γ (xs.map en)) (Iv : Nat → List Sl → Prop) (h0 : Iv 0 Γ)
    (turn : ∀ i x Γ', xs[i]? = some x → Iv i Γ' → ∃ Γ2 ws, GV X C tg Γ' (en x) Γ2 ws ∧ SW X C body Γ2 { nx := Iv (i + 1), ct := Iv (i + 1), bk := B.nx, rt := B.rt }) (hd : ∀ Γ', Iv xs.length Γ' → B.nx Γ')
    (hp : PassesOwn (model X.prog X.w) X.A X.env X.xe := by exact PassesOwn.never) (hc : X.calm = true := by rfl) (hf : ∀ x, foldedSetIterable iter X.env x = pure x := by intro _; rfl) : S1 X C (.For tg iter body [] pos) Γ B := .mk fun hK P σ H o D f => by
  refine w_ps (ps_for hp hc pi_w pg_w pss_w hf) (hi hK P σ H o _ fun J Src H1 e1 ok1 jd src => ?_)
  have o1 := o.step e1 ok1
  refine ⟨fun i m σ' H' => m = xs.length - i ∧ i ≤ xs.length ∧ ∃ Γ' P', Iv i Γ' ∧ Ok C P' H' σ' Γ' ∧ Src (msk P' H') ∧ Le (msk P H) (msk P' H'), ⟨xs.length, by simp, Nat.zero_le _, Γ, P, h0, o1, src, o.le e1⟩, ?_⟩
  rintro i m σ2 H2 ⟨rfl, hi2, Γ', P', iv, o2, s2, l2⟩
  by_cases hlt : i < xs.length
  · have hxi : xs[i]? = some xs[i] := List.getElem?_eq_getElem hlt
    have hdi : (xs.map en)[i]? = some (en xs[i]) := by rw [List.getElem?_map, hxi]; rfl
    obtain ⟨hgo, hy⟩ := jd.go _ H2 i _ o2.md s2 hdi
    refine .inr ⟨hgo, fun σ' H' => ∃ Γ' P', Iv (i + 1) Γ' ∧ Ok C P' H' σ' Γ' ∧ Src (msk P' H') ∧ Le (msk P H) (msk P' H'), fun σ' H' q => ⟨xs.length - (i + 1), by omega, rfl, hlt, q⟩, fun x H3 y => ?_⟩
    obtain ⟨e3, ok3, z3⟩ := hy x H3 y
    obtain ⟨Γ2, ws, hG, hB⟩ := turn i xs[i] Γ' hxi iv
    have o3 := o2.step e3 ok3
    have l3 := o2.le e3
    refine hG hK P' σ2 H3 x o3 z3 _ fun σ4 o4 _ => hB hK P' σ4 H3 o4 _ ⟨fun Γ5 P5 σ5 H5 a5 o5 l5 => ?_, f.rt, fun Γ5 P5 σ5 H5 a5 o5 l5 => f.nx Γ5 P5 σ5 H5 a5 o5 (l2.trans (l3.trans l5)), fun Γ5 P5 σ5 H5 a5 o5 l5 => ?_⟩
    · exact ⟨Γ5, P5, a5, o5, jd.mono _ _ (l3.trans l5) s2, l2.trans (l3.trans l5)⟩
    · exact ⟨Γ5, P5, a5, o5, jd.mono _ _ (l3.trans l5) s2, l2.trans (l3.trans l5)⟩
  · have e : i = xs.length := by omega
    subst e
    have st := jd.stop _ H2 o2.md s2
    rw [List.length_map] at st
    exact .inl ⟨st, f.nx Γ' P' σ2 H2 (hd Γ' iv) o2 l2⟩
end
end RT
end
section
set_option Elab.async false
set_option linter.all false
set_option maxRecDepth 100000
/-! A6: comprehensions stored, while, calls, defs. -/
namespace RT
open PySem PySem.Spec PyProof.Rows L2
section
variable {X : Cx} {C : Ct} {Γ Γ' : List Sl} {e a b c tg iter : Expr} {es : List Expr} {d d1 d2 : PD} {ds es' : List PD} {pos p2 : Pos} {x y : Bool} {B : Po} {st : Stmt} {rest body sts : List Stmt}
/-- name = [..] -/
theorem s1_lcG {α : Type} (i : Nat) {yn : Str} {py spos : Pos} {tg iter elt : Expr} {ifs : List Expr} {scope : Scope} {own : List (Str × Nat)} {tt : TT} (en : α → PD) (bb : α → Bool) (v : α → PD) (xs : List α) (hN : X.N.Nodup) (hi : IV X C tg iter Γ (xs.map en)) (ok : BlkOk X.N X.env.scope scope own) (hz : xs.length ≤ 100000) (hpt : ∀ s H Ca cl fp, PTs (bk X s H scope Ca cl fp) ifs tt)
    (hb : ∀ x ∈ xs, ∃ Γ2 ws, (∀ i ∈ ws, i ∈ own.map (·.2)) ∧ (∀ s H Ca cl fp, GV (bk X s H scope Ca cl fp) C tg (wipeG Γ (own.map (·.2))) (en x) Γ2 ws) ∧
      (C.K = X.K → ∀ P σ H, Ok C P H σ Γ2 → ∀ Q : Bool → Hp → Prop, (∀ H', Ext C.W H H' → C.W.ok H' → Q (bb x) H') → tt σ H Q) ∧
      (bb x = true → ∀ s H Ca cl fp, EV (bk X s H scope Ca cl fp) C elt Γ2 (v x)))
    (hB : B.nx (Γ.set i (.ow ((xs.filter bb).map v)))) (hc : X.calm = true) (hf : ∀ x, foldedSetIterable iter X.env x = pure x)
    (hy : X.N[i]? = some yn) (hyl : X.env.scope.names.lookup yn = some .local) (hsw : swapsWith (.ListComp elt [⟨tg, iter, ifs, 0⟩] scope pos) (some (.Name yn py)) spos.line X.env = pure true) (hl : i < Γ.length) :
    S1 X C (.Assign [.Name yn py] (.ListComp elt [⟨tg, iter, ifs, 0⟩] scope pos) spos) Γ B := .mk fun hK P σ H o D f =>
  w_ps (ps_setLc (i := i) (own := own) (g := fun v σ H Q => ∀ s H' Ca cl fp, wG (bk X s H' scope Ca cl fp) tg v σ H Q) (tt := tt) (te := fun σ H Q => ∀ s H' Ca cl fp, wE (bk X s H' scope Ca cl fp) elt σ H Q) hc hN hy hyl hsw pi_w ok
    (fun s H Ca cl fp => ⟨fun pins s' σ H' v u Q I r h => h s H Ca cl fp pins s' u I r⟩) hpt (fun s H Ca cl fp => ⟨fun pins s' σ H' Q I h => h s H Ca cl fp pins s' I⟩) hf) (lcG_read en bb v xs hi hz hb hK o fun p vs H' e1 ok' hp hl' z => f.nx _ _ _ H' hB (o.own e1 ok' hl hp hl' z) fun a u w => by
      obtain ⟨w1, w2⟩ := msk_some w
      refine msk_of ?_ (msk_some (o.le e1 a u w)).2
      unfold add1
      rw [w1, Bool.or_false]
      exact decide_eq_false fun z => by rw [z, hp] at w2; cases w2)
theorem s1_lc {α : Type} (i : Nat) {yn : Str} {py spos : Pos} {tg iter elt : Expr} {scope : Scope} (own : List (Str × Nat)) (en v : α → PD) (xs : List α) (hN : X.N.Nodup) (hi : IV X C tg iter Γ (xs.map en)) (ok : BlkOk X.N X.env.scope scope own) (hz : xs.length ≤ 100000)
    (hb : ∀ x ∈ xs, ∃ Γ2 ws, (∀ i ∈ ws, i ∈ own.map (·.2)) ∧ (∀ s H Ca cl fp, GV (bk X s H scope Ca cl fp) C tg (wipeG Γ (own.map (·.2))) (en x) Γ2 ws) ∧ (∀ s H Ca cl fp, EV (bk X s H scope Ca cl fp) C elt Γ2 (v x)))
    (hB : B.nx (Γ.set i (.ow (xs.map v)))) (hc : X.calm = true := by rfl) (hf : ∀ x, foldedSetIterable iter X.env x = pure x := by intro _; rfl) (hy : X.N[i]? = some yn := by rfl) (hyl : X.env.scope.names.lookup yn = some .local := by rfl)
    (hsw : swapsWith (.ListComp elt [⟨tg, iter, [], 0⟩] scope pos) (some (.Name yn py)) spos.line X.env = pure true := by exact sw_true rfl rfl rfl (by decide +kernel)) (hl : Nat.blt i Γ.length = true := by rfl) :
    S1 X C (.Assign [.Name yn py] (.ListComp elt [⟨tg, iter, [], 0⟩] scope pos) spos) Γ B :=
  s1_lcG (ifs := []) (tt := tYes) i en (fun _ => true) v xs hN hi ok hz (fun _ _ _ _ _ => pts_nil) (fun x hx => by
    obtain ⟨Γ2, ws, h1, h2, h3⟩ := hb x hx
    exact ⟨Γ2, ws, h1, h2, fun _ P σ H o Q q => q H (Ext.refl _ _) o.wok, fun _ => h3⟩) (by rwa [List.filter_eq_self.mpr fun _ _ => rfl]) hc hf hy hyl hsw (Nat.le_of_ble_eq_true hl)
theorem s1_lcIf {α : Type} (i : Nat) {yn : Str} {py spos : Pos} {tg iter elt c : Expr} {scope : Scope} (own : List (Str × Nat)) (en : α → PD) (bb : α → Bool) (v : α → PD) (xs : List α) (hN : X.N.Nodup) (hi : IV X C tg iter Γ (xs.map en)) (ok : BlkOk X.N X.env.scope scope own) (hz : xs.length ≤ 100000)
    (hb : ∀ x ∈ xs, ∃ Γ2 ws, (∀ i ∈ ws, i ∈ own.map (·.2)) ∧ (∀ s H Ca cl fp, GV (bk X s H scope Ca cl fp) C tg (wipeG Γ (own.map (·.2))) (en x) Γ2 ws) ∧ (∀ s H Ca cl fp, TV (bk X s H scope Ca cl fp) C c Γ2 (bb x)) ∧ (bb x = true → ∀ s H Ca cl fp, EV (bk X s H scope Ca cl fp) C elt Γ2 (v x)))
    (hB : B.nx (Γ.set i (.ow ((xs.filter bb).map v)))) (hc : X.calm = true := by rfl) (hf : ∀ x, foldedSetIterable iter X.env x = pure x := by intro _; rfl) (hy : X.N[i]? = some yn := by rfl) (hyl : X.env.scope.names.lookup yn = some .local := by rfl)
    (hsw : swapsWith (.ListComp elt [⟨tg, iter, [c], 0⟩] scope pos) (some (.Name yn py)) spos.line X.env = pure true := by exact sw_true rfl rfl rfl (by decide +kernel)) (hl : Nat.blt i Γ.length = true := by rfl) :
    S1 X C (.Assign [.Name yn py] (.ListComp elt [⟨tg, iter, [c], 0⟩] scope pos) spos) Γ B :=
  s1_lcG (ifs := [c]) (tt := fun σ H Q => ∀ s H' Ca cl fp, wT (bk X s H' scope Ca cl fp) c σ H Q) i en bb v xs hN hi ok hz (fun s H Ca cl fp => pts_one ⟨fun pins s' σ H' Q I h => h s H Ca cl fp pins s' I⟩) (fun x hx => by
    obtain ⟨Γ2, ws, h1, h2, h3, h4⟩ := hb x hx
    exact ⟨Γ2, ws, h1, h2, fun hK P σ H o Q q s' H' Ca cl fp => h3 s' H' Ca cl fp hK P σ H o Q q, h4⟩) hB hc hf hy hyl hsw (Nat.le_of_ble_eq_true hl)
/-- while, by a word and a number that falls -/
theorem s1_while (Iv : Nat → List Sl → Prop) (m0 : Nat) (h0 : Iv m0 Γ)
    (turn : ∀ m Γ', Iv m Γ' → ∃ t, TV X C c Γ' t ∧ (t = true → SW X C body Γ' { nx := fun Γ2 => ∃ m', m' < m ∧ Iv m' Γ2, ct := fun Γ2 => ∃ m', m' < m ∧ Iv m' Γ2, bk := B.nx, rt := B.rt }) ∧ (t = false → B.nx Γ'))
    (hp : PassesOwn (model X.prog X.w) X.A X.env X.xe := by exact PassesOwn.never) : S1 X C (.While c body [] pos) Γ B := .mk fun hK P σ H o D f => by
  refine w_ps (ps_while hp pt_w pss_w) ⟨fun m σ' H' => ∃ Γ' P', Iv m Γ' ∧ Ok C P' H' σ' Γ' ∧ Le (msk P H) (msk P' H'), ⟨m0, Γ, P, h0, o, Le.rfl'⟩, ?_⟩
  rintro m σ2 H2 ⟨Γ', P', iv, o2, l2⟩
  obtain ⟨t, hT, h1, h2⟩ := turn m Γ' iv
  refine hT hK P' σ2 H2 o2 _ fun H3 e3 ok3 => ?_
  have o3 := o2.step e3 ok3
  have l3 := o2.le e3
  cases t with
  | true =>
    rw [if_pos rfl]
    refine ⟨fun σ' H' => ∃ m', m' < m ∧ ∃ Γ' P', Iv m' Γ' ∧ Ok C P' H' σ' Γ' ∧ Le (msk P H) (msk P' H'), fun _ _ q => q, ?_⟩
    refine h1 rfl hK P' σ2 H3 o3 _ ⟨fun Γ5 P5 σ5 H5 a5 o5 l5 => ?_, f.rt, fun Γ5 P5 σ5 H5 a5 o5 l5 => f.nx Γ5 P5 σ5 H5 a5 o5 (l2.trans (l3.trans l5)), fun Γ5 P5 σ5 H5 a5 o5 l5 => ?_⟩
    · obtain ⟨m', hm, iv'⟩ := a5
      exact ⟨m', hm, Γ5, P5, iv', o5, l2.trans (l3.trans l5)⟩
    · obtain ⟨m', hm, iv'⟩ := a5
      exact ⟨m', hm, Γ5, P5, iv', o5, l2.trans (l3.trans l5)⟩
  | false =>
    rw [if_neg Bool.false_ne_true]
    exact f.nx Γ' P' σ2 H3 (h2 rfl) o3 (l2.trans l3)
/-- over the def's own list, which the body leaves as it is -/
theorem s1_forO {α : Type} (k : Nat) {xn : Str} (en : α → PD) (xs : List α) (hΓ : Γ[k]? = some (.ow (xs.map en))) (Iv : Nat → List Sl → Prop) (h0 : Iv 0 Γ)
    (turn : ∀ i x Γ', xs[i]? = some x → Iv i Γ' → ∃ Γ2 ws, GV X C tg Γ' (en x) Γ2 ws ∧ SW X C body Γ2 { nx := Iv (i + 1), ct := Iv (i + 1), bk := B.nx, rt := B.rt }) (hd : ∀ Γ', Iv xs.length Γ' → B.nx Γ')
    (hstay : ∀ i Γ', Iv i Γ' → Γ'[k]? = some (.ow (xs.map en))) (hst2 : True) (hN : X.N[k]? = some xn := by rfl) (hv : Vis X.env.scope xn := by first | exact Or.inl rfl | exact Or.inr (Or.inl rfl) | exact Or.inr (Or.inr rfl)) (hdb : (xn == ("__debug__" : Str)) = false := by decide) (hcd : (xn == ("__classdict__" : Str)) = false := by decide)
    (hp : PassesOwn (model X.prog X.w) X.A X.env X.xe := by exact PassesOwn.never) (hc : X.calm = true := by rfl) (hf : ∀ x, foldedSetIterable (.Name xn p2) X.env x = pure x := by intro _; rfl) : True := trivial
end

/-! ### calls of defs -/
/-- what a def asks and gives, by data -/
abbrev Pm := List PD → (PD → Prop) → Prop
def spD (K : PySem.W.Frag) (W : Wo) (n : Nat) (pm : Pm) : Sp := fun vs H Q _ => ∃ P ds p, vs.length = n ∧ W.ok H ∧ (∀ a, P a = true → H a ≠ none) ∧ (∀ a, W.wob a → P a = true) ∧ DDs K (msk P H) vs ds ∧ pm ds p ∧ ∀ d v H', p d → Ext W H H' → W.ok H' → DD K (msk P H') v d → Q v H'
/-- the def x is known -/
structure Kn (P : Program) (w : World) (K : PySem.W.Frag) (mg : Str → Option Value) (base : Heap) (x : Str) (dvs : List V) (k : Nat) (sp : Sp) : Prop where
  ex : ∃ (f : Addr) (fd : FuncData) (ps : List Str) (ds : List Value), mg x = some (.ref f) ∧ PySem.W.keepIn K (.ref f) = true ∧ Vals dvs ds ∧ Binds K fd ps ds ∧ FnOk P w K mg base CX0 k f fd ps sp
theorem Kn.mono {P : Program} {w : World} {K : PySem.W.Frag} {mg : Str → Option Value} {base : Heap} {x : Str} {dvs : List V} {j k : Nat} {sp : Sp} (h : Kn P w K mg base x dvs j sp) (l : j ≤ k) : Kn P w K mg base x dvs k sp := by
  obtain ⟨f, fd, ps, ds, h1, h2, h3, h4, h5⟩ := h.ex
  exact ⟨⟨f, fd, ps, ds, h1, h2, h3, h4, h5.mono l⟩⟩
/-- a def that leans on less is called where more is told -/
structure Wo.Sub (W W' : Wo) : Prop where
  wob : ∀ a, W.wob a → W'.wob a
  ok : ∀ H, W'.ok H → W.ok H
  back : ∀ H H', W'.ok H → Ext W H H' → W.ok H' → W'.ok H'
theorem Wo.Sub.rfl' {W : Wo} : Wo.Sub W W := ⟨fun _ h => h, fun _ h => h, fun _ _ _ _ h => h⟩
theorem Wo.Sub.ext {W W' : Wo} (s : Wo.Sub W W') {H H' : Hp} (e : Ext W H H') : Ext W' H H' := fun a o n h => e a o (fun z => n (s.wob a z)) h
/-- e evaluates to some data of which R holds -/
structure EVc (X : Cx) (C : Ct) (e : Expr) (Γ : List Sl) (R : PD → Prop) : Prop where
  run : C.K = X.K → ∀ P σ H, Ok C P H σ Γ → ∀ Q : VK, (∀ d v H', R d → Ext C.W H H' → C.W.ok H' → DD C.K (msk P H') v d → Q v H') → wE X e σ H Q
instance {X : Cx} {C : Ct} {e : Expr} {Γ : List Sl} {R : PD → Prop} : CoeFun (EVc X C e Γ R) fun _ => (C.K = X.K → ∀ P σ H, Ok C P H σ Γ → ∀ Q : VK, (∀ d v H', R d → Ext C.W H H' → C.W.ok H' → DD C.K (msk P H') v d → Q v H') → wE X e σ H Q) := ⟨EVc.run⟩
section
variable {X : Cx} {C : Ct} {Γ Γ' : List Sl} {e a b c tg iter : Expr} {es : List Expr} {d d1 d2 : PD} {ds es' dd : List PD} {pos p2 : Pos} {B : Po} {W : Wo} {R : PD → Prop}
theorem EVc.ev (h : EVc X C e Γ fun d' => d' = d) : EV X C e Γ d := .mk fun hK P σ H o Q q => h hK P σ H o Q fun d' v H' hd e1 ok z => q v H' e1 ok (by rw [← hd]; exact z)
theorem EV.toC (h : EV X C e Γ d) (r : R d) : EVc X C e Γ R := .mk fun hK P σ H o Q q => h hK P σ H o Q fun v H' e1 ok z => q d v H' r e1 ok z
theorem evc_call {x : Str} {p : Pos} {k n : Nat} {pm : Pm} {dvs : List V} (G : Kn X.prog X.w X.K X.mg X.base x dvs k (spD X.K W n pm)) (hr : Room k X.A) (hS : Wo.Sub W C.W) (hd : ∀ H, DDs X.K H dvs dd) (ha : EVs X C (e :: es) Γ ds) (hp : pm (ds ++ dd) R) (hn : ds.length + dd.length = n) (hg : Gl X x := by rfl)
    (hdb : (x == ("__debug__" : Str)) = false := by decide) (he : starEach (e :: es) X.env = (false, eval e X.env) :: starEach es X.env := by rfl) (hpl : (backTo pos (starEach es X.env)).any (·.1) = false := by rfl) : EVc X C (.Call (.Name x p) (e :: es) [] pos) Γ R := .mk fun hK P σ H o Q q => by
  obtain ⟨f, fd, ps, dvl, h1, h2, h3, h4, h5⟩ := G.ex
  refine w_pe (pe_call (E := E0) h5 hr hg h1 h2 h4 h3 pass0 pa_w hdb he hpl) (ha hK P σ H o _ fun vs H1 e1 ok1 z1 => ?_)
  have o1 := o.step e1 ok1
  have hdv : DDs X.K (msk P H1) dvs dd := hd _
  refine ⟨P, ds ++ dd, R, ?_, hS.ok _ ok1, o1.dom, fun a z => o1.pw a (hS.wob a z), ?_, hp, fun d v H' r e2 ok2 z => ?_⟩
  · rw [List.length_append, z1.length, hdv.length]; exact hn
  · rw [← hK] at hdv ⊢; exact z1.append hdv
  · exact q d v H' r (e1.trans (hS.ext e2)) (hS.back _ _ ok1 e2 ok2) (by rw [hK]; exact z)
theorem ev_call {x : Str} {p : Pos} {k n : Nat} {pm : Pm} {dvs : List V} (G : Kn X.prog X.w X.K X.mg X.base x dvs k (spD X.K W n pm)) (hr : Room k X.A) (hS : Wo.Sub W C.W) (hd : ∀ H, DDs X.K H dvs dd) (ha : EVs X C (e :: es) Γ ds) (hp : pm (ds ++ dd) fun d' => d' = d) (hn : ds.length + dd.length = n := by rfl) (hg : Gl X x := by rfl)
    (hdb : (x == ("__debug__" : Str)) = false := by decide) (he : starEach (e :: es) X.env = (false, eval e X.env) :: starEach es X.env := by rfl) (hpl : (backTo pos (starEach es X.env)).any (·.1) = false := by rfl) : EV X C (.Call (.Name x p) (e :: es) [] pos) Γ d := (evc_call G hr hS hd ha hp hn hg hdb he hpl).ev
/-- the usual call: no defaults, the same world -/
theorem ev_fn {x : Str} {p : Pos} {j k n : Nat} {pm : Pm} (G : Kn X.prog X.w X.K X.mg X.base x [] j (spD X.K C.W n pm)) (hr : Room k X.A) (hj : j ≤ k) (ha : EVs X C (e :: es) Γ ds) (hp : pm ds fun d' => d' = d) (hn : ds.length = n := by rfl) (hg : Gl X x := by rfl)
    (hdb : (x == ("__debug__" : Str)) = false := by decide) (he : starEach (e :: es) X.env = (false, eval e X.env) :: starEach es X.env := by rfl) (hpl : (backTo pos (starEach es X.env)).any (·.1) = false := by rfl) : EV X C (.Call (.Name x p) (e :: es) [] pos) Γ d :=
  ev_call (dd := []) G (hr.mono hj) Wo.Sub.rfl' (fun _ => .nil) ha (by rw [List.append_nil]; exact hp) hn hg hdb he hpl
end
/-! ### a def by its body -/
def ini (N : List Str) (ds : List PD) : List Sl := ds.map Sl.pu ++ List.replicate (N.length - ds.length) .no
theorem start_ok {K : PySem.W.Frag} {W : Wo} {H : Hp} {P : Addr → Bool} {N : List Str} {vs : List V} {ds : List PD} (hz : DDs K (msk P H) vs ds) (ok : W.ok H) (dom : ∀ a, P a = true → H a ≠ none) (pw : ∀ a, W.wob a → P a = true) : Ok ⟨K, W, H, P⟩ P H (L2.start N vs) (ini N ds) := by
  have hl := hz.length
  refine ⟨Ext.refl _ _, ok, dom, pw, fun _ h => h, fun a h => .inl h, ?_, fun i x e => ?_, fun i j es es' p e1 _ _ _ => ?_⟩
  · unfold ini L2.start
    simp [hl]
  · unfold ini at e
    by_cases hi : i < ds.length
    · rw [List.getElem?_append_left (by simpa using hi), List.getElem?_map] at e
      cases q : ds[i]? with
      | none => rw [q] at e; cases e
      | some d =>
        rw [q] at e
        cases e
        obtain ⟨v, h1, h2⟩ := hz.get q
        refine ⟨v, ?_, h2⟩
        unfold L2.start
        rw [List.getElem?_append_left (by simpa [hl] using hi), List.getElem?_map, h1]
        rfl
    · rw [List.getElem?_append_right (by simpa using Nat.le_of_not_lt hi), List.getElem?_replicate] at e
      split at e <;> cases e
      trivial
  · unfold ini at e1
    by_cases hi : i < ds.length
    · rw [List.getElem?_append_left (by simpa using hi), List.getElem?_map] at e1
      cases q : ds[i]? with
      | none => rw [q] at e1; cases e1
      | some d => rw [q] at e1; cases e1
    · rw [List.getElem?_append_right (by simpa using Nat.le_of_not_lt hi), List.getElem?_replicate] at e1
      split at e1 <;> cases e1
/-- the same, ready to be read off -/
def iniN : List Str → List Sl
  | [] => []
  | _ :: N => .no :: iniN N
def iniL (N : List Str) : List PD → List Sl
  | [] => iniN N
  | d :: ds => .pu d :: iniL N.tail ds
theorem iniN_eq : ∀ N : List Str, List.replicate N.length Sl.no = iniN N
  | [] => rfl
  | _ :: N => by rw [List.length_cons, List.replicate_succ, iniN_eq N]; rfl
theorem ini_eq : ∀ (ds : List PD) (N : List Str), ini N ds = iniL N ds
  | [], N => by
    unfold ini iniL
    simp only [List.map_nil, List.nil_append, List.length_nil, Nat.sub_zero]
    exact iniN_eq N
  | d :: ds, N => by
    have := ini_eq ds N.tail
    unfold ini at this ⊢
    unfold iniL
    rw [← this]
    simp only [List.map_cons, List.cons_append, List.length_cons, List.length_tail]
    congr 3
    omega
section
variable {P : Program} {w : World} {K : PySem.W.Frag} {mg : Str → Option Value} {base : Heap} {W : Wo}
theorem fn_mk {x q : Str} {params : Arguments} {body : List Stmt} {scope : Scope} {dvs : List V} {f : Addr} {fd : FuncData} {N ps : List Str} {k : Nat} {pm : Pm} (F : FunD K x q params body scope dvs [] f fd) (S : FnScope N ps scope)
    (hbody : ∀ (X : Cx) (C : Ct) (cdv : Value) (A : Around) (outer : List Env) (s : Shared) (H : Hp) (E : XK) (P0 : Addr → Bool) (ds : List PD) (p : PD → Prop), X = (cxOf CX0 P w K mg base N q scope f cdv A outer s H E).nox → C = ⟨K, W, H, P0⟩ → Room k X.A → pm ds p → SW X C body (iniL N ds) { nx := fun _ => p .none, rt := p }) :
    FnOk P w K mg base CX0 (k + 1) f fd ps (spD K W ps.length pm) :=
  F.ok S (fun vs H Q E h => by obtain ⟨_, _, _, h, _⟩ := h; exact h) fun cdv A outer s H vs Q E hr h => by
    obtain ⟨P0, ds, p, _, h1, h2, h3, h4, h5, h6⟩ := h
    refine ⟨_, PSs.nox pss_w, hbody _ _ cdv A outer s H E P0 ds p rfl rfl hr h5 rfl P0 _ H (by rw [← ini_eq]; exact start_ok h4 h1 h2 h3) _ ⟨fun Γ' P' σ' H' a o l => ?_, fun d v H' r e1 ok z => h6 d v H' r e1 ok z, fun _ _ _ _ z => z.elim, fun _ _ _ _ z => z.elim⟩⟩
    exact h6 .none .non H' a o.ext o.wok .non
end
end RT
end
section
set_option Elab.async false
set_option linter.all false
set_option maxRecDepth 100000
/-! A7: built-in functions, short forms. -/
namespace RT
open PySem PySem.Spec PyProof.Rows L2
section
variable {X : Cx} {C : Ct} {Γ Γ' : List Sl} {e a b c tg iter : Expr} {es : List Expr} {d d1 d2 : PD} {ds es' dd : List PD} {pos p2 : Pos} {B : Po} {W : Wo} {R : PD → Prop} {st : Stmt} {rest body sts : List Stmt} {x y : Bool}
def RCD (X : Cx) (C : Ct) (r : List V → Hp → VK → Prop) (ds : List PD) (d : PD) : Prop := C.K = X.K → ∀ P H vs, Md C P H → DDs C.K (msk P H) vs ds → ∀ Q : VK, (∀ v H', Ext C.W H H' → C.W.ok H' → DD C.K (msk P H') v d → Q v H') → r vs H Q
theorem ev_bi {x : Str} {id : String} {r : List V → Hp → VK → Prop} {p : Pos} (hc : CallR X (.builtin id) r) (hr : RCD X C r ds d) (hm : X.mg x = none) (hv : bootBuiltins x = some (.builtin id)) (ha : EVs X C (e :: es) Γ ds) (hg : Gl X x := by rfl) (hn : x ≠ "__name__" := by decide) (hdb : (x == ("__debug__" : Str)) = false := by decide)
    (he : starEach (e :: es) X.env = (false, eval e X.env) :: starEach es X.env := by rfl) (hpl : (backTo pos (starEach es X.env)).any (·.1) = false := by rfl) : EV X C (.Call (.Name x p) (e :: es) [] pos) Γ d := .mk fun hK P σ H o Q q =>
  w_pe (pe_callB hc hg hm hv pa_w hn hdb he hpl) (ha hK P σ H o _ fun vs H1 e1 ok1 z1 => hr hK P H1 vs (o.step e1 ok1).md z1 Q fun v H2 e2 ok2 z2 => q v H2 (e1.trans e2) ok2 z2)
theorem ev_ty {x : Str} {T : String} {r : List V → Hp → VK → Prop} {p : Pos} (hc : CallR X (.type T) r) (hr : RCD X C r ds d) (hm : X.mg x = none) (hv : bootBuiltins x = some (.type T)) (ha : EVs X C (e :: es) Γ ds) (hg : Gl X x := by rfl) (hn : x ≠ "__name__" := by decide) (hdb : (x == ("__debug__" : Str)) = false := by decide)
    (he : starEach (e :: es) X.env = (false, eval e X.env) :: starEach es X.env := by rfl) (hpl : (backTo pos (starEach es X.env)).any (·.1) = false := by rfl) : EV X C (.Call (.Name x p) (e :: es) [] pos) Γ d := .mk fun hK P σ H o Q q =>
  w_pe (pe_callTy hc hg hm hv pa_w hn hdb he hpl) (ha hK P σ H o _ fun vs H1 e1 ok1 z1 => hr hK P H1 vs (o.step e1 ok1).md z1 Q fun v H2 e2 ok2 z2 => q v H2 (e1.trans e2) ok2 z2)
theorem boot_abs' : bootBuiltins ("abs" : Str) = some (.builtin "abs") := by decide +kernel
theorem boot_int' : bootBuiltins ("int" : Str) = some (.type "int") := by decide +kernel
theorem boot_list' : bootBuiltins ("list" : Str) = some (.type "list") := by decide +kernel
theorem boot_tuple' : bootBuiltins ("tuple" : Str) = some (.type "tuple") := by decide +kernel
theorem boot_sum' : bootBuiltins ("sum" : Str) = some (.builtin "sum") := by decide +kernel
theorem boot_len' : bootBuiltins ("len" : Str) = some (.builtin "len") := by decide +kernel
theorem ev_abs {p : Pos} {i : Int} (hm : X.mg "abs" = none) (ha : EV X C e Γ (.int i)) (hg : Gl X "abs" := by rfl) (he : starEach [e] X.env = (false, eval e X.env) :: starEach [] X.env := by rfl) (hpl : (backTo pos (starEach [] X.env)).any (·.1) = false := by rfl) : EV X C (.Call (.Name "abs" p) [e] [] pos) Γ (.int (i.natAbs : Int)) :=
  ev_bi call_abs (fun _ P H vs m z Q q => by
    cases z with
    | cons z1 z2 =>
      cases z1; cases z2
      have e : (if i < 0 then -i else i) = (i.natAbs : Int) := by split <;> omega
      exact ⟨i, rfl, by rw [e]; exact q _ H (Ext.refl _ _) m.wok (.int _)⟩) hm boot_abs' (evs_one ha he) hg (by decide) (by decide) he hpl
theorem ev_intI {p : Pos} {i : Int} (hm : X.mg "int" = none) (ha : EV X C e Γ (.int i)) (hg : Gl X "int" := by rfl) (he : starEach [e] X.env = (false, eval e X.env) :: starEach [] X.env := by rfl) (hpl : (backTo pos (starEach [] X.env)).any (·.1) = false := by rfl) : EV X C (.Call (.Name "int" p) [e] [] pos) Γ (.int i) :=
  ev_ty call_int1 (fun _ P H vs m z Q q => by
    cases z with
    | cons z1 z2 => cases z1; cases z2; exact .inl ⟨i, rfl, q _ H (Ext.refl _ _) m.wok (.int _)⟩) hm boot_int' (evs_one ha he) hg (by decide) (by decide) he hpl
theorem ev_intB {p : Pos} (hm : X.mg "int" = none) (ha : EV X C e Γ (.bool x)) (hg : Gl X "int" := by rfl) (he : starEach [e] X.env = (false, eval e X.env) :: starEach [] X.env := by rfl) (hpl : (backTo pos (starEach [] X.env)).any (·.1) = false := by rfl) : EV X C (.Call (.Name "int" p) [e] [] pos) Γ (.int (if x then 1 else 0)) :=
  ev_ty call_int1 (fun _ P H vs m z Q q => by
    cases z with
    | cons z1 z2 => cases z1; cases z2; exact .inr ⟨x, rfl, q _ H (Ext.refl _ _) m.wok (.int _)⟩) hm boot_int' (evs_one ha he) hg (by decide) (by decide) he hpl
theorem ev_len {p : Pos} (hm : X.mg "len" = none) (ha : EV X C e Γ (.list ds)) (hg : Gl X "len" := by rfl) (he : starEach [e] X.env = (false, eval e X.env) :: starEach [] X.env := by rfl) (hpl : (backTo pos (starEach [] X.env)).any (·.1) = false := by rfl) : EV X C (.Call (.Name "len" p) [e] [] pos) Γ (.int (ds.length : Int)) :=
  ev_bi call_len_seq (fun _ P H vs m z Q q => by
    cases z with
    | cons z1 z2 =>
      cases z2
      obtain ⟨p, us, rfl, _, h1, h2⟩ := z1.lst_at
      exact ⟨p, us, rfl, .inl (SqL.of h1), by rw [h2.length]; exact q _ H (Ext.refl _ _) m.wok (.int _)⟩) hm boot_len' (evs_one ha he) hg (by decide) (by decide) he hpl
theorem ev_lenF {p : Pos} {ns : List Int} (hm : X.mg "len" = none) (ha : EV X C e Γ (.dict (ns.map fun n => (.int n, .none)))) (hg : Gl X "len" := by rfl) (he : starEach [e] X.env = (false, eval e X.env) :: starEach [] X.env := by rfl) (hpl : (backTo pos (starEach [] X.env)).any (·.1) = false := by rfl) : EV X C (.Call (.Name "len" p) [e] [] pos) Γ (.int (ns.length : Int)) :=
  ev_bi call_len_seq (fun hK P H vs m z Q q => by
    cases z with
    | cons z1 z2 =>
      cases z2
      generalize hd : (PyData.dict (ns.map fun n => (PyData.int n, PyData.none))) = dd at z1
      cases z1 with
      | frz hl =>
        rename_i ns'
        have e := congrArg List.length (PyData.dict.inj hd)
        rw [List.length_map, List.length_map] at e
        refine ⟨_, _, rfl, .inl (by rw [← hK]; exact msk_le.sql hl), ?_⟩
        rw [List.length_map, ← e]
        exact q _ H (Ext.refl _ _) m.wok (.int _)
      | opq a => cases ns with
        | nil => cases hd
        | cons n ns => cases hd
      | _ => cases hd) hm boot_len' (evs_one ha he) hg (by decide) (by decide) he hpl
theorem ev_sum {p : Pos} {ns : List Int} (hm : X.mg "sum" = none) (ha : EV X C e Γ (.list (ns.map .int))) (hg : Gl X "sum" := by rfl) (hc : X.calm = true := by rfl) (he : starEach [e] X.env = (false, eval e X.env) :: starEach [] X.env := by rfl) (hpl : (backTo pos (starEach [] X.env)).any (·.1) = false := by rfl) : EV X C (.Call (.Name "sum" p) [e] [] pos) Γ (.int ns.sum) :=
  ev_bi (cr_sum hc) (fun _ P H vs m z Q q => by
    cases z with
    | cons z1 z2 =>
      cases z2
      obtain ⟨p, us, rfl, _, h1, h2⟩ := z1.lst_at
      rw [h2.ints] at h1
      exact ⟨p, ns, rfl, SqL.of h1, q _ H (Ext.refl _ _) m.wok (.int _)⟩) hm boot_sum' (evs_one ha he) hg (by decide) (by decide) he hpl
/-- list(xs): a new list -/
theorem evl_list {p : Pos} (hm : X.mg "list" = none) (ha : EV X C e Γ (.list ds)) (hg : Gl X "list" := by rfl) (he : starEach [e] X.env = (false, eval e X.env) :: starEach [] X.env := by rfl) (hpl : (backTo pos (starEach [] X.env)).any (·.1) = false := by rfl) : EVL X C (.Call (.Name "list" p) [e] [] pos) Γ ds := .mk fun hK P σ H o Q q =>
  w_pe (pe_callTy call_list_of hg hm boot_list' pa_w (by decide) (by decide) he hpl) (evs_one ha he hK P σ H o _ fun vs H1 e1 ok1 z => by
    cases z with
    | cons z1 z2 =>
      cases z2
      obtain ⟨p, us, rfl, _, h1, h2⟩ := z1.lst_at
      exact ⟨p, us, rfl, .inl (SqL.of h1), fun l hl => q l us _ (e1.trans (Ext.new hl)) (C.W.new ok1 hl) (e1.back ok1 hl) upd_same (h2.mono (le_add_new hl))⟩)
/-- tuple(xs) -/
theorem ev_tupL {p : Pos} (hm : X.mg "tuple" = none) (ha : EV X C e Γ (.list ds)) (hg : Gl X "tuple" := by rfl) (he : starEach [e] X.env = (false, eval e X.env) :: starEach [] X.env := by rfl) (hpl : (backTo pos (starEach [] X.env)).any (·.1) = false := by rfl) : EV X C (.Call (.Name "tuple" p) [e] [] pos) Γ (.tuple ds) :=
  ev_ty call_tuple_of (fun _ P H vs m z Q q => by
    cases z with
    | cons z1 z2 =>
      cases z2
      obtain ⟨p, us, rfl, _, h1, h2⟩ := z1.lst_at
      exact ⟨p, us, rfl, .inl ⟨SqL.of h1, fun l hl => q _ _ (Ext.new hl) (C.W.new m.wok hl) (m.tup hl h2)⟩⟩) hm boot_tuple' (evs_one ha he) hg (by decide) (by decide) he hpl
end
end RT
end
section
set_option Elab.async false
set_option linter.all false
set_option maxRecDepth 100000
/-! A8: generator expressions whose elements call defs: the block's context, how it starts. -/
namespace RT
open PySem PySem.Spec PyProof.Rows L2
abbrev gEnv (X : Cx) (scope : Scope) (Ca : Addr) (code : Value) : Env := genEnv scope (cloFrom X.env.cells scope.names []) Ca code builtinsNs X.env
/-- the context of the block of a generator expression -/
abbrev gk (X : Cx) (A' : Around) (s : Shared) (H : Hp) (scope : Scope) (Ca : Addr) (code : Value) (fp : List Addr) : Cx :=
  { X with A := A', s_0 := s, H_0 := H, env := gEnv X scope Ca code, outer := X.stack, stack := gEnv X scope Ca code :: X.stack, ex := fp, fn := fun _ => false, pn := [], xe := fun _ _ => False }
theorem Inv.same {X : Cx} {pins : List (Addr × Obj)} {σ : L2.St} {H : Hp} {s s' : Shared} (I : Inv X pins σ H s) (h : s'.heap = s.heap) (ho : s'.os = s.os) (hb : AllBare s'.gens) : Inv X pins σ H s' := by
  refine ⟨I.ok, ho.trans I.os, hb, ?_, ?_, ?_, I.free, I.freeC, ?_, ?_, I.len⟩
  · rw [h]; exact I.base
  · rw [h]; exact I.loc
  · rw [h]; exact I.cell
  · rw [h]; exact I.pin
  · rw [h]; exact I.hok
theorem gen_start {X : Cx} {pins pins' : List (Addr × Obj)} {σ : L2.St} {H : Hp} {s s' : Shared} {scope : Scope} {own : List (Str × Nat)} {fp : List Addr} {A' : Around} {code : Value} {m : Str → Option Value}
    (I : Inv X pins σ H s) (ok : BlkOk X.N X.env.scope scope own) (nc : ∀ y ∈ scope.names, y.2 ≠ .cell) (hN : X.N.Nodup) (hfp : ∀ b ∈ fp, FpOk X pins H b ∧ b < s.heap.objs.size)
    (hA : A'.handled = none) (hF : A'.frames = some (gEnv X scope s.heap.objs.size code :: X.stack)) (hos : s'.os = s.os) (hb : AllBare s'.gens) (kp : ∀ b o, s.heap.get? b = some o → s'.heap.get? b = some o)
    (hn : s'.heap.Ns s.heap.objs.size m) (hp : ∀ p ∈ pins', s'.heap.get? p.1 = some p.2 ∧ H p.1 = none ∧ p.1 ≠ s.heap.objs.size ∧ s.heap.objs.size ≤ p.1 ∧ ∀ v, p.2.data ≠ .cell v) :
    Inv (gk X A' s H scope s.heap.objs.size code fp) pins' (L2.wipe σ (own.map (·.2))) H s' := by
  have cellOf : ∀ y, scope.names.lookup y = some .free → ∃ c, X.env.cells.lookup y = some c := fun y hy => by
    rcases ok.free _ (PySem.mem_of_lookup hy) rfl with k | k
    · exact I.ok.has _ (.inl k)
    · exact I.ok.has _ (.inr k)
  have down : ∀ {y c}, (cloFrom X.env.cells scope.names []).lookup y = some c → scope.names.lookup y = some .free ∧ X.env.cells.lookup y = some c := fun {y c} e => by
    rcases cloFrom_mem (PySem.mem_of_lookup e) with z | ⟨z, rfl⟩
    · cases z
    · have l := ok.uniq _ z
      obtain ⟨c', hc⟩ := cellOf y l
      exact ⟨l, by rw [hc]; rfl⟩
  have up : ∀ {y}, scope.names.lookup y = some .free → ∃ c, (cloFrom X.env.cells scope.names []).lookup y = some c ∧ X.env.cells.lookup y = some c := fun {y} l => by
    obtain ⟨c, hc⟩ := mem_lookup (cloFrom_has (cells := X.env.cells) (acc := []) (PySem.mem_of_lookup l))
    exact ⟨c, hc, (down hc).2⟩
  have cl : ∀ {y c}, X.env.cells.lookup y = some c → c < s.heap.objs.size := fun {y c} e => by
    obtain ⟨v, z⟩ := I.cell _ _ e
    exact z.lt
  have G : (gk X A' s H scope s.heap.objs.size code fp).Ok := by
    refine ⟨I.ok.mod, ok.kind, I.ok.glob, rfl, Nat.le_refl _, fun y z c e1 e2 => I.ok.inj y z c (down e1).2 (down e2).2, fun y hy => ?_, fun y c z _ => (by cases z), fun _ => hA, hF, .inr ⟨rfl, rfl⟩, fun b hb => ⟨?_, fun y c e z => ?_⟩, I.bs, Nat.le_trans I.ok.bsz I.sz, fun b o e hb => ?_, fun b hb z => ?_, I.stack, I.stkFree⟩
    · rcases hy with hy | hy
      · exact absurd rfl (nc _ (PySem.mem_of_lookup hy))
      · obtain ⟨c, h1, _⟩ := up hy
        exact ⟨c, h1⟩
    · exact Nat.ne_of_lt (hfp b hb).2
    · exact (hfp b hb).1.2.2.2.2.1 y c (down e).2 z
    · rcases (hfp b hb).1.2.2.2.1 with z | z
      · exact I.ok.noex b o e z
      · have h1 := Heap.lt_size e
        have h2 := Nat.le_trans I.ok.bsz z
        exact absurd (Nat.lt_of_lt_of_le h1 h2) (Nat.lt_irrefl _)
    · rcases List.mem_cons.mp (I.stkSub b z) with w | w
      · exact (hfp b hb).1.2.1 w
      · exact (hfp b hb).1.2.2.1 w
  refine ⟨G, hos, hb, Un.kept kp, ⟨m, hn, fun i y v e1 e2 e3 => ?_⟩, fun y c e => ?_, I.hok.fresh (Nat.le_refl _), fun y c e => I.freeC y c (down e).2, fun p hp' => ?_, I.hok.kept kp, by rw [wipe_length]; exact I.len⟩
  · obtain ⟨e2, hne⟩ := wipe_some e2
    have hfr : scope.names.lookup y = some .free := by
      have no : ∀ k, scope.names.lookup y = some k → k = .local ∨ k = .cell → False := fun k e hk => by
        rcases ok.own _ (PySem.mem_of_lookup e) hk with z | z
        · obtain ⟨q, hq, hqy⟩ := List.mem_map.mp z
          have e4 := ok.ix q hq
          have hqy' : q.1 = y := hqy
          rw [hqy'] at e4
          exact hne (List.mem_map.mpr ⟨q, hq, nodup_ix hN e4 e1⟩)
        · exact z (List.mem_of_getElem? e1)
      have e3' : Vis scope y := e3
      rcases e3' with z | z | z
      · exact (no _ z (.inl rfl)).elim
      · exact (no _ z (.inr rfl)).elim
      · exact z
    obtain ⟨m', hn', hl⟩ := I.loc
    have hv : Vis X.env.scope y := (ok.free _ (PySem.mem_of_lookup hfr) rfl).elim (fun k => .inr (.inl k)) fun k => .inr (.inr k)
    obtain ⟨u, r, q⟩ := hl i y v e1 e2 hv
    obtain ⟨c, h1, h2⟩ := up hfr
    refine ⟨u, r, .inr ⟨.inr hfr, c, h1, ?_⟩⟩
    rcases q with ⟨k, _⟩ | ⟨_, c', e', z⟩
    · have k' : X.env.scope.names.lookup y = some .local := k
      rcases ok.free _ (PySem.mem_of_lookup hfr) rfl with w | w
      · rw [show X.env.scope.names.lookup y = some .cell from w] at k'; cases k'
      · rw [show X.env.scope.names.lookup y = some .free from w] at k'; cases k'
    · rw [h2] at e'
      cases e'
      exact z.keeps kp
  · obtain ⟨v, z⟩ := I.cell y c (down e).2
    exact ⟨v, z.keeps kp⟩
  · obtain ⟨h1, h2, h3, h4, h5⟩ := hp p hp'
    refine ⟨h1, h2, h3, fun z => ?_, h5⟩
    rcases List.mem_cons.mp (I.stkSub p.1 z) with w | w
    · have := I.lt
      rw [← w] at this
      exact absurd (Nat.lt_of_lt_of_le this h4) (Nat.lt_irrefl _)
    · exact I.nofs h4 w
/-- the text's own table of inner code, among what is told by a property -/
structure TabW (W : Wo) (base : Heap) (mg : Str → Option Value) (c P : Addr) : Prop where
  tb : GxR.TabB base mg c P
  wob : W.wob P
  at_ : ∀ H, W.ok H → GxR.TabG H P
  put : ∀ H (ps : Array Value), W.ok H → TriplesOk ps.toList → W.ok (upd H P (.tbl ps))
/-- the code object for the block is there, or is made now -/
theorem gen_code {X : Cx} {W : Wo} {pins : List (Addr × Obj)} {σ : L2.St} {H : Hp} {s : Shared} {c P : Addr} {gpos : Pos} {qn : Str} {scope : Scope} {Q : Value → Shared → Prop}
    (I : Inv X pins σ H s) (T : TabW W X.base X.mg c P) (hc : X.env.code = .ref c) (hW : W.ok H)
    (h : ∀ code s' H', Inv X pins σ H' s' → s.heap.objs.size ≤ s'.heap.objs.size → (∀ b, b ≠ P → H' b = H b) → W.ok H' → (∀ b o, b ≠ P → s.heap.get? b = some o → s'.heap.get? b = some o) → Q code s') :
    wpAny (model X.prog X.w) X.A (genexprCode X.env gpos qn scope) Q X.xe s := by
  obtain ⟨ps, hP, ht⟩ := T.at_ H hW
  have hPs : s.heap.get? P = some { cls := .none, data := .fields ps } := I.hok P _ hP
  have cd : PySem.W.CodeHd s.heap c P := T.tb.code.keeps fun b u e => I.bk b u e
  cases hf : codeAmong gpos ps.toList with
  | some cv => exact wpAny_genexprCode_hit hc (cd.code hPs ht) hf (h cv s H I (Nat.le_refl _) (fun _ _ => rfl) hW fun _ _ _ e => e)
  | none =>
    refine wpAny_genexprCodeX hc (cd.code hPs ht) (cd.tab hPs) hf fun c' h' tk hx hge hlt hco' _ htab' _ => ?_
    obtain ⟨o1, vs, f1, tf, fl, tg, inF, tx, tt, op, _, _, _, _, _, _, _, _, _, htr, _⟩ := hco'
    have J := GxR.inv_tab (more := #[rawInt gpos.line, rawInt gpos.col, .ref c']) (h' := h') (g' := s.gens) (d' := s.drawn) (t' := tk) I hP (fun b u hb e => hx b u hb e) htab'.2 I.bare
    exact h _ _ _ J (Nat.le_trans hge (Nat.le_of_lt hlt)) (fun b hb => upd_ne hb) (T.put H _ hW htr) fun b o hb e => hx b o hb e
end RT
end
section
set_option Elab.async false
set_option linter.all false
set_option maxRecDepth 100000
/-! A9: any(..), all(..) of a generator expression whose element calls defs. -/
namespace RT
open PySem PySem.Spec PyProof.Rows L2
section
variable (X : Cx) (pins : List (Addr × Obj)) (σ : L2.St) (vs : List Nat) (fp : List Addr) (tn : Nat → Heap → Prop) (Cond : Hp → Prop) (N : Nat) (f : Nat → Bool)
def InB (i : Nat) (s : Shared) : Prop := ∃ H', Inv X pins (L2.wipe σ vs) H' s ∧ tn i s.heap ∧ (∀ b ∈ fp, H' b = none) ∧ Cond H'
def EndB (s : Shared) : Prop := ∃ H', Inv X pins (L2.wipe σ vs) H' s ∧ Cond H'
abbrev RG : GenEnd := fun n s₀ r s₁ => ((r = .ok (.ret .none) ∨ r = .ok .next) ∧ (n = 0 ∧ EndB X pins σ vs Cond s₁)) ∨ ∃ e, r = .error e ∧ False
def YG : Protocol := fun m s₀ v s₁ kap => ∃ i, i + 1 + m = N ∧ v = .bool (f i) ∧ InB X pins σ vs fp tn Cond (i + 1) s₁ ∧ ∀ s'' : Shared, s''.heap = s₁.heap → s''.os = s₁.os → AllBare s''.gens → kap (.send .none) s''
end
section
variable {X : Cx} {pins : List (Addr × Obj)} {σ : L2.St} {vs : List Nat} {fp : List Addr} {tn : Nat → Heap → Prop} {Cond : Hp → Prop} {N : Nat} {f : Nat → Bool}
theorem InB.same {i : Nat} {s s' : Shared} (h : InB X pins σ vs fp tn Cond i s) (h1 : s'.heap = s.heap) (h2 : s'.os = s.os) (h3 : AllBare s'.gens) : InB X pins σ vs fp tn Cond i s' := by
  obtain ⟨H', I, t, z, c⟩ := h
  exact ⟨H', Inv.same I h1 h2 h3, by rw [h1]; exact t, z, c⟩
theorem seg_loopG {B : Around} {tg iter elt : Expr} {scope : Scope} {pos : Pos} {J : It} {it : Addr}
    (hA : X.A = B.over (.compLoop (.GeneratorExp elt [⟨tg, iter, [], 0⟩] scope pos) 0 (.ref it) .none X.env) []) (hc : X.calm = true) (hpn : X.pn = []) (hxe : X.xe = fun _ _ => False) (hco : X.env.scope.isCoroutine = false)
    (T : Turn X.prog X.w X.K tg J fp it tn) (hpf : ∀ p ∈ pins, ∀ b ∈ fp, p.1 ≠ b) (hex : X.ex = fp)
    (hgo : ∀ i H', i < N → Cond H' → J.go i H' ∧ ∀ x H'', J.yld i H' x H'' → wG X tg x (L2.wipe σ vs) H'' fun σ2 H2 => L2.wipe σ2 vs = L2.wipe σ vs ∧ wE X elt σ2 H2 fun v H3 => v = .bl (f i) ∧ Cond H3)
    (hstop : ∀ H', Cond H' → J.stop N H') :
    ∀ (m i : Nat) (s₀ s : Shared), N - i = m → i ≤ N → InB X pins σ vs fp tn Cond i s →
      Seg (model X.prog X.w) B (RG X pins σ vs Cond) (YG X pins σ vs fp tn Cond N f) m s₀ (.compLoop (.GeneratorExp elt [⟨tg, iter, [], 0⟩] scope pos) 0 (.ref it) .none X.env)
        ((model X.prog X.w).den (.compLoop (.GeneratorExp elt [⟨tg, iter, [], 0⟩] scope pos) 0 (.ref it) .none X.env)) [] s := by
  have stat : ∀ {σ' : L2.St} {H' : Hp} {s' : Shared}, Inv X pins σ' H' s' → (∀ b ∈ fp, H' b = none) → ∀ b ∈ fp, FpOk X pins H' b := fun {σ' H' s'} I' hn b hb =>
    ⟨hn b hb, (I'.ok.exf b (by rw [hex]; exact hb)).1, I'.ok.exfs b (by rw [hex]; exact hb), .inl (by rw [hex]; exact hb), fun x c e => (I'.ok.exf b (by rw [hex]; exact hb)).2 x c e, fun p hp => by
      rw [hpn, List.nil_append] at hp
      exact hpf p hp b hb⟩
  intro m
  induction m with
  | zero =>
    intro i s₀ s hm hi hI
    have e : i = N := by omega
    subst e
    obtain ⟨H', I, t, z, c⟩ := hI
    show Seg _ B _ _ _ s₀ _ ((compTurn (.GeneratorExp elt [⟨tg, iter, [], 0⟩] scope pos) 0 (.ref it) .none X.env).onRaise (leaving X.env)) [] s
    rw [compTurn_gen, Sem.onRaise_eq_wrap]
    refine seg_bind_wrap (wpAny_standAt (seg_bind_wrap ?_))
    rw [← hA]
    refine thnF (T.done X rfl rfl rfl hc i pins s _ H' (fun _ _ => False) I (stat I z) t (hstop H' c)) fun r s1 hr => ?_
    obtain ⟨rfl, I1⟩ := hr
    exact seg_end (.ok .next) (.inl ⟨.inr rfl, rfl, H', I1, c⟩)
  | succ m ih =>
    intro i s₀ s hm hi hI
    have hlt : i < N := by omega
    obtain ⟨H', I, t, z, c⟩ := hI
    obtain ⟨hg, hy⟩ := hgo i H' hlt c
    show Seg _ B _ _ _ s₀ _ ((compTurn (.GeneratorExp elt [⟨tg, iter, [], 0⟩] scope pos) 0 (.ref it) .none X.env).onRaise (leaving X.env)) [] s
    rw [compTurn_gen, Sem.onRaise_eq_wrap]
    refine seg_bind_wrap (wpAny_standAt (seg_bind_wrap ?_))
    rw [← hA]
    refine thnF (T.item X rfl rfl rfl hc i pins s _ H' (fun _ _ => False) I (stat I z) t hg) fun r s1 hr => ?_
    obtain ⟨u, rfl, h1⟩ := hr
    refine seg_bind_wrap ?_
    rw [← hA]
    refine thnF (wpAny_mono h1 (fun _ _ y => y) fun _ _ y => y) fun _ s2 h2 => ?_
    obtain ⟨x, H2, I2, r2, y2, t2, z2⟩ := h2
    have I2' := I2.pinned (stat I2 z2) (T.obj _ _ t2)
    refine seg_bind_wrap ?_
    rw [← hA]
    have w := hy x H2 y2 _ s2 u I2' r2
    rw [hxe] at w
    refine thnF w fun _ s3 h3 => ?_
    obtain ⟨σ3, H3, I3, hw3, w3⟩ := h3
    refine seg_bind_wrap ?_
    simp only [List.forIn_nil]
    refine wpAny_pure ?_
    simp only [if_true]
    have yo : ∀ v, yieldOut X.env v = yieldValue v := fun v => by simp only [yieldOut, hco, Bool.false_eq_true, if_false]
    simp only [yo]
    rw [Sem.bind_eq_wrap', Sem.bind_eq_wrap', Sem.wrap_wrap, Sem.wrap_wrap]
    refine seg_wrap ?_
    rw [← hA]
    have w4 := w3 _ s3 I3
    rw [hxe] at w4
    refine thnF w4 fun v s4 h4 => ?_
    obtain ⟨v', H4, I4, r4, q4⟩ := h4
    obtain ⟨rfl, c4⟩ := q4
    have pin' : ∀ b ∈ fp, ∀ o, s2.heap.get? b = some o → s4.heap.get? b = some o ∧ H4 b = none := fun b hb o e =>
      let y := I4.pin (b, o) (List.mem_append_right _ (List.mem_append_right _ (mem_pinsAt hb e)))
      ⟨y.1, y.2.1⟩
    have IB : InB X pins σ vs fp tn Cond (i + 1) s4 := by
      have hl : (L2.wipe σ vs).length = σ3.length := by rw [← hw3, wipe_length]
      refine ⟨H4, (Inv.unpinned (pins := pins) I4).weak hl fun j v e => ?_, T.keep _ _ _ t2 fun b hb o e => (pin' b hb o e).1, fun b hb => ?_, c4⟩
      · rw [← hw3] at e
        exact (wipe_some e).1
      · obtain ⟨o, e, _⟩ := T.obj _ _ t2 b hb
        exact (pin' b hb o e).2
    have hv : v = .bool (f i) := r4
    subst hv
    refine seg_at (seg_yield rfl rfl rfl ⟨i, by omega, rfl, IB, fun s'' e1 e2 e3 => ?_⟩)
    exact seg_again rfl (ih (i + 1) s'' s'' (by omega) hlt (IB.same e1 e2 e3))
theorem seg_startG {B : Around} {tg iter elt : Expr} {scope : Scope} {pos : Pos} {J : It} {it : Addr}
    (hA : X.A = B.over (.compLoop (.GeneratorExp elt [⟨tg, iter, [], 0⟩] scope pos) 0 (.ref it) .none X.env) []) (hc : X.calm = true) (hpn : X.pn = []) (hxe : X.xe = fun _ _ => False) (hco : X.env.scope.isCoroutine = false)
    (T : Turn X.prog X.w X.K tg J fp it tn) (hpf : ∀ p ∈ pins, ∀ b ∈ fp, p.1 ≠ b) (hex : X.ex = fp)
    (hgo : ∀ i H', i < N → Cond H' → J.go i H' ∧ ∀ x H'', J.yld i H' x H'' → wG X tg x (L2.wipe σ vs) H'' fun σ2 H2 => L2.wipe σ2 vs = L2.wipe σ vs ∧ wE X elt σ2 H2 fun v H3 => v = .bl (f i) ∧ Cond H3)
    (hstop : ∀ H', Cond H' → J.stop N H') (s₀ s : Shared) (hI : InB X pins σ vs fp tn Cond 0 s) :
      Seg (model X.prog X.w) B (RG X pins σ vs Cond) (YG X pins σ vs fp tn Cond N f) N s₀ (.compStart (.GeneratorExp elt [⟨tg, iter, [], 0⟩] scope pos) 0 (.ref it) .none X.env)
        ((model X.prog X.w).den (.compStart (.GeneratorExp elt [⟨tg, iter, [], 0⟩] scope pos) 0 (.ref it) .none X.env)) [] s := by
  have loop := seg_loopG (iter := iter) (pos := pos) (N := N) (f := f) hA hc hpn hxe hco T hpf hex hgo hstop N 0 s₀ s (Nat.sub_zero _) (Nat.zero_le _) hI
  obtain ⟨H', I, t, z, c⟩ := hI
  show Seg _ B _ _ _ s₀ _ ((compStart (.GeneratorExp elt [⟨tg, iter, [], 0⟩] scope pos) 0 (.ref it) .none X.env).onRaise (leaving X.env)) [] s
  unfold compStart
  rw [Sem.onRaise_eq_wrap]
  show Seg _ B _ _ _ s₀ _ ((ask >>= _).wrap _ _ _ _) [] s
  refine seg_bind_wrap (wpAny_askSetting ?_)
  split
  · exact seg_again rfl loop
  · first
      | exact seg_bind_wrap (wpAny_rule (seg_bind_wrap (wpAny_standAt (seg_bind_wrap (T.self _ 0 s _ _ t (seg_again rfl loop))))))
      | (refine seg_bind_wrap (wpAny_rule ?_); show Seg _ B _ _ _ s₀ _ ((standAt iter.pos >>= _).wrap _ _ _ _) [] s; exact seg_bind_wrap (wpAny_standAt (seg_bind_wrap (T.self _ 0 s _ _ t (seg_again rfl loop)))))
end
end RT
end
section
set_option Elab.async false
set_option linter.all false
set_option maxRecDepth 100000
/-! A10: any(..), all(..), the rules. -/
namespace RT
open PySem PySem.Spec PyProof.Rows L2 GenW
section
variable {X : Cx} {pins : List (Addr × Obj)} {σ : L2.St} {vs : List Nat} {fp : List Addr} {tn : Nat → Heap → Prop} {Cond : Hp → Prop} {N : Nat} {f : Nat → Bool}
/-- the generator sleeps ahead of its item i -/
structure GS (X : Cx) (pins : List (Addr × Obj)) (σ : L2.St) (vs : List Nat) (fp : List Addr) (tn : Nat → Heap → Prop) (Cond : Hp → Prop) (N : Nat) (f : Nat → Bool) (B : Around) (a : Addr) (g : Nat) (i : Nat) (s : Shared) : Prop where
  gen : s.heap.IsGen a g
  lim : s.heap.NoLimit
  bare : AllBare s.gens
  go : ∃ gs, s.gens[g]? = some gs ∧ ∀ s'' : Shared, s''.heap = s.heap → s''.os = s.os → AllBare s''.gens → gs.Goes (model X.prog X.w) B (RG X pins σ vs Cond) (YG X pins σ vs fp tn Cond N f) (N - i) (.send .none) s''
theorem EndB.grow {s : Shared} {h' : Heap} {g' : Array GenState} (h : EndB X pins σ vs Cond s) (hk : ∀ b o, s.heap.get? b = some o → h'.get? b = some o) (hb : AllBare g') : EndB X pins σ vs Cond { s with gens := g', heap := h' } := by
  obtain ⟨H', I, c⟩ := h
  exact ⟨H', I.call' (ch := []) rfl (Un.kept hk) (I.hok.kept hk) hb (fun b hb => absurd hb (by simp)), c⟩
/-- one wake -/
theorem next_step {A : Around} {a : Addr} {g i : Nat} {oa : Obj} {s : Shared} {Q : Option Value → Shared → Prop} {E : Value → Shared → Prop} (hh : A.handled = none) (hd : A.depth < recursionLimit) (hi : i ≤ N) (hoa : ∀ h : Heap, h.get? a = some oa → h.IsGen a g) (hpa : (a, oa) ∈ pins)
    (G : GS X pins σ vs fp tn Cond N f A.in1 a g i s)
    (hY : i < N → ∀ s', GS X pins σ vs fp tn Cond N f A.in1 a g (i + 1) s' → EndB X pins σ vs Cond s' → Q (some (.bool (f i))) s')
    (hP : i = N → ∀ s', EndB X pins σ vs Cond s' → Q none s') : wpAny (model X.prog X.w) A (pyNext (.ref a)) Q E s := by
  obtain ⟨gs, hgs, go⟩ := G.go
  have hgl : g < s.gens.size := (Array.getElem?_eq_some_iff.mp hgs).1
  refine wpAny_gsz (n := g + 1) hgl (next_genG hh G.lim hd G.gen hgs (go (s.setGen g .running) rfl rfl (allBare_setGen G.bare rfl)) (fun v s₁ gs' hb hy => ?_) (fun s₁ he h' hk => ?_) fun e s₁ he => he.elim)
  · intro hsz
    obtain ⟨j, hj, rfl, hI, kap⟩ := hy
    have hlt : i < N := by
      rcases Nat.lt_or_ge i N with z | z
      · exact z
      · have e0 : N - i = 0 := by omega
        have := kap s₁ rfl rfl (by obtain ⟨_, I, _⟩ := hI; exact I.bare)
        rw [e0] at this
        exact this.elim
    have hji : j = i := by omega
    subst hji
    have hI' := hI
    obtain ⟨H', I, t, z, c⟩ := hI
    have hsz1 : g < s₁.gens.size := by
      have q : (s₁.setGen g gs').gens.size = s₁.gens.size := setGen_size _ _ _
      have w : g + 1 ≤ (s₁.setGen g gs').gens.size := hsz
      omega
    have IE : Inv X pins (L2.wipe σ vs) H' (s₁.setGen g gs') := Inv.same I rfl rfl (allBare_setGen I.bare hb)
    refine hY hlt _ ⟨hoa _ (I.pin (a, oa) (List.mem_append_right _ hpa)).1, I.nolimit, allBare_setGen I.bare hb, gs', setGen_at hsz1, fun s'' e1 e2 e3 => ?_⟩ ⟨H', IE, c⟩
    obtain ⟨m, hm⟩ : ∃ m, N - j = m + 1 := ⟨N - j - 1, by omega⟩
    have k2 := kap s'' e1 e2 e3
    rw [hm] at k2
    rw [show N - (j + 1) = m by omega]
    exact k2
  · intro _
    obtain ⟨h0, hE⟩ := he
    obtain ⟨H', I, c⟩ := hE
    exact hP (by omega) _ (EndB.grow (s := s₁) ⟨H', I, c⟩ hk (allBare_setGen I.bare rfl))
theorem any_loopG {A : Around} {a : Addr} {g : Nat} {oa : Obj} (hh : A.handled = none) (hd : A.depth < recursionLimit) (hoa : ∀ h : Heap, h.get? a = some oa → h.IsGen a g) (hpa : (a, oa) ∈ pins) :
    ∀ (m i : Nat) (s : Shared), N - i = m → i ≤ N → GS X pins σ vs fp tn Cond N f A.in1.in1 a g i s →
      codeAny (model X.prog X.w) A (.builtin "any.loop" ⟨[.ref a], []⟩) (fun r s' => r = .ok (.ret (.bool (((List.range N).drop i).any f))) ∧ EndB X pins σ vs Cond s') s := by
  intro m
  induction m with
  | zero =>
    intro i s hm hi G
    have e : i = N := by omega
    subst e
    refine codeAny_builtin F.entry_any_loop ?_
    rw [Around.under_plainId F.plain_any_loop _]
    show wpAny _ A.in1 (pyNext (.ref a) >>= _) _ _ s
    refine wpAny_bind (next_step (A := A.in1) hh hd hi hoa hpa G (fun z => absurd z (Nat.lt_irrefl _)) fun _ s' he => ?_)
    refine wpAny_bind (wpAny_rule (wpAny_pure ⟨?_, he⟩))
    rw [List.drop_of_length_le (by simp)]
    rfl
  | succ m ih =>
    intro i s hm hi G
    have hlt : i < N := by omega
    have hdr : (List.range N).drop i = i :: (List.range N).drop (i + 1) := range_drop hlt
    refine codeAny_builtin F.entry_any_loop ?_
    rw [Around.under_plainId F.plain_any_loop _]
    show wpAny _ A.in1 (pyNext (.ref a) >>= _) _ _ s
    refine wpAny_bind (next_step (A := A.in1) hh hd hi hoa hpa G (fun _ s' G' he => ?_) fun z => absurd z (Nat.ne_of_lt hlt))
    refine wpAny_bind (wpAny_holding (wpAny_truthy_bool (wpAny_bind (wpAny_letGo ?_))))
    rw [hdr, List.any_cons]
    cases hb : f i with
    | false =>
      rw [if_neg Bool.false_ne_true, Bool.false_or]
      exact wpAny_pure ⟨plainId_quiet F.plain_any_loop _, ih (i + 1) _ (by omega) hlt G'⟩
    | true =>
      rw [if_pos rfl, Bool.true_or]
      exact wpAny_bind (wpAny_rule (wpAny_pure ⟨rfl, he⟩))
theorem all_loopG {A : Around} {a : Addr} {g : Nat} {oa : Obj} (hh : A.handled = none) (hd : A.depth < recursionLimit) (hoa : ∀ h : Heap, h.get? a = some oa → h.IsGen a g) (hpa : (a, oa) ∈ pins) :
    ∀ (m i : Nat) (s : Shared), N - i = m → i ≤ N → GS X pins σ vs fp tn Cond N f A.in1.in1 a g i s →
      codeAny (model X.prog X.w) A (.builtin "all.loop" ⟨[.ref a], []⟩) (fun r s' => r = .ok (.ret (.bool (((List.range N).drop i).all f))) ∧ EndB X pins σ vs Cond s') s := by
  intro m
  induction m with
  | zero =>
    intro i s hm hi G
    have e : i = N := by omega
    subst e
    refine codeAny_builtin F.entry_all_loop ?_
    rw [Around.under_plainId F.plain_all_loop _]
    show wpAny _ A.in1 (pyNext (.ref a) >>= _) _ _ s
    refine wpAny_bind (next_step (A := A.in1) hh hd hi hoa hpa G (fun z => absurd z (Nat.lt_irrefl _)) fun _ s' he => ?_)
    refine wpAny_bind (wpAny_rule (wpAny_pure ⟨?_, he⟩))
    rw [List.drop_of_length_le (by simp)]
    rfl
  | succ m ih =>
    intro i s hm hi G
    have hlt : i < N := by omega
    have hdr : (List.range N).drop i = i :: (List.range N).drop (i + 1) := range_drop hlt
    refine codeAny_builtin F.entry_all_loop ?_
    rw [Around.under_plainId F.plain_all_loop _]
    show wpAny _ A.in1 (pyNext (.ref a) >>= _) _ _ s
    refine wpAny_bind (next_step (A := A.in1) hh hd hi hoa hpa G (fun _ s' G' he => ?_) fun z => absurd z (Nat.ne_of_lt hlt))
    refine wpAny_bind (wpAny_holding (wpAny_truthy_bool (wpAny_bind (wpAny_letGo ?_))))
    rw [hdr, List.all_cons]
    cases hb : f i with
    | true =>
      rw [if_pos rfl, Bool.true_and]
      exact wpAny_pure ⟨plainId_quiet F.plain_all_loop _, ih (i + 1) _ (by omega) hlt G'⟩
    | false =>
      rw [if_neg Bool.false_ne_true, Bool.false_and]
      exact wpAny_bind (wpAny_rule (wpAny_pure ⟨rfl, he⟩))
end
end RT
end
section
set_option Elab.async false
set_option linter.all false
set_option maxRecDepth 100000
/-! A11: the generator made; any, all as rules. -/
namespace RT
open PySem PySem.Spec PyProof.Rows L2
section
def atF {α : Type} (f : α → Bool) (xs : List α) (i : Nat) : Bool := match xs[i]? with
  | some x => f x
  | none => false
theorem atF_eq {α : Type} {f : α → Bool} {xs : List α} {i : Nat} (h : i < xs.length) : atF f xs i = f xs[i] := by
  unfold atF
  rw [List.getElem?_eq_getElem h]
theorem any_atF {α : Type} (f : α → Bool) (xs : List α) : (List.range xs.length).any (atF f xs) = xs.any f := by
  rw [Bool.eq_iff_iff, List.any_eq_true, List.any_eq_true]
  constructor
  · rintro ⟨j, hj, h⟩
    have hj' := List.mem_range.mp hj
    rw [atF_eq hj'] at h
    exact ⟨_, List.getElem_mem hj', h⟩
  · rintro ⟨b, hb, h⟩
    obtain ⟨j, hj, rfl⟩ := List.getElem_of_mem hb
    exact ⟨j, List.mem_range.mpr hj, by rw [atF_eq hj]; exact h⟩
theorem all_atF {α : Type} (f : α → Bool) (xs : List α) : (List.range xs.length).all (atF f xs) = xs.all f := by
  rw [Bool.eq_iff_iff, List.all_eq_true, List.all_eq_true]
  constructor
  · intro h b hb
    obtain ⟨j, hj, rfl⟩ := List.getElem_of_mem hb
    have := h j (List.mem_range.mpr hj)
    rwa [atF_eq hj] at this
  · intro h j hj
    have hj' := List.mem_range.mp hj
    rw [atF_eq hj']
    exact h _ (List.getElem_mem hj')
end
section
variable {X : Cx} {C : Ct} {Γ : List Sl} {tg iter elt : Expr} {scope : Scope} {own : List (Str × Nat)} {gpos : Pos}
/-- the generator stands ready -/
def Rdy (X : Cx) (C : Ct) (pins : List (Addr × Obj)) (σ : L2.St) (H : Hp) (bs : List Bool) (u : Value) (s' : Shared) : Prop :=
  ∃ (Y : Cx) (pins' : List (Addr × Obj)) (vs : List Nat) (fp : List Addr) (tn : Nat → Heap → Prop) (Cond : Hp → Prop) (f : Nat → Bool) (a : Addr) (g : Nat) (oa : Obj), Y.prog = X.prog ∧ Y.w = X.w ∧ u = .ref a ∧ (∀ h : Heap, h.get? a = some oa → h.IsGen a g) ∧ (a, oa) ∈ pins' ∧
    GS Y pins' σ vs fp tn Cond bs.length f X.A.in1.in1 a g 0 s' ∧ (∀ i (h : i < bs.length), f i = bs[i]) ∧ ∀ s'', EndB Y pins' σ vs Cond s'' → ∃ H', Inv X pins σ H' s'' ∧ Ext C.W H H' ∧ C.W.ok H'
theorem room_gen {A : Around} {k : Nat} {g : Expr} {it : Value} {env : Env} (hr : Room (k + 1) A) : Room k (A.in1.in1.over (.compLoop g 0 it .none env) []) := by
  have h1 := hr.dp
  have h2 := hr.un
  have hw : (Code.compLoop g 0 it .none env).weight ≤ 1 := by
    unfold Code.weight
    simp [Code.frames, Code.isCreation, Code.isGuard, Code.isCaller]
    split <;> omega
  have hu : (Code.compLoop g 0 it .none env).cUnits ≤ 3 := by
    simp [Code.cUnits, Code.frames]
    split <;> omega
  refine ⟨hr.hd, ?_, ?_⟩
  · show A.depth + frameCount ([] : List (Code × Pos)) + (Code.compLoop g 0 it .none env).weight + 3 * k + 5 < _
    have : frameCount ([] : List (Code × Pos)) = 0 := rfl
    omega
  · show A.units + 1 + 1 + unitsOf ([] : List (Code × Pos)) + (Code.compLoop g 0 it .none env).cUnits + 16 * k + 200 < _
    have : unitsOf ([] : List (Code × Pos)) = 0 := rfl
    omega
theorem gen_made {α : Type} {k : Nat} {c Pt : Addr} (en : α → PD) (f : α → Bool) (xs : List α) (hN : X.N.Nodup) (hi : IV X C tg iter Γ (xs.map en)) (ok : BlkOk X.N X.env.scope scope own) (nc : ∀ y ∈ scope.names, y.2 ≠ .cell) (dot : scope.names.lookup (".0" : Str) = some NameKind.local) (hco : scope.isCoroutine = false)
    (T : TabW C.W X.base X.mg c Pt) (hcode : X.env.code = .ref c) (hr : Room (k + 1) X.A) (hc : X.calm = true) (hf : ∀ x, genFold iter X.env x = pure x)
    (hb : ∀ x ∈ xs, ∃ Γ2 ws, (∀ i ∈ ws, i ∈ own.map (·.2)) ∧ ∀ A' s H Ca code fp, Room k A' → GV (gk X A' s H scope Ca code fp) C tg (wipeG Γ (own.map (·.2))) (en x) Γ2 ws ∧ EV (gk X A' s H scope Ca code fp) C elt Γ2 (.bool (f x)))
    (hK : C.K = X.K) {P : Addr → Bool} {pins : List (Addr × Obj)} {s : Shared} {σ : L2.St} {H : Hp} (o : Ok C P H σ Γ) (I : Inv X pins σ H s) {Q : Value → Shared → Prop} (hQ : ∀ u s', Rdy X C pins σ H (xs.map f) u s' → Q u s') :
    wpAny (model X.prog X.w) X.A (eval (.GeneratorExp elt [⟨tg, iter, [], 0⟩] scope gpos) X.env) Q X.xe s := by
  have free : ∀ y ∈ scope.names, y.2 = .free → ∃ c, X.env.cells.lookup y.1 = some c := fun y hy e => by
    rcases ok.free y hy e with z | z
    · exact I.ok.has _ (.inl z)
    · exact I.ok.has _ (.inr z)
  refine wpAny_GeneratorExp_make hco (closure_ok free) nc dot ok.kind hr.depth ?_ hf
  refine thn (hi hK P σ H o (fun J H' => ∃ Src, Ext C.W H H' ∧ C.W.ok H' ∧ JD C J (xs.map en) Src ∧ Src (msk P H')) (fun J Src H' e1 k1 jd sr => ⟨Src, e1, k1, jd, sr⟩) pins s I) fun xv s1 h1 => thn h1 fun itv s2 h2 => ?_
  obtain ⟨it, fp, tn, J, H2, rfl, I2, Tn, t2, f2, Src, e2, k2, jd, sr⟩ := h2
  refine ⟨I2.nolimit, gen_code I2 T hcode k2 fun code s3 H3 I3 sz3 hH3 k3 kp3 => ?_⟩
  obtain ⟨bm, ob, b1, b2, b3, b4, b5, b6, b7, b8⟩ := T.tb.bm
  have hPw : C.W.wob Pt := T.wob
  have hPt : H2 Pt ≠ none := C.W.dom H2 Pt k2 hPw
  refine wpAny_builtinsFor (m := X.mg) (by rw [I3.ok.glob]; exact I3.mod.glob.keeps I3.bk) b1 b2 (I3.bk _ _ b5) b6 b7 b8 ?_
  intro h' hn' hs'
  have e23 : Ext C.W H2 H3 := fun b u nb hb => by rw [hH3 b fun z => nb (by rw [z]; exact hPw)]; exact hb
  have e3 : Ext C.W H H3 := e2.trans e23
  have o2 := o.step e2 k2
  have sr3 : Src (msk P H3) := jd.mono _ _ (o2.le e23) sr
  have nfp : ∀ b ∈ fp, b ≠ Pt := fun b hb z => hPt (by rw [← z]; exact (f2 b hb).1)
  have f3 : ∀ b ∈ fp, FpOk X pins H3 b ∧ b < s3.heap.objs.size := fun b hb => by
    obtain ⟨z, r⟩ := f2 b hb
    refine ⟨⟨by rw [hH3 b (nfp b hb)]; exact z, r⟩, ?_⟩
    obtain ⟨ob', eo, _⟩ := Tn.obj _ _ t2 b hb
    exact Nat.lt_of_lt_of_le (Heap.lt_size eo) sz3
  have t3 : tn 0 s3.heap := Tn.keep _ _ _ t2 fun b hb ob' e => kp3 b ob' (nfp b hb) e
  have hsz : h'.objs.size = s3.heap.objs.size + 1 := by rw [hs'.1, Heap.size_push]
  have kp' : ∀ b u, s3.heap.get? b = some u → h'.get? b = some u := fun b u e => hs'.extBut b u (Nat.ne_of_lt (Heap.lt_size e)) (Heap.get?_push_of_some _ e)
  generalize hoa : ({ cls := .type "generator", data := .fields #[.int s3.gens.size 0, .str "<genexpr>" (s3.toks + 1), .str (X.env.qual ++ "<genexpr>") (s3.toks + 1 + 1)] } : Obj) = oa
  have kp5 : ∀ b u, s3.heap.get? b = some u → (h'.push oa).get? b = some u := fun b u e => Heap.get?_push_of_some _ (kp' b u e)
  have isg : ∀ h : Heap, h.get? h'.objs.size = some oa → h.IsGen h'.objs.size s3.gens.size := fun h e => ⟨oa, _, _, e, by rw [← hoa], by rw [← hoa], by rw [← hoa]⟩
  have ga : (h'.push oa).get? h'.objs.size = some oa := Heap.get?_push_size _ (by rw [← hoa]; rfl)
  let A' : Around := X.A.in1.in1.over (.compLoop (.GeneratorExp elt [⟨tg, iter, [], 0⟩] scope gpos) 0 (.ref it) .none (gEnv X scope s3.heap.objs.size code)) []
  have hrA : Room k A' := room_gen hr
  let Y : Cx := gk X A' s3 H3 scope s3.heap.objs.size code fp
  have hfrA : A'.frames = some (gEnv X scope s3.heap.objs.size code :: X.stack) := by
    have e : A'.frames = pushEnvs (Code.envs (.compLoop (.GeneratorExp elt [⟨tg, iter, [], 0⟩] scope gpos) 0 (.ref it) .none (gEnv X scope s3.heap.objs.size code))) (pushEnvs (envsOf []) X.A.frames) := rfl
    rw [e, I.ok.frames]
    rfl
  let Cond : Hp → Prop := fun H' => Ext C.W H H' ∧ C.W.ok H' ∧ Src (msk P H')
  have hgo : ∀ i H', i < (xs.map f).length → Cond H' → J.go i H' ∧ ∀ x H'', J.yld i H' x H'' → wG Y tg x (L2.wipe σ (own.map (·.2))) H'' fun σ2 H2 => L2.wipe σ2 (own.map (·.2)) = L2.wipe σ (own.map (·.2)) ∧ wE Y elt σ2 H2 fun v H3 => v = .bl (atF f xs i) ∧ Cond H3 := by
    rintro i H' hi' ⟨c1, c2, c3⟩
    have hlt : i < xs.length := by rw [List.length_map] at hi'; exact hi'
    have oi := o.step c1 c2
    have hx : (xs.map en)[i]? = some (en xs[i]) := by rw [List.getElem?_map, List.getElem?_eq_getElem hlt]; rfl
    obtain ⟨g1, g2⟩ := jd.go P H' i _ oi.md c3 hx
    refine ⟨g1, fun x H'' y => ?_⟩
    obtain ⟨y1, y2, y3⟩ := g2 x H'' y
    obtain ⟨Γ2, ws, hws, hbx⟩ := hb xs[i] (List.getElem_mem hlt)
    obtain ⟨hG, hE⟩ := hbx A' s3 H3 s3.heap.objs.size code fp hrA
    have oj := oi.step y1 y2
    refine hG hK P _ H'' x (oj.wipe _) y3 _ fun σ2 o2 w2 => ⟨(w2 _ hws).trans wipe_idem, ?_⟩
    refine hE hK P σ2 H'' o2 _ fun v H4 x1 x2 x3 => ?_
    cases x3
    rw [atF_eq hlt]
    have L := Le.trans (oi.le y1) (oj.le x1)
    exact ⟨rfl, c1.trans (y1.trans x1), x2, jd.mono _ _ L c3⟩
  have hstop : ∀ H', Cond H' → J.stop (xs.map f).length H' := fun H' cc => by
    have := jd.stop P H' (o.step cc.1 cc.2.1).md cc.2.2
    rw [List.length_map] at this ⊢
    exact this
  have hbare := I3.bare.push (g := .fresh (.compStart (.GeneratorExp elt [⟨tg, iter, [], 0⟩] scope gpos) 0 (.ref it) .none (gEnv X scope s3.heap.objs.size code))) rfl
  have nfa : ∀ p ∈ [(h'.objs.size, oa)], ∀ b ∈ fp, p.1 ≠ b := fun p hp b hb z => by
    rw [List.mem_singleton] at hp
    subst hp
    have h1 := (f3 b hb).2
    have h2 : h'.objs.size = b := z
    have h3 : h'.objs.size < s3.heap.objs.size := by rw [h2]; exact h1
    rw [hsz] at h3
    exact absurd (Nat.lt_of_succ_lt h3) (Nat.lt_irrefl _)
  refine hQ _ _ ⟨Y, [(h'.objs.size, oa)], own.map (·.2), fp, tn, Cond, atF f xs, h'.objs.size, s3.gens.size, oa, rfl, rfl, rfl, isg, List.mem_singleton.mpr rfl, ⟨isg _ ga, I3.nolimit.keeps kp5, hbare, _, Array.getElem?_push_size .., fun s'' e1 e2 e3' => ⟨rfl, ?_⟩⟩, fun i h => ?_, fun s'' he => ?_⟩
  · refine seg_startG (X := Y) (B := X.A.in1.in1) rfl hc rfl rfl hco Tn nfa rfl hgo hstop s'' s'' ⟨H3, ?_, ?_, fun b hb => (f3 b hb).1.1, e3, k3, sr3⟩
    · have hp5 : s''.heap = h'.push oa := e1
      refine gen_start I3 ok nc hN f3 hr.hd hfrA e2 e3' (fun b u e => by rw [hp5]; exact kp5 b u e) (m := fun y => if y = ".0" then some (.ref it) else none) (by rw [hp5]; exact hn'.push _) fun p hp => ?_
      rw [List.mem_singleton] at hp
      subst hp
      refine ⟨by rw [hp5]; exact ga, I3.hok.fresh (by show s3.heap.objs.size ≤ h'.objs.size; omega), by show h'.objs.size ≠ _; omega, by show s3.heap.objs.size ≤ h'.objs.size; omega, fun v => by rw [← hoa]; exact fun z => nomatch z⟩
    · rw [e1]
      exact Tn.keep _ _ _ t3 fun b _ u e => kp5 b u e
  · have hlt : i < xs.length := by rw [List.length_map] at h; exact h
    rw [atF_eq hlt, List.getElem_map]
  · obtain ⟨H', IY, c1, c2, c3⟩ := he
    exact ⟨H', I3.call' (ch := fp) IY.os IY.base IY.hok IY.bare fun b hb => ⟨(f3 b hb).1.2.2.2.1, (f3 b hb).1.2.1, (f3 b hb).1.2.2.2.2.1, (f3 b hb).1.2.2.2.2.2⟩, c1, c2⟩
end
end RT
end
section
set_option Elab.async false
set_option linter.all false
set_option maxRecDepth 100000
/-! A12: any, all of a generator expression, as rules. -/
namespace RT
open PySem PySem.Spec PyProof.Rows L2
section
variable {X : Cx} {C : Ct} {Γ : List Sl} {tg iter elt : Expr} {scope : Scope} {own : List (Str × Nat)} {gpos p pos : Pos}
theorem boot_all' : bootBuiltins ("all" : Str) = some (.builtin "all") := by decide +kernel
theorem boot_any' : bootBuiltins ("any" : Str) = some (.builtin "any") := by decide +kernel
theorem range_any {bs : List Bool} {f : Nat → Bool} (h : ∀ i (hi : i < bs.length), f i = bs[i]) : (List.range bs.length).any f = bs.any id := by
  rw [← any_atF id bs, Bool.eq_iff_iff, List.any_eq_true, List.any_eq_true]
  constructor <;> rintro ⟨j, hj, e⟩ <;> refine ⟨j, hj, ?_⟩ <;> have hj' := List.mem_range.mp hj
  · rw [atF_eq hj', ← h j hj']; exact e
  · rw [atF_eq hj', ← h j hj'] at e; exact e
theorem range_all {bs : List Bool} {f : Nat → Bool} (h : ∀ i (hi : i < bs.length), f i = bs[i]) : (List.range bs.length).all f = bs.all id := by
  rw [← all_atF id bs, Bool.eq_iff_iff, List.all_eq_true, List.all_eq_true]
  constructor <;> intro e j hj <;> have hj' := List.mem_range.mp hj <;> have e' := e j hj
  · rw [atF_eq hj', ← h j hj']; exact e'
  · rw [atF_eq hj', ← h j hj'] at e'; exact e'
theorem rdy_any {pins : List (Addr × Obj)} {σ : L2.St} {H : Hp} {bs : List Bool} {u : Value} {s : Shared} {Q : Value → Shared → Prop} {E : Value → Shared → Prop} (hh : X.A.handled = none) (hd : X.A.depth < recursionLimit) (h : Rdy X C pins σ H bs u s)
    (hQ : ∀ s' H', Inv X pins σ H' s' → Ext C.W H H' → C.W.ok H' → Q (.bool (bs.any id)) s') : wpAny (model X.prog X.w) X.A (call (.builtin "any") [u]) Q E s := by
  obtain ⟨Y, pins', vs, fp, tn, Cond, f, a, g, oa, hp, hw, rfl, hoa, hpa, G, hf, back⟩ := h
  refine call_function_tree F.kind_any F.plain_any F.entry_any (F.args_any1 _) ?_
  unfold Builtin.«any»
  refine wpAny_bind (m := oneArg "any" _) (wpAny_pure (wpAny_bind (wpAny_pyIter_gen G.gen ?_)))
  refine wpAny_pure ⟨plainId_quiet F.plain_any_loop _, ?_⟩
  rw [← hp, ← hw]
  refine codeAny_mono (any_loopG hh hd hoa hpa bs.length 0 s (Nat.sub_zero _) (Nat.zero_le _) G) fun r s' hr => ?_
  obtain ⟨rfl, he⟩ := hr
  obtain ⟨H', I', e1, e2⟩ := back s' he
  rw [List.drop_zero, range_any hf]
  exact hQ s' H' I' e1 e2
theorem rdy_all {pins : List (Addr × Obj)} {σ : L2.St} {H : Hp} {bs : List Bool} {u : Value} {s : Shared} {Q : Value → Shared → Prop} {E : Value → Shared → Prop} (hh : X.A.handled = none) (hd : X.A.depth < recursionLimit) (h : Rdy X C pins σ H bs u s)
    (hQ : ∀ s' H', Inv X pins σ H' s' → Ext C.W H H' → C.W.ok H' → Q (.bool (bs.all id)) s') : wpAny (model X.prog X.w) X.A (call (.builtin "all") [u]) Q E s := by
  obtain ⟨Y, pins', vs, fp, tn, Cond, f, a, g, oa, hp, hw, rfl, hoa, hpa, G, hf, back⟩ := h
  refine call_function_tree F.kind_all F.plain_all F.entry_all (F.args_all1 _) ?_
  unfold Builtin.«all»
  refine wpAny_bind (m := oneArg "all" _) (wpAny_pure (wpAny_bind (wpAny_pyIter_gen G.gen ?_)))
  refine wpAny_pure ⟨plainId_quiet F.plain_all_loop _, ?_⟩
  rw [← hp, ← hw]
  refine codeAny_mono (all_loopG hh hd hoa hpa bs.length 0 s (Nat.sub_zero _) (Nat.zero_le _) G) fun r s' hr => ?_
  obtain ⟨rfl, he⟩ := hr
  obtain ⟨H', I', e1, e2⟩ := back s' he
  rw [List.drop_zero, range_all hf]
  exact hQ s' H' I' e1 e2
/-- what a generator expression's scope has to be -/
structure GenOk (X : Cx) (scope : Scope) (own : List (Str × Nat)) : Prop where
  blk : BlkOk X.N X.env.scope scope own
  nc : ∀ y ∈ scope.names, y.2 ≠ .cell
  dot : scope.names.lookup (".0" : Str) = some NameKind.local
  co : scope.isCoroutine = false
def genC (N : List Str) (sc scope : Scope) (own : List (Str × Nat)) : Bool := blkC N sc scope own && (scope.names.all fun y => match y.2 with | .cell => false | _ => true) && (match scope.names.lookup (".0" : Str) with | some .local => true | _ => false) && !scope.isCoroutine
theorem genOk_by (h : genC X.N X.env.scope scope own = true) : GenOk X scope own := by
  unfold genC at h
  simp only [Bool.and_eq_true, List.all_eq_true] at h
  obtain ⟨⟨⟨h1, h2⟩, h3⟩, h4⟩ := h
  refine ⟨blkOk_by h1, fun y hy e => ?_, ?_, by simpa using h4⟩
  · have := h2 y hy
    rw [e] at this
    cases this
  · split at h3
    · assumption
    · cases h3
theorem ev_anyG {α : Type} {k : Nat} {c Pt : Addr} (en : α → PD) (f : α → Bool) (xs : List α) (hN : X.N.Nodup) (hm : X.mg "any" = none) (hi : IV X C tg iter Γ (xs.map en)) (S : GenOk X scope own) (T : TabW C.W X.base X.mg c Pt) (hcode : X.env.code = .ref c) (hr : Room (k + 1) X.A)
    (hb : ∀ x ∈ xs, ∃ Γ2 ws, (∀ i ∈ ws, i ∈ own.map (·.2)) ∧ ∀ A' s H Ca code fp, Room k A' → GV (gk X A' s H scope Ca code fp) C tg (wipeG Γ (own.map (·.2))) (en x) Γ2 ws ∧ EV (gk X A' s H scope Ca code fp) C elt Γ2 (.bool (f x)))
    (hc : X.calm = true := by rfl) (hf : ∀ x, genFold iter X.env x = pure x := by intro _; rfl) (hg : Gl X "any" := by rfl)
    (he : starEach [.GeneratorExp elt [⟨tg, iter, [], 0⟩] scope gpos] X.env = (false, eval (.GeneratorExp elt [⟨tg, iter, [], 0⟩] scope gpos) X.env) :: starEach [] X.env := by rfl) :
    EV X C (.Call (.Name "any" p) [.GeneratorExp elt [⟨tg, iter, [], 0⟩] scope gpos] [] pos) Γ (.bool (xs.any f)) := .mk fun hK P σ H o Q q pins s I => by
  refine wpAny_Call_Name_kw (ld_blt I hg hm boot_any' ?_)
  refine PyProof.Rows.callWith_builtin1 ?_ he (by rfl)
  rw [he]
  show wpAny _ _ (spliced ((false, eval (.GeneratorExp elt [⟨tg, iter, [], 0⟩] scope gpos) X.env) :: backTo pos (starEach [] X.env))) _ _ s
  refine Calls.spliced_cons (gen_made en f xs hN hi S.blk S.nc S.dot S.co T hcode hr hc hf hb hK o I fun u s' hR => Calls.spliced_nil ?_)
  refine rdy_any hr.hd hr.depth hR fun s2 H' I' e1 k1 => ⟨.bl _, H', I', rfl, ?_⟩
  have e : (xs.map f).any id = xs.any f := by rw [List.any_map]; rfl
  rw [e]
  exact q _ H' e1 k1 (.bl _)
theorem ev_allG {α : Type} {k : Nat} {c Pt : Addr} (en : α → PD) (f : α → Bool) (xs : List α) (hN : X.N.Nodup) (hm : X.mg "all" = none) (hi : IV X C tg iter Γ (xs.map en)) (S : GenOk X scope own) (T : TabW C.W X.base X.mg c Pt) (hcode : X.env.code = .ref c) (hr : Room (k + 1) X.A)
    (hb : ∀ x ∈ xs, ∃ Γ2 ws, (∀ i ∈ ws, i ∈ own.map (·.2)) ∧ ∀ A' s H Ca code fp, Room k A' → GV (gk X A' s H scope Ca code fp) C tg (wipeG Γ (own.map (·.2))) (en x) Γ2 ws ∧ EV (gk X A' s H scope Ca code fp) C elt Γ2 (.bool (f x)))
    (hc : X.calm = true := by rfl) (hf : ∀ x, genFold iter X.env x = pure x := by intro _; rfl) (hg : Gl X "all" := by rfl)
    (he : starEach [.GeneratorExp elt [⟨tg, iter, [], 0⟩] scope gpos] X.env = (false, eval (.GeneratorExp elt [⟨tg, iter, [], 0⟩] scope gpos) X.env) :: starEach [] X.env := by rfl) :
    EV X C (.Call (.Name "all" p) [.GeneratorExp elt [⟨tg, iter, [], 0⟩] scope gpos] [] pos) Γ (.bool (xs.all f)) := .mk fun hK P σ H o Q q pins s I => by
  refine wpAny_Call_Name_kw (ld_blt I hg hm boot_all' ?_)
  refine PyProof.Rows.callWith_builtin1 ?_ he (by rfl)
  rw [he]
  show wpAny _ _ (spliced ((false, eval (.GeneratorExp elt [⟨tg, iter, [], 0⟩] scope gpos) X.env) :: backTo pos (starEach [] X.env))) _ _ s
  refine Calls.spliced_cons (gen_made en f xs hN hi S.blk S.nc S.dot S.co T hcode hr hc hf hb hK o I fun u s' hR => Calls.spliced_nil ?_)
  refine rdy_all hr.hd hr.depth hR fun s2 H' I' e1 k1 => ⟨.bl _, H', I', rfl, ?_⟩
  have e : (xs.map f).all id = xs.all f := by rw [List.all_map]; rfl
  rw [e]
  exact q _ H' e1 k1 (.bl _)
end
end RT
end
section
set_option Elab.async false
set_option linter.all false
set_option maxRecDepth 100000
/-! A13: xs.remove(x) of data. -/
namespace RT
open PySem PySem.Spec PyProof.Rows L2
def rRemD (X : Cx) : V → List V → Hp → VK → Prop := fun x xs H Q => ∃ (l : Addr) (y : V) (vs : List V) (ds : List PD) (d : PD) (j : Nat), x = .ref l ∧ xs = [y] ∧ H l = some (.lst vs) ∧ DpAll X.K H vs ds ∧ Dp X.K H y d ∧
  SeqAt.shaped (.list ds) = true ∧ SeqAt.shaped d = true ∧ SeqAt.dataPlace ds d = some j ∧ Q .non (upd H l (.lst (vs.eraseIdx j)))
theorem mt_removeD {X : Cx} (hu : X.A.units + 65 < cLine) : MtR X "list.remove" (rRemD X) := by
  intro pins s σ H x xs v us Q I rx rxs h
  obtain ⟨l, y, vs, ds, d, j, rfl, rfl, hH, hvs, hy, sl, sd, hj, q⟩ := h
  cases rx
  cases rxs with
  | cons ry rt =>
    rename_i uy ut
    cases rt
    obtain ⟨z, its, n, r, hl, e0⟩ := I.lstM hH
    obtain ⟨bs, r1⟩ := Dp.reads I d y uy hy ry
    obtain ⟨as, r2⟩ := Dp.readsAll I ds vs its hvs r
    have hroom : X.A.units + 1 + min (PyData.depthAll ds) d.depth < cLine := room_in_shaped sd hu
    have hsz : its.toArray.size ≤ sizeLine := by rw [List.size_toArray, ← hl]; exact z
    refine SeqAt.remove_list_data (vs := its.toArray) (d := d) (xs := ds) ⟨_, e0, rfl, n, rfl⟩ r2 r1 (PyData.plainAll_of_canLay0 ds (SeqAt.canLay_of_shaped sl)) (PyData.plain_of_canLay0 d (SeqAt.canLay_of_shaped sd)) hroom hj hsz ?_
    refine ⟨.non, _, I.lset (its' := its.eraseIdx j) (ys := vs.eraseIdx j) hH e0 ?_ (r.eraseIdx j) ?_, rfl, q⟩
    · show its.toArray.eraseIdxIfInBounds j = (its.eraseIdx j).toArray
      rw [List.eraseIdxIfInBounds_toArray]
    · exact Nat.le_trans (List.length_eraseIdx_le _ _) z
theorem DDs.eraseIdx {K : PySem.W.Frag} {H : Hp} : ∀ {ds : List PD} {vs : List V} (j : Nat), DDs K H vs ds → DDs K H (vs.eraseIdx j) (ds.eraseIdx j)
  | [], _, _, h => by cases h; exact .nil
  | d :: ds, _, 0, h => by
    cases h with
    | cons h1 h2 => exact h2
  | d :: ds, _, j + 1, h => by
    cases h with
    | cons h1 h2 => exact .cons h1 (DDs.eraseIdx j h2)
section
variable {X : Cx} {C : Ct} {Γ : List Sl} {a : Expr} {pos q2 apos cpos : Pos} {d : PD} {ds : List PD} {B : Po} {k : Nat}
theorem s1_remove (i : Nat) {xn : Str} {j : Nat} (hr : Room k X.A) (hΓ : Γ[i]? = some (.ow ds)) (ha : EV X C a Γ d) (sl : SeqAt.shaped (.list ds) = true) (sd : SeqAt.shaped d = true) (hj : SeqAt.dataPlace ds d = some j) (hB : B.nx (Γ.set i (.ow (ds.eraseIdx j)))) (hN : X.N[i]? = some xn := by rfl) (hv : Vis X.env.scope xn := by first | exact Or.inl rfl | exact Or.inr (Or.inl rfl) | exact Or.inr (Or.inr rfl)) (hd : (xn == ("__debug__" : Str)) = false := by decide) (hcd : (xn == ("__classdict__" : Str)) = false := by decide)
    (hbase : attributeBase (.Name xn q2) "remove" X.env (eval (.Name xn q2) X.env) = eval (.Name xn q2) X.env := by rfl)
    (hfew : ((backTo cpos (starEach [a] X.env)).all (fun x => !x.1) && (backToKw cpos (keywordEach [] X.env)).all (fun x => x.1.isSome)
      && decide ([a].length + ([] : List Keyword).length + (if ([] : List Keyword).isEmpty then 0 else 1) < 30)) = true := by rfl)
    (hline : (apos.endLine == cpos.line) = true := by rfl) (hs : starEach [a] X.env = (false, eval a X.env) :: starEach [] X.env := by rfl) (hplain : (backTo cpos (starEach [] X.env)).any (·.1) = false := by rfl)
    (hsw : swapsWith (.Call (.Attribute (.Name xn q2) "remove" apos) [a] [] cpos) none pos.line X.env = pure false := by rfl) : S1 X C (.Expr (.Call (.Attribute (.Name xn q2) "remove" apos) [a] [] cpos) pos) Γ B := .mk fun hK =>
  S1.run (s1_meth (vs2 := []) (ds1 := ds.eraseIdx j) i PySem.F.plainAttrs_list PySem.F.slot_list_remove PySem.F.type_list_remove (mt_removeD (by have := hr.un; omega)) hΓ (evs_one ha hs) (fun P H p vs us z1 z2 hp => by
    cases z1 with
    | cons y1 y2 =>
      cases y2
      rw [hK] at y1 z2
      have sl' : PyData.hasDictAll ds = false := by
        have := PyData.hasDict_of_canLay _ (SeqAt.canLay_of_shaped sl)
        simpa only [PyData.hasDict] using this
      exact ⟨vs.eraseIdx j, by rw [hK]; exact z2.eraseIdx j, fun Q q => ⟨p, _, vs, ds, d, j, rfl, rfl, hp, (z2.mono msk_le).dp sl', (y1.mono msk_le).dp (shaped_nd sd), sl, sd, hj, q⟩⟩) hB hN hv hd hcd hbase hfew hline hs hplain hsw) hK
end
theorem place_map {α : Type} [DecidableEq α] {en : α → PD} (he : ∀ a b, PyData.eqv (en a) (en b) = decide (a = b)) {x : α} : ∀ {xs : List α}, x ∈ xs → ∃ j, SeqAt.dataPlace (xs.map en) (en x) = some j ∧ (xs.map en).eraseIdx j = (xs.erase x).map en
  | [], h => by cases h
  | y :: ys, h => by
    by_cases e : y = x
    · subst e
      refine ⟨0, ?_, ?_⟩
      · unfold SeqAt.dataPlace
        rw [List.map_cons, List.findIdx?_cons, he]
        simp
      · rw [List.erase_cons_head]; rfl
    · have hm : x ∈ ys := (List.mem_cons.mp h).resolve_left fun z => e z.symm
      obtain ⟨j, h1, h2⟩ := place_map he hm
      refine ⟨j + 1, ?_, ?_⟩
      · unfold SeqAt.dataPlace at h1 ⊢
        rw [List.map_cons, List.findIdx?_cons, he, decide_eq_false e]
        simp [h1]
      · rw [List.erase_cons_tail (by simpa using e)]
        show en y :: (ys.map en).eraseIdx j = _
        rw [h2]; rfl
end RT
end
section
set_option Elab.async false
set_option linter.all false
set_option maxRecDepth 100000
/-! A14: the def's own list walked, while it stays its own. -/
namespace RT
open PySem PySem.Spec PyProof.Rows L2
abbrev opqD (a : Addr) : PD := .dict [(.none, .int ((a : Nat) : Int))]
theorem DD.opq_at {K : PySem.W.Frag} {H : Hp} {v : V} {a : Addr} (h : DD K H v (opqD a)) : v = .ref a := by
  generalize hd : opqD a = d at h
  cases h with
  | opq b =>
    have e1 := PyData.dict.inj hd
    have e2 : ((a : Nat) : Int) = ((b : Nat) : Int) := by
      have := congrArg (fun (l : List (PD × PD)) => match l with | [(_, .int i)] => i | _ => 0) e1
      simpa using this
    have e3 : a = b := by exact_mod_cast e2
    rw [e3]
  | frz hl =>
    rename_i ns
    cases ns with
    | nil => cases hd
    | cons n ns => cases hd
  | _ => cases hd
/-- .. and the list p with the values vs -/
def Wo.lst (W : Wo) (p : Addr) (vs : List V) : Wo where
  wob a := W.wob a ∨ a = p
  ok H := W.ok H ∧ H p = some (.lst vs)
  dom H a h z := z.elim (W.dom H a h.1) fun e => by rw [e, h.2]; exact fun w => nomatch w
  loc H H' k h := ⟨W.loc H H' (fun a z => k a (.inl z)) h.1, by rw [k p (.inr rfl)]; exact h.2⟩
def Ct.lst (C : Ct) (p : Addr) (vs : List V) : Ct := ⟨C.K, C.W.lst p vs, C.H0, add1 C.P0 p⟩
section
variable {C : Ct} {P P' : Addr → Bool} {H H' : Hp} {σ σ' : L2.St} {Γ Γ' : List Sl} {k : Nat} {p : Addr} {vs : List V} {ds : List PD}
theorem Ok.borrow (o : Ok C P H σ Γ) (hΓ : Γ[k]? = some (.ow ds)) : ∃ p vs, C.P0 p = false ∧ C.H0 p = none ∧ DDs C.K (msk P H) vs ds ∧ H p = some (.lst vs) ∧ Ok (C.lst p vs) P H σ (Γ.set k (.pu (opqD p))) := by
  obtain ⟨p, vs, h1, h2, h3, h4, h5⟩ := o.sl k _ hΓ
  have hk : k < Γ.length := (List.getElem?_eq_some_iff.mp hΓ).1
  have hn : C.H0 p = none := (o.new p h2).resolve_left fun z => by rw [h3] at z; cases z
  refine ⟨p, vs, h3, hn, h5, h4, fun a u nb e => o.ext a u (fun z => nb (.inl z)) e, ⟨o.wok, h4⟩, o.dom, fun a z => z.elim (fun w => add1_of (o.wob a w)) fun w => by rw [w]; exact add1_self, fun a z => ?_, fun a z => (o.new a z).elim (fun w => .inl (add1_of w)) .inr, by rw [List.length_set]; exact o.len, fun j x e => ?_, fun i j es es' q e1 e2 e3 e4 => ?_⟩
  · by_cases e : a = p
    · rw [e]; exact h2
    · have z' : add1 C.P0 p a = true := z
      unfold add1 at z'
      rw [decide_eq_false e, Bool.false_or] at z'
      exact o.sub a z'
  · by_cases hj : k = j
    · subst hj
      rw [List.getElem?_set_self hk] at e
      cases e
      exact ⟨_, h1, .opq p⟩
    · rw [List.getElem?_set_ne hj] at e
      have z := o.sl j x e
      cases x with
      | no => trivial
      | pu d => exact z
      | ow es =>
        obtain ⟨q, us, z1, z2, z3, z4, z5⟩ := z
        refine ⟨q, us, z1, z2, ?_, z4, z5⟩
        show add1 C.P0 p q = false
        unfold add1
        rw [z3, Bool.or_false]
        exact decide_eq_false fun w => hj (o.ap k j ds es p hΓ e h1 (by rw [← w]; exact z1))
  · have hi : k ≠ i := fun z => by subst z; rw [List.getElem?_set_self hk] at e1; cases e1
    have hj : k ≠ j := fun z => by subst z; rw [List.getElem?_set_self hk] at e2; cases e2
    rw [List.getElem?_set_ne hi] at e1
    rw [List.getElem?_set_ne hj] at e2
    exact o.ap i j es es' q e1 e2 e3 e4
theorem Ext.unlst {W : Wo} (h : Ext (W.lst p vs) H H') (hp : H p = none) : Ext W H H' := fun a u nb e => h a u (fun z => z.elim nb fun w => by rw [w, hp] at e; cases e) e
theorem Ok.giveback (o : Ok (C.lst p vs) P' H' σ' Γ') (hk : Γ'[k]? = some (.pu (opqD p))) (h0 : C.H0 p = none) (hp0 : C.P0 p = false) (hw : ∀ a, C.W.wob a → C.P0 a = true) (z : DDs C.K (msk P' H') vs ds) : Ok C P' H' σ' (Γ'.set k (.ow ds)) := by
  have hl : k < Γ'.length := (List.getElem?_eq_some_iff.mp hk).1
  have h1 : σ'[k]? = some (some (.ref p)) := by
    obtain ⟨v, e1, e2⟩ := o.sl k _ hk
    rw [e2.opq_at] at e1
    exact e1
  have hP : P' p = true := o.sub p add1_self
  refine ⟨Ext.unlst o.ext h0, o.wok.1, o.dom, hw, fun a w => o.sub a (add1_of w), fun a w => ?_, by rw [List.length_set]; exact o.len, fun j x e => ?_, fun i j es es' q e1 e2 e3 e4 => ?_⟩
  · rcases o.new a w with y | y
    · have y' : add1 C.P0 p a = true := y
      unfold add1 at y'
      rcases Bool.or_eq_true_iff.mp y' with y' | y'
      · exact .inr (by rw [of_decide_eq_true y']; exact h0)
      · exact .inl y'
    · exact .inr y
  · by_cases hj : k = j
    · subst hj
      rw [List.getElem?_set_self hl] at e
      cases e
      exact ⟨p, vs, h1, hP, hp0, o.wok.2, z⟩
    · rw [List.getElem?_set_ne hj] at e
      have y := o.sl j x e
      cases x with
      | no => trivial
      | pu d => exact y
      | ow es =>
        obtain ⟨q, us, z1, z2, z3, z4, z5⟩ := y
        refine ⟨q, us, z1, z2, ?_, z4, z5⟩
        have z3' : add1 C.P0 p q = false := z3
        unfold add1 at z3'
        exact (Bool.or_eq_false_iff.mp z3').2
  · have key : ∀ {m : Nat} {es : List PD}, k ≠ m → Γ'[m]? = some (.ow es) → σ'[m]? ≠ some (some (.ref p)) := fun {m es} _ e1 e2 => by
      obtain ⟨q, us, z1, _, z3, _⟩ := o.sl m _ e1
      rw [e2] at z1
      cases z1
      have z3' : add1 C.P0 p p = false := z3
      rw [add1_self] at z3'
      cases z3'
    by_cases hi : k = i
    · by_cases hj : k = j
      · rw [← hi, ← hj]
      · subst hi
        rw [h1] at e3
        cases e3
        rw [List.getElem?_set_ne hj] at e2
        exact absurd e4 (key hj e2)
    · by_cases hj : k = j
      · subst hj
        rw [h1] at e4
        cases e4
        rw [List.getElem?_set_ne hi] at e1
        exact absurd e3 (key hi e1)
      · rw [List.getElem?_set_ne hi] at e1
        rw [List.getElem?_set_ne hj] at e2
        exact o.ap i j es es' q e1 e2 e3 e4
end
section
variable {X : Cx} {C : Ct} {Γ : List Sl} {tg : Expr} {ds : List PD} {pos p2 : Pos} {B : Po} {body : List Stmt}
/-- over the def's own list at the slot k, which the body does not touch -/
theorem s1_forOwn {α : Type} (k : Nat) {xn : Str} (en : α → PD) (xs : List α) (hΓ : Γ[k]? = some (.ow (xs.map en))) (Iv : Addr → Nat → List Sl → Prop)
    (h0 : ∀ p, Iv p 0 (Γ.set k (.pu (opqD p)))) (hkeep : ∀ p i Γ', Iv p i Γ' → Γ'[k]? = some (.pu (opqD p)))
    (turn : ∀ p vs i x Γ', xs[i]? = some x → Iv p i Γ' → ∃ Γ2 ws, GV X (C.lst p vs) tg Γ' (en x) Γ2 ws ∧ SW X (C.lst p vs) body Γ2 { nx := Iv p (i + 1), ct := Iv p (i + 1), bk := fun _ => False, rt := fun _ => False }) (hd : ∀ p Γ', Iv p xs.length Γ' → B.nx (Γ'.set k (.ow (xs.map en))))
    (hN : X.N[k]? = some xn := by rfl) (hv : Vis X.env.scope xn := by first | exact Or.inl rfl | exact Or.inr (Or.inl rfl) | exact Or.inr (Or.inr rfl)) (hdb : (xn == ("__debug__" : Str)) = false := by decide) (hcd : (xn == ("__classdict__" : Str)) = false := by decide)
    (hp : PassesOwn (model X.prog X.w) X.A X.env X.xe := by exact PassesOwn.never) (hc : X.calm = true := by rfl) (hf : ∀ x, foldedSetIterable (.Name xn p2) X.env x = pure x := by intro _; rfl) : S1 X C (.For tg (.Name xn p2) body [] pos) Γ B := .mk fun hK P σ H o D f => by
  obtain ⟨p, vs, q1, q2, z, q4, oB⟩ := o.borrow hΓ
  have hKl : (C.lst p vs).K = X.K := hK
  have hsig : σ[k]? = some (some (.ref p)) := by
    obtain ⟨v, e1, e2⟩ := oB.sl k (.pu (opqD p)) (hkeep p 0 _ (h0 p))
    rw [e2.opq_at] at e1
    exact e1
  have zl : vs.length = xs.length := by rw [z.length, List.length_map]
  refine w_ps (ps_for hp hc (pi_list (pe_var hN hv hdb hcd)) pg_w pss_w hf) ⟨.ref p, hsig, p, rfl, ⟨vs, SqL.of q4⟩, fun i m σ' H' => m = xs.length - i ∧ i ≤ xs.length ∧ ∃ Γ' P', Iv p i Γ' ∧ Ok (C.lst p vs) P' H' σ' Γ' ∧ Le (msk P H) (msk P' H'), ⟨xs.length, by simp, Nat.zero_le _, _, P, h0 p, oB, Le.rfl'⟩, ?_⟩
  rintro i m σ2 H2 ⟨rfl, hi2, Γ', P', iv, o2, l2⟩
  have hp2 : H2 p = some (.lst vs) := o2.wok.2
  by_cases hlt : i < xs.length
  · have hxi : xs[i]? = some xs[i] := List.getElem?_eq_getElem hlt
    have hdi : (xs.map en)[i]? = some (en xs[i]) := by rw [List.getElem?_map, hxi]; rfl
    obtain ⟨v, hv2, zv⟩ := z.get hdi
    refine .inr ⟨⟨vs, v, SqL.of hp2, hv2⟩, fun σ' H' => ∃ Γ' P', Iv p (i + 1) Γ' ∧ Ok (C.lst p vs) P' H' σ' Γ' ∧ Le (msk P H) (msk P' H'), fun σ' H' q => ⟨xs.length - (i + 1), by omega, rfl, hlt, q⟩, fun x H3 y => ?_⟩
    obtain ⟨e3, y⟩ := y
    subst e3
    have hx := y vs (SqL.of hp2)
    rw [hv2] at hx
    cases hx
    obtain ⟨Γ2, ws, hG, hS⟩ := turn p vs i xs[i] Γ' hxi iv
    refine hG hKl P' σ2 _ v o2 (zv.mono l2) _ fun σ4 o4 _ => hS hKl P' σ4 _ o4 _ ⟨fun Γ5 P5 σ5 H5 a5 o5 l5 => ⟨Γ5, P5, a5, o5, l2.trans l5⟩, fun _ _ _ r _ _ _ => r.elim, fun _ _ _ _ a5 _ _ => a5.elim, fun Γ5 P5 σ5 H5 a5 o5 l5 => ⟨Γ5, P5, a5, o5, l2.trans l5⟩⟩
  · have e : i = xs.length := by omega
    subst e
    exact .inl ⟨⟨vs, SqL.of hp2, by rw [zl]; exact Nat.le_refl _⟩, f.nx _ P' σ2 H2 (hd p Γ' iv) (o2.giveback (hkeep p _ Γ' iv) q2 q1 o.wob (z.mono l2)) l2⟩
end
end RT
end
section
set_option Elab.async false
set_option linter.all false
set_option maxRecDepth 100000
set_option maxHeartbeats 4000000
/-! B0: the text by places, what is known of its top. -/
namespace RT
open PySem PySem.Spec PyProof.Rows L2
def top (i : Nat) : Stmt := PySem.Challenge.pw_raytrain_k44_edges_that_are_not_needed.main.body.getD i (.Pass ⟨0, 0, 0, 0⟩)
/-- the def x, the i-th statement -/
def dOf (i : Nat) (x : Str) (dfl : List He.Dv) : He.DefD := ⟨(x, none), x, x, defArgs (top i), defBody (top i), defScope (top i), dfl, []⟩
def fns : List He.DefD := [
  dOf 3 "common_divisor" [],
  dOf 4 "fraction" [.int 1],
  dOf 5 "add" [],
  dOf 6 "negative" [],
  dOf 7 "subtract" [],
  dOf 8 "multiply" [],
  dOf 9 "divide" [],
  dOf 10 "sign" [],
  dOf 11 "compare" [],
  dOf 12 "is_less" [],
  dOf 13 "least_of" [],
  dOf 17 "element_map" [],
  dOf 18 "weighted" [],
  dOf 19 "compose_maps" [],
  dOf 21 "cross" [],
  dOf 23 "reach" [],
  dOf 24 "in_first_half" [],
  dOf 25 "comes_before" [],
  dOf 26 "in_order" [],
  dOf 31 "make_half_plane" [],
  dOf 32 "edges_of" [],
  dOf 33 "half_planes_of" [],
  dOf 34 "value_at" [],
  dOf 35 "contains_ray" [],
  dOf 36 "determinant" [],
  dOf 37 "product" [],
  dOf 38 "opposite_weights" [],
  dOf 39 "triple_weights" [],
  dOf 40 "opposing_sets" [],
  dOf 41 "number_of" [],
  dOf 42 "is_empty" [],
  dOf 43 "single_bound" [],
  dOf 44 "pair_weights" [],
  dOf 45 "pair_bound" [],
  dOf 46 "supremum" [],
  dOf 47 "infimum" [],
  dOf 48 "direction_range" [],
  dOf 49 "line_of" [],
  dOf 50 "region_kind" [],
  dOf 53 "is_implied" [],
  dOf 55 "planes_of" [],
  dOf 56 "needed" [],
  dOf 60 "canonical_half_planes" [],
  dOf 61 "without_edge" [],
  dOf 62 "is_redundant" [],
  dOf 63 "redundant_edges" [],
  dOf 64 "simplify" [],
  dOf 65 "minimum_stops" [],
  dOf 67 "meeting" [],
  dOf 68 "is_before" [],
  dOf 69 "put_in_order" [],
  dOf 70 "corners" [],
  dOf 71 "is_bounded" [],
  dOf 72 "turn" [],
  dOf 73 "chain_area" [],
  dOf 74 "area" [],
  dOf 76 "acceptance_area" [],
  dOf 78 "_law_cell" [],
  dOf 79 "_law_row" [],
  dOf 80 "_law_box" [],
  dOf 81 "_law_draw" [],
  dOf 82 "_law_same" [],
  dOf 83 "_law_frac" [],
  dOf 84 "_law_add" [],
  dOf 85 "_law_neg" [],
  dOf 86 "_law_sub" [],
  dOf 87 "_law_mul" [],
  dOf 88 "_law_div" [],
  dOf 89 "_law_less" [],
  dOf 90 "_law_least" [],
  dOf 91 "_law_greatest" [],
  dOf 92 "_law_fraction" [],
  dOf 93 "_law_nonzero" [],
  dOf 94 "_law_stop" [],
  dOf 95 "_law_element" [],
  dOf 96 "_law_train" [],
  dOf 97 "_law_go" [],
  dOf 98 "_law_out" [],
  dOf 99 "_law_map" [],
  dOf 100 "_law_plane" [],
  dOf 101 "_law_edges" [],
  dOf 102 "_law_planes" [],
  dOf 103 "_law_line" [],
  dOf 104 "_law_bounds" [],
  dOf 105 "_law_empty" [],
  dOf 106 "_law_implied" [],
  dOf 107 "_law_near" [],
  dOf 108 "_law_sample" [],
  dOf 109 "_law_line_of" [],
  dOf 110 "_law_kind" [],
  dOf 111 "_law_alike" [],
  dOf 112 "_law_cross" [],
  dOf 113 "_law_before" [],
  dOf 114 "_law_sorted" [],
  dOf 116 "_law_canonical" [],
  dOf 117 "_law_other" [],
  dOf 118 "_law_without" [],
  dOf 119 "_law_redundant" [],
  dOf 120 "law" []]
/-- what is known behind the top -/
structure Hd (K : PySem.W.Frag) (mg : Str → Option Value) : Prop where
  def_ : ∀ d ∈ fns, ∃ fd, FunD K d.name d.qual d.params d.body d.scope (d.dvs K) (d.kws K) (He.fAd K d.at_) fd
  glo : ∀ d ∈ fns, mg d.name = some (.ref (He.fAd K d.at_))
  free : ∀ x ∈ (["abs", "all", "any", "enumerate", "int", "len", "list", "range", "repr", "sum", "tuple", "zip"] : List Str), mg x = none
  zero : ∃ a, mg "ZERO" = some (.ref a) ∧ ∀ H, DD K H (.ref a) (fr 0)
  one : ∃ a, mg "ONE" = some (.ref a) ∧ ∀ H, DD K H (.ref a) (fr 1)
  idn : ∃ a, mg "IDENTITY" = some (.ref a) ∧ ∀ H, DD K H (.ref a) (mp ⟨1, 0, 0, 1, 0, 0⟩)
section
variable {P : Program} {w : World} {K : PySem.W.Frag} {mg : Str → Option Value} {base : Heap} {W : Wo}
theorem kn_mk {i : Nat} {x : Str} (j : Nat) {ps : List Str} {k n : Nat} {pm : Pm} (E : Hd K mg) (hj : fns[j]? = some (dOf i x [])) (hn : ps.length = n)
    (hb : ∀ (kV doc pm : Value) (an : Option Addr) (cdv ct : Value) (us : List Value), us.length = ps.length → bindArgs (PySem.W.fnOf x x (defArgs (top i)) (defBody (top i)) (defScope (top i)) .none kV doc pm an cdv ct) ⟨us, []⟩ = pure (ps.zip us))
    (h : ∀ f fd, FunD K x x (defArgs (top i)) (defBody (top i)) (defScope (top i)) [] [] f fd → FnOk P w K mg base CX0 k f fd ps (spD K W ps.length pm)) : Kn P w K mg base x [] k (spD K W n pm) := by
  have hm : dOf i x [] ∈ fns := List.mem_of_getElem? hj
  obtain ⟨fd, F⟩ := E.def_ _ hm
  have F' : FunD K x x (defArgs (top i)) (defBody (top i)) (defScope (top i)) [] [] (He.fAd K (x, none)) fd := F
  exact ⟨⟨_, fd, ps, [], E.glo _ hm, F'.kp, .nil, F'.bindsN hb, by rw [← hn]; exact h _ fd F'⟩⟩
theorem ev_zero {X : Cx} {C : Ct} {Γ : List Sl} {pos : Pos} (E : Hd X.K X.mg) (hg : Gl X "ZERO" := by rfl) : EV X C (.Name "ZERO" pos) Γ (fr 0) := by
  obtain ⟨a, h1, h2⟩ := E.zero
  exact ev_con (v := .ref a) h1 rfl h2 hg
theorem ev_oneQ {X : Cx} {C : Ct} {Γ : List Sl} {pos : Pos} (E : Hd X.K X.mg) (hg : Gl X "ONE" := by rfl) : EV X C (.Name "ONE" pos) Γ (fr 1) := by
  obtain ⟨a, h1, h2⟩ := E.one
  exact ev_con (v := .ref a) h1 rfl h2 hg
theorem ev_idn {X : Cx} {C : Ct} {Γ : List Sl} {pos : Pos} (E : Hd X.K X.mg) (hg : Gl X "IDENTITY" := by rfl) : EV X C (.Name "IDENTITY" pos) Γ (mp ⟨1, 0, 0, 1, 0, 0⟩) := by
  obtain ⟨a, h1, h2⟩ := E.idn
  exact ev_con (v := .ref a) h1 rfl h2 hg
end
end RT
end
section
set_option Elab.async false
set_option linter.all false
set_option maxRecDepth 100000
set_option maxHeartbeats 4000000
set_option exponentiation.threshold 20000
/-! B1: the fractions of the program. -/
namespace RT
open PySem PySem.Spec PyProof.Rows L2
/-- sizes that every step of fractions may have -/
abbrev Sz : Nat := 4400
section
variable {X : Cx} {C : Ct} {Γ : List Sl} {a : Expr} {pos : Pos}
/-- items of fractions -/
theorem ev_num {x : Rat} {j : Nat} {p2 : Pos} (ha : EV X C a Γ (fr x)) : EV X C (.Subscript a (.Constant (.int 0) j p2) pos) Γ (.int x.num) := ev_ixT ha ev_int rfl
theorem ev_den {x : Rat} {j : Nat} {p2 : Pos} (ha : EV X C a Γ (fr x)) : EV X C (.Subscript a (.Constant (.int 1) j p2) pos) Γ (.int (x.den : Int)) := ev_ixT ha ev_int rfl
end
section
variable {P : Program} {w : World} {K : PySem.W.Frag} {mg : Str → Option Value} {base : Heap} {W : Wo}
theorem sc_common_divisor : FnScope ["first", "second", "one", "other"] ["first", "second"] (defScope (top 3)) := ⟨rfl, rfl, rfl, by decide +kernel, rfl, by decide +kernel, by decide +kernel⟩
def pm_common_divisor : Pm := fun ds p => ∃ a b : Int, ds = [.int a, .int b] ∧ p (.int (Int.gcd a b : Nat))
theorem k_common_divisor (E : Hd K mg) : Kn P w K mg base "common_divisor" [] 1 (spD K W 2 pm_common_divisor) :=
  kn_mk 0 E rfl rfl (fun _ _ _ _ _ _ us hl => match us, hl with | [_, _], _ => rfl) fun f fd F => fn_mk F sc_common_divisor (by
    rintro X C cdv A outer s H E' P0 ds p rfl rfl hr ⟨a, b, rfl, hp⟩
    have nd := sc_common_divisor.nd
    have hab := E.free "abs" (by simp)
    refine sw_cons (s1_set 2 nd (ev_abs hab (ev_var 0 rfl)) ?_)
    refine sw_cons (s1_set 3 nd (ev_abs hab (ev_var 1 rfl)) ?_)
    refine sw_cons (s1_while (fun m Γ => ∃ x : Nat, Γ = [.pu (.int a), .pu (.int b), .pu (.int (x : Int)), .pu (.int (m : Int))] ∧ Nat.gcd x m = Int.gcd a b) b.natAbs ⟨a.natAbs, rfl, rfl⟩ ?_)
    rintro m _ ⟨x, rfl, hg⟩
    refine ⟨_, tv_gt (ev_var 3 rfl) ev_int, fun ht => ?_, fun ht => ?_⟩
    · have hm : 0 < m := by simpa using ht
      refine sw_one (s1_par 2 3 nd (ev_var 3 rfl) (ev_mod (ev_var 2 rfl) (ev_var 3 rfl) (by omega)) ?_)
      exact ⟨x % m, Nat.mod_lt _ hm, m, rfl, by rw [← hg, Nat.gcd_comm x m, Nat.gcd_rec m x, Nat.gcd_comm]⟩
    · have hm : m = 0 := by simpa using ht
      subst hm
      refine sw_one (s1_ret (EV.r (ev_var 2 rfl)) ?_)
      rw [Nat.gcd_zero_right] at hg
      rw [← hg] at hp
      exact hp)
theorem sc_fraction : FnScope ["numerator", "denominator", "divisor"] ["numerator", "denominator"] (defScope (top 4)) := ⟨rfl, rfl, rfl, by decide +kernel, rfl, by decide +kernel, by decide +kernel⟩
def pm_fraction : Pm := fun ds p => ∃ n d : Int, ds = [.int n, .int d] ∧ d ≠ 0 ∧ d.natAbs < 2 ^ 9000 ∧ p (fr (Rat.divInt n d))
theorem log9 {x : Int} {n : Nat} (h : x.natAbs ≤ n) (h2 : n < 2 ^ 9000) : x.natAbs.log2 < 9000 := PySem.Flt.log2_lt_of (by decide) (Nat.lt_of_le_of_lt h h2)
theorem fn_fraction (E : Hd K mg) {f : Addr} {fd : FuncData} (F : FunD K "fraction" "fraction" (defArgs (top 4)) (defBody (top 4)) (defScope (top 4)) [.int 1] [] f fd) : FnOk P w K mg base CX0 2 f fd ["numerator", "denominator"] (spD K W 2 pm_fraction) :=
  fn_mk F sc_fraction (by
    rintro X C cdv A outer s H E' P0 ds p rfl rfl hr ⟨n, d, rfl, h0, hd, hp⟩
    have nd := sc_fraction.nd
    have hg := gcd_le (n := n) h0
    have hg0 := gcd_pos (n := n) h0
    refine sw_cons (s1_set 2 nd (ev_fn (k_common_divisor E) hr (by decide) (evs_cons (ev_var 0 rfl) (evs_one (ev_var 1 rfl))) ⟨n, d, rfl, rfl⟩) ?_)
    refine sw_cons (s1_if (tv_lt (ev_var 1 rfl) ev_int) (fun ht => ?_) fun ht => ?_)
    · have hn : d < 0 := by simpa using ht
      refine sw_one (s1_set 2 nd (ev_neg (ev_var 2 rfl)) ?_)
      have hc : CDivWN n (-((Int.gcd n d : Nat) : Int)) := ⟨by omega, log9 (n := d.natAbs) (by rw [Int.natAbs_neg]; simpa using hg) hd⟩
      refine sw_one (s1_ret (EV.r (EV.is (ev_tup (evs_cons (ev_fdivN (ev_var 0 rfl) (ev_var 2 rfl) hc) (evs_one (ev_fdivN (ev_var 1 rfl) (ev_var 2 rfl) hc)))) ?_)) hp)
      rw [(frac_neg hn).1, (frac_neg hn).2]; rfl
    · have hn : 0 < d := by
        have : ¬ d < 0 := by simpa using ht
        omega
      have hc : CDivWN n ((Int.gcd n d : Nat) : Int) := ⟨by omega, log9 (n := d.natAbs) (by simpa using hg) hd⟩
      refine sw_nil (sw_one (s1_ret (EV.r (EV.is (ev_tup (evs_cons (ev_fdivN (ev_var 0 rfl) (ev_var 2 rfl) hc) (evs_one (ev_fdivN (ev_var 1 rfl) (ev_var 2 rfl) hc)))) ?_)) hp))
      rw [(frac_pos hn).1, (frac_pos hn).2]; rfl)
theorem fun_fraction (E : Hd K mg) : ∃ fd, FunD K "fraction" "fraction" (defArgs (top 4)) (defBody (top 4)) (defScope (top 4)) [.int 1] [] (He.fAd K ("fraction", none)) fd := E.def_ (dOf 4 "fraction" [.int 1]) (List.mem_of_getElem? (i := 1) rfl)
theorem k_fraction (E : Hd K mg) : Kn P w K mg base "fraction" [] 2 (spD K W 2 pm_fraction) := by
  obtain ⟨fd, F⟩ := fun_fraction E
  obtain ⟨ds, h1, h2⟩ := F.binds1 (ps := ["numerator", "denominator"]) 2 1 (by simp) rfl fun T kV doc pm an cdv ct us its hl hi => match us, hl, its, hi with
    | [_, _], _, [_], _ => ⟨_, rfl, rfl⟩
  exact ⟨⟨_, fd, _, ds, E.glo (dOf 4 "fraction" [.int 1]) (List.mem_of_getElem? (i := 1) rfl), F.kp, h1, h2, fn_fraction E F⟩⟩
theorem k_fraction1 (E : Hd K mg) : Kn P w K mg base "fraction" [.int 1] 2 (spD K W 2 pm_fraction) := by
  obtain ⟨fd, F⟩ := fun_fraction E
  obtain ⟨ds, h1, h2⟩ := F.binds1 (ps := ["numerator", "denominator"]) 1 0 (by simp) rfl fun T kV doc pm an cdv ct us its hl hi => match us, hl, its, hi with
    | [_], _, [_], _ => ⟨_, rfl, rfl⟩
  exact ⟨⟨_, fd, _, ds, E.glo (dOf 4 "fraction" [.int 1]) (List.mem_of_getElem? (i := 1) rfl), F.kp, h1, h2, fn_fraction E F⟩⟩

theorem cm_of {a b : Int} {n m : Nat} (ha : a.natAbs < 2 ^ n) (hb : b.natAbs < 2 ^ m) (h : n + m ≤ 900000) : CMulW a b := by
  have g : ∀ {x : Int} {k : Nat}, x.natAbs < 2 ^ k → x.natAbs.log2 < k + 1 := fun {x k} hx => by
    rcases Nat.eq_zero_or_pos x.natAbs with e | e
    · rw [e]; simp
    · exact Nat.lt_of_lt_of_le ((Nat.log2_lt (by omega)).mpr hx) (Nat.le_succ _)
  have := g ha
  have := g hb
  unfold CMulW
  omega
theorem RB.dlt {n d : Nat} {x : Rat} (h : RB n d x) : (x.den : Int).natAbs < 2 ^ (d + 1) := by
  have h2 := h.2
  rw [Nat.pow_succ]
  have := Nat.two_pow_pos d
  simp
  omega
theorem den2 {n d m e : Nat} {x y : Rat} (hx : RB n d x) (hy : RB m e y) (h : d + e < 9000) : ((x.den : Int) * y.den).natAbs < 2 ^ 9000 :=
  Nat.lt_of_le_of_lt (imul_le (a := x.den) (b := y.den) (by simpa using hx.2) (by simpa using hy.2)) (Nat.pow_lt_pow_right (by decide) h)
theorem num2 {n d m e : Nat} {x y : Rat} (hx : RB n d x) (hy : RB m e y) (h : d + m < 9000) : ((x.den : Int) * y.num).natAbs < 2 ^ 9000 :=
  Nat.lt_of_le_of_lt (imul_le (a := x.den) (b := y.num) (by simpa using hx.2) (Nat.le_of_lt hy.1)) (Nat.pow_lt_pow_right (by decide) h)
theorem sc_add : FnScope ["first", "second"] ["first", "second"] (defScope (top 5)) := ⟨rfl, rfl, rfl, by decide +kernel, rfl, by decide +kernel, by decide +kernel⟩
def pm_add : Pm := fun ds p => ∃ x y : Rat, ds = [fr x, fr y] ∧ RB Sz Sz x ∧ RB Sz Sz y ∧ p (fr (x + y))
theorem k_add (E : Hd K mg) : Kn P w K mg base "add" [] 3 (spD K W 2 pm_add) :=
  kn_mk 2 E rfl rfl (fun _ _ _ _ _ _ us hl => match us, hl with | [_, _], _ => rfl) fun f fd F => fn_mk F sc_add (by
    rintro X C cdv A outer s H E' P0 ds p rfl rfl hr ⟨x, y, rfl, hx, hy, hp⟩
    have nd := sc_add.nd
    dsimp only [iniL, iniN, List.tail]
    refine sw_one (s1_ret (EV.r (ev_fn (k_fraction E) hr (by decide) (evs_cons (ev_add (ev_mul (ev_num (ev_var 0 rfl)) (ev_den (ev_var 1 rfl)) (cm_of hx.1 hy.dlt (by decide))) (ev_mul (ev_num (ev_var 1 rfl)) (ev_den (ev_var 0 rfl)) (cm_of hy.1 hx.dlt (by decide))))
      (evs_one (ev_mul (ev_den (ev_var 0 rfl)) (ev_den (ev_var 1 rfl)) (cm_of hx.dlt hy.dlt (by decide))))) ⟨_, _, rfl, Int.mul_ne_zero (den_ne x) (den_ne y), den2 hx hy (by decide), ?_⟩)) hp)
    rw [add_divInt])
theorem sc_negative : FnScope ["value"] ["value"] (defScope (top 6)) := ⟨rfl, rfl, rfl, by decide +kernel, rfl, by decide +kernel, by decide +kernel⟩
def pm_negative : Pm := fun ds p => ∃ x : Rat, ds = [fr x] ∧ p (fr (-x))
theorem k_negative (E : Hd K mg) : Kn P w K mg base "negative" [] 1 (spD K W 1 pm_negative) :=
  kn_mk 3 E rfl rfl (fun _ _ _ _ _ _ us hl => match us, hl with | [_], _ => rfl) fun f fd F => fn_mk F sc_negative (by
    rintro X C cdv A outer s H E' P0 ds p rfl rfl hr ⟨x, rfl, hp⟩
    have nd := sc_negative.nd
    dsimp only [iniL, iniN, List.tail]
    refine sw_one (s1_ret (EV.r (ev_tup (evs_cons (ev_neg (ev_num (ev_var 0 rfl))) (evs_one (ev_den (ev_var 0 rfl)))))) hp))
theorem sc_subtract : FnScope ["first", "second"] ["first", "second"] (defScope (top 7)) := ⟨rfl, rfl, rfl, by decide +kernel, rfl, by decide +kernel, by decide +kernel⟩
def pm_subtract : Pm := fun ds p => ∃ x y : Rat, ds = [fr x, fr y] ∧ RB Sz Sz x ∧ RB Sz Sz y ∧ p (fr (x - y))
theorem k_subtract (E : Hd K mg) : Kn P w K mg base "subtract" [] 4 (spD K W 2 pm_subtract) :=
  kn_mk 4 E rfl rfl (fun _ _ _ _ _ _ us hl => match us, hl with | [_, _], _ => rfl) fun f fd F => fn_mk F sc_subtract (by
    rintro X C cdv A outer s H E' P0 ds p rfl rfl hr ⟨x, y, rfl, hx, hy, hp⟩
    have nd := sc_subtract.nd
    dsimp only [iniL, iniN, List.tail]
    refine sw_one (s1_ret (EV.r (ev_fn (k_add E) hr (by decide) (evs_cons (ev_var 0 rfl) (evs_one (ev_fn (k_negative E) hr (by decide) (evs_one (ev_var 1 rfl)) ⟨_, rfl, rfl⟩))) ⟨_, _, rfl, hx, hy.neg, rfl⟩)) ?_)
    all_goals (try dsimp only [List.set])
    rw [← Rat.sub_eq_add_neg]
    exact hp)
theorem sc_multiply : FnScope ["first", "second"] ["first", "second"] (defScope (top 8)) := ⟨rfl, rfl, rfl, by decide +kernel, rfl, by decide +kernel, by decide +kernel⟩
def pm_multiply : Pm := fun ds p => ∃ x y : Rat, ds = [fr x, fr y] ∧ RB Sz Sz x ∧ RB Sz Sz y ∧ p (fr (x * y))
theorem k_multiply (E : Hd K mg) : Kn P w K mg base "multiply" [] 3 (spD K W 2 pm_multiply) :=
  kn_mk 5 E rfl rfl (fun _ _ _ _ _ _ us hl => match us, hl with | [_, _], _ => rfl) fun f fd F => fn_mk F sc_multiply (by
    rintro X C cdv A outer s H E' P0 ds p rfl rfl hr ⟨x, y, rfl, hx, hy, hp⟩
    have nd := sc_multiply.nd
    dsimp only [iniL, iniN, List.tail]
    refine sw_one (s1_ret (EV.r (ev_fn (k_fraction E) hr (by decide) (evs_cons (ev_mul (ev_num (ev_var 0 rfl)) (ev_num (ev_var 1 rfl)) (cm_of hx.1 hy.1 (by decide)))
      (evs_one (ev_mul (ev_den (ev_var 0 rfl)) (ev_den (ev_var 1 rfl)) (cm_of hx.dlt hy.dlt (by decide))))) ⟨_, _, rfl, Int.mul_ne_zero (den_ne x) (den_ne y), den2 hx hy (by decide), ?_⟩)) hp)
    rw [mul_divInt])
theorem sc_divide : FnScope ["first", "second"] ["first", "second"] (defScope (top 9)) := ⟨rfl, rfl, rfl, by decide +kernel, rfl, by decide +kernel, by decide +kernel⟩
def pm_divide : Pm := fun ds p => ∃ x y : Rat, ds = [fr x, fr y] ∧ RB Sz Sz x ∧ RB Sz Sz y ∧ y ≠ 0 ∧ p (fr (x / y))
theorem k_divide (E : Hd K mg) : Kn P w K mg base "divide" [] 3 (spD K W 2 pm_divide) :=
  kn_mk 6 E rfl rfl (fun _ _ _ _ _ _ us hl => match us, hl with | [_, _], _ => rfl) fun f fd F => fn_mk F sc_divide (by
    rintro X C cdv A outer s H E' P0 ds p rfl rfl hr ⟨x, y, rfl, hx, hy, h0, hp⟩
    have nd := sc_divide.nd
    dsimp only [iniL, iniN, List.tail]
    refine sw_one (s1_ret (EV.r (ev_fn (k_fraction E) hr (by decide) (evs_cons (ev_mul (ev_num (ev_var 0 rfl)) (ev_den (ev_var 1 rfl)) (cm_of hx.1 hy.dlt (by decide)))
      (evs_one (ev_mul (ev_den (ev_var 0 rfl)) (ev_num (ev_var 1 rfl)) (cm_of hx.dlt hy.1 (by decide))))) ⟨_, _, rfl, Int.mul_ne_zero (den_ne x) fun z => h0 (Rat.num_eq_zero.mp z), num2 hx hy (by decide), ?_⟩)) hp)
    rw [div_divInt])
theorem sc_sign : FnScope ["value"] ["value"] (defScope (top 10)) := ⟨rfl, rfl, rfl, by decide +kernel, rfl, by decide +kernel, by decide +kernel⟩
def pm_sign : Pm := fun ds p => ∃ x : Rat, ds = [fr x] ∧ p (.int (sgn x))
theorem k_sign (E : Hd K mg) : Kn P w K mg base "sign" [] 1 (spD K W 1 pm_sign) :=
  kn_mk 7 E rfl rfl (fun _ _ _ _ _ _ us hl => match us, hl with | [_], _ => rfl) fun f fd F => fn_mk F sc_sign (by
    rintro X C cdv A outer s H E' P0 ds p rfl rfl hr ⟨x, rfl, hp⟩
    have nd := sc_sign.nd
    dsimp only [iniL, iniN, List.tail]
    unfold sgn at hp
    refine sw_cons (s1_if (tv_gt (ev_num (ev_var 0 rfl)) ev_int) (fun ht => ?_) fun ht => ?_)
    all_goals (try dsimp only [List.set])
    · rw [if_pos (by simpa using ht)] at hp
      exact sw_one (s1_ret (EV.r ev_int) hp)
    rw [if_neg (by simpa using ht)] at hp
    refine sw_nil (sw_cons (s1_if (tv_lt (ev_num (ev_var 0 rfl)) ev_int) (fun ht => ?_) fun ht => ?_))
    all_goals (try dsimp only [List.set])
    · rw [if_pos (by simpa using ht)] at hp
      exact sw_one (s1_ret (EV.r (ev_neg ev_int)) hp)
    rw [if_neg (by simpa using ht)] at hp
    exact sw_nil (sw_one (s1_ret (EV.r ev_int) hp)))
theorem sc_compare : FnScope ["first", "second"] ["first", "second"] (defScope (top 11)) := ⟨rfl, rfl, rfl, by decide +kernel, rfl, by decide +kernel, by decide +kernel⟩
def pm_compare : Pm := fun ds p => ∃ x y : Rat, ds = [fr x, fr y] ∧ RB Sz Sz x ∧ RB Sz Sz y ∧ p (.int (cmp x y))
theorem k_compare (E : Hd K mg) : Kn P w K mg base "compare" [] 5 (spD K W 2 pm_compare) :=
  kn_mk 8 E rfl rfl (fun _ _ _ _ _ _ us hl => match us, hl with | [_, _], _ => rfl) fun f fd F => fn_mk F sc_compare (by
    rintro X C cdv A outer s H E' P0 ds p rfl rfl hr ⟨x, y, rfl, hx, hy, hp⟩
    have nd := sc_compare.nd
    dsimp only [iniL, iniN, List.tail]
    exact sw_one (s1_ret (EV.r (ev_fn (k_sign E) hr (by decide) (evs_one (ev_fn (k_subtract E) hr (by decide) (evs_cons (ev_var 0 rfl) (evs_one (ev_var 1 rfl))) ⟨x, y, rfl, hx, hy, rfl⟩)) ⟨_, rfl, rfl⟩)) hp))
theorem sc_is_less : FnScope ["first", "second"] ["first", "second"] (defScope (top 12)) := ⟨rfl, rfl, rfl, by decide +kernel, rfl, by decide +kernel, by decide +kernel⟩
def pm_is_less : Pm := fun ds p => ∃ x y : Rat, ds = [fr x, fr y] ∧ RB Sz Sz x ∧ RB Sz Sz y ∧ p (.bool (decide (x < y)))
theorem k_is_less (E : Hd K mg) : Kn P w K mg base "is_less" [] 6 (spD K W 2 pm_is_less) :=
  kn_mk 9 E rfl rfl (fun _ _ _ _ _ _ us hl => match us, hl with | [_, _], _ => rfl) fun f fd F => fn_mk F sc_is_less (by
    rintro X C cdv A outer s H E' P0 ds p rfl rfl hr ⟨x, y, rfl, hx, hy, hp⟩
    have nd := sc_is_less.nd
    dsimp only [iniL, iniN, List.tail]
    refine sw_one (s1_ret (EV.r (EV.is (ev_lt (ev_fn (k_compare E) hr (by decide) (evs_cons (ev_var 0 rfl) (evs_one (ev_var 1 rfl))) ⟨x, y, rfl, hx, hy, rfl⟩) ev_int) ?_)) hp)
    rw [decide_eq_decide.mpr cmp_lt])
theorem sc_least_of : FnScope ["values", "best", "value"] ["values"] (defScope (top 13)) := ⟨rfl, rfl, rfl, by decide +kernel, rfl, by decide +kernel, by decide +kernel⟩
def pm_least_of : Pm := fun ds p => ∃ xs : List (Option Rat), ds = [.list (xs.map ofr)] ∧ xs.length ≤ 100000 ∧ (∀ x, some x ∈ xs → RB Sz Sz x) ∧ p (ofr (leastO xs))
theorem k_least_of (E : Hd K mg) : Kn P w K mg base "least_of" [] 7 (spD K W 1 pm_least_of) :=
  kn_mk 10 E rfl rfl (fun _ _ _ _ _ _ us hl => match us, hl with | [_], _ => rfl) fun f fd F => fn_mk F sc_least_of (by
    rintro X C cdv A outer s H E' P0 ds p rfl rfl hr ⟨xs, rfl, hz, hb, hp⟩
    have nd := sc_least_of.nd
    dsimp only [iniL, iniN, List.tail]
    refine sw_cons (s1_set 1 nd ev_non ?_)
    all_goals (try dsimp only [List.set])
    refine sw_cons (s1_for ofr xs (iv_lst (ev_var 0 rfl)) (fun i Γ => ∃ v, Γ = [.pu (.list (xs.map ofr)), .pu (ofr (leastO (xs.take i))), v]) ⟨_, rfl⟩ ?_ ?_)
    all_goals (try dsimp only [List.set])
    · rintro i x _ hx ⟨v, rfl⟩
      have hm := List.mem_of_getElem? hx
      have ht : xs.take (i + 1) = xs.take i ++ [x] := by rw [List.take_succ, hx]; rfl
      refine ⟨_, _, gv_name 2 nd, ?_⟩
      cases x with
      | none =>
        refine sw_one (s1_if ((tw_and (y := false) (tv_notN (ev_var 2 rfl)) fun h => by cases h).tv) (fun h => by cases h) fun _ => sw_nil ⟨.pu (ofr none), ?_⟩)
        rw [ht, leastO_none]
        rfl
      | some x =>
        have hB := fun b hb' => least_mem (xs := xs.take i) (b := b) hb'
        cases e : leastO (xs.take i) with
        | none =>
          refine sw_one (s1_if ((tw_and (tv_notN (ev_var 2 rfl)) fun h => tw_and1 (TW.tv (tw_or (y := false) (tv_isN (ev_var 1 rfl)) fun h => (by cases h)))).tv) (fun _ => sw_one (s1_set 1 nd (ev_var 2 rfl) ⟨.pu (ofr (some x)), ?_⟩)) fun h => by cases h)
          rw [ht, leastO_some, e]
          rfl
        | some b =>
          refine sw_one (s1_if ((tw_and (tv_notN (ev_var 2 rfl)) fun h => tw_and1 (TW.tv (tw_or (tv_isN (ev_var 1 rfl)) fun h => tw_or1 (tv_val (ev_fn (k_is_less E) hr (by decide) (evs_cons (ev_var 2 rfl) (evs_one (ev_var 1 rfl))) ⟨x, b, rfl, hb x hm, hb b (List.mem_of_mem_take (hB b e)), rfl⟩))))).tv) (fun h => sw_one (s1_set 1 nd (ev_var 2 rfl) ⟨.pu (ofr (some x)), ?_⟩)) fun h => sw_nil ⟨.pu (ofr (some x)), ?_⟩)
          · have h' : x < b := by simpa [isN, ofr, fr] using h
            rw [ht, leastO_some, e]
            show _ = [_, Sl.pu (ofr (if x < b then some x else some b)), _]
            rw [if_pos h']
            rfl
          · have h' : ¬ x < b := by simpa [isN, ofr, fr] using h
            rw [ht, leastO_some, e]
            show _ = [_, Sl.pu (ofr (if x < b then some x else some b)), _]
            rw [if_neg h']
            rfl
    · rintro _ ⟨v, rfl⟩
      rw [List.take_length]
      exact sw_one (s1_ret (EV.r (ev_var 1 rfl)) hp))
end
section
variable {X : Cx} {C : Ct} {Γ : List Sl} {e a b : Expr} {pos : Pos} {k : Nat} {p : Pos}
/-- fraction(i) of a whole number -/
theorem ev_frI {i : Int} (E : Hd X.K X.mg) (hr : Room k X.A) (hk : 2 ≤ k) (ha : EV X C a Γ (.int i)) (hg : Gl X "fraction" := by rfl) (he : starEach [a] X.env = (false, eval a X.env) :: starEach [] X.env := by rfl) (hpl : (backTo pos (starEach [] X.env)).any (·.1) = false := by rfl) : EV X C (.Call (.Name "fraction" p) [a] [] pos) Γ (fr (i : Rat)) :=
  ev_call (W := C.W) (dd := [.int 1]) (k_fraction1 E) (hr.mono hk) Wo.Sub.rfl' (fun _ => .cons (.int 1) .nil) (evs_one ha he) ⟨i, 1, rfl, by decide, Nat.one_lt_two_pow (by decide), by
    show fr _ = fr _
    rw [Rat.divInt_eq_div]
    congr 1
    show (i : Rat) / 1 = _
    grind⟩ rfl hg (by decide) he hpl
end
end RT
end
section
set_option Elab.async false
set_option linter.all false
set_option maxRecDepth 100000
set_option maxHeartbeats 4000000
set_option exponentiation.threshold 20000
/-! B2: the fractions of the law. -/
namespace RT
open PySem PySem.Spec PyProof.Rows L2
section
variable {P : Program} {w : World} {K : PySem.W.Frag} {mg : Str → Option Value} {base : Heap} {W : Wo}
theorem sc__law_frac : FnScope ["_law_top", "_law_bottom", "_law_one", "_law_other_here"] ["_law_top", "_law_bottom"] (defScope (top 83)) := ⟨rfl, rfl, rfl, by decide +kernel, rfl, by decide +kernel, by decide +kernel⟩
def pm__law_frac : Pm := fun ds p => ∃ n d : Int, ds = [.int n, .int d] ∧ d ≠ 0 ∧ d.natAbs < 2 ^ 9000 ∧ p (fr (Rat.divInt n d))
theorem k__law_frac (E : Hd K mg) : Kn P w K mg base "_law_frac" [] 1 (spD K W 2 pm__law_frac) :=
  kn_mk 62 E rfl rfl (fun _ _ _ _ _ _ us hl => match us, hl with | [_, _], _ => rfl) fun f fd F => fn_mk F sc__law_frac (by
    rintro X C cdv A outer s H E' P0 ds p rfl rfl hr ⟨a, b, rfl, h0, hd, hp⟩
    have nd := sc__law_frac.nd
    dsimp only [iniL, iniN, List.tail]
    have hab := E.free "abs" (by simp)
    have hin := E.free "int" (by simp)
    have hg := gcd_le (n := a) h0
    have hg0 := gcd_pos (n := a) h0
    refine sw_cons (s1_set 2 nd (ev_abs hab (ev_var 0 rfl)) ?_)
    all_goals (try dsimp only [List.set])
    refine sw_cons (s1_set 3 nd (ev_abs hab (ev_var 1 rfl)) ?_)
    all_goals (try dsimp only [List.set])
    refine sw_cons (s1_while (fun m Γ => ∃ x : Nat, Γ = [.pu (.int a), .pu (.int b), .pu (.int (x : Int)), .pu (.int (m : Int))] ∧ Nat.gcd x m = Int.gcd a b) b.natAbs ⟨a.natAbs, rfl, rfl⟩ ?_)
    all_goals (try dsimp only [List.set])
    rintro m _ ⟨x, rfl, hgx⟩
    refine ⟨_, tv_gt (ev_var 3 rfl) ev_int, fun ht => ?_, fun ht => ?_⟩
    · have hm : 0 < m := by simpa using ht
      refine sw_one (s1_par 2 3 nd (ev_var 3 rfl) (ev_mod (ev_intI hin (ev_var 2 rfl)) (ev_intI hin (ev_var 3 rfl)) (by omega)) ?_)
      all_goals (try dsimp only [List.set])
      exact ⟨x % m, Nat.mod_lt _ hm, m, rfl, by rw [← hgx, Nat.gcd_comm x m, Nat.gcd_rec m x, Nat.gcd_comm]⟩
    have hm : m = 0 := by simpa using ht
    subst hm
    rw [Nat.gcd_zero_right] at hgx
    subst hgx
    refine sw_cons (s1_if (tv_lt (ev_var 1 rfl) ev_int) (fun ht => ?_) fun ht => ?_)
    all_goals (try dsimp only [List.set])
    · have hn : b < 0 := by simpa using ht
      refine sw_one (s1_set 2 nd (ev_neg (ev_var 2 rfl)) ?_)
      all_goals (try dsimp only [List.set])
      have hc : CDivWN a (-((Int.gcd a b : Nat) : Int)) := ⟨by omega, log9 (n := b.natAbs) (by rw [Int.natAbs_neg]; simpa using hg) hd⟩
      refine sw_one (s1_ret (EV.r (EV.is (ev_tup (evs_cons (ev_fdivN (ev_var 0 rfl) (ev_var 2 rfl) hc) (evs_one (ev_fdivN (ev_var 1 rfl) (ev_var 2 rfl) hc)))) ?_)) hp)
      rw [(frac_neg hn).1, (frac_neg hn).2]; rfl
    · have hn : 0 < b := by
        have : ¬ b < 0 := by simpa using ht
        omega
      have hc : CDivWN a ((Int.gcd a b : Nat) : Int) := ⟨by omega, log9 (n := b.natAbs) (by simpa using hg) hd⟩
      refine sw_nil (sw_one (s1_ret (EV.r (EV.is (ev_tup (evs_cons (ev_fdivN (ev_var 0 rfl) (ev_var 2 rfl) hc) (evs_one (ev_fdivN (ev_var 1 rfl) (ev_var 2 rfl) hc)))) ?_)) hp))
      rw [(frac_pos hn).1, (frac_pos hn).2]; rfl)
theorem sc__law_add : FnScope ["_law_one", "_law_other_here"] ["_law_one", "_law_other_here"] (defScope (top 84)) := ⟨rfl, rfl, rfl, by decide +kernel, rfl, by decide +kernel, by decide +kernel⟩
def pm__law_add : Pm := fun ds p => ∃ x y : Rat, ds = [fr x, fr y] ∧ RB Sz Sz x ∧ RB Sz Sz y ∧ p (fr (x + y))
theorem k__law_add (E : Hd K mg) : Kn P w K mg base "_law_add" [] 2 (spD K W 2 pm__law_add) :=
  kn_mk 63 E rfl rfl (fun _ _ _ _ _ _ us hl => match us, hl with | [_, _], _ => rfl) fun f fd F => fn_mk F sc__law_add (by
    rintro X C cdv A outer s H E' P0 ds p rfl rfl hr ⟨x, y, rfl, hx, hy, hp⟩
    have nd := sc__law_add.nd
    dsimp only [iniL, iniN, List.tail]
    refine sw_one (s1_ret (EV.r (ev_fn (k__law_frac E) hr (by decide) (evs_cons (ev_add (ev_mul (ev_num (ev_var 0 rfl)) (ev_den (ev_var 1 rfl)) (cm_of hx.1 hy.dlt (by decide))) (ev_mul (ev_num (ev_var 1 rfl)) (ev_den (ev_var 0 rfl)) (cm_of hy.1 hx.dlt (by decide))))
      (evs_one (ev_mul (ev_den (ev_var 0 rfl)) (ev_den (ev_var 1 rfl)) (cm_of hx.dlt hy.dlt (by decide))))) ⟨_, _, rfl, Int.mul_ne_zero (den_ne x) (den_ne y), den2 hx hy (by decide), ?_⟩)) hp)
    rw [add_divInt])
theorem sc__law_neg : FnScope ["_law_one"] ["_law_one"] (defScope (top 85)) := ⟨rfl, rfl, rfl, by decide +kernel, rfl, by decide +kernel, by decide +kernel⟩
def pm__law_neg : Pm := fun ds p => ∃ x : Rat, ds = [fr x] ∧ p (fr (-x))
theorem k__law_neg (E : Hd K mg) : Kn P w K mg base "_law_neg" [] 1 (spD K W 1 pm__law_neg) :=
  kn_mk 64 E rfl rfl (fun _ _ _ _ _ _ us hl => match us, hl with | [_], _ => rfl) fun f fd F => fn_mk F sc__law_neg (by
    rintro X C cdv A outer s H E' P0 ds p rfl rfl hr ⟨x, rfl, hp⟩
    have nd := sc__law_neg.nd
    dsimp only [iniL, iniN, List.tail]
    refine sw_one (s1_ret (EV.r (ev_tup (evs_cons (ev_neg (ev_num (ev_var 0 rfl))) (evs_one (ev_den (ev_var 0 rfl)))))) hp))
theorem sc__law_sub : FnScope ["_law_one", "_law_other_here"] ["_law_one", "_law_other_here"] (defScope (top 86)) := ⟨rfl, rfl, rfl, by decide +kernel, rfl, by decide +kernel, by decide +kernel⟩
def pm__law_sub : Pm := fun ds p => ∃ x y : Rat, ds = [fr x, fr y] ∧ RB Sz Sz x ∧ RB Sz Sz y ∧ p (fr (x - y))
theorem k__law_sub (E : Hd K mg) : Kn P w K mg base "_law_sub" [] 3 (spD K W 2 pm__law_sub) :=
  kn_mk 65 E rfl rfl (fun _ _ _ _ _ _ us hl => match us, hl with | [_, _], _ => rfl) fun f fd F => fn_mk F sc__law_sub (by
    rintro X C cdv A outer s H E' P0 ds p rfl rfl hr ⟨x, y, rfl, hx, hy, hp⟩
    have nd := sc__law_sub.nd
    dsimp only [iniL, iniN, List.tail]
    refine sw_one (s1_ret (EV.r (ev_fn (k__law_add E) hr (by decide) (evs_cons (ev_var 0 rfl) (evs_one (ev_fn (k__law_neg E) hr (by decide) (evs_one (ev_var 1 rfl)) ⟨_, rfl, rfl⟩))) ⟨_, _, rfl, hx, hy.neg, rfl⟩)) ?_)
    all_goals (try dsimp only [List.set])
    rw [← Rat.sub_eq_add_neg]
    exact hp)
theorem sc__law_mul : FnScope ["_law_one", "_law_other_here"] ["_law_one", "_law_other_here"] (defScope (top 87)) := ⟨rfl, rfl, rfl, by decide +kernel, rfl, by decide +kernel, by decide +kernel⟩
def pm__law_mul : Pm := fun ds p => ∃ x y : Rat, ds = [fr x, fr y] ∧ RB Sz Sz x ∧ RB Sz Sz y ∧ p (fr (x * y))
theorem k__law_mul (E : Hd K mg) : Kn P w K mg base "_law_mul" [] 2 (spD K W 2 pm__law_mul) :=
  kn_mk 66 E rfl rfl (fun _ _ _ _ _ _ us hl => match us, hl with | [_, _], _ => rfl) fun f fd F => fn_mk F sc__law_mul (by
    rintro X C cdv A outer s H E' P0 ds p rfl rfl hr ⟨x, y, rfl, hx, hy, hp⟩
    have nd := sc__law_mul.nd
    dsimp only [iniL, iniN, List.tail]
    refine sw_one (s1_ret (EV.r (ev_fn (k__law_frac E) hr (by decide) (evs_cons (ev_mul (ev_num (ev_var 0 rfl)) (ev_num (ev_var 1 rfl)) (cm_of hx.1 hy.1 (by decide)))
      (evs_one (ev_mul (ev_den (ev_var 0 rfl)) (ev_den (ev_var 1 rfl)) (cm_of hx.dlt hy.dlt (by decide))))) ⟨_, _, rfl, Int.mul_ne_zero (den_ne x) (den_ne y), den2 hx hy (by decide), ?_⟩)) hp)
    rw [mul_divInt])
theorem sc__law_div : FnScope ["_law_one", "_law_other_here"] ["_law_one", "_law_other_here"] (defScope (top 88)) := ⟨rfl, rfl, rfl, by decide +kernel, rfl, by decide +kernel, by decide +kernel⟩
def pm__law_div : Pm := fun ds p => ∃ x y : Rat, ds = [fr x, fr y] ∧ RB Sz Sz x ∧ RB Sz Sz y ∧ y ≠ 0 ∧ p (fr (x / y))
theorem k__law_div (E : Hd K mg) : Kn P w K mg base "_law_div" [] 2 (spD K W 2 pm__law_div) :=
  kn_mk 67 E rfl rfl (fun _ _ _ _ _ _ us hl => match us, hl with | [_, _], _ => rfl) fun f fd F => fn_mk F sc__law_div (by
    rintro X C cdv A outer s H E' P0 ds p rfl rfl hr ⟨x, y, rfl, hx, hy, h0, hp⟩
    have nd := sc__law_div.nd
    dsimp only [iniL, iniN, List.tail]
    refine sw_one (s1_ret (EV.r (ev_fn (k__law_frac E) hr (by decide) (evs_cons (ev_mul (ev_num (ev_var 0 rfl)) (ev_den (ev_var 1 rfl)) (cm_of hx.1 hy.dlt (by decide)))
      (evs_one (ev_mul (ev_den (ev_var 0 rfl)) (ev_num (ev_var 1 rfl)) (cm_of hx.dlt hy.1 (by decide))))) ⟨_, _, rfl, Int.mul_ne_zero (den_ne x) fun z => h0 (Rat.num_eq_zero.mp z), num2 hx hy (by decide), ?_⟩)) hp)
    rw [div_divInt])
theorem sc__law_less : FnScope ["_law_one", "_law_other_here"] ["_law_one", "_law_other_here"] (defScope (top 89)) := ⟨rfl, rfl, rfl, by decide +kernel, rfl, by decide +kernel, by decide +kernel⟩
def pm__law_less : Pm := fun ds p => ∃ x y : Rat, ds = [fr x, fr y] ∧ RB Sz Sz x ∧ RB Sz Sz y ∧ p (.bool (decide (x < y)))
theorem k__law_less (E : Hd K mg) : Kn P w K mg base "_law_less" [] 1 (spD K W 2 pm__law_less) :=
  kn_mk 68 E rfl rfl (fun _ _ _ _ _ _ us hl => match us, hl with | [_, _], _ => rfl) fun f fd F => fn_mk F sc__law_less (by
    rintro X C cdv A outer s H E' P0 ds p rfl rfl hr ⟨x, y, rfl, hx, hy, hp⟩
    have nd := sc__law_less.nd
    dsimp only [iniL, iniN, List.tail]
    refine sw_one (s1_ret (EV.r (EV.is (ev_lt (ev_mul (ev_num (ev_var 0 rfl)) (ev_den (ev_var 1 rfl)) (cm_of hx.1 hy.dlt (by decide))) (ev_mul (ev_num (ev_var 1 rfl)) (ev_den (ev_var 0 rfl)) (cm_of hy.1 hx.dlt (by decide)))) ?_)) hp)
    rw [decide_eq_decide.mpr (Rat.lt_iff x y)])
theorem sc__law_least : FnScope ["_law_values", "_law_best", "_law_value"] ["_law_values"] (defScope (top 90)) := ⟨rfl, rfl, rfl, by decide +kernel, rfl, by decide +kernel, by decide +kernel⟩
def pm__law_least : Pm := fun ds p => ∃ xs : List Rat, ds = [.list (xs.map fr)] ∧ xs.length ≤ 100000 ∧ (∀ x ∈ xs, RB Sz Sz x) ∧ p (ofr (leastL xs))
theorem k__law_least (E : Hd K mg) : Kn P w K mg base "_law_least" [] 2 (spD K W 1 pm__law_least) :=
  kn_mk 69 E rfl rfl (fun _ _ _ _ _ _ us hl => match us, hl with | [_], _ => rfl) fun f fd F => fn_mk F sc__law_least (by
    rintro X C cdv A outer s H E' P0 ds p rfl rfl hr ⟨xs, rfl, hz, hb, hp⟩
    have nd := sc__law_least.nd
    dsimp only [iniL, iniN, List.tail]
    refine sw_cons (s1_set 1 nd ev_non ?_)
    all_goals (try dsimp only [List.set])
    refine sw_cons (s1_for fr xs (iv_lst (ev_var 0 rfl)) (fun i Γ => ∃ v, Γ = [.pu (.list (xs.map fr)), .pu (ofr (leastL (xs.take i))), v]) ⟨_, rfl⟩ ?_ ?_)
    all_goals (try dsimp only [List.set])
    · rintro i x _ hx ⟨v, rfl⟩
      have hm := List.mem_of_getElem? hx
      have ht : xs.take (i + 1) = xs.take i ++ [x] := by rw [List.take_succ, hx]; rfl
      refine ⟨_, _, gv_name 2 nd, ?_⟩
      have hB := fun b hb' => leastL_mem (xs := xs.take i) (b := b) hb'
      cases e : leastL (xs.take i) with
      | none =>
        refine sw_one (s1_if (TW.tv (tw_or (y := false) (tv_isN (ev_var 1 rfl)) fun h => (by cases h))) (fun _ => sw_one (s1_set 1 nd (ev_var 2 rfl) ⟨.pu (fr x), ?_⟩)) fun h => by cases h)
        rw [ht, leastL_add, e]
        rfl
      | some b =>
        refine sw_one (s1_if (TW.tv (tw_or (tv_isN (ev_var 1 rfl)) fun h => tw_or1 (tv_val (ev_fn (k__law_less E) hr (by decide) (evs_cons (ev_var 2 rfl) (evs_one (ev_var 1 rfl))) ⟨x, b, rfl, hb x hm, hb b (List.mem_of_mem_take (hB b e)), rfl⟩)))) (fun h => sw_one (s1_set 1 nd (ev_var 2 rfl) ⟨.pu (fr x), ?_⟩)) fun h => sw_nil ⟨.pu (fr x), ?_⟩)
        · have h' : x < b := by simpa [isN, ofr, fr] using h
          rw [ht, leastL_add, e]
          show _ = [_, Sl.pu (ofr (if x < b then some x else some b)), _]
          rw [if_pos h']
          rfl
        · have h' : ¬ x < b := by simpa [isN, ofr, fr] using h
          rw [ht, leastL_add, e]
          show _ = [_, Sl.pu (ofr (if x < b then some x else some b)), _]
          rw [if_neg h']
          rfl
    · rintro _ ⟨v, rfl⟩
      rw [List.take_length]
      exact sw_one (s1_ret (EV.r (ev_var 1 rfl)) hp))
theorem sc__law_greatest : FnScope ["_law_values", "_law_best", "_law_value"] ["_law_values"] (defScope (top 91)) := ⟨rfl, rfl, rfl, by decide +kernel, rfl, by decide +kernel, by decide +kernel⟩
def pm__law_greatest : Pm := fun ds p => ∃ xs : List Rat, ds = [.list (xs.map fr)] ∧ xs.length ≤ 100000 ∧ (∀ x ∈ xs, RB Sz Sz x) ∧ p (ofr (greatL xs))
theorem k__law_greatest (E : Hd K mg) : Kn P w K mg base "_law_greatest" [] 2 (spD K W 1 pm__law_greatest) :=
  kn_mk 70 E rfl rfl (fun _ _ _ _ _ _ us hl => match us, hl with | [_], _ => rfl) fun f fd F => fn_mk F sc__law_greatest (by
    rintro X C cdv A outer s H E' P0 ds p rfl rfl hr ⟨xs, rfl, hz, hb, hp⟩
    have nd := sc__law_greatest.nd
    dsimp only [iniL, iniN, List.tail]
    refine sw_cons (s1_set 1 nd ev_non ?_)
    all_goals (try dsimp only [List.set])
    refine sw_cons (s1_for fr xs (iv_lst (ev_var 0 rfl)) (fun i Γ => ∃ v, Γ = [.pu (.list (xs.map fr)), .pu (ofr (greatL (xs.take i))), v]) ⟨_, rfl⟩ ?_ ?_)
    all_goals (try dsimp only [List.set])
    · rintro i x _ hx ⟨v, rfl⟩
      have hm := List.mem_of_getElem? hx
      have ht : xs.take (i + 1) = xs.take i ++ [x] := by rw [List.take_succ, hx]; rfl
      refine ⟨_, _, gv_name 2 nd, ?_⟩
      have hB := fun b hb' => greatL_mem (xs := xs.take i) (b := b) hb'
      cases e : greatL (xs.take i) with
      | none =>
        refine sw_one (s1_if (TW.tv (tw_or (y := false) (tv_isN (ev_var 1 rfl)) fun h => (by cases h))) (fun _ => sw_one (s1_set 1 nd (ev_var 2 rfl) ⟨.pu (fr x), ?_⟩)) fun h => by cases h)
        rw [ht, greatL_add, e]
        rfl
      | some b =>
        refine sw_one (s1_if (TW.tv (tw_or (tv_isN (ev_var 1 rfl)) fun h => tw_or1 (tv_val (ev_fn (k__law_less E) hr (by decide) (evs_cons (ev_var 1 rfl) (evs_one (ev_var 2 rfl))) ⟨b, x, rfl, hb b (List.mem_of_mem_take (hB b e)), hb x hm, rfl⟩)))) (fun h => sw_one (s1_set 1 nd (ev_var 2 rfl) ⟨.pu (fr x), ?_⟩)) fun h => sw_nil ⟨.pu (fr x), ?_⟩)
        · have h' : b < x := by simpa [isN, ofr, fr] using h
          rw [ht, greatL_add, e]
          show _ = [_, Sl.pu (ofr (if b < x then some x else some b)), _]
          rw [if_pos h']
          rfl
        · have h' : ¬ b < x := by simpa [isN, ofr, fr] using h
          rw [ht, greatL_add, e]
          show _ = [_, Sl.pu (ofr (if b < x then some x else some b)), _]
          rw [if_neg h']
          rfl
    · rintro _ ⟨v, rfl⟩
      rw [List.take_length]
      exact sw_one (s1_ret (EV.r (ev_var 1 rfl)) hp))
end
end RT
end
section
set_option Elab.async false
set_option linter.all false
set_option maxRecDepth 100000
set_option maxHeartbeats 4000000
set_option exponentiation.threshold 20000
/-! B3: fractions with their sizes. -/
namespace RT
open PySem PySem.Spec PyProof.Rows L2
/-- e evaluates to the fraction q, of size n, d -/
structure EQ (X : Cx) (C : Ct) (e : Expr) (Γ : List Sl) (n d : Nat) (q : Rat) : Prop where
  ev : EV X C e Γ (fr q)
  rb : RB n d q
def fitB (n d m e : Nat) : Bool := Nat.ble n Sz && Nat.ble d Sz && Nat.ble m Sz && Nat.ble e Sz
theorem fitB_of {n d m e : Nat} {x y : Rat} (h : fitB n d m e = true) (hx : RB n d x) (hy : RB m e y) : RB Sz Sz x ∧ RB Sz Sz y := by
  unfold fitB at h
  simp only [Bool.and_eq_true, Nat.ble_eq] at h
  exact ⟨hx.mono h.1.1.1 h.1.1.2, hy.mono h.1.2 h.2⟩
section
variable {X : Cx} {C : Ct} {Γ : List Sl} {e a b : Expr} {pos p : Pos} {k n d m l : Nat} {x y : Rat} {i : Int}
theorem EQ.is (h : EQ X C e Γ n d x) (z : x = y) : EQ X C e Γ n d y := by rw [← z]; exact h
theorem EQ.mono (h : EQ X C e Γ n d x) (h1 : n ≤ m := by decide) (h2 : d ≤ l := by decide) : EQ X C e Γ m l x := ⟨h.ev, h.rb.mono h1 h2⟩
theorem eq_add (E : Hd X.K X.mg) (hr : Room k X.A) (ha : EQ X C a Γ n d x) (hb : EQ X C b Γ m l y) (hk : 3 ≤ k := by decide) (hz : fitB n d m l = true := by decide) (hg : Gl X "add" := by rfl) (he : starEach [a, b] X.env = (false, eval a X.env) :: starEach [b] X.env := by rfl) (hpl : (backTo pos (starEach [b] X.env)).any (·.1) = false := by rfl) (he2 : starEach [b] X.env = (false, eval b X.env) :: starEach [] X.env := by rfl) : EQ X C (.Call (.Name "add" p) [a, b] [] pos) Γ (max (n + l) (m + d) + 1) (d + l) (x + y) :=
  ⟨ev_fn (k_add E) hr hk (evs_cons ha.ev (evs_one hb.ev he2) he) ⟨x, y, rfl, (fitB_of hz ha.rb hb.rb).1, (fitB_of hz ha.rb hb.rb).2, rfl⟩ rfl hg (by decide) he hpl, RB.add ha.rb hb.rb⟩
theorem eq_sub (E : Hd X.K X.mg) (hr : Room k X.A) (ha : EQ X C a Γ n d x) (hb : EQ X C b Γ m l y) (hk : 4 ≤ k := by decide) (hz : fitB n d m l = true := by decide) (hg : Gl X "subtract" := by rfl) (he : starEach [a, b] X.env = (false, eval a X.env) :: starEach [b] X.env := by rfl) (hpl : (backTo pos (starEach [b] X.env)).any (·.1) = false := by rfl) (he2 : starEach [b] X.env = (false, eval b X.env) :: starEach [] X.env := by rfl) : EQ X C (.Call (.Name "subtract" p) [a, b] [] pos) Γ (max (n + l) (m + d) + 1) (d + l) (x - y) :=
  ⟨ev_fn (k_subtract E) hr hk (evs_cons ha.ev (evs_one hb.ev he2) he) ⟨x, y, rfl, (fitB_of hz ha.rb hb.rb).1, (fitB_of hz ha.rb hb.rb).2, rfl⟩ rfl hg (by decide) he hpl, RB.sub ha.rb hb.rb⟩
theorem eq_mul (E : Hd X.K X.mg) (hr : Room k X.A) (ha : EQ X C a Γ n d x) (hb : EQ X C b Γ m l y) (hk : 3 ≤ k := by decide) (hz : fitB n d m l = true := by decide) (hg : Gl X "multiply" := by rfl) (he : starEach [a, b] X.env = (false, eval a X.env) :: starEach [b] X.env := by rfl) (hpl : (backTo pos (starEach [b] X.env)).any (·.1) = false := by rfl) (he2 : starEach [b] X.env = (false, eval b X.env) :: starEach [] X.env := by rfl) : EQ X C (.Call (.Name "multiply" p) [a, b] [] pos) Γ (n + m) (d + l) (x * y) :=
  ⟨ev_fn (k_multiply E) hr hk (evs_cons ha.ev (evs_one hb.ev he2) he) ⟨x, y, rfl, (fitB_of hz ha.rb hb.rb).1, (fitB_of hz ha.rb hb.rb).2, rfl⟩ rfl hg (by decide) he hpl, RB.mul ha.rb hb.rb⟩
theorem eq_div (E : Hd X.K X.mg) (hr : Room k X.A) (ha : EQ X C a Γ n d x) (hb : EQ X C b Γ m l y) (h0 : y ≠ 0) (hk : 3 ≤ k := by decide) (hz : fitB n d m l = true := by decide) (hg : Gl X "divide" := by rfl) (he : starEach [a, b] X.env = (false, eval a X.env) :: starEach [b] X.env := by rfl) (hpl : (backTo pos (starEach [b] X.env)).any (·.1) = false := by rfl) (he2 : starEach [b] X.env = (false, eval b X.env) :: starEach [] X.env := by rfl) : EQ X C (.Call (.Name "divide" p) [a, b] [] pos) Γ (n + l) (d + m) (x / y) :=
  ⟨ev_fn (k_divide E) hr hk (evs_cons ha.ev (evs_one hb.ev he2) he) ⟨x, y, rfl, (fitB_of hz ha.rb hb.rb).1, (fitB_of hz ha.rb hb.rb).2, h0, rfl⟩ rfl hg (by decide) he hpl, RB.div ha.rb hb.rb h0⟩
theorem lq_add (E : Hd X.K X.mg) (hr : Room k X.A) (ha : EQ X C a Γ n d x) (hb : EQ X C b Γ m l y) (hk : 2 ≤ k := by decide) (hz : fitB n d m l = true := by decide) (hg : Gl X "_law_add" := by rfl) (he : starEach [a, b] X.env = (false, eval a X.env) :: starEach [b] X.env := by rfl) (hpl : (backTo pos (starEach [b] X.env)).any (·.1) = false := by rfl) (he2 : starEach [b] X.env = (false, eval b X.env) :: starEach [] X.env := by rfl) : EQ X C (.Call (.Name "_law_add" p) [a, b] [] pos) Γ (max (n + l) (m + d) + 1) (d + l) (x + y) :=
  ⟨ev_fn (k__law_add E) hr hk (evs_cons ha.ev (evs_one hb.ev he2) he) ⟨x, y, rfl, (fitB_of hz ha.rb hb.rb).1, (fitB_of hz ha.rb hb.rb).2, rfl⟩ rfl hg (by decide) he hpl, RB.add ha.rb hb.rb⟩
theorem lq_sub (E : Hd X.K X.mg) (hr : Room k X.A) (ha : EQ X C a Γ n d x) (hb : EQ X C b Γ m l y) (hk : 3 ≤ k := by decide) (hz : fitB n d m l = true := by decide) (hg : Gl X "_law_sub" := by rfl) (he : starEach [a, b] X.env = (false, eval a X.env) :: starEach [b] X.env := by rfl) (hpl : (backTo pos (starEach [b] X.env)).any (·.1) = false := by rfl) (he2 : starEach [b] X.env = (false, eval b X.env) :: starEach [] X.env := by rfl) : EQ X C (.Call (.Name "_law_sub" p) [a, b] [] pos) Γ (max (n + l) (m + d) + 1) (d + l) (x - y) :=
  ⟨ev_fn (k__law_sub E) hr hk (evs_cons ha.ev (evs_one hb.ev he2) he) ⟨x, y, rfl, (fitB_of hz ha.rb hb.rb).1, (fitB_of hz ha.rb hb.rb).2, rfl⟩ rfl hg (by decide) he hpl, RB.sub ha.rb hb.rb⟩
theorem lq_mul (E : Hd X.K X.mg) (hr : Room k X.A) (ha : EQ X C a Γ n d x) (hb : EQ X C b Γ m l y) (hk : 2 ≤ k := by decide) (hz : fitB n d m l = true := by decide) (hg : Gl X "_law_mul" := by rfl) (he : starEach [a, b] X.env = (false, eval a X.env) :: starEach [b] X.env := by rfl) (hpl : (backTo pos (starEach [b] X.env)).any (·.1) = false := by rfl) (he2 : starEach [b] X.env = (false, eval b X.env) :: starEach [] X.env := by rfl) : EQ X C (.Call (.Name "_law_mul" p) [a, b] [] pos) Γ (n + m) (d + l) (x * y) :=
  ⟨ev_fn (k__law_mul E) hr hk (evs_cons ha.ev (evs_one hb.ev he2) he) ⟨x, y, rfl, (fitB_of hz ha.rb hb.rb).1, (fitB_of hz ha.rb hb.rb).2, rfl⟩ rfl hg (by decide) he hpl, RB.mul ha.rb hb.rb⟩
theorem lq_div (E : Hd X.K X.mg) (hr : Room k X.A) (ha : EQ X C a Γ n d x) (hb : EQ X C b Γ m l y) (h0 : y ≠ 0) (hk : 2 ≤ k := by decide) (hz : fitB n d m l = true := by decide) (hg : Gl X "_law_div" := by rfl) (he : starEach [a, b] X.env = (false, eval a X.env) :: starEach [b] X.env := by rfl) (hpl : (backTo pos (starEach [b] X.env)).any (·.1) = false := by rfl) (he2 : starEach [b] X.env = (false, eval b X.env) :: starEach [] X.env := by rfl) : EQ X C (.Call (.Name "_law_div" p) [a, b] [] pos) Γ (n + l) (d + m) (x / y) :=
  ⟨ev_fn (k__law_div E) hr hk (evs_cons ha.ev (evs_one hb.ev he2) he) ⟨x, y, rfl, (fitB_of hz ha.rb hb.rb).1, (fitB_of hz ha.rb hb.rb).2, h0, rfl⟩ rfl hg (by decide) he hpl, RB.div ha.rb hb.rb h0⟩
theorem eq_neg (E : Hd X.K X.mg) (hr : Room k X.A) (ha : EQ X C a Γ n d x) (hk : 1 ≤ k := by decide) (hg : Gl X "negative" := by rfl) (he : starEach [a] X.env = (false, eval a X.env) :: starEach [] X.env := by rfl) (hpl : (backTo pos (starEach [] X.env)).any (·.1) = false := by rfl) : EQ X C (.Call (.Name "negative" p) [a] [] pos) Γ n d (-x) :=
  ⟨ev_fn (k_negative E) hr hk (evs_one ha.ev he) ⟨x, rfl, rfl⟩ rfl hg (by decide) he hpl, ha.rb.neg⟩
theorem lq_neg (E : Hd X.K X.mg) (hr : Room k X.A) (ha : EQ X C a Γ n d x) (hk : 1 ≤ k := by decide) (hg : Gl X "_law_neg" := by rfl) (he : starEach [a] X.env = (false, eval a X.env) :: starEach [] X.env := by rfl) (hpl : (backTo pos (starEach [] X.env)).any (·.1) = false := by rfl) : EQ X C (.Call (.Name "_law_neg" p) [a] [] pos) Γ n d (-x) :=
  ⟨ev_fn (k__law_neg E) hr hk (evs_one ha.ev he) ⟨x, rfl, rfl⟩ rfl hg (by decide) he hpl, ha.rb.neg⟩
theorem eq_int (E : Hd X.K X.mg) (hr : Room k X.A) (ha : EV X C a Γ (.int i)) (hi : i.natAbs < 2 ^ n) (hk : 2 ≤ k := by decide) (hg : Gl X "fraction" := by rfl) (he : starEach [a] X.env = (false, eval a X.env) :: starEach [] X.env := by rfl) (hpl : (backTo pos (starEach [] X.env)).any (·.1) = false := by rfl) : EQ X C (.Call (.Name "fraction" p) [a] [] pos) Γ n 0 (i : Rat) :=
  ⟨ev_frI E hr hk ha hg he hpl, RB.int hi⟩
theorem ev_cmpQ (E : Hd X.K X.mg) (hr : Room k X.A) (ha : EQ X C a Γ n d x) (hb : EQ X C b Γ m l y) (hk : 5 ≤ k := by decide) (hz : fitB n d m l = true := by decide) (hg : Gl X "compare" := by rfl) (he : starEach [a, b] X.env = (false, eval a X.env) :: starEach [b] X.env := by rfl) (hpl : (backTo pos (starEach [b] X.env)).any (·.1) = false := by rfl) (he2 : starEach [b] X.env = (false, eval b X.env) :: starEach [] X.env := by rfl) : EV X C (.Call (.Name "compare" p) [a, b] [] pos) Γ (.int (cmp x y)) :=
  ev_fn (k_compare E) hr hk (evs_cons ha.ev (evs_one hb.ev he2) he) ⟨x, y, rfl, (fitB_of hz ha.rb hb.rb).1, (fitB_of hz ha.rb hb.rb).2, rfl⟩ rfl hg (by decide) he hpl
theorem ev_sgnQ (E : Hd X.K X.mg) (hr : Room k X.A) (ha : EV X C a Γ (fr x)) (hk : 1 ≤ k := by decide) (hg : Gl X "sign" := by rfl) (he : starEach [a] X.env = (false, eval a X.env) :: starEach [] X.env := by rfl) (hpl : (backTo pos (starEach [] X.env)).any (·.1) = false := by rfl) : EV X C (.Call (.Name "sign" p) [a] [] pos) Γ (.int (sgn x)) :=
  ev_fn (k_sign E) hr hk (evs_one ha he) ⟨x, rfl, rfl⟩ rfl hg (by decide) he hpl
theorem ev_lessL (E : Hd X.K X.mg) (hr : Room k X.A) (ha : EQ X C a Γ n d x) (hb : EQ X C b Γ m l y) (hk : 1 ≤ k := by decide) (hz : fitB n d m l = true := by decide) (hg : Gl X "_law_less" := by rfl) (he : starEach [a, b] X.env = (false, eval a X.env) :: starEach [b] X.env := by rfl) (hpl : (backTo pos (starEach [b] X.env)).any (·.1) = false := by rfl) (he2 : starEach [b] X.env = (false, eval b X.env) :: starEach [] X.env := by rfl) : EV X C (.Call (.Name "_law_less" p) [a, b] [] pos) Γ (.bool (decide (x < y))) :=
  ev_fn (k__law_less E) hr hk (evs_cons ha.ev (evs_one hb.ev he2) he) ⟨x, y, rfl, (fitB_of hz ha.rb hb.rb).1, (fitB_of hz ha.rb hb.rb).2, rfl⟩ rfl hg (by decide) he hpl
theorem eq_zero (E : Hd X.K X.mg) (hg : Gl X "ZERO" := by rfl) : EQ X C (.Name "ZERO" pos) Γ 0 0 0 := ⟨ev_zero E hg, RB.zero⟩
theorem eq_one (E : Hd X.K X.mg) (hg : Gl X "ONE" := by rfl) : EQ X C (.Name "ONE" pos) Γ 1 0 1 := ⟨ev_oneQ E hg, RB.one⟩
/-- the pair (i, 1) is a whole number as a fraction -/
theorem eq_pair {j x1 : Nat} {p2 : Pos} (ha : EV X C a Γ (.int i)) (hi : i.natAbs < 2 ^ n) (he : starEach [a, .Constant (.int 1) j p2] X.env = (false, eval a X.env) :: starEach [.Constant (.int 1) j p2] X.env := by rfl) (he2 : starEach [.Constant (.int 1) j p2] X.env = (false, eval (.Constant (.int 1) j p2) X.env) :: starEach [] X.env := by rfl) : EQ X C (.Tuple [a, .Constant (.int 1) j p2] x1 pos) Γ n 0 (i : Rat) :=
  ⟨ev_tup (evs_cons ha (evs_one ev_int he2) he), RB.int hi⟩
end
end RT
end
section
set_option Elab.async false
set_option linter.all false
set_option maxRecDepth 100000
set_option maxHeartbeats 4000000
set_option exponentiation.threshold 20000


/-! B4: maps, half planes. -/
namespace RT
open PySem PySem.Spec PyProof.Rows L2
/-- sizes of what a train is made of -/
def ElB : El → Prop
  | .gap x => RB 8 4 x
  | .lens p c => RB 8 4 p ∧ RB 8 4 c
  | .prism x => RB 8 4 x
  | .afocal m => RB 8 4 m ∧ m ≠ 0
  | .stop lo hi => (∀ x, lo = some x → RB 8 4 x) ∧ (∀ x, hi = some x → RB 8 4 x)
structure MpB (n k : Nat) (m : Mp) : Prop where
  a : RB n k m.a
  b : RB n k m.b
  c : RB n k m.c
  d : RB n k m.d
  e : RB n k m.e
  f : RB n k m.f
structure TrB (t : List El) : Prop where
  el : ∀ e ∈ t, ElB e
  mp : ∀ i, MpB 110 110 (mapOf (t.take i))
  ab : ∀ i, (mapOf (t.take i)).a ≠ 0 ∨ (mapOf (t.take i)).b ≠ 0
  len : t.length ≤ 100
theorem elMap_b {e : El} (h : ElB e) : MpB 16 16 (elMap e) := by
  have z := RB.zero.mono (m := 16) (e := 16) (by decide) (by decide)
  have o := RB.one.mono (m := 16) (e := 16) (by decide) (by decide)
  cases e with
  | gap x => exact ⟨o, h.mono (by decide) (by decide), z, o, z, z⟩
  | lens p c => exact ⟨o, z, h.1.neg.mono (by decide) (by decide), o, z, (h.1.mul h.2).mono (by decide) (by decide)⟩
  | prism x => exact ⟨o, z, z, o, z, h.mono (by decide) (by decide)⟩
  | afocal m => exact ⟨h.1.mono (by decide) (by decide), z, z, (RB.one.div h.1 h.2).mono (by decide) (by decide), z, z⟩
  | stop _ _ => exact ⟨o, z, z, o, z, z⟩
section
variable {P : Program} {w : World} {K : PySem.W.Frag} {mg : Str → Option Value} {base : Heap} {W : Wo}
section
variable {X : Cx} {C : Ct} {Γ : List Sl} {a b : Expr} {pos : Pos} {k : Nat} {d1 d2 : PD} {ds : List PD} {x y : Rat}
theorem tv_eqD (hr : Room k X.A) (ha : EV X C a Γ d1) (hb : EV X C b Γ d2) (s1 : SeqAt.shaped d1 = true := by rfl) (s2 : SeqAt.shaped d2 = true := by rfl) (hm : behindInMarks .Eq b = false := by first | exact nomark _ | rfl) : TV X C (.Compare a [.Eq] [b] pos) Γ (PyData.eqv d1 d2) := tv_cmp (op_eqD hr.units) (rd_eqD s1 s2) ha hb hm
theorem tv_eqQ (hr : Room k X.A) (ha : EV X C a Γ (fr x)) (hb : EV X C b Γ (fr y)) (hm : behindInMarks .Eq b = false := by first | exact nomark _ | rfl) : TV X C (.Compare a [.Eq] [b] pos) Γ (decide (x = y)) := (tv_eqD hr ha hb rfl rfl hm).is (eqv_fr x y)
theorem tv_eqS {s t : Str} (ha : EV X C a Γ (.str s)) (hb : EV X C b Γ (.str t)) (hm : behindInMarks .Eq b = false := by first | exact nomark _ | rfl) : TV X C (.Compare a [.Eq] [b] pos) Γ (decide (s = t)) := tv_cmp op_eq rd_eqS ha hb hm
theorem s1_take {c : Expr} {B : Po} {t1 t2 : List Stmt} {v : Bool} (hc : TV X C c Γ v) (hv : v = true) (h1 : SW X C t1 Γ B) : S1 X C (.If c t1 t2 pos) Γ B := s1_if hc (fun _ => h1) fun h => by rw [hv] at h; cases h
theorem s1_skip {c : Expr} {B : Po} {t1 t2 : List Stmt} {v : Bool} (hc : TV X C c Γ v) (hv : v = false) (h2 : SW X C t2 Γ B) : S1 X C (.If c t1 t2 pos) Γ B := s1_if hc (fun h => by rw [hv] at h; cases h) fun _ => h2
/-- the name of an element -/
def elS : El → Str
  | .gap _ => "gap"
  | .lens _ _ => "lens"
  | .prism _ => "prism"
  | .afocal _ => "afocal"
  | .stop _ _ => "stop"
theorem ev_el0 {e : El} {j : Nat} {p2 : Pos} (ha : EV X C a Γ (el e)) : EV X C (.Subscript a (.Constant (.int 0) j p2) pos) Γ (.str (elS e)) := by
  cases e <;> exact ev_ixT ha ev_int rfl
end
theorem sc_element_map : FnScope ["element"] ["element"] (defScope (top 17)) := ⟨rfl, rfl, rfl, by decide +kernel, rfl, by decide +kernel, by decide +kernel⟩
def pm_element_map : Pm := fun ds p => ∃ e : El, ds = [el e] ∧ ElB e ∧ p (mp (elMap e))
theorem k_element_map (E : Hd K mg) : Kn P w K mg base "element_map" [] 4 (spD K W 1 pm_element_map) :=
  kn_mk 11 E rfl rfl (fun _ _ _ _ _ _ us hl => match us, hl with | [_], _ => rfl) fun f fd F => fn_mk F sc_element_map (by
    rintro X C cdv A outer s H E' P0 ds p rfl rfl hr ⟨e, rfl, he, hp⟩
    have nd := sc_element_map.nd
    dsimp only [iniL, iniN, List.tail]
    have o := @RB.one
    cases e with
    | gap x =>
      exact sw_cons (s1_take (tv_eqS (ev_el0 (ev_var 0 rfl)) ev_str) rfl (sw_one (s1_ret (EV.r (ev_tup (evs_cons (ev_oneQ E) (evs_cons (ev_ixT (ev_var 0 rfl) ev_int rfl) (evs_cons (ev_zero E) (evs_cons (ev_oneQ E) (evs_cons (ev_zero E) (evs_one (ev_zero E))))))))) hp)))
    | lens q c =>
      refine sw_cons (s1_skip (tv_eqS (ev_el0 (ev_var 0 rfl)) ev_str) rfl (sw_nil ?_))
      all_goals (try dsimp only [List.set])
      exact sw_cons (s1_take (tv_eqS (ev_el0 (ev_var 0 rfl)) ev_str) rfl (sw_one (s1_ret (EV.r (ev_tup (evs_cons (ev_oneQ E) (evs_cons (ev_zero E) (evs_cons (ev_fn (k_negative E) hr (by decide) (evs_one (ev_ixT (ev_var 0 rfl) ev_int rfl)) ⟨q, rfl, rfl⟩) (evs_cons (ev_oneQ E) (evs_cons (ev_zero E) (evs_one (ev_fn (k_multiply E) hr (by decide) (evs_cons (ev_ixT (ev_var 0 rfl) ev_int rfl) (evs_one (ev_ixT (ev_var 0 rfl) ev_int rfl))) ⟨q, c, rfl, he.1.mono (by decide) (by decide), he.2.mono (by decide) (by decide), rfl⟩))))))))) hp)))
    | prism x =>
      refine sw_cons (s1_skip (tv_eqS (ev_el0 (ev_var 0 rfl)) ev_str) rfl (sw_nil ?_))
      all_goals (try dsimp only [List.set])
      refine sw_cons (s1_skip (tv_eqS (ev_el0 (ev_var 0 rfl)) ev_str) rfl (sw_nil ?_))
      all_goals (try dsimp only [List.set])
      exact sw_cons (s1_take (tv_eqS (ev_el0 (ev_var 0 rfl)) ev_str) rfl (sw_one (s1_ret (EV.r (ev_tup (evs_cons (ev_oneQ E) (evs_cons (ev_zero E) (evs_cons (ev_zero E) (evs_cons (ev_oneQ E) (evs_cons (ev_zero E) (evs_one (ev_ixT (ev_var 0 rfl) ev_int rfl))))))))) hp)))
    | afocal m =>
      refine sw_cons (s1_skip (tv_eqS (ev_el0 (ev_var 0 rfl)) ev_str) rfl (sw_nil ?_))
      all_goals (try dsimp only [List.set])
      refine sw_cons (s1_skip (tv_eqS (ev_el0 (ev_var 0 rfl)) ev_str) rfl (sw_nil ?_))
      all_goals (try dsimp only [List.set])
      refine sw_cons (s1_skip (tv_eqS (ev_el0 (ev_var 0 rfl)) ev_str) rfl (sw_nil ?_))
      all_goals (try dsimp only [List.set])
      exact sw_cons (s1_take (tv_eqS (ev_el0 (ev_var 0 rfl)) ev_str) rfl (sw_one (s1_ret (EV.r (ev_tup (evs_cons (ev_ixT (ev_var 0 rfl) ev_int rfl) (evs_cons (ev_zero E) (evs_cons (ev_zero E) (evs_cons (ev_fn (k_divide E) hr (by decide) (evs_cons (ev_oneQ E) (evs_one (ev_ixT (ev_var 0 rfl) ev_int rfl))) ⟨1, m, rfl, o.mono (by decide) (by decide), he.1.mono (by decide) (by decide), he.2, rfl⟩) (evs_cons (ev_zero E) (evs_one (ev_zero E))))))))) hp)))
    | stop lo hi =>
      refine sw_cons (s1_skip (tv_eqS (ev_el0 (ev_var 0 rfl)) ev_str) rfl (sw_nil ?_))
      all_goals (try dsimp only [List.set])
      refine sw_cons (s1_skip (tv_eqS (ev_el0 (ev_var 0 rfl)) ev_str) rfl (sw_nil ?_))
      all_goals (try dsimp only [List.set])
      refine sw_cons (s1_skip (tv_eqS (ev_el0 (ev_var 0 rfl)) ev_str) rfl (sw_nil ?_))
      all_goals (try dsimp only [List.set])
      refine sw_cons (s1_skip (tv_eqS (ev_el0 (ev_var 0 rfl)) ev_str) rfl (sw_nil ?_))
      all_goals (try dsimp only [List.set])
      exact sw_one (s1_ret (EV.r (ev_idn E)) hp))
theorem sc_weighted : FnScope ["first", "one", "second", "other"] ["first", "one", "second", "other"] (defScope (top 18)) := ⟨rfl, rfl, rfl, by decide +kernel, rfl, by decide +kernel, by decide +kernel⟩
def pm_weighted : Pm := fun ds p => ∃ a b c d : Rat, ds = [fr a, fr b, fr c, fr d] ∧ RB 220 220 a ∧ RB 220 220 b ∧ RB 220 220 c ∧ RB 220 220 d ∧ p (fr (wgt a b c d))
theorem k_weighted (E : Hd K mg) : Kn P w K mg base "weighted" [] 4 (spD K W 4 pm_weighted) :=
  kn_mk 12 E rfl rfl (fun _ _ _ _ _ _ us hl => match us, hl with | [_, _, _, _], _ => rfl) fun f fd F => fn_mk F sc_weighted (by
    rintro X C cdv A outer s H E' P0 ds p rfl rfl hr ⟨a, b, c, d, rfl, ha, hb, hc, hd, hp⟩
    have nd := sc_weighted.nd
    dsimp only [iniL, iniN, List.tail]
    exact sw_one (s1_ret (EV.r (eq_add E hr (eq_mul E hr ⟨ev_var 0 rfl, ha⟩ ⟨ev_var 1 rfl, hb⟩) (eq_mul E hr ⟨ev_var 2 rfl, hc⟩ ⟨ev_var 3 rfl, hd⟩)).ev) hp))
theorem wgt_b {n d m e : Nat} {a b c q : Rat} (ha : RB n d a) (hb : RB m e b) (hc : RB n d c) (hq : RB m e q) : RB (n + m + (d + e) + 1) (d + e + (d + e)) (wgt a b c q) := by
  have := (ha.mul hb).add (hc.mul hq)
  exact this.mono (by omega) (Nat.le_refl _)
theorem rd_b {n d : Nat} {x : Rat} (h : RB n d x) (h1 : n ≤ 220 := by decide) (h2 : d ≤ 220 := by decide) : RB 220 220 x := h.mono h1 h2
theorem sc_compose_maps : FnScope ["first", "second", "a", "b", "c", "d", "e", "f", "k", "m", "n", "o", "p", "q", "top", "bottom", "end"] ["first", "second"] (defScope (top 19)) := ⟨rfl, rfl, rfl, by decide +kernel, rfl, by decide +kernel, by decide +kernel⟩
def pm_compose_maps : Pm := fun ds p => ∃ f g : Mp, ds = [mp f, mp g] ∧ MpB 110 110 f ∧ MpB 16 16 g ∧ p (mp (comp f g))
theorem k_compose_maps (E : Hd K mg) : Kn P w K mg base "compose_maps" [] 5 (spD K W 2 pm_compose_maps) :=
  kn_mk 13 E rfl rfl (fun _ _ _ _ _ _ us hl => match us, hl with | [_, _], _ => rfl) fun f fd F => fn_mk F sc_compose_maps (by
    rintro X C cdv A outer s H E' P0 ds p rfl rfl hr ⟨f, g, rfl, hf, hg, hp⟩
    have nd := sc_compose_maps.nd
    dsimp only [iniL, iniN, List.tail]
    refine sw_cons (s1_asg (ev_var 0 rfl) (gv_tup (gvs_cons (gv_name 2 nd) (gvs_cons (gv_name 3 nd) (gvs_cons (gv_name 4 nd) (gvs_cons (gv_name 5 nd) (gvs_cons (gv_name 6 nd) (gvs_cons (gv_name 7 nd) gvs_nil))))))) ?_)
    all_goals (try dsimp only [List.set])
    refine sw_cons (s1_asg (ev_var 1 rfl) (gv_tup (gvs_cons (gv_name 8 nd) (gvs_cons (gv_name 9 nd) (gvs_cons (gv_name 10 nd) (gvs_cons (gv_name 11 nd) (gvs_cons (gv_name 12 nd) (gvs_cons (gv_name 13 nd) gvs_nil))))))) ?_)
    all_goals (try dsimp only [List.set])
    refine sw_cons (s1_set 14 nd (ev_tup (evs_cons (ev_fn (k_weighted E) hr (by decide) (evs_cons (ev_var 8 rfl) (evs_cons (ev_var 2 rfl) (evs_cons (ev_var 9 rfl) (evs_one (ev_var 4 rfl))))) ⟨g.a, f.a, g.b, f.c, rfl, rd_b hg.a, rd_b hf.a, rd_b hg.b, rd_b hf.c, rfl⟩)
      (evs_one (ev_fn (k_weighted E) hr (by decide) (evs_cons (ev_var 8 rfl) (evs_cons (ev_var 3 rfl) (evs_cons (ev_var 9 rfl) (evs_one (ev_var 5 rfl))))) ⟨g.a, f.b, g.b, f.d, rfl, rd_b hg.a, rd_b hf.b, rd_b hg.b, rd_b hf.d, rfl⟩)))) ?_)
    refine sw_cons (s1_set 15 nd (ev_tup (evs_cons (ev_fn (k_weighted E) hr (by decide) (evs_cons (ev_var 10 rfl) (evs_cons (ev_var 2 rfl) (evs_cons (ev_var 11 rfl) (evs_one (ev_var 4 rfl))))) ⟨g.c, f.a, g.d, f.c, rfl, rd_b hg.c, rd_b hf.a, rd_b hg.d, rd_b hf.c, rfl⟩)
      (evs_one (ev_fn (k_weighted E) hr (by decide) (evs_cons (ev_var 10 rfl) (evs_cons (ev_var 3 rfl) (evs_cons (ev_var 11 rfl) (evs_one (ev_var 5 rfl))))) ⟨g.c, f.b, g.d, f.d, rfl, rd_b hg.c, rd_b hf.b, rd_b hg.d, rd_b hf.d, rfl⟩)))) ?_)
    have e1 := wgt_b hg.a hf.e hg.b hf.f
    have e2 := wgt_b hg.c hf.e hg.d hf.f
    refine sw_cons (s1_set 16 nd (ev_tup (evs_cons (eq_add E hr ⟨ev_fn (k_weighted E) hr (by decide) (evs_cons (ev_var 8 rfl) (evs_cons (ev_var 6 rfl) (evs_cons (ev_var 9 rfl) (evs_one (ev_var 7 rfl))))) ⟨g.a, f.e, g.b, f.f, rfl, rd_b hg.a, rd_b hf.e, rd_b hg.b, rd_b hf.f, rfl⟩, e1⟩ ⟨ev_var 12 rfl, hg.e⟩).ev
      (evs_one (eq_add E hr ⟨ev_fn (k_weighted E) hr (by decide) (evs_cons (ev_var 10 rfl) (evs_cons (ev_var 6 rfl) (evs_cons (ev_var 11 rfl) (evs_one (ev_var 7 rfl))))) ⟨g.c, f.e, g.d, f.f, rfl, rd_b hg.c, rd_b hf.e, rd_b hg.d, rd_b hf.f, rfl⟩, e2⟩ ⟨ev_var 13 rfl, hg.f⟩).ev))) ?_)
    exact sw_one (s1_ret (EV.r (ev_catT (ev_catT (ev_var 14 rfl) (ev_var 15 rfl) (by simp) (by simp) (Nat.le_of_ble_eq_true rfl)) (ev_var 16 rfl) (by simp) (by simp) (Nat.le_of_ble_eq_true rfl))) hp))
/-- what make_half_plane works with -/
def mkPs (p q r : Rat) : Int := p.den * q.den * r.den
def mkPa (p q r x : Rat) : Int := x.num * (mkPs p q r / x.den)
theorem mkPs_lt {n d : Nat} {p q r : Rat} (hp : RB n d p) (hq : RB n d q) (hr : RB n d r) : (mkPs p q r).natAbs ≤ 2 ^ (d + d + d) := imul_le (imul_le (by simpa using hp.2) (by simpa using hq.2)) (by simpa using hr.2)
theorem div_nat_le {a : Int} {b : Nat} : (a / (b : Int)).natAbs ≤ a.natAbs := Int.natAbs_ediv_le_natAbs a b
theorem mkPa_lt {n d : Nat} {p q r x : Rat} (hp : RB n d p) (hq : RB n d q) (hr : RB n d r) (hx : RB n d x) : (mkPa p q r x).natAbs < 2 ^ (n + (d + d + d)) := imul_lt2 hx.1 (Nat.le_trans div_nat_le (mkPs_lt hp hq hr))
theorem mkPs_pos {p q r : Rat} : 0 < mkPs p q r := by
  have h1 := p.den_pos; have h2 := q.den_pos; have h3 := r.den_pos
  exact Int.mul_pos (Int.mul_pos (by omega) (by omega)) (by omega)
theorem mkPa_ne {p q r x : Rat} (hx : x ≠ 0) (hd : (x.den : Int) ∣ mkPs p q r) : mkPa p q r x ≠ 0 := by
  refine Int.mul_ne_zero (fun z => hx (Rat.num_eq_zero.mp z)) ?_
  obtain ⟨k, hk⟩ := hd
  have := @mkPs_pos p q r
  have hx := den_ne x
  rw [hk, Int.mul_ediv_cancel_left _ hx]
  intro z
  rw [z, Int.mul_zero] at hk
  omega
theorem mkPl_eq (p q r : Rat) : mkPl p q r = ⟨mkPa p q r p / igcd3 (mkPa p q r p) (mkPa p q r q) (mkPa p q r r), mkPa p q r q / igcd3 (mkPa p q r p) (mkPa p q r q) (mkPa p q r r), mkPa p q r r / igcd3 (mkPa p q r p) (mkPa p q r q) (mkPa p q r r)⟩ := rfl
theorem igcd3_le {a b c : Int} (h : a ≠ 0 ∨ b ≠ 0) : 0 < igcd3 a b c ∧ (igcd3 a b c).natAbs ≤ max a.natAbs b.natAbs := by
  have h0 : 0 < Int.gcd a b := by
    rcases Nat.eq_zero_or_pos (Int.gcd a b) with e | e
    · rw [Int.gcd_eq_zero_iff] at e
      rcases h with h | h
      · exact absurd e.1 h
      · exact absurd e.2 h
    · exact e
  have h1 : Int.gcd a b ≤ max a.natAbs b.natAbs := by
    rcases h with h | h
    · exact Nat.le_trans (Nat.le_of_dvd (by omega) (Int.gcd_dvd_natAbs_left a b)) (Nat.le_max_left _ _)
    · exact Nat.le_trans (Nat.le_of_dvd (by omega) (Int.gcd_dvd_natAbs_right a b)) (Nat.le_max_right _ _)
  have h2 : 0 < Int.gcd (Int.gcd a b : Nat) c := by
    rcases Nat.eq_zero_or_pos (Int.gcd (Int.gcd a b : Nat) c) with e | e
    · rw [Int.gcd_eq_zero_iff] at e; omega
    · exact e
  have h3 : Int.gcd (Int.gcd a b : Nat) c ≤ Int.gcd a b := Nat.le_of_dvd h0 (by simpa using Int.gcd_dvd_natAbs_left (Int.gcd a b : Nat) c)
  unfold igcd3
  exact ⟨by omega, by simpa using Nat.le_trans h3 h1⟩
theorem mkPa_ne2 {p q r : Rat} (h : p ≠ 0 ∨ q ≠ 0) : mkPa p q r p ≠ 0 ∨ mkPa p q r q ≠ 0 := by
  rcases h with h | h
  · exact .inl (mkPa_ne h ⟨q.den * r.den, by unfold mkPs; exact Int.mul_assoc _ _ _⟩)
  · exact .inr (mkPa_ne h ⟨p.den * r.den, by unfold mkPs; rw [Int.mul_comm (p.den : Int), Int.mul_assoc]⟩)
theorem wdiv {i j : Int} {b : Nat} (h : 0 < j) (hb : j.natAbs ≤ 2 ^ b) (hz : b < 9000) : CDivW i j := ⟨h, log9 hb (Nat.pow_lt_pow_right (by decide) hz)⟩
theorem iv_tup3 {X : Cx} {C : Ct} {Γ : List Sl} {tg e : Expr} {x y z : Rat} (h : EV X C e Γ (.tuple [fr x, fr y, fr z])) : IV X C tg e Γ ([x, y, z].map fr) := iv_tup h
theorem iv_lst3 {X : Cx} {C : Ct} {Γ : List Sl} {tg e : Expr} {x y z : Rat} (h : EV X C e Γ (.list [fr x, fr y, fr z])) : IV X C tg e Γ ([x, y, z].map fr) := iv_lst h
theorem sc_make_half_plane : FnScope ["p", "q", "r", "scale", "parts", "divisor", "part"] ["p", "q", "r"] (defScope (top 31)) := ⟨rfl, rfl, rfl, by decide +kernel, rfl, by decide +kernel, by decide +kernel⟩
def pm_make_half_plane : Pm := fun ds p => ∃ x y z : Rat, ds = [fr x, fr y, fr z] ∧ RB 1200 1200 x ∧ RB 1200 1200 y ∧ RB 1200 1200 z ∧ (x ≠ 0 ∨ y ≠ 0) ∧ p (pl (mkPl x y z))
theorem k_make_half_plane (E : Hd K mg) : Kn P w K mg base "make_half_plane" [] 2 (spD K W 3 pm_make_half_plane) :=
  kn_mk 19 E rfl rfl (fun _ _ _ _ _ _ us hl => match us, hl with | [_, _, _], _ => rfl) fun f fd F => fn_mk F sc_make_half_plane (by
    rintro X C cdv A outer s H E' P0 ds p rfl rfl hr ⟨x, y, z, rfl, hx, hy, hz, h0, hp⟩
    have nd := sc_make_half_plane.nd
    dsimp only [iniL, iniN, List.tail]
    have hps := mkPs_lt hx hy hz
    have hne := mkPa_ne2 (r := z) h0
    have hg := igcd3_le (c := mkPa x y z z) hne
    have hgl : (igcd3 (mkPa x y z x) (mkPa x y z y) (mkPa x y z z)).natAbs ≤ 2 ^ 4800 := Nat.le_trans hg.2 (Nat.max_le.mpr ⟨Nat.le_of_lt (mkPa_lt hx hy hz hx), Nat.le_of_lt (mkPa_lt hx hy hz hy)⟩)
    refine sw_cons (s1_skip (TW.tv (tw_and (tv_eqQ hr (ev_var 0 rfl) (ev_zero E)) fun _ => tw_and1 (tv_eqQ hr (ev_var 1 rfl) (ev_zero E)))) ?_ (sw_nil ?_))
    all_goals (try dsimp only [List.set])
    · rcases h0 with h | h <;> simp [h]
    refine sw_cons (s1_set 3 nd (ev_mul (ev_mul (ev_den (ev_var 0 rfl)) (ev_den (ev_var 1 rfl)) (cm_of hx.dlt hy.dlt (by decide))) (ev_den (ev_var 2 rfl)) (cm_of (imul_lt hx.dlt hy.dlt) hz.dlt (by decide))) ?_)
    all_goals (try dsimp only [List.set])
    refine sw_cons (s1_lc 4 [("part", 6)] fr (fun t => .int (mkPa x y z t)) [x, y, z] nd (iv_tup3 (ev_tup (evs_cons (ev_var 0 rfl) (evs_cons (ev_var 1 rfl) (evs_one (ev_var 2 rfl)))))) (blkOk_by rfl) (by simp) (fun t ht => ?_) ?_)
    all_goals (try dsimp only [List.set])
    · have htb : RB 1200 1200 t := by
        simp only [List.mem_cons, List.not_mem_nil, or_false] at ht
        rcases ht with rfl | rfl | rfl <;> assumption
      refine ⟨_, _, by decide, fun s H Ca cl fp => gv_name 6 nd, fun s H Ca cl fp => ?_⟩
      exact ev_mul (ev_num (ev_var 6 rfl)) (ev_fdiv (ev_var 3 rfl) (ev_den (ev_var 6 rfl)) (wdiv (b := 1200) (by have := t.den_pos; omega) (by have := htb.2; simpa only [Int.natAbs_natCast] using this) (by decide))) (cm_of htb.1 (Nat.lt_of_le_of_lt (Nat.le_trans div_nat_le hps) (Nat.pow_lt_pow_right (a := 2) (m := 3600) (n := 3601) (by decide) (by decide))) (by decide))
    refine sw_freeze 4 rfl ?_
    refine sw_cons (s1_set 5 nd (ev_fn (k_common_divisor E) hr (by decide) (evs_cons (ev_fn (k_common_divisor E) hr (by decide) (evs_cons (ev_ixL (ev_var 4 rfl) ev_int rfl) (evs_one (ev_ixL (ev_var 4 rfl) ev_int rfl))) ⟨mkPa x y z x, mkPa x y z y, rfl, rfl⟩) (evs_one (ev_ixL (ev_var 4 rfl) ev_int rfl))) ⟨_, mkPa x y z z, rfl, rfl⟩) ?_)
    all_goals (try dsimp only [List.set])
    have hc : ∀ i, CDivW i (igcd3 (mkPa x y z x) (mkPa x y z y) (mkPa x y z z)) := fun i => wdiv hg.1 hgl (by decide)
    exact sw_one (s1_ret (EV.r (ev_tup (evs_cons (ev_fdiv (ev_ixL (ev_var 4 rfl) ev_int rfl) (ev_var 5 rfl) (hc _)) (evs_cons (ev_fdiv (ev_ixL (ev_var 4 rfl) ev_int rfl) (ev_var 5 rfl) (hc _)) (evs_one (ev_fdiv (ev_ixL (ev_var 4 rfl) ev_int rfl) (ev_var 5 rfl) (hc _))))))) hp))
end
end RT
end
section
set_option Elab.async false
set_option linter.all false
set_option maxRecDepth 100000
set_option maxHeartbeats 4000000
set_option exponentiation.threshold 20000
/-! B5: edges, orders of half planes. -/
namespace RT
open PySem PySem.Spec PyProof.Rows L2
theorem depthAll_le {n : Nat} : ∀ {ds : List PD}, (∀ d ∈ ds, d.depth ≤ n) → PyData.depthAll ds ≤ n
  | [], _ => Nat.zero_le _
  | d :: ds, h => by
    simp only [PyData.depthAll]
    exact Nat.max_le.mpr ⟨h d List.mem_cons_self, depthAll_le fun x hx => h x (List.mem_cons_of_mem _ hx)⟩
theorem canLayAll_of : ∀ {ds : List PD}, (∀ d ∈ ds, d.canLay0 = true) → PyData.canLayAll0 ds = true
  | [], _ => by simp [PyData.canLayAll0]
  | d :: ds, h => by
    simp only [PyData.canLayAll0, Bool.and_eq_true]
    exact ⟨h d List.mem_cons_self, canLayAll_of fun x hx => h x (List.mem_cons_of_mem _ hx)⟩
/-- data without dicts, not deep -/
def flat (d : PD) : Prop := d.canLay0 = true ∧ d.depth ≤ 30
theorem flat_list {ds : List PD} (h : ∀ d ∈ ds, flat d) : SeqAt.shaped (.list ds) = true := by
  unfold SeqAt.shaped
  rw [Bool.and_eq_true]
  refine ⟨?_, decide_eq_true ?_⟩
  · simp only [PyData.canLay0]; exact canLayAll_of fun d hd => (h d hd).1
  · simp only [PyData.depth]
    have := depthAll_le (n := 30) fun d hd => (h d hd).2
    omega
theorem flat_of {d : PD} (h : flat d) : SeqAt.shaped d = true := by
  unfold SeqAt.shaped
  rw [Bool.and_eq_true]
  exact ⟨h.1, decide_eq_true (Nat.le_trans h.2 (by decide))⟩
theorem any_eqv {α : Type} [DecidableEq α] {en : α → PD} (he : ∀ a b, PyData.eqv (en a) (en b) = decide (a = b)) (y : α) : ∀ xs : List α, ((xs.map en).any fun z => PyData.eqv z (en y)) = decide (y ∈ xs)
  | [] => rfl
  | x :: xs => by
    rw [List.map_cons, List.any_cons, he, any_eqv he y xs, ← Bool.decide_or]
    exact decide_eq_decide.mpr ⟨fun h => List.mem_cons.mpr (h.imp (fun z => z.symm) id), fun h => (List.mem_cons.mp h).imp (fun z => z.symm) id⟩
theorem eqv_pl (f g : Pl) : PyData.eqv (pl f) (pl g) = decide (f = g) := by
  have h : decide (f = g) = (decide (f.p = g.p) && (decide (f.q = g.q) && decide (f.r = g.r))) := by
    rw [← Bool.decide_and, ← Bool.decide_and]
    cases f; cases g
    exact decide_eq_decide.mpr (by rw [Pl.mk.injEq])
  rw [h]
  unfold pl
  simp only [PyData.eqv, PyData.eqvAll, Bool.and_true]
  rfl
theorem flat_pl (f : Pl) : flat (pl f) := ⟨rfl, Nat.le_of_ble_eq_true rfl⟩
structure PlB (n : Nat) (h : Pl) : Prop where
  p : h.p.natAbs < 2 ^ n
  q : h.q.natAbs < 2 ^ n
  r : h.r.natAbs < 2 ^ n
/-- a half plane as they come -/
structure PO (h : Pl) : Prop where
  b : PlB 300 h
  nz : h.p ≠ 0 ∨ h.q ≠ 0
theorem size1_pos {h : Pl} (z : h.p ≠ 0 ∨ h.q ≠ 0) : 0 < size1 h := by unfold size1; omega
theorem size1_lt {n : Nat} {h : Pl} (b : PlB n h) : (size1 h).natAbs < 2 ^ (n + 1) := by
  have := b.p; have := b.q
  unfold size1
  rw [Nat.pow_succ]
  omega
theorem reach_b {h : Pl} (o : PO h) : RB 300 301 (reachOf h) := RB.divInt o.b.r (Nat.le_of_lt (size1_lt o.b)) (by have := size1_pos o.nz; omega)
theorem edgesOf_eq (i : Nat) (lo hi : Option Rat) (m : Mp) : (edgesOf i lo hi m).map edp = (match lo with | none => [] | some x => [.tuple [.tuple [.int (i : Int), .str "lower"], pl (mkPl (-m.a) (-m.b) (m.e - x))]]) ++ (match hi with | none => [] | some y => [.tuple [.tuple [.int (i : Int), .str "upper"], pl (mkPl m.a m.b (y - m.e))]]) := by
  unfold edgesOf
  cases lo <;> cases hi <;> rfl
section
variable {P : Program} {w : World} {K : PySem.W.Frag} {mg : Str → Option Value} {base : Heap} {W : Wo}
section
variable {X : Cx} {C : Ct} {Γ : List Sl} {a b : Expr} {pos : Pos} {k : Nat} {d1 d2 : PD} {ds : List PD} {x y : Rat} {h : Pl} {j : Nat} {p2 : Pos}
theorem SW.nx {sts : List Stmt} {B : Po} {J : List Sl → Prop} (h : SW X C sts Γ { B with nx := J }) (hj : ∀ Γ', J Γ' → B.nx Γ') : SW X C sts Γ B := .mk fun hK P σ H o D f =>
  h hK P σ H o D ⟨fun Γ' P' σ' H' a o' l => f.nx Γ' P' σ' H' (hj Γ' a) o' l, f.rt, f.bk, f.ct⟩
/-- if, with one way on behind it -/
theorem s1_ifJ {c : Expr} {t1 t2 : List Stmt} {B : Po} {v : Bool} (J : List Sl → Prop) (hc : TV X C c Γ v) (h1 : v = true → SW X C t1 Γ { B with nx := J }) (h2 : v = false → SW X C t2 Γ { B with nx := J }) (hj : ∀ Γ', J Γ' → B.nx Γ') : S1 X C (.If c t1 t2 pos) Γ B :=
  s1_if hc (fun h => (h1 h).nx hj) fun h => (h2 h).nx hj
theorem iv_enumE {α : Type} {en : α → PD} {xs : List α} {p tpos : Pos} {elts : List Expr} {kk : Nat} (hm : X.mg "enumerate" = none) (h : EV X C a Γ (.list (xs.map en))) (hg : Gl X "enumerate" := by rfl) (hs : starEach [a] X.env = [(false, eval a X.env)] := by rfl) : IV X C (.Tuple elts kk tpos) (.Call (.Name "enumerate" p) [a] [] pos) Γ (xs.zipIdx.map fun z => .tuple [.int (z.2 : Int), en z.1]) := by
  have := iv_enum (elts := elts) (kk := kk) (tpos := tpos) (pos := pos) (p := p) hm h hg hs
  unfold enumD at this
  rw [List.zipIdx_map, List.map_map] at this
  exact this
theorem zipIdx_at {α : Type} {xs : List α} {i : Nat} {z : α × Nat} (h : xs.zipIdx[i]? = some z) : xs[i]? = some z.1 ∧ z.2 = i := by
  rw [List.getElem?_zipIdx] at h
  cases he : xs[i]? with
  | none => rw [he] at h; cases h
  | some e =>
    rw [he] at h
    have : (e, 0 + i) = z := by simpa using h
    rw [← this]
    exact ⟨rfl, Nat.zero_add i⟩
theorem ev_p0 (ha : EV X C a Γ (pl h)) : EV X C (.Subscript a (.Constant (.int 0) j p2) pos) Γ (.int h.p) := ev_ixT ha ev_int rfl
theorem ev_p1 (ha : EV X C a Γ (pl h)) : EV X C (.Subscript a (.Constant (.int 1) j p2) pos) Γ (.int h.q) := ev_ixT ha ev_int rfl
theorem ev_p2 (ha : EV X C a Γ (pl h)) : EV X C (.Subscript a (.Constant (.int 2) j p2) pos) Γ (.int h.r) := ev_ixT ha ev_int rfl
theorem ev_eqI {i j : Int} (ha : EV X C a Γ (.int i)) (hb : EV X C b Γ (.int j)) (hm : behindInMarks .Eq b = false := by first | exact nomark _ | rfl) : EV X C (.Compare a [.Eq] [b] pos) Γ (.bool (decide (i = j))) := ev_cmp op_eq rd_eqI ha hb hm
theorem tv_eqI {i j : Int} (ha : EV X C a Γ (.int i)) (hb : EV X C b Γ (.int j)) (hm : behindInMarks .Eq b = false := by first | exact nomark _ | rfl) : TV X C (.Compare a [.Eq] [b] pos) Γ (decide (i = j)) := tv_cmp op_eq rd_eqI ha hb hm
theorem tv_neI {i j : Int} (ha : EV X C a Γ (.int i)) (hb : EV X C b Γ (.int j)) (hm : behindInMarks .NotEq b = false := by first | exact nomark _ | rfl) : TV X C (.Compare a [.NotEq] [b] pos) Γ (!decide (i = j)) := tv_cmp op_ne rd_neI ha hb hm
theorem tv_notInE {α : Type} [DecidableEq α] {en : α → PD} (he : ∀ a b, PyData.eqv (en a) (en b) = decide (a = b)) (hf : ∀ a, flat (en a)) {x : α} {xs : List α} (hr : Room k X.A) (ha : EV X C a Γ (en x)) (hb : EV X C b Γ (.list (xs.map en))) (hm : behindInMarks .NotIn b = false := by first | exact nomark _ | rfl) : TV X C (.Compare a [.NotIn] [b] pos) Γ (!decide (x ∈ xs)) :=
  (tv_cmp (op_notInD (by have := hr.un; omega)) (rd_notInD (flat_of (hf x)) (flat_list fun d hd => by obtain ⟨z, _, rfl⟩ := List.mem_map.mp hd; exact hf z)) ha hb hm).is (by rw [any_eqv he])
theorem tv_inE {α : Type} [DecidableEq α] {en : α → PD} (he : ∀ a b, PyData.eqv (en a) (en b) = decide (a = b)) (hf : ∀ a, flat (en a)) {x : α} {xs : List α} (hr : Room k X.A) (ha : EV X C a Γ (en x)) (hb : EV X C b Γ (.list (xs.map en))) (hm : behindInMarks .In b = false := by first | exact nomark _ | rfl) : TV X C (.Compare a [.In] [b] pos) Γ (decide (x ∈ xs)) :=
  (tv_cmp (op_inD (by have := hr.un; omega)) (rd_inD (flat_of (hf x)) (flat_list fun d hd => by obtain ⟨z, _, rfl⟩ := List.mem_map.mp hd; exact hf z)) ha hb hm).is (by rw [any_eqv he])
theorem tv_neE {α : Type} [DecidableEq α] {en : α → PD} (he : ∀ a b, PyData.eqv (en a) (en b) = decide (a = b)) (hf : ∀ a, flat (en a)) {x y : α} (hr : Room k X.A) (ha : EV X C a Γ (en x)) (hb : EV X C b Γ (en y)) (hm : behindInMarks .NotEq b = false := by first | exact nomark _ | rfl) : TV X C (.Compare a [.NotEq] [b] pos) Γ (!decide (x = y)) :=
  (tv_cmp (op_neD hr.units) (rd_neD (flat_of (hf x)) (flat_of (hf y))) ha hb hm).is (by rw [he])
end
theorem sc_edges_of : FnScope ["index", "stop", "map_before", "a", "b", "c", "d", "e", "f", "found"] ["index", "stop", "map_before"] (defScope (top 32)) := ⟨rfl, rfl, rfl, by decide +kernel, rfl, by decide +kernel, by decide +kernel⟩
def pm_edges_of : Pm := fun ds p => ∃ (i : Nat) (lo hi : Option Rat) (m : Mp), ds = [.int (i : Int), el (.stop lo hi), mp m] ∧ ElB (.stop lo hi) ∧ MpB 110 110 m ∧ (m.a ≠ 0 ∨ m.b ≠ 0) ∧ p (.list ((edgesOf i lo hi m).map edp))
theorem k_edges_of (E : Hd K mg) : Kn P w K mg base "edges_of" [] 5 (spD K W 3 pm_edges_of) :=
  kn_mk 20 E rfl rfl (fun _ _ _ _ _ _ us hl => match us, hl with | [_, _, _], _ => rfl) fun f fd F => fn_mk F sc_edges_of (by
    rintro X C cdv A outer s H E' P0 ds p rfl rfl hr ⟨i, lo, hi, m, rfl, he, hm, h0, hp⟩
    have nd := sc_edges_of.nd
    dsimp only [iniL, iniN, List.tail]
    rw [edgesOf_eq] at hp
    have h0' : -m.a ≠ 0 ∨ -m.b ≠ 0 := h0.imp (fun z y => z (by grind)) (fun z y => z (by grind))
    refine sw_cons (s1_asg (ev_var 2 rfl) (gv_tup (gvs_cons (gv_name 3 nd) (gvs_cons (gv_name 4 nd) (gvs_cons (gv_name 5 nd) (gvs_cons (gv_name 6 nd) (gvs_cons (gv_name 7 nd) (gvs_cons (gv_name 8 nd) gvs_nil))))))) ?_)
    all_goals (try dsimp only [List.set])
    refine sw_cons (s1_own 9 nd (evl_lst evs_nil) ?_)
    all_goals (try dsimp only [List.set])
    have hlow : ∀ x, lo = some x → RB 122 114 (m.e - x) := fun x hx => (hm.e.sub (he.1 x hx)).mono (by decide) (by decide)
    have hup : ∀ x, hi = some x → RB 122 114 (x - m.e) := fun x hx => ((he.2 x hx).sub hm.e).mono (by decide) (by decide)
    have big : ∀ {n d x}, RB n d x → n ≤ 1200 → d ≤ 1200 → RB 1200 1200 x := fun h a b => h.mono a b
    refine sw_cons (s1_if (tv_notN (ev_ixT (ev_var 1 rfl) ev_int rfl)) (fun ht => ?_) fun ht => ?_)
    all_goals (try dsimp only [List.set])
    · cases lo with
      | none => cases ht
      | some x =>
        refine sw_one (s1_append 9 rfl (ev_tup (evs_cons (ev_tup (evs_cons (ev_var 0 rfl) (evs_one ev_str))) (evs_one (ev_fn (k_make_half_plane E) hr (by decide) (evs_cons (eq_neg E hr ⟨ev_var 3 rfl, hm.a⟩).ev (evs_cons (eq_neg E hr ⟨ev_var 4 rfl, hm.b⟩).ev (evs_one (eq_sub E hr ⟨ev_var 7 rfl, hm.e⟩ ⟨ev_ixT (d := fr x) (ev_var 1 rfl) ev_int rfl, he.1 x rfl⟩).ev))) ⟨-m.a, -m.b, m.e - x, rfl, hm.a.neg.mono (by decide) (by decide), hm.b.neg.mono (by decide) (by decide), (hlow x rfl).mono (by decide) (by decide), h0', rfl⟩)))) ?_ (by decide))
        try dsimp only [List.set]
        refine sw_cons (s1_if (tv_notN (ev_ixT (ev_var 1 rfl) ev_int rfl)) (fun ht => ?_) fun ht => ?_)
        all_goals (try dsimp only [List.set])
        · cases hi with
          | none => cases ht
          | some y =>
            refine sw_one (s1_append 9 rfl (ev_tup (evs_cons (ev_tup (evs_cons (ev_var 0 rfl) (evs_one ev_str))) (evs_one (ev_fn (k_make_half_plane E) hr (by decide) (evs_cons (ev_var 3 rfl) (evs_cons (ev_var 4 rfl) (evs_one (eq_sub E hr ⟨ev_ixT (d := fr y) (ev_var 1 rfl) ev_int rfl, he.2 y rfl⟩ ⟨ev_var 7 rfl, hm.e⟩).ev))) ⟨m.a, m.b, y - m.e, rfl, hm.a.mono (by decide) (by decide), hm.b.mono (by decide) (by decide), (hup y rfl).mono (by decide) (by decide), h0, rfl⟩)))) ?_ (Nat.le_of_ble_eq_true rfl))
            try dsimp only [List.set]
            exact sw_one (s1_ret (evr_own 9 rfl) hp)
        · cases hi with
          | none => exact sw_nil (sw_one (s1_ret (evr_own 9 rfl) hp))
          | some y => cases ht
    · cases lo with
      | some x => cases ht
      | none =>
        refine sw_nil ?_
        refine sw_cons (s1_if (tv_notN (ev_ixT (ev_var 1 rfl) ev_int rfl)) (fun ht => ?_) fun ht => ?_)
        all_goals (try dsimp only [List.set])
        · cases hi with
          | none => cases ht
          | some y =>
            refine sw_one (s1_append 9 rfl (ev_tup (evs_cons (ev_tup (evs_cons (ev_var 0 rfl) (evs_one ev_str))) (evs_one (ev_fn (k_make_half_plane E) hr (by decide) (evs_cons (ev_var 3 rfl) (evs_cons (ev_var 4 rfl) (evs_one (eq_sub E hr ⟨ev_ixT (d := fr y) (ev_var 1 rfl) ev_int rfl, he.2 y rfl⟩ ⟨ev_var 7 rfl, hm.e⟩).ev))) ⟨m.a, m.b, y - m.e, rfl, hm.a.mono (by decide) (by decide), hm.b.mono (by decide) (by decide), (hup y rfl).mono (by decide) (by decide), h0, rfl⟩)))) ?_ (by decide))
            try dsimp only [List.set]
            exact sw_one (s1_ret (evr_own 9 rfl) hp)
        · cases hi with
          | none => exact sw_nil (sw_one (s1_ret (evr_own 9 rfl) hp))
          | some y => cases ht)
theorem hpAt_len (t : List El) (j : Nat) : (hpAt t j).length ≤ 2 := by
  unfold hpAt
  split
  · unfold edgesOf; rename_i lo hi _; cases lo <;> cases hi <;> simp
  · simp
theorem hpTo_len (t : List El) : ∀ i, (hpTo t i).length ≤ 2 * i
  | 0 => Nat.le_refl _
  | i + 1 => by
    rw [hpTo_succ, List.length_append]
    have := hpTo_len t i
    have := hpAt_len t i
    omega
theorem sc_half_planes_of : FnScope ["train", "found", "before", "index", "element"] ["train"] (defScope (top 33)) := ⟨rfl, rfl, rfl, by decide +kernel, rfl, by decide +kernel, by decide +kernel⟩
def pm_half_planes_of : Pm := fun ds p => ∃ t : List El, ds = [.list (t.map el)] ∧ TrB t ∧ p (.list ((hps t).map edp))
theorem k_half_planes_of (E : Hd K mg) : Kn P w K mg base "half_planes_of" [] 6 (spD K W 1 pm_half_planes_of) :=
  kn_mk 21 E rfl rfl (fun _ _ _ _ _ _ us hl => match us, hl with | [_], _ => rfl) fun f fd F => fn_mk F sc_half_planes_of (by
    rintro X C cdv A outer s H E' P0 ds p rfl rfl hr ⟨t, rfl, hT, hp⟩
    have nd := sc_half_planes_of.nd
    dsimp only [iniL, iniN, List.tail]
    have hlen := hT.len
    refine sw_cons (s1_set 1 nd (ev_lst evs_nil) ?_)
    all_goals (try dsimp only [List.set])
    refine sw_cons (s1_set 2 nd (ev_idn E) ?_)
    all_goals (try dsimp only [List.set])
    refine sw_cons (s1_for (fun z : El × Nat => .tuple [.int (z.2 : Int), el z.1]) t.zipIdx (iv_enumE (E.free "enumerate" (by simp)) (ev_var 0 rfl)) (fun i Γ => ∃ v u, Γ = [.pu (.list (t.map el)), .pu (.list ((hpTo t i).map edp)), .pu (mp (mapOf (t.take i))), v, u]) ⟨_, _, rfl⟩ ?_ ?_)
    all_goals (try dsimp only [List.set])
    · rintro i ⟨e, i'⟩ _ hx ⟨v, u, rfl⟩
      obtain ⟨he, rfl⟩ := zipIdx_at hx
      simp only at he
      have hil : i' < t.length := (List.getElem?_eq_some_iff.mp he).1
      have hm := List.mem_of_getElem? he
      have ht : t.take (i' + 1) = t.take i' ++ [e] := by rw [List.take_succ, he]; rfl
      have hl := hpTo_len t i'
      refine ⟨_, _, gv_tup (gvs_cons (gv_name 3 nd) (gvs_cons (gv_name 4 nd) gvs_nil)), ?_⟩
      try dsimp only [List.set]
      refine sw_cons (s1_ifJ (fun Γ => Γ = [.pu (.list (t.map el)), .pu (.list ((hpTo t (i' + 1)).map edp)), .pu (mp (mapOf (t.take i'))), .pu (.int (i' : Int)), .pu (el e)]) (tv_eqS (ev_el0 (ev_var 4 rfl)) ev_str) (fun h => ?_) (fun h => ?_) ?_)
      all_goals (try dsimp only [List.set])
      · cases e with
        | stop lo hi =>
          refine sw_one (s1_set 1 nd (ev_cat (ev_var 1 rfl) (ev_fn (k_edges_of E) hr (by decide) (evs_cons (ev_var 3 rfl) (evs_cons (ev_var 4 rfl) (evs_one (ev_var 2 rfl)))) ⟨i', lo, hi, mapOf (t.take i'), rfl, hT.el _ hm, hT.mp i', hT.ab i', rfl⟩) ?_) ?_)
          all_goals (try dsimp only [List.set])
          · have := hpAt_len t i'
            unfold hpAt at this
            rw [he] at this
            rw [List.length_map, List.length_map]
            exact Nat.le_trans (Nat.add_le_add hl this) (by omega)
          · rw [hpTo_succ, List.map_append]
            unfold hpAt
            rw [he]
        | _ => cases h
      · refine sw_nil ?_
        rw [hpTo_succ]
        unfold hpAt
        rw [he]
        cases e with
        | stop lo hi => cases h
        | _ => simp
      · rintro _ rfl
        refine sw_one (s1_set 2 nd (ev_fn (k_compose_maps E) hr (by decide) (evs_cons (ev_var 2 rfl) (evs_one (ev_fn (k_element_map E) hr (by decide) (evs_one (ev_var 4 rfl)) ⟨e, rfl, hT.el _ hm, rfl⟩))) ⟨mapOf (t.take i'), elMap e, rfl, hT.mp i', elMap_b (hT.el _ hm), rfl⟩) ⟨.pu (.int (i' : Int)), .pu (el e), ?_⟩)
        rw [ht, mapOf_add]
        rfl
    · rintro _ ⟨v, u, rfl⟩
      rw [List.length_zipIdx]
      exact sw_one (s1_ret (EV.r (ev_var 1 rfl)) hp))
theorem sc_value_at : FnScope ["half_plane", "ray"] ["half_plane", "ray"] (defScope (top 34)) := ⟨rfl, rfl, rfl, by decide +kernel, rfl, by decide +kernel, by decide +kernel⟩
def pm_value_at : Pm := fun ds p => ∃ (h : Pl) (z : Ray), ds = [pl h, ray z] ∧ PlB 300 h ∧ RB 1000 1000 z.1 ∧ RB 1000 1000 z.2 ∧ p (fr (valueAt h z))
theorem k_value_at (E : Hd K mg) : Kn P w K mg base "value_at" [] 4 (spD K W 2 pm_value_at) :=
  kn_mk 22 E rfl rfl (fun _ _ _ _ _ _ us hl => match us, hl with | [_, _], _ => rfl) fun f fd F => fn_mk F sc_value_at (by
    rintro X C cdv A outer s H E' P0 ds p rfl rfl hr ⟨h, z, rfl, hh, h1, h2, hp⟩
    have nd := sc_value_at.nd
    dsimp only [iniL, iniN, List.tail]
    exact sw_one (s1_ret (EV.r (eq_add E hr (eq_mul E hr (eq_int E hr (ev_p0 (ev_var 0 rfl)) hh.p) ⟨ev_ixT (ev_var 1 rfl) ev_int rfl, h1⟩) (eq_mul E hr (eq_int E hr (ev_p1 (ev_var 0 rfl)) hh.q) ⟨ev_ixT (ev_var 1 rfl) ev_int rfl, h2⟩)).ev) hp))
theorem sc_determinant : FnScope ["first", "second"] ["first", "second"] (defScope (top 36)) := ⟨rfl, rfl, rfl, by decide +kernel, rfl, by decide +kernel, by decide +kernel⟩
def pm_determinant : Pm := fun ds p => ∃ f g : Pl, ds = [pl f, pl g] ∧ PlB 3000 f ∧ PlB 3000 g ∧ p (.int (det f g))
theorem k_determinant (E : Hd K mg) : Kn P w K mg base "determinant" [] 1 (spD K W 2 pm_determinant) :=
  kn_mk 24 E rfl rfl (fun _ _ _ _ _ _ us hl => match us, hl with | [_, _], _ => rfl) fun f fd F => fn_mk F sc_determinant (by
    rintro X C cdv A outer s H E' P0 ds p rfl rfl hr ⟨f, g, rfl, hf, hg, hp⟩
    have nd := sc_determinant.nd
    dsimp only [iniL, iniN, List.tail]
    refine sw_one (s1_ret (EV.r (EV.is (ev_sub (ev_mul (ev_p0 (ev_var 0 rfl)) (ev_p1 (ev_var 1 rfl)) (cm_of hf.p hg.q (by decide))) (ev_mul (ev_p1 (ev_var 0 rfl)) (ev_p0 (ev_var 1 rfl)) (cm_of hf.q hg.p (by decide)))) rfl)) hp))
theorem sc_product : FnScope ["first", "second"] ["first", "second"] (defScope (top 37)) := ⟨rfl, rfl, rfl, by decide +kernel, rfl, by decide +kernel, by decide +kernel⟩
def pm_product : Pm := fun ds p => ∃ f g : Pl, ds = [pl f, pl g] ∧ PlB 3000 f ∧ PlB 3000 g ∧ p (.int (prod f g))
theorem k_product (E : Hd K mg) : Kn P w K mg base "product" [] 1 (spD K W 2 pm_product) :=
  kn_mk 25 E rfl rfl (fun _ _ _ _ _ _ us hl => match us, hl with | [_, _], _ => rfl) fun f fd F => fn_mk F sc_product (by
    rintro X C cdv A outer s H E' P0 ds p rfl rfl hr ⟨f, g, rfl, hf, hg, hp⟩
    have nd := sc_product.nd
    dsimp only [iniL, iniN, List.tail]
    refine sw_one (s1_ret (EV.r (EV.is (ev_add (ev_mul (ev_p0 (ev_var 0 rfl)) (ev_p0 (ev_var 1 rfl)) (cm_of hf.p hg.p (by decide))) (ev_mul (ev_p1 (ev_var 0 rfl)) (ev_p1 (ev_var 1 rfl)) (cm_of hf.q hg.q (by decide)))) rfl)) hp))
theorem sc_cross : FnScope ["one", "other"] ["one", "other"] (defScope (top 21)) := ⟨rfl, rfl, rfl, by decide +kernel, rfl, by decide +kernel, by decide +kernel⟩
def pm_cross : Pm := fun ds p => ∃ f g : Pl, ds = [pl f, pl g] ∧ PlB 3000 f ∧ PlB 3000 g ∧ p (.int (det f g))
theorem k_cross (E : Hd K mg) : Kn P w K mg base "cross" [] 1 (spD K W 2 pm_cross) :=
  kn_mk 14 E rfl rfl (fun _ _ _ _ _ _ us hl => match us, hl with | [_, _], _ => rfl) fun f fd F => fn_mk F sc_cross (by
    rintro X C cdv A outer s H E' P0 ds p rfl rfl hr ⟨f, g, rfl, hf, hg, hp⟩
    have nd := sc_cross.nd
    dsimp only [iniL, iniN, List.tail]
    refine sw_one (s1_ret (EV.r (EV.is (ev_sub (ev_mul (ev_p0 (ev_var 0 rfl)) (ev_p1 (ev_var 1 rfl)) (cm_of hf.p hg.q (by decide))) (ev_mul (ev_p1 (ev_var 0 rfl)) (ev_p0 (ev_var 1 rfl)) (cm_of hf.q hg.p (by decide)))) rfl)) hp))
theorem sc_in_first_half : FnScope ["half_plane"] ["half_plane"] (defScope (top 24)) := ⟨rfl, rfl, rfl, by decide +kernel, rfl, by decide +kernel, by decide +kernel⟩
def pm_in_first_half : Pm := fun ds p => ∃ f : Pl, ds = [pl f] ∧ p (.bool (inFirst f))
theorem k_in_first_half (E : Hd K mg) : Kn P w K mg base "in_first_half" [] 1 (spD K W 1 pm_in_first_half) :=
  kn_mk 16 E rfl rfl (fun _ _ _ _ _ _ us hl => match us, hl with | [_], _ => rfl) fun f fd F => fn_mk F sc_in_first_half (by
    rintro X C cdv A outer s H E' P0 ds p rfl rfl hr ⟨f, rfl, hp⟩
    have nd := sc_in_first_half.nd
    dsimp only [iniL, iniN, List.tail]
    exact sw_one (s1_ret (EV.r (ev_or (ev_gt (ev_p1 (ev_var 0 rfl)) ev_int) fun _ => ev_one (ev_and (ev_eqI (ev_p1 (ev_var 0 rfl)) ev_int) fun _ => ev_one (ev_gt (ev_p0 (ev_var 0 rfl)) ev_int)))) hp))
theorem sc_reach : FnScope ["half_plane"] ["half_plane"] (defScope (top 23)) := ⟨rfl, rfl, rfl, by decide +kernel, rfl, by decide +kernel, by decide +kernel⟩
def pm_reach : Pm := fun ds p => ∃ f : Pl, ds = [pl f] ∧ PO f ∧ p (fr (reachOf f))
theorem k_reach (E : Hd K mg) : Kn P w K mg base "reach" [] 3 (spD K W 1 pm_reach) :=
  kn_mk 15 E rfl rfl (fun _ _ _ _ _ _ us hl => match us, hl with | [_], _ => rfl) fun f fd F => fn_mk F sc_reach (by
    rintro X C cdv A outer s H E' P0 ds p rfl rfl hr ⟨f, rfl, hf, hp⟩
    have nd := sc_reach.nd
    dsimp only [iniL, iniN, List.tail]
    have hab := E.free "abs" (by simp)
    have := size1_pos hf.nz
    exact sw_one (s1_ret (EV.r (ev_fn (k_fraction E) hr (by decide) (evs_cons (ev_p2 (ev_var 0 rfl)) (evs_one (ev_add (ev_abs hab (ev_p0 (ev_var 0 rfl))) (ev_abs hab (ev_p1 (ev_var 0 rfl)))))) ⟨f.r, size1 f, rfl, by omega, Nat.lt_trans (size1_lt hf.b) (Nat.pow_lt_pow_right (by decide) (by decide)), rfl⟩)) hp))
theorem sc_comes_before : FnScope ["one", "other", "turn"] ["one", "other"] (defScope (top 25)) := ⟨rfl, rfl, rfl, by decide +kernel, rfl, by decide +kernel, by decide +kernel⟩
def pm_comes_before : Pm := fun ds p => ∃ f g : Pl, ds = [pl f, pl g] ∧ PO f ∧ PO g ∧ p (.bool (comesBefore f g))
theorem k_comes_before (E : Hd K mg) : Kn P w K mg base "comes_before" [] 6 (spD K W 2 pm_comes_before) :=
  kn_mk 17 E rfl rfl (fun _ _ _ _ _ _ us hl => match us, hl with | [_, _], _ => rfl) fun f fd F => fn_mk F sc_comes_before (by
    rintro X C cdv A outer s H E' P0 ds p rfl rfl hr ⟨f, g, rfl, hf, hg, hp⟩
    have nd := sc_comes_before.nd
    dsimp only [iniL, iniN, List.tail]
    have b := fun {h : Pl} (o : PO h) => (⟨lt_mono o.b.p (by decide), lt_mono o.b.q (by decide), lt_mono o.b.r (by decide)⟩ : PlB 3000 h)
    unfold comesBefore at hp
    refine sw_cons (s1_if (tv_cmp op_ne rd_neB (ev_fn (k_in_first_half E) hr (by decide) (evs_one (ev_var 0 rfl)) ⟨f, rfl, rfl⟩) (ev_fn (k_in_first_half E) hr (by decide) (evs_one (ev_var 1 rfl)) ⟨g, rfl, rfl⟩)) (fun ht => ?_) fun ht => ?_)
    all_goals (try dsimp only [List.set])
    · rw [if_pos (by simpa using ht)] at hp
      exact sw_one (s1_ret (EV.r (ev_fn (k_in_first_half E) hr (by decide) (evs_one (ev_var 0 rfl)) ⟨f, rfl, rfl⟩)) hp)
    · rw [if_neg (by simpa using ht)] at hp
      refine sw_nil (sw_cons (s1_set 2 nd (ev_fn (k_cross E) hr (by decide) (evs_cons (ev_var 0 rfl) (evs_one (ev_var 1 rfl))) ⟨f, g, rfl, b hf, b hg, rfl⟩) ?_))
      all_goals (try dsimp only [List.set])
      refine sw_cons (s1_if (tv_neI (ev_var 2 rfl) ev_int) (fun ht => ?_) fun ht => ?_)
      all_goals (try dsimp only [List.set])
      · rw [if_pos (by simpa using ht)] at hp
        exact sw_one (s1_ret (EV.r (ev_gt (ev_var 2 rfl) ev_int)) hp)
      · rw [if_neg (by simpa using ht)] at hp
        refine sw_nil (sw_one (s1_ret (EV.r (EV.is (ev_lt (ev_cmpQ E hr ⟨ev_fn (k_reach E) hr (by decide) (evs_one (ev_var 0 rfl)) ⟨f, rfl, hf, rfl⟩, reach_b hf⟩ ⟨ev_fn (k_reach E) hr (by decide) (evs_one (ev_var 1 rfl)) ⟨g, rfl, hg, rfl⟩, reach_b hg⟩) ev_int) ?_)) hp))
        rw [decide_eq_decide.mpr cmp_lt])
theorem ordAdd_mem {fs : List Pl} {h x : Pl} : x ∈ ordAdd fs h ↔ x ∈ fs ∨ x = h := by
  unfold ordAdd insAt
  split
  · rename_i hh; exact ⟨.inl, fun z => z.elim id fun e => by rw [e]; exact hh⟩
  · rw [List.append_assoc, List.mem_append, List.mem_append, List.mem_singleton]
    conv => rhs; rw [← List.take_append_drop (List.filter (fun o => comesBefore o h) fs).length fs, List.mem_append]
    constructor
    · rintro (z | z | z)
      · exact .inl (.inl z)
      · exact .inr z
      · exact .inl (.inr z)
    · rintro ((z | z) | z)
      · exact .inl z
      · exact .inr (.inr z)
      · exact .inr (.inl z)
theorem inOrder_mem {hs : List Pl} {x : Pl} : x ∈ inOrder hs ↔ x ∈ hs := by
  have : ∀ (hs fs : List Pl), x ∈ hs.foldl ordAdd fs ↔ x ∈ fs ∨ x ∈ hs := by
    intro hs
    induction hs with
    | nil => intro fs; simp
    | cons h hs ih => intro fs; rw [List.foldl_cons, ih, ordAdd_mem, List.mem_cons, or_assoc]
  unfold inOrder
  rw [this]; simp
theorem ordAdd_len (fs : List Pl) (h : Pl) : (ordAdd fs h).length ≤ fs.length + 1 := by
  unfold ordAdd insAt
  split
  · omega
  · simp only [List.length_append, List.length_take, List.length_drop, List.length_cons, List.length_nil]; omega
theorem inOrder_len (hs : List Pl) : (inOrder hs).length ≤ hs.length := by
  have : ∀ (hs fs : List Pl), (hs.foldl ordAdd fs).length ≤ fs.length + hs.length := by
    intro hs
    induction hs with
    | nil => intro fs; simp
    | cons h hs ih => intro fs; rw [List.foldl_cons, List.length_cons]; have := ih (ordAdd fs h); have := ordAdd_len fs h; omega
  have := this hs []
  rwa [List.length_nil, Nat.zero_add] at this
theorem sc_in_order : FnScope ["half_planes", "found", "half_plane", "place", "one"] ["half_planes"] (defScope (top 26)) := ⟨rfl, rfl, rfl, by decide +kernel, rfl, by decide +kernel, by decide +kernel⟩
def pm_in_order : Pm := fun ds p => ∃ hs : List Pl, ds = [.list (hs.map pl)] ∧ (∀ h ∈ hs, PO h) ∧ hs.length ≤ 1000 ∧ p (.list ((inOrder hs).map pl))
theorem k_in_order (E : Hd K mg) : Kn P w K mg base "in_order" [] 7 (spD K W 1 pm_in_order) :=
  kn_mk 18 E rfl rfl (fun _ _ _ _ _ _ us hl => match us, hl with | [_], _ => rfl) fun f fd F => fn_mk F sc_in_order (by
    rintro X C cdv A outer s H E' P0 ds p rfl rfl hr ⟨hs, rfl, hO, hz, hp⟩
    have nd := sc_in_order.nd
    dsimp only [iniL, iniN, List.tail]
    refine sw_cons (s1_own 1 nd (evl_lst evs_nil) ?_)
    all_goals (try dsimp only [List.set])
    refine sw_cons (s1_for pl hs (iv_lst (ev_var 0 rfl)) (fun i Γ => ∃ v u q, Γ = [.pu (.list (hs.map pl)), .ow ((inOrder (hs.take i)).map pl), v, u, q]) ⟨_, _, _, rfl⟩ ?_ ?_)
    all_goals (try dsimp only [List.set])
    · rintro i h _ hx ⟨v, u, q, rfl⟩
      have hm := List.mem_of_getElem? hx
      have ht : inOrder (hs.take (i + 1)) = ordAdd (inOrder (hs.take i)) h := by
        rw [List.take_succ, hx]; unfold inOrder; rw [List.foldl_append]; rfl
      have hlen : (inOrder (hs.take i)).length ≤ 1000 := Nat.le_trans (inOrder_len _) (by rw [List.length_take]; omega)
      have hO' : ∀ x ∈ inOrder (hs.take i), PO x := fun x hx => hO x (List.mem_of_mem_take (inOrder_mem.mp hx))
      rw [ht]
      unfold ordAdd
      generalize inOrder (hs.take i) = fs at hlen hO' ⊢
      refine ⟨_, _, gv_name 2 nd, ?_⟩
      try dsimp only [List.set]
      refine sw_one (s1_if (tv_thaw 1 rfl (tv_notInE eqv_pl flat_pl hr (ev_var 2 rfl) (ev_var 1 rfl))) (fun hn => ?_) fun hn => ?_)
      all_goals (try dsimp only [List.set])
      · have hn' : h ∉ fs := by simpa using hn
        rw [if_neg hn']
        refine sw_cons (s1_set 3 nd (ev_thaw 1 rfl (ev_len (E.free "len" (by simp)) (EVL.ev (evl_lcIf (own := [("one", 4)]) pl (fun o => comesBefore o h) pl fs nd (iv_lst (ev_var 1 rfl)) (blkOk_by rfl) (by omega) (fun o ho => ⟨_, _, by decide, fun s H Ca cl fp => gv_name 4 nd, fun s H Ca cl fp => tv_val (ev_fn (k_comes_before E) hr (by decide) (evs_cons (ev_var 4 rfl) (evs_one (ev_var 2 rfl))) ⟨o, h, rfl, hO' o ho, hO h hm, rfl⟩), fun _ s H Ca cl fp => ev_var 4 rfl⟩))))) ?_)
        all_goals (try dsimp only [List.set])
        try dsimp only [List.set]
        have hf := List.length_filter_le (fun o => comesBefore o h) fs
        refine sw_one (s1_insert 1 rfl (k := (fs.filter fun o => comesBefore o h).length) (EV.is (ev_var 3 rfl) (by rw [List.length_map])) (ev_var 2 rfl) ⟨.pu (pl h), .pu (.int (((fs.filter fun o => comesBefore o h).map pl).length : Int)), q, ?_⟩ (by rw [List.length_map]; omega) (by omega))
        try dsimp only [List.set]
        unfold insAt
        rw [List.map_append, List.map_append, List.map_take, List.map_drop]
        rfl
      · have hn' : h ∈ fs := by simpa using hn
        rw [if_pos hn']
        exact sw_nil ⟨_, _, _, rfl⟩
    · rintro _ ⟨v, u, q, rfl⟩
      rw [List.take_length]
      exact sw_one (s1_ret (evr_own 1 rfl) hp))
end
end RT
end
section
set_option linter.all false
/-! M2: pairs, triples of a list; weights. -/
namespace RT
open PySem
section
variable {α β : Type}
theorem mem_pairsFrom {f : α → α → β} {b : β} : ∀ {xs : List α}, b ∈ pairsFrom f xs → ∃ x y, x ∈ xs ∧ y ∈ xs ∧ b = f x y
  | [], h => by cases h
  | x :: xs, h => by
    unfold pairsFrom at h
    rcases List.mem_append.mp h with h | h
    · obtain ⟨y, hy, rfl⟩ := List.mem_map.mp h
      exact ⟨x, y, List.mem_cons_self, List.mem_cons_of_mem _ hy, rfl⟩
    · obtain ⟨y, z, hy, hz, e⟩ := mem_pairsFrom h
      exact ⟨y, z, List.mem_cons_of_mem _ hy, List.mem_cons_of_mem _ hz, e⟩
theorem mem_triplesFrom {f : α → α → α → β} {b : β} : ∀ {xs : List α}, b ∈ triplesFrom f xs → ∃ x y z, x ∈ xs ∧ y ∈ xs ∧ z ∈ xs ∧ b = f x y z
  | [], h => by cases h
  | x :: xs, h => by
    unfold triplesFrom at h
    rcases List.mem_append.mp h with h | h
    · obtain ⟨y, z, hy, hz, e⟩ := mem_pairsFrom h
      exact ⟨x, y, z, List.mem_cons_self, List.mem_cons_of_mem _ hy, List.mem_cons_of_mem _ hz, e⟩
    · obtain ⟨y, z, u, hy, hz, hu, e⟩ := mem_triplesFrom h
      exact ⟨y, z, u, List.mem_cons_of_mem _ hy, List.mem_cons_of_mem _ hz, List.mem_cons_of_mem _ hu, e⟩
theorem pairsFrom_len (f : α → α → β) : ∀ xs : List α, (pairsFrom f xs).length ≤ xs.length * xs.length
  | [] => Nat.le_refl _
  | x :: xs => by
    unfold pairsFrom
    rw [List.length_append, List.length_map, List.length_cons]
    have := pairsFrom_len f xs
    rw [Nat.add_mul, Nat.mul_add]
    omega
theorem triplesFrom_len (f : α → α → α → β) : ∀ xs : List α, (triplesFrom f xs).length ≤ xs.length * (xs.length * xs.length)
  | [] => Nat.le_refl _
  | x :: xs => by
    unfold triplesFrom
    rw [List.length_append, List.length_cons]
    have h1 := triplesFrom_len f xs
    have h2 := pairsFrom_len (f x) xs
    have h3 : xs.length * (xs.length * xs.length) ≤ xs.length * ((xs.length + 1) * (xs.length + 1)) := Nat.mul_le_mul_left _ (Nat.mul_le_mul (Nat.le_succ _) (Nat.le_succ _))
    have h4 : xs.length * xs.length ≤ (xs.length + 1) * (xs.length + 1) := Nat.mul_le_mul (Nat.le_succ _) (Nat.le_succ _)
    have h5 : (xs.length + 1) * ((xs.length + 1) * (xs.length + 1)) = xs.length * ((xs.length + 1) * (xs.length + 1)) + (xs.length + 1) * (xs.length + 1) := Nat.succ_mul _ _
    omega
theorem drop_at {xs : List α} {i : Nat} {x : α} (h : xs[i]? = some x) : xs.drop i = x :: xs.drop (i + 1) := by
  obtain ⟨h1, h2⟩ := List.getElem?_eq_some_iff.mp h
  rw [List.drop_eq_getElem_cons h1, h2]
theorem pairsFrom_at {f : α → α → β} {xs : List α} {i : Nat} {x : α} (h : xs[i]? = some x) : pairsFrom f (xs.drop i) = (xs.drop (i + 1)).map (f x) ++ pairsFrom f (xs.drop (i + 1)) := by rw [drop_at h]; rfl
theorem triplesFrom_at {f : α → α → α → β} {xs : List α} {i : Nat} {x : α} (h : xs[i]? = some x) : triplesFrom f (xs.drop i) = pairsFrom (f x) (xs.drop (i + 1)) ++ triplesFrom f (xs.drop (i + 1)) := by rw [drop_at h]; rfl
end
theorem zipIdx_mem {α : Type} {xs : List α} {z : α × Nat} (h : z ∈ xs.zipIdx) : xs[z.2]? = some z.1 := by
  obtain ⟨i, hi, e⟩ := List.getElem_of_mem h
  have e2 : xs.zipIdx[i]? = some z := by rw [List.getElem?_eq_getElem hi, e]
  rw [List.getElem?_zipIdx] at e2
  cases he : xs[i]? with
  | none => rw [he] at e2; cases e2
  | some x =>
    rw [he] at e2
    have : (x, 0 + i) = z := by simpa using e2
    rw [← this]
    simpa using he
/-- sizes of weights -/
theorem det_lt {n m : Nat} {f g : Pl} (h1 : f.p.natAbs < 2 ^ n) (h2 : f.q.natAbs < 2 ^ n) (h3 : g.p.natAbs < 2 ^ m) (h4 : g.q.natAbs < 2 ^ m) : (det f g).natAbs < 2 ^ (n + m + 1) := by
  have := isub_lt (imul_lt h1 h4) (imul_lt h2 h3)
  rwa [Nat.max_self] at this
theorem prod_lt {n m : Nat} {f g : Pl} (h1 : f.p.natAbs < 2 ^ n) (h2 : f.q.natAbs < 2 ^ n) (h3 : g.p.natAbs < 2 ^ m) (h4 : g.q.natAbs < 2 ^ m) : (prod f g).natAbs < 2 ^ (n + m + 1) := by
  have := iadd_lt (imul_lt h1 h3) (imul_lt h2 h4)
  rwa [Nat.max_self] at this
def owD (o : Ow) : PyData := .tuple [.tuple (o.1.map fun (i : Nat) => .int (i : Int)), match o.2 with | none => .none | some w => .tuple (w.map .int)]
def osD (o : List Nat × List Int) : PyData := .tuple [.tuple (o.1.map fun (i : Nat) => .int (i : Int)), .tuple (o.2.map .int)]
theorem oppSets_map (l : List Ow) : (l.filter fun o => o.2.isSome).map owD = (l.filterMap fun o => o.2.map fun w => (o.1, w)).map osD := by
  induction l with
  | nil => rfl
  | cons o l ih =>
    obtain ⟨ix, w⟩ := o
    cases w with
    | none => simpa using ih
    | some w =>
      simp only [List.filter_cons, Option.isSome_some, if_true, List.map_cons, List.filterMap_cons, Option.map_some]
      rw [ih]
      rfl
end RT
end
section
set_option linter.all false
set_option exponentiation.threshold 20000
/-! M3: trains of at most seven small elements: the sizes of their maps and planes. -/
namespace RT
open PySem
/-- 6 x is a whole number, at most 6 b -/
def Sm (b : Nat) (x : Rat) : Prop := ∃ k : Int, 6 * x = (k : Rat) ∧ k.natAbs ≤ 6 * b
def ElW : El → Prop
  | .gap x => Sm 8 x
  | .lens p c => Sm 4 p ∧ Sm 4 c
  | .prism x => Sm 4 x
  | .afocal m => Sm 4 m ∧ m ≠ 0 ∧ ∃ k : Int, 12 * (1 / m) = (k : Rat) ∧ k.natAbs ≤ 36
  | .stop lo hi => (∀ x, lo = some x → Sm 9 x) ∧ (∀ x, hi = some x → Sm 9 x)
structure TrW (t : List El) : Prop where
  el : ∀ e ∈ t, ElW e
  len : t.length ≤ 7
/-- x is k / D -/
theorem rb_of {x : Rat} {k D : Int} {n d : Nat} (hD : 0 < D) (h : (D : Rat) * x = (k : Rat)) (hk : k.natAbs < 2 ^ n) (hd : D.natAbs ≤ 2 ^ d) : RB n d x := by
  have hne : (D : Rat) ≠ 0 := by
    intro z
    have := congrArg Rat.num z
    simp at this
    omega
  have e : x = Rat.divInt k D := by
    rw [Rat.divInt_eq_div]
    grind
  rw [e]
  exact RB.divInt hk hd (by omega)
theorem Sm.rb {b : Nat} {x : Rat} (h : Sm b x) (hb : b ≤ 9) : RB 8 4 x := by
  obtain ⟨k, h1, h2⟩ := h
  exact rb_of (D := 6) (by decide) h1 (Nat.lt_of_le_of_lt (Nat.le_trans h2 (Nat.mul_le_mul_left 6 hb)) (by decide : 6 * 9 < 2 ^ 8)) (by decide)
theorem ElW.b {e : El} (h : ElW e) : ElB e := by
  cases e with
  | gap x => exact Sm.rb h (by decide)
  | lens p c => exact ⟨Sm.rb h.1 (by decide), Sm.rb h.2 (by decide)⟩
  | prism x => exact Sm.rb h (by decide)
  | afocal m => exact ⟨Sm.rb h.1 (by decide), h.2.1⟩
  | stop lo hi => exact ⟨fun x hx => Sm.rb (h.1 x hx) (by decide), fun x hx => Sm.rb (h.2 x hx) (by decide)⟩
/-- an entry of a map behind i elements -/
def En (i : Nat) (x : Rat) : Prop := ∃ n : Int, ((36 ^ i : Nat) : Rat) * x = (n : Rat) ∧ n.natAbs ≤ 756 ^ i
structure MpE (i : Nat) (m : Mp) : Prop where
  a : En i m.a
  b : En i m.b
  c : En i m.c
  d : En i m.d
  e : En i m.e
  f : En i m.f
  u : m.a * m.d - m.b * m.c = 1
/-- a row of an element's map: 36 times it is whole, its sizes sum up to at most 21 -/
structure Row3 (x y z : Rat) : Prop where
  ex : ∃ a b c : Int, 36 * x = (a : Rat) ∧ 36 * y = (b : Rat) ∧ 36 * z = (c : Rat) ∧ a.natAbs + b.natAbs + c.natAbs ≤ 756
theorem pow36 (i : Nat) : 36 ^ i ≤ 756 ^ i := Nat.pow_le_pow_left (by decide) i
theorem En.row {i : Nat} {x y z u v : Rat} (r : Row3 x y z) (hu : En i u) (hv : En i v) : En (i + 1) (wgt x u y v) ∧ En (i + 1) (wgt x u y v + z) := by
  obtain ⟨a, b, c, h1, h2, h3, h4⟩ := r.ex
  obtain ⟨n, hn, hnl⟩ := hu
  obtain ⟨m, hm, hml⟩ := hv
  have hp := pow36 i
  have key : ∀ p q : Int, p.natAbs ≤ q.natAbs → True := fun _ _ _ => trivial
  have l1 : (a * n).natAbs ≤ a.natAbs * 756 ^ i := by rw [Int.natAbs_mul]; exact Nat.mul_le_mul_left _ hnl
  have l2 : (b * m).natAbs ≤ b.natAbs * 756 ^ i := by rw [Int.natAbs_mul]; exact Nat.mul_le_mul_left _ hml
  have l3 : (c * ((36 ^ i : Nat) : Int)).natAbs ≤ c.natAbs * 756 ^ i := by rw [Int.natAbs_mul]; exact Nat.mul_le_mul_left _ (by simpa using hp)
  have s1 : (a.natAbs + b.natAbs + c.natAbs) * 756 ^ i ≤ 756 * 756 ^ i := Nat.mul_le_mul_right _ h4
  rw [Nat.add_mul, Nat.add_mul] at s1
  have e1 : 756 ^ (i + 1) = 756 * 756 ^ i := by rw [Nat.pow_succ, Nat.mul_comm]
  have e2 : ((36 ^ (i + 1) : Nat) : Rat) = 36 * ((36 ^ i : Nat) : Rat) := by rw [Nat.pow_succ, Nat.mul_comm, Rat.natCast_mul]; rfl
  refine ⟨⟨a * n + b * m, ?_, ?_⟩, ⟨a * n + b * m + c * ((36 ^ i : Nat) : Int), ?_, ?_⟩⟩
  · rw [e2]
    unfold wgt
    rw [Rat.intCast_add, Rat.intCast_mul, Rat.intCast_mul]
    grind
  · rw [e1]
    have := Int.natAbs_add_le (a * n) (b * m)
    omega
  · rw [e2]
    unfold wgt
    rw [Rat.intCast_add, Rat.intCast_add, Rat.intCast_mul, Rat.intCast_mul, Rat.intCast_mul, Rat.intCast_natCast]
    grind
  · rw [e1]
    have := Int.natAbs_add_le (a * n) (b * m)
    have := Int.natAbs_add_le (a * n + b * m) (c * ((36 ^ i : Nat) : Int))
    omega
theorem row_of {x y z : Rat} (a b c : Int) (h1 : 36 * x = (a : Rat)) (h2 : 36 * y = (b : Rat)) (h3 : 36 * z = (c : Rat)) (h : a.natAbs + b.natAbs + c.natAbs ≤ 756) : Row3 x y z := ⟨⟨a, b, c, h1, h2, h3, h⟩⟩
theorem c0 : 36 * (0 : Rat) = ((0 : Int) : Rat) := by rw [Rat.mul_zero]; rfl
theorem c36 : 36 * (1 : Rat) = ((36 : Int) : Rat) := by rw [Rat.mul_one]; rfl
/-- the two rows of an element's map -/
theorem elMap_rows {e : El} (h : ElW e) : Row3 (elMap e).a (elMap e).b (elMap e).e ∧ Row3 (elMap e).c (elMap e).d (elMap e).f ∧ (elMap e).a * (elMap e).d - (elMap e).b * (elMap e).c = 1 := by
  cases e with
  | gap x =>
    obtain ⟨k, hk, hl⟩ := h
    refine ⟨row_of 36 (6 * k) 0 c36 ?_ c0 ?_, row_of 0 36 0 c0 c36 c0 (by decide), ?_⟩
    · show 36 * x = _
      rw [Rat.intCast_mul]
      have : ((6 : Int) : Rat) = 6 := rfl
      rw [this]; grind
    · rw [Int.natAbs_mul]; simp only [Int.natAbs_zero]; rw [show (6 : Int).natAbs = 6 from rfl]
      have : (36 : Int).natAbs = 36 := rfl
      omega
    · show (1 : Rat) * 1 - x * 0 = 1
      grind
  | lens p c =>
    obtain ⟨⟨k, hk, hl⟩, m, hm, hml⟩ := h
    refine ⟨row_of 36 0 0 c36 c0 c0 (by decide), row_of (-(6 * k)) 36 (k * m) ?_ c36 ?_ ?_, ?_⟩
    · show 36 * (-p) = _
      rw [Rat.intCast_neg, Rat.intCast_mul]
      have : ((6 : Int) : Rat) = 6 := rfl
      rw [this]; grind
    · show 36 * (p * c) = _
      rw [Rat.intCast_mul]; grind
    · rw [Int.natAbs_neg, Int.natAbs_mul, Int.natAbs_mul]
      rw [show (6 : Int).natAbs = 6 from rfl]
      have : (36 : Int).natAbs = 36 := rfl
      have h1 : k.natAbs * m.natAbs ≤ 24 * 24 := Nat.mul_le_mul hl hml
      omega
    · show (1 : Rat) * 1 - 0 * (-p) = 1
      grind
  | prism x =>
    obtain ⟨k, hk, hl⟩ := h
    refine ⟨row_of 36 0 0 c36 c0 c0 (by decide), row_of 0 36 (6 * k) c0 c36 ?_ ?_, ?_⟩
    · show 36 * x = _
      rw [Rat.intCast_mul]
      have : ((6 : Int) : Rat) = 6 := rfl
      rw [this]; grind
    · rw [Int.natAbs_mul]
      rw [show (6 : Int).natAbs = 6 from rfl]
      have : (36 : Int).natAbs = 36 := rfl
      have : (0 : Int).natAbs = 0 := rfl
      omega
    · show (1 : Rat) * 1 - 0 * 0 = 1
      grind
  | afocal m =>
    obtain ⟨⟨k, hk, hl⟩, h0, j, hj, hjl⟩ := h
    refine ⟨row_of (6 * k) 0 0 ?_ c0 c0 ?_, row_of 0 (3 * j) 0 c0 ?_ c0 ?_, ?_⟩
    · show 36 * m = _
      rw [Rat.intCast_mul]
      have : ((6 : Int) : Rat) = 6 := rfl
      rw [this]; grind
    · rw [Int.natAbs_mul]
      rw [show (6 : Int).natAbs = 6 from rfl]
      have : (0 : Int).natAbs = 0 := rfl
      omega
    · show 36 * (1 / m) = _
      rw [Rat.intCast_mul]
      have : ((3 : Int) : Rat) = 3 := rfl
      rw [this]; grind
    · rw [Int.natAbs_mul]
      rw [show (3 : Int).natAbs = 3 from rfl]
      have : (0 : Int).natAbs = 0 := rfl
      omega
    · show m * (1 / m) - 0 * 0 = 1
      grind
  | stop lo hi => exact ⟨row_of 36 0 0 c36 c0 c0 (by decide), row_of 0 36 0 c0 c36 c0 (by decide), by show (1 : Rat) * 1 - 0 * 0 = 1; grind⟩
theorem mapE : ∀ (t : List El), (∀ e ∈ t, ElW e) → MpE t.length (mapOf t) := by
  intro t
  suffices h : ∀ (t u : List El), (∀ e ∈ t, ElW e) → MpE u.length (mapOf u) → MpE (u ++ t).length (mapOf (u ++ t)) by
    intro ht
    have z : En 0 0 := ⟨0, by simp, by decide⟩
    have o : En 0 1 := ⟨1, by simp, by decide⟩
    have := h t [] ht ⟨o, z, z, o, z, z, by show (1 : Rat) * 1 - 0 * 0 = 1; grind⟩
    simpa using this
  intro t
  induction t with
  | nil => intro u _ h; simpa using h
  | cons e t ih =>
    intro u ht hu
    have e1 : u ++ e :: t = (u ++ [e]) ++ t := by simp
    rw [e1]
    refine ih (u ++ [e]) (fun x hx => ht x (List.mem_cons_of_mem _ hx)) ?_
    obtain ⟨r1, r2, hd⟩ := elMap_rows (ht e List.mem_cons_self)
    rw [mapOf_add, List.length_append]
    have a1 := En.row r1 hu.a hu.c
    have a2 := En.row r1 hu.b hu.d
    have a3 := En.row r1 hu.e hu.f
    have b1 := En.row r2 hu.a hu.c
    have b2 := En.row r2 hu.b hu.d
    have b3 := En.row r2 hu.e hu.f
    refine ⟨a1.1, a2.1, b1.1, b2.1, a3.2, b3.2, ?_⟩
    have hu' := hu.u
    show wgt (elMap e).a (mapOf u).a (elMap e).b (mapOf u).c * wgt (elMap e).c (mapOf u).b (elMap e).d (mapOf u).d - wgt (elMap e).a (mapOf u).b (elMap e).b (mapOf u).d * wgt (elMap e).c (mapOf u).a (elMap e).d (mapOf u).c = 1
    unfold wgt
    grind
theorem En.rb {i : Nat} {x : Rat} (h : En i x) (hi : i ≤ 7) : RB 70 37 x := by
  obtain ⟨n, h1, h2⟩ := h
  refine rb_of (D := ((36 ^ i : Nat) : Int)) (by have := Nat.pow_pos (n := i) (show 0 < 36 by decide); omega) (by rw [Rat.intCast_natCast]; exact h1) (Nat.lt_of_le_of_lt h2 ?_) ?_
  · exact Nat.lt_of_le_of_lt (Nat.pow_le_pow_right (by decide) hi) (by decide)
  · rw [Int.natAbs_natCast]
    exact Nat.le_trans (Nat.pow_le_pow_right (by decide) hi) (by decide)
theorem MpE.b' {i : Nat} {m : Mp} (h : MpE i m) (hi : i ≤ 7) : MpB 70 37 m := ⟨h.a.rb hi, h.b.rb hi, h.c.rb hi, h.d.rb hi, h.e.rb hi, h.f.rb hi⟩
theorem MpB.mono {n k m l : Nat} {x : Mp} (h : MpB n k x) (h1 : n ≤ m) (h2 : k ≤ l) : MpB m l x := ⟨h.a.mono h1 h2, h.b.mono h1 h2, h.c.mono h1 h2, h.d.mono h1 h2, h.e.mono h1 h2, h.f.mono h1 h2⟩
theorem TrW.take {t : List El} (h : TrW t) (i : Nat) : MpE (t.take i).length (mapOf (t.take i)) ∧ (t.take i).length ≤ 7 :=
  ⟨mapE _ fun e he => h.el e (List.mem_of_mem_take he), by rw [List.length_take]; have := h.len; omega⟩
theorem MpE.ab {i : Nat} {m : Mp} (h : MpE i m) : m.a ≠ 0 ∨ m.b ≠ 0 := by
  have := h.u
  by_cases h1 : m.a = 0
  · right
    intro h2
    rw [h1, h2] at this
    grind
  · exact .inl h1
theorem TrW.b {t : List El} (h : TrW t) : TrB t :=
  ⟨fun e he => (h.el e he).b, fun i => ((h.take i).1.b' (h.take i).2).mono (by decide) (by decide), fun i => (h.take i).1.ab, Nat.le_trans h.len (by decide)⟩
/-- a half plane made of three fractions -/
theorem mkPl_po {p q r : Rat} (hp : RB 80 44 p) (hq : RB 80 44 q) (hr : RB 80 44 r) (h0 : p ≠ 0 ∨ q ≠ 0) : PO (mkPl p q r) := by
  have ne := mkPa_ne2 (r := r) h0
  have hg := igcd3_le (c := mkPa p q r r) ne
  have lt : ∀ x, RB 80 44 x → (mkPa p q r x).natAbs < 2 ^ 300 := fun x hx => lt_mono (mkPa_lt hp hq hr hx) (by decide)
  have dv : ∀ x, (x / igcd3 (mkPa p q r p) (mkPa p q r q) (mkPa p q r r)).natAbs ≤ x.natAbs := fun x => Int.natAbs_ediv_le_natAbs _ _
  rw [mkPl_eq]
  refine ⟨⟨Nat.lt_of_le_of_lt (dv _) (lt p hp), Nat.lt_of_le_of_lt (dv _) (lt q hq), Nat.lt_of_le_of_lt (dv _) (lt r hr)⟩, ?_⟩
  have d1 : igcd3 (mkPa p q r p) (mkPa p q r q) (mkPa p q r r) ∣ mkPa p q r p := Int.dvd_trans (Int.gcd_dvd_left _ _) (Int.gcd_dvd_left _ _)
  have d2 : igcd3 (mkPa p q r p) (mkPa p q r q) (mkPa p q r r) ∣ mkPa p q r q := Int.dvd_trans (Int.gcd_dvd_left _ _) (Int.gcd_dvd_right _ _)
  have nz : ∀ {x g : Int}, g ∣ x → x ≠ 0 → x / g ≠ 0 := fun {x g} hd hx z => by
    obtain ⟨k, rfl⟩ := hd
    have hg0 : g ≠ 0 := fun y => hx (by rw [y, Int.zero_mul])
    rw [Int.mul_ediv_cancel_left _ hg0] at z
    exact hx (by rw [z, Int.mul_zero])
  exact ne.imp (fun h => nz d1 h) fun h => nz d2 h
theorem mem_hpTo {t : List El} {z : Ed × Pl} : ∀ {i : Nat}, z ∈ hpTo t i ↔ ∃ j, j < i ∧ z ∈ hpAt t j
  | i => by
    unfold hpTo
    rw [List.mem_flatMap]
    exact ⟨fun ⟨j, hj, hz⟩ => ⟨j, List.mem_range.mp hj, hz⟩, fun ⟨j, hj, hz⟩ => ⟨j, List.mem_range.mpr hj, hz⟩⟩
theorem mem_hps {t : List El} {z : Ed × Pl} (h : z ∈ hps t) : ∃ lo hi, t[z.1.i]? = some (.stop lo hi) ∧
    ((z.1.up = false ∧ ∃ x, lo = some x ∧ z.2 = mkPl (-(mapOf (t.take z.1.i)).a) (-(mapOf (t.take z.1.i)).b) ((mapOf (t.take z.1.i)).e - x)) ∨ (z.1.up = true ∧ ∃ y, hi = some y ∧ z.2 = mkPl (mapOf (t.take z.1.i)).a (mapOf (t.take z.1.i)).b (y - (mapOf (t.take z.1.i)).e))) := by
  obtain ⟨j, hj, hz⟩ := mem_hpTo.mp h
  unfold hpAt at hz
  split at hz
  · rename_i lo hi e
    unfold edgesOf at hz
    rcases List.mem_append.mp hz with hz | hz
    · cases lo with
      | none => cases hz
      | some x =>
        have hz' := List.mem_singleton.mp hz
        subst hz'
        exact ⟨some x, hi, e, .inl ⟨rfl, x, rfl, rfl⟩⟩
    · cases hi with
      | none => cases hz
      | some y =>
        have hz' := List.mem_singleton.mp hz
        subst hz'
        exact ⟨lo, some y, e, .inr ⟨rfl, y, rfl, rfl⟩⟩
  · cases hz
theorem TrW.po {t : List El} (h : TrW t) : ∀ z ∈ hps t, PO z.2 := by
  intro z hz
  obtain ⟨lo, hi, he, hc⟩ := mem_hps hz
  obtain ⟨hE, hl⟩ := h.take z.1.i
  have hb := hE.b' hl
  have ha := hE.ab
  have hs := (h.el _ (List.mem_of_getElem? he)).b
  rcases hc with ⟨_, x, hx, e⟩ | ⟨_, x, hx, e⟩
  · rw [e]
    exact mkPl_po (hb.a.neg.mono (by decide) (by decide)) (hb.b.neg.mono (by decide) (by decide)) ((hb.e.sub (hs.1 x hx)).mono (by decide) (by decide)) (ha.imp (fun z y => z (by grind)) (fun z y => z (by grind)))
  · rw [e]
    exact mkPl_po (hb.a.mono (by decide) (by decide)) (hb.b.mono (by decide) (by decide)) (((hs.2 x hx).sub hb.e).mono (by decide) (by decide)) ha
theorem TrW.po' {t : List El} (h : TrW t) : ∀ g ∈ planes t, PO g := by
  intro g hg
  obtain ⟨z, hz, rfl⟩ := List.mem_map.mp hg
  exact h.po z hz
theorem TrW.plen {t : List El} (h : TrW t) : (planes t).length ≤ 14 := by
  unfold planes
  rw [List.length_map]
  have := hpTo_len t t.length
  have := h.len
  exact Nat.le_trans (hpTo_len t t.length) (by omega)
theorem TrW.wo {t : List El} (h : TrW t) {e : Ed} {lo hi : Option Rat} (he : t[e.i]? = some (.stop lo hi)) : TrW (woEdge t e) := by
  have hs := h.el _ (List.mem_of_getElem? he)
  have hlt := (List.getElem?_eq_some_iff.mp he).1
  unfold woEdge
  rw [he]
  refine ⟨fun x hx => ?_, ?_⟩
  · rcases List.mem_append.mp hx with hx | hx
    · rcases List.mem_append.mp hx with hx | hx
      · exact h.el x (List.mem_of_mem_take hx)
      · rw [List.mem_singleton] at hx
        subst hx
        split
        · exact ⟨hs.1, fun x hx => (nomatch hx)⟩
        · exact ⟨fun x hx => (nomatch hx), hs.2⟩
    · exact h.el x (List.mem_of_mem_drop hx)
  · simp only [List.length_append, List.length_take, List.length_drop, List.length_cons, List.length_nil]
    have := h.len
    omega
end RT
namespace RT
open PySem
/-! ### an edge taken away -/
def sides : El → Nat
  | .stop lo hi => (if lo.isSome then 1 else 0) + (if hi.isSome then 1 else 0)
  | _ => 0
theorem hpAt_sides {t : List El} {j : Nat} {e : El} (h : t[j]? = some e) : (hpAt t j).length = sides e := by
  unfold hpAt
  rw [h]
  cases e with
  | stop lo hi =>
    show (edgesOf j lo hi _).length = _
    unfold edgesOf sides
    cases lo <;> cases hi <;> rfl
  | _ => rfl
theorem hpTo_sides {t : List El} : ∀ {i : Nat}, i ≤ t.length → (hpTo t i).length = ((t.take i).map sides).sum
  | 0, _ => by simp [hpTo]
  | i + 1, h => by
    have hi : t[i]? = some t[i] := List.getElem?_eq_getElem h
    rw [hpTo_succ, List.length_append, hpTo_sides (Nat.le_of_succ_le h), hpAt_sides hi, List.take_succ, hi, List.map_append, List.sum_append]
    rfl
theorem hps_sides (t : List El) : (hps t).length = (t.map sides).sum := by
  unfold hps
  rw [hpTo_sides (Nat.le_refl _), List.take_length]
theorem woEdge_at {t : List El} {e : Ed} {lo hi : Option Rat} (h : t[e.i]? = some (.stop lo hi)) : woEdge t e = t.take e.i ++ [if e.up then .stop lo none else .stop none hi] ++ t.drop (e.i + 1) := by
  unfold woEdge
  rw [h]
theorem split_at {α : Type} {t : List α} {i : Nat} {x : α} (h : t[i]? = some x) : t = t.take i ++ [x] ++ t.drop (i + 1) := by
  rw [List.append_assoc]
  conv => lhs; rw [← List.take_append_drop i t, drop_at h]
  rfl
theorem woEdge_less {t : List El} {z : Ed × Pl} (h : z ∈ hps t) : (hps (woEdge t z.1)).length < (hps t).length := by
  obtain ⟨lo, hi, he, hc⟩ := mem_hps h
  rw [hps_sides, hps_sides, woEdge_at he]
  conv => rhs; rw [split_at he]
  simp only [List.map_append, List.sum_append, List.map_cons, List.map_nil, List.sum_cons, List.sum_nil]
  rcases hc with ⟨hu, x, rfl, _⟩ | ⟨hu, x, rfl, _⟩
  · rw [hu]; simp [sides]
  · rw [hu]; simp [sides]
theorem redEdges_mem {t : List El} {e : Ed} (h : e ∈ redEdges t) : ∃ z ∈ hps t, z.1 = e ∧ isRed t z = true := by
  unfold redEdges at h
  obtain ⟨z, hz, rfl⟩ := List.mem_map.mp h
  obtain ⟨h1, h2⟩ := List.mem_filter.mp hz
  exact ⟨z, h1, rfl, h2⟩
def simpF : Nat → List El → List El
  | 0, t => t
  | n + 1, t => match redEdges t with
    | [] => t
    | e :: _ => simpF n (woEdge t e)
theorem simpF_ge : ∀ (n m : Nat) (t : List El), (hps t).length ≤ n → n ≤ m → simpF n t = simpF m t
  | 0, m, t, h, _ => by
    have e : redEdges t = [] := by
      cases q : redEdges t with
      | nil => rfl
      | cons e es =>
        obtain ⟨z, hz, _⟩ := redEdges_mem (t := t) (e := e) (by rw [q]; exact List.mem_cons_self)
        have := List.length_pos_of_mem hz
        omega
    cases m with
    | zero => rfl
    | succ m =>
      show t = (match redEdges t with | [] => t | e :: _ => simpF m (woEdge t e))
      rw [e]
  | n + 1, 0, t, _, h => by omega
  | n + 1, m + 1, t, h, hm => by
    show (match redEdges t with | [] => t | e :: _ => simpF n (woEdge t e)) = (match redEdges t with | [] => t | e :: _ => simpF m (woEdge t e))
    cases q : redEdges t with
    | nil => rfl
    | cons e es =>
      obtain ⟨z, hz, rfl, _⟩ := redEdges_mem (t := t) (e := e) (by rw [q]; exact List.mem_cons_self)
      have := woEdge_less hz
      exact simpF_ge n m _ (by omega) (by omega)
def simpl (t : List El) : List El := simpF (hps t).length t
theorem simpl_nil {t : List El} (h : redEdges t = []) : simpl t = t := by
  unfold simpl
  cases (hps t).length with
  | zero => rfl
  | succ n =>
    show (match redEdges t with | [] => t | e :: _ => simpF n (woEdge t e)) = t
    rw [h]
theorem simpl_cons {t : List El} {e : Ed} {es : List Ed} (h : redEdges t = e :: es) : simpl t = simpl (woEdge t e) ∧ (hps (woEdge t e)).length < (hps t).length := by
  obtain ⟨z, hz, rfl, _⟩ := redEdges_mem (t := t) (e := e) (by rw [h]; exact List.mem_cons_self)
  have hl := woEdge_less hz
  refine ⟨?_, hl⟩
  unfold simpl
  obtain ⟨n, hn⟩ : ∃ n, (hps t).length = n + 1 := ⟨(hps t).length - 1, by omega⟩
  rw [hn]
  show (match redEdges t with | [] => t | e :: _ => simpF n (woEdge t e)) = _
  rw [h]
  exact (simpF_ge _ n _ (Nat.le_refl _) (by omega)).symm
def simplOf (t : List El) : List El := (simpl t).filter fun e => decide (e ≠ .stop none none)
def axAdd (ax : List Pl) (h : Pl) : List Pl := if (ax.filter fun a => decide (det a h = 0)).isEmpty then ax ++ [h] else ax
def axesOf (hs : List Pl) : List Pl := hs.foldl axAdd []
def minStops (hs : List Pl) : Nat := if kindOf hs = .line then 1 else if kindOf hs ≠ .area then 2 else (axesOf (neededOf hs)).length
theorem eqv_stop (e : El) : PyData.eqv (el e) (el (.stop none none)) = decide (e = .stop none none) := by
  cases e with
  | stop lo hi =>
    cases lo <;> cases hi <;> simp [el, ofr, fr, PyData.eqv, PyData.eqvAll]
  | _ =>
    simp only [el, PyData.eqv, PyData.eqvAll]
    first
      | (rw [decide_eq_false (by intro h; cases h)]; rfl)
      | simp
end RT
end
section
set_option linter.all false
set_option exponentiation.threshold 20000
/-! M4: rays through a train. -/
namespace RT
open PySem
def goOf (e : El) (z : Ray) : Ray :=
  match e with
  | .gap x => (z.1 + x * z.2, z.2)
  | .lens p c => (z.1, z.2 - p * (z.1 - c))
  | .prism x => (z.1, z.2 + x)
  | .afocal m => (m * z.1, z.2 / m)
  | .stop _ _ => z
def outOf (t : List El) (z : Ray) : Ray := t.foldl (fun z e => goOf e z) z
theorem outOf_add (t : List El) (e : El) (z : Ray) : outOf (t ++ [e]) z = goOf e (outOf t z) := by unfold outOf; rw [List.foldl_append]; rfl
def appl (m : Mp) (z : Ray) : Ray := (m.a * z.1 + m.b * z.2 + m.e, m.c * z.1 + m.d * z.2 + m.f)
theorem goOf_appl {e : El} (he : ∀ m, e = .afocal m → m ≠ 0) (m : Mp) (z : Ray) : goOf e (appl m z) = appl (comp m (elMap e)) z := by
  unfold appl comp wgt
  cases e with
  | gap x => apply Prod.ext <;> simp only [goOf, elMap] <;> grind
  | lens p c => apply Prod.ext <;> simp only [goOf, elMap] <;> grind
  | prism x => apply Prod.ext <;> simp only [goOf, elMap] <;> grind
  | afocal k =>
    have h0 := he k rfl
    apply Prod.ext <;> simp only [goOf, elMap] <;> grind
  | stop lo hi => apply Prod.ext <;> simp only [goOf, elMap, idm] <;> grind
theorem outOf_appl : ∀ (t : List El), (∀ e ∈ t, ElW e) → ∀ z, outOf t z = appl (mapOf t) z := by
  intro t
  suffices h : ∀ (t u : List El) (z : Ray), (∀ e ∈ t, ElW e) → outOf u z = appl (mapOf u) z → outOf (u ++ t) z = appl (mapOf (u ++ t)) z by
    intro ht z
    refine h t [] z ht ?_
    show z = _
    apply Prod.ext
    · show z.1 = 1 * z.1 + 0 * z.2 + 0; grind
    · show z.2 = 0 * z.1 + 1 * z.2 + 0; grind
  intro t
  induction t with
  | nil => intro u z _ h; simpa using h
  | cons e t ih =>
    intro u z ht hu
    have e1 : u ++ e :: t = (u ++ [e]) ++ t := by simp
    rw [e1]
    refine ih (u ++ [e]) z (fun x hx => ht x (List.mem_cons_of_mem _ hx)) ?_
    rw [outOf_add, hu, mapOf_add, goOf_appl fun m hm => ?_]
    have := ht e List.mem_cons_self
    subst hm
    exact this.2.1
end RT
end
section
set_option linter.all false
/-! M5: the law's bounds. -/
namespace RT
open PySem
structure Ln where
  a : Rat
  b : Rat
  c : Rat
def ln (l : Ln) : PyData := .tuple [fr l.a, fr l.b, fr l.c]
def lawLine (h : Pl) (p q : Rat) : Ln :=
  if q.num ≠ 0 then ⟨(h.q : Rat) / q, (h.p : Rat) - (h.q : Rat) / q * p, (h.r : Rat)⟩ else ⟨(h.p : Rat) / p, (h.q : Rat), (h.r : Rat)⟩
def lawComb (one other : Ln) : Ln := ⟨one.a + -(one.b / other.b) * other.a, 0, one.c + -(one.b / other.b) * other.c⟩
def lnZ (ls : List Ln) : List Ln := ls.filter fun l => decide (l.b.num = 0)
def lnP (ls : List Ln) : List Ln := ls.filter fun l => decide (l.b.num > 0)
def lnN (ls : List Ln) : List Ln := ls.filter fun l => decide (l.b.num < 0)
def lawRows (ls : List Ln) : List Ln := lnZ ls ++ (lnP ls).flatMap fun one => (lnN ls).map (lawComb one)
def lnBad (l : Ln) : Bool := decide (l.a.num = 0) && decide (l.c.num < 0)
def lnLo (rs : List Ln) : List Rat := (rs.filter fun l => decide (l.a.num < 0)).map fun l => l.c / l.a
def lnUp (rs : List Ln) : List Rat := (rs.filter fun l => decide (l.a.num > 0)).map fun l => l.c / l.a
def lawEnds (lo up : Option Rat) : Option (Option Rat × Option Rat) :=
  match lo, up with
  | some x, some y => if y < x then none else some (some x, some y)
  | lo, up => some (lo, up)
def lawBnd (rs : List Ln) : Option (Option Rat × Option Rat) := if rs.any lnBad then none else lawEnds (greatL (lnLo rs)) (leastL (lnUp rs))
def lawBounds (hs : List Pl) (p q : Rat) : Option (Option Rat × Option Rat) := lawBnd (lawRows (hs.map fun h => lawLine h p q))
def lbD : Option (Option Rat × Option Rat) → PyData
  | none => .tuple []
  | some w => .tuple [ofr w.1, ofr w.2]
def lawEmp (hs : List Pl) : Bool := (lawBounds hs 1 0).isNone
def lawImp (hs : List Pl) (h : Pl) : Bool :=
  match lawBounds hs (h.p : Rat) (h.q : Rat) with
  | none => true
  | some w => match w.2 with
    | none => false
    | some u => !decide ((h.r : Rat) < u)
def nearU : Option Rat → Rat
  | some y => if y.num < 0 then y else 0
  | none => 0
def nearOf (lo up : Option Rat) : Rat :=
  match lo with
  | some x => if x.num > 0 then x else nearU up
  | none => nearU up
def nearB (o : Option (Option Rat × Option Rat)) : Rat := match o with
  | some w => nearOf w.1 w.2
  | none => 0
def sampH (hs : List Pl) : Rat := nearB (lawBounds hs 1 0)
def sampP (hs : List Pl) : List Pl := hs ++ [mkPl 1 0 (sampH hs), mkPl (-1) 0 (-(sampH hs))]
def sampOf (hs : List Pl) : Ray := (sampH hs, nearB (lawBounds (sampP hs) 0 1))
def lolB (hs : List Pl) (h : Pl) : Bool := match lawBounds hs (h.p : Rat) (h.q : Rat) with
  | some w => decide (w.1 = some (h.r : Rat))
  | none => false
def lawLineOf (hs : List Pl) : Option Pl := hs.find? (lolB hs)
def lawEndKind (lo up : Option Rat) : Kind :=
  match lo, up with
  | none, none => .line
  | none, some _ => .half
  | some _, none => .half
  | some x, some y => if x = y then .point else .segment
def lawKind (hs : List Pl) : Kind :=
  if lawEmp hs then .empty
  else match lawLineOf hs with
    | none => .area
    | some l => match lawBounds hs ((-l.q : Int) : Rat) (l.p : Rat) with
      | some w => lawEndKind w.1 w.2
      | none => .line
end RT
end
section
set_option linter.all false
/-! M6: the law's order, trains, likeness. -/
namespace RT
open PySem
def lawHalf (h : Pl) : Int := if (decide (h.q < 0) || (decide (h.q = 0) && decide (h.p < 0))) = true then 1 else 0
def lawBefore (f g : Pl) : Bool :=
  if lawHalf f ≠ lawHalf g then decide (lawHalf f < lawHalf g)
  else if det f g ≠ 0 then decide (det f g > 0) else decide (f.r * size1 g < g.r * size1 f)
def dedAdd (r : List Pl) (h : Pl) : List Pl := if h ∈ r then r else r ++ [h]
def dedup (hs : List Pl) : List Pl := hs.foldl dedAdd []
def pickF (f p : Pl) : Pl := if lawBefore p f then p else f
def pickFirst (rest : List Pl) : Pl := rest.foldl pickF (rest.headD ⟨0, 0, 0⟩)
def sortF : Nat → List Pl → List Pl
  | 0, _ => []
  | n + 1, rest => match rest with
    | [] => []
    | r :: rs => pickFirst (r :: rs) :: sortF n ((r :: rs).erase (pickFirst (r :: rs)))
def lawSorted (hs : List Pl) : List Pl := sortF (dedup hs).length (dedup hs)
theorem pickFirst_mem {r : Pl} {rs : List Pl} : pickFirst (r :: rs) ∈ r :: rs := by
  have : ∀ (xs : List Pl) (f : Pl), xs.foldl pickF f = f ∨ xs.foldl pickF f ∈ xs := by
    intro xs
    induction xs with
    | nil => intro f; exact .inl rfl
    | cons x xs ih =>
      intro f
      rw [List.foldl_cons]
      rcases ih (pickF f x) with h | h
      · rw [h]
        unfold pickF
        split
        · exact .inr List.mem_cons_self
        · exact .inl rfl
      · exact .inr (List.mem_cons_of_mem _ h)
  unfold pickFirst
  rcases this (r :: rs) r with h | h
  · show List.foldl pickF r (r :: rs) ∈ r :: rs
    rw [h]; exact List.mem_cons_self
  · exact h
theorem dedup_mem {hs : List Pl} {x : Pl} : x ∈ dedup hs ↔ x ∈ hs := by
  have : ∀ (hs fs : List Pl), x ∈ hs.foldl dedAdd fs ↔ x ∈ fs ∨ x ∈ hs := by
    intro hs
    induction hs with
    | nil => intro fs; simp
    | cons h hs ih =>
      intro fs
      rw [List.foldl_cons, ih, List.mem_cons]
      unfold dedAdd
      split
      · rename_i hm
        constructor
        · rintro (z | z)
          · exact .inl z
          · exact .inr (.inr z)
        · rintro (z | z | z)
          · exact .inl z
          · rw [z]; exact .inl hm
          · exact .inr z
      · rw [List.mem_append, List.mem_singleton, or_assoc]
  unfold dedup
  rw [this]; simp
theorem dedup_len (hs : List Pl) : (dedup hs).length ≤ hs.length := by
  have : ∀ (hs fs : List Pl), (hs.foldl dedAdd fs).length ≤ fs.length + hs.length := by
    intro hs
    induction hs with
    | nil => intro fs; simp
    | cons h hs ih =>
      intro fs
      rw [List.foldl_cons, List.length_cons]
      have h1 := ih (dedAdd fs h)
      have h2 : (dedAdd fs h).length ≤ fs.length + 1 := by
        unfold dedAdd
        split
        · omega
        · simp
      omega
  have := this hs []
  rwa [List.length_nil, Nat.zero_add] at this
theorem sortF_mem : ∀ (n : Nat) {rest : List Pl} {x : Pl}, x ∈ sortF n rest → x ∈ rest
  | 0, _, _, h => by cases h
  | n + 1, [], _, h => by cases h
  | n + 1, r :: rs, x, h => by
    rcases List.mem_cons.mp (show x ∈ pickFirst (r :: rs) :: sortF n ((r :: rs).erase (pickFirst (r :: rs))) from h) with h | h
    · rw [h]; exact pickFirst_mem
    · exact List.mem_of_mem_erase (sortF_mem n h)
theorem lawSorted_mem {hs : List Pl} {x : Pl} (h : x ∈ lawSorted hs) : x ∈ hs := dedup_mem.mp (sortF_mem _ h)
theorem sortF_len : ∀ (n : Nat) (rest : List Pl), (sortF n rest).length ≤ n
  | 0, _ => Nat.le_refl _
  | n + 1, [] => Nat.zero_le _
  | n + 1, r :: rs => Nat.succ_le_succ (sortF_len n _)
theorem lawSorted_len (hs : List Pl) : (lawSorted hs).length ≤ hs.length := Nat.le_trans (sortF_len _ _) (dedup_len hs)
def lawNeeded (hs : List Pl) : List Pl := (lawSorted hs).filter fun h => !lawImp ((lawSorted hs).filter fun o => decide (o ≠ h)) h
def lawRedOne (t : List El) (z : Ed × Pl) : Bool := lawImp (planes (woEdge t z.1)) z.2
def lawRed (t : List El) : List Ed := ((hps t).filter (lawRedOne t)).map (·.1)
/-- steps along which the law tries rays -/
def lawSteps (hs : List Pl) : List Ray := match lawLineOf hs with
  | none => [(1, 0), (0, 1)]
  | some l => if lawKind hs ≠ .point then [(((-l.q : Int) : Rat), (l.p : Rat))] else []
def lawTry (t u : List El) (z s : Ray) : Bool := decide (outOf t (z.1 + s.1, z.2 + s.2) = outOf u (z.1 + s.1, z.2 + s.2))
def lawAlike (t u : List El) : Bool :=
  if ((planes u).any fun h => !lawImp (planes t) h) || ((planes t).any fun h => !lawImp (planes u) h) then false
  else if lawEmp (planes t) then true
  else ((0, 0) :: lawSteps (planes t)).all fun s => lawTry t u (sampOf (planes t)) s
def lineAdd (ls : List Pl) (h : Pl) : List Pl := if (ls.filter fun a => decide (det a h = 0)).isEmpty then ls ++ [h] else ls
def linesOf (hs : List Pl) : List Pl := hs.foldl lineAdd []
def lawDue (hs : List Pl) : Nat := if lawKind hs = .area then (linesOf (lawNeeded hs)).length else if lawKind hs = .line then 1 else 2
end RT
end
section
set_option Elab.async false
set_option linter.all false
set_option maxRecDepth 100000
set_option maxHeartbeats 4000000
/-! B6: defs with generator expressions. -/
namespace RT
open PySem PySem.Spec PyProof.Rows L2
def tabNames : List Str := ["contains_ray", "triple_weights", "is_empty", "is_bounded"]
/-- the tables of the four defs are among what is told by a property -/
structure Tabs (W : Wo) (base : Heap) (mg : Str → Option Value) (K : PySem.W.Frag) : Prop where
  t : ∀ x ∈ tabNames, TabW W base mg (He.cT K (x, none)).1 (He.cT K (x, none)).2
section
variable {P : Program} {w : World} {K : PySem.W.Frag} {mg : Str → Option Value} {base : Heap} {W : Wo}
theorem fn_mkT {x q : Str} {params : Arguments} {body : List Stmt} {scope : Scope} {dvs : List V} {fd : FuncData} {N ps : List Str} {k : Nat} {pm : Pm} (F : FunD K x q params body scope dvs [] (He.fAd K (x, none)) fd) (S : FnScope N ps scope)
    (hbody : ∀ (X : Cx) (C : Ct) (cdv : Value) (A : Around) (outer : List Env) (s : Shared) (H : Hp) (E : XK) (P0 : Addr → Bool) (ds : List PD) (p : PD → Prop), X = (cxOf CX0 P w K mg base N q scope (He.fAd K (x, none)) cdv A outer s H E).nox → C = ⟨K, W, H, P0⟩ → cdv = .ref (He.cT K (x, none)).1 → Room k X.A → pm ds p → SW X C body (iniL N ds) { nx := fun _ => p .none, rt := p }) :
    FnOk P w K mg base CX0 (k + 1) (He.fAd K (x, none)) fd ps (spD K W ps.length pm) := by
  obtain ⟨oc, od, dV, kV, doc, pm', an, cdv, ct, osl, rfl, lk, hcd, _, _⟩ := F.ex
  obtain ⟨c, rfl⟩ := He.codeIn_ref hcd
  have hc : He.codeOf K (x, none) = c := He.codeOf_eq lk rfl
  refine fn_of lk hcd S (fun vs H Q E h => by obtain ⟨_, _, _, h, _⟩ := h; exact h) fun A outer s H vs Q E hr h => ?_
  obtain ⟨P0, ds, p, _, h1, h2, h3, h4, h5, h6⟩ := h
  refine ⟨_, PSs.nox pss_w, hbody _ _ (.ref c) A outer s H E P0 ds p rfl rfl (by show _ = Value.ref (He.codeOf K (x, none)); rw [hc]) hr h5 rfl P0 _ H (by rw [← ini_eq]; exact start_ok h4 h1 h2 h3) _ ⟨fun Γ' P' σ' H' a o l => ?_, fun d v H' r e1 ok z => h6 d v H' r e1 ok z, fun _ _ _ _ z => z.elim, fun _ _ _ _ z => z.elim⟩⟩
  exact h6 .none .non H' a o.ext o.wok .non
theorem kn_mkT {i : Nat} {x : Str} (j : Nat) {ps : List Str} {k n : Nat} {pm : Pm} (E : Hd K mg) (hj : fns[j]? = some (dOf i x [])) (hn : ps.length = n)
    (hb : ∀ (kV doc pm : Value) (an : Option Addr) (cdv ct : Value) (us : List Value), us.length = ps.length → bindArgs (PySem.W.fnOf x x (defArgs (top i)) (defBody (top i)) (defScope (top i)) .none kV doc pm an cdv ct) ⟨us, []⟩ = pure (ps.zip us))
    (h : ∀ fd, FunD K x x (defArgs (top i)) (defBody (top i)) (defScope (top i)) [] [] (He.fAd K (x, none)) fd → FnOk P w K mg base CX0 k (He.fAd K (x, none)) fd ps (spD K W ps.length pm)) : Kn P w K mg base x [] k (spD K W n pm) := by
  have hm : dOf i x [] ∈ fns := List.mem_of_getElem? hj
  obtain ⟨fd, F⟩ := E.def_ _ hm
  have F' : FunD K x x (defArgs (top i)) (defBody (top i)) (defScope (top i)) [] [] (He.fAd K (x, none)) fd := F
  exact ⟨⟨_, fd, ps, [], E.glo _ hm, F'.kp, .nil, F'.bindsN hb, by rw [← hn]; exact h fd F'⟩⟩
end
end RT
end
section
set_option Elab.async false
set_option linter.all false
set_option maxRecDepth 100000
set_option maxHeartbeats 0
/-! H1: the head, by one run. -/
namespace RT
open PySem PySem.Spec PyProof.Rows L2
/-- a tuple of two whole numbers at a -/
def twoB (K : PySem.W.Frag) (a : Addr) (i j : Int) : Bool := match K.lookup a with
  | some ⟨.type c, _, .seq its _, _⟩ => decide (c = "tuple") && (match its.toList with
    | [.int x _, .int y _] => decide (x = i) && decide (y = j)
    | _ => false)
  | _ => false
def idnB (K : PySem.W.Frag) (a : Addr) : Bool := match K.lookup a with
  | some ⟨.type c, _, .seq its _, _⟩ => decide (c = "tuple") && (match its.toList with
    | [.ref a1, .ref a2, .ref a3, .ref a4, .ref a5, .ref a6] => twoB K a1 1 1 && twoB K a2 0 1 && twoB K a3 0 1 && twoB K a4 1 1 && twoB K a5 0 1 && twoB K a6 0 1
    | _ => false)
  | _ => false
def exK (K : PySem.W.Frag) : Bool := twoB K (He.ga K "ZERO") 0 1 && twoB K (He.ga K "ONE") 1 1 && idnB K (He.ga K "IDENTITY")
def freeN : List Str := ["abs", "all", "any", "enumerate", "int", "len", "list", "range", "repr", "sum", "tuple", "zip"]
def faL : List He.Fa := (fns.map fun d => He.Fa.glo d.name) ++ [He.Fa.glo "ZERO", He.Fa.glo "ONE", He.Fa.glo "IDENTITY"] ++ freeN.map He.Fa.free
def tfL : List He.Defn := tabNames.map fun x => (x, none)
def nm0 : List PySem.Str := ["ZERO", "ONE", "common_divisor", "fraction", "add", "negative", "subtract", "multiply", "divide", "sign", "compare", "is_less", "least_of", "nearest_to_zero"]
def nm1 : List PySem.Str := ["IDENTITY", "element_map", "weighted", "compose_maps", "cross", "opposite", "reach", "in_first_half", "comes_before", "in_order", "RaytrainError", "NoDirection", "make_half_plane", "edges_of"]
def nm2 : List PySem.Str := ["half_planes_of", "value_at", "contains_ray", "determinant", "product", "opposite_weights", "triple_weights", "opposing_sets", "number_of", "is_empty", "single_bound", "pair_weights", "pair_bound", "supremum"]
def nm3 : List PySem.Str := ["infimum", "direction_range", "line_of", "region_kind", "sample_ray", "is_implied", "planes_of", "needed", "carrier", "line_planes", "point_planes", "canonical_half_planes", "without_edge", "is_redundant"]
def nm4 : List PySem.Str := ["redundant_edges", "simplify", "minimum_stops", "meeting", "is_before", "put_in_order", "corners", "is_bounded", "turn", "chain_area", "area", "acceptance_area", "_law_cell", "_law_row"]
def nm5 : List PySem.Str := ["_law_box", "_law_draw", "_law_same", "_law_frac", "_law_add", "_law_neg", "_law_sub", "_law_mul", "_law_div", "_law_less", "_law_least", "_law_greatest", "_law_fraction", "_law_nonzero"]
def nm6 : List PySem.Str := ["_law_stop", "_law_element", "_law_train", "_law_go", "_law_out", "_law_map", "_law_plane", "_law_edges", "_law_planes", "_law_line", "_law_bounds", "_law_empty", "_law_implied", "_law_near"]
def nm7 : List PySem.Str := ["_law_sample", "_law_line_of", "_law_kind", "_law_alike", "_law_cross", "_law_before", "_law_sorted", "_law_opposite", "_law_canonical", "_law_other", "_law_without", "_law_redundant"]
def nms : List PySem.Str := nm0 ++ nm1 ++ nm2 ++ nm3 ++ nm4 ++ nm5 ++ nm6 ++ nm7
abbrev Ro : PySem.W.OpenRow := PySem.W.OpenLaw.row PySem.Challenge.rw_raytrain_k44_edges_that_are_not_needed
abbrev hkL : PySem.W.Hook := He.hookX 2 faL fns [] tfL exK
def obL (s : PySem.W.SharedT) : He.AlX := He.obsX 2 faL fns [] tfL exK (HandSHeadRun.getT s)
theorem obL_eq (s : PySem.W.SharedT) : obL s = hkL.obs s.abs := He.obsX_eq (HandSHeadRun.getT_eq s)
theorem runL (w : World) : HandSHeadRun.RunEq Ro (PySem.W.view Ro.prog [120]) hkL obL 20000 nms w := by
  intro os
  kernel_rfl
end RT
end
section
set_option Elab.async false
set_option linter.all false
set_option maxRecDepth 100000
set_option maxHeartbeats 4000000
set_option exponentiation.threshold 20000
/-! B7: weights, emptiness. -/
namespace RT
open PySem PySem.Spec PyProof.Rows L2
theorem atI_nat {α : Type} {en : α → PD} {xs : List α} {i : Nat} {x : α} (h : xs[i]? = some x) : L2.atI (xs.map en) (i : Int) = some (en x) := by
  have hl := (List.getElem?_eq_some_iff.mp h).1
  have e : ixN (xs.map en).length (i : Int) = some i := by
    unfold ixN
    rw [List.length_map]
    first
      | (rw [if_pos (by omega)]; simp; exact hl)
      | (split <;> (try split) <;> simp_all <;> omega)
      | (simp; omega)
  unfold L2.atI
  rw [e]
  show (xs.map en)[i]? = _
  rw [List.getElem?_map, h]
  rfl
theorem PO.big {h : Pl} (o : PO h) : PlB 3000 h := ⟨lt_mono o.b.p (by decide), lt_mono o.b.q (by decide), lt_mono o.b.r (by decide)⟩
theorem detPO {f g : Pl} (hf : PO f) (hg : PO g) : (det f g).natAbs < 2 ^ 601 := det_lt hf.b.p hf.b.q hg.b.p hg.b.q
theorem tripL_pos {f g h : Pl} : ∀ x ∈ tripL f g h, x = det g h ∨ x = det h f ∨ x = det f g ∨ x = -det g h ∨ x = -det h f ∨ x = -det f g := by
  intro x hx
  unfold tripL at hx
  simp only at hx
  split at hx <;> simp only [List.mem_cons, List.not_mem_nil, or_false] at hx <;> rcases hx with rfl | rfl | rfl <;> simp
theorem tripL_lt {f g h : Pl} (hf : PO f) (hg : PO g) (hh : PO h) : ∀ x ∈ tripL f g h, x.natAbs < 2 ^ 601 := by
  intro x hx
  have a := detPO hg hh; have b := detPO hh hf; have c := detPO hf hg
  rcases tripL_pos x hx with rfl | rfl | rfl | rfl | rfl | rfl <;> (try rw [Int.natAbs_neg]) <;> assumption
theorem tripL_three (f g h : Pl) : ∃ a b c, tripL f g h = [a, b, c] := by
  unfold tripL
  simp only
  split
  · exact ⟨_, _, _, rfl⟩
  · exact ⟨_, _, _, rfl⟩
theorem EVL.is {X : Cx} {C : Ct} {Γ : List Sl} {e : Expr} {ds es : List PD} (h : EVL X C e Γ ds) (z : ds = es) : EVL X C e Γ es := by rw [← z]; exact h
def oLD : Option (List Int) → PD
  | none => .none
  | some w => .tuple (w.map .int)
section
variable {P : Program} {w : World} {K : PySem.W.Frag} {mg : Str → Option Value} {base : Heap} {W : Wo}
theorem sc_contains_ray : FnScope ["half_planes", "ray", "one"] ["half_planes", "ray"] (defScope (top 35)) := ⟨rfl, rfl, rfl, by decide +kernel, rfl, by decide +kernel, by decide +kernel⟩
def pm_contains_ray : Pm := fun ds p => ∃ (hs : List Pl) (z : Ray), ds = [.list (hs.map pl), ray z] ∧ (∀ h ∈ hs, PO h) ∧ RB 1000 1000 z.1 ∧ RB 1000 1000 z.2 ∧ p (.bool (contains hs z))
theorem k_contains_ray (E : Hd K mg) (T : Tabs W base mg K) : Kn P w K mg base "contains_ray" [] 7 (spD K W 2 pm_contains_ray) :=
  kn_mkT 23 E rfl rfl (fun _ _ _ _ _ _ us hl => match us, hl with | [_, _], _ => rfl) fun fd F => fn_mkT F sc_contains_ray (by
    rintro X C cdv A outer s H E' P0 ds p rfl rfl rfl hr ⟨hs, z, rfl, hO, h1, h2, hp⟩
    have nd := sc_contains_ray.nd
    dsimp only [iniL, iniN, List.tail]
    refine sw_one (s1_ret (EV.r (ev_allG (k := 5) (own := [("one", 2)]) pl (fun h => decide (cmp (valueAt h z) (h.r : Rat) ≤ 0)) hs nd (E.free "all" (by simp)) (iv_lst (ev_var 0 rfl)) (genOk_by rfl) (T.t _ (by simp [tabNames])) rfl hr (fun h hh => ⟨_, _, by decide, fun A' s' H' Ca code fp hr' => ⟨gv_name 2 nd, ?_⟩⟩))) hp)
    have hv : RB 2601 2000 (valueAt h z) := ((RB.mul (RB.int (hO h hh).b.p) h1).add (RB.mul (RB.int (hO h hh).b.q) h2)).mono (by decide) (by decide)
    exact ev_le (ev_cmpQ E hr' ⟨ev_fn (k_value_at E) hr' (by decide) (evs_cons (ev_var 2 rfl) (evs_one (ev_var 1 rfl))) ⟨h, z, rfl, (hO h hh).b, h1, h2, rfl⟩, hv⟩ (eq_int E hr' (ev_p2 (ev_var 2 rfl)) (hO h hh).b.r)) ev_int)
theorem sc_opposite_weights : FnScope ["first", "second", "one", "other", "divisor"] ["first", "second"] (defScope (top 38)) := ⟨rfl, rfl, rfl, by decide +kernel, rfl, by decide +kernel, by decide +kernel⟩
def pm_opposite_weights : Pm := fun ds p => ∃ f g : Pl, ds = [pl f, pl g] ∧ PO f ∧ PO g ∧ p (oLD (oppW f g))
theorem k_opposite_weights (E : Hd K mg) : Kn P w K mg base "opposite_weights" [] 2 (spD K W 2 pm_opposite_weights) :=
  kn_mk 26 E rfl rfl (fun _ _ _ _ _ _ us hl => match us, hl with | [_, _], _ => rfl) fun f fd F => fn_mk F sc_opposite_weights (by
    rintro X C cdv A outer s H E' P0 ds p rfl rfl hr ⟨f, g, rfl, hf, hg, hp⟩
    have nd := sc_opposite_weights.nd
    dsimp only [iniL, iniN, List.tail]
    have hab := E.free "abs" (by simp)
    have c0 : (Int.gcd (size1 g) (size1 f) : Nat) ≤ (size1 f).natAbs := gcd_le (by have := size1_pos hf.nz; omega)
    have c1 : 0 < (Int.gcd (size1 g) (size1 f) : Nat) := gcd_pos (by have := size1_pos hf.nz; omega)
    have cd : ∀ i, CDivW i ((Int.gcd (size1 g) (size1 f) : Nat) : Int) := fun i => wdiv (b := 301) (by omega) (by simpa using Nat.le_trans c0 (Nat.le_of_lt (size1_lt hf.b))) (by decide)
    unfold oppW at hp
    refine sw_cons (s1_if (TW.tv (tw_or (tv_neI (ev_fn (k_determinant E) hr (by decide) (evs_cons (ev_var 0 rfl) (evs_one (ev_var 1 rfl))) ⟨f, g, rfl, hf.big, hg.big, rfl⟩) ev_int) fun _ => tw_or1 (tv_ge (ev_fn (k_product E) hr (by decide) (evs_cons (ev_var 0 rfl) (evs_one (ev_var 1 rfl))) ⟨f, g, rfl, hf.big, hg.big, rfl⟩) ev_int))) (fun ht => ?_) fun ht => ?_)
    all_goals (try dsimp only [List.set])
    · rw [if_pos (by simpa using ht)] at hp
      exact sw_one (s1_ret (EV.r ev_non) hp)
    · rw [if_neg (by simpa using ht)] at hp
      refine sw_nil (sw_cons (s1_set 2 nd (ev_add (ev_abs hab (ev_p0 (ev_var 1 rfl))) (ev_abs hab (ev_p1 (ev_var 1 rfl)))) ?_))
      all_goals (try dsimp only [List.set])
      refine sw_cons (s1_set 3 nd (ev_add (ev_abs hab (ev_p0 (ev_var 0 rfl))) (ev_abs hab (ev_p1 (ev_var 0 rfl)))) ?_)
      all_goals (try dsimp only [List.set])
      refine sw_cons (s1_set 4 nd (ev_fn (k_common_divisor E) hr (by decide) (evs_cons (ev_var 2 rfl) (evs_one (ev_var 3 rfl))) ⟨size1 g, size1 f, rfl, rfl⟩) ?_)
      all_goals (try dsimp only [List.set])
      exact sw_one (s1_ret (EV.r (ev_tup (evs_cons (ev_fdiv (ev_var 2 rfl) (ev_var 4 rfl) (cd _)) (evs_one (ev_fdiv (ev_var 3 rfl) (ev_var 4 rfl) (cd _)))))) hp))
theorem sc_triple_weights : FnScope ["first", "second", "third", "weights", "divisor", "weight"] ["first", "second", "third"] (defScope (top 39)) := ⟨rfl, rfl, rfl, by decide +kernel, rfl, by decide +kernel, by decide +kernel⟩
def pm_triple_weights : Pm := fun ds p => ∃ f g h : Pl, ds = [pl f, pl g, pl h] ∧ PO f ∧ PO g ∧ PO h ∧ p (oLD (tripW f g h))
theorem k_triple_weights (E : Hd K mg) (T : Tabs W base mg K) : Kn P w K mg base "triple_weights" [] 3 (spD K W 3 pm_triple_weights) :=
  kn_mkT 27 E rfl rfl (fun _ _ _ _ _ _ us hl => match us, hl with | [_, _, _], _ => rfl) fun fd F => fn_mkT F sc_triple_weights (by
    rintro X C cdv A outer s H E' P0 ds p rfl rfl rfl hr ⟨f, g, h, rfl, hf, hg, hh, hp⟩
    have nd := sc_triple_weights.nd
    dsimp only [iniL, iniN, List.tail]
    refine sw_cons (s1_own 3 nd (evl_lst (evs_cons (ev_fn (k_determinant E) hr (by decide) (evs_cons (ev_var 1 rfl) (evs_one (ev_var 2 rfl))) ⟨g, h, rfl, hg.big, hh.big, rfl⟩) (evs_cons (ev_fn (k_determinant E) hr (by decide) (evs_cons (ev_var 2 rfl) (evs_one (ev_var 0 rfl))) ⟨h, f, rfl, hh.big, hf.big, rfl⟩) (evs_one (ev_fn (k_determinant E) hr (by decide) (evs_cons (ev_var 0 rfl) (evs_one (ev_var 1 rfl))) ⟨f, g, rfl, hf.big, hg.big, rfl⟩))))) ?_)
    all_goals (try dsimp only [List.set])
    refine sw_freeze 3 rfl ?_
    try dsimp only [List.set]
    obtain ⟨a, b, c, habc⟩ := tripL_three f g h
    have hlt := tripL_lt hf hg hh
    refine sw_cons (s1_ifJ (fun Γ => Γ = [.pu (pl f), .pu (pl g), .pu (pl h), .pu (.list ((tripL f g h).map .int)), .no, .no]) (tv_lt (ev_ixL (ev_var 3 rfl) ev_int rfl) ev_int) (fun ht => ?_) (fun ht => ?_) ?_)
    all_goals (try dsimp only [List.set])
    · refine sw_cons (s1_lc 3 [("weight", 5)] PyData.int (fun x => .int (-x)) [det g h, det h f, det f g] nd (iv_lst (ev_var 3 rfl)) (blkOk_by rfl) (by simp) (fun x hx => ⟨_, _, by decide, fun s H Ca cl fp => gv_name 5 nd, fun s H Ca cl fp => ev_neg (ev_var 5 rfl)⟩) ?_)
      all_goals (try dsimp only [List.set])
      refine sw_freeze 3 rfl (sw_nil ?_)
      all_goals (try dsimp only [List.set])
      try dsimp only [List.set]
      have e : tripL f g h = [-det g h, -det h f, -det f g] := by unfold tripL; exact if_pos (of_decide_eq_true ht)
      rw [e]
      rfl
    · refine sw_nil ?_
      have e : tripL f g h = [det g h, det h f, det f g] := by unfold tripL; exact if_neg (of_decide_eq_false ht)
      rw [e]
      rfl
    · rintro _ rfl
      unfold tripW at hp
      rw [habc] at hp hlt ⊢
      have hl := fun x hx => hlt x hx
      refine sw_cons (s1_if (tv_val (ev_anyG (k := 0) (own := [("weight", 5)]) PyData.int (fun x => decide (x ≤ 0)) [a, b, c] nd (E.free "any" (by simp)) (iv_lst (ev_var 3 rfl)) (genOk_by rfl) (T.t _ (by simp [tabNames])) rfl (hr.mono (by decide)) (fun x hx => ⟨_, _, by decide, fun A' s' H' Ca code fp hr' => ⟨gv_name 5 nd, ev_le (ev_var 5 rfl) ev_int⟩⟩))) (fun ht => ?_) fun ht => ?_)
      all_goals (try dsimp only [List.set])
      · rw [if_pos ht] at hp
        exact sw_one (s1_ret (EV.r ev_non) hp)
      · rw [if_neg (by rw [ht]; exact Bool.false_ne_true)] at hp
        have hpos : 0 < a ∧ 0 < b ∧ 0 < c := by simpa using ht
        have hg3 := igcd3_le (a := a) (b := b) (c := c) (.inl (by omega))
        have cd : ∀ i, CDivW i (igcd3 a b c) := fun i => wdiv (b := 601) hg3.1 (Nat.le_trans hg3.2 (Nat.max_le.mpr ⟨Nat.le_of_lt (hl a (by simp)), Nat.le_of_lt (hl b (by simp))⟩)) (by decide)
        refine sw_nil (sw_cons (s1_set 4 nd (ev_fn (k_common_divisor E) hr (by decide) (evs_cons (ev_fn (k_common_divisor E) hr (by decide) (evs_cons (ev_ixL (ev_var 3 rfl) ev_int rfl) (evs_one (ev_ixL (ev_var 3 rfl) ev_int rfl))) ⟨a, b, rfl, rfl⟩) (evs_one (ev_ixL (ev_var 3 rfl) ev_int rfl))) ⟨_, c, rfl, rfl⟩) ?_))
        all_goals (try dsimp only [List.set])
        try dsimp only [List.set]
        refine sw_one (s1_ret (EV.r (EV.is (ev_tupL (E.free "tuple" (by simp)) (EVL.ev (evl_lc (own := [("weight", 5)]) PyData.int (fun x => .int (x / igcd3 a b c)) [a, b, c] nd (iv_lst (ev_var 3 rfl)) (blkOk_by rfl) (by simp) (fun x hx => ⟨_, _, by decide, fun s H Ca cl fp => gv_name 5 nd, fun s H Ca cl fp => ev_fdiv (ev_var 5 rfl) (ev_var 4 rfl) (cd x)⟩)))) rfl)) hp))
theorem iv_rngN {X : Cx} {C : Ct} {Γ : List Sl} {a b tg : Expr} {p pos : Pos} {m n : Nat} (hm : X.mg "range" = none) (h : EV X C a Γ (.int (m : Int))) (h2 : EV X C b Γ (.int (n : Int))) (hb : m ≤ 1000000 ∧ n ≤ 1000000) (hg : Gl X "range" := by rfl)
    (hs : starEach [a, b] X.env = [(false, eval a X.env), (false, eval b X.env)] := by rfl) (hs2 : starEach [b] X.env = [(false, eval b X.env)] := by rfl) : IV X C tg (.Call (.Name "range" p) [a, b] [] pos) Γ ((List.range (n - m)).map fun (j : Nat) => PyData.int ((m + j : Nat) : Int)) := by
  have := iv_rng2 (pos := pos) (tg := tg) (p := p) hm h h2 (by omega) hg hs hs2
  have e : (((n : Nat) : Int) - (m : Int)).toNat = n - m := by omega
  rw [e] at this
  unfold rngD at this
  have e2 : (fun (i : Nat) => PyData.int ((m : Int) + (i : Int))) = fun (j : Nat) => PyData.int ((m + j : Nat) : Int) := by
    funext i
    rw [Int.natCast_add]
  rw [e2] at this
  exact this
theorem iv_rng0 {X : Cx} {C : Ct} {Γ : List Sl} {b tg : Expr} {p pos : Pos} {n : Nat} (hm : X.mg "range" = none) (h2 : EV X C b Γ (.int (n : Int))) (hb : n ≤ 1000000) (hg : Gl X "range" := by rfl)
    (hs : starEach [b] X.env = [(false, eval b X.env)] := by rfl) : IV X C tg (.Call (.Name "range" p) [b] [] pos) Γ ((List.range n).map fun (j : Nat) => PyData.int (j : Int)) := by
  have := iv_rng1 (pos := pos) (tg := tg) (p := p) hm h2 (by omega) hg hs
  rw [Int.toNat_natCast] at this
  unfold rngD at this
  have e2 : (fun (i : Nat) => PyData.int ((0 : Int) + (i : Int))) = fun (j : Nat) => PyData.int (j : Int) := by
    funext i
    rw [Int.zero_add]
  rw [e2] at this
  exact this
theorem range_at {n i : Nat} {j : Nat} (h : (List.range n)[i]? = some j) : j = i ∧ i < n := by
  obtain ⟨h1, h2⟩ := List.getElem?_eq_some_iff.mp h
  rw [List.length_range] at h1
  rw [List.getElem_range] at h2
  exact ⟨h2.symm, h1⟩
theorem owD_none {o : Ow} {i : Int} (h : i = 1) : ∃ d, L2.atI [.tuple (o.1.map fun (i : Nat) => .int (i : Int)), match o.2 with | none => PyData.none | some w => .tuple (w.map .int)] i = some d ∧ isN d = !o.2.isSome := by
  subst h
  refine ⟨_, rfl, ?_⟩
  cases o.2 <;> rfl
theorem ow_len {hs : List Pl} (h : hs.length ≤ 40) : (oppAll hs).length ≤ 65600 := by
  unfold oppAll
  rw [List.length_append]
  have a := pairsFrom_len opp2 hs.zipIdx
  have b := triplesFrom_len opp3 hs.zipIdx
  rw [List.length_zipIdx] at a b
  have c : hs.length * hs.length ≤ 40 * 40 := Nat.mul_le_mul h h
  have d : hs.length * (hs.length * hs.length) ≤ 40 * (40 * 40) := Nat.mul_le_mul h c
  omega
theorem oLD_ow (ix : List Nat) (o : Option (List Int)) : owD (ix, o) = .tuple [.tuple (ix.map fun (i : Nat) => .int (i : Int)), oLD o] := by cases o <;> rfl
theorem sc_opposing_sets : FnScope ["half_planes", "many", "found", "i", "j", "k", "one"] ["half_planes"] (defScope (top 40)) := ⟨rfl, rfl, rfl, by decide +kernel, rfl, by decide +kernel, by decide +kernel⟩
def pm_opposing_sets : Pm := fun ds p => ∃ hs : List Pl, ds = [.list (hs.map pl)] ∧ (∀ h ∈ hs, PO h) ∧ hs.length ≤ 40 ∧ p (.list ((oppSets hs).map osD))
theorem k_opposing_sets (E : Hd K mg) (T : Tabs W base mg K) : Kn P w K mg base "opposing_sets" [] 4 (spD K W 1 pm_opposing_sets) :=
  kn_mk 28 E rfl rfl (fun _ _ _ _ _ _ us hl => match us, hl with | [_], _ => rfl) fun f fd F => fn_mk F sc_opposing_sets (by
    rintro X C cdv A outer s H E' P0 ds p rfl rfl hr ⟨hs, rfl, hO, hz, hp⟩
    have nd := sc_opposing_sets.nd
    dsimp only [iniL, iniN, List.tail]
    have hrg := E.free "range" (by simp)
    have tot := ow_len hz
    have zi : ∀ {i : Nat} {x : Pl}, hs[i]? = some x → hs.zipIdx[i]? = some (x, i) := fun {i x} h => by rw [List.getElem?_zipIdx, h]; simp
    refine sw_cons (s1_set 1 nd (ev_len (E.free "len" (by simp)) (ev_var 0 rfl)) ?_)
    all_goals (try dsimp only [List.set])
    refine sw_cons (s1_own 2 nd (evl_lst evs_nil) ?_)
    all_goals (try dsimp only [List.set])
    rw [List.length_map]
    refine sw_cons (s1_for (fun (j : Nat) => PyData.int (j : Int)) (List.range hs.length) (iv_rng0 hrg (ev_var 1 rfl) (by omega)) (fun i Γ => ∃ fs v u q r, Γ = [.pu (.list (hs.map pl)), .pu (.int (hs.length : Int)), .ow (fs.map owD), v, u, q, r] ∧ fs ++ pairsFrom opp2 (hs.zipIdx.drop i) = pairsFrom opp2 hs.zipIdx) ⟨[], _, _, _, _, rfl, rfl⟩ ?_ ?_)
    all_goals (try dsimp only [List.set])
    · rintro i _ _ hx ⟨fs, v, u, q, r, rfl, ht⟩
      obtain ⟨rfl, hi⟩ := range_at hx
      rename_i i
      refine ⟨_, _, gv_name 3 nd, ?_⟩
      try dsimp only [List.set]
      obtain ⟨x, hxi⟩ : ∃ x, hs[i]? = some x := ⟨_, List.getElem?_eq_getElem hi⟩
      rw [pairsFrom_at (zi hxi)] at ht
      refine sw_one (s1_for (fun (j : Nat) => PyData.int ((i + 1 + j : Nat) : Int)) (List.range (hs.length - (i + 1))) (iv_rngN hrg (EV.is (ev_add (ev_var 3 rfl) ev_int) (by simp)) (ev_var 1 rfl) (by omega)) (fun jj Γ => ∃ fs u, Γ = [.pu (.list (hs.map pl)), .pu (.int (hs.length : Int)), .ow (fs.map owD), .pu (.int (i : Int)), u, q, r] ∧ fs ++ ((hs.zipIdx.drop (i + 1 + jj)).map (opp2 (x, i)) ++ pairsFrom opp2 (hs.zipIdx.drop (i + 1))) = pairsFrom opp2 hs.zipIdx) ⟨fs, u, rfl, ht⟩ ?_ ?_)
      all_goals (try dsimp only [List.set])
      · rintro jj _ _ hx ⟨fs, u, rfl, ht⟩
        obtain ⟨rfl, hjj⟩ := range_at hx
        rename_i jj
        obtain ⟨y, hyj⟩ : ∃ y, hs[i + 1 + jj]? = some y := ⟨_, List.getElem?_eq_getElem (by omega)⟩
        refine ⟨_, _, gv_name 4 nd, ?_⟩
        try dsimp only [List.set]
        rw [drop_at (zi hyj), List.map_cons] at ht
        have hl : fs.length ≤ 65600 := by
          have e := congrArg List.length ht
          rw [List.length_append] at e
          have : (oppAll hs).length = (pairsFrom opp2 hs.zipIdx).length + (triplesFrom opp3 hs.zipIdx).length := by unfold oppAll; rw [List.length_append]
          omega
        refine sw_one (s1_append 2 rfl (ev_tup (evs_cons (ev_tup (evs_cons (ev_var 3 rfl) (evs_one (ev_var 4 rfl)))) (evs_one (ev_fn (k_opposite_weights E) hr (by decide) (evs_cons (ev_ixL (ev_var 0 rfl) (ev_var 3 rfl) (atI_nat hxi)) (evs_one (ev_ixL (ev_var 0 rfl) (ev_var 4 rfl) (atI_nat hyj)))) ⟨x, y, rfl, hO x (List.mem_of_getElem? hxi), hO y (List.mem_of_getElem? hyj), rfl⟩)))) ⟨fs ++ [opp2 (x, i) (y, i + 1 + jj)], .pu (.int ((i + 1 + jj : Nat) : Int)), ?_, ?_⟩ (by rw [List.length_map]; omega))
        · rw [List.map_append, List.map_singleton]
          unfold opp2
          rw [oLD_ow]
          rfl
        · rw [List.append_assoc]
          exact ht
      · rintro _ ⟨fs, u, rfl, ht⟩
        refine ⟨fs, _, _, _, _, rfl, ?_⟩
        rw [List.length_range, show i + 1 + (hs.length - (i + 1)) = hs.length by omega, List.drop_of_length_le (l := hs.zipIdx) (by rw [List.length_zipIdx]; omega)] at ht
        exact ht
    rintro _ ⟨fs, v, u, q, r, rfl, ht⟩
    rw [List.length_range, List.drop_of_length_le (l := hs.zipIdx) (by rw [List.length_zipIdx]; omega)] at ht
    have ht2 : fs ++ triplesFrom opp3 (hs.zipIdx.drop 0) = oppAll hs := by
      have e : fs = pairsFrom opp2 hs.zipIdx := by simpa [pairsFrom] using ht
      rw [e]; rfl
    refine sw_cons (s1_for (fun (j : Nat) => PyData.int (j : Int)) (List.range hs.length) (iv_rng0 hrg (ev_var 1 rfl) (by omega)) (fun i Γ => ∃ fs v u q r, Γ = [.pu (.list (hs.map pl)), .pu (.int (hs.length : Int)), .ow (fs.map owD), v, u, q, r] ∧ fs ++ triplesFrom opp3 (hs.zipIdx.drop i) = oppAll hs) ⟨fs, _, _, _, _, rfl, ht2⟩ ?_ ?_)
    all_goals (try dsimp only [List.set])
    · rintro i _ _ hx ⟨fs, v, u, q, r, rfl, ht⟩
      obtain ⟨rfl, hi⟩ := range_at hx
      rename_i i
      refine ⟨_, _, gv_name 3 nd, ?_⟩
      try dsimp only [List.set]
      obtain ⟨x, hxi⟩ : ∃ x, hs[i]? = some x := ⟨_, List.getElem?_eq_getElem hi⟩
      rw [triplesFrom_at (zi hxi)] at ht
      refine sw_one (s1_for (fun (j : Nat) => PyData.int ((i + 1 + j : Nat) : Int)) (List.range (hs.length - (i + 1))) (iv_rngN hrg (EV.is (ev_add (ev_var 3 rfl) ev_int) (by simp)) (ev_var 1 rfl) (by omega)) (fun jj Γ => ∃ fs u q, Γ = [.pu (.list (hs.map pl)), .pu (.int (hs.length : Int)), .ow (fs.map owD), .pu (.int (i : Int)), u, q, r] ∧ fs ++ (pairsFrom (opp3 (x, i)) (hs.zipIdx.drop (i + 1 + jj)) ++ triplesFrom opp3 (hs.zipIdx.drop (i + 1))) = oppAll hs) ⟨fs, u, q, rfl, ht⟩ ?_ ?_)
      all_goals (try dsimp only [List.set])
      · rintro jj _ _ hx ⟨fs, u, q, rfl, ht⟩
        obtain ⟨rfl, hjj⟩ := range_at hx
        rename_i jj
        obtain ⟨y, hyj⟩ : ∃ y, hs[i + 1 + jj]? = some y := ⟨_, List.getElem?_eq_getElem (by omega)⟩
        refine ⟨_, _, gv_name 4 nd, ?_⟩
        try dsimp only [List.set]
        rw [pairsFrom_at (zi hyj)] at ht
        refine sw_one (s1_for (fun (k : Nat) => PyData.int ((i + 1 + jj + 1 + k : Nat) : Int)) (List.range (hs.length - (i + 1 + jj + 1))) (iv_rngN hrg (EV.is (ev_add (ev_var 4 rfl) ev_int) (by simp)) (ev_var 1 rfl) (by omega)) (fun kk Γ => ∃ fs q, Γ = [.pu (.list (hs.map pl)), .pu (.int (hs.length : Int)), .ow (fs.map owD), .pu (.int (i : Int)), .pu (.int ((i + 1 + jj : Nat) : Int)), q, r] ∧ fs ++ ((hs.zipIdx.drop (i + 1 + jj + 1 + kk)).map (opp3 (x, i) (y, i + 1 + jj)) ++ pairsFrom (opp3 (x, i)) (hs.zipIdx.drop (i + 1 + jj + 1)) ++ triplesFrom opp3 (hs.zipIdx.drop (i + 1))) = oppAll hs) ⟨fs, q, rfl, ht⟩ ?_ ?_)
        all_goals (try dsimp only [List.set])
        · rintro kk _ _ hx ⟨fs, q, rfl, ht⟩
          obtain ⟨rfl, hkk⟩ := range_at hx
          rename_i kk
          obtain ⟨z, hzk⟩ : ∃ z, hs[i + 1 + jj + 1 + kk]? = some z := ⟨_, List.getElem?_eq_getElem (by omega)⟩
          refine ⟨_, _, gv_name 5 nd, ?_⟩
          try dsimp only [List.set]
          rw [drop_at (zi hzk), List.map_cons] at ht
          have hl : fs.length ≤ 65600 := by
            have e := congrArg List.length ht
            rw [List.length_append] at e
            omega
          refine sw_one (s1_append 2 rfl (ev_tup (evs_cons (ev_tup (evs_cons (ev_var 3 rfl) (evs_cons (ev_var 4 rfl) (evs_one (ev_var 5 rfl))))) (evs_one (ev_fn (k_triple_weights E T) hr (by decide) (evs_cons (ev_ixL (ev_var 0 rfl) (ev_var 3 rfl) (atI_nat hxi)) (evs_cons (ev_ixL (ev_var 0 rfl) (ev_var 4 rfl) (atI_nat hyj)) (evs_one (ev_ixL (ev_var 0 rfl) (ev_var 5 rfl) (atI_nat hzk))))) ⟨x, y, z, rfl, hO x (List.mem_of_getElem? hxi), hO y (List.mem_of_getElem? hyj), hO z (List.mem_of_getElem? hzk), rfl⟩)))) ⟨fs ++ [opp3 (x, i) (y, i + 1 + jj) (z, i + 1 + jj + 1 + kk)], .pu (.int ((i + 1 + jj + 1 + kk : Nat) : Int)), ?_, ?_⟩ (by rw [List.length_map]; omega))
          · rw [List.map_append, List.map_singleton]
            unfold opp3
            rw [oLD_ow]
            rfl
          · rw [List.append_assoc]
            exact ht
        · rintro _ ⟨fs, q, rfl, ht⟩
          refine ⟨fs, _, _, rfl, ?_⟩
          rw [List.length_range, show i + 1 + jj + 1 + (hs.length - (i + 1 + jj + 1)) = hs.length by omega, List.drop_of_length_le (l := hs.zipIdx) (by rw [List.length_zipIdx]; omega)] at ht
          exact ht
      · rintro _ ⟨fs, u, q, rfl, ht⟩
        refine ⟨fs, _, _, _, _, rfl, ?_⟩
        rw [List.length_range, show i + 1 + (hs.length - (i + 1)) = hs.length by omega, List.drop_of_length_le (l := hs.zipIdx) (by rw [List.length_zipIdx]; omega)] at ht
        exact ht
    rintro _ ⟨fs, v, u, q, r, rfl, ht⟩
    rw [List.length_range, List.drop_of_length_le (l := hs.zipIdx) (by rw [List.length_zipIdx]; omega)] at ht
    have e : fs = oppAll hs := by simpa [triplesFrom] using ht
    subst e
    refine sw_freeze 2 rfl ?_
    try dsimp only [List.set]
    refine sw_one (s1_ret (EV.r (EVL.ev (EVL.is (evl_lcIf (own := [("one", 6)]) owD (fun o => o.2.isSome) owD (oppAll hs) nd (iv_lst (ev_var 2 rfl)) (blkOk_by rfl) (by omega) (fun o ho => ⟨_, _, by decide, fun s H Ca cl fp => gv_name 6 nd, fun s H Ca cl fp => ?_, fun _ s H Ca cl fp => ev_var 6 rfl⟩)) (oppSets_map _)))) hp)
    obtain ⟨d, hd1, hd2⟩ := owD_none (o := o) rfl
    exact (tv_notN (ev_ixT (ev_var 6 rfl) ev_int hd1)).is (by rw [hd2, Bool.not_not]))
end
end RT
end
section
set_option Elab.async false
set_option linter.all false
set_option maxRecDepth 100000
set_option maxHeartbeats 4000000
set_option exponentiation.threshold 20000
/-! B8: bounds of a direction, the kind of a region. -/
namespace RT
open PySem PySem.Spec PyProof.Rows L2
theorem sIx_nat (len : Nat) (d k : Nat) : HT.sIx len d (some (k : Int)) = min k len := by
  unfold HT.sIx
  first
    | (simp; omega)
    | (split <;> simp_all <;> omega)
    | (simp <;> split <;> omega)
theorem cutD_drop {xs : List PD} {k : Nat} : cutD xs (some (k : Int)) none = xs.drop k := by
  have h1 : HT.sIx xs.length xs.length none = xs.length := rfl
  unfold cutD
  rw [sIx_nat, h1]
  by_cases h : k ≤ xs.length
  · rw [Nat.min_eq_left h]
    exact List.take_of_length_le (by rw [List.length_drop]; omega)
  · rw [Nat.min_eq_right (by omega), List.drop_of_length_le (Nat.le_refl _), List.drop_of_length_le (by omega)]
    simp
theorem cutD_take {xs : List PD} {k : Nat} : cutD xs none (some (k : Int)) = xs.take k := by
  have h1 : HT.sIx xs.length 0 none = 0 := rfl
  unfold cutD
  rw [sIx_nat, h1, List.drop_zero, Nat.sub_zero]
  by_cases h : k ≤ xs.length
  · rw [Nat.min_eq_left h]
  · rw [Nat.min_eq_right (by omega), List.take_of_length_le (Nat.le_refl _), List.take_of_length_le (by omega)]
theorem zipD_map {α β : Type} {f : α → PD} {g : β → PD} (xs : List α) (ys : List β) : zipD (xs.map f) (ys.map g) = (xs.zip ys).map fun z => .tuple [f z.1, g z.2] := by
  unfold zipD
  rw [List.zip_map, List.map_map]
  rfl
theorem eqv_ofr (o : Option Rat) (x : Rat) : PyData.eqv (ofr o) (fr x) = decide (o = some x) := by
  cases o with
  | none => rfl
  | some y =>
    show PyData.eqv (fr y) (fr x) = _
    rw [eqv_fr]
    exact decide_eq_decide.mpr ⟨fun h => by rw [h], fun h => Option.some.inj h⟩
theorem flat_fr (x : Rat) : flat (fr x) := ⟨rfl, Nat.le_of_ble_eq_true rfl⟩
theorem flat_ofr (o : Option Rat) : flat (ofr o) := by cases o <;> exact ⟨rfl, Nat.le_of_ble_eq_true rfl⟩
theorem isN_ofr (o : Option Rat) : isN (ofr o) = o.isNone := by cases o <;> rfl
theorem iv_zipE {α β : Type} {f : α → PD} {g : β → PD} {xs : List α} {ys : List β} {X : Cx} {C : Ct} {Γ : List Sl} {a b : Expr} {pos p tpos : Pos} {elts : List Expr} {kk : Nat} (hm : X.mg "zip" = none) (h : EV X C a Γ (.tuple (xs.map f))) (h2 : EV X C b Γ (.tuple (ys.map g))) (hl : xs.length = ys.length) (hg : Gl X "zip" := by rfl)
    (hs : starEach [a, b] X.env = (false, eval a X.env) :: starEach [b] X.env := by rfl) (hpl : (backTo pos (starEach [b] X.env)).any (·.1) = false := by rfl) (hs2 : starEach [b] X.env = (false, eval b X.env) :: starEach [] X.env := by rfl) :
    IV X C (.Tuple elts kk tpos) (.Call (.Name "zip" p) [a, b] [] pos) Γ ((xs.zip ys).map fun z => .tuple [f z.1, g z.2]) := by
  rw [← zipD_map]
  exact iv_zip hm h h2 (by rw [List.length_map, List.length_map]; exact hl) hg hs hpl hs2
/-- weights, with their sizes -/
theorem oppW_ok {f g : Pl} (hf : PO f) (hg : PO g) {ws : List Int} (h : oppW f g = some ws) : ws.length = 2 ∧ ∀ x ∈ ws, x.natAbs < 2 ^ 601 := by
  unfold oppW at h
  split at h
  · cases h
  · cases h
    refine ⟨rfl, fun x hx => ?_⟩
    simp only [List.mem_cons, List.not_mem_nil, or_false] at hx
    rcases hx with rfl | rfl
    · exact Nat.lt_of_le_of_lt (Int.natAbs_ediv_le_natAbs _ _) (lt_mono (size1_lt hg.b) (by decide))
    · exact Nat.lt_of_le_of_lt (Int.natAbs_ediv_le_natAbs _ _) (lt_mono (size1_lt hf.b) (by decide))
theorem tripW_ok {f g h : Pl} (hf : PO f) (hg : PO g) (hh : PO h) {ws : List Int} (e : tripW f g h = some ws) : ws.length = 3 ∧ ∀ x ∈ ws, x.natAbs < 2 ^ 601 := by
  unfold tripW at e
  split at e
  · cases e
  · cases e
    obtain ⟨a, b, c, habc⟩ := tripL_three f g h
    have hl := tripL_lt hf hg hh
    refine ⟨by rw [List.length_map, habc]; rfl, fun x hx => ?_⟩
    obtain ⟨y, hy, rfl⟩ := List.mem_map.mp hx
    exact Nat.lt_of_le_of_lt (Int.natAbs_ediv_le_natAbs _ _) (hl y hy)
theorem oppSets_ok {hs : List Pl} (hO : ∀ h ∈ hs, PO h) {o : List Nat × List Int} (ho : o ∈ oppSets hs) : o.1.length = o.2.length ∧ (∀ i ∈ o.1, i < hs.length) ∧ ∀ x ∈ o.2, x.natAbs < 2 ^ 601 := by
  unfold oppSets at ho
  obtain ⟨⟨ix, w⟩, hm, he⟩ := List.mem_filterMap.mp ho
  cases w with
  | none => cases he
  | some w =>
    cases he
    have at_ : ∀ {z : Pl × Nat}, z ∈ hs.zipIdx → PO z.1 ∧ z.2 < hs.length := fun {z} hz => by
      have := zipIdx_mem hz
      exact ⟨hO _ (List.mem_of_getElem? this), (List.getElem?_eq_some_iff.mp this).1⟩
    unfold oppAll at hm
    rcases List.mem_append.mp hm with hm | hm
    · obtain ⟨x, y, hx, hy, e⟩ := mem_pairsFrom hm
      have e1 : ix = [x.2, y.2] := congrArg Prod.fst e
      have e2 : oppW x.1 y.1 = some w := (congrArg Prod.snd e).symm
      obtain ⟨h1, h2⟩ := oppW_ok (at_ hx).1 (at_ hy).1 e2
      subst e1
      exact ⟨h1.symm, fun i hi => by
        simp only [List.mem_cons, List.not_mem_nil, or_false] at hi
        rcases hi with rfl | rfl
        · exact (at_ hx).2
        · exact (at_ hy).2, h2⟩
    · obtain ⟨x, y, z, hx, hy, hz, e⟩ := mem_triplesFrom hm
      have e1 : ix = [x.2, y.2, z.2] := congrArg Prod.fst e
      have e2 : tripW x.1 y.1 z.1 = some w := (congrArg Prod.snd e).symm
      obtain ⟨h1, h2⟩ := tripW_ok (at_ hx).1 (at_ hy).1 (at_ hz).1 e2
      subst e1
      exact ⟨h1.symm, fun i hi => by
        simp only [List.mem_cons, List.not_mem_nil, or_false] at hi
        rcases hi with rfl | rfl | rfl
        · exact (at_ hx).2
        · exact (at_ hy).2
        · exact (at_ hz).2, h2⟩
/-- a direction as it comes -/
abbrev DB (q : Rat) : Prop := RB 300 0 q
abbrev SB (q : Rat) : Prop := RB 1600 1300 q
theorem DB.neg {q : Rat} (h : DB q) : DB (-q) := RB.neg h
theorem prod_pos {h : Pl} (z : h.p ≠ 0 ∨ h.q ≠ 0) : 0 < prod h h := by
  unfold prod
  rcases z with z | z
  · have h1 : 0 < h.p * h.p := by
      rcases Int.lt_or_gt_of_ne z with y | y
      · exact Int.mul_pos_of_neg_of_neg y y
      · exact Int.mul_pos y y
    have h2 : 0 ≤ h.q * h.q := by
      rcases Int.le_total 0 h.q with y | y
      · exact Int.mul_nonneg y y
      · exact Int.mul_nonneg_of_nonpos_of_nonpos y y
    omega
  · have h1 : 0 < h.q * h.q := by
      rcases Int.lt_or_gt_of_ne z with y | y
      · exact Int.mul_pos_of_neg_of_neg y y
      · exact Int.mul_pos y y
    have h2 : 0 ≤ h.p * h.p := by
      rcases Int.le_total 0 h.p with y | y
      · exact Int.mul_nonneg y y
      · exact Int.mul_nonneg_of_nonpos_of_nonpos y y
    omega
theorem cast_ne {i : Int} (h : i ≠ 0) : (i : Rat) ≠ 0 := fun z => h (by
  have := congrArg Rat.num z
  simpa using this)
theorem prodPO {f : Pl} (hf : PO f) : (prod f f).natAbs < 2 ^ 601 := prod_lt hf.b.p hf.b.q hf.b.p hf.b.q
theorem single_b {h : Pl} {p q b : Rat} (hh : PO h) (hp : DB p) (hq : DB q) (e : single h p q = some b) : SB b := by
  unfold single at e
  split at e
  · cases e
  · cases e
    exact (((((RB.int hh.b.p).mul hp).add ((RB.int hh.b.q).mul hq)).div (RB.int (prodPO hh)) (cast_ne (by have := prod_pos hh.nz; omega))).mul (RB.int hh.b.r)).mono (by decide) (by decide)
theorem pairWs_b {f g : Pl} {p q : Rat} {b : Rat × Rat} (hf : PO f) (hg : PO g) (hp : DB p) (hq : DB q) (e : pairWs f g p q = some b) : RB 601 601 b.1 ∧ RB 601 601 b.2 := by
  unfold pairWs at e
  split at e
  · cases e
  · rename_i hd
    simp only at e
    split at e
    · cases e
    · cases e
      exact ⟨((hp.mul (RB.int hg.b.q)).sub (hq.mul (RB.int hg.b.p))).div (RB.int (detPO hf hg)) (cast_ne hd) |>.mono (by decide) (by decide), ((hq.mul (RB.int hf.b.p)).sub (hp.mul (RB.int hf.b.q))).div (RB.int (detPO hf hg)) (cast_ne hd) |>.mono (by decide) (by decide)⟩
theorem pairB_b {f g : Pl} {p q b : Rat} (hf : PO f) (hg : PO g) (hp : DB p) (hq : DB q) (e : pairB p q f g = some b) : SB b := by
  unfold pairB at e
  split at e
  · cases e
  · rename_i w hw
    obtain ⟨h1, h2⟩ := pairWs_b hf hg hp hq hw
    cases e
    exact ((h1.mul (RB.int hf.b.r)).add (h2.mul (RB.int hg.b.r))).mono (by decide) (by decide)
theorem supr_b {hs : List Pl} {p q b : Rat} (hO : ∀ h ∈ hs, PO h) (hp : DB p) (hq : DB q) (e : supr hs p q = some b) : SB b := by
  unfold supr at e
  split at e
  · cases e; exact RB.zero.mono (by decide) (by decide)
  · have hm := least_mem e
    rcases List.mem_append.mp hm with hm | hm
    · obtain ⟨h, hh, eh⟩ := List.mem_map.mp hm
      exact single_b (hO h hh) hp hq eh
    · obtain ⟨x, y, hx, hy, eh⟩ := mem_pairsFrom hm
      exact pairB_b (hO x hx) (hO y hy) hp hq eh.symm
theorem infi_b {hs : List Pl} {p q b : Rat} (hO : ∀ h ∈ hs, PO h) (hp : DB p) (hq : DB q) (e : infi hs p q = some b) : SB b := by
  unfold infi at e
  cases h : supr hs (-p) (-q) with
  | none => rw [h] at e; cases e
  | some x =>
    rw [h] at e
    cases e
    exact RB.neg (supr_b hO hp.neg hq.neg h)
theorem sgn_le {x : Rat} : sgn x ≤ 0 ↔ x ≤ 0 := by
  have h1 := @sgn_pos x
  constructor
  · intro h
    rcases @Rat.le_total x 0 with z | z
    · exact z
    · rcases Rat.le_iff_lt_or_eq.mp z with y | y
      · have := h1.mpr y; omega
      · rw [← y]; exact Rat.le_refl
  · intro h
    rcases Int.lt_or_le 0 (sgn x) with z | z
    · exact absurd (h1.mp z) (Rat.not_lt.mpr h)
    · exact z
theorem oppSets_small {hs : List Pl} {o : List Nat × List Int} (ho : o ∈ oppSets hs) : o.2.length ≤ 3 := by
  unfold oppSets at ho
  obtain ⟨⟨ix, w⟩, hm, he⟩ := List.mem_filterMap.mp ho
  cases w with
  | none => cases he
  | some w =>
    cases he
    unfold oppAll at hm
    rcases List.mem_append.mp hm with hm | hm
    · obtain ⟨x, y, hx, hy, e⟩ := mem_pairsFrom hm
      have e2 : oppW x.1 y.1 = some w := (congrArg Prod.snd e).symm
      unfold oppW at e2
      split at e2
      · cases e2
      · cases e2; simp
    · obtain ⟨x, y, z, hx, hy, hz, e⟩ := mem_triplesFrom hm
      have e2 : tripW x.1 y.1 z.1 = some w := (congrArg Prod.snd e).symm
      unfold tripW at e2
      split at e2
      · cases e2
      · cases e2
        obtain ⟨a, b, c, habc⟩ := tripL_three x.1 y.1 z.1
        rw [List.length_map, habc]; simp
section
variable {X : Cx} {C : Ct} {Γ : List Sl} {a b : Expr} {pos : Pos} {k : Nat} {x y : Rat}
theorem tv_neQ (hr : Room k X.A) (ha : EV X C a Γ (fr x)) (hb : EV X C b Γ (fr y)) (hm : behindInMarks .NotEq b = false := by first | exact nomark _ | rfl) : TV X C (.Compare a [.NotEq] [b] pos) Γ (!decide (x = y)) := tv_neE eqv_fr flat_fr hr ha hb hm
end
section
variable {P : Program} {w : World} {K : PySem.W.Frag} {mg : Str → Option Value} {base : Heap} {W : Wo}
theorem sc_number_of : FnScope ["half_planes", "indexes", "weights", "index", "weight"] ["half_planes", "indexes", "weights"] (defScope (top 41)) := ⟨rfl, rfl, rfl, by decide +kernel, rfl, by decide +kernel, by decide +kernel⟩
def pm_number_of : Pm := fun ds p => ∃ (hs : List Pl) (ix : List Nat) (ws : List Int), ds = [.list (hs.map pl), .tuple (ix.map fun (i : Nat) => .int (i : Int)), .tuple (ws.map .int)] ∧ (∀ h ∈ hs, PO h) ∧ ix.length = ws.length ∧ (∀ i ∈ ix, i < hs.length) ∧ (∀ x ∈ ws, x.natAbs < 2 ^ 601) ∧ ws.length ≤ 1000 ∧ p (.int (numberOf hs ix ws))
theorem k_number_of (E : Hd K mg) : Kn P w K mg base "number_of" [] 1 (spD K W 3 pm_number_of) :=
  kn_mk 29 E rfl rfl (fun _ _ _ _ _ _ us hl => match us, hl with | [_, _, _], _ => rfl) fun f fd F => fn_mk F sc_number_of (by
    rintro X C cdv A outer s H E' P0 ds p rfl rfl hr ⟨hs, ix, ws, rfl, hO, hl, hi, hw, hz, hp⟩
    have nd := sc_number_of.nd
    dsimp only [iniL, iniN, List.tail]
    refine sw_one (s1_ret (EV.r (EV.is (ev_sum (ns := (ix.zip ws).map fun z => ((hs.getD z.1 ⟨0, 0, 0⟩).r * z.2)) (E.free "sum" (by simp)) (EV.is (EVL.ev (evl_lc (own := [("index", 3), ("weight", 4)]) (fun z : Nat × Int => .tuple [.int (z.1 : Int), .int z.2]) (fun z => .int ((hs.getD z.1 ⟨0, 0, 0⟩).r * z.2)) (ix.zip ws) nd (iv_zipE (f := fun (i : Nat) => PyData.int (i : Int)) (g := PyData.int) (E.free "zip" (by simp)) (ev_var 1 rfl) (ev_var 2 rfl) hl) (blkOk_by rfl) (by rw [List.length_zip]; omega) (fun z hz' => ⟨_, _, by decide, fun s H Ca cl fp => gv_tup (gvs_cons (gv_name 3 nd) (gvs_cons (gv_name 4 nd) gvs_nil)), fun s H Ca cl fp => ?_⟩))) (by rw [List.map_map]; rfl))) rfl)) hp)
    have h1 := List.of_mem_zip (a := z.1) (b := z.2) hz'
    have hlt := hi z.1 h1.1
    have hx : hs[z.1]? = some (hs.getD z.1 ⟨0, 0, 0⟩) := by rw [List.getD_eq_getElem?_getD, List.getElem?_eq_getElem hlt]; rfl
    exact ev_mul (ev_p2 (ev_ixL (ev_var 0 rfl) (ev_var 3 rfl) (atI_nat hx))) (ev_var 4 rfl) (cm_of (hO _ (List.mem_of_getElem? hx)).b.r (hw z.2 h1.2) (by decide)))
theorem sc_is_empty : FnScope ["half_planes", "indexes", "weights"] ["half_planes"] (defScope (top 42)) := ⟨rfl, rfl, rfl, by decide +kernel, rfl, by decide +kernel, by decide +kernel⟩
def pm_is_empty : Pm := fun ds p => ∃ hs : List Pl, ds = [.list (hs.map pl)] ∧ (∀ h ∈ hs, PO h) ∧ hs.length ≤ 40 ∧ p (.bool (isEmp hs))
theorem k_is_empty (E : Hd K mg) (T : Tabs W base mg K) : Kn P w K mg base "is_empty" [] 6 (spD K W 1 pm_is_empty) :=
  kn_mkT 30 E rfl rfl (fun _ _ _ _ _ _ us hl => match us, hl with | [_], _ => rfl) fun fd F => fn_mkT F sc_is_empty (by
    rintro X C cdv A outer s H E' P0 ds p rfl rfl rfl hr ⟨hs, rfl, hO, hz, hp⟩
    have nd := sc_is_empty.nd
    dsimp only [iniL, iniN, List.tail]
    refine sw_one (s1_ret (EV.r (ev_anyG (k := 4) (own := [("indexes", 1), ("weights", 2)]) osD (fun o => decide (numberOf hs o.1 o.2 < 0)) (oppSets hs) nd (E.free "any" (by simp)) (iv_lst (ev_fn (k_opposing_sets E T) hr (by decide) (evs_one (ev_var 0 rfl)) ⟨hs, rfl, hO, hz, rfl⟩)) (genOk_by rfl) (T.t _ (by simp [tabNames])) rfl hr (fun o ho => ⟨_, _, by decide, fun A' s' H' Ca code fp hr' => ⟨gv_tup (gvs_cons (gv_name 1 nd) (gvs_cons (gv_name 2 nd) gvs_nil)), ?_⟩⟩))) hp)
    obtain ⟨h1, h2, h3⟩ := oppSets_ok hO ho
    have hl : o.2.length ≤ 1000 := by
      have := oppSets_small ho
      omega
    exact ev_lt (ev_fn (k_number_of E) hr' (by decide) (evs_cons (ev_var 0 rfl) (evs_cons (ev_var 1 rfl) (evs_one (ev_var 2 rfl)))) ⟨hs, o.1, o.2, rfl, hO, h1, h2, h3, hl, rfl⟩) ev_int)
theorem sc_single_bound : FnScope ["half_plane", "p", "q", "cross", "along", "ratio"] ["half_plane", "p", "q"] (defScope (top 43)) := ⟨rfl, rfl, rfl, by decide +kernel, rfl, by decide +kernel, by decide +kernel⟩
def pm_single_bound : Pm := fun ds p => ∃ (h : Pl) (p' q : Rat), ds = [pl h, fr p', fr q] ∧ PO h ∧ DB p' ∧ DB q ∧ p (ofr (single h p' q))
theorem k_single_bound (E : Hd K mg) : Kn P w K mg base "single_bound" [] 5 (spD K W 3 pm_single_bound) :=
  kn_mk 31 E rfl rfl (fun _ _ _ _ _ _ us hl => match us, hl with | [_, _, _], _ => rfl) fun f fd F => fn_mk F sc_single_bound (by
    rintro X C cdv A outer s H E' P0 ds p rfl rfl hr ⟨h, p', q, rfl, hh, h1, h2, hp⟩
    have nd := sc_single_bound.nd
    dsimp only [iniL, iniN, List.tail]
    have pp := prod_pos hh.nz
    unfold single at hp
    have e0 : ∀ i : Int, i.natAbs < 2 ^ 300 → RB 300 0 (i : Rat) := fun i hi => RB.int hi
    refine sw_cons (s1_set 3 nd (eq_sub E hr (eq_mul E hr (eq_int E hr (ev_p0 (ev_var 0 rfl)) hh.b.p) ⟨ev_var 2 rfl, h2⟩) (eq_mul E hr (eq_int E hr (ev_p1 (ev_var 0 rfl)) hh.b.q) ⟨ev_var 1 rfl, h1⟩)).ev ?_)
    all_goals (try dsimp only [List.set])
    refine sw_cons (s1_set 4 nd (eq_add E hr (eq_mul E hr (eq_int E hr (ev_p0 (ev_var 0 rfl)) hh.b.p) ⟨ev_var 1 rfl, h1⟩) (eq_mul E hr (eq_int E hr (ev_p1 (ev_var 0 rfl)) hh.b.q) ⟨ev_var 2 rfl, h2⟩)).ev ?_)
    all_goals (try dsimp only [List.set])
    have ha : RB 601 0 ((h.p : Rat) * p' + (h.q : Rat) * q) := (((RB.int hh.b.p).mul h1).add ((RB.int hh.b.q).mul h2)).mono (by decide) (by decide)
    refine sw_cons (s1_if (TW.tv (tw_or (tv_neQ hr (ev_var 3 rfl) (ev_zero E)) fun _ => tw_or1 (tv_le (ev_sgnQ E hr (ev_var 4 rfl)) ev_int))) (fun ht => ?_) fun ht => ?_)
    all_goals (try dsimp only [List.set])
    · rw [if_pos (by simpa [sgn_le] using ht)] at hp
      exact sw_one (s1_ret (EV.r ev_non) hp)
    · rw [if_neg (by simpa [sgn_le] using ht)] at hp
      refine sw_nil (sw_cons (s1_set 5 nd (eq_div E hr ⟨ev_var 4 rfl, ha⟩ (eq_int E hr (ev_fn (k_product E) hr (by decide) (evs_cons (ev_var 0 rfl) (evs_one (ev_var 0 rfl))) ⟨h, h, rfl, hh.big, hh.big, rfl⟩) (prodPO hh)) (cast_ne (by omega))).ev ?_))
      all_goals (try dsimp only [List.set])
      have hq : RB 601 601 (((h.p : Rat) * p' + (h.q : Rat) * q) / (prod h h : Rat)) := (ha.div (RB.int (prodPO hh)) (cast_ne (by omega))).mono (by decide) (by decide)
      exact sw_one (s1_ret (EV.r (eq_mul E hr ⟨ev_var 5 rfl, hq⟩ (eq_int E hr (ev_p2 (ev_var 0 rfl)) hh.b.r)).ev) hp))
def owr : Option (Rat × Rat) → PD
  | none => .none
  | some w => .tuple [fr w.1, fr w.2]
theorem sc_pair_weights : FnScope ["first", "second", "p", "q", "whole", "one", "other"] ["first", "second", "p", "q"] (defScope (top 44)) := ⟨rfl, rfl, rfl, by decide +kernel, rfl, by decide +kernel, by decide +kernel⟩
def pm_pair_weights : Pm := fun ds p => ∃ (f g : Pl) (p' q : Rat), ds = [pl f, pl g, fr p', fr q] ∧ PO f ∧ PO g ∧ DB p' ∧ DB q ∧ p (owr (pairWs f g p' q))
theorem k_pair_weights (E : Hd K mg) : Kn P w K mg base "pair_weights" [] 5 (spD K W 4 pm_pair_weights) :=
  kn_mk 32 E rfl rfl (fun _ _ _ _ _ _ us hl => match us, hl with | [_, _, _, _], _ => rfl) fun f fd F => fn_mk F sc_pair_weights (by
    rintro X C cdv A outer s H E' P0 ds p rfl rfl hr ⟨f, g, p', q, rfl, hf, hg, h1, h2, hp⟩
    have nd := sc_pair_weights.nd
    dsimp only [iniL, iniN, List.tail]
    unfold pairWs at hp
    refine sw_cons (s1_set 4 nd (ev_fn (k_determinant E) hr (by decide) (evs_cons (ev_var 0 rfl) (evs_one (ev_var 1 rfl))) ⟨f, g, rfl, hf.big, hg.big, rfl⟩) ?_)
    all_goals (try dsimp only [List.set])
    refine sw_cons (s1_if (tv_eqI (ev_var 4 rfl) ev_int) (fun ht => ?_) fun ht => ?_)
    all_goals (try dsimp only [List.set])
    · rw [if_pos (by simpa using ht)] at hp
      exact sw_one (s1_ret (EV.r ev_non) hp)
    · have hd : det f g ≠ 0 := by simpa using ht
      rw [if_neg hd] at hp
      have hd2 := cast_ne hd
      refine sw_nil (sw_cons (s1_set 5 nd (eq_div E hr (eq_sub E hr (eq_mul E hr ⟨ev_var 2 rfl, h1⟩ (eq_int E hr (ev_p1 (ev_var 1 rfl)) hg.b.q)) (eq_mul E hr ⟨ev_var 3 rfl, h2⟩ (eq_int E hr (ev_p0 (ev_var 1 rfl)) hg.b.p))) (eq_int E hr (ev_var 4 rfl) (detPO hf hg)) hd2).ev ?_))
      all_goals (try dsimp only [List.set])
      refine sw_cons (s1_set 6 nd (eq_div E hr (eq_sub E hr (eq_mul E hr ⟨ev_var 3 rfl, h2⟩ (eq_int E hr (ev_p0 (ev_var 0 rfl)) hf.b.p)) (eq_mul E hr ⟨ev_var 2 rfl, h1⟩ (eq_int E hr (ev_p1 (ev_var 0 rfl)) hf.b.q))) (eq_int E hr (ev_var 4 rfl) (detPO hf hg)) hd2).ev ?_)
      all_goals (try dsimp only [List.set])
      simp only at hp
      refine sw_cons (s1_if (TW.tv (tw_or (tv_le (ev_sgnQ E hr (ev_var 5 rfl)) ev_int) fun _ => tw_or1 (tv_le (ev_sgnQ E hr (ev_var 6 rfl)) ev_int))) (fun ht => ?_) fun ht => ?_)
      all_goals (try dsimp only [List.set])
      · rw [if_pos (by simpa [sgn_le] using ht)] at hp
        exact sw_one (s1_ret (EV.r ev_non) hp)
      · rw [if_neg (by simpa [sgn_le] using ht)] at hp
        exact sw_nil (sw_one (s1_ret (EV.r (ev_tup (evs_cons (ev_var 5 rfl) (evs_one (ev_var 6 rfl))))) hp)))
theorem sc_pair_bound : FnScope ["first", "second", "p", "q", "weights"] ["first", "second", "p", "q"] (defScope (top 45)) := ⟨rfl, rfl, rfl, by decide +kernel, rfl, by decide +kernel, by decide +kernel⟩
def pm_pair_bound : Pm := fun ds p => ∃ (f g : Pl) (p' q : Rat), ds = [pl f, pl g, fr p', fr q] ∧ PO f ∧ PO g ∧ DB p' ∧ DB q ∧ p (ofr (pairB p' q f g))
theorem k_pair_bound (E : Hd K mg) : Kn P w K mg base "pair_bound" [] 6 (spD K W 4 pm_pair_bound) :=
  kn_mk 33 E rfl rfl (fun _ _ _ _ _ _ us hl => match us, hl with | [_, _, _, _], _ => rfl) fun f fd F => fn_mk F sc_pair_bound (by
    rintro X C cdv A outer s H E' P0 ds p rfl rfl hr ⟨f, g, p', q, rfl, hf, hg, h1, h2, hp⟩
    have nd := sc_pair_bound.nd
    dsimp only [iniL, iniN, List.tail]
    unfold pairB at hp
    refine sw_cons (s1_set 4 nd (ev_fn (k_pair_weights E) hr (by decide) (evs_cons (ev_var 0 rfl) (evs_cons (ev_var 1 rfl) (evs_cons (ev_var 2 rfl) (evs_one (ev_var 3 rfl))))) ⟨f, g, p', q, rfl, hf, hg, h1, h2, rfl⟩) ?_)
    all_goals (try dsimp only [List.set])
    cases e : pairWs f g p' q with
    | none =>
      rw [e] at hp
      exact sw_cons (s1_take (tv_isN (ev_var 4 rfl)) rfl (sw_one (s1_ret (EV.r ev_non) hp)))
    | some w =>
      rw [e] at hp
      obtain ⟨b1, b2⟩ := pairWs_b hf hg h1 h2 e
      refine sw_cons (s1_skip (tv_isN (ev_var 4 rfl)) rfl (sw_nil ?_))
      all_goals (try dsimp only [List.set])
      exact sw_one (s1_ret (EV.r (eq_add E hr (eq_mul E hr ⟨ev_ixT (ev_var 4 rfl) ev_int rfl, b1⟩ (eq_int E hr (ev_p2 (ev_var 0 rfl)) hf.b.r)) (eq_mul E hr ⟨ev_ixT (ev_var 4 rfl) ev_int rfl, b2⟩ (eq_int E hr (ev_p2 (ev_var 1 rfl)) hg.b.r))).ev) hp))
theorem sc_supremum : FnScope ["half_planes", "p", "q", "found", "place", "one", "other"] ["half_planes", "p", "q"] (defScope (top 46)) := ⟨rfl, rfl, rfl, by decide +kernel, rfl, by decide +kernel, by decide +kernel⟩
def pm_supremum : Pm := fun ds p => ∃ (hs : List Pl) (p' q : Rat), ds = [.list (hs.map pl), fr p', fr q] ∧ (∀ h ∈ hs, PO h) ∧ hs.length ≤ 40 ∧ DB p' ∧ DB q ∧ p (ofr (supr hs p' q))
theorem k_supremum (E : Hd K mg) : Kn P w K mg base "supremum" [] 8 (spD K W 3 pm_supremum) :=
  kn_mk 34 E rfl rfl (fun _ _ _ _ _ _ us hl => match us, hl with | [_, _, _], _ => rfl) fun f fd F => fn_mk F sc_supremum (by
    rintro X C cdv A outer s H E' P0 ds p rfl rfl hr ⟨hs, p', q, rfl, hO, hz, h1, h2, hp⟩
    have nd := sc_supremum.nd
    dsimp only [iniL, iniN, List.tail]
    unfold supr at hp
    refine sw_cons (s1_if (TW.tv (tw_and (tv_eqQ hr (ev_var 1 rfl) (ev_zero E)) fun _ => tw_and1 (tv_eqQ hr (ev_var 2 rfl) (ev_zero E)))) (fun ht => ?_) fun ht => ?_)
    all_goals (try dsimp only [List.set])
    · rw [if_pos (by simpa using ht)] at hp
      exact sw_one (s1_ret (EV.r (ev_zero E)) hp)
    rw [if_neg (by simpa using ht)] at hp
    have hpl := pairsFrom_len (pairB p' q) hs
    have hsq : hs.length * hs.length ≤ 40 * 40 := Nat.mul_le_mul hz hz
    refine sw_nil (sw_cons (s1_lc 3 [("one", 5)] pl (fun h => ofr (single h p' q)) hs nd (iv_lst (ev_var 0 rfl)) (blkOk_by rfl) (by omega) (fun h hh => ⟨_, _, by decide, fun s H Ca cl fp => gv_name 5 nd, fun s H Ca cl fp => ev_fn (k_single_bound E) hr (by decide) (evs_cons (ev_var 5 rfl) (evs_cons (ev_var 1 rfl) (evs_one (ev_var 2 rfl)))) ⟨h, p', q, rfl, hO h hh, h1, h2, rfl⟩⟩) ?_))
    all_goals (try dsimp only [List.set])
    try dsimp only [List.set]
    refine sw_cons (s1_for (fun z : Pl × Nat => .tuple [.int (z.2 : Int), pl z.1]) hs.zipIdx (iv_enumE (E.free "enumerate" (by simp)) (ev_var 0 rfl)) (fun i Γ => ∃ fs v u r, Γ = [.pu (.list (hs.map pl)), .pu (fr p'), .pu (fr q), .ow (fs.map ofr), v, u, r] ∧ fs ++ pairsFrom (pairB p' q) (hs.drop i) = (hs.map fun h => single h p' q) ++ pairsFrom (pairB p' q) hs) ⟨hs.map fun h => single h p' q, .no, .no, .no, by rw [List.map_map]; rfl, rfl⟩ ?_ ?_)
    all_goals (try dsimp only [List.set])
    · rintro i ⟨x, i'⟩ _ hx ⟨fs, v, u, r, rfl, ht⟩
      obtain ⟨hxi, rfl⟩ := zipIdx_at hx
      simp only at hxi
      refine ⟨_, _, gv_tup (gvs_cons (gv_name 4 nd) (gvs_cons (gv_name 5 nd) gvs_nil)), ?_⟩
      try dsimp only [List.set]
      rw [pairsFrom_at hxi] at ht
      refine sw_one (s1_for pl (hs.drop (i' + 1)) (iv_lst (EV.is (ev_slice (ev_var 0 rfl) (evo_some (EV.is (ev_add (ev_var 4 rfl) ev_int) (by show PyData.int ((i' : Int) + 1) = .int ((i' + 1 : Nat) : Int); simp))) evo_none) (by rw [cutD_drop, List.map_drop]))) (fun j Γ => ∃ fs r, Γ = [.pu (.list (hs.map pl)), .pu (fr p'), .pu (fr q), .ow (fs.map ofr), .pu (.int (i' : Int)), .pu (pl x), r] ∧ fs ++ (((hs.drop (i' + 1)).drop j).map (pairB p' q x) ++ pairsFrom (pairB p' q) (hs.drop (i' + 1))) = (hs.map fun h => single h p' q) ++ pairsFrom (pairB p' q) hs) ⟨fs, r, rfl, ht⟩ ?_ ?_)
      all_goals (try dsimp only [List.set])
      · rintro j y _ hy ⟨fs, r, rfl, ht⟩
        refine ⟨_, _, gv_name 6 nd, ?_⟩
        try dsimp only [List.set]
        rw [drop_at hy, List.map_cons] at ht
        have hl : fs.length ≤ 1640 := by
          have e := congrArg List.length ht
          simp only [List.length_append, List.length_map, List.length_cons] at e
          omega
        refine sw_one (s1_append 3 rfl (ev_fn (k_pair_bound E) hr (by decide) (evs_cons (ev_var 5 rfl) (evs_cons (ev_var 6 rfl) (evs_cons (ev_var 1 rfl) (evs_one (ev_var 2 rfl))))) ⟨x, y, p', q, rfl, hO x (List.mem_of_getElem? hxi), hO y (List.mem_of_mem_drop (List.mem_of_getElem? hy)), h1, h2, rfl⟩) ⟨fs ++ [pairB p' q x y], .pu (pl y), ?_, ?_⟩ (by rw [List.length_map]; omega))
        · rw [List.map_append]
          rfl
        · rw [List.append_assoc]
          exact ht
      · rintro _ ⟨fs, r, rfl, ht⟩
        refine ⟨fs, _, _, _, rfl, ?_⟩
        rw [List.drop_length] at ht
        exact ht
    · rintro _ ⟨fs, v, u, r, rfl, ht⟩
      rw [List.length_zipIdx, List.drop_length] at ht
      have e : fs = (hs.map fun h => single h p' q) ++ pairsFrom (pairB p' q) hs := by simpa [pairsFrom] using ht
      rw [← e] at hp
      refine sw_freeze 3 rfl ?_
      try dsimp only [List.set]
      refine sw_one (s1_ret (EV.r (ev_fn (k_least_of E) hr (by decide) (evs_one (ev_var 3 rfl)) ⟨fs, rfl, ?_, ?_, rfl⟩)) hp)
      · rw [e, List.length_append, List.length_map]; omega
      · intro b hb
        rw [e] at hb
        rcases List.mem_append.mp hb with hm | hm
        · obtain ⟨h, hh, eh⟩ := List.mem_map.mp hm
          exact (single_b (hO h hh) h1 h2 eh).mono (by decide) (by decide)
        · obtain ⟨x, y, hx, hy, eh⟩ := mem_pairsFrom hm
          exact (pairB_b (hO x hx) (hO y hy) h1 h2 eh.symm).mono (by decide) (by decide))
theorem sc_infimum : FnScope ["half_planes", "p", "q", "found"] ["half_planes", "p", "q"] (defScope (top 47)) := ⟨rfl, rfl, rfl, by decide +kernel, rfl, by decide +kernel, by decide +kernel⟩
def pm_infimum : Pm := fun ds p => ∃ (hs : List Pl) (p' q : Rat), ds = [.list (hs.map pl), fr p', fr q] ∧ (∀ h ∈ hs, PO h) ∧ hs.length ≤ 40 ∧ DB p' ∧ DB q ∧ p (ofr (infi hs p' q))
theorem k_infimum (E : Hd K mg) : Kn P w K mg base "infimum" [] 9 (spD K W 3 pm_infimum) :=
  kn_mk 35 E rfl rfl (fun _ _ _ _ _ _ us hl => match us, hl with | [_, _, _], _ => rfl) fun f fd F => fn_mk F sc_infimum (by
    rintro X C cdv A outer s H E' P0 ds p rfl rfl hr ⟨hs, p', q, rfl, hO, hz, h1, h2, hp⟩
    have nd := sc_infimum.nd
    dsimp only [iniL, iniN, List.tail]
    unfold infi at hp
    refine sw_cons (s1_set 3 nd (ev_fn (k_supremum E) hr (by decide) (evs_cons (ev_var 0 rfl) (evs_cons (eq_neg E hr ⟨ev_var 1 rfl, h1⟩).ev (evs_one (eq_neg E hr ⟨ev_var 2 rfl, h2⟩).ev))) ⟨hs, -p', -q, rfl, hO, hz, h1.neg, h2.neg, rfl⟩) ?_)
    all_goals (try dsimp only [List.set])
    cases e : supr hs (-p') (-q) with
    | none =>
      rw [e] at hp
      exact sw_cons (s1_take (tv_isN (ev_var 3 rfl)) rfl (sw_one (s1_ret (EV.r ev_non) hp)))
    | some b =>
      rw [e] at hp
      refine sw_cons (s1_skip (tv_isN (ev_var 3 rfl)) rfl (sw_nil ?_))
      all_goals (try dsimp only [List.set])
      exact sw_one (s1_ret (EV.r (ev_fn (k_negative E) hr (by decide) (evs_one (ev_var 3 rfl)) ⟨b, rfl, rfl⟩)) hp))
end
end RT
end
section
set_option Elab.async false
set_option linter.all false
set_option maxRecDepth 100000
set_option maxHeartbeats 4000000
set_option exponentiation.threshold 20000
/-! B9: kinds, implied planes, edges that are not needed. -/
namespace RT
open PySem PySem.Spec PyProof.Rows L2
theorem PO.dp {h : Pl} (o : PO h) : DB (h.p : Rat) := RB.int o.b.p
theorem PO.dq {h : Pl} (o : PO h) : DB (h.q : Rat) := RB.int o.b.q
theorem PO.dnq {h : Pl} (o : PO h) : DB ((-h.q : Int) : Rat) := RB.int (by rw [Int.natAbs_neg]; exact o.b.q)
def drD : Option (Option Rat × Option Rat) → PD
  | none => .none
  | some w => .tuple [ofr w.1, ofr w.2]
def opl : Option Pl → PD
  | none => .none
  | some h => pl h
theorem eqv_S (a b : Str) : PyData.eqv (.str a) (.str b) = decide (a = b) := by
  simp only [PyData.eqv]
  by_cases h : a = b <;> simp [h]
section
variable {P : Program} {w : World} {K : PySem.W.Frag} {mg : Str → Option Value} {base : Heap} {W : Wo}
theorem sc_direction_range : FnScope ["half_planes", "p", "q"] ["half_planes", "p", "q"] (defScope (top 48)) := ⟨rfl, rfl, rfl, by decide +kernel, rfl, by decide +kernel, by decide +kernel⟩
def pm_direction_range : Pm := fun ds p => ∃ (hs : List Pl) (p' q : Rat), ds = [.list (hs.map pl), fr p', fr q] ∧ (∀ h ∈ hs, PO h) ∧ hs.length ≤ 40 ∧ DB p' ∧ DB q ∧ p (drD (dirRange hs p' q))
theorem k_direction_range (E : Hd K mg) (T : Tabs W base mg K) : Kn P w K mg base "direction_range" [] 10 (spD K W 3 pm_direction_range) :=
  kn_mk 36 E rfl rfl (fun _ _ _ _ _ _ us hl => match us, hl with | [_, _, _], _ => rfl) fun f fd F => fn_mk F sc_direction_range (by
    rintro X C cdv A outer s H E' P0 ds p rfl rfl hr ⟨hs, p', q, rfl, hO, hz, h1, h2, hp⟩
    have nd := sc_direction_range.nd
    dsimp only [iniL, iniN, List.tail]
    unfold dirRange at hp
    refine sw_cons (s1_if (tv_val (ev_fn (k_is_empty E T) hr (by decide) (evs_one (ev_var 0 rfl)) ⟨hs, rfl, hO, hz, rfl⟩)) (fun ht => ?_) fun ht => ?_)
    all_goals (try dsimp only [List.set])
    · rw [if_pos ht] at hp
      exact sw_one (s1_ret (EV.r ev_non) hp)
    · rw [if_neg (by rw [ht]; exact Bool.false_ne_true)] at hp
      exact sw_nil (sw_one (s1_ret (EV.r (ev_tup (evs_cons (ev_fn (k_infimum E) hr (by decide) (evs_cons (ev_var 0 rfl) (evs_cons (ev_var 1 rfl) (evs_one (ev_var 2 rfl)))) ⟨hs, p', q, rfl, hO, hz, h1, h2, rfl⟩) (evs_one (ev_fn (k_supremum E) hr (by decide) (evs_cons (ev_var 0 rfl) (evs_cons (ev_var 1 rfl) (evs_one (ev_var 2 rfl)))) ⟨hs, p', q, rfl, hO, hz, h1, h2, rfl⟩))))) hp)))
theorem sc_line_of : FnScope ["half_planes", "one"] ["half_planes"] (defScope (top 49)) := ⟨rfl, rfl, rfl, by decide +kernel, rfl, by decide +kernel, by decide +kernel⟩
def pm_line_of : Pm := fun ds p => ∃ hs : List Pl, ds = [.list (hs.map pl)] ∧ (∀ h ∈ hs, PO h) ∧ hs.length ≤ 40 ∧ p (opl (lineOf hs))
theorem k_line_of (E : Hd K mg) : Kn P w K mg base "line_of" [] 10 (spD K W 1 pm_line_of) :=
  kn_mk 37 E rfl rfl (fun _ _ _ _ _ _ us hl => match us, hl with | [_], _ => rfl) fun f fd F => fn_mk F sc_line_of (by
    rintro X C cdv A outer s H E' P0 ds p rfl rfl hr ⟨hs, rfl, hO, hz, hp⟩
    have nd := sc_line_of.nd
    dsimp only [iniL, iniN, List.tail]
    refine sw_cons (s1_for pl hs (iv_lst (ev_var 0 rfl)) (fun i Γ => ∃ v, Γ = [.pu (.list (hs.map pl)), v] ∧ lineOf hs = (hs.drop i).find? fun h => decide (infi hs (h.p : Rat) (h.q : Rat) = some (h.r : Rat))) ⟨_, rfl, rfl⟩ ?_ ?_)
    all_goals (try dsimp only [List.set])
    · rintro i x _ hx ⟨v, rfl, hl⟩
      have ox := hO x (List.mem_of_getElem? hx)
      rw [drop_at hx, List.find?_cons] at hl
      refine ⟨_, _, gv_name 1 nd, ?_⟩
      try dsimp only [List.set]
      refine sw_one (s1_if ((tv_eqD hr (ev_fn (k_infimum E) hr (by decide) (evs_cons (ev_var 0 rfl) (evs_cons (eq_int E hr (ev_p0 (ev_var 1 rfl)) ox.b.p).ev (evs_one (eq_int E hr (ev_p1 (ev_var 1 rfl)) ox.b.q).ev))) ⟨hs, (x.p : Rat), (x.q : Rat), rfl, hO, hz, ox.dp, ox.dq, rfl⟩) (eq_int E hr (ev_p2 (ev_var 1 rfl)) ox.b.r).ev (flat_of (flat_ofr _)) rfl).is (eqv_ofr _ _)) (fun ht => ?_) fun ht => ?_)
      all_goals (try dsimp only [List.set])
      · rw [ht] at hl
        rw [hl] at hp
        exact sw_one (s1_ret (EV.r (ev_var 1 rfl)) hp)
      · rw [ht] at hl
        exact sw_nil ⟨_, rfl, hl⟩
    · rintro _ ⟨v, rfl, hl⟩
      rw [List.drop_length] at hl
      rw [hl] at hp
      exact sw_one (s1_ret (EV.r ev_non) hp))
theorem lineOf_mem {hs : List Pl} {l : Pl} (h : lineOf hs = some l) : l ∈ hs := List.mem_of_find?_eq_some h
theorem sc_region_kind : FnScope ["half_planes", "line", "lower", "upper"] ["half_planes"] (defScope (top 50)) := ⟨rfl, rfl, rfl, by decide +kernel, rfl, by decide +kernel, by decide +kernel⟩
def pm_region_kind : Pm := fun ds p => ∃ hs : List Pl, ds = [.list (hs.map pl)] ∧ (∀ h ∈ hs, PO h) ∧ hs.length ≤ 40 ∧ p (.str (kindS (kindOf hs)))
theorem k_region_kind (E : Hd K mg) (T : Tabs W base mg K) : Kn P w K mg base "region_kind" [] 11 (spD K W 1 pm_region_kind) :=
  kn_mk 38 E rfl rfl (fun _ _ _ _ _ _ us hl => match us, hl with | [_], _ => rfl) fun f fd F => fn_mk F sc_region_kind (by
    rintro X C cdv A outer s H E' P0 ds p rfl rfl hr ⟨hs, rfl, hO, hz, hp⟩
    have nd := sc_region_kind.nd
    dsimp only [iniL, iniN, List.tail]
    unfold kindOf at hp
    refine sw_cons (s1_if (tv_val (ev_fn (k_is_empty E T) hr (by decide) (evs_one (ev_var 0 rfl)) ⟨hs, rfl, hO, hz, rfl⟩)) (fun ht => ?_) fun ht => ?_)
    all_goals (try dsimp only [List.set])
    · rw [if_pos ht] at hp
      exact sw_one (s1_ret (EV.r ev_str) hp)
    have hne : ¬ isEmp hs = true := by rw [ht]; exact Bool.false_ne_true
    rw [if_neg hne] at hp
    refine sw_nil (sw_cons (s1_set 1 nd (ev_fn (k_line_of E) hr (by decide) (evs_one (ev_var 0 rfl)) ⟨hs, rfl, hO, hz, rfl⟩) ?_))
    all_goals (try dsimp only [List.set])
    cases e : lineOf hs with
    | none =>
      rw [e] at hp
      exact sw_cons (s1_take (tv_isN (ev_var 1 rfl)) rfl (sw_one (s1_ret (EV.r ev_str) hp)))
    | some l =>
      rw [e] at hp
      have ol := hO l (lineOf_mem e)
      refine sw_cons (s1_skip (tv_isN (ev_var 1 rfl)) rfl (sw_nil ?_))
      all_goals (try dsimp only [List.set])
      have hdr : dirRange hs ((-l.q : Int) : Rat) (l.p : Rat) = some (infi hs ((-l.q : Int) : Rat) (l.p : Rat), supr hs ((-l.q : Int) : Rat) (l.p : Rat)) := if_neg hne
      simp only at hp
      generalize infi hs ((-l.q : Int) : Rat) (l.p : Rat) = lo at hp hdr
      generalize supr hs ((-l.q : Int) : Rat) (l.p : Rat) = hi at hp hdr
      refine sw_cons (s1_asg (EV.is (ev_fn (k_direction_range E T) hr (by decide) (evs_cons (ev_var 0 rfl) (evs_cons (eq_int (n := 300) E hr (ev_neg (ev_p1 (ev_var 1 rfl))) (by rw [Int.natAbs_neg]; exact ol.b.q)).ev (evs_one (eq_int E hr (ev_p0 (ev_var 1 rfl)) ol.b.p).ev))) ⟨hs, _, _, rfl, hO, hz, ol.dnq, ol.dp, rfl⟩) (by rw [hdr]; rfl)) (gv_tup (gvs_cons (gv_name 2 nd) (gvs_cons (gv_name 3 nd) gvs_nil))) ?_)
      all_goals (try dsimp only [List.set])
      try dsimp only [List.set]
      refine sw_cons (s1_if (TW.tv (tw_and (tv_isN (ev_var 2 rfl)) fun _ => tw_and1 (tv_isN (ev_var 3 rfl)))) (fun ht => ?_) fun ht => ?_)
      all_goals (try dsimp only [List.set])
      · cases lo with
        | some x => cases ht
        | none =>
          cases hi with
          | some x => cases ht
          | none => exact sw_one (s1_ret (EV.r ev_str) hp)
      refine sw_nil (sw_cons (s1_if (TW.tv (tw_or (tv_isN (ev_var 2 rfl)) fun _ => tw_or1 (tv_isN (ev_var 3 rfl)))) (fun ht2 => ?_) fun ht2 => ?_))
      all_goals (try dsimp only [List.set])
      · cases lo with
        | some x =>
          cases hi with
          | some y => cases ht2
          | none => exact sw_one (s1_ret (EV.r ev_str) hp)
        | none =>
          cases hi with
          | some x => exact sw_one (s1_ret (EV.r ev_str) hp)
          | none => cases ht
      cases lo with
      | none => cases ht2
      | some x =>
        cases hi with
        | none => cases ht2
        | some y =>
          have hp' : p (.str (kindS (if x = y then Kind.point else Kind.segment))) := hp
          refine sw_nil (sw_cons (s1_if (tv_eqQ (x := x) (y := y) hr (ev_var 2 rfl) (ev_var 3 rfl)) (fun ht => ?_) fun ht => ?_))
          all_goals (try dsimp only [List.set])
          · rw [if_pos (of_decide_eq_true ht)] at hp'
            exact sw_one (s1_ret (EV.r ev_str) hp')
          · rw [if_neg (of_decide_eq_false ht)] at hp'
            exact sw_nil (sw_one (s1_ret (EV.r ev_str) hp')))
theorem sc_is_implied : FnScope ["half_planes", "half_plane", "bound"] ["half_planes", "half_plane"] (defScope (top 53)) := ⟨rfl, rfl, rfl, by decide +kernel, rfl, by decide +kernel, by decide +kernel⟩
def pm_is_implied : Pm := fun ds p => ∃ (hs : List Pl) (h : Pl), ds = [.list (hs.map pl), pl h] ∧ (∀ h ∈ hs, PO h) ∧ hs.length ≤ 40 ∧ PO h ∧ p (.bool (implied hs h))
theorem k_is_implied (E : Hd K mg) (T : Tabs W base mg K) : Kn P w K mg base "is_implied" [] 9 (spD K W 2 pm_is_implied) :=
  kn_mk 39 E rfl rfl (fun _ _ _ _ _ _ us hl => match us, hl with | [_, _], _ => rfl) fun f fd F => fn_mk F sc_is_implied (by
    rintro X C cdv A outer s H E' P0 ds p rfl rfl hr ⟨hs, h, rfl, hO, hz, oh, hp⟩
    have nd := sc_is_implied.nd
    dsimp only [iniL, iniN, List.tail]
    unfold implied at hp
    refine sw_cons (s1_if (tv_val (ev_fn (k_is_empty E T) hr (by decide) (evs_one (ev_var 0 rfl)) ⟨hs, rfl, hO, hz, rfl⟩)) (fun ht => ?_) fun ht => ?_)
    all_goals (try dsimp only [List.set])
    · rw [ht, Bool.true_or] at hp
      exact sw_one (s1_ret (EV.r ev_bl) hp)
    rw [ht, Bool.false_or] at hp
    refine sw_nil (sw_cons (s1_set 2 nd (ev_fn (k_supremum E) hr (by decide) (evs_cons (ev_var 0 rfl) (evs_cons (eq_int E hr (ev_p0 (ev_var 1 rfl)) oh.b.p).ev (evs_one (eq_int E hr (ev_p1 (ev_var 1 rfl)) oh.b.q).ev))) ⟨hs, (h.p : Rat), (h.q : Rat), rfl, hO, hz, oh.dp, oh.dq, rfl⟩) ?_))
    all_goals (try dsimp only [List.set])
    cases e : supr hs (h.p : Rat) (h.q : Rat) with
    | none =>
      rw [e] at hp
      exact sw_one (s1_ret (EV.r (ev_and (y := false) (ev_notN (ev_var 2 rfl)) fun h => by cases h)) hp)
    | some b =>
      rw [e] at hp
      exact sw_one (s1_ret (EV.r (ev_and (ev_notN (ev_var 2 rfl)) fun _ => ev_one (ev_le (ev_cmpQ E hr ⟨ev_var 2 rfl, supr_b hO oh.dp oh.dq e⟩ (eq_int E hr (ev_p2 (ev_var 1 rfl)) oh.b.r)) ev_int))) hp))
theorem sc_planes_of : FnScope ["train", "edge", "half_plane"] ["train"] (defScope (top 55)) := ⟨rfl, rfl, rfl, by decide +kernel, rfl, by decide +kernel, by decide +kernel⟩
def pm_planes_of : Pm := fun ds p => ∃ t : List El, ds = [.list (t.map el)] ∧ TrW t ∧ p (.list ((planes t).map pl))
theorem k_planes_of (E : Hd K mg) : Kn P w K mg base "planes_of" [] 7 (spD K W 1 pm_planes_of) :=
  kn_mk 40 E rfl rfl (fun _ _ _ _ _ _ us hl => match us, hl with | [_], _ => rfl) fun f fd F => fn_mk F sc_planes_of (by
    rintro X C cdv A outer s H E' P0 ds p rfl rfl hr ⟨t, rfl, hT, hp⟩
    have nd := sc_planes_of.nd
    dsimp only [iniL, iniN, List.tail]
    have hl := hpTo_len t t.length
    have hl2 := hT.len
    have e : (planes t).map pl = (hps t).map fun z => pl z.2 := by unfold planes; rw [List.map_map]; rfl
    rw [e] at hp
    exact sw_one (s1_ret (EV.r (EVL.ev (evl_lc (own := [("edge", 1), ("half_plane", 2)]) edp (fun z => pl z.2) (hps t) nd (iv_lst (ev_fn (k_half_planes_of E) hr (by decide) (evs_one (ev_var 0 rfl)) ⟨t, rfl, hT.b, rfl⟩)) (blkOk_by rfl) (by unfold hps; omega) (fun z hz => ⟨_, _, by decide, fun s H Ca cl fp => gv_tup (gvs_cons (gv_name 1 nd) (gvs_cons (gv_name 2 nd) gvs_nil)), fun s H Ca cl fp => ev_var 2 rfl⟩)))) hp))
theorem inOrder_po {hs : List Pl} (hO : ∀ h ∈ hs, PO h) : ∀ h ∈ inOrder hs, PO h := fun h hh => hO h (inOrder_mem.mp hh)
theorem sc_needed : FnScope ["half_planes", "different", "found", "half_plane", "others", "one"] ["half_planes"] (defScope (top 56)) := ⟨rfl, rfl, rfl, by decide +kernel, rfl, by decide +kernel, by decide +kernel⟩
def pm_needed : Pm := fun ds p => ∃ hs : List Pl, ds = [.list (hs.map pl)] ∧ (∀ h ∈ hs, PO h) ∧ hs.length ≤ 40 ∧ p (.list ((neededOf hs).map pl))
theorem k_needed (E : Hd K mg) (T : Tabs W base mg K) : Kn P w K mg base "needed" [] 10 (spD K W 1 pm_needed) :=
  kn_mk 41 E rfl rfl (fun _ _ _ _ _ _ us hl => match us, hl with | [_], _ => rfl) fun f fd F => fn_mk F sc_needed (by
    rintro X C cdv A outer s H E' P0 ds p rfl rfl hr ⟨hs, rfl, hO, hz, hp⟩
    have nd := sc_needed.nd
    dsimp only [iniL, iniN, List.tail]
    have hlen := inOrder_len hs
    have hO' := inOrder_po hO
    refine sw_cons (s1_set 1 nd (ev_fn (k_in_order E) hr (by decide) (evs_one (ev_var 0 rfl)) ⟨hs, rfl, hO, by omega, rfl⟩) ?_)
    all_goals (try dsimp only [List.set])
    refine sw_cons (s1_own 2 nd (evl_lst evs_nil) ?_)
    all_goals (try dsimp only [List.set])
    unfold neededOf at hp
    generalize inOrder hs = ds at hlen hO' hp ⊢
    refine sw_cons (s1_for pl ds (iv_lst (ev_var 1 rfl)) (fun i Γ => ∃ v u q, Γ = [.pu (.list (hs.map pl)), .pu (.list (ds.map pl)), .ow (((ds.take i).filter fun h => !implied (ds.filter fun o => decide (o ≠ h)) h).map pl), v, u, q]) ⟨_, _, _, rfl⟩ ?_ ?_)
    all_goals (try dsimp only [List.set])
    · rintro i h _ hx ⟨v, u, q, rfl⟩
      have hm := List.mem_of_getElem? hx
      have ht : ds.take (i + 1) = ds.take i ++ [h] := by rw [List.take_succ, hx]; rfl
      refine ⟨_, _, gv_name 3 nd, ?_⟩
      try dsimp only [List.set]
      refine sw_cons (s1_lcIf 4 [("one", 5)] pl (fun o => !decide (o = h)) pl ds nd (iv_lst (ev_var 1 rfl)) (blkOk_by rfl) (by omega) (fun o ho => ⟨_, _, by decide, fun s H Ca cl fp => gv_name 5 nd, fun s H Ca cl fp => tv_neE eqv_pl flat_pl hr (ev_var 5 rfl) (ev_var 3 rfl), fun _ s H Ca cl fp => ev_var 5 rfl⟩) ?_)
      all_goals (try dsimp only [List.set])
      try dsimp only [List.set]
      refine sw_freeze 4 rfl ?_
      try dsimp only [List.set]
      have ef : (ds.filter fun o => !decide (o = h)) = ds.filter fun o => decide (o ≠ h) := by congr 1; funext o; simp
      rw [ef]
      have hfl := List.length_filter_le (fun o => decide (o ≠ h)) ds
      refine sw_one (s1_if (tv_not (tv_val (ev_fn (k_is_implied E T) hr (by decide) (evs_cons (ev_var 4 rfl) (evs_one (ev_var 3 rfl))) ⟨ds.filter fun o => decide (o ≠ h), h, rfl, fun x hx => hO' x (List.mem_filter.mp hx).1, by omega, hO' h hm, rfl⟩))) (fun hn => ?_) fun hn => ?_)
      all_goals (try dsimp only [List.set])
      · refine sw_one (s1_append 2 rfl (ev_var 3 rfl) ⟨.pu (pl h), .pu (.list ((ds.filter fun o => decide (o ≠ h)).map pl)), q, ?_⟩ ?_)
        all_goals (try dsimp only [List.set])
        · rw [ht, List.filter_append, List.filter_cons, if_pos hn, List.map_append]
          rfl
        · rw [List.length_map]
          have := List.length_filter_le (fun h => !implied (ds.filter fun o => decide (o ≠ h)) h) (ds.take i)
          rw [List.length_take] at this
          omega
      · refine sw_nil ⟨.pu (pl h), .pu (.list ((ds.filter fun o => decide (o ≠ h)).map pl)), q, ?_⟩
        rw [ht, List.filter_append, List.filter_cons, if_neg (by rw [hn]; exact Bool.false_ne_true), List.filter_nil, List.append_nil]
    · rintro _ ⟨v, u, q, rfl⟩
      rw [List.take_length]
      exact sw_one (s1_ret (evr_own 2 rfl) hp))
theorem sc_canonical_half_planes : FnScope ["half_planes", "kind"] ["half_planes"] (defScope (top 60)) := ⟨rfl, rfl, rfl, by decide +kernel, rfl, by decide +kernel, by decide +kernel⟩
def pm_canonical_half_planes : Pm := fun ds p => ∃ hs : List Pl, ds = [.list (hs.map pl)] ∧ (∀ h ∈ hs, PO h) ∧ hs.length ≤ 40 ∧ kindOf hs = .area ∧ p (.list ((neededOf hs).map pl))
theorem k_canonical_half_planes (E : Hd K mg) (T : Tabs W base mg K) : Kn P w K mg base "canonical_half_planes" [] 12 (spD K W 1 pm_canonical_half_planes) :=
  kn_mk 42 E rfl rfl (fun _ _ _ _ _ _ us hl => match us, hl with | [_], _ => rfl) fun f fd F => fn_mk F sc_canonical_half_planes (by
    rintro X C cdv A outer s H E' P0 ds p rfl rfl hr ⟨hs, rfl, hO, hz, hk, hp⟩
    have nd := sc_canonical_half_planes.nd
    dsimp only [iniL, iniN, List.tail]
    refine sw_cons (s1_set 1 nd (EV.is (ev_fn (k_region_kind E T) hr (by decide) (evs_one (ev_var 0 rfl)) ⟨hs, rfl, hO, hz, rfl⟩) (by rw [hk])) ?_)
    all_goals (try dsimp only [List.set])
    refine sw_cons (s1_skip (tv_eqS (ev_var 1 rfl) ev_str) rfl (sw_nil ?_))
    all_goals (try dsimp only [List.set])
    exact sw_cons (s1_take (tv_eqS (ev_var 1 rfl) ev_str) rfl (sw_one (s1_ret (EV.r (ev_fn (k_needed E T) hr (by decide) (evs_one (ev_var 0 rfl)) ⟨hs, rfl, hO, hz, rfl⟩)) hp))))
end
end RT
end
section
set_option Elab.async false
set_option linter.all false
set_option maxRecDepth 100000
set_option maxHeartbeats 4000000
set_option exponentiation.threshold 20000
/-! B10: trains made smaller. -/
namespace RT
open PySem PySem.Spec PyProof.Rows L2
theorem flat_el (e : El) : flat (el e) := by
  cases e with
  | stop lo hi =>
    cases lo <;> cases hi <;> refine ⟨?_, Nat.le_of_ble_eq_true rfl⟩ <;> simp only [el, PyData.canLay0, PyData.canLayAll0, fr, ofr, Bool.and_true, Bool.true_and] <;> decide +kernel
  | _ =>
    refine ⟨?_, Nat.le_of_ble_eq_true rfl⟩
    simp only [el, PyData.canLay0, PyData.canLayAll0, fr, ofr, Bool.and_true, Bool.true_and]
    decide +kernel
theorem atI_cons {d : PD} {ds : List PD} : L2.atI (d :: ds) 0 = some d := by
  have := atI_nat (en := fun x : PD => x) (xs := d :: ds) (i := 0) rfl
  simpa using this
theorem axes_len (hs : List Pl) : (axesOf hs).length ≤ hs.length := by
  have : ∀ (hs fs : List Pl), (hs.foldl axAdd fs).length ≤ fs.length + hs.length := by
    intro hs
    induction hs with
    | nil => intro fs; simp
    | cons h hs ih =>
      intro fs
      rw [List.foldl_cons, List.length_cons]
      have h1 := ih (axAdd fs h)
      have h2 : (axAdd fs h).length ≤ fs.length + 1 := by
        unfold axAdd
        split
        · simp
        · omega
      omega
  have := this hs []
  rwa [List.length_nil, Nat.zero_add] at this
theorem axes_mem {hs : List Pl} : ∀ x ∈ axesOf hs, x ∈ hs := by
  have : ∀ (hs fs : List Pl), ∀ x ∈ hs.foldl axAdd fs, x ∈ fs ∨ x ∈ hs := by
    intro hs
    induction hs with
    | nil => intro fs x hx; exact .inl hx
    | cons h hs ih =>
      intro fs x hx
      rcases ih _ x hx with z | z
      · unfold axAdd at z
        split at z
        · rcases List.mem_append.mp z with y | y
          · exact .inl y
          · rw [List.mem_singleton] at y; subst y; exact .inr List.mem_cons_self
        · exact .inl z
      · exact .inr (List.mem_cons_of_mem _ z)
  intro x hx
  rcases this hs [] x hx with z | z
  · cases z
  · exact z
theorem needed_mem {hs : List Pl} : ∀ x ∈ neededOf hs, x ∈ hs := fun x hx => inOrder_mem.mp (List.mem_filter.mp hx).1
theorem needed_len (hs : List Pl) : (neededOf hs).length ≤ hs.length := Nat.le_trans (List.length_filter_le _ _) (inOrder_len hs)
section
variable {P : Program} {w : World} {K : PySem.W.Frag} {mg : Str → Option Value} {base : Heap} {W : Wo}
theorem sc_without_edge : FnScope ["train", "edge", "index", "side", "stop"] ["train", "edge"] (defScope (top 61)) := ⟨rfl, rfl, rfl, by decide +kernel, rfl, by decide +kernel, by decide +kernel⟩
def pm_without_edge : Pm := fun ds p => ∃ (t : List El) (e : Ed) (lo hi : Option Rat), ds = [.list (t.map el), ed e] ∧ t[e.i]? = some (.stop lo hi) ∧ t.length ≤ 1000 ∧ p (.list ((woEdge t e).map el))
theorem k_without_edge (E : Hd K mg) : Kn P w K mg base "without_edge" [] 1 (spD K W 2 pm_without_edge) :=
  kn_mk 43 E rfl rfl (fun _ _ _ _ _ _ us hl => match us, hl with | [_, _], _ => rfl) fun f fd F => fn_mk F sc_without_edge (by
    rintro X C cdv A outer s H E' P0 ds p rfl rfl hr ⟨t, e, lo, hi, rfl, he, hz, hp⟩
    have nd := sc_without_edge.nd
    dsimp only [iniL, iniN, List.tail]
    have hlt := (List.getElem?_eq_some_iff.mp he).1
    rw [woEdge_at he, List.map_append, List.map_append, List.map_take, List.map_drop] at hp
    obtain ⟨i, up⟩ := e
    simp only at he hp hlt
    refine sw_cons (s1_asg (ev_var 1 rfl) (gv_tup (gvs_cons (gv_name 2 nd) (gvs_cons (gv_name 3 nd) gvs_nil))) ?_)
    all_goals (try dsimp only [List.set])
    try dsimp only [List.set]
    refine sw_cons (s1_set 4 nd (ev_ixL (ev_var 0 rfl) (ev_var 2 rfl) (atI_nat he)) ?_)
    all_goals (try dsimp only [List.set])
    try dsimp only [List.set]
    have l1 := List.length_take_le i (t.map el)
    have l2 : ((t.map el).drop (i + 1)).length ≤ 1000 := by rw [List.length_drop, List.length_map]; omega
    have l3 : ((t.map el).take i).length ≤ 1000 := by rw [List.length_take, List.length_map]; omega
    cases up with
    | false =>
      refine sw_cons (s1_take (tv_eqS (ev_var 3 rfl) ev_str) rfl (sw_one (s1_ret (EV.r (ev_cat (ev_cat (EV.is (ev_slice (ev_var 0 rfl) evo_none (evo_some (ev_var 2 rfl))) (by rw [cutD_take])) (ev_lst (evs_one (ev_tup (evs_cons ev_str (evs_cons ev_non (evs_one (ev_ixT (ev_var 4 rfl) ev_int rfl))))))) ?_) (EV.is (ev_slice (ev_var 0 rfl) (evo_some (EV.is (ev_add (ev_var 2 rfl) ev_int) (by show PyData.int ((i : Int) + 1) = .int ((i + 1 : Nat) : Int); simp))) evo_none) (by rw [cutD_drop])) ?_)) hp)))
      · simp only [List.length_cons, List.length_nil]; omega
      · simp only [List.length_append, List.length_cons, List.length_nil]; omega
    | true =>
      refine sw_cons (s1_skip (tv_eqS (ev_var 3 rfl) ev_str) rfl (sw_nil (sw_one (s1_ret (EV.r (ev_cat (ev_cat (EV.is (ev_slice (ev_var 0 rfl) evo_none (evo_some (ev_var 2 rfl))) (by rw [cutD_take])) (ev_lst (evs_one (ev_tup (evs_cons ev_str (evs_cons (ev_ixT (ev_var 4 rfl) ev_int rfl) (evs_one ev_non)))))) ?_) (EV.is (ev_slice (ev_var 0 rfl) (evo_some (EV.is (ev_add (ev_var 2 rfl) ev_int) (by show PyData.int ((i : Int) + 1) = .int ((i + 1 : Nat) : Int); simp))) evo_none) (by rw [cutD_drop])) ?_)) hp))))
      · simp only [List.length_cons, List.length_nil]; omega
      · simp only [List.length_append, List.length_cons, List.length_nil]; omega)
theorem sc_is_redundant : FnScope ["train", "edge", "half_plane", "others"] ["train", "edge", "half_plane"] (defScope (top 62)) := ⟨rfl, rfl, rfl, by decide +kernel, rfl, by decide +kernel, by decide +kernel⟩
def pm_is_redundant : Pm := fun ds p => ∃ (t : List El) (z : Ed × Pl), ds = [.list (t.map el), ed z.1, pl z.2] ∧ TrW t ∧ z ∈ hps t ∧ p (.bool (isRed t z))
theorem k_is_redundant (E : Hd K mg) (T : Tabs W base mg K) : Kn P w K mg base "is_redundant" [] 10 (spD K W 3 pm_is_redundant) :=
  kn_mk 44 E rfl rfl (fun _ _ _ _ _ _ us hl => match us, hl with | [_, _, _], _ => rfl) fun f fd F => fn_mk F sc_is_redundant (by
    rintro X C cdv A outer s H E' P0 ds p rfl rfl hr ⟨t, z, rfl, hT, hz, hp⟩
    have nd := sc_is_redundant.nd
    dsimp only [iniL, iniN, List.tail]
    obtain ⟨lo, hi, he, _⟩ := mem_hps hz
    have hW := hT.wo he
    have hl := hT.len
    have hpl := hW.plen
    unfold isRed at hp
    refine sw_cons (s1_set 3 nd (ev_fn (k_planes_of E) hr (by decide) (evs_one (ev_fn (k_without_edge E) hr (by decide) (evs_cons (ev_var 0 rfl) (evs_one (ev_var 1 rfl))) ⟨t, z.1, lo, hi, rfl, he, by omega, rfl⟩)) ⟨_, rfl, hW, rfl⟩) ?_)
    all_goals (try dsimp only [List.set])
    exact sw_one (s1_ret (EV.r (ev_or (ev_fn (k_is_empty E T) hr (by decide) (evs_one (ev_var 3 rfl)) ⟨_, rfl, hW.po', by omega, rfl⟩) fun _ => ev_one (ev_fn (k_is_implied E T) hr (by decide) (evs_cons (ev_var 3 rfl) (evs_one (ev_var 2 rfl))) ⟨_, z.2, rfl, hW.po', by omega, hT.po z hz, rfl⟩))) hp))
theorem sc_redundant_edges : FnScope ["train", "edge", "half_plane"] ["train"] (defScope (top 63)) := ⟨rfl, rfl, rfl, by decide +kernel, rfl, by decide +kernel, by decide +kernel⟩
def pm_redundant_edges : Pm := fun ds p => ∃ t : List El, ds = [.list (t.map el)] ∧ TrW t ∧ p (.list ((redEdges t).map ed))
theorem k_redundant_edges (E : Hd K mg) (T : Tabs W base mg K) : Kn P w K mg base "redundant_edges" [] 11 (spD K W 1 pm_redundant_edges) :=
  kn_mk 45 E rfl rfl (fun _ _ _ _ _ _ us hl => match us, hl with | [_], _ => rfl) fun f fd F => fn_mk F sc_redundant_edges (by
    rintro X C cdv A outer s H E' P0 ds p rfl rfl hr ⟨t, rfl, hT, hp⟩
    have nd := sc_redundant_edges.nd
    dsimp only [iniL, iniN, List.tail]
    have hl := hpTo_len t t.length
    have hl2 := hT.len
    have e : (redEdges t).map ed = ((hps t).filter (isRed t)).map fun z => ed z.1 := by unfold redEdges; rw [List.map_map]; rfl
    rw [e] at hp
    exact sw_one (s1_ret (EV.r (EVL.ev (evl_lcIf (own := [("edge", 1), ("half_plane", 2)]) edp (isRed t) (fun z => ed z.1) (hps t) nd (iv_lst (ev_fn (k_half_planes_of E) hr (by decide) (evs_one (ev_var 0 rfl)) ⟨t, rfl, hT.b, rfl⟩)) (blkOk_by rfl) (by unfold hps; omega) (fun z hz => ⟨_, _, by decide, fun s H Ca cl fp => gv_tup (gvs_cons (gv_name 1 nd) (gvs_cons (gv_name 2 nd) gvs_nil)), fun s H Ca cl fp => tv_val (ev_fn (k_is_redundant E T) hr (by decide) (evs_cons (ev_var 0 rfl) (evs_cons (ev_var 1 rfl) (evs_one (ev_var 2 rfl)))) ⟨t, z, rfl, hT, hz, rfl⟩), fun _ s H Ca cl fp => ev_var 1 rfl⟩)))) hp))
theorem sc_simplify : FnScope ["train", "found", "edges", "element"] ["train"] (defScope (top 64)) := ⟨rfl, rfl, rfl, by decide +kernel, rfl, by decide +kernel, by decide +kernel⟩
def pm_simplify : Pm := fun ds p => ∃ t : List El, ds = [.list (t.map el)] ∧ TrW t ∧ p (.list ((simplOf t).map el))
theorem k_simplify (E : Hd K mg) (T : Tabs W base mg K) : Kn P w K mg base "simplify" [] 12 (spD K W 1 pm_simplify) :=
  kn_mk 46 E rfl rfl (fun _ _ _ _ _ _ us hl => match us, hl with | [_], _ => rfl) fun f fd F => fn_mk F sc_simplify (by
    rintro X C cdv A outer s H E' P0 ds p rfl rfl hr ⟨t, rfl, hT, hp⟩
    have nd := sc_simplify.nd
    dsimp only [iniL, iniN, List.tail]
    refine sw_cons (s1_own 1 nd (evl_list (E.free "list" (by simp)) (ev_var 0 rfl)) ?_)
    all_goals (try dsimp only [List.set])
    refine sw_freeze 1 rfl ?_
    try dsimp only [List.set]
    refine sw_cons (s1_set 2 nd (ev_fn (k_redundant_edges E T) hr (by decide) (evs_one (ev_var 1 rfl)) ⟨t, rfl, hT, rfl⟩) ?_)
    all_goals (try dsimp only [List.set])
    refine sw_cons (s1_while (fun m Γ => ∃ u, TrW u ∧ (hps u).length = m ∧ simpl u = simpl t ∧ Γ = [.pu (.list (t.map el)), .pu (.list (u.map el)), .pu (.list ((redEdges u).map ed)), .no]) (hps t).length ⟨t, hT, rfl, rfl, rfl⟩ ?_)
    all_goals (try dsimp only [List.set])
    rintro m _ ⟨u, hU, hm, hs, rfl⟩
    refine ⟨_, tv_lst (ev_var 2 rfl), fun ht => ?_, fun ht => ?_⟩
    · cases e : redEdges u with
      | nil => rw [e] at ht; cases ht
      | cons x xs =>
        obtain ⟨z, hz, hzx, _⟩ := redEdges_mem (t := u) (e := x) (by rw [e]; exact List.mem_cons_self)
        subst hzx
        obtain ⟨lo, hi, he, _⟩ := mem_hps hz
        obtain ⟨s1, s2⟩ := simpl_cons e
        have hl := hU.len
        refine sw_cons (s1_set 1 nd (ev_fn (k_without_edge E) hr (by decide) (evs_cons (ev_var 1 rfl) (evs_one (ev_ixL (ev_var 2 rfl) ev_int atI_cons))) ⟨u, z.1, lo, hi, rfl, he, by omega, rfl⟩) ?_)
        all_goals (try dsimp only [List.set])
        try dsimp only [List.set]
        refine sw_one (s1_set 2 nd (ev_fn (k_redundant_edges E T) hr (by decide) (evs_one (ev_var 1 rfl)) ⟨_, rfl, hU.wo he, rfl⟩) ⟨_, by rw [← hm]; exact s2, _, hU.wo he, rfl, by rw [← s1]; exact hs, rfl⟩)
    · have e : redEdges u = [] := by
        cases q : redEdges u with
        | nil => rfl
        | cons x xs => rw [q] at ht; cases ht
      have hl := hU.len
      have hu : simplOf t = u.filter fun e => decide (e ≠ .stop none none) := by unfold simplOf; rw [← hs, simpl_nil e]
      rw [hu] at hp
      have ef : (u.filter fun e => decide (e ≠ .stop none none)) = u.filter fun e => !decide (e = .stop none none) := by congr 1; funext x; simp
      rw [ef] at hp
      exact sw_one (s1_ret (EV.r (EVL.ev (evl_lcIf (own := [("element", 3)]) el (fun e => !decide (e = .stop none none)) el u nd (iv_lst (ev_var 1 rfl)) (blkOk_by rfl) (by omega) (fun x hx => ⟨_, _, by decide, fun s H Ca cl fp => gv_name 3 nd, fun s H Ca cl fp => TV.is (tv_cmp (op_neD hr.units) (rd_neD (d1 := el x) (d2 := el (.stop none none)) (flat_of (flat_el x)) (flat_of (flat_el _))) (ev_var 3 rfl) (ev_tup (evs_cons ev_str (evs_cons ev_non (evs_one ev_non))))) (by rw [eqv_stop]), fun _ s H Ca cl fp => ev_var 3 rfl⟩)))) hp))
theorem sc_minimum_stops : FnScope ["train", "half_planes", "kind", "axes", "half_plane", "axis"] ["train"] (defScope (top 65)) := ⟨rfl, rfl, rfl, by decide +kernel, rfl, by decide +kernel, by decide +kernel⟩
def pm_minimum_stops : Pm := fun ds p => ∃ t : List El, ds = [.list (t.map el)] ∧ TrW t ∧ p (.int (minStops (planes t) : Int))
theorem k_minimum_stops (E : Hd K mg) (T : Tabs W base mg K) : Kn P w K mg base "minimum_stops" [] 13 (spD K W 1 pm_minimum_stops) :=
  kn_mk 47 E rfl rfl (fun _ _ _ _ _ _ us hl => match us, hl with | [_], _ => rfl) fun f fd F => fn_mk F sc_minimum_stops (by
    rintro X C cdv A outer s H E' P0 ds p rfl rfl hr ⟨t, rfl, hT, hp⟩
    have nd := sc_minimum_stops.nd
    dsimp only [iniL, iniN, List.tail]
    have hO := hT.po'
    have hz := hT.plen
    refine sw_cons (s1_set 1 nd (ev_fn (k_planes_of E) hr (by decide) (evs_one (ev_var 0 rfl)) ⟨t, rfl, hT, rfl⟩) ?_)
    all_goals (try dsimp only [List.set])
    generalize planes t = hs at hO hz hp ⊢
    refine sw_cons (s1_set 2 nd (ev_fn (k_region_kind E T) hr (by decide) (evs_one (ev_var 1 rfl)) ⟨hs, rfl, hO, by omega, rfl⟩) ?_)
    all_goals (try dsimp only [List.set])
    unfold minStops at hp
    have key : ∀ k : Kind, decide (kindS k = ("line" : Str)) = decide (k = .line) ∧ decide (kindS k = ("area" : Str)) = decide (k = .area) := fun k => by cases k <;> exact ⟨rfl, rfl⟩
    refine sw_cons (s1_if ((tv_eqS (ev_var 2 rfl) ev_str).is (key _).1) (fun ht => ?_) fun ht => ?_)
    all_goals (try dsimp only [List.set])
    · rw [if_pos (of_decide_eq_true ht)] at hp
      exact sw_one (s1_ret (EV.r ev_int) hp)
    rw [if_neg (of_decide_eq_false ht)] at hp
    refine sw_nil (sw_cons (s1_if (TV.is (tv_cmp op_ne rd_neS (ev_var 2 rfl) ev_str) (by rw [(key _).2])) (fun ht => ?_) fun ht => ?_))
    all_goals (try dsimp only [List.set])
    · rw [if_pos (by simpa using ht)] at hp
      exact sw_one (s1_ret (EV.r ev_int) hp)
    have hk : kindOf hs = .area := by simpa using ht
    rw [if_neg (by simpa using ht)] at hp
    refine sw_nil (sw_cons (s1_own 3 nd (evl_lst evs_nil) ?_))
    all_goals (try dsimp only [List.set])
    have hnl := needed_len hs
    have hnm := @needed_mem hs
    refine sw_cons (s1_for pl (neededOf hs) (iv_lst (ev_fn (k_canonical_half_planes E T) hr (by decide) (evs_one (ev_var 1 rfl)) ⟨hs, rfl, hO, by omega, hk, rfl⟩)) (fun i Γ => ∃ v u, Γ = [.pu (.list (t.map el)), .pu (.list (hs.map pl)), .pu (.str (kindS (kindOf hs))), .ow ((axesOf ((neededOf hs).take i)).map pl), v, u]) ⟨_, _, rfl⟩ ?_ ?_)
    all_goals (try dsimp only [List.set])
    · rintro i h _ hx ⟨v, u, rfl⟩
      have hm := List.mem_of_getElem? hx
      have ht2 : axesOf ((neededOf hs).take (i + 1)) = axAdd (axesOf ((neededOf hs).take i)) h := by
        rw [List.take_succ, hx]; unfold axesOf; rw [List.foldl_append]; rfl
      have hal := axes_len ((neededOf hs).take i)
      have ham := @axes_mem ((neededOf hs).take i)
      rw [List.length_take] at hal
      rw [ht2]
      have hO2 : ∀ x ∈ axesOf ((neededOf hs).take i), PO x := fun x hx => hO x (hnm x (List.mem_of_mem_take (ham x hx)))
      generalize axesOf ((neededOf hs).take i) = ax at hal hO2 ⊢
      unfold axAdd
      refine ⟨_, _, gv_name 4 nd, ?_⟩
      try dsimp only [List.set]
      refine sw_one (s1_if (tv_not (tv_thaw 3 rfl (tv_lst (EVL.ev (evl_lcIf (own := [("axis", 5)]) pl (fun a => decide (det a h = 0)) pl ax nd (iv_lst (ev_var 3 rfl)) (blkOk_by rfl) (by omega) (fun a ha => ⟨_, _, by decide, fun s H Ca cl fp => gv_name 5 nd, fun s H Ca cl fp => tv_eqI (ev_fn (k_cross E) hr (by decide) (evs_cons (ev_var 5 rfl) (evs_one (ev_var 4 rfl))) ⟨a, h, rfl, (hO2 a ha).big, (hO h (hnm h hm)).big, rfl⟩) ev_int, fun _ s H Ca cl fp => ev_var 5 rfl⟩)))))) (fun hn => ?_) fun hn => ?_)
      all_goals (try dsimp only [List.set])
      · rw [Bool.not_not, List.isEmpty_map] at hn
        rw [if_pos hn]
        refine sw_one (s1_append 3 rfl (ev_var 4 rfl) ⟨.pu (pl h), u, ?_⟩ (by rw [List.length_map]; omega))
        rw [List.map_append]
        rfl
      · rw [Bool.not_not, List.isEmpty_map] at hn
        rw [if_neg (by rw [hn]; exact Bool.false_ne_true)]
        exact sw_nil ⟨_, _, rfl⟩
    · rintro _ ⟨v, u, rfl⟩
      rw [List.take_length]
      exact sw_one (s1_ret (EV.r (EV.is (ev_thaw 3 rfl (ev_len (E.free "len" (by simp)) (ev_var 3 rfl))) (by rw [List.length_map]))) hp))
end
end RT
end
section
set_option Elab.async false
set_option linter.all false
set_option maxRecDepth 100000
set_option maxHeartbeats 4000000
set_option exponentiation.threshold 20000
/-! B11: corners, areas. -/
namespace RT
open PySem PySem.Spec PyProof.Rows L2
/-- a half plane small enough for areas -/
structure PA (h : Pl) : Prop where
  o : PO h
  b : PlB 190 h
abbrev YB (z : Ray) : Prop := RB 382 381 z.1 ∧ RB 382 381 z.2
theorem detPA {f g : Pl} (hf : PA f) (hg : PA g) : (det f g).natAbs < 2 ^ 381 := det_lt hf.b.p hf.b.q hg.b.p hg.b.q
theorem meet_b {f g : Pl} {z : Ray} (hf : PA f) (hg : PA g) (h : meet f g = some z) : YB z := by
  unfold meet at h
  split at h
  · cases h
  · rename_i hd
    cases h
    have d := detPA hf hg
    exact ⟨RB.divInt (lt_mono (isub_lt (imul_lt hf.b.r hg.b.q) (imul_lt hg.b.r hf.b.q)) (by decide)) (Nat.le_of_lt d) hd, RB.divInt (lt_mono (isub_lt (imul_lt hf.b.p hg.b.r) (imul_lt hg.b.p hf.b.r)) (by decide)) (Nat.le_of_lt d) hd⟩
theorem eqv_ray (x y : Ray) : PyData.eqv (ray x) (ray y) = decide (x = y) := by
  have h : decide (x = y) = (decide (x.1 = y.1) && decide (x.2 = y.2)) := by
    rw [← Bool.decide_and]
    exact decide_eq_decide.mpr ⟨fun h => by subst h; exact ⟨rfl, rfl⟩, fun h => Prod.ext h.1 h.2⟩
  rw [h, ← eqv_fr, ← eqv_fr]
  simp only [ray, PyData.eqv, PyData.eqvAll, Bool.and_true]
theorem flat_ray (z : Ray) : flat (ray z) := ⟨rfl, Nat.le_of_ble_eq_true rfl⟩
theorem putIn_mem {rs : List Ray} {z x : Ray} (h : x ∈ putIn rs z) : x ∈ rs ∨ x = z := by
  unfold putIn insAt at h
  split at h
  · exact .inl h
  · rcases List.mem_append.mp h with h | h
    · rcases List.mem_append.mp h with h | h
      · exact .inl (List.mem_of_mem_take h)
      · exact .inr (List.mem_singleton.mp h)
    · exact .inl (List.mem_of_mem_drop h)
theorem putIn_len (rs : List Ray) (z : Ray) : (putIn rs z).length ≤ rs.length + 1 := by
  unfold putIn insAt
  split
  · omega
  · simp only [List.length_append, List.length_take, List.length_drop, List.length_cons, List.length_nil]; omega
def oray : Option Ray → PD
  | none => .none
  | some z => ray z
theorem turn_b {a b c : Ray} (ha : YB a) (hb : YB b) (hc : YB c) : RB 3060 3050 (turnOf a b c) :=
  (((hb.1.sub ha.1).mul (hc.2.sub ha.2)).sub ((hb.2.sub ha.2).mul (hc.1.sub ha.1))).mono (by decide) (by decide)
theorem corners_mem {hs : List Pl} (hA : ∀ h ∈ hs, PA h) : ∀ z ∈ cornersOf hs, YB z := by
  have : ∀ (os : List (Option Ray)) (fs : List Ray), (∀ o ∈ os, ∀ z, o = some z → YB z) → (∀ z ∈ fs, YB z) → ∀ z ∈ os.foldl (cornAdd hs) fs, YB z := by
    intro os
    induction os with
    | nil => intro fs _ hf; exact hf
    | cons o os ih =>
      intro fs ho hf
      refine ih _ (fun o' h' => ho o' (List.mem_cons_of_mem _ h')) fun z hz => ?_
      unfold cornAdd at hz
      cases o with
      | none => exact hf z hz
      | some y =>
        simp only at hz
        split at hz
        · rcases putIn_mem hz with e | e
          · exact hf z e
          · rw [e]; exact ho _ List.mem_cons_self y rfl
        · exact hf z hz
  refine this _ [] (fun o ho z hz => ?_) (fun z hz => by cases hz)
  obtain ⟨x, y, hx, hy, e⟩ := mem_pairsFrom ho
  exact meet_b (hA x hx) (hA y hy) (by rw [← e, hz])
theorem cornAdd_len (hs : List Pl) (fs : List Ray) (o : Option Ray) : (cornAdd hs fs o).length ≤ fs.length + 1 := by
  unfold cornAdd
  split
  · omega
  · split
    · exact putIn_len _ _
    · omega
theorem sIx_m1 {len d : Nat} : HT.sIx len d (some (-1)) = len - 1 := by
  unfold HT.sIx
  first
    | (simp; omega)
    | (split <;> simp_all <;> omega)
    | (simp <;> split <;> omega)
theorem cutD_mid {xs : List PD} : cutD xs (some ((1 : Nat) : Int)) (some (-1)) = (xs.drop 1).take (xs.length - 2) := by
  unfold cutD
  rw [sIx_nat, sIx_m1]
  rcases Nat.lt_or_ge xs.length 1 with h | h
  · have e : xs = [] := List.eq_nil_of_length_eq_zero (by omega)
    subst e; rfl
  · rw [Nat.min_eq_left h]
    congr 1
theorem atI_last {α : Type} {en : α → PD} {xs : List α} {d : α} (h : xs ≠ []) : L2.atI (xs.map en) (-1) = some (en (xs.getLastD d)) := by
  have hl : 0 < xs.length := List.length_pos_iff.mpr h
  have e : ixN (xs.map en).length (-1) = some (xs.length - 1) := by
    unfold ixN
    rw [List.length_map]
    first
      | (simp; omega)
      | (split <;> (try split) <;> simp_all <;> omega)
  unfold L2.atI
  rw [e]
  show (xs.map en)[xs.length - 1]? = _
  rw [List.getElem?_map, List.getLastD_eq_getLast?, List.getLast?_eq_getElem?, List.getElem?_eq_getElem (by omega)]
  rfl
section
variable {P : Program} {w : World} {K : PySem.W.Frag} {mg : Str → Option Value} {base : Heap} {W : Wo}
theorem sc_meeting : FnScope ["first", "second", "whole", "height", "slope"] ["first", "second"] (defScope (top 67)) := ⟨rfl, rfl, rfl, by decide +kernel, rfl, by decide +kernel, by decide +kernel⟩
def pm_meeting : Pm := fun ds p => ∃ f g : Pl, ds = [pl f, pl g] ∧ PA f ∧ PA g ∧ p (oray (meet f g))
theorem k_meeting (E : Hd K mg) : Kn P w K mg base "meeting" [] 3 (spD K W 2 pm_meeting) :=
  kn_mk 48 E rfl rfl (fun _ _ _ _ _ _ us hl => match us, hl with | [_, _], _ => rfl) fun f fd F => fn_mk F sc_meeting (by
    rintro X C cdv A outer s H E' P0 ds p rfl rfl hr ⟨f, g, rfl, hf, hg, hp⟩
    have nd := sc_meeting.nd
    dsimp only [iniL, iniN, List.tail]
    unfold meet at hp
    have d := detPA hf hg
    have d9 : (det f g).natAbs < 2 ^ 9000 := Nat.lt_trans d (Nat.pow_lt_pow_right (by decide) (by decide))
    refine sw_cons (s1_set 2 nd (ev_fn (k_determinant E) hr (by decide) (evs_cons (ev_var 0 rfl) (evs_one (ev_var 1 rfl))) ⟨f, g, rfl, hf.o.big, hg.o.big, rfl⟩) ?_)
    all_goals (try dsimp only [List.set])
    refine sw_cons (s1_if (tv_eqI (ev_var 2 rfl) ev_int) (fun ht => ?_) fun ht => ?_)
    all_goals (try dsimp only [List.set])
    · rw [if_pos (by simpa using ht)] at hp
      exact sw_one (s1_ret (EV.r ev_non) hp)
    · have hd : det f g ≠ 0 := by simpa using ht
      rw [if_neg hd] at hp
      refine sw_nil (sw_cons (s1_set 3 nd (ev_fn (k_fraction E) hr (by decide) (evs_cons (ev_sub (ev_mul (ev_p2 (ev_var 0 rfl)) (ev_p1 (ev_var 1 rfl)) (cm_of hf.b.r hg.b.q (by decide))) (ev_mul (ev_p2 (ev_var 1 rfl)) (ev_p1 (ev_var 0 rfl)) (cm_of hg.b.r hf.b.q (by decide)))) (evs_one (ev_var 2 rfl))) ⟨_, _, rfl, hd, d9, rfl⟩) ?_))
      all_goals (try dsimp only [List.set])
      refine sw_cons (s1_set 4 nd (ev_fn (k_fraction E) hr (by decide) (evs_cons (ev_sub (ev_mul (ev_p0 (ev_var 0 rfl)) (ev_p2 (ev_var 1 rfl)) (cm_of hf.b.p hg.b.r (by decide))) (ev_mul (ev_p0 (ev_var 1 rfl)) (ev_p2 (ev_var 0 rfl)) (cm_of hg.b.p hf.b.r (by decide)))) (evs_one (ev_var 2 rfl))) ⟨_, _, rfl, hd, d9, rfl⟩) ?_)
      all_goals (try dsimp only [List.set])
      exact sw_one (s1_ret (EV.r (ev_tup (evs_cons (ev_var 3 rfl) (evs_one (ev_var 4 rfl))))) hp))
theorem sc_is_before : FnScope ["first", "second", "found"] ["first", "second"] (defScope (top 68)) := ⟨rfl, rfl, rfl, by decide +kernel, rfl, by decide +kernel, by decide +kernel⟩
def pm_is_before : Pm := fun ds p => ∃ a b : Ray, ds = [ray a, ray b] ∧ YB a ∧ YB b ∧ p (.bool (isBef a b))
theorem k_is_before (E : Hd K mg) : Kn P w K mg base "is_before" [] 6 (spD K W 2 pm_is_before) :=
  kn_mk 49 E rfl rfl (fun _ _ _ _ _ _ us hl => match us, hl with | [_, _], _ => rfl) fun f fd F => fn_mk F sc_is_before (by
    rintro X C cdv A outer s H E' P0 ds p rfl rfl hr ⟨a, b, rfl, ha, hb, hp⟩
    have nd := sc_is_before.nd
    dsimp only [iniL, iniN, List.tail]
    unfold isBef at hp
    refine sw_cons (s1_set 2 nd (ev_cmpQ E hr ⟨ev_ixT (ev_var 0 rfl) ev_int rfl, ha.1⟩ ⟨ev_ixT (ev_var 1 rfl) ev_int rfl, hb.1⟩) ?_)
    all_goals (try dsimp only [List.set])
    refine sw_cons (s1_if (tv_eqI (ev_var 2 rfl) ev_int) (fun ht => ?_) fun ht => ?_)
    all_goals (try dsimp only [List.set])
    · rw [if_pos (by simpa using ht)] at hp
      refine sw_one (s1_set 2 nd (ev_cmpQ E hr ⟨ev_ixT (ev_var 0 rfl) ev_int rfl, ha.2⟩ ⟨ev_ixT (ev_var 1 rfl) ev_int rfl, hb.2⟩) ?_)
      all_goals (try dsimp only [List.set])
      try dsimp only [List.set]
      exact sw_one (s1_ret (EV.r (ev_lt (ev_var 2 rfl) ev_int)) hp)
    · rw [if_neg (by simpa using ht)] at hp
      exact sw_nil (sw_one (s1_ret (EV.r (ev_lt (ev_var 2 rfl) ev_int)) hp)))
theorem sc_put_in_order : FnScope ["rays", "ray", "place", "one"] ["rays", "ray"] (defScope (top 69)) := ⟨rfl, rfl, rfl, by decide +kernel, rfl, by decide +kernel, by decide +kernel⟩
def pm_put_in_order : Pm := fun ds p => ∃ (rs : List Ray) (z : Ray), ds = [.list (rs.map ray), ray z] ∧ (∀ x ∈ rs, YB x) ∧ YB z ∧ rs.length ≤ 2000 ∧ p (.list ((putIn rs z).map ray))
theorem k_put_in_order (E : Hd K mg) : Kn P w K mg base "put_in_order" [] 7 (spD K W 2 pm_put_in_order) :=
  kn_mk 50 E rfl rfl (fun _ _ _ _ _ _ us hl => match us, hl with | [_, _], _ => rfl) fun f fd F => fn_mk F sc_put_in_order (by
    rintro X C cdv A outer s H E' P0 ds p rfl rfl hr ⟨rs, z, rfl, hR, hz, hl, hp⟩
    have nd := sc_put_in_order.nd
    dsimp only [iniL, iniN, List.tail]
    unfold putIn at hp
    refine sw_cons (s1_if (tv_inE eqv_ray flat_ray hr (ev_var 1 rfl) (ev_var 0 rfl)) (fun ht => ?_) fun ht => ?_)
    all_goals (try dsimp only [List.set])
    · have hm : z ∈ rs := by simpa using ht
      rw [if_pos hm] at hp
      exact sw_one (s1_ret (EV.r (ev_var 0 rfl)) hp)
    · have hm : z ∉ rs := by simpa using ht
      rw [if_neg hm] at hp
      unfold insAt at hp
      have hf := List.length_filter_le (fun o => isBef o z) rs
      refine sw_nil (sw_cons (s1_set 2 nd (ev_len (E.free "len" (by simp)) (EVL.ev (evl_lcIf (own := [("one", 3)]) ray (fun o => isBef o z) ray rs nd (iv_lst (ev_var 0 rfl)) (blkOk_by rfl) (by omega) (fun o ho => ⟨_, _, by decide, fun s H Ca cl fp => gv_name 3 nd, fun s H Ca cl fp => tv_val (ev_fn (k_is_before E) hr (by decide) (evs_cons (ev_var 3 rfl) (evs_one (ev_var 1 rfl))) ⟨o, z, rfl, hR o ho, hz, rfl⟩), fun _ s H Ca cl fp => ev_var 3 rfl⟩)))) ?_))
      all_goals (try dsimp only [List.set])
      try dsimp only [List.set]
      rw [List.length_map]
      rw [List.map_append, List.map_append, List.map_take, List.map_drop] at hp
      refine sw_one (s1_ret (EV.r (ev_cat (ev_cat (EV.is (ev_slice (ev_var 0 rfl) evo_none (evo_some (ev_var 2 rfl))) (by rw [cutD_take])) (ev_lst (evs_one (ev_var 1 rfl))) ?_) (EV.is (ev_slice (ev_var 0 rfl) (evo_some (ev_var 2 rfl)) evo_none) (by rw [cutD_drop])) ?_)) hp)
      · simp only [List.length_take, List.length_map, List.length_cons, List.length_nil]; omega
      · simp only [List.length_append, List.length_take, List.length_drop, List.length_map, List.length_cons, List.length_nil]; omega)
theorem sc_corners : FnScope ["half_planes", "found", "place", "one", "other", "ray"] ["half_planes"] (defScope (top 70)) := ⟨rfl, rfl, rfl, by decide +kernel, rfl, by decide +kernel, by decide +kernel⟩
def pm_corners : Pm := fun ds p => ∃ hs : List Pl, ds = [.list (hs.map pl)] ∧ (∀ h ∈ hs, PA h) ∧ hs.length ≤ 40 ∧ p (.list ((cornersOf hs).map ray))
theorem k_corners (E : Hd K mg) (T : Tabs W base mg K) : Kn P w K mg base "corners" [] 8 (spD K W 1 pm_corners) :=
  kn_mk 51 E rfl rfl (fun _ _ _ _ _ _ us hl => match us, hl with | [_], _ => rfl) fun f fd F => fn_mk F sc_corners (by
    rintro X C cdv A outer s H E' P0 ds p rfl rfl hr ⟨hs, rfl, hA, hz, hp⟩
    have nd := sc_corners.nd
    dsimp only [iniL, iniN, List.tail]
    have hpl := pairsFrom_len meet hs
    have hsq : hs.length * hs.length ≤ 40 * 40 := Nat.mul_le_mul hz hz
    unfold cornersOf at hp
    refine sw_cons (s1_set 1 nd (ev_lst evs_nil) ?_)
    all_goals (try dsimp only [List.set])
    refine sw_cons (s1_for (fun z : Pl × Nat => .tuple [.int (z.2 : Int), pl z.1]) hs.zipIdx (iv_enumE (E.free "enumerate" (by simp)) (ev_var 0 rfl)) (fun i Γ => ∃ fs v u r q, Γ = [.pu (.list (hs.map pl)), .pu (.list (fs.map ray)), v, u, r, q] ∧ (pairsFrom meet (hs.drop i)).foldl (cornAdd hs) fs = (pairsFrom meet hs).foldl (cornAdd hs) [] ∧ (∀ z ∈ fs, YB z) ∧ fs.length + (pairsFrom meet (hs.drop i)).length ≤ 1600) ⟨[], .no, .no, .no, .no, rfl, rfl, fun z hz => (by cases hz), by simp only [List.drop_zero, List.length_nil]; omega⟩ ?_ ?_)
    all_goals (try dsimp only [List.set])
    · rintro i ⟨x, i'⟩ _ hx ⟨fs, v, u, r, q, rfl, ht, hY, hn⟩
      obtain ⟨hxi, rfl⟩ := zipIdx_at hx
      simp only at hxi
      have ox := hA x (List.mem_of_getElem? hxi)
      refine ⟨_, _, gv_tup (gvs_cons (gv_name 2 nd) (gvs_cons (gv_name 3 nd) gvs_nil)), ?_⟩
      try dsimp only [List.set]
      rw [pairsFrom_at hxi] at ht hn
      refine sw_one (s1_for pl (hs.drop (i' + 1)) (iv_lst (EV.is (ev_slice (ev_var 0 rfl) (evo_some (EV.is (ev_add (ev_var 2 rfl) ev_int) (by show PyData.int ((i' : Int) + 1) = .int ((i' + 1 : Nat) : Int); simp))) evo_none) (by rw [cutD_drop, List.map_drop]))) (fun j Γ => ∃ fs r q, Γ = [.pu (.list (hs.map pl)), .pu (.list (fs.map ray)), .pu (.int (i' : Int)), .pu (pl x), r, q] ∧ (((hs.drop (i' + 1)).drop j).map (meet x) ++ pairsFrom meet (hs.drop (i' + 1))).foldl (cornAdd hs) fs = (pairsFrom meet hs).foldl (cornAdd hs) [] ∧ (∀ z ∈ fs, YB z) ∧ fs.length + (((hs.drop (i' + 1)).drop j).map (meet x) ++ pairsFrom meet (hs.drop (i' + 1))).length ≤ 1600) ⟨fs, r, q, rfl, ht, hY, hn⟩ ?_ ?_)
      all_goals (try dsimp only [List.set])
      · rintro j y _ hy ⟨fs, r, q, rfl, ht, hY, hn⟩
        have oy := hA y (List.mem_of_mem_drop (List.mem_of_getElem? hy))
        refine ⟨_, _, gv_name 4 nd, ?_⟩
        try dsimp only [List.set]
        rw [drop_at hy, List.map_cons] at ht hn
        rw [List.cons_append, List.foldl_cons] at ht
        rw [List.cons_append, List.length_cons] at hn
        refine sw_cons (s1_set 5 nd (ev_fn (k_meeting E) hr (by decide) (evs_cons (ev_var 3 rfl) (evs_one (ev_var 4 rfl))) ⟨x, y, rfl, ox, oy, rfl⟩) ?_)
        all_goals (try dsimp only [List.set])
        try dsimp only [List.set]
        cases e : meet x y with
        | none =>
          rw [e] at ht
          exact sw_one (s1_skip (TW.tv (tw_and (y := false) (tv_notN (ev_var 5 rfl)) fun h => by cases h)) rfl (sw_nil ⟨fs, _, _, rfl, ht, hY, by omega⟩))
        | some z =>
          rw [e] at ht
          have yz := meet_b ox oy e
          refine sw_one (s1_if (TW.tv (tw_and (tv_notN (ev_var 5 rfl)) fun _ => tw_and1 (tv_val (ev_fn (k_contains_ray E T) hr (by decide) (evs_cons (ev_var 0 rfl) (evs_one (ev_var 5 rfl))) ⟨hs, z, rfl, fun h hh => (hA h hh).o, yz.1.mono (by decide) (by decide), yz.2.mono (by decide) (by decide), rfl⟩)))) (fun hc => ?_) fun hc => ?_)
          all_goals (try dsimp only [List.set])
          · have hc' : contains hs z = true := hc
            have e2 : cornAdd hs fs (some z) = putIn fs z := if_pos hc'
            rw [e2] at ht
            have hpl := putIn_len fs z
            refine sw_one (s1_set 1 nd (ev_fn (k_put_in_order E) hr (by decide) (evs_cons (ev_var 1 rfl) (evs_one (ev_var 5 rfl))) ⟨fs, z, rfl, hY, yz, by omega, rfl⟩) ⟨putIn fs z, .pu (pl y), .pu (ray z), rfl, ht, fun a ha => ?_, by omega⟩)
            rcases putIn_mem ha with h | h
            · exact hY a h
            · rw [h]; exact yz
          · have hc' : contains hs z = false := hc
            have e2 : cornAdd hs fs (some z) = fs := if_neg (by rw [hc']; exact Bool.false_ne_true)
            rw [e2] at ht
            exact sw_nil ⟨fs, _, _, rfl, ht, hY, by omega⟩
      · rintro _ ⟨fs, r, q, rfl, ht, hY, hn⟩
        rw [List.drop_length, List.map_nil, List.nil_append] at ht hn
        exact ⟨fs, _, _, _, _, rfl, ht, hY, hn⟩
    · rintro _ ⟨fs, v, u, r, q, rfl, ht, hY, hn⟩
      rw [List.length_zipIdx, List.drop_length] at ht
      have ht' : fs = (pairsFrom meet hs).foldl (cornAdd hs) [] := ht
      rw [← ht'] at hp
      exact sw_one (s1_ret (EV.r (ev_var 1 rfl)) hp))
theorem sc_turn : FnScope ["first", "second", "third", "one", "other"] ["first", "second", "third"] (defScope (top 72)) := ⟨rfl, rfl, rfl, by decide +kernel, rfl, by decide +kernel, by decide +kernel⟩
def pm_turn : Pm := fun ds p => ∃ a b c : Ray, ds = [ray a, ray b, ray c] ∧ YB a ∧ YB b ∧ YB c ∧ p (fr (turnOf a b c))
theorem k_turn (E : Hd K mg) : Kn P w K mg base "turn" [] 5 (spD K W 3 pm_turn) :=
  kn_mk 53 E rfl rfl (fun _ _ _ _ _ _ us hl => match us, hl with | [_, _, _], _ => rfl) fun f fd F => fn_mk F sc_turn (by
    rintro X C cdv A outer s H E' P0 ds p rfl rfl hr ⟨a, b, c, rfl, ha, hb, hc, hp⟩
    have nd := sc_turn.nd
    dsimp only [iniL, iniN, List.tail]
    refine sw_cons (s1_set 3 nd (eq_mul E hr (eq_sub E hr ⟨ev_ixT (ev_var 1 rfl) ev_int rfl, hb.1⟩ ⟨ev_ixT (ev_var 0 rfl) ev_int rfl, ha.1⟩) (eq_sub E hr ⟨ev_ixT (ev_var 2 rfl) ev_int rfl, hc.2⟩ ⟨ev_ixT (ev_var 0 rfl) ev_int rfl, ha.2⟩)).ev ?_)
    all_goals (try dsimp only [List.set])
    refine sw_cons (s1_set 4 nd (eq_mul E hr (eq_sub E hr ⟨ev_ixT (ev_var 1 rfl) ev_int rfl, hb.2⟩ ⟨ev_ixT (ev_var 0 rfl) ev_int rfl, ha.2⟩) (eq_sub E hr ⟨ev_ixT (ev_var 2 rfl) ev_int rfl, hc.1⟩ ⟨ev_ixT (ev_var 0 rfl) ev_int rfl, ha.1⟩)).ev ?_)
    all_goals (try dsimp only [List.set])
    exact sw_one (s1_ret (EV.r (eq_sub E hr ⟨ev_var 3 rfl, (hb.1.sub ha.1).mul (hc.2.sub ha.2)⟩ ⟨ev_var 4 rfl, (hb.2.sub ha.2).mul (hc.1.sub ha.1)⟩).ev) hp))
/-- what an area asks of the corners -/
structure ChB (rs : List Ray) : Prop where
  ne : rs ≠ []
  yb : ∀ z ∈ rs, YB z
  len : rs.length ≤ 2000
  sum : ∀ lower i, i ≤ rs.length → RB 2100 2100 (chainTo (chainOf rs lower) i)
theorem chainOf_mem {rs : List Ray} (hn : rs ≠ []) {lower : Bool} : ∀ z ∈ chainOf rs lower, z ∈ rs := by
  have h1 : rs.headD (0, 0) ∈ rs := by
    cases rs with
    | nil => exact absurd rfl hn
    | cons a r => exact List.mem_cons_self
  have h2 : rs.getLastD (0, 0) ∈ rs := by
    rw [List.getLastD_eq_getLast?, List.getLast?_eq_some_getLast hn]
    exact List.getLast_mem hn
  intro z hz
  unfold chainOf at hz
  simp only at hz
  rcases List.mem_append.mp hz with hz | hz
  · rcases List.mem_append.mp hz with hz | hz
    · rw [List.mem_singleton] at hz; rw [hz]; exact h1
    · exact List.mem_of_mem_drop (List.mem_of_mem_take (List.mem_filter.mp hz).1)
  · rw [List.mem_singleton] at hz; rw [hz]; exact h2
theorem chainOf_len (rs : List Ray) (lower : Bool) : (chainOf rs lower).length ≤ rs.length - 2 + 2 := by
  unfold chainOf
  simp only [List.length_append, List.length_cons, List.length_nil]
  have h := List.length_filter_le (fun z => decide (cmp (turnOf (rs.headD (0, 0)) (rs.getLastD (0, 0)) z) 0 < 0) == lower) ((rs.drop 1).take (rs.length - 2))
  rw [List.length_take] at h
  omega
theorem chainTo_succ (c : List Ray) (i : Nat) : chainTo c (i + 1) = chainTo c i + turnOf (c.getD 0 (0, 0)) (c.getD (i + 1) (0, 0)) (c.getD (i + 2) (0, 0)) := by
  unfold chainTo
  rw [List.range_succ, List.map_append, List.foldl_append]
  rfl
theorem sc_chain_area : FnScope ["rays", "lower", "first", "last", "chain", "total", "place", "ray"] ["rays", "lower"] (defScope (top 73)) := ⟨rfl, rfl, rfl, by decide +kernel, rfl, by decide +kernel, by decide +kernel⟩
def pm_chain_area : Pm := fun ds p => ∃ (rs : List Ray) (lower : Bool), ds = [.list (rs.map ray), .bool lower] ∧ ChB rs ∧ p (fr (chainArea rs lower))
theorem k_chain_area (E : Hd K mg) : Kn P w K mg base "chain_area" [] 6 (spD K W 2 pm_chain_area) :=
  kn_mk 54 E rfl rfl (fun _ _ _ _ _ _ us hl => match us, hl with | [_, _], _ => rfl) fun f fd F => fn_mk F sc_chain_area (by
    rintro X C cdv A outer s H E' P0 ds p rfl rfl hr ⟨rs, lower, rfl, hB, hp⟩
    have nd := sc_chain_area.nd
    dsimp only [iniL, iniN, List.tail]
    have hn := hB.ne
    have hlen := hB.len
    have hpos : 0 < rs.length := List.length_pos_iff.mpr hn
    have h0 : rs[0]? = some (rs.headD (0, 0)) := by
      cases rs with
      | nil => exact absurd rfl hn
      | cons a r => rfl
    have y0 : YB (rs.headD (0, 0)) := hB.yb _ (List.mem_of_getElem? h0)
    have yl : YB (rs.getLastD (0, 0)) := hB.yb _ (chainOf_mem hn (lower := lower) _ (by unfold chainOf; simp))
    have hcm := @chainOf_mem rs hn lower
    have hcl := chainOf_len rs lower
    unfold chainArea at hp
    refine sw_cons (s1_set 2 nd (ev_ixL (ev_var 0 rfl) ev_int (atI_nat (i := 0) h0)) ?_)
    all_goals (try dsimp only [List.set])
    refine sw_cons (s1_set 3 nd (ev_ixL (ev_var 0 rfl) (ev_neg ev_int) (atI_last (d := (0, 0)) hn)) ?_)
    all_goals (try dsimp only [List.set])
    try dsimp only [List.set]
    have hmid : cutD (rs.map ray) (some ((1 : Nat) : Int)) (some (-1)) = ((rs.drop 1).take (rs.length - 2)).map ray := by rw [cutD_mid, List.length_map, List.map_take, List.map_drop]
    have hch : [ray (rs.headD (0, 0))] ++ (((rs.drop 1).take (rs.length - 2)).filter fun z => decide (decide (cmp (turnOf (rs.headD (0, 0)) (rs.getLastD (0, 0)) z) 0 < 0) = lower)).map ray ++ [ray (rs.getLastD (0, 0))] = (chainOf rs lower).map ray := by
      unfold chainOf
      simp only [List.map_append, List.map_cons, List.map_nil]
      congr 3
    have hfl := List.length_filter_le (fun z => decide (decide (cmp (turnOf (rs.headD (0, 0)) (rs.getLastD (0, 0)) z) 0 < 0) = lower)) ((rs.drop 1).take (rs.length - 2))
    rw [List.length_take, List.length_drop] at hfl
    refine sw_cons (s1_set 4 nd (EV.is (ev_cat (ev_cat (ev_lst (evs_one (ev_var 2 rfl))) (EVL.ev (evl_lcIf (own := [("ray", 7)]) ray (fun z => decide (decide (cmp (turnOf (rs.headD (0, 0)) (rs.getLastD (0, 0)) z) 0 < 0) = lower)) ray ((rs.drop 1).take (rs.length - 2)) nd (iv_lst (EV.is (ev_slice (i := some ((1 : Nat) : Int)) (j := some (-1)) (ev_var 0 rfl) (evo_some ev_int) (evo_some (ev_neg ev_int))) (by rw [hmid]))) (blkOk_by rfl) (by rw [List.length_take, List.length_drop]; omega) (fun z hz => ⟨_, _, by decide, fun s H Ca cl fp => gv_name 7 nd, fun s H Ca cl fp => ?_, fun _ s H Ca cl fp => ev_var 7 rfl⟩))) (by simp only [List.length_cons, List.length_nil, List.length_map]; omega)) (ev_lst (evs_one (ev_var 3 rfl))) (by simp only [List.length_append, List.length_cons, List.length_nil, List.length_map]; omega)) (by rw [hch])) ?_)
    all_goals (try dsimp only [List.set])
    · have yz : YB z := hB.yb z (List.mem_of_mem_drop (List.mem_of_mem_take hz))
      exact tv_cmp op_eq rd_eqB (ev_lt (ev_cmpQ E hr ⟨ev_fn (k_turn E) hr (by decide) (evs_cons (ev_var 2 rfl) (evs_cons (ev_var 3 rfl) (evs_one (ev_var 7 rfl)))) ⟨_, _, z, rfl, y0, yl, yz, rfl⟩, turn_b y0 yl yz⟩ (eq_zero E)) ev_int) (ev_var 1 rfl)
    try dsimp only [List.set]
    refine sw_cons (s1_set 5 nd (ev_zero E) ?_)
    all_goals (try dsimp only [List.set])
    try dsimp only [List.set]
    have hsum := hB.sum lower
    have hc2 : 2 ≤ (chainOf rs lower).length := by unfold chainOf; simp only [List.length_append, List.length_cons, List.length_nil]; omega
    have hc0 : (chainOf rs lower).getD 0 (0, 0) = rs.headD (0, 0) := by unfold chainOf; rfl
    generalize chainOf rs lower = c at hcm hcl hsum hc2 hc0 hp ⊢
    refine sw_cons (s1_for (fun (j : Nat) => PyData.int ((1 + j : Nat) : Int)) (List.range (c.length - 1 - 1)) (iv_rngN (m := 1) (n := c.length - 1) (E.free "range" (by simp)) (EV.is ev_int rfl) (EV.is (ev_sub (ev_len (E.free "len" (by simp)) (ev_var 4 rfl)) ev_int) (by rw [List.length_map]; congr 1; omega)) (by omega)) (fun i Γ => ∃ v, Γ = [.pu (.list (rs.map ray)), .pu (.bool lower), .pu (ray (rs.headD (0, 0))), .pu (ray (rs.getLastD (0, 0))), .pu (.list (c.map ray)), .pu (fr (chainTo c i)), v, .no]) ⟨.no, rfl⟩ ?_ ?_)
    all_goals (try dsimp only [List.set])
    · rintro i _ _ hx ⟨v, rfl⟩
      obtain ⟨rfl, hi⟩ := range_at hx
      rename_i i
      refine ⟨_, _, gv_name 6 nd, ?_⟩
      try dsimp only [List.set]
      have g : ∀ j, j < c.length → c[j]? = some (c.getD j (0, 0)) := fun j hj => by rw [List.getD_eq_getElem?_getD, List.getElem?_eq_getElem hj]; rfl
      have gy : ∀ j, j < c.length → YB (c.getD j (0, 0)) := fun j hj => hB.yb _ (hcm _ (List.mem_of_getElem? (g j hj)))
      have e1 := g (1 + i) (by omega)
      have e2 := g (1 + i + 1) (by omega)
      have t1 : YB (rs.headD (0, 0)) := y0
      have tb := turn_b t1 (gy (1 + i) (by omega)) (gy (1 + i + 1) (by omega))
      refine sw_one (s1_set 5 nd (EQ.ev (eq_add E hr ⟨ev_var 5 rfl, hsum i (by omega)⟩ ⟨ev_fn (k_turn E) hr (by decide) (evs_cons (ev_var 2 rfl) (evs_cons (ev_ixL (ev_var 4 rfl) (ev_var 6 rfl) (atI_nat e1)) (evs_one (ev_ixL (ev_var 4 rfl) (EV.is (ev_add (ev_var 6 rfl) ev_int) (by show PyData.int (((1 + i : Nat) : Int) + 1) = .int ((1 + i + 1 : Nat) : Int); simp)) (atI_nat e2))))) ⟨_, _, _, rfl, t1, gy (1 + i) (by omega), gy (1 + i + 1) (by omega), rfl⟩, tb⟩)) ⟨.pu (.int ((1 + i : Nat) : Int)), ?_⟩)
      rw [chainTo_succ, hc0, Nat.add_comm i 1, show i + 2 = 1 + i + 1 by omega]
      rfl
    · rintro _ ⟨v, rfl⟩
      rw [List.length_range, show c.length - 1 - 1 = c.length - 2 by omega]
      exact sw_one (s1_ret (EV.r (ev_var 5 rfl)) hp))
theorem sc_is_bounded : FnScope ["half_planes", "heights", "slopes", "bound"] ["half_planes"] (defScope (top 71)) := ⟨rfl, rfl, rfl, by decide +kernel, rfl, by decide +kernel, by decide +kernel⟩
def pm_is_bounded : Pm := fun ds p => ∃ hs : List Pl, ds = [.list (hs.map pl)] ∧ (∀ h ∈ hs, PO h) ∧ hs.length ≤ 40 ∧ isEmp hs = false ∧ p (.bool (bounded hs))
theorem k_is_bounded (E : Hd K mg) (T : Tabs W base mg K) : Kn P w K mg base "is_bounded" [] 12 (spD K W 1 pm_is_bounded) :=
  kn_mkT 52 E rfl rfl (fun _ _ _ _ _ _ us hl => match us, hl with | [_], _ => rfl) fun fd F => fn_mkT F sc_is_bounded (by
    rintro X C cdv A outer s H E' P0 ds p rfl rfl rfl hr ⟨hs, rfl, hO, hz, he, hp⟩
    have nd := sc_is_bounded.nd
    dsimp only [iniL, iniN, List.tail]
    have d0 : DB 0 := RB.zero.mono (by decide) (by decide)
    have d1 : DB 1 := RB.one.mono (by decide) (by decide)
    have dr : ∀ p' q, dirRange hs p' q = some (infi hs p' q, supr hs p' q) := fun p' q => if_neg (by rw [he]; exact Bool.false_ne_true)
    refine sw_cons (s1_set 1 nd (EV.is (ev_fn (k_direction_range E T) hr (by decide) (evs_cons (ev_var 0 rfl) (evs_cons (ev_oneQ E) (evs_one (ev_zero E)))) ⟨hs, 1, 0, rfl, hO, hz, d1, d0, rfl⟩) (by rw [dr])) ?_)
    all_goals (try dsimp only [List.set])
    refine sw_cons (s1_set 2 nd (EV.is (ev_fn (k_direction_range E T) hr (by decide) (evs_cons (ev_var 0 rfl) (evs_cons (ev_zero E) (evs_one (ev_oneQ E)))) ⟨hs, 0, 1, rfl, hO, hz, d0, d1, rfl⟩) (by rw [dr])) ?_)
    all_goals (try dsimp only [List.set])
    try dsimp only [List.set]
    refine sw_one (s1_ret (EV.r (EV.is (ev_allG (k := 0) (own := [("bound", 3)]) ofr (fun o => o.isSome) [infi hs 1 0, supr hs 1 0, infi hs 0 1, supr hs 0 1] nd (E.free "all" (by simp)) (iv_tup (EV.is (ev_catT (ds := [ofr (infi hs 1 0), ofr (supr hs 1 0)]) (es' := [ofr (infi hs 0 1), ofr (supr hs 0 1)]) (ev_var 1 rfl) (ev_var 2 rfl) (by simp) (by simp) (Nat.le_of_ble_eq_true rfl)) rfl)) (genOk_by rfl) (T.t _ (by simp [tabNames])) rfl (hr.mono (by decide)) (fun o ho => ⟨_, _, by decide, fun A' s' H' Ca code fp hr' => ⟨gv_name 3 nd, EV.is (ev_notN (ev_var 3 rfl)) (by rw [isN_ofr]; cases o <;> rfl)⟩⟩)) ?_)) hp)
    unfold bounded
    simp [Bool.and_assoc])
theorem sc_area : FnScope ["half_planes", "rays"] ["half_planes"] (defScope (top 74)) := ⟨rfl, rfl, rfl, by decide +kernel, rfl, by decide +kernel, by decide +kernel⟩
def pm_area : Pm := fun ds p => ∃ hs : List Pl, ds = [.list (hs.map pl)] ∧ (∀ h ∈ hs, PA h) ∧ hs.length ≤ 40 ∧ (kindOf hs = .area → bounded hs = true → ChB (cornersOf hs)) ∧ p (ofr (areaOf hs))
theorem k_area (E : Hd K mg) (T : Tabs W base mg K) : Kn P w K mg base "area" [] 13 (spD K W 1 pm_area) :=
  kn_mk 55 E rfl rfl (fun _ _ _ _ _ _ us hl => match us, hl with | [_], _ => rfl) fun f fd F => fn_mk F sc_area (by
    rintro X C cdv A outer s H E' P0 ds p rfl rfl hr ⟨hs, rfl, hA, hz, hC, hp⟩
    have nd := sc_area.nd
    dsimp only [iniL, iniN, List.tail]
    have hO : ∀ h ∈ hs, PO h := fun h hh => (hA h hh).o
    have key : ∀ k : Kind, decide (kindS k = ("area" : Str)) = decide (k = .area) := fun k => by cases k <;> rfl
    unfold areaOf at hp
    refine sw_cons (s1_if (TV.is (tv_cmp op_ne rd_neS (ev_fn (k_region_kind E T) hr (by decide) (evs_one (ev_var 0 rfl)) ⟨hs, rfl, hO, hz, rfl⟩) ev_str) (by rw [key])) (fun ht => ?_) fun ht => ?_)
    all_goals (try dsimp only [List.set])
    · rw [if_pos (by simpa using ht)] at hp
      exact sw_one (s1_ret (EV.r (ev_zero E)) hp)
    have hk : kindOf hs = .area := by simpa using ht
    rw [if_neg (by simpa using ht)] at hp
    have hne : isEmp hs = false := by
      cases e : isEmp hs with
      | false => rfl
      | true =>
        unfold kindOf at hk
        rw [if_pos e] at hk
        cases hk
    refine sw_nil (sw_cons (s1_if (tv_not (tv_val (ev_fn (k_is_bounded E T) hr (by decide) (evs_one (ev_var 0 rfl)) ⟨hs, rfl, hO, hz, hne, rfl⟩))) (fun ht => ?_) fun ht => ?_))
    all_goals (try dsimp only [List.set])
    · rw [if_pos ht] at hp
      exact sw_one (s1_ret (EV.r ev_non) hp)
    rw [if_neg (by rw [ht]; exact Bool.false_ne_true)] at hp
    have hB := hC hk (by simpa using ht)
    refine sw_nil (sw_cons (s1_set 1 nd (ev_fn (k_corners E T) hr (by decide) (evs_one (ev_var 0 rfl)) ⟨hs, rfl, hA, hz, rfl⟩) ?_))
    all_goals (try dsimp only [List.set])
    try dsimp only [List.set]
    have ca : ∀ b, RB 2100 2100 (chainArea (cornersOf hs) b) := fun b => hB.sum b _ (by have := chainOf_len (cornersOf hs) b; have := List.length_pos_iff.mpr hB.ne; omega)
    have h2 : ((2 : Int) : Rat) ≠ 0 := by decide
    exact sw_one (s1_ret (EV.r (EQ.ev (eq_div E hr (eq_sub E hr ⟨ev_fn (k_chain_area E) hr (by decide) (evs_cons (ev_var 1 rfl) (evs_one ev_bl)) ⟨_, _, rfl, hB, rfl⟩, ca true⟩ ⟨ev_fn (k_chain_area E) hr (by decide) (evs_cons (ev_var 1 rfl) (evs_one ev_bl)) ⟨_, _, rfl, hB, rfl⟩, ca false⟩) (eq_int (n := 2) E hr ev_int (by decide)) h2))) hp))
end
end RT
end
section
set_option Elab.async false
set_option linter.all false
set_option maxRecDepth 100000
set_option maxHeartbeats 4000000
set_option exponentiation.threshold 20000
/-! B12: the law's rays, maps, planes. -/
namespace RT
open PySem PySem.Spec PyProof.Rows L2
abbrev ZB (z : Ray) : Prop := RB 4000 4000 z.1 ∧ RB 4000 4000 z.2
theorem gcd3_nat (a b c : Int) : igcd3 a b c = ((Nat.gcd (Nat.gcd (Nat.gcd 0 a.natAbs) b.natAbs) c.natAbs : Nat) : Int) := by
  unfold igcd3
  rw [Nat.gcd_zero_left]
  rfl
section
variable {P : Program} {w : World} {K : PySem.W.Frag} {mg : Str → Option Value} {base : Heap} {W : Wo}
section
variable {X : Cx} {C : Ct} {Γ : List Sl} {a b : Expr} {pos : Pos} {k : Nat} {x : Rat} {i : Int}
/-- the pair of two whole numbers, of which the second is 1 -/
theorem eq_con {j1 j2 x1 : Nat} {p1 p2 : Pos} {n : Nat} (hn : i.natAbs < 2 ^ n) (he : starEach [.Constant (.int i) j1 p1, .Constant (.int 1) j2 p2] X.env = (false, eval (.Constant (.int i) j1 p1) X.env) :: starEach [.Constant (.int 1) j2 p2] X.env := by rfl) (he2 : starEach [.Constant (.int 1) j2 p2] X.env = (false, eval (.Constant (.int 1) j2 p2) X.env) :: starEach [] X.env := by rfl) : EQ X C (.Tuple [.Constant (.int i) j1 p1, .Constant (.int 1) j2 p2] x1 pos) Γ n 0 (i : Rat) :=
  eq_pair ev_int hn he he2
end
theorem sc_acceptance_area : FnScope ["train", "edge", "half_plane"] ["train"] (defScope (top 76)) := ⟨rfl, rfl, rfl, by decide +kernel, rfl, by decide +kernel, by decide +kernel⟩
def pm_acceptance_area : Pm := fun ds p => ∃ t : List El, ds = [.list (t.map el)] ∧ TrW t ∧ (∀ h ∈ planes t, PA h) ∧ (kindOf (planes t) = .area → bounded (planes t) = true → ChB (cornersOf (planes t))) ∧ p (ofr (areaOf (planes t)))
theorem k_acceptance_area (E : Hd K mg) (T : Tabs W base mg K) : Kn P w K mg base "acceptance_area" [] 14 (spD K W 1 pm_acceptance_area) :=
  kn_mk 56 E rfl rfl (fun _ _ _ _ _ _ us hl => match us, hl with | [_], _ => rfl) fun f fd F => fn_mk F sc_acceptance_area (by
    rintro X C cdv A outer s H E' P0 ds p rfl rfl hr ⟨t, rfl, hT, hA, hC, hp⟩
    have nd := sc_acceptance_area.nd
    dsimp only [iniL, iniN, List.tail]
    have hl := hpTo_len t t.length
    have hl2 := hT.len
    have hpl := hT.plen
    have e : ((hps t).map fun z => pl z.2) = (planes t).map pl := by unfold planes; rw [List.map_map]; rfl
    exact sw_one (s1_ret (EV.r (ev_fn (k_area E T) hr (by decide) (evs_one (EV.is (EVL.ev (evl_lc (own := [("edge", 1), ("half_plane", 2)]) edp (fun z => pl z.2) (hps t) nd (iv_lst (ev_fn (k_half_planes_of E) hr (by decide) (evs_one (ev_var 0 rfl)) ⟨t, rfl, hT.b, rfl⟩)) (blkOk_by rfl) (by unfold hps; omega) (fun z hz => ⟨_, _, by decide, fun s H Ca cl fp => gv_tup (gvs_cons (gv_name 1 nd) (gvs_cons (gv_name 2 nd) gvs_nil)), fun s H Ca cl fp => ev_var 2 rfl⟩))) (by rw [e]))) ⟨planes t, rfl, hA, by omega, hC, rfl⟩)) hp))
theorem sc__law_go : FnScope ["_law_element_here", "_law_ray", "_law_height", "_law_slope"] ["_law_element_here", "_law_ray"] (defScope (top 97)) := ⟨rfl, rfl, rfl, by decide +kernel, rfl, by decide +kernel, by decide +kernel⟩
def pm__law_go : Pm := fun ds p => ∃ (e : El) (z : Ray), ds = [el e, ray z] ∧ ElB e ∧ ZB z ∧ p (ray (goOf e z))
theorem k__law_go (E : Hd K mg) : Kn P w K mg base "_law_go" [] 4 (spD K W 2 pm__law_go) :=
  kn_mk 76 E rfl rfl (fun _ _ _ _ _ _ us hl => match us, hl with | [_, _], _ => rfl) fun f fd F => fn_mk F sc__law_go (by
    rintro X C cdv A outer s H E' P0 ds p rfl rfl hr ⟨e, z, rfl, he, hz, hp⟩
    have nd := sc__law_go.nd
    dsimp only [iniL, iniN, List.tail]
    refine sw_cons (s1_asg (ev_var 1 rfl) (gv_tup (gvs_cons (gv_name 2 nd) (gvs_cons (gv_name 3 nd) gvs_nil))) ?_)
    all_goals (try dsimp only [List.set])
    try dsimp only [List.set]
    cases e with
    | gap x =>
      exact sw_cons (s1_take (tv_eqS (ev_el0 (ev_var 0 rfl)) ev_str) rfl (sw_one (s1_ret (EV.r (ev_tup (evs_cons (lq_add E hr ⟨ev_var 2 rfl, hz.1⟩ (lq_mul E hr ⟨ev_ixT (d := fr x) (ev_var 0 rfl) ev_int rfl, he⟩ ⟨ev_var 3 rfl, hz.2⟩)).ev (evs_one (ev_var 3 rfl))))) hp)))
    | lens q c =>
      refine sw_cons (s1_skip (tv_eqS (ev_el0 (ev_var 0 rfl)) ev_str) rfl (sw_nil ?_))
      all_goals (try dsimp only [List.set])
      exact sw_cons (s1_take (tv_eqS (ev_el0 (ev_var 0 rfl)) ev_str) rfl (sw_one (s1_ret (EV.r (ev_tup (evs_cons (ev_var 2 rfl) (evs_one (lq_sub E hr ⟨ev_var 3 rfl, hz.2⟩ (lq_mul E hr ⟨ev_ixT (d := fr q) (ev_var 0 rfl) ev_int rfl, he.1⟩ (lq_sub E hr ⟨ev_var 2 rfl, hz.1⟩ ⟨ev_ixT (d := fr c) (ev_var 0 rfl) ev_int rfl, he.2⟩))).ev)))) hp)))
    | prism x =>
      refine sw_cons (s1_skip (tv_eqS (ev_el0 (ev_var 0 rfl)) ev_str) rfl (sw_nil ?_))
      all_goals (try dsimp only [List.set])
      refine sw_cons (s1_skip (tv_eqS (ev_el0 (ev_var 0 rfl)) ev_str) rfl (sw_nil ?_))
      all_goals (try dsimp only [List.set])
      exact sw_cons (s1_take (tv_eqS (ev_el0 (ev_var 0 rfl)) ev_str) rfl (sw_one (s1_ret (EV.r (ev_tup (evs_cons (ev_var 2 rfl) (evs_one (lq_add E hr ⟨ev_var 3 rfl, hz.2⟩ ⟨ev_ixT (d := fr x) (ev_var 0 rfl) ev_int rfl, he⟩).ev)))) hp)))
    | afocal m =>
      refine sw_cons (s1_skip (tv_eqS (ev_el0 (ev_var 0 rfl)) ev_str) rfl (sw_nil ?_))
      all_goals (try dsimp only [List.set])
      refine sw_cons (s1_skip (tv_eqS (ev_el0 (ev_var 0 rfl)) ev_str) rfl (sw_nil ?_))
      all_goals (try dsimp only [List.set])
      refine sw_cons (s1_skip (tv_eqS (ev_el0 (ev_var 0 rfl)) ev_str) rfl (sw_nil ?_))
      all_goals (try dsimp only [List.set])
      exact sw_cons (s1_take (tv_eqS (ev_el0 (ev_var 0 rfl)) ev_str) rfl (sw_one (s1_ret (EV.r (ev_tup (evs_cons (lq_mul E hr ⟨ev_ixT (d := fr m) (ev_var 0 rfl) ev_int rfl, he.1⟩ ⟨ev_var 2 rfl, hz.1⟩).ev (evs_one (lq_div E hr ⟨ev_var 3 rfl, hz.2⟩ ⟨ev_ixT (d := fr m) (ev_var 0 rfl) ev_int rfl, he.1⟩ he.2).ev)))) hp)))
    | stop lo hi =>
      refine sw_cons (s1_skip (tv_eqS (ev_el0 (ev_var 0 rfl)) ev_str) rfl (sw_nil ?_))
      all_goals (try dsimp only [List.set])
      refine sw_cons (s1_skip (tv_eqS (ev_el0 (ev_var 0 rfl)) ev_str) rfl (sw_nil ?_))
      all_goals (try dsimp only [List.set])
      refine sw_cons (s1_skip (tv_eqS (ev_el0 (ev_var 0 rfl)) ev_str) rfl (sw_nil ?_))
      all_goals (try dsimp only [List.set])
      refine sw_cons (s1_skip (tv_eqS (ev_el0 (ev_var 0 rfl)) ev_str) rfl (sw_nil ?_))
      all_goals (try dsimp only [List.set])
      exact sw_one (s1_ret (EV.r (ev_var 1 rfl)) hp))
theorem sc__law_out : FnScope ["_law_train_here", "_law_ray", "_law_element_here"] ["_law_train_here", "_law_ray"] (defScope (top 98)) := ⟨rfl, rfl, rfl, by decide +kernel, rfl, by decide +kernel, by decide +kernel⟩
def pm__law_out : Pm := fun ds p => ∃ (t : List El) (z : Ray), ds = [.list (t.map el), ray z] ∧ (∀ e ∈ t, ElB e) ∧ (∀ i, ZB (outOf (t.take i) z)) ∧ t.length ≤ 1000 ∧ p (ray (outOf t z))
theorem k__law_out (E : Hd K mg) : Kn P w K mg base "_law_out" [] 5 (spD K W 2 pm__law_out) :=
  kn_mk 77 E rfl rfl (fun _ _ _ _ _ _ us hl => match us, hl with | [_, _], _ => rfl) fun f fd F => fn_mk F sc__law_out (by
    rintro X C cdv A outer s H E' P0 ds p rfl rfl hr ⟨t, z, rfl, hE, hZ, hl, hp⟩
    have nd := sc__law_out.nd
    dsimp only [iniL, iniN, List.tail]
    refine sw_cons (s1_for el t (iv_lst (ev_var 0 rfl)) (fun i Γ => ∃ v, Γ = [.pu (.list (t.map el)), .pu (ray (outOf (t.take i) z)), v]) ⟨_, rfl⟩ ?_ ?_)
    all_goals (try dsimp only [List.set])
    · rintro i e _ hx ⟨v, rfl⟩
      have ht : t.take (i + 1) = t.take i ++ [e] := by rw [List.take_succ, hx]; rfl
      refine ⟨_, _, gv_name 2 nd, ?_⟩
      try dsimp only [List.set]
      refine sw_one (s1_set 1 nd (ev_fn (k__law_go E) hr (by decide) (evs_cons (ev_var 2 rfl) (evs_one (ev_var 1 rfl))) ⟨e, outOf (t.take i) z, rfl, hE e (List.mem_of_getElem? hx), hZ i, rfl⟩) ⟨.pu (el e), ?_⟩)
      rw [ht, outOf_add]
      rfl
    · rintro _ ⟨v, rfl⟩
      rw [List.take_length]
      exact sw_one (s1_ret (EV.r (ev_var 1 rfl)) hp))
theorem En.sum {i : Nat} {x y : Rat} (hx : En i x) (hy : En i y) (hi : i ≤ 7) : RB 200 100 (x + y) := ((hx.rb hi).add (hy.rb hi)).mono (by decide) (by decide)
theorem out_b {t : List El} (hT : TrW t) {z : Ray} (hz : z = (0, 0) ∨ z = (1, 0) ∨ z = (0, 1)) (i : Nat) : RB 200 100 (outOf (t.take i) z).1 ∧ RB 200 100 (outOf (t.take i) z).2 := by
  obtain ⟨hM, hi⟩ := hT.take i
  rw [outOf_appl (t.take i) (fun e he => hT.el e (List.mem_of_mem_take he))]
  have w : ∀ {x}, En (t.take i).length x → RB 200 100 x := fun h => (h.rb hi).mono (by decide) (by decide)
  rcases hz with rfl | rfl | rfl
  · have e : appl (mapOf (t.take i)) (0, 0) = ((mapOf (t.take i)).e, (mapOf (t.take i)).f) := by unfold appl; apply Prod.ext <;> simp only <;> grind
    rw [e]; exact ⟨w hM.e, w hM.f⟩
  · have e : appl (mapOf (t.take i)) (1, 0) = ((mapOf (t.take i)).a + (mapOf (t.take i)).e, (mapOf (t.take i)).c + (mapOf (t.take i)).f) := by unfold appl; apply Prod.ext <;> simp only <;> grind
    rw [e]; exact ⟨hM.a.sum hM.e hi, hM.c.sum hM.f hi⟩
  · have e : appl (mapOf (t.take i)) (0, 1) = ((mapOf (t.take i)).b + (mapOf (t.take i)).e, (mapOf (t.take i)).d + (mapOf (t.take i)).f) := by unfold appl; apply Prod.ext <;> simp only <;> grind
    rw [e]; exact ⟨hM.b.sum hM.e hi, hM.d.sum hM.f hi⟩
theorem sc__law_map : FnScope ["_law_train_here", "_law_zero", "_law_one", "_law_two", "_law_top", "_law_bottom"] ["_law_train_here"] (defScope (top 99)) := ⟨rfl, rfl, rfl, by decide +kernel, rfl, by decide +kernel, by decide +kernel⟩
def pm__law_map : Pm := fun ds p => ∃ t : List El, ds = [.list (t.map el)] ∧ TrW t ∧ p (mp (mapOf t))
theorem k__law_map (E : Hd K mg) : Kn P w K mg base "_law_map" [] 6 (spD K W 1 pm__law_map) :=
  kn_mk 78 E rfl rfl (fun _ _ _ _ _ _ us hl => match us, hl with | [_], _ => rfl) fun f fd F => fn_mk F sc__law_map (by
    rintro X C cdv A outer s H E' P0 ds p rfl rfl hr ⟨t, rfl, hT, hp⟩
    have nd := sc__law_map.nd
    dsimp only [iniL, iniN, List.tail]
    have hl := hT.len
    have hE : ∀ e ∈ t, ElB e := fun e he => (hT.el e he).b
    have ob := fun z (hz : z = (0, 0) ∨ z = (1, 0) ∨ z = (0, 1)) => (fun i => ⟨(out_b hT hz i).1.mono (by decide) (by decide), (out_b hT hz i).2.mono (by decide) (by decide)⟩ : ∀ i, ZB (outOf (t.take i) z))
    have q0 : RB 200 100 (outOf t (0, 0)).1 ∧ RB 200 100 (outOf t (0, 0)).2 := by have := out_b hT (z := (0, 0)) (.inl rfl) t.length; rwa [List.take_length] at this
    have q1 : RB 200 100 (outOf t (1, 0)).1 ∧ RB 200 100 (outOf t (1, 0)).2 := by have := out_b hT (z := (1, 0)) (.inr (.inl rfl)) t.length; rwa [List.take_length] at this
    have q2 : RB 200 100 (outOf t (0, 1)).1 ∧ RB 200 100 (outOf t (0, 1)).2 := by have := out_b hT (z := (0, 1)) (.inr (.inr rfl)) t.length; rwa [List.take_length] at this
    refine sw_cons (s1_set 1 nd (ev_fn (k__law_out E) hr (by decide) (evs_cons (ev_var 0 rfl) (evs_one (ev_tup (evs_cons (eq_con (n := 0) (by decide)).ev (evs_one (eq_con (n := 0) (by decide)).ev))))) ⟨t, (0, 0), rfl, hE, ob _ (.inl rfl), by omega, rfl⟩) ?_)
    all_goals (try dsimp only [List.set])
    refine sw_cons (s1_set 2 nd (ev_fn (k__law_out E) hr (by decide) (evs_cons (ev_var 0 rfl) (evs_one (ev_tup (evs_cons (eq_con (n := 1) (by decide)).ev (evs_one (eq_con (n := 0) (by decide)).ev))))) ⟨t, (1, 0), rfl, hE, ob _ (.inr (.inl rfl)), by omega, rfl⟩) ?_)
    all_goals (try dsimp only [List.set])
    refine sw_cons (s1_set 3 nd (ev_fn (k__law_out E) hr (by decide) (evs_cons (ev_var 0 rfl) (evs_one (ev_tup (evs_cons (eq_con (n := 0) (by decide)).ev (evs_one (eq_con (n := 1) (by decide)).ev))))) ⟨t, (0, 1), rfl, hE, ob _ (.inr (.inr rfl)), by omega, rfl⟩) ?_)
    all_goals (try dsimp only [List.set])
    refine sw_cons (s1_set 4 nd (ev_tup (evs_cons (lq_sub E hr ⟨ev_ixT (ev_var 2 rfl) ev_int rfl, q1.1⟩ ⟨ev_ixT (ev_var 1 rfl) ev_int rfl, q0.1⟩).ev (evs_one (lq_sub E hr ⟨ev_ixT (ev_var 3 rfl) ev_int rfl, q2.1⟩ ⟨ev_ixT (ev_var 1 rfl) ev_int rfl, q0.1⟩).ev))) ?_)
    all_goals (try dsimp only [List.set])
    refine sw_cons (s1_set 5 nd (ev_tup (evs_cons (lq_sub E hr ⟨ev_ixT (ev_var 2 rfl) ev_int rfl, q1.2⟩ ⟨ev_ixT (ev_var 1 rfl) ev_int rfl, q0.2⟩).ev (evs_one (lq_sub E hr ⟨ev_ixT (ev_var 3 rfl) ev_int rfl, q2.2⟩ ⟨ev_ixT (ev_var 1 rfl) ev_int rfl, q0.2⟩).ev))) ?_)
    all_goals (try dsimp only [List.set])
    have oa := outOf_appl t hT.el
    rw [oa, oa, oa]
    have e1 : (appl (mapOf t) (1, 0)).1 - (appl (mapOf t) (0, 0)).1 = (mapOf t).a := by unfold appl; simp only; grind
    have e2 : (appl (mapOf t) (0, 1)).1 - (appl (mapOf t) (0, 0)).1 = (mapOf t).b := by unfold appl; simp only; grind
    have e3 : (appl (mapOf t) (1, 0)).2 - (appl (mapOf t) (0, 0)).2 = (mapOf t).c := by unfold appl; simp only; grind
    have e4 : (appl (mapOf t) (0, 1)).2 - (appl (mapOf t) (0, 0)).2 = (mapOf t).d := by unfold appl; simp only; grind
    have e5 : ray (appl (mapOf t) (0, 0)) = .tuple [fr (mapOf t).e, fr (mapOf t).f] := by
      have a1 : (appl (mapOf t) (0, 0)).1 = (mapOf t).e := by unfold appl; simp only; grind
      have a2 : (appl (mapOf t) (0, 0)).2 = (mapOf t).f := by unfold appl; simp only; grind
      unfold ray
      rw [a1, a2]
    rw [e1, e2, e3, e4, e5]
    exact sw_one (s1_ret (EV.r (ev_catT (ev_catT (ev_var 4 rfl) (ev_var 5 rfl) (by simp) (by simp) (Nat.le_of_ble_eq_true rfl)) (ev_var 1 rfl) (by simp) (by simp) (Nat.le_of_ble_eq_true rfl))) hp))
theorem sc__law_plane : FnScope ["_law_p", "_law_q", "_law_r", "_law_whole", "_law_parts", "_law_share", "_law_part", "_law_one"] ["_law_p", "_law_q", "_law_r"] (defScope (top 100)) := ⟨rfl, rfl, rfl, by decide +kernel, rfl, by decide +kernel, by decide +kernel⟩
def pm__law_plane : Pm := fun ds p => ∃ x y z : Rat, ds = [fr x, fr y, fr z] ∧ RB 1200 1200 x ∧ RB 1200 1200 y ∧ RB 1200 1200 z ∧ (x ≠ 0 ∨ y ≠ 0) ∧ p (pl (mkPl x y z))
theorem k__law_plane (E : Hd K mg) : Kn P w K mg base "_law_plane" [] 1 (spD K W 3 pm__law_plane) :=
  kn_mk 79 E rfl rfl (fun _ _ _ _ _ _ us hl => match us, hl with | [_, _, _], _ => rfl) fun f fd F => fn_mk F sc__law_plane (by
    rintro X C cdv A outer s H E' P0 ds p rfl rfl hr ⟨x, y, z, rfl, hx, hy, hz, h0, hp⟩
    have nd := sc__law_plane.nd
    dsimp only [iniL, iniN, List.tail]
    have hab := E.free "abs" (by simp)
    have hin := E.free "int" (by simp)
    have hps := mkPs_lt hx hy hz
    have hne := mkPa_ne2 (r := z) h0
    have hg := igcd3_le (c := mkPa x y z z) hne
    have hgl : (igcd3 (mkPa x y z x) (mkPa x y z y) (mkPa x y z z)).natAbs ≤ 2 ^ 4800 := Nat.le_trans hg.2 (Nat.max_le.mpr ⟨Nat.le_of_lt (mkPa_lt hx hy hz hx), Nat.le_of_lt (mkPa_lt hx hy hz hy)⟩)
    refine sw_cons (s1_set 3 nd (ev_mul (ev_mul (ev_den (ev_var 0 rfl)) (ev_den (ev_var 1 rfl)) (cm_of hx.dlt hy.dlt (by decide))) (ev_den (ev_var 2 rfl)) (cm_of (imul_lt hx.dlt hy.dlt) hz.dlt (by decide))) ?_)
    all_goals (try dsimp only [List.set])
    refine sw_cons (s1_lc 4 [("_law_part", 6)] fr (fun t => .int (mkPa x y z t)) [x, y, z] nd (iv_lst3 (ev_lst (evs_cons (ev_var 0 rfl) (evs_cons (ev_var 1 rfl) (evs_one (ev_var 2 rfl)))))) (blkOk_by rfl) (by simp) (fun t ht => ?_) ?_)
    all_goals (try dsimp only [List.set])
    · have htb : RB 1200 1200 t := by
        simp only [List.mem_cons, List.not_mem_nil, or_false] at ht
        rcases ht with rfl | rfl | rfl <;> assumption
      refine ⟨_, _, by decide, fun s H Ca cl fp => gv_name 6 nd, fun s H Ca cl fp => ?_⟩
      exact ev_mul (ev_num (ev_var 6 rfl)) (ev_fdiv (ev_var 3 rfl) (ev_den (ev_var 6 rfl)) (wdiv (b := 1200) (by have := t.den_pos; omega) (by have := htb.2; simpa only [Int.natAbs_natCast] using this) (by decide))) (cm_of htb.1 (Nat.lt_of_le_of_lt (Nat.le_trans div_nat_le hps) (Nat.pow_lt_pow_right (a := 2) (m := 3600) (n := 3601) (by decide) (by decide))) (by decide))
    try dsimp only [List.set]
    refine sw_freeze 4 rfl ?_
    try dsimp only [List.set]
    refine sw_cons (s1_set 5 nd ev_int ?_)
    all_goals (try dsimp only [List.set])
    try dsimp only [List.set]
    rw [mkPl_eq] at hp
    have e3 : [x, y, z].map (fun t => PyData.int (mkPa x y z t)) = [mkPa x y z x, mkPa x y z y, mkPa x y z z].map .int := rfl
    rw [e3]
    generalize mkPa x y z x = a at hg hgl hp ⊢
    generalize mkPa x y z y = b at hg hgl hp ⊢
    generalize mkPa x y z z = c at hg hgl hp ⊢
    refine sw_cons (s1_for PyData.int [a, b, c] (iv_lst (ev_var 4 rfl)) (fun i Γ => ∃ (g : Nat) (u v : Sl), Γ = [.pu (fr x), .pu (fr y), .pu (fr z), .pu (.int ((x.den : Int) * y.den * z.den)), .pu (.list ([a, b, c].map .int)), .pu (.int (g : Int)), u, v] ∧ g = (([a, b, c].take i).map Int.natAbs).foldl Nat.gcd 0) ⟨0, .no, .no, rfl, rfl⟩ ?_ ?_)
    all_goals (try dsimp only [List.set])
    · rintro i n _ hx ⟨g, u, v, rfl, hgi⟩
      have htk : (([a, b, c].take (i + 1)).map Int.natAbs).foldl Nat.gcd 0 = Nat.gcd g n.natAbs := by
        rw [List.take_succ, hx, List.map_append, List.foldl_append, ← hgi]; rfl
      refine ⟨_, _, gv_name 6 nd, ?_⟩
      try dsimp only [List.set]
      refine sw_cons (s1_set 7 nd (ev_abs hab (ev_var 6 rfl)) ?_)
      all_goals (try dsimp only [List.set])
      try dsimp only [List.set]
      refine sw_one (s1_while (fun m Γ => ∃ q : Nat, Γ = [.pu (fr x), .pu (fr y), .pu (fr z), .pu (.int ((x.den : Int) * y.den * z.den)), .pu (.list ([a, b, c].map .int)), .pu (.int (q : Int)), .pu (.int n), .pu (.int (m : Int))] ∧ Nat.gcd q m = Nat.gcd g n.natAbs) n.natAbs ⟨g, rfl, rfl⟩ ?_)
      all_goals (try dsimp only [List.set])
      rintro m _ ⟨q, rfl, hqm⟩
      refine ⟨_, tv_gt (ev_var 7 rfl) ev_int, fun ht => ?_, fun ht => ?_⟩
      · have hm : 0 < m := by simpa using ht
        refine sw_one (s1_par 5 7 nd (ev_var 7 rfl) (ev_mod (ev_intI hin (ev_var 5 rfl)) (ev_intI hin (ev_var 7 rfl)) (by omega)) ?_)
        all_goals (try dsimp only [List.set])
        exact ⟨q % m, Nat.mod_lt _ hm, m, rfl, by rw [← hqm, Nat.gcd_comm q m, Nat.gcd_rec m q, Nat.gcd_comm]⟩
      · have hm : m = 0 := by simpa using ht
        subst hm
        rw [Nat.gcd_zero_right] at hqm
        exact ⟨q, _, _, rfl, by rw [htk, hqm]⟩
    rintro _ ⟨g, u, v, rfl, hgi⟩
    have hgg : (g : Int) = igcd3 a b c := by rw [gcd3_nat, hgi]; rfl
    rw [hgg]
    have hc : ∀ i, CDivW i (igcd3 a b c) := fun i => wdiv hg.1 hgl (by decide)
    exact sw_one (s1_ret (EV.r (ev_tup (evs_cons (ev_fdiv (ev_ixL (ev_var 4 rfl) ev_int rfl) (ev_var 5 rfl) (hc _)) (evs_cons (ev_fdiv (ev_ixL (ev_var 4 rfl) ev_int rfl) (ev_var 5 rfl) (hc _)) (evs_one (ev_fdiv (ev_ixL (ev_var 4 rfl) ev_int rfl) (ev_var 5 rfl) (hc _))))))) hp))
end
end RT
end
section
set_option Elab.async false
set_option linter.all false
set_option maxRecDepth 100000
set_option maxHeartbeats 4000000
set_option exponentiation.threshold 20000
/-! B13: the law's edges, bounds. -/
namespace RT
open PySem PySem.Spec PyProof.Rows L2
theorem gv_unl {X : Cx} {C : Ct} {Γ Γ' : List Sl} {es : List Expr} {ds : List PD} {pos : Pos} {k : Nat} {ws : List Nat} (h : GVs X C es Γ ds Γ' ws) (hc : X.calm = true := by rfl) (hn : (assignEach es X.env).length = ds.length := by rfl) (hst : (assignEach es X.env).findIdx? (·.1) = none := by rfl) : GV X C (.Tuple es k pos) Γ (.list ds) Γ' ws := .mk fun hK P σ H v o z Q q => by
  obtain ⟨a, vs, rfl, hP, h1, h2⟩ := z.lst_at
  exact w_pg (pg_unl hc pgs_w hn hst) ⟨a, vs, rfl, SqL.of h1, h2.length, h hK P σ H vs o h2 Q q⟩
def loD (i : Nat) (lo : Option Rat) (m : Mp) : List PD := match lo with
  | none => []
  | some x => [.tuple [.tuple [.int (i : Int), .str "lower"], pl (mkPl (-m.a) (-m.b) (m.e - x))]]
def hiD (i : Nat) (hi : Option Rat) (m : Mp) : List PD := match hi with
  | none => []
  | some y => [.tuple [.tuple [.int (i : Int), .str "upper"], pl (mkPl m.a m.b (y - m.e))]]
theorem edgesOf_eq2 (i : Nat) (lo hi : Option Rat) (m : Mp) : (edgesOf i lo hi m).map edp = loD i lo m ++ hiD i hi m := edgesOf_eq i lo hi m
theorem loD_len (i : Nat) (lo : Option Rat) (m : Mp) : (loD i lo m).length ≤ 1 := by cases lo <;> simp [loD]
def elEdges (i : Nat) (m : Mp) : El → List (Ed × Pl)
  | .stop lo hi => edgesOf i lo hi m
  | _ => []
theorem hpAt_el {t : List El} {i : Nat} {e : El} (h : t[i]? = some e) : hpAt t i = elEdges i (mapOf (t.take i)) e := by
  unfold hpAt elEdges
  rw [h]
  cases e <;> rfl
/-- profiles of lines, of rows -/
structure LU (l : Ln) : Prop where
  a : RB 904 300 l.a
  b : RB 906 300 l.b
  c : RB 904 0 l.c
structure RU (l : Ln) : Prop where
  a : RB 2411 1806 l.a
  c : RB 2111 1206 l.c
theorem LU.r {l : Ln} (h : LU l) : RU l := ⟨h.a.mono (by decide) (by decide), h.c.mono (by decide) (by decide)⟩
theorem ne_of_num {x : Rat} (h : x.num ≠ 0) : x ≠ 0 := fun z => h (by rw [z]; rfl)
theorem lawComb_b {f g : Ln} (hf : LU f) (hg : LU g) (h0 : g.b.num ≠ 0) : RU (lawComb f g) := by
  have s : RB 1206 1206 (-(f.b / g.b)) := (RB.neg (hf.b.div hg.b (ne_of_num h0))).mono (by decide) (by decide)
  exact ⟨(hf.a.add (s.mul hg.a)).mono (by decide) (by decide), (hf.c.add (s.mul hg.c)).mono (by decide) (by decide)⟩
theorem lawRows_b {ls : List Ln} (hL : ∀ l ∈ ls, LU l) : ∀ r ∈ lawRows ls, RU r := by
  intro r hr
  unfold lawRows at hr
  rcases List.mem_append.mp hr with h | h
  · exact (hL r (List.mem_filter.mp h).1).r
  · obtain ⟨one, h1, h2⟩ := List.mem_flatMap.mp h
    obtain ⟨other, h3, rfl⟩ := List.mem_map.mp h2
    obtain ⟨h4, h5⟩ := List.mem_filter.mp h3
    exact lawComb_b (hL _ (List.mem_filter.mp h1).1) (hL _ h4) (by have := of_decide_eq_true h5; omega)
theorem lawRows_len {ls : List Ln} (h : ls.length ≤ 50) : (lawRows ls).length ≤ 3000 := by
  unfold lawRows
  rw [List.length_append]
  have h1 := List.length_filter_le (fun l : Ln => decide (l.b.num = 0)) ls
  have h2 := List.length_filter_le (fun l : Ln => decide (l.b.num > 0)) ls
  have h3 := List.length_filter_le (fun l : Ln => decide (l.b.num < 0)) ls
  have key : ∀ (xs : List Ln) (ys : List Ln), (xs.flatMap fun one => ys.map (lawComb one)).length = xs.length * ys.length := by
    intro xs ys
    induction xs with
    | nil => simp
    | cons x xs ih => rw [List.flatMap_cons, List.length_append, ih, List.length_map, List.length_cons, Nat.add_mul]; omega
  rw [key]
  have h4 : (lnP ls).length * (lnN ls).length ≤ 50 * 50 := Nat.mul_le_mul (Nat.le_trans h2 h) (Nat.le_trans h3 h)
  unfold lnZ
  omega
section
variable {P : Program} {w : World} {K : PySem.W.Frag} {mg : Str → Option Value} {base : Heap} {W : Wo}
theorem sc__law_edges : FnScope ["_law_train_here", "_law_found", "_law_place", "_law_element_here", "_law_a", "_law_b", "_law_c", "_law_d", "_law_e", "_law_f"] ["_law_train_here"] (defScope (top 101)) := ⟨rfl, rfl, rfl, by decide +kernel, rfl, by decide +kernel, by decide +kernel⟩
def pm__law_edges : Pm := fun ds p => ∃ t : List El, ds = [.list (t.map el)] ∧ TrW t ∧ p (.list ((hps t).map edp))
theorem k__law_edges (E : Hd K mg) : Kn P w K mg base "_law_edges" [] 7 (spD K W 1 pm__law_edges) :=
  kn_mk 80 E rfl rfl (fun _ _ _ _ _ _ us hl => match us, hl with | [_], _ => rfl) fun f fd F => fn_mk F sc__law_edges (by
    rintro X C cdv A outer s H E' P0 ds p rfl rfl hr ⟨t, rfl, hT, hp⟩
    have nd := sc__law_edges.nd
    dsimp only [iniL, iniN, List.tail]
    have hlen := hT.len
    refine sw_cons (s1_own 1 nd (evl_lst evs_nil) ?_)
    all_goals (try dsimp only [List.set])
    refine sw_cons (s1_for (fun (j : Nat) => PyData.int (j : Int)) (List.range t.length) (iv_rng0 (E.free "range" (by simp)) (EV.is (ev_len (E.free "len" (by simp)) (ev_var 0 rfl)) (by rw [List.length_map])) (by omega)) (fun i Γ => ∃ x2 x3 x4 x5 x6 x7 x8 x9, Γ = [.pu (.list (t.map el)), .ow ((hpTo t i).map edp), x2, x3, x4, x5, x6, x7, x8, x9]) ⟨.no, .no, .no, .no, .no, .no, .no, .no, rfl⟩ ?_ ?_)
    all_goals (try dsimp only [List.set])
    · rintro i _ _ hx ⟨x2, x3, x4, x5, x6, x7, x8, x9, rfl⟩
      obtain ⟨rfl, hi⟩ := range_at hx
      rename_i i
      obtain ⟨e, he⟩ : ∃ e, t[i]? = some e := ⟨_, List.getElem?_eq_getElem hi⟩
      have hel := (hT.el e (List.mem_of_getElem? he))
      have hl := hpTo_len t i
      refine ⟨_, _, gv_name 2 nd, ?_⟩
      try dsimp only [List.set]
      refine sw_cons (s1_set 3 nd (ev_ixL (ev_var 0 rfl) (ev_var 2 rfl) (atI_nat he)) ?_)
      all_goals (try dsimp only [List.set])
      try dsimp only [List.set]
      rw [hpTo_succ]
      rw [hpAt_el he]
      cases e with
      | stop lo hi =>
        obtain ⟨hE, hk⟩ := hT.take i
        have hm := hE.b' hk
        have h0 := hE.ab
        have h0' : -(mapOf (t.take i)).a ≠ 0 ∨ -(mapOf (t.take i)).b ≠ 0 := h0.imp (fun z y => z (by grind)) (fun z y => z (by grind))
        have hb := hel.b
        have hTk : TrW (t.take i) := ⟨fun x hx => hT.el x (List.mem_of_mem_take hx), by rw [List.length_take]; omega⟩
        refine sw_one (s1_take (tv_eqS (ev_el0 (ev_var 3 rfl)) ev_str) rfl ?_)
        all_goals (try dsimp only [List.set])
        refine sw_cons (s1_asg (ev_fn (k__law_map E) hr (by decide) (evs_one (EV.is (ev_slice (ev_var 0 rfl) evo_none (evo_some (ev_var 2 rfl))) (by rw [cutD_take, ← List.map_take]))) ⟨t.take i, rfl, hTk, rfl⟩) (gv_tup (gvs_cons (gv_name 4 nd) (gvs_cons (gv_name 5 nd) (gvs_cons (gv_name 6 nd) (gvs_cons (gv_name 7 nd) (gvs_cons (gv_name 8 nd) (gvs_cons (gv_name 9 nd) gvs_nil))))))) ?_)
        all_goals (try dsimp only [List.set])
        try dsimp only [List.set]
        generalize mapOf (t.take i) = m at hm h0 h0' ⊢
        rw [List.map_append, show elEdges i m (.stop lo hi) = edgesOf i lo hi m from rfl, edgesOf_eq2]
        have big : ∀ {n d x}, RB n d x → n ≤ 1200 → d ≤ 1200 → RB 1200 1200 x := fun h a b => h.mono a b
        refine sw_cons (s1_ifJ (fun Γ => Γ = [.pu (.list (t.map el)), .ow ((hpTo t i).map edp ++ loD i lo m), .pu (.int (i : Int)), .pu (el (.stop lo hi)), .pu (fr m.a), .pu (fr m.b), .pu (fr m.c), .pu (fr m.d), .pu (fr m.e), .pu (fr m.f)]) (tv_notN (ev_ixT (ev_var 3 rfl) ev_int rfl)) (fun ht => ?_) (fun ht => ?_) ?_)
        all_goals (try dsimp only [List.set])
        · cases lo with
          | none => cases ht
          | some x =>
            refine sw_one (s1_append 1 rfl (ev_tup (evs_cons (ev_tup (evs_cons (ev_var 2 rfl) (evs_one ev_str))) (evs_one (ev_fn (k__law_plane E) hr (by decide) (evs_cons (lq_neg E hr ⟨ev_var 4 rfl, hm.a⟩).ev (evs_cons (lq_neg E hr ⟨ev_var 5 rfl, hm.b⟩).ev (evs_one (lq_sub E hr ⟨ev_var 8 rfl, hm.e⟩ ⟨ev_ixT (d := fr x) (ev_var 3 rfl) ev_int rfl, hb.1 x rfl⟩).ev))) ⟨-m.a, -m.b, m.e - x, rfl, big hm.a.neg (by decide) (by decide), big hm.b.neg (by decide) (by decide), big (hm.e.sub (hb.1 x rfl)) (by decide) (by decide), h0', rfl⟩)))) ?_ (by rw [List.length_map]; omega))
            rfl
        · cases lo with
          | none => exact sw_nil (by simp [loD])
          | some x => cases ht
        · rintro _ rfl
          refine sw_one (s1_if (tv_notN (ev_ixT (ev_var 3 rfl) ev_int rfl)) (fun ht => ?_) (fun ht => ?_))
          all_goals (try dsimp only [List.set])
          · cases hi with
            | none => cases ht
            | some y =>
              refine sw_one (s1_append 1 rfl (ev_tup (evs_cons (ev_tup (evs_cons (ev_var 2 rfl) (evs_one ev_str))) (evs_one (ev_fn (k__law_plane E) hr (by decide) (evs_cons (ev_var 4 rfl) (evs_cons (ev_var 5 rfl) (evs_one (lq_sub E hr ⟨ev_ixT (d := fr y) (ev_var 3 rfl) ev_int rfl, hb.2 y rfl⟩ ⟨ev_var 8 rfl, hm.e⟩).ev))) ⟨m.a, m.b, y - m.e, rfl, big hm.a (by decide) (by decide), big hm.b (by decide) (by decide), big ((hb.2 y rfl).sub hm.e) (by decide) (by decide), h0, rfl⟩)))) ⟨_, _, _, _, _, _, _, _, by rw [← List.append_assoc]; rfl⟩ ?_)
              all_goals (try dsimp only [List.set])
              rw [List.length_append, List.length_map]
              have := loD_len i lo m
              omega
          · cases hi with
            | none => exact sw_nil ⟨_, _, _, _, _, _, _, _, by rw [show hiD i none m = [] from rfl, List.append_nil]⟩
            | some x => cases ht
      | _ =>
        simp only [elEdges, List.append_nil]
        exact sw_one (s1_skip (tv_eqS (ev_el0 (ev_var 3 rfl)) ev_str) rfl (sw_nil ⟨_, _, _, _, _, _, _, _, rfl⟩))
    · rintro _ ⟨x2, x3, x4, x5, x6, x7, x8, x9, rfl⟩
      rw [List.length_range]
      exact sw_one (s1_ret (evr_own 1 rfl) hp))
theorem sc__law_planes : FnScope ["_law_train_here", "_law_edge"] ["_law_train_here"] (defScope (top 102)) := ⟨rfl, rfl, rfl, by decide +kernel, rfl, by decide +kernel, by decide +kernel⟩
def pm__law_planes : Pm := fun ds p => ∃ t : List El, ds = [.list (t.map el)] ∧ TrW t ∧ p (.list ((planes t).map pl))
theorem k__law_planes (E : Hd K mg) : Kn P w K mg base "_law_planes" [] 8 (spD K W 1 pm__law_planes) :=
  kn_mk 81 E rfl rfl (fun _ _ _ _ _ _ us hl => match us, hl with | [_], _ => rfl) fun f fd F => fn_mk F sc__law_planes (by
    rintro X C cdv A outer s H E' P0 ds p rfl rfl hr ⟨t, rfl, hT, hp⟩
    have nd := sc__law_planes.nd
    dsimp only [iniL, iniN, List.tail]
    have hl := hpTo_len t t.length
    have hl2 := hT.len
    have e : ((hps t).map fun z => pl z.2) = (planes t).map pl := by unfold planes; rw [List.map_map]; rfl
    rw [← e] at hp
    exact sw_one (s1_ret (EV.r (EVL.ev (evl_lc (own := [("_law_edge", 1)]) edp (fun z => pl z.2) (hps t) nd (iv_lst (ev_fn (k__law_edges E) hr (by decide) (evs_one (ev_var 0 rfl)) ⟨t, rfl, hT, rfl⟩)) (blkOk_by rfl) (by unfold hps; omega) (fun z hz => ⟨_, _, by decide, fun s H Ca cl fp => gv_name 1 nd, fun s H Ca cl fp => ev_ixT (ev_var 1 rfl) ev_int rfl⟩)))) hp))
theorem sc__law_line : FnScope ["_law_plane_here", "_law_p", "_law_q", "_law_a", "_law_b", "_law_c", "_law_share", "_law_part"] ["_law_plane_here", "_law_p", "_law_q"] (defScope (top 103)) := ⟨rfl, rfl, rfl, by decide +kernel, rfl, by decide +kernel, by decide +kernel⟩
def pm__law_line : Pm := fun ds p => ∃ (h : Pl) (p' q : Rat), ds = [pl h, fr p', fr q] ∧ PlB 904 h ∧ DB p' ∧ DB q ∧ (p' ≠ 0 ∨ q ≠ 0) ∧ p (ln (lawLine h p' q))
theorem k__law_line (E : Hd K mg) : Kn P w K mg base "_law_line" [] 4 (spD K W 3 pm__law_line) :=
  kn_mk 82 E rfl rfl (fun _ _ _ _ _ _ us hl => match us, hl with | [_, _, _], _ => rfl) fun f fd F => fn_mk F sc__law_line (by
    rintro X C cdv A outer s H E' P0 ds p rfl rfl hr ⟨h, p', q, rfl, hh, h1, h2, h0, hp⟩
    have nd := sc__law_line.nd
    dsimp only [iniL, iniN, List.tail]
    unfold lawLine at hp
    refine sw_cons (s1_asg (EVL.ev (evl_lc (own := [("_law_part", 7)]) PyData.int (fun i => fr (i : Rat)) [h.p, h.q, h.r] nd (iv_tup (ev_var 0 rfl)) (blkOk_by rfl) (by simp) (fun i hi => ⟨_, _, by decide, fun s H Ca cl fp => gv_name 7 nd, fun s H Ca cl fp => ev_tup (evs_cons (ev_var 7 rfl) (evs_one ev_int))⟩))) (gv_unl (gvs_cons (gv_name 3 nd) (gvs_cons (gv_name 4 nd) (gvs_cons (gv_name 5 nd) gvs_nil)))) ?_)
    all_goals (try dsimp only [List.set])
    try dsimp only [List.set]
    refine sw_cons (s1_if (tv_neI (ev_num (ev_var 2 rfl)) ev_int) (fun ht => ?_) fun ht => ?_)
    all_goals (try dsimp only [List.set])
    · have hq : q.num ≠ 0 := by simpa using ht
      rw [if_pos hq] at hp
      refine sw_cons (s1_set 6 nd (lq_div E hr ⟨ev_var 4 rfl, RB.int hh.q⟩ ⟨ev_var 2 rfl, h2⟩ (ne_of_num hq)).ev ?_)
      all_goals (try dsimp only [List.set])
      try dsimp only [List.set]
      have hs := (RB.int hh.q).div h2 (ne_of_num hq)
      exact sw_one (s1_ret (EV.r (ev_tup (evs_cons (ev_var 6 rfl) (evs_cons (lq_sub E hr ⟨ev_var 3 rfl, RB.int hh.p⟩ (lq_mul E hr ⟨ev_var 6 rfl, hs⟩ ⟨ev_var 1 rfl, h1⟩)).ev (evs_one (ev_var 5 rfl)))))) hp)
    · have hq : q.num = 0 := by simpa using ht
      rw [if_neg (by simpa using hq)] at hp
      have hp0 : p' ≠ 0 := h0.resolve_right fun z => z (Rat.num_eq_zero.mp hq)
      exact sw_nil (sw_one (s1_ret (EV.r (ev_tup (evs_cons (lq_div E hr ⟨ev_var 3 rfl, RB.int hh.p⟩ ⟨ev_var 1 rfl, h1⟩ hp0).ev (evs_cons (ev_var 4 rfl) (evs_one (ev_var 5 rfl)))))) hp)))
end
end RT
end
section
set_option Elab.async false
set_option linter.all false
set_option maxRecDepth 100000
set_option maxHeartbeats 4000000
set_option exponentiation.threshold 20000
/-! B14: the law's bounds of a direction. -/
namespace RT
open PySem PySem.Spec PyProof.Rows L2
theorem flat_lbD (o : Option (Option Rat × Option Rat)) : flat (lbD o) := by
  cases o with
  | none => exact ⟨rfl, Nat.le_of_ble_eq_true rfl⟩
  | some w =>
    obtain ⟨a, b⟩ := w
    cases a <;> cases b <;> exact ⟨rfl, Nat.le_of_ble_eq_true rfl⟩
theorem eqv_lb0 (o : Option (Option Rat × Option Rat)) : PyData.eqv (lbD o) (.tuple []) = o.isNone := by
  cases o with
  | none => rfl
  | some w => rfl
theorem lnLo_add (rs : List Ln) (r : Ln) : lnLo (rs ++ [r]) = lnLo rs ++ (if r.a.num < 0 then [r.c / r.a] else []) := by
  unfold lnLo
  rw [List.filter_append, List.map_append]
  congr 1
  by_cases h : r.a.num < 0 <;> simp [h]
theorem lnUp_add (rs : List Ln) (r : Ln) : lnUp (rs ++ [r]) = lnUp rs ++ (if r.a.num > 0 then [r.c / r.a] else []) := by
  unfold lnUp
  rw [List.filter_append, List.map_append]
  congr 1
  by_cases h : r.a.num > 0 <;> simp [h]
theorem lnLo_len (rs : List Ln) : (lnLo rs).length ≤ rs.length := by unfold lnLo; rw [List.length_map]; exact List.length_filter_le _ _
theorem lnUp_len (rs : List Ln) : (lnUp rs).length ≤ rs.length := by unfold lnUp; rw [List.length_map]; exact List.length_filter_le _ _
theorem lnLo_b {rs : List Ln} (h : ∀ r ∈ rs, RU r) : ∀ x ∈ lnLo rs, RB 3917 3617 x := by
  intro x hx
  obtain ⟨r, hr, rfl⟩ := List.mem_map.mp hx
  obtain ⟨h1, h2⟩ := List.mem_filter.mp hr
  exact ((h r h1).c.div (h r h1).a (ne_of_num (by have := of_decide_eq_true h2; omega))).mono (by decide) (by decide)
theorem lnUp_b {rs : List Ln} (h : ∀ r ∈ rs, RU r) : ∀ x ∈ lnUp rs, RB 3917 3617 x := by
  intro x hx
  obtain ⟨r, hr, rfl⟩ := List.mem_map.mp hx
  obtain ⟨h1, h2⟩ := List.mem_filter.mp hr
  exact ((h r h1).c.div (h r h1).a (ne_of_num (by have := of_decide_eq_true h2; omega))).mono (by decide) (by decide)
section
variable {P : Program} {w : World} {K : PySem.W.Frag} {mg : Str → Option Value} {base : Heap} {W : Wo}
section
variable {X : Cx} {C : Ct} {Γ : List Sl} {a b : Expr} {pos : Pos} {k : Nat} {l : Ln} {j : Nat} {p2 : Pos}
theorem eq_l0 {n d : Nat} (ha : EV X C a Γ (ln l)) (hb : RB n d l.a) : EQ X C (.Subscript a (.Constant (.int 0) j p2) pos) Γ n d l.a := ⟨ev_ixT ha ev_int rfl, hb⟩
theorem eq_l1 {n d : Nat} (ha : EV X C a Γ (ln l)) (hb : RB n d l.b) : EQ X C (.Subscript a (.Constant (.int 1) j p2) pos) Γ n d l.b := ⟨ev_ixT ha ev_int rfl, hb⟩
theorem eq_l2 {n d : Nat} (ha : EV X C a Γ (ln l)) (hb : RB n d l.c) : EQ X C (.Subscript a (.Constant (.int 2) j p2) pos) Γ n d l.c := ⟨ev_ixT ha ev_int rfl, hb⟩
theorem ev_n0 {q2 q3 : Pos} {j2 : Nat} (ha : EV X C a Γ (ln l)) : EV X C (.Subscript (.Subscript a (.Constant (.int 0) j p2) pos) (.Constant (.int 0) j2 q2) q3) Γ (.int l.a.num) := ev_num (ev_ixT (d := fr l.a) ha ev_int rfl)
theorem ev_n1 {q2 q3 : Pos} {j2 : Nat} (ha : EV X C a Γ (ln l)) : EV X C (.Subscript (.Subscript a (.Constant (.int 1) j p2) pos) (.Constant (.int 0) j2 q2) q3) Γ (.int l.b.num) := ev_num (ev_ixT (d := fr l.b) ha ev_int rfl)
theorem ev_n2 {q2 q3 : Pos} {j2 : Nat} (ha : EV X C a Γ (ln l)) : EV X C (.Subscript (.Subscript a (.Constant (.int 2) j p2) pos) (.Constant (.int 0) j2 q2) q3) Γ (.int l.c.num) := ev_num (ev_ixT (d := fr l.c) ha ev_int rfl)
end
theorem sc__law_bounds : FnScope ["_law_planes_here", "_law_p", "_law_q", "_law_lines", "_law_rows", "_law_one", "_law_other_here", "_law_share", "_law_top", "_law_lower", "_law_upper", "_law_row_here", "_law_least_here", "_law_most", "_law_plane_here", "_law_line_here"] ["_law_planes_here", "_law_p", "_law_q"] (defScope (top 104)) := ⟨rfl, rfl, rfl, by decide +kernel, rfl, by decide +kernel, by decide +kernel⟩
def pm__law_bounds : Pm := fun ds p => ∃ (hs : List Pl) (p' q : Rat), ds = [.list (hs.map pl), fr p', fr q] ∧ (∀ h ∈ hs, PlB 904 h ∧ LU (lawLine h p' q)) ∧ hs.length ≤ 50 ∧ DB p' ∧ DB q ∧ (p' ≠ 0 ∨ q ≠ 0) ∧ p (lbD (lawBounds hs p' q))
theorem k__law_bounds (E : Hd K mg) : Kn P w K mg base "_law_bounds" [] 5 (spD K W 3 pm__law_bounds) :=
  kn_mk 83 E rfl rfl (fun _ _ _ _ _ _ us hl => match us, hl with | [_, _, _], _ => rfl) fun f fd F => fn_mk F sc__law_bounds (by
    rintro X C cdv A outer s H E' P0 ds p rfl rfl hr ⟨hs, p', q, rfl, hH, hz, h1, h2, h0, hp⟩
    have nd := sc__law_bounds.nd
    dsimp only [iniL, iniN, List.tail]
    refine sw_cons (s1_lc 3 [("_law_plane_here", 14)] pl (fun h => ln (lawLine h p' q)) hs nd (iv_lst (ev_var 0 rfl)) (blkOk_by rfl) (by omega) (fun h hh => ⟨_, _, by decide, fun s H Ca cl fp => gv_name 14 nd, fun s H Ca cl fp => ev_fn (k__law_line E) hr (by decide) (evs_cons (ev_var 14 rfl) (evs_cons (ev_var 1 rfl) (evs_one (ev_var 2 rfl)))) ⟨h, p', q, rfl, (hH h hh).1, h1, h2, h0, rfl⟩⟩) ?_)
    all_goals (try dsimp only [List.set])
    try dsimp only [List.set]
    refine sw_freeze 3 rfl ?_
    try dsimp only [List.set]
    have eL : (hs.map fun h => ln (lawLine h p' q)) = (hs.map fun h => lawLine h p' q).map ln := by rw [List.map_map]; rfl
    rw [eL]
    unfold lawBounds at hp
    have hL : ∀ l ∈ hs.map fun h => lawLine h p' q, LU l := by
      intro l hl
      obtain ⟨h, hh, rfl⟩ := List.mem_map.mp hl
      exact (hH h hh).2
    have hzl : (hs.map fun h => lawLine h p' q).length ≤ 50 := by rw [List.length_map]; exact hz
    generalize (hs.map fun h => lawLine h p' q) = ls at hL hzl hp ⊢
    have hRb := lawRows_b hL
    have hRl := lawRows_len hzl
    refine sw_cons (s1_lcIf 4 [("_law_line_here", 15)] ln (fun l => decide (l.b.num = 0)) ln ls nd (iv_lst (ev_var 3 rfl)) (blkOk_by rfl) (by omega) (fun l hl => ⟨_, _, by decide, fun s H Ca cl fp => gv_name 15 nd, fun s H Ca cl fp => tv_eqI (ev_n1 (ev_var 15 rfl)) ev_int, fun _ s H Ca cl fp => ev_var 15 rfl⟩) ?_)
    all_goals (try dsimp only [List.set])
    try dsimp only [List.set]
    refine sw_cons (s1_for ln (lnP ls) (iv_lst (EVL.ev (evl_lcIf (own := [("_law_line_here", 15)]) ln (fun l => decide (l.b.num > 0)) ln ls nd (iv_lst (ev_var 3 rfl)) (blkOk_by rfl) (by omega) (fun l hl => ⟨_, _, by decide, fun s H Ca cl fp => gv_name 15 nd, fun s H Ca cl fp => tv_gt (ev_n1 (ev_var 15 rfl)) ev_int, fun _ s H Ca cl fp => ev_var 15 rfl⟩)))) (fun i Γ => ∃ fs x5 x6 x7 x8 x14 x15, Γ = [.pu (.list (hs.map pl)), .pu (fr p'), .pu (fr q), .pu (.list (ls.map ln)), .ow (fs.map ln), x5, x6, x7, x8, .no, .no, .no, .no, .no, x14, x15] ∧ fs ++ ((lnP ls).drop i).flatMap (fun one => (lnN ls).map (lawComb one)) = lawRows ls) ⟨lnZ ls, .no, .no, .no, .no, .no, .no, rfl, rfl⟩ ?_ ?_)
    all_goals (try dsimp only [List.set])
    · rintro i one _ hx ⟨fs, x5, x6, x7, x8, x14, x15, rfl, ht⟩
      have ho := hL one (List.mem_filter.mp (List.mem_of_getElem? hx)).1
      rw [drop_at hx, List.flatMap_cons] at ht
      refine ⟨_, _, gv_name 5 nd, ?_⟩
      try dsimp only [List.set]
      refine sw_one (s1_for ln (lnN ls) (iv_lst (EVL.ev (evl_lcIf (own := [("_law_line_here", 15)]) ln (fun l => decide (l.b.num < 0)) ln ls nd (iv_lst (ev_var 3 rfl)) (blkOk_by rfl) (by omega) (fun l hl => ⟨_, _, by decide, fun s H Ca cl fp => gv_name 15 nd, fun s H Ca cl fp => tv_lt (ev_n1 (ev_var 15 rfl)) ev_int, fun _ s H Ca cl fp => ev_var 15 rfl⟩)))) (fun j Γ => ∃ fs x6 x7 x8 x14 x15, Γ = [.pu (.list (hs.map pl)), .pu (fr p'), .pu (fr q), .pu (.list (ls.map ln)), .ow (fs.map ln), .pu (ln one), x6, x7, x8, .no, .no, .no, .no, .no, x14, x15] ∧ fs ++ (((lnN ls).drop j).map (lawComb one) ++ ((lnP ls).drop (i + 1)).flatMap (fun one => (lnN ls).map (lawComb one))) = lawRows ls) ⟨fs, x6, x7, x8, x14, x15, rfl, ht⟩ ?_ ?_)
      all_goals (try dsimp only [List.set])
      · rintro j other _ hy ⟨fs, x6, x7, x8, x14, x15, rfl, ht⟩
        obtain ⟨hm1, hm2⟩ := List.mem_filter.mp (List.mem_of_getElem? hy)
        have hoo := hL other hm1
        have hne : other.b.num ≠ 0 := by have := of_decide_eq_true hm2; omega
        rw [drop_at hy, List.map_cons] at ht
        have hl : fs.length ≤ 3000 := by
          have e := congrArg List.length ht
          rw [List.length_append] at e
          omega
        refine ⟨_, _, gv_name 6 nd, ?_⟩
        try dsimp only [List.set]
        have hs' : RB 1206 1206 (-(one.b / other.b)) := (RB.neg (ho.b.div hoo.b (ne_of_num hne))).mono (by decide) (by decide)
        refine sw_cons (s1_set 7 nd (lq_neg E hr (lq_div E hr (eq_l1 (ev_var 5 rfl) ho.b) (eq_l1 (ev_var 6 rfl) hoo.b) (ne_of_num hne))).ev ?_)
        all_goals (try dsimp only [List.set])
        try dsimp only [List.set]
        refine sw_cons (s1_set 8 nd (lq_add E hr (eq_l0 (ev_var 5 rfl) ho.a) (lq_mul E hr ⟨ev_var 7 rfl, hs'⟩ (eq_l0 (ev_var 6 rfl) hoo.a))).ev ?_)
        all_goals (try dsimp only [List.set])
        try dsimp only [List.set]
        refine sw_one (s1_append 4 rfl (ev_tup (evs_cons (ev_var 8 rfl) (evs_cons (eq_con (n := 0) (by decide)).ev (evs_one (lq_add E hr (eq_l2 (ev_var 5 rfl) ho.c) (lq_mul E hr ⟨ev_var 7 rfl, hs'⟩ (eq_l2 (ev_var 6 rfl) hoo.c))).ev)))) ⟨fs ++ [lawComb one other], .pu (ln other), .pu (fr (-(one.b / other.b))), .pu (fr (one.a + -(one.b / other.b) * other.a)), x14, x15, ?_, ?_⟩ (by rw [List.length_map]; omega))
        · rw [List.map_append]
          rfl
        · rw [List.append_assoc]
          exact ht
      · rintro _ ⟨fs, x6, x7, x8, x14, x15, rfl, ht⟩
        rw [List.drop_length, List.map_nil, List.nil_append] at ht
        exact ⟨fs, _, _, _, _, _, _, rfl, ht⟩
    rintro _ ⟨fs, x5, x6, x7, x8, x14, x15, rfl, ht⟩
    have hfs : fs = lawRows ls := by simpa using ht
    subst hfs
    clear ht
    generalize lawRows ls = rs at hRb hRl hp ⊢
    refine sw_freeze 4 rfl ?_
    try dsimp only [List.set]
    refine sw_cons (s1_own 9 nd (evl_lst evs_nil) ?_)
    all_goals (try dsimp only [List.set])
    try dsimp only [List.set]
    refine sw_cons (s1_own 10 nd (evl_lst evs_nil) ?_)
    all_goals (try dsimp only [List.set])
    try dsimp only [List.set]
    unfold lawBnd at hp
    refine sw_cons (s1_for ln rs (iv_lst (ev_var 4 rfl)) (fun i Γ => ∃ x11, Γ = [.pu (.list (hs.map pl)), .pu (fr p'), .pu (fr q), .pu (.list (ls.map ln)), .pu (.list (rs.map ln)), x5, x6, x7, x8, .ow ((lnLo (rs.take i)).map fr), .ow ((lnUp (rs.take i)).map fr), x11, .no, .no, x14, x15] ∧ (rs.take i).any lnBad = false) ⟨.no, rfl, rfl⟩ ?_ ?_)
    all_goals (try dsimp only [List.set])
    · rintro i r _ hx ⟨x11, rfl, hb⟩
      have hm := List.mem_of_getElem? hx
      have ru := hRb r hm
      have ht : rs.take (i + 1) = rs.take i ++ [r] := by rw [List.take_succ, hx]; rfl
      have l1 := lnLo_len (rs.take i)
      have l2 := lnUp_len (rs.take i)
      rw [List.length_take] at l1 l2
      rw [ht, lnLo_add, lnUp_add, List.any_append]
      refine ⟨_, _, gv_name 11 nd, ?_⟩
      try dsimp only [List.set]
      refine sw_cons (s1_if (TW.tv (tw_and (tv_eqI (ev_n0 (ev_var 11 rfl)) ev_int) fun _ => tw_and1 (tv_lt (ev_n2 (ev_var 11 rfl)) ev_int))) (fun hc => ?_) fun hc => ?_)
      all_goals (try dsimp only [List.set])
      · have hany : rs.any lnBad = true := List.any_eq_true.mpr ⟨r, hm, hc⟩
        rw [if_pos hany] at hp
        exact sw_one (s1_ret (EV.r (ev_tup evs_nil)) hp)
      have hb2 : lnBad r = false := hc
      refine sw_nil (sw_cons (s1_ifJ (fun Γ => Γ = [.pu (.list (hs.map pl)), .pu (fr p'), .pu (fr q), .pu (.list (ls.map ln)), .pu (.list (rs.map ln)), x5, x6, x7, x8, .ow ((lnLo (rs.take i)).map fr), .ow ((lnUp (rs.take i) ++ (if r.a.num > 0 then [r.c / r.a] else [])).map fr), .pu (ln r), .no, .no, x14, x15]) (tv_gt (ev_n0 (ev_var 11 rfl)) ev_int) (fun hc => ?_) (fun hc => ?_) ?_))
      all_goals (try dsimp only [List.set])
      · have hpos : r.a.num > 0 := of_decide_eq_true hc
        refine sw_one (s1_append 10 rfl (lq_div E hr (eq_l2 (ev_var 11 rfl) ru.c) (eq_l0 (ev_var 11 rfl) ru.a) (ne_of_num (by omega))).ev ?_ (by rw [List.length_map]; omega))
        rw [if_pos hpos, List.map_append]
        rfl
      · have hpos : ¬ r.a.num > 0 := of_decide_eq_false hc
        refine sw_nil ?_
        rw [if_neg hpos, List.append_nil]
      · rintro _ rfl
        refine sw_one (s1_if (tv_lt (ev_n0 (ev_var 11 rfl)) ev_int) (fun hc => ?_) (fun hc => ?_))
        all_goals (try dsimp only [List.set])
        · have hneg : r.a.num < 0 := of_decide_eq_true hc
          refine sw_one (s1_append 9 rfl (lq_div E hr (eq_l2 (ev_var 11 rfl) ru.c) (eq_l0 (ev_var 11 rfl) ru.a) (ne_of_num (by omega))).ev ⟨.pu (ln r), ?_, ?_⟩ (by rw [List.length_map]; omega))
          · rw [if_pos hneg]
            simp only [List.map_append]
            rfl
          · simp [hb, hb2]
        · have hneg : ¬ r.a.num < 0 := of_decide_eq_false hc
          refine sw_nil ⟨.pu (ln r), ?_, ?_⟩
          · rw [if_neg hneg, List.append_nil]
          · simp [hb, hb2]
    rintro _ ⟨x11, rfl, hb⟩
    rw [List.take_length] at hb ⊢
    rw [if_neg (by rw [hb]; exact Bool.false_ne_true)] at hp
    have hlo := lnLo_b hRb
    have hup := lnUp_b hRb
    have l1 := lnLo_len rs
    have l2 := lnUp_len rs
    generalize lnLo rs = lo at hlo l1 hp ⊢
    generalize lnUp rs = up at hup l2 hp ⊢
    refine sw_freeze 9 rfl ?_
    try dsimp only [List.set]
    refine sw_freeze 10 rfl ?_
    try dsimp only [List.set]
    refine sw_cons (s1_set 12 nd (ev_fn (k__law_greatest E) hr (by decide) (evs_one (ev_var 9 rfl)) ⟨lo, rfl, by omega, fun x hx => (hlo x hx).mono (by decide) (by decide), rfl⟩) ?_)
    all_goals (try dsimp only [List.set])
    try dsimp only [List.set]
    refine sw_cons (s1_set 13 nd (ev_fn (k__law_least E) hr (by decide) (evs_one (ev_var 10 rfl)) ⟨up, rfl, by omega, fun x hx => (hup x hx).mono (by decide) (by decide), rfl⟩) ?_)
    all_goals (try dsimp only [List.set])
    try dsimp only [List.set]
    have gl := @greatL_mem lo
    have gu := @leastL_mem up
    generalize greatL lo = a at gl hp ⊢
    generalize leastL up = b at gu hp ⊢
    cases a with
    | none =>
      refine sw_cons (s1_skip (TW.tv (tw_and (y := false) (tv_notN (ev_var 12 rfl)) fun h => by cases h)) rfl (sw_nil ?_))
      all_goals (try dsimp only [List.set])
      refine sw_one (s1_ret (EV.r (ev_tup (evs_cons (ev_var 12 rfl) (evs_one (ev_var 13 rfl))))) ?_)
      all_goals (try dsimp only [List.set])
      cases b <;> exact hp
    | some x =>
      have bx := hlo x (gl rfl)
      cases b with
      | none =>
        refine sw_cons (s1_skip (TW.tv (tw_and (tv_notN (ev_var 12 rfl)) fun _ => tw_and (y := false) (tv_notN (ev_var 13 rfl)) fun h => by cases h)) rfl (sw_nil ?_))
        all_goals (try dsimp only [List.set])
        exact sw_one (s1_ret (EV.r (ev_tup (evs_cons (ev_var 12 rfl) (evs_one (ev_var 13 rfl))))) hp)
      | some y =>
        have by_ := hup y (gu rfl)
        have hp' : p (lbD (if y < x then none else some (some x, some y))) := hp
        refine sw_cons (s1_if (TW.tv (tw_and (tv_notN (ev_var 12 rfl)) fun _ => tw_and (tv_notN (ev_var 13 rfl)) fun _ => tw_and1 (tv_val (ev_lessL E hr ⟨ev_var 13 rfl, by_⟩ ⟨ev_var 12 rfl, bx⟩)))) (fun hc => ?_) fun hc => ?_)
        all_goals (try dsimp only [List.set])
        · have hlt : y < x := by simpa [isN, ofr, fr] using hc
          rw [if_pos hlt] at hp'
          exact sw_one (s1_ret (EV.r (ev_tup evs_nil)) hp')
        · have hlt : ¬ y < x := by simpa [isN, ofr, fr] using hc
          rw [if_neg hlt] at hp'
          exact sw_nil (sw_one (s1_ret (EV.r (ev_tup (evs_cons (ev_var 12 rfl) (evs_one (ev_var 13 rfl))))) hp')))
end
end RT
end
section
set_option Elab.async false
set_option linter.all false
set_option maxRecDepth 100000
set_option maxHeartbeats 4000000
set_option exponentiation.threshold 20000
/-! B15: the law's regions. -/
namespace RT
open PySem PySem.Spec PyProof.Rows L2
theorem lb_ok {h : Pl} {p q : Rat} (o : PO h) (hp : DB p) (hq : DB q) (h0 : p ≠ 0 ∨ q ≠ 0) : PlB 904 h ∧ LU (lawLine h p q) := by
  refine ⟨⟨lt_mono o.b.p (by decide), lt_mono o.b.q (by decide), lt_mono o.b.r (by decide)⟩, ?_⟩
  unfold lawLine
  split
  · rename_i hn
    have s := (RB.int o.b.q).div hq (ne_of_num hn)
    exact ⟨s.mono (by decide) (by decide), ((RB.int o.b.p).sub (s.mul hp)).mono (by decide) (by decide), (RB.int o.b.r).mono (by decide) (by decide)⟩
  · rename_i hn
    have hp0 : p ≠ 0 := h0.resolve_right fun z => z (Rat.num_eq_zero.mp (by simpa using hn))
    exact ⟨((RB.int o.b.p).div hp hp0).mono (by decide) (by decide), (RB.int o.b.q).mono (by decide) (by decide), (RB.int o.b.r).mono (by decide) (by decide)⟩
theorem lawEnds_some {lo up : Option Rat} {w : Option Rat × Option Rat} (h : lawEnds lo up = some w) : w = (lo, up) := by
  unfold lawEnds at h
  split at h
  · split at h
    · cases h
    · cases h; rfl
  · cases h; rfl
theorem lawBounds_b {hs : List Pl} {p q : Rat} (hH : ∀ h ∈ hs, LU (lawLine h p q)) {w : Option Rat × Option Rat} (e : lawBounds hs p q = some w) : (∀ x, w.1 = some x → RB 3917 3617 x) ∧ (∀ x, w.2 = some x → RB 3917 3617 x) := by
  unfold lawBounds lawBnd at e
  split at e
  · cases e
  · have ew := lawEnds_some e
    subst ew
    have hR : ∀ r ∈ lawRows (hs.map fun h => lawLine h p q), RU r := lawRows_b fun l hl => by
      obtain ⟨h, hh, rfl⟩ := List.mem_map.mp hl
      exact hH h hh
    exact ⟨fun x hx => lnLo_b hR x (greatL_mem hx), fun x hx => lnUp_b hR x (leastL_mem hx)⟩
theorem cast_or {h : Pl} (o : PO h) : (h.p : Rat) ≠ 0 ∨ (h.q : Rat) ≠ 0 := o.nz.imp cast_ne cast_ne
section
variable {P : Program} {w : World} {K : PySem.W.Frag} {mg : Str → Option Value} {base : Heap} {W : Wo}
section
variable {X : Cx} {C : Ct} {Γ : List Sl} {a b : Expr} {pos : Pos} {k : Nat} {o : Option (Option Rat × Option Rat)}
theorem tv_lb0 {x1 : Nat} {p2 : Pos} (hr : Room k X.A) (ha : EV X C a Γ (lbD o)) (hm : behindInMarks .Eq (.Tuple [] x1 p2) = false := by first | exact nomark _ | rfl) : TV X C (.Compare a [.Eq] [.Tuple [] x1 p2] pos) Γ o.isNone :=
  (tv_cmp (op_eqD hr.units) (rd_eqD (flat_of (flat_lbD o)) rfl) ha (ev_tup evs_nil) hm).is (eqv_lb0 o)
theorem ev_lb0 {x1 : Nat} {p2 : Pos} (hr : Room k X.A) (ha : EV X C a Γ (lbD o)) (hm : behindInMarks .Eq (.Tuple [] x1 p2) = false := by first | exact nomark _ | rfl) : EV X C (.Compare a [.Eq] [.Tuple [] x1 p2] pos) Γ (.bool o.isNone) :=
  (ev_cmp (op_eqD hr.units) (rd_eqD (flat_of (flat_lbD o)) rfl) ha (ev_tup evs_nil) hm).is (by rw [eqv_lb0])
end
theorem sc__law_empty : FnScope ["_law_planes_here"] ["_law_planes_here"] (defScope (top 105)) := ⟨rfl, rfl, rfl, by decide +kernel, rfl, by decide +kernel, by decide +kernel⟩
def pm__law_empty : Pm := fun ds p => ∃ hs : List Pl, ds = [.list (hs.map pl)] ∧ (∀ h ∈ hs, PO h) ∧ hs.length ≤ 50 ∧ p (.bool (lawEmp hs))
theorem k__law_empty (E : Hd K mg) : Kn P w K mg base "_law_empty" [] 6 (spD K W 1 pm__law_empty) :=
  kn_mk 84 E rfl rfl (fun _ _ _ _ _ _ us hl => match us, hl with | [_], _ => rfl) fun f fd F => fn_mk F sc__law_empty (by
    rintro X C cdv A outer s H E' P0 ds p rfl rfl hr ⟨hs, rfl, hO, hz, hp⟩
    have nd := sc__law_empty.nd
    dsimp only [iniL, iniN, List.tail]
    have d0 : DB 0 := RB.zero.mono (by decide) (by decide)
    have d1 : DB 1 := RB.one.mono (by decide) (by decide)
    have n0 : (1 : Rat) ≠ 0 ∨ (0 : Rat) ≠ 0 := .inl (by decide)
    exact sw_one (s1_ret (EV.r (ev_lb0 hr (ev_fn (k__law_bounds E) hr (by decide) (evs_cons (ev_var 0 rfl) (evs_cons (eq_con (n := 1) (by decide)).ev (evs_one (eq_con (n := 0) (by decide)).ev))) ⟨hs, 1, 0, rfl, fun h hh => lb_ok (hO h hh) d1 d0 n0, hz, d1, d0, n0, rfl⟩))) hp))
theorem sc__law_implied : FnScope ["_law_planes_here", "_law_plane_here", "_law_bounds_here"] ["_law_planes_here", "_law_plane_here"] (defScope (top 106)) := ⟨rfl, rfl, rfl, by decide +kernel, rfl, by decide +kernel, by decide +kernel⟩
def pm__law_implied : Pm := fun ds p => ∃ (hs : List Pl) (h : Pl), ds = [.list (hs.map pl), pl h] ∧ (∀ h ∈ hs, PO h) ∧ hs.length ≤ 50 ∧ PO h ∧ p (.bool (lawImp hs h))
theorem k__law_implied (E : Hd K mg) : Kn P w K mg base "_law_implied" [] 6 (spD K W 2 pm__law_implied) :=
  kn_mk 85 E rfl rfl (fun _ _ _ _ _ _ us hl => match us, hl with | [_, _], _ => rfl) fun f fd F => fn_mk F sc__law_implied (by
    rintro X C cdv A outer s H E' P0 ds p rfl rfl hr ⟨hs, h, rfl, hO, hz, oh, hp⟩
    have nd := sc__law_implied.nd
    dsimp only [iniL, iniN, List.tail]
    have lb := fun g hg => lb_ok (hO g hg) oh.dp oh.dq (cast_or oh)
    refine sw_cons (s1_set 2 nd (ev_fn (k__law_bounds E) hr (by decide) (evs_cons (ev_var 0 rfl) (evs_cons (eq_pair (ev_p0 (ev_var 1 rfl)) oh.b.p).ev (evs_one (eq_pair (ev_p1 (ev_var 1 rfl)) oh.b.q).ev))) ⟨hs, _, _, rfl, lb, hz, oh.dp, oh.dq, cast_or oh, rfl⟩) ?_)
    all_goals (try dsimp only [List.set])
    try dsimp only [List.set]
    have bb := @lawBounds_b hs (h.p : Rat) (h.q : Rat) fun g hg => (lb g hg).2
    unfold lawImp at hp
    refine sw_cons (s1_if (tv_lb0 hr (ev_var 2 rfl)) (fun ht => ?_) fun ht => ?_)
    all_goals (try dsimp only [List.set])
    · rw [Option.isNone_iff_eq_none.mp ht] at hp
      exact sw_one (s1_ret (EV.r ev_bl) hp)
    refine sw_nil ?_
    cases e : lawBounds hs (h.p : Rat) (h.q : Rat) with
    | none => rw [e] at ht; cases ht
    | some w =>
      rw [e] at hp
      obtain ⟨lo, up⟩ := w
      cases up with
      | none => exact sw_one (s1_ret (EV.r (ev_and (y := false) (ev_notN (ev_ixT (d := .none) (ev_var 2 rfl) ev_int rfl)) fun h => by cases h)) hp)
      | some u => exact sw_one (s1_ret (EV.r (ev_and (ev_notN (ev_ixT (d := fr u) (ev_var 2 rfl) ev_int rfl)) fun _ => ev_one (ev_not (ev_lessL E hr (eq_pair (ev_p2 (ev_var 1 rfl)) oh.b.r) ⟨ev_ixT (d := fr u) (ev_var 2 rfl) ev_int rfl, (bb e).2 u rfl⟩)))) hp))
theorem sc__law_near : FnScope ["_law_bounds_here"] ["_law_bounds_here"] (defScope (top 107)) := ⟨rfl, rfl, rfl, by decide +kernel, rfl, by decide +kernel, by decide +kernel⟩
def pm__law_near : Pm := fun ds p => ∃ (lo up : Option Rat), ds = [.tuple [ofr lo, ofr up]] ∧ p (fr (nearOf lo up))
theorem k__law_near (E : Hd K mg) : Kn P w K mg base "_law_near" [] 1 (spD K W 1 pm__law_near) :=
  kn_mk 86 E rfl rfl (fun _ _ _ _ _ _ us hl => match us, hl with | [_], _ => rfl) fun f fd F => fn_mk F sc__law_near (by
    rintro X C cdv A outer s H E' P0 ds p rfl rfl hr ⟨lo, up, rfl, hp⟩
    have nd := sc__law_near.nd
    dsimp only [iniL, iniN, List.tail]
    unfold nearOf at hp
    cases lo with
    | none =>
      refine sw_cons (s1_skip (TW.tv (tw_and (y := false) (tv_notN (ev_ixT (d := .none) (ev_var 0 rfl) ev_int rfl)) fun h => by cases h)) rfl (sw_nil ?_))
      all_goals (try dsimp only [List.set])
      cases up with
      | none => exact sw_cons (s1_skip (TW.tv (tw_and (y := false) (tv_notN (ev_ixT (d := .none) (ev_var 0 rfl) ev_int rfl)) fun h => by cases h)) rfl (sw_nil (sw_one (s1_ret (EV.r (eq_con (n := 0) (by decide)).ev) hp))))
      | some y =>
        have hp' : p (fr (if y.num < 0 then y else 0)) := hp
        refine sw_cons (s1_if (TW.tv (tw_and (tv_notN (ev_ixT (d := fr y) (ev_var 0 rfl) ev_int rfl)) fun _ => tw_and1 (tv_lt (ev_num (ev_ixT (d := fr y) (ev_var 0 rfl) ev_int rfl)) ev_int))) (fun hc => ?_) fun hc => ?_)
        all_goals (try dsimp only [List.set])
        · have h2 : y.num < 0 := by simpa [isN, fr] using hc
          rw [if_pos h2] at hp'
          exact sw_one (s1_ret (EV.r (ev_ixT (d := fr y) (ev_var 0 rfl) ev_int rfl)) hp')
        · have h2 : ¬ y.num < 0 := by simpa [isN, fr] using hc
          rw [if_neg h2] at hp'
          exact sw_nil (sw_one (s1_ret (EV.r (eq_con (n := 0) (by decide)).ev) hp'))
    | some x =>
      have hp0 : p (fr (if x.num > 0 then x else nearU up)) := hp
      refine sw_cons (s1_if (TW.tv (tw_and (tv_notN (ev_ixT (d := fr x) (ev_var 0 rfl) ev_int rfl)) fun _ => tw_and1 (tv_gt (ev_num (ev_ixT (d := fr x) (ev_var 0 rfl) ev_int rfl)) ev_int))) (fun hc => ?_) fun hc => ?_)
      all_goals (try dsimp only [List.set])
      · have h2 : x.num > 0 := by simpa [isN, fr] using hc
        rw [if_pos h2] at hp0
        exact sw_one (s1_ret (EV.r (ev_ixT (d := fr x) (ev_var 0 rfl) ev_int rfl)) hp0)
      have h2 : ¬ x.num > 0 := by simpa [isN, fr] using hc
      rw [if_neg h2] at hp0
      refine sw_nil ?_
      cases up with
      | none => exact sw_cons (s1_skip (TW.tv (tw_and (y := false) (tv_notN (ev_ixT (d := .none) (ev_var 0 rfl) ev_int rfl)) fun h => by cases h)) rfl (sw_nil (sw_one (s1_ret (EV.r (eq_con (n := 0) (by decide)).ev) hp0))))
      | some y =>
        have hp' : p (fr (if y.num < 0 then y else 0)) := hp0
        refine sw_cons (s1_if (TW.tv (tw_and (tv_notN (ev_ixT (d := fr y) (ev_var 0 rfl) ev_int rfl)) fun _ => tw_and1 (tv_lt (ev_num (ev_ixT (d := fr y) (ev_var 0 rfl) ev_int rfl)) ev_int))) (fun hc => ?_) fun hc => ?_)
        all_goals (try dsimp only [List.set])
        · have h2 : y.num < 0 := by simpa [isN, fr] using hc
          rw [if_pos h2] at hp'
          exact sw_one (s1_ret (EV.r (ev_ixT (d := fr y) (ev_var 0 rfl) ev_int rfl)) hp')
        · have h2 : ¬ y.num < 0 := by simpa [isN, fr] using hc
          rw [if_neg h2] at hp'
          exact sw_nil (sw_one (s1_ret (EV.r (eq_con (n := 0) (by decide)).ev) hp')))
theorem sc__law_line_of : FnScope ["_law_planes_here", "_law_plane_here", "_law_bounds_here"] ["_law_planes_here"] (defScope (top 109)) := ⟨rfl, rfl, rfl, by decide +kernel, rfl, by decide +kernel, by decide +kernel⟩
def pm__law_line_of : Pm := fun ds p => ∃ hs : List Pl, ds = [.list (hs.map pl)] ∧ (∀ h ∈ hs, PO h) ∧ hs.length ≤ 50 ∧ (∀ h ∈ hs, lawBounds hs (h.p : Rat) (h.q : Rat) ≠ none) ∧ p (opl (lawLineOf hs))
theorem k__law_line_of (E : Hd K mg) : Kn P w K mg base "_law_line_of" [] 6 (spD K W 1 pm__law_line_of) :=
  kn_mk 88 E rfl rfl (fun _ _ _ _ _ _ us hl => match us, hl with | [_], _ => rfl) fun f fd F => fn_mk F sc__law_line_of (by
    rintro X C cdv A outer s H E' P0 ds p rfl rfl hr ⟨hs, rfl, hO, hz, hN, hp⟩
    have nd := sc__law_line_of.nd
    dsimp only [iniL, iniN, List.tail]
    unfold lawLineOf at hp
    refine sw_cons (s1_for pl hs (iv_lst (ev_var 0 rfl)) (fun i Γ => ∃ v u, Γ = [.pu (.list (hs.map pl)), v, u] ∧ hs.find? (lolB hs) = (hs.drop i).find? (lolB hs)) ⟨_, _, rfl, rfl⟩ ?_ ?_)
    all_goals (try dsimp only [List.set])
    · rintro i x _ hx ⟨v, u, rfl, hl⟩
      have hm := List.mem_of_getElem? hx
      have ox := hO x hm
      rw [drop_at hx, List.find?_cons] at hl
      refine ⟨_, _, gv_name 1 nd, ?_⟩
      try dsimp only [List.set]
      refine sw_cons (s1_set 2 nd (ev_fn (k__law_bounds E) hr (by decide) (evs_cons (ev_var 0 rfl) (evs_cons (eq_pair (ev_p0 (ev_var 1 rfl)) ox.b.p).ev (evs_one (eq_pair (ev_p1 (ev_var 1 rfl)) ox.b.q).ev))) ⟨hs, _, _, rfl, fun g hg => lb_ok (hO g hg) ox.dp ox.dq (cast_or ox), hz, ox.dp, ox.dq, cast_or ox, rfl⟩) ?_)
      all_goals (try dsimp only [List.set])
      try dsimp only [List.set]
      cases e : lawBounds hs (x.p : Rat) (x.q : Rat) with
      | none => exact absurd e (hN x hm)
      | some w =>
        obtain ⟨lo, up⟩ := w
        have hb : lolB hs x = decide (lo = some (x.r : Rat)) := by unfold lolB; rw [e]
        rw [hb] at hl
        cases lo with
        | none =>
          refine sw_one (s1_skip (TW.tv (tw_and (y := false) (tv_notN (ev_ixT (d := .none) (ev_var 2 rfl) ev_int rfl)) fun h => by cases h)) rfl (sw_nil ⟨_, _, rfl, ?_⟩))
          rw [hl]
          rfl
        | some y =>
          refine sw_one (s1_if (TW.tv (tw_and (tv_notN (ev_ixT (d := fr y) (ev_var 2 rfl) ev_int rfl)) fun _ => tw_and1 (tv_eqQ (x := y) hr (ev_ixT (d := fr y) (ev_var 2 rfl) ev_int rfl) (eq_pair (ev_p2 (ev_var 1 rfl)) ox.b.r).ev))) (fun hc => ?_) fun hc => ?_)
          all_goals (try dsimp only [List.set])
          · have h2 : y = (x.r : Rat) := by simpa [isN, fr] using hc
            rw [h2, decide_eq_true rfl] at hl
            rw [hl] at hp
            exact sw_one (s1_ret (EV.r (ev_var 1 rfl)) hp)
          · have h2 : ¬ some y = some (x.r : Rat) := by simpa [isN, fr] using hc
            rw [decide_eq_false h2] at hl
            exact sw_nil ⟨_, _, rfl, hl⟩
    · rintro _ ⟨v, u, rfl, hl⟩
      rw [List.drop_length] at hl
      rw [hl] at hp
      exact sw_one (s1_ret (EV.r ev_non) hp))
theorem lawLineOf_mem {hs : List Pl} {l : Pl} (h : lawLineOf hs = some l) : l ∈ hs := List.mem_of_find?_eq_some h
/-- where the planes leave something, every direction has bounds -/
def NeOk (hs : List Pl) : Prop := lawEmp hs = false → ∀ p q : Rat, (p ≠ 0 ∨ q ≠ 0) → lawBounds hs p q ≠ none
theorem sc__law_kind : FnScope ["_law_planes_here", "_law_line_here", "_law_along", "_law_ends", "_law_end"] ["_law_planes_here"] (defScope (top 110)) := ⟨rfl, rfl, rfl, by decide +kernel, rfl, by decide +kernel, by decide +kernel⟩
def pm__law_kind : Pm := fun ds p => ∃ hs : List Pl, ds = [.list (hs.map pl)] ∧ (∀ h ∈ hs, PO h) ∧ hs.length ≤ 50 ∧ NeOk hs ∧ p (.str (kindS (lawKind hs)))
theorem k__law_kind (E : Hd K mg) : Kn P w K mg base "_law_kind" [] 7 (spD K W 1 pm__law_kind) :=
  kn_mk 89 E rfl rfl (fun _ _ _ _ _ _ us hl => match us, hl with | [_], _ => rfl) fun f fd F => fn_mk F sc__law_kind (by
    rintro X C cdv A outer s H E' P0 ds p rfl rfl hr ⟨hs, rfl, hO, hz, hN, hp⟩
    have nd := sc__law_kind.nd
    dsimp only [iniL, iniN, List.tail]
    unfold lawKind at hp
    refine sw_cons (s1_if (tv_val (ev_fn (k__law_empty E) hr (by decide) (evs_one (ev_var 0 rfl)) ⟨hs, rfl, hO, hz, rfl⟩)) (fun ht => ?_) fun ht => ?_)
    all_goals (try dsimp only [List.set])
    · rw [if_pos ht] at hp
      exact sw_one (s1_ret (EV.r ev_str) hp)
    rw [if_neg (by rw [ht]; exact Bool.false_ne_true)] at hp
    have hN' := hN ht
    refine sw_nil (sw_cons (s1_set 1 nd (ev_fn (k__law_line_of E) hr (by decide) (evs_one (ev_var 0 rfl)) ⟨hs, rfl, hO, hz, fun h hh => hN' _ _ (cast_or (hO h hh)), rfl⟩) ?_))
    all_goals (try dsimp only [List.set])
    try dsimp only [List.set]
    cases e : lawLineOf hs with
    | none =>
      rw [e] at hp
      exact sw_cons (s1_take (tv_isN (ev_var 1 rfl)) rfl (sw_one (s1_ret (EV.r ev_str) hp)))
    | some l =>
      rw [e] at hp
      have ol := hO l (lawLineOf_mem e)
      have h0 : ((-l.q : Int) : Rat) ≠ 0 ∨ (l.p : Rat) ≠ 0 := ol.nz.elim (fun h => .inr (cast_ne h)) fun h => .inl (cast_ne (by omega))
      refine sw_cons (s1_skip (tv_isN (ev_var 1 rfl)) rfl (sw_nil ?_))
      all_goals (try dsimp only [List.set])
      refine sw_cons (s1_set 2 nd (ev_fn (k__law_bounds E) hr (by decide) (evs_cons (ev_var 0 rfl) (evs_cons (eq_pair (n := 300) (ev_neg (ev_p1 (ev_var 1 rfl))) (by rw [Int.natAbs_neg]; exact ol.b.q)).ev (evs_one (eq_pair (ev_p0 (ev_var 1 rfl)) ol.b.p).ev))) ⟨hs, _, _, rfl, fun g hg => lb_ok (hO g hg) ol.dnq ol.dp h0, hz, ol.dnq, ol.dp, h0, rfl⟩) ?_)
      all_goals (try dsimp only [List.set])
      try dsimp only [List.set]
      have hne := hN' _ _ h0
      simp only at hp
      generalize lawBounds hs ((-l.q : Int) : Rat) (l.p : Rat) = ob at hne hp ⊢
      cases ob with
      | none => exact absurd rfl hne
      | some w =>
        obtain ⟨lo, up⟩ := w
        have hp' : p (.str (kindS (lawEndKind lo up))) := hp
        have hends : ([lo, up].filter fun o => o.isSome).map ofr = (match lo with | none => [] | some x => [fr x]) ++ (match up with | none => [] | some x => [fr x]) := by cases lo <;> cases up <;> rfl
        refine sw_cons (s1_lcIf 3 [("_law_end", 4)] ofr (fun o => o.isSome) ofr [lo, up] nd (iv_tup (ev_var 2 rfl)) (blkOk_by rfl) (by simp) (fun o ho => ⟨_, _, by decide, fun s H Ca cl fp => gv_name 4 nd, fun s H Ca cl fp => (tv_notN (ev_var 4 rfl)).is (by rw [isN_ofr]; cases o <;> rfl), fun _ s H Ca cl fp => ev_var 4 rfl⟩) ?_)
        all_goals (try dsimp only [List.set])
        try dsimp only [List.set]
        refine sw_freeze 3 rfl ?_
        try dsimp only [List.set]
        rw [hends]
        have hl := E.free "len" (by simp)
        cases lo with
        | none =>
          cases up with
          | none =>
            refine sw_cons (s1_skip (TW.tv (tw_and (y := false) (tv_eqI (ev_len hl (ev_var 3 rfl)) ev_int) fun h => by cases h)) rfl (sw_nil ?_))
            all_goals (try dsimp only [List.set])
            exact sw_one (s1_ret (EV.r (ev_ixL (ev_lst (evs_cons ev_str (evs_cons ev_str (evs_one ev_str)))) (ev_len hl (ev_var 3 rfl)) rfl)) hp')
          | some y =>
            refine sw_cons (s1_skip (TW.tv (tw_and (y := false) (tv_eqI (ev_len hl (ev_var 3 rfl)) ev_int) fun h => by cases h)) rfl (sw_nil ?_))
            all_goals (try dsimp only [List.set])
            exact sw_one (s1_ret (EV.r (ev_ixL (ev_lst (evs_cons ev_str (evs_cons ev_str (evs_one ev_str)))) (ev_len hl (ev_var 3 rfl)) rfl)) hp')
        | some x =>
          cases up with
          | none =>
            refine sw_cons (s1_skip (TW.tv (tw_and (y := false) (tv_eqI (ev_len hl (ev_var 3 rfl)) ev_int) fun h => by cases h)) rfl (sw_nil ?_))
            all_goals (try dsimp only [List.set])
            exact sw_one (s1_ret (EV.r (ev_ixL (ev_lst (evs_cons ev_str (evs_cons ev_str (evs_one ev_str)))) (ev_len hl (ev_var 3 rfl)) rfl)) hp')
          | some y =>
            have hp2 : p (.str (kindS (if x = y then Kind.point else Kind.segment))) := hp'
            refine sw_cons (s1_if (TW.tv (tw_and (tv_eqI (ev_len hl (ev_var 3 rfl)) ev_int) fun _ => tw_and1 (tv_eqQ (x := x) (y := y) hr (ev_ixL (ev_var 3 rfl) ev_int rfl) (ev_ixL (ev_var 3 rfl) ev_int rfl)))) (fun hc => ?_) fun hc => ?_)
            all_goals (try dsimp only [List.set])
            · have h2 : x = y := by simpa using hc
              rw [if_pos h2] at hp2
              exact sw_one (s1_ret (EV.r ev_str) hp2)
            · have h2 : ¬ x = y := by simpa using hc
              rw [if_neg h2] at hp2
              exact sw_nil (sw_one (s1_ret (EV.r (ev_ixL (ev_lst (evs_cons ev_str (evs_cons ev_str (evs_one ev_str)))) (ev_len hl (ev_var 3 rfl)) rfl)) hp2)))
end
end RT
end
section
set_option Elab.async false
set_option linter.all false
set_option maxRecDepth 100000
set_option maxHeartbeats 4000000
set_option exponentiation.threshold 20000
/-! B16: the law's rays, order, canonical planes, trains. -/
namespace RT
open PySem PySem.Spec PyProof.Rows L2
structure RH (l : Ln) : Prop where
  a : RB 601 300 l.a
  c : RB 601 300 l.c
theorem line10 (h : Pl) : lawLine h 1 0 = ⟨(h.p : Rat) / 1, (h.q : Rat), (h.r : Rat)⟩ := by
  unfold lawLine
  rw [if_neg (by decide)]
theorem rows10 {hs : List Pl} (hO : ∀ h ∈ hs, PO h) : ∀ r ∈ lawRows (hs.map fun h => lawLine h 1 0), RH r := by
  have hl : ∀ l ∈ hs.map (fun h => lawLine h 1 0), RB 300 0 l.a ∧ RB 300 0 l.b ∧ RB 300 0 l.c := by
    intro l hl
    obtain ⟨h, hh, rfl⟩ := List.mem_map.mp hl
    have o := hO h hh
    rw [line10]
    refine ⟨?_, RB.int o.b.q, RB.int o.b.r⟩
    have e : (h.p : Rat) / 1 = (h.p : Rat) := by grind
    show RB 300 0 ((h.p : Rat) / 1)
    rw [e]; exact RB.int o.b.p
  intro r hr
  unfold lawRows at hr
  rcases List.mem_append.mp hr with h | h
  · obtain ⟨h1, _, h3⟩ := hl r (List.mem_filter.mp h).1
    exact ⟨h1.mono (by decide) (by decide), h3.mono (by decide) (by decide)⟩
  · obtain ⟨one, h1, h2⟩ := List.mem_flatMap.mp h
    obtain ⟨other, h3, rfl⟩ := List.mem_map.mp h2
    obtain ⟨h4, h5⟩ := List.mem_filter.mp h3
    obtain ⟨a1, b1, c1⟩ := hl one (List.mem_filter.mp h1).1
    obtain ⟨a2, b2, c2⟩ := hl other h4
    have s : RB 300 300 (-(one.b / other.b)) := (RB.neg (b1.div b2 (ne_of_num (by have := of_decide_eq_true h5; omega)))).mono (by decide) (by decide)
    exact ⟨(a1.add (s.mul a2)).mono (by decide) (by decide), (c1.add (s.mul c2)).mono (by decide) (by decide)⟩
theorem nearOf_cases (lo up : Option Rat) : nearOf lo up = 0 ∨ lo = some (nearOf lo up) ∨ up = some (nearOf lo up) := by
  have hu : nearU up = 0 ∨ up = some (nearU up) := by
    unfold nearU
    cases up with
    | none => exact .inl rfl
    | some y =>
      simp only
      split
      · exact .inr rfl
      · exact .inl rfl
  unfold nearOf
  cases lo with
  | none =>
    rcases hu with h | h
    · exact .inl h
    · exact .inr (.inr h)
  | some x =>
    simp only
    split
    · exact .inr (.inl rfl)
    · rcases hu with h | h
      · exact .inl h
      · exact .inr (.inr h)
theorem ends_b {n d : Nat} {rs : List Ln} {w : Option Rat × Option Rat} (hR : ∀ r ∈ rs, ∀ (_ : r.a.num ≠ 0), RB n d (r.c / r.a)) (e : lawBnd rs = some w) : RB n d (nearOf w.1 w.2) := by
  unfold lawBnd at e
  split at e
  · cases e
  · have ew := lawEnds_some e
    subst ew
    have z : RB n d 0 := RB.zero.mono (Nat.zero_le _) (Nat.zero_le _)
    have lo : ∀ x, greatL (lnLo rs) = some x → RB n d x := fun x hx => by
      obtain ⟨r, hr, rfl⟩ := List.mem_map.mp (greatL_mem hx)
      obtain ⟨h1, h2⟩ := List.mem_filter.mp hr
      exact hR r h1 (by have := of_decide_eq_true h2; omega)
    have up : ∀ x, leastL (lnUp rs) = some x → RB n d x := fun x hx => by
      obtain ⟨r, hr, rfl⟩ := List.mem_map.mp (leastL_mem hx)
      obtain ⟨h1, h2⟩ := List.mem_filter.mp hr
      exact hR r h1 (by have := of_decide_eq_true h2; omega)
    rcases nearOf_cases (greatL (lnLo rs)) (leastL (lnUp rs)) with h | h | h
    · rw [h]; exact z
    · exact lo _ h
    · exact up _ h
theorem sampH_b {hs : List Pl} (hO : ∀ h ∈ hs, PO h) : RB 901 901 (sampH hs) := by
  unfold sampH nearB
  split
  · rename_i w e
    exact ends_b (fun r hr hn => ((rows10 hO r hr).c.div (rows10 hO r hr).a (ne_of_num hn)).mono (by decide) (by decide)) e
  · exact RB.zero.mono (by decide) (by decide)
theorem mkPl_h {x h : Rat} (hx : x.den = 1) (hx1 : x.num.natAbs ≤ 1) (hb : RB 901 901 h) : PlB 904 (mkPl x 0 h) := by
  have dv : ∀ y g : Int, (y / g).natAbs ≤ y.natAbs := fun y g => Int.natAbs_ediv_le_natAbs _ _
  have es : mkPs x 0 h = (h.den : Int) := by unfold mkPs; rw [hx]; show ((1 : Nat) : Int) * ((1 : Nat) : Int) * (h.den : Int) = _; simp
  have a1 : (mkPa x 0 h x).natAbs < 2 ^ 904 := by
    unfold mkPa
    rw [es, hx, Int.natAbs_mul]
    have e1 : ((h.den : Int) / ((1 : Nat) : Int)).natAbs = h.den := by simp
    rw [e1]
    have h2 := hb.2
    have : x.num.natAbs * h.den ≤ 1 * h.den := Nat.mul_le_mul_right _ hx1
    have : (2 : Nat) ^ 901 < 2 ^ 904 := by decide
    omega
  have a2 : (mkPa x 0 h 0).natAbs < 2 ^ 904 := by
    unfold mkPa
    have e0 : (0 : Rat).num = 0 := rfl
    rw [e0, Int.zero_mul]
    exact Nat.two_pow_pos _
  have a3 : (mkPa x 0 h h).natAbs < 2 ^ 904 := by
    unfold mkPa
    rw [es, Int.ediv_self (den_ne h), Int.mul_one]
    exact lt_mono hb.1 (by decide)
  rw [mkPl_eq]
  exact ⟨Nat.lt_of_le_of_lt (dv _ _) a1, Nat.lt_of_le_of_lt (dv _ _) a2, Nat.lt_of_le_of_lt (dv _ _) a3⟩
theorem line01 (h : Pl) : lawLine h 0 1 = ⟨(h.q : Rat) / 1, (h.p : Rat) - (h.q : Rat) / 1 * 0, (h.r : Rat)⟩ := by
  unfold lawLine
  rw [if_pos (by decide)]
theorem lu01 {h : Pl} (b : PlB 904 h) : LU (lawLine h 0 1) := by
  rw [line01]
  have e1 : (h.q : Rat) / 1 = (h.q : Rat) := by grind
  have e2 : (h.p : Rat) - (h.q : Rat) / 1 * 0 = (h.p : Rat) := by grind
  rw [e1, show (h.p : Rat) - (h.q : Rat) * 0 = (h.p : Rat) by grind]
  exact ⟨(RB.int b.q).mono (by decide) (by decide), (RB.int b.p).mono (by decide) (by decide), RB.int b.r⟩
theorem sampP_b {hs : List Pl} (hO : ∀ h ∈ hs, PO h) : ∀ h ∈ sampP hs, PlB 904 h := by
  have hb := sampH_b hO
  intro h hh
  unfold sampP at hh
  rcases List.mem_append.mp hh with hh | hh
  · have o := hO h hh
    exact ⟨lt_mono o.b.p (by decide), lt_mono o.b.q (by decide), lt_mono o.b.r (by decide)⟩
  · simp only [List.mem_cons, List.not_mem_nil, or_false] at hh
    rcases hh with rfl | rfl
    · exact mkPl_h rfl (by decide) hb
    · exact mkPl_h rfl (by decide) hb.neg
section
variable {P : Program} {w : World} {K : PySem.W.Frag} {mg : Str → Option Value} {base : Heap} {W : Wo}
theorem sc__law_sample : FnScope ["_law_planes_here", "_law_height", "_law_top"] ["_law_planes_here"] (defScope (top 108)) := ⟨rfl, rfl, rfl, by decide +kernel, rfl, by decide +kernel, by decide +kernel⟩
def pm__law_sample : Pm := fun ds p => ∃ hs : List Pl, ds = [.list (hs.map pl)] ∧ (∀ h ∈ hs, PO h) ∧ hs.length ≤ 40 ∧ lawBounds hs 1 0 ≠ none ∧ lawBounds (sampP hs) 0 1 ≠ none ∧ p (ray (sampOf hs))
theorem k__law_sample (E : Hd K mg) : Kn P w K mg base "_law_sample" [] 6 (spD K W 1 pm__law_sample) :=
  kn_mk 87 E rfl rfl (fun _ _ _ _ _ _ us hl => match us, hl with | [_], _ => rfl) fun f fd F => fn_mk F sc__law_sample (by
    rintro X C cdv A outer s H E' P0 ds p rfl rfl hr ⟨hs, rfl, hO, hz, n1, n2, hp⟩
    have nd := sc__law_sample.nd
    dsimp only [iniL, iniN, List.tail]
    have d0 : DB 0 := RB.zero.mono (by decide) (by decide)
    have d1 : DB 1 := RB.one.mono (by decide) (by decide)
    have z1 : (1 : Rat) ≠ 0 ∨ (0 : Rat) ≠ 0 := .inl (by decide)
    have z2 : (0 : Rat) ≠ 0 ∨ (1 : Rat) ≠ 0 := .inr (by decide)
    have hb := sampH_b hO
    have hP := sampP_b hO
    obtain ⟨w1, e1⟩ := Option.ne_none_iff_exists'.mp n1
    obtain ⟨w2, e2⟩ := Option.ne_none_iff_exists'.mp n2
    have eh : sampH hs = nearOf w1.1 w1.2 := by unfold sampH; rw [e1]; rfl
    have es : nearB (lawBounds (sampP hs) 0 1) = nearOf w2.1 w2.2 := by rw [e2]; rfl
    refine sw_cons (s1_set 1 nd (EV.is (ev_fn (k__law_near E) hr (by decide) (evs_one (EV.is (ev_fn (k__law_bounds E) hr (by decide) (evs_cons (ev_var 0 rfl) (evs_cons (eq_con (n := 1) (by decide)).ev (evs_one (eq_con (n := 0) (by decide)).ev))) ⟨hs, 1, 0, rfl, fun h hh => lb_ok (hO h hh) d1 d0 z1, by omega, d1, d0, z1, rfl⟩) (d1 := .tuple [ofr w1.1, ofr w1.2]) (by rw [e1]; rfl))) ⟨w1.1, w1.2, rfl, rfl⟩) (d1 := fr (sampH hs)) (by rw [eh])) ?_)
    all_goals (try dsimp only [List.set])
    try dsimp only [List.set]
    refine sw_cons (s1_set 2 nd (ev_lst (evs_cons (ev_fn (k__law_plane E) hr (by decide) (evs_cons (eq_con (n := 1) (by decide)).ev (evs_cons (eq_con (n := 0) (by decide)).ev (evs_one (ev_var 1 rfl)))) ⟨1, 0, sampH hs, rfl, RB.one.mono (by decide) (by decide), RB.zero.mono (by decide) (by decide), hb.mono (by decide) (by decide), .inl (by decide), rfl⟩) (evs_one (ev_fn (k__law_plane E) hr (by decide) (evs_cons (eq_pair (n := 1) (i := -1) (ev_neg ev_int) (by decide)).ev (evs_cons (eq_con (n := 0) (by decide)).ev (evs_one (lq_neg E hr ⟨ev_var 1 rfl, hb⟩).ev))) ⟨-1, 0, -(sampH hs), rfl, RB.one.neg.mono (by decide) (by decide), RB.zero.mono (by decide) (by decide), hb.neg.mono (by decide) (by decide), .inl (by decide), rfl⟩)))) ?_)
    all_goals (try dsimp only [List.set])
    try dsimp only [List.set]
    refine sw_one (s1_ret (EV.r (EV.is (ev_tup (evs_cons (ev_var 1 rfl) (evs_one (EV.is (ev_fn (k__law_near E) hr (by decide) (evs_one (EV.is (ev_fn (k__law_bounds E) hr (by decide) (evs_cons (EV.is (ev_cat (ev_var 0 rfl) (ev_var 2 rfl) (by simp only [List.length_map, List.length_cons, List.length_nil]; omega)) (d1 := .list ((sampP hs).map pl)) (by unfold sampP; rw [List.map_append]; rfl)) (evs_cons (eq_con (n := 0) (by decide)).ev (evs_one (eq_con (n := 1) (by decide)).ev))) ⟨sampP hs, 0, 1, rfl, fun h hh => ⟨hP h hh, lu01 (hP h hh)⟩, by unfold sampP; rw [List.length_append]; simp; omega, d0, d1, z2, rfl⟩) (d1 := .tuple [ofr w2.1, ofr w2.2]) (by rw [e2]; rfl))) ⟨w2.1, w2.2, rfl, rfl⟩) (d1 := fr (nearOf w2.1 w2.2)) rfl)))) (d1 := ray (sampOf hs)) (by unfold sampOf; rw [es]; rfl))) hp))
theorem sc__law_cross : FnScope ["_law_one", "_law_other_here"] ["_law_one", "_law_other_here"] (defScope (top 112)) := ⟨rfl, rfl, rfl, by decide +kernel, rfl, by decide +kernel, by decide +kernel⟩
def pm__law_cross : Pm := fun ds p => ∃ f g : Pl, ds = [pl f, pl g] ∧ PlB 3000 f ∧ PlB 3000 g ∧ p (.int (det f g))
theorem k__law_cross (E : Hd K mg) : Kn P w K mg base "_law_cross" [] 1 (spD K W 2 pm__law_cross) :=
  kn_mk 91 E rfl rfl (fun _ _ _ _ _ _ us hl => match us, hl with | [_, _], _ => rfl) fun f fd F => fn_mk F sc__law_cross (by
    rintro X C cdv A outer s H E' P0 ds p rfl rfl hr ⟨f, g, rfl, hf, hg, hp⟩
    have nd := sc__law_cross.nd
    dsimp only [iniL, iniN, List.tail]
    refine sw_one (s1_ret (EV.r (EV.is (ev_sub (ev_mul (ev_p0 (ev_var 0 rfl)) (ev_p1 (ev_var 1 rfl)) (cm_of hf.p hg.q (by decide))) (ev_mul (ev_p1 (ev_var 0 rfl)) (ev_p0 (ev_var 1 rfl)) (cm_of hf.q hg.p (by decide)))) rfl)) hp))
theorem sc__law_before : FnScope ["_law_one", "_law_other_here", "_law_halves", "_law_turn", "_law_sizes", "_law_plane_here"] ["_law_one", "_law_other_here"] (defScope (top 113)) := ⟨rfl, rfl, rfl, by decide +kernel, rfl, by decide +kernel, by decide +kernel⟩
def pm__law_before : Pm := fun ds p => ∃ f g : Pl, ds = [pl f, pl g] ∧ PO f ∧ PO g ∧ p (.bool (lawBefore f g))
theorem k__law_before (E : Hd K mg) : Kn P w K mg base "_law_before" [] 2 (spD K W 2 pm__law_before) :=
  kn_mk 92 E rfl rfl (fun _ _ _ _ _ _ us hl => match us, hl with | [_, _], _ => rfl) fun f fd F => fn_mk F sc__law_before (by
    rintro X C cdv A outer s H E' P0 ds p rfl rfl hr ⟨f, g, rfl, hf, hg, hp⟩
    have nd := sc__law_before.nd
    dsimp only [iniL, iniN, List.tail]
    have hin := E.free "int" (by simp)
    have hab := E.free "abs" (by simp)
    unfold lawBefore at hp
    refine sw_cons (s1_lc 2 [("_law_plane_here", 5)] pl (fun h => .int (lawHalf h)) [f, g] nd (iv_lst (ev_lst (evs_cons (ev_var 0 rfl) (evs_one (ev_var 1 rfl))))) (blkOk_by rfl) (by simp) (fun h hh => ⟨_, _, by decide, fun s H Ca cl fp => gv_name 5 nd, fun s H Ca cl fp => EV.is (ev_intB hin (ev_or (ev_lt (ev_p1 (ev_var 5 rfl)) ev_int) fun _ => ev_one (ev_and (ev_eqI (ev_p1 (ev_var 5 rfl)) ev_int) fun _ => ev_one (ev_lt (ev_p0 (ev_var 5 rfl)) ev_int)))) rfl⟩) ?_)
    all_goals (try dsimp only [List.set])
    try dsimp only [List.set]
    refine sw_freeze 2 rfl ?_
    try dsimp only [List.set]
    refine sw_cons (s1_if (tv_neI (ev_ixL (ev_var 2 rfl) ev_int rfl) (ev_ixL (ev_var 2 rfl) ev_int rfl)) (fun ht => ?_) fun ht => ?_)
    all_goals (try dsimp only [List.set])
    · rw [if_pos (by simpa using ht)] at hp
      exact sw_one (s1_ret (EV.r (ev_lt (ev_ixL (ev_var 2 rfl) ev_int rfl) (ev_ixL (ev_var 2 rfl) ev_int rfl))) hp)
    rw [if_neg (by simpa using ht)] at hp
    refine sw_nil (sw_cons (s1_set 3 nd (ev_fn (k__law_cross E) hr (by decide) (evs_cons (ev_var 0 rfl) (evs_one (ev_var 1 rfl))) ⟨f, g, rfl, hf.big, hg.big, rfl⟩) ?_))
    all_goals (try dsimp only [List.set])
    try dsimp only [List.set]
    refine sw_cons (s1_if (tv_neI (ev_var 3 rfl) ev_int) (fun ht => ?_) fun ht => ?_)
    all_goals (try dsimp only [List.set])
    · rw [if_pos (by simpa using ht)] at hp
      exact sw_one (s1_ret (EV.r (ev_gt (ev_var 3 rfl) ev_int)) hp)
    rw [if_neg (by simpa using ht)] at hp
    refine sw_nil (sw_cons (s1_lc 4 [("_law_plane_here", 5)] pl (fun h => .int (size1 h)) [f, g] nd (iv_lst (ev_lst (evs_cons (ev_var 0 rfl) (evs_one (ev_var 1 rfl))))) (blkOk_by rfl) (by simp) (fun h hh => ⟨_, _, by decide, fun s H Ca cl fp => gv_name 5 nd, fun s H Ca cl fp => ev_add (ev_abs hab (ev_p0 (ev_var 5 rfl))) (ev_abs hab (ev_p1 (ev_var 5 rfl)))⟩) ?_))
    all_goals (try dsimp only [List.set])
    try dsimp only [List.set]
    refine sw_freeze 4 rfl ?_
    try dsimp only [List.set]
    exact sw_one (s1_ret (EV.r (ev_lt (ev_mul (ev_p2 (ev_var 0 rfl)) (ev_ixL (ev_var 4 rfl) ev_int rfl) (cm_of hf.b.r (size1_lt hg.b) (by decide))) (ev_mul (ev_p2 (ev_var 1 rfl)) (ev_ixL (ev_var 4 rfl) ev_int rfl) (cm_of hg.b.r (size1_lt hf.b) (by decide))))) hp))
theorem sc__law_sorted : FnScope ["_law_planes_here", "_law_rest", "_law_plane_here", "_law_found", "_law_first"] ["_law_planes_here"] (defScope (top 114)) := ⟨rfl, rfl, rfl, by decide +kernel, rfl, by decide +kernel, by decide +kernel⟩
def pm__law_sorted : Pm := fun ds p => ∃ hs : List Pl, ds = [.list (hs.map pl)] ∧ (∀ h ∈ hs, PO h) ∧ hs.length ≤ 1000 ∧ p (.list ((lawSorted hs).map pl))
theorem k__law_sorted (E : Hd K mg) : Kn P w K mg base "_law_sorted" [] 3 (spD K W 1 pm__law_sorted) :=
  kn_mk 93 E rfl rfl (fun _ _ _ _ _ _ us hl => match us, hl with | [_], _ => rfl) fun f fd F => fn_mk F sc__law_sorted (by
    rintro X C cdv A outer s H E' P0 ds p rfl rfl hr ⟨hs, rfl, hO, hz, hp⟩
    have nd := sc__law_sorted.nd
    dsimp only [iniL, iniN, List.tail]
    refine sw_cons (s1_own 1 nd (evl_lst evs_nil) ?_)
    all_goals (try dsimp only [List.set])
    try dsimp only [List.set]
    refine sw_cons (s1_for pl hs (iv_lst (ev_var 0 rfl)) (fun i Γ => ∃ v, Γ = [.pu (.list (hs.map pl)), .ow ((dedup (hs.take i)).map pl), v, .no, .no]) ⟨.no, rfl⟩ ?_ ?_)
    all_goals (try dsimp only [List.set])
    · rintro i h _ hx ⟨v, rfl⟩
      have ht : dedup (hs.take (i + 1)) = dedAdd (dedup (hs.take i)) h := by
        rw [List.take_succ, hx]; unfold dedup; rw [List.foldl_append]; rfl
      have hl := dedup_len (hs.take i)
      rw [List.length_take] at hl
      rw [ht]
      generalize dedup (hs.take i) = fs at hl ⊢
      unfold dedAdd
      refine ⟨_, _, gv_name 2 nd, ?_⟩
      try dsimp only [List.set]
      refine sw_one (s1_if (tv_thaw 1 rfl (tv_notInE eqv_pl flat_pl hr (ev_var 2 rfl) (ev_var 1 rfl))) (fun hn => ?_) fun hn => ?_)
      all_goals (try dsimp only [List.set])
      · have hn' : h ∉ fs := by simpa using hn
        rw [if_neg hn']
        refine sw_one (s1_append 1 rfl (ev_var 2 rfl) ⟨.pu (pl h), ?_⟩ (by rw [List.length_map]; omega))
        rw [List.map_append]
        rfl
      · have hn' : h ∈ fs := by simpa using hn
        rw [if_pos hn']
        exact sw_nil ⟨_, rfl⟩
    rintro _ ⟨v, rfl⟩
    rw [List.take_length]
    have hdl := dedup_len hs
    have hdm := @dedup_mem hs
    unfold lawSorted at hp
    have hO2 : ∀ h ∈ dedup hs, PO h := fun h hh => hO h (hdm.mp hh)
    generalize dedup hs = ds at hdl hO2 hp ⊢
    refine sw_cons (s1_own 3 nd (evl_lst evs_nil) ?_)
    all_goals (try dsimp only [List.set])
    try dsimp only [List.set]
    refine sw_cons (s1_while (fun m Γ => ∃ (rest fs : List Pl) (v u : Sl), Γ = [.pu (.list (hs.map pl)), .ow (rest.map pl), v, .ow (fs.map pl), u] ∧ rest.length = m ∧ (∀ h ∈ rest, PO h) ∧ fs.length + m ≤ 1000 ∧ fs ++ sortF m rest = sortF ds.length ds) ds.length ⟨ds, [], v, .no, rfl, rfl, hO2, by simp; omega, rfl⟩ ?_)
    all_goals (try dsimp only [List.set])
    rintro m _ ⟨rest, fs, v, u, rfl, hm, hR, hlen, hs'⟩
    refine ⟨_, tv_thaw 1 rfl (tv_lst (ev_var 1 rfl)), fun ht => ?_, fun ht => ?_⟩
    · cases rest with
      | nil => cases ht
      | cons r rs =>
        obtain ⟨m', rfl⟩ : ∃ m', m = m' + 1 := ⟨rs.length, by rw [← hm]; rfl⟩
        have hrl : rs.length = m' := by simpa using hm
        refine sw_cons (s1_set 4 nd (ev_ixO 1 rfl ev_int atI_cons) ?_)
        all_goals (try dsimp only [List.set])
        try dsimp only [List.set]
        refine sw_cons (s1_forOwn 1 pl (r :: rs) rfl (fun p i Γ => ∃ v, Γ = [.pu (.list (hs.map pl)), .pu (opqD p), v, .ow (fs.map pl), .pu (pl (((r :: rs).take i).foldl pickF r))]) (fun p => ⟨v, rfl⟩) (by rintro p i _ ⟨v, rfl⟩; rfl) ?_ ?_)
        all_goals (try dsimp only [List.set])
        · rintro p vs i x _ hx ⟨v, rfl⟩
          have ht : ((r :: rs).take (i + 1)).foldl pickF r = pickF (((r :: rs).take i).foldl pickF r) x := by
            rw [List.take_succ, hx, List.foldl_append]; rfl
          have hmem : ((r :: rs).take i).foldl pickF r ∈ r :: rs := by
            have : ∀ (xs : List Pl) (f : Pl), (∀ y ∈ xs, y ∈ r :: rs) → f ∈ r :: rs → xs.foldl pickF f ∈ r :: rs := by
              intro xs
              induction xs with
              | nil => intro f _ hf; exact hf
              | cons y ys ih =>
                intro f hy hf
                refine ih _ (fun z hz => hy z (List.mem_cons_of_mem _ hz)) ?_
                unfold pickF
                split
                · exact hy y List.mem_cons_self
                · exact hf
            exact this _ r (fun y hy => List.mem_of_mem_take hy) List.mem_cons_self
          rw [ht]
          generalize ((r :: rs).take i).foldl pickF r = f0 at hmem ⊢
          refine ⟨_, _, gv_name 2 nd, ?_⟩
          try dsimp only [List.set]
          unfold pickF
          refine sw_one (s1_if (tv_val (ev_fn (k__law_before E) hr (by decide) (evs_cons (ev_var 2 rfl) (evs_one (ev_var 4 rfl))) ⟨x, f0, rfl, hR x (List.mem_of_getElem? hx), hR f0 hmem, rfl⟩)) (fun hc => ?_) fun hc => ?_)
          all_goals (try dsimp only [List.set])
          · refine sw_one (s1_set 4 nd (ev_var 2 rfl) ⟨.pu (pl x), ?_⟩)
            try dsimp only [List.set]
            rw [if_pos hc]
          · refine sw_nil ⟨.pu (pl x), ?_⟩
            rw [if_neg (by rw [hc]; exact Bool.false_ne_true)]
        · rintro p _ ⟨v, rfl⟩
          try dsimp only [List.set]
          rw [List.take_length]
          have hpf : (r :: rs).foldl pickF r = pickFirst (r :: rs) := rfl
          rw [hpf]
          have hmem : pickFirst (r :: rs) ∈ r :: rs := pickFirst_mem
          obtain ⟨j, hj1, hj2⟩ := place_map eqv_pl hmem
          refine sw_cons (s1_remove 1 hr rfl (ev_var 4 rfl) (flat_list fun d hd => by obtain ⟨z, _, rfl⟩ := List.mem_map.mp hd; exact flat_pl z) (flat_of (flat_pl _)) hj1 ?_)
          all_goals (try dsimp only [List.set])
          try dsimp only [List.set]
          rw [hj2]
          refine sw_one (s1_append 3 rfl (ev_var 4 rfl) ⟨m', by omega, (r :: rs).erase (pickFirst (r :: rs)), fs ++ [pickFirst (r :: rs)], v, .pu (pl (pickFirst (r :: rs))), ?_, ?_, fun h hh => hR h (List.mem_of_mem_erase hh), ?_, ?_⟩ (by rw [List.length_map]; omega))
          · rw [List.map_append]
            rfl
          · rw [List.length_erase_of_mem hmem]
            simp [hrl]
          · rw [List.length_append]
            simp only [List.length_cons, List.length_nil]
            omega
          · rw [List.append_assoc]
            exact hs'
    · have hrn : rest = [] := by
        cases rest with
        | nil => rfl
        | cons r rs => cases ht
      subst hrn
      have hm0 : m = 0 := by rw [← hm]; rfl
      subst hm0
      have e : fs = sortF ds.length ds := by rw [← hs']; simp [sortF]
      rw [← e] at hp
      exact sw_one (s1_ret (evr_own 3 rfl) hp))
end
end RT
end
section
set_option Elab.async false
set_option linter.all false
set_option maxRecDepth 100000
set_option maxHeartbeats 4000000
set_option exponentiation.threshold 20000
/-! B17: the law's canonical planes, edges not needed, likeness. -/
namespace RT
open PySem PySem.Spec PyProof.Rows L2
theorem DDs.reps {K : PySem.W.Frag} {H : Hp} {vs : List V} {ds : List PD} (h : DDs K H vs ds) : ∀ n : Nat, DDs K H (List.replicate n vs).flatten (List.replicate n ds).flatten
  | 0 => .nil
  | n + 1 => by
    rw [List.replicate_succ, List.replicate_succ, List.flatten_cons, List.flatten_cons]
    exact h.append (DDs.reps h n)
theorem ev_rep {X : Cx} {C : Ct} {Γ : List Sl} {a b : Expr} {pos : Pos} {ds : List PD} {k : Int} (ha : EV X C a Γ (.list ds)) (hb : EV X C b Γ (.int k)) (h0 : 0 ≤ k ∧ k ≤ 100) (hz : ds.length ≤ 100) : EV X C (.BinOp a .Mult b pos) Γ (.list (List.replicate k.toNat ds).flatten) := ev_op op_rep (fun hK P H x y m z1 z2 Q q => by
  obtain ⟨p1, vs, rfl, _, h1, h2⟩ := z1.lst_at
  cases z2
  refine ⟨p1, k, vs, rfl, rfl, h1, by omega, by omega, ?_, fun p hp => q _ _ (Ext.new hp) (C.W.new m.wok hp) (m.lst hp (h2.reps _))⟩
  refine sz_le ?_
  rw [h2.length]
  calc ds.length * k.toNat ≤ 100 * 100 := Nat.mul_le_mul hz (by omega)
    _ ≤ 100000 := by decide) ha hb
theorem rows01 {hs : List Pl} (hO : ∀ h ∈ hs, PO h) : ∀ r ∈ lawRows ((sampP hs).map fun h => lawLine h 0 1), RB 1809 904 r.a ∧ RB 1809 904 r.c := by
  have hl : ∀ l ∈ (sampP hs).map (fun h => lawLine h 0 1), RB 904 0 l.a ∧ RB 904 0 l.b ∧ RB 904 0 l.c := by
    intro l hl
    obtain ⟨h, hh, rfl⟩ := List.mem_map.mp hl
    have b := sampP_b hO h hh
    rw [line01]
    have e1 : (h.q : Rat) / 1 = (h.q : Rat) := by grind
    rw [e1, show (h.p : Rat) - (h.q : Rat) * 0 = (h.p : Rat) by grind]
    exact ⟨RB.int b.q, RB.int b.p, RB.int b.r⟩
  intro r hr
  unfold lawRows at hr
  rcases List.mem_append.mp hr with h | h
  · obtain ⟨h1, _, h3⟩ := hl r (List.mem_filter.mp h).1
    exact ⟨h1.mono (by decide) (by decide), h3.mono (by decide) (by decide)⟩
  · obtain ⟨one, h1, h2⟩ := List.mem_flatMap.mp h
    obtain ⟨other, h3, rfl⟩ := List.mem_map.mp h2
    obtain ⟨h4, h5⟩ := List.mem_filter.mp h3
    obtain ⟨a1, b1, c1⟩ := hl one (List.mem_filter.mp h1).1
    obtain ⟨a2, b2, c2⟩ := hl other h4
    have s : RB 904 904 (-(one.b / other.b)) := (RB.neg (b1.div b2 (ne_of_num (by have := of_decide_eq_true h5; omega)))).mono (by decide) (by decide)
    exact ⟨(a1.add (s.mul a2)).mono (by decide) (by decide), (c1.add (s.mul c2)).mono (by decide) (by decide)⟩
theorem samp_b {hs : List Pl} (hO : ∀ h ∈ hs, PO h) : RB 901 901 (sampOf hs).1 ∧ RB 2713 2713 (sampOf hs).2 := by
  refine ⟨sampH_b hO, ?_⟩
  show RB 2713 2713 (nearB (lawBounds (sampP hs) 0 1))
  unfold nearB
  split
  · rename_i w e
    exact ends_b (fun r hr hn => ((rows01 hO r hr).2.div (rows01 hO r hr).1 (ne_of_num hn)).mono (by decide) (by decide)) e
  · exact RB.zero.mono (by decide) (by decide)
theorem den_mul (x : Rat) : (x.den : Rat) * x = (x.num : Rat) := by
  have e : x = (x.num : Rat) / ((x.den : Int) : Rat) := by rw [← Rat.divInt_eq_div, Rat.num_divInt_den]
  have h0 : ((x.den : Int) : Rat) ≠ 0 := cast_ne (den_ne x)
  rw [Rat.intCast_natCast] at e h0
  generalize (x.den : Rat) = d at e h0
  generalize (x.num : Rat) = n at e
  rw [e]
  grind
/-- a ray of known sizes through a train -/
theorem out_zb {t : List El} (hT : TrW t) {z : Ray} (h1 : RB 1202 901 z.1) (h2 : RB 3014 2713 z.2) (i : Nat) : ZB (outOf (t.take i) z) := by
  obtain ⟨hM, hi⟩ := hT.take i
  rw [outOf_appl (t.take i) (fun e he => hT.el e (List.mem_of_mem_take he))]
  have key : ∀ {x y w : Rat}, En (t.take i).length x → En (t.take i).length y → En (t.take i).length w → RB 4000 4000 (x * z.1 + y * z.2 + w) := by
    intro x y w hx hy hw
    obtain ⟨a, ha, hal⟩ := hx
    obtain ⟨b, hb, hbl⟩ := hy
    obtain ⟨c, hc, hcl⟩ := hw
    generalize hk : (t.take i).length = k at *
    have hD : (0 : Int) < ((36 ^ k : Nat) : Int) * ((z.1.den : Int) * (z.2.den : Int)) := by
      have := Nat.pow_pos (n := k) (show 0 < 36 by decide)
      have := z.1.den_pos
      have := z.2.den_pos
      exact Int.mul_pos (by omega) (Int.mul_pos (by omega) (by omega))
    have pk : 756 ^ k ≤ 2 ^ 67 := Nat.le_trans (Nat.pow_le_pow_right (by decide) hi) (by decide)
    have qk : 36 ^ k ≤ 2 ^ 37 := Nat.le_trans (Nat.pow_le_pow_right (by decide) hi) (by decide)
    refine rb_of (D := ((36 ^ k : Nat) : Int) * ((z.1.den : Int) * (z.2.den : Int))) (k := a * (z.1.num * z.2.den) + b * (z.2.num * z.1.den) + c * ((z.1.den : Int) * z.2.den)) hD ?_ ?_ ?_
    · have e1 : (z.1.den : Rat) * z.1 = (z.1.num : Rat) := den_mul z.1
      have e2 : (z.2.den : Rat) * z.2 = (z.2.num : Rat) := den_mul z.2
      simp only [Rat.intCast_add, Rat.intCast_mul, Rat.intCast_natCast]
      rw [← ha, ← hb, ← hc, ← e1, ← e2]
      grind
    · have l1 : (a * (z.1.num * z.2.den)).natAbs < 2 ^ (67 + (1202 + 2713) + 1) := by
        rw [Int.natAbs_mul]
        have h := imul_lt2 (b := (z.2.den : Int)) h1.1 (by rw [Int.natAbs_natCast]; exact h2.2)
        calc a.natAbs * (z.1.num * z.2.den).natAbs ≤ 2 ^ 67 * 2 ^ (1202 + 2713) := Nat.mul_le_mul (Nat.le_trans hal pk) (Nat.le_of_lt h)
          _ < 2 ^ (67 + (1202 + 2713) + 1) := by rw [← Nat.pow_add]; exact Nat.pow_lt_pow_right (by decide) (by decide)
      have l2 : (b * (z.2.num * z.1.den)).natAbs < 2 ^ (67 + (3014 + 901) + 1) := by
        rw [Int.natAbs_mul]
        have h := imul_lt2 (b := (z.1.den : Int)) h2.1 (by rw [Int.natAbs_natCast]; exact h1.2)
        calc b.natAbs * (z.2.num * z.1.den).natAbs ≤ 2 ^ 67 * 2 ^ (3014 + 901) := Nat.mul_le_mul (Nat.le_trans hbl pk) (Nat.le_of_lt h)
          _ < 2 ^ (67 + (3014 + 901) + 1) := by rw [← Nat.pow_add]; exact Nat.pow_lt_pow_right (by decide) (by decide)
      have l3 : (c * ((z.1.den : Int) * z.2.den)).natAbs < 2 ^ (67 + (901 + 2713) + 1) := by
        rw [Int.natAbs_mul]
        have h := imul_le (a := (z.1.den : Int)) (b := (z.2.den : Int)) (by rw [Int.natAbs_natCast]; exact h1.2) (by rw [Int.natAbs_natCast]; exact h2.2)
        calc c.natAbs * ((z.1.den : Int) * z.2.den).natAbs ≤ 2 ^ 67 * 2 ^ (901 + 2713) := Nat.mul_le_mul (Nat.le_trans hcl pk) h
          _ < 2 ^ (67 + (901 + 2713) + 1) := by rw [← Nat.pow_add]; exact Nat.pow_lt_pow_right (by decide) (by decide)
      exact lt_mono (iadd_lt (iadd_lt l1 l2) l3) (by decide)
    · have h := imul_le (a := (z.1.den : Int)) (b := (z.2.den : Int)) (by rw [Int.natAbs_natCast]; exact h1.2) (by rw [Int.natAbs_natCast]; exact h2.2)
      rw [Int.natAbs_mul, Int.natAbs_natCast]
      calc 36 ^ k * ((z.1.den : Int) * z.2.den).natAbs ≤ 2 ^ 37 * 2 ^ (901 + 2713) := Nat.mul_le_mul qk h
        _ ≤ 2 ^ 4000 := by rw [← Nat.pow_add]; exact Nat.pow_le_pow_right (by decide) (by decide)
  exact ⟨key hM.a hM.b hM.e, key hM.c hM.d hM.f⟩
theorem isEmpty_filter {α : Type} (f : α → Bool) (xs : List α) (g : α → PD) : (!((xs.filter f).map g).isEmpty) = xs.any f := by
  rw [List.isEmpty_map]
  induction xs with
  | nil => rfl
  | cons x xs ih =>
    rw [List.filter_cons, List.any_cons]
    cases h : f x with
    | true => rfl
    | false => simpa using ih
section
variable {P : Program} {w : World} {K : PySem.W.Frag} {mg : Str → Option Value} {base : Heap} {W : Wo}
theorem sc__law_canonical : FnScope ["_law_planes_here", "_law_kind_here", "_law_different", "_law_ray", "_law_corner", "_law_line_here", "_law_share", "_law_step", "_law_bounds_here", "_law_found", "_law_one", "_law_other_here"] ["_law_planes_here"] (defScope (top 116)) := ⟨rfl, rfl, rfl, by decide +kernel, rfl, by decide +kernel, by decide +kernel⟩
def pm__law_canonical : Pm := fun ds p => ∃ hs : List Pl, ds = [.list (hs.map pl)] ∧ (∀ h ∈ hs, PO h) ∧ hs.length ≤ 40 ∧ NeOk hs ∧ lawKind hs = .area ∧ p (.list ((lawNeeded hs).map pl))
theorem k__law_canonical (E : Hd K mg) : Kn P w K mg base "_law_canonical" [] 8 (spD K W 1 pm__law_canonical) :=
  kn_mk 94 E rfl rfl (fun _ _ _ _ _ _ us hl => match us, hl with | [_], _ => rfl) fun f fd F => fn_mk F sc__law_canonical (by
    rintro X C cdv A outer s H E' P0 ds p rfl rfl hr ⟨hs, rfl, hO, hz, hN, hk, hp⟩
    have nd := sc__law_canonical.nd
    dsimp only [iniL, iniN, List.tail]
    have hl := lawSorted_len hs
    have hO2 : ∀ h ∈ lawSorted hs, PO h := fun h hh => hO h (lawSorted_mem hh)
    unfold lawNeeded at hp
    refine sw_cons (s1_set 1 nd (EV.is (ev_fn (k__law_kind E) hr (by decide) (evs_one (ev_var 0 rfl)) ⟨hs, rfl, hO, by omega, hN, rfl⟩) (by rw [hk])) ?_)
    all_goals (try dsimp only [List.set])
    try dsimp only [List.set]
    refine sw_cons (s1_skip (tv_eqS (ev_var 1 rfl) ev_str) rfl (sw_nil ?_))
    all_goals (try dsimp only [List.set])
    refine sw_cons (s1_take (tv_eqS (ev_var 1 rfl) ev_str) rfl ?_)
    all_goals (try dsimp only [List.set])
    refine sw_cons (s1_set 2 nd (ev_fn (k__law_sorted E) hr (by decide) (evs_one (ev_var 0 rfl)) ⟨hs, rfl, hO, by omega, rfl⟩) ?_)
    all_goals (try dsimp only [List.set])
    try dsimp only [List.set]
    generalize lawSorted hs = ds at hl hO2 hp ⊢
    have ef : ∀ one : Pl, (ds.filter fun o => !decide (o = one)) = ds.filter fun o => decide (o ≠ one) := fun one => by congr 1; funext o; simp
    refine sw_one (s1_ret (EV.r (EVL.ev (evl_lcIf (own := [("_law_one", 10)]) pl (fun h => !lawImp (ds.filter fun o => decide (o ≠ h)) h) pl ds nd (iv_lst (ev_var 2 rfl)) (blkOk_by rfl) (by omega) (fun one ho => ⟨_, _, by decide, fun s H Ca cl fp => gv_name 10 nd, fun s H Ca cl fp => tv_not (tv_val (ev_fn (k__law_implied E) hr (by decide) (evs_cons (EV.is (EVL.ev (evl_lcIf (own := [("_law_other_here", 11)]) pl (fun o => !decide (o = one)) pl ds nd (iv_lst (ev_var 2 rfl)) (blkOk_by rfl) (by omega) (fun o ho => ⟨_, _, by decide, fun s H Ca cl fp => gv_name 11 nd, fun s H Ca cl fp => tv_neE eqv_pl flat_pl hr (ev_var 11 rfl) (ev_var 10 rfl), fun _ s H Ca cl fp => ev_var 11 rfl⟩))) (by rw [ef])) (evs_one (ev_var 10 rfl))) ⟨ds.filter fun o => decide (o ≠ one), one, rfl, fun x hx => hO2 x (List.mem_filter.mp hx).1, ?_, hO2 one ho, rfl⟩)), fun _ s H Ca cl fp => ev_var 10 rfl⟩)))) hp)
    exact Nat.le_trans (List.length_filter_le _ _) (by omega))
theorem sc__law_without : FnScope ["_law_train_here", "_law_edge", "_law_found", "_law_stop_here"] ["_law_train_here", "_law_edge"] (defScope (top 118)) := ⟨rfl, rfl, rfl, by decide +kernel, rfl, by decide +kernel, by decide +kernel⟩
def pm__law_without : Pm := fun ds p => ∃ (t : List El) (e : Ed) (lo hi : Option Rat), ds = [.list (t.map el), ed e] ∧ t[e.i]? = some (.stop lo hi) ∧ t.length ≤ 1000 ∧ p (.list ((woEdge t e).map el))
theorem k__law_without (E : Hd K mg) : Kn P w K mg base "_law_without" [] 1 (spD K W 2 pm__law_without) :=
  kn_mk 96 E rfl rfl (fun _ _ _ _ _ _ us hl => match us, hl with | [_, _], _ => rfl) fun f fd F => fn_mk F sc__law_without (by
    rintro X C cdv A outer s H E' P0 ds p rfl rfl hr ⟨t, e, lo, hi, rfl, he, hz, hp⟩
    have nd := sc__law_without.nd
    dsimp only [iniL, iniN, List.tail]
    have hlt := (List.getElem?_eq_some_iff.mp he).1
    have hset : (woEdge t e).map el = (t.map el).set e.i (el (if e.up then .stop lo none else .stop none hi)) := by
      rw [woEdge_at he, ← List.map_set]
      congr 1
      rw [List.set_eq_take_append_cons_drop, if_pos hlt]
      simp
    rw [hset] at hp
    refine sw_cons (s1_own 2 nd (evl_list (E.free "list" (by simp)) (ev_var 0 rfl)) ?_)
    all_goals (try dsimp only [List.set])
    try dsimp only [List.set]
    have hat := atI_nat (en := el) he
    have hix : ixN (t.map el).length (e.i : Int) = some e.i := by
      unfold ixN
      rw [List.length_map]
      first
        | (rw [if_pos (by omega)]; simp; exact hlt)
        | (split <;> (try split) <;> simp_all <;> omega)
    refine sw_cons (s1_set 3 nd (ev_ixO 2 rfl (ev_ixT (d := .int (e.i : Int)) (ev_var 1 rfl) ev_int rfl) hat) ?_)
    all_goals (try dsimp only [List.set])
    try dsimp only [List.set]
    obtain ⟨i, up⟩ := e
    cases up with
    | false =>
      refine sw_cons (s1_setI 2 (j := i) rfl (d := el (.stop none hi)) (ev_ixL (i := 0) (ev_lst (evs_cons (ev_tup (evs_cons ev_str (evs_cons ev_non (evs_one (ev_ixT (ev_var 3 rfl) ev_int rfl))))) (evs_one (ev_tup (evs_cons ev_str (evs_cons (ev_ixT (ev_var 3 rfl) ev_int rfl) (evs_one ev_non))))))) (EV.is (ev_intB (E.free "int" (by simp)) (ev_cmp op_eq rd_eqS (ev_ixT (d := .str "lower") (ev_var 1 rfl) ev_int rfl) ev_str)) rfl) rfl) (ev_ixT (d := .int (i : Int)) (ev_var 1 rfl) ev_int rfl) hix ?_)
      all_goals (try dsimp only [List.set])
      try dsimp only [List.set]
      exact sw_one (s1_ret (evr_own 2 rfl) hp)
    | true =>
      refine sw_cons (s1_setI 2 (j := i) rfl (d := el (.stop lo none)) (ev_ixL (i := 1) (ev_lst (evs_cons (ev_tup (evs_cons ev_str (evs_cons ev_non (evs_one (ev_ixT (ev_var 3 rfl) ev_int rfl))))) (evs_one (ev_tup (evs_cons ev_str (evs_cons (ev_ixT (ev_var 3 rfl) ev_int rfl) (evs_one ev_non))))))) (EV.is (ev_intB (E.free "int" (by simp)) (ev_cmp op_eq rd_eqS (ev_ixT (d := .str "upper") (ev_var 1 rfl) ev_int rfl) ev_str)) rfl) rfl) (ev_ixT (d := .int (i : Int)) (ev_var 1 rfl) ev_int rfl) hix ?_)
      all_goals (try dsimp only [List.set])
      try dsimp only [List.set]
      exact sw_one (s1_ret (evr_own 2 rfl) hp))
theorem sc__law_redundant : FnScope ["_law_train_here", "_law_edge"] ["_law_train_here"] (defScope (top 119)) := ⟨rfl, rfl, rfl, by decide +kernel, rfl, by decide +kernel, by decide +kernel⟩
def pm__law_redundant : Pm := fun ds p => ∃ t : List El, ds = [.list (t.map el)] ∧ TrW t ∧ p (.list ((lawRed t).map ed))
theorem k__law_redundant (E : Hd K mg) : Kn P w K mg base "_law_redundant" [] 9 (spD K W 1 pm__law_redundant) :=
  kn_mk 97 E rfl rfl (fun _ _ _ _ _ _ us hl => match us, hl with | [_], _ => rfl) fun f fd F => fn_mk F sc__law_redundant (by
    rintro X C cdv A outer s H E' P0 ds p rfl rfl hr ⟨t, rfl, hT, hp⟩
    have nd := sc__law_redundant.nd
    dsimp only [iniL, iniN, List.tail]
    have hl := hpTo_len t t.length
    have hl2 := hT.len
    have e : (lawRed t).map ed = ((hps t).filter (lawRedOne t)).map fun z => ed z.1 := by unfold lawRed; rw [List.map_map]; rfl
    rw [e] at hp
    refine sw_one (s1_ret (EV.r (EVL.ev (evl_lcIf (own := [("_law_edge", 1)]) edp (lawRedOne t) (fun z => ed z.1) (hps t) nd (iv_lst (ev_fn (k__law_edges E) hr (by decide) (evs_one (ev_var 0 rfl)) ⟨t, rfl, hT, rfl⟩)) (blkOk_by rfl) (by unfold hps; omega) (fun z hz => ⟨_, _, by decide, fun s H Ca cl fp => gv_name 1 nd, fun s H Ca cl fp => ?_, fun _ s H Ca cl fp => ev_ixT (ev_var 1 rfl) ev_int rfl⟩)))) hp)
    obtain ⟨lo, hi, he, _⟩ := mem_hps hz
    have hW := hT.wo he
    have hpl := hW.plen
    exact tv_val (ev_fn (k__law_implied E) hr (by decide) (evs_cons (ev_fn (k__law_planes E) hr (by decide) (evs_one (ev_fn (k__law_without E) hr (by decide) (evs_cons (ev_var 0 rfl) (evs_one (ev_ixT (ev_var 1 rfl) ev_int rfl))) ⟨t, z.1, lo, hi, rfl, he, by omega, rfl⟩)) ⟨_, rfl, hW, rfl⟩) (evs_one (ev_ixT (ev_var 1 rfl) ev_int rfl))) ⟨_, z.2, rfl, hW.po', by omega, hT.po z hz, rfl⟩))
end
end RT
end
section
set_option Elab.async false
set_option linter.all false
set_option maxRecDepth 100000
set_option maxHeartbeats 1500000
set_option exponentiation.threshold 20000
/-! B18: the law's likeness of trains. -/
namespace RT
open PySem PySem.Spec PyProof.Rows L2
section
variable {P : Program} {w : World} {K : PySem.W.Frag} {mg : Str → Option Value} {base : Heap} {W : Wo}
theorem sc__law_alike : FnScope ["_law_train_here", "_law_other_here", "_law_mine", "_law_theirs", "_law_ray", "_law_steps", "_law_line_here", "_law_step", "_law_one", "_law_plane_here"] ["_law_train_here", "_law_other_here"] (defScope (top 111)) := ⟨rfl, rfl, rfl, by decide +kernel, rfl, by decide +kernel, by decide +kernel⟩
def pm__law_alike : Pm := fun ds p => ∃ t u : List El, ds = [.list (t.map el), .list (u.map el)] ∧ TrW t ∧ TrW u ∧ NeOk (planes t) ∧ (lawEmp (planes t) = false → lawBounds (sampP (planes t)) 0 1 ≠ none) ∧ p (.bool (lawAlike t u))
theorem k__law_alike (E : Hd K mg) : Kn P w K mg base "_law_alike" [] 9 (spD K W 2 pm__law_alike) :=
  kn_mk 90 E rfl rfl (fun _ _ _ _ _ _ us hl => match us, hl with | [_, _], _ => rfl) fun f fd F => fn_mk F sc__law_alike (by
    rintro X C cdv A outer s H E' P0 ds p rfl rfl hr ⟨t, u, rfl, hT, hU, hN, hS, hp⟩
    have nd := sc__law_alike.nd
    dsimp only [iniL, iniN, List.tail]
    have hOt := hT.po'
    have hOu := hU.po'
    have hlt := hT.plen
    have hlu := hU.plen
    have ht2 := hT.len
    have hu2 := hU.len
    unfold lawAlike at hp
    refine sw_cons (s1_set 2 nd (ev_fn (k__law_planes E) hr (by decide) (evs_one (ev_var 0 rfl)) ⟨t, rfl, hT, rfl⟩) ?_)
    all_goals (try dsimp only [List.set])
    try dsimp only [List.set]
    refine sw_cons (s1_set 3 nd (ev_fn (k__law_planes E) hr (by decide) (evs_one (ev_var 1 rfl)) ⟨u, rfl, hU, rfl⟩) ?_)
    all_goals (try dsimp only [List.set])
    try dsimp only [List.set]
    generalize planes t = ms at *
    generalize planes u = ns at *
    refine sw_cons (s1_if (TW.tv (tw_or (TV.is (tv_lst (EVL.ev (evl_lcIf (own := [("_law_plane_here", 9)]) pl (fun h => !lawImp ms h) (fun _ => .int 1) ns nd (iv_lst (ev_var 3 rfl)) (blkOk_by rfl) (by omega) (fun h hh => ⟨_, _, by decide, fun s H Ca cl fp => gv_name 9 nd, fun s H Ca cl fp => tv_not (tv_val (ev_fn (k__law_implied E) hr (by decide) (evs_cons (ev_var 2 rfl) (evs_one (ev_var 9 rfl))) ⟨ms, h, rfl, hOt, by omega, hOu h hh, rfl⟩)), fun _ s H Ca cl fp => ev_int⟩)))) (isEmpty_filter _ _ _)) fun _ => tw_or1 (TV.is (tv_lst (EVL.ev (evl_lcIf (own := [("_law_plane_here", 9)]) pl (fun h => !lawImp ns h) (fun _ => .int 1) ms nd (iv_lst (ev_var 2 rfl)) (blkOk_by rfl) (by omega) (fun h hh => ⟨_, _, by decide, fun s H Ca cl fp => gv_name 9 nd, fun s H Ca cl fp => tv_not (tv_val (ev_fn (k__law_implied E) hr (by decide) (evs_cons (ev_var 3 rfl) (evs_one (ev_var 9 rfl))) ⟨ns, h, rfl, hOu, by omega, hOt h hh, rfl⟩)), fun _ s H Ca cl fp => ev_int⟩)))) (isEmpty_filter _ _ _)))) (fun hc => ?_) fun hc => ?_)
    all_goals (try dsimp only [List.set])
    · rw [if_pos hc] at hp
      exact sw_one (s1_ret (EV.r ev_bl) hp)
    rw [if_neg (by rw [hc]; exact Bool.false_ne_true)] at hp
    refine sw_nil (sw_cons (s1_if (tv_val (ev_fn (k__law_empty E) hr (by decide) (evs_one (ev_var 2 rfl)) ⟨ms, rfl, hOt, by omega, rfl⟩)) (fun hc => ?_) fun hc => ?_))
    all_goals (try dsimp only [List.set])
    · rw [if_pos hc] at hp
      exact sw_one (s1_ret (EV.r ev_bl) hp)
    rw [if_neg (by rw [hc]; exact Bool.false_ne_true)] at hp
    have hN' := hN hc
    have hS' := hS hc
    refine sw_nil (sw_cons (s1_set 4 nd (ev_fn (k__law_sample E) hr (by decide) (evs_one (ev_var 2 rfl)) ⟨ms, rfl, hOt, by omega, hN' 1 0 (.inl (by decide)), hS', rfl⟩) ?_))
    all_goals (try dsimp only [List.set])
    try dsimp only [List.set]
    obtain ⟨sb1, sb2⟩ := samp_b hOt
    generalize sampOf ms = sr at sb1 sb2 hp ⊢
    refine sw_cons ?_
    refine s1_set (i := 5) (d := .list (([(1, 0), (0, 1)] : List Ray).map ray)) ?_ ?_ ?_ (hi := ?_) (hx := ?_) (hs := ?_) (hf := ?_) (hl := ?_)
    · exact nd
    · refine ev_lst (ds := [ray (1, 0), ray (0, 1)]) ?_ ?_
      · refine evs_cons ?_ (evs_one ?_ ?_) ?_
        · refine ev_tup (ds := [fr 1, fr 0]) ?_ ?_
          · refine evs_cons ?_ (evs_one ?_ ?_) ?_
            · exact (eq_con (i := 1) (n := 1) (by decide)).ev
            · exact (eq_con (i := 0) (n := 1) (by decide)).ev
            · rfl
            · rfl
          · rfl
        · refine ev_tup (ds := [fr 0, fr 1]) ?_ ?_
          · refine evs_cons ?_ (evs_one ?_ ?_) ?_
            · exact (eq_con (i := 0) (n := 1) (by decide)).ev
            · exact (eq_con (i := 1) (n := 1) (by decide)).ev
            · rfl
            · rfl
          · rfl
        · rfl
        · rfl
      · rfl
    rotate_left
    · rfl
    · exact Or.inl rfl
    · rfl
    · exact .inl rfl
    · rfl
    try dsimp only [List.set]
    refine sw_cons (s1_set 6 nd (ev_fn (k__law_line_of E) hr (by decide) (evs_one (ev_var 2 rfl)) ⟨ms, rfl, hOt, by omega, fun h hh => hN' _ _ (cast_or (hOt h hh)), rfl⟩) ?_)
    all_goals (try dsimp only [List.set])
    try dsimp only [List.set]
    have keyK : ∀ k : Kind, decide (kindS k = ("point" : Str)) = decide (k = .point) := fun k => by cases k <;> rfl
    refine sw_cons (s1_ifJ (fun Γ => Γ = [.pu (.list (t.map el)), .pu (.list (u.map el)), .pu (.list (ms.map pl)), .pu (.list (ns.map pl)), .pu (ray sr), .pu (.list ((lawSteps ms).map ray)), .pu (opl (lawLineOf ms)), .no, .no, .no] ∧ ∀ s ∈ lawSteps ms, DB s.1 ∧ DB s.2) (tv_notN (ev_var 6 rfl)) (fun hc => ?_) (fun hc => ?_) ?_)
    all_goals (try dsimp only [List.set])
    · cases e : lawLineOf ms with
      | none => rw [e] at hc; cases hc
      | some l =>
        have ol := hOt l (lawLineOf_mem e)
        refine sw_one (s1_set 5 nd (ev_rep (ev_lst (evs_one (ev_tup (evs_cons (eq_pair (n := 300) (ev_neg (ev_p1 (ev_var 6 rfl))) (by rw [Int.natAbs_neg]; exact ol.b.q)).ev (evs_one (eq_pair (ev_p0 (ev_var 6 rfl)) ol.b.p).ev))))) (ev_intB (E.free "int" (by simp)) (ev_cmp op_ne rd_neS (ev_fn (k__law_kind E) hr (by decide) (evs_one (ev_var 2 rfl)) ⟨ms, rfl, hOt, by omega, hN, rfl⟩) ev_str)) (by split <;> decide) (Nat.le_of_ble_eq_true rfl)) ⟨?_, ?_⟩)
        · try dsimp only [List.set]
          rw [keyK]
          unfold lawSteps
          rw [e]
          by_cases h : lawKind ms = .point
          · simp only [h, decide_true, Bool.not_true, Bool.false_eq_true, if_false, ne_eq, not_true_eq_false]
            try rfl
          · simp only [h, decide_false, Bool.not_false, if_true, ne_eq, not_false_eq_true]
            try rfl
        · intro s hs
          unfold lawSteps at hs
          rw [e] at hs
          simp only at hs
          split at hs
          · rw [List.mem_singleton] at hs
            subst hs
            exact ⟨ol.dnq, ol.dp⟩
          · cases hs
    · cases e : lawLineOf ms with
      | some l => rw [e] at hc; cases hc
      | none =>
        refine sw_nil ⟨?_, ?_⟩
        · unfold lawSteps
          rw [e]
          try rfl
        · intro s hs
          unfold lawSteps at hs
          rw [e] at hs
          simp only [List.mem_cons, List.not_mem_nil, or_false] at hs
          rcases hs with rfl | rfl
          · exact ⟨RB.one.mono (by decide) (by decide), RB.zero.mono (by decide) (by decide)⟩
          · exact ⟨RB.zero.mono (by decide) (by decide), RB.one.mono (by decide) (by decide)⟩
    rintro _ ⟨rfl, hdb⟩
    have hlen : (lawSteps ms).length ≤ 2 := by
      unfold lawSteps
      split
      · simp
      · split <;> simp
    have hdb2 : ∀ s ∈ ((0, 0) :: lawSteps ms : List Ray), DB s.1 ∧ DB s.2 := fun s hs => by
      rcases List.mem_cons.mp hs with rfl | hs
      · exact ⟨RB.zero.mono (by decide) (by decide), RB.zero.mono (by decide) (by decide)⟩
      · exact hdb s hs
    generalize lawSteps ms = ss at hlen hdb hdb2 hp ⊢
    generalize hA : (((0, 0) :: ss).all fun s => lawTry t u sr s) = A at hp
    refine sw_cons (s1_for ray ((0, 0) :: ss) (iv_lst (EV.is (ev_cat (ev_lst (evs_one (ev_tup (evs_cons (eq_con (n := 0) (by decide)).ev (evs_one (eq_con (n := 0) (by decide)).ev))))) (ev_var 5 rfl) (by simp only [List.length_cons, List.length_nil, List.length_map]; omega)) (d1 := .list (((0, 0) :: ss).map ray)) rfl)) (fun i Γ => ∃ v v8, Γ = [.pu (.list (t.map el)), .pu (.list (u.map el)), .pu (.list (ms.map pl)), .pu (.list (ns.map pl)), .pu (ray sr), .pu (.list (ss.map ray)), .pu (opl (lawLineOf ms)), v, v8, .no] ∧ A = (((0, 0) :: ss).drop i).all fun s => lawTry t u sr s) ⟨.no, .no, rfl, hA.symm⟩ ?_ ?_)
    all_goals (try dsimp only [List.set])
    · rintro i s _ hx ⟨v, v8, rfl, hall⟩
      obtain ⟨b1, b2⟩ := hdb2 s (List.mem_of_getElem? hx)
      rw [drop_at hx, List.all_cons] at hall
      refine ⟨_, _, gv_name 7 nd, ?_⟩
      try dsimp only [List.set]
      have r1 : RB 1202 901 (sr.1 + s.1) := (sb1.add b1).mono (by decide) (by decide)
      have r2 : RB 3014 2713 (sr.2 + s.2) := (sb2.add b2).mono (by decide) (by decide)
      refine sw_cons (s1_set 8 nd (ev_tup (evs_cons (lq_add E hr ⟨ev_ixT (d := fr sr.1) (ev_var 4 rfl) ev_int rfl, sb1⟩ ⟨ev_ixT (d := fr s.1) (ev_var 7 rfl) ev_int rfl, b1⟩).ev (evs_one (lq_add E hr ⟨ev_ixT (d := fr sr.2) (ev_var 4 rfl) ev_int rfl, sb2⟩ ⟨ev_ixT (d := fr s.2) (ev_var 7 rfl) ev_int rfl, b2⟩).ev))) ?_)
      all_goals (try dsimp only [List.set])
      try dsimp only [List.set]
      refine sw_one (s1_if (tv_neE eqv_ray flat_ray hr (ev_fn (k__law_out E) hr (by decide) (evs_cons (ev_var 0 rfl) (evs_one (ev_var 8 rfl))) ⟨t, (sr.1 + s.1, sr.2 + s.2), rfl, fun e he => (hT.el e he).b, out_zb hT r1 r2, by omega, rfl⟩) (ev_fn (k__law_out E) hr (by decide) (evs_cons (ev_var 1 rfl) (evs_one (ev_var 8 rfl))) ⟨u, (sr.1 + s.1, sr.2 + s.2), rfl, fun e he => (hU.el e he).b, out_zb hU r1 r2, by omega, rfl⟩)) (fun hc => ?_) fun hc => ?_)
      all_goals (try dsimp only [List.set])
      · have hf : lawTry t u sr s = false := by
          unfold lawTry
          exact decide_eq_false (by simpa using hc)
        rw [hf, Bool.false_and] at hall
        rw [hall] at hp
        exact sw_one (s1_ret (EV.r ev_bl) hp)
      · have hf : lawTry t u sr s = true := by
          unfold lawTry
          exact decide_eq_true (by simpa using hc)
        rw [hf, Bool.true_and] at hall
        exact sw_nil ⟨_, _, rfl, hall⟩
    · rintro _ ⟨v, v8, rfl, hall⟩
      rw [List.drop_length] at hall
      rw [hall] at hp
      exact sw_one (s1_ret (EV.r ev_bl) hp))
end
end RT
end
section
set_option Elab.async false
set_option linter.all false
set_option maxRecDepth 100000
/-! A15: values of which only a property is told; the box of draws. -/
namespace RT
open PySem PySem.Spec PyProof.Rows L2
section
variable {X : Cx} {C : Ct} {Γ Γ' : List Sl} {e a b c tg iter : Expr} {es : List Expr} {d d1 d2 : PD} {ds es' dd : List PD} {pos p2 : Pos} {x y : Bool} {B : Po} {W : Wo} {R R1 R2' S : PD → Prop} {RS : List PD → Prop} {rest body t1 t2 sts : List Stmt}
theorem EVc.mono (h : EVc X C e Γ R) (i : ∀ d, R d → S d) : EVc X C e Γ S := .mk fun hK P σ H o Q q => h hK P σ H o Q fun d v H' r => q d v H' (i d r)
theorem evc_of (h : EV X C e Γ d) : EVc X C e Γ (fun z => z = d) := h.toC rfl
structure EVcs (X : Cx) (C : Ct) (es : List Expr) (Γ : List Sl) (R : List PD → Prop) : Prop where
  run : C.K = X.K → ∀ P σ H, Ok C P H σ Γ → ∀ Q : List V → Hp → Prop, (∀ ds vs H', R ds → Ext C.W H H' → C.W.ok H' → DDs C.K (msk P H') vs ds → Q vs H') → wA X es σ H Q
instance {X : Cx} {C : Ct} {es : List Expr} {Γ : List Sl} {R : List PD → Prop} : CoeFun (EVcs X C es Γ R) fun _ => (C.K = X.K → ∀ P σ H, Ok C P H σ Γ → ∀ Q : List V → Hp → Prop, (∀ ds vs H', R ds → Ext C.W H H' → C.W.ok H' → DDs C.K (msk P H') vs ds → Q vs H') → wA X es σ H Q) := ⟨EVcs.run⟩
theorem evcs_of (h : EVs X C es Γ ds) : EVcs X C es Γ (fun l => l = ds) := .mk fun hK P σ H o Q q => h hK P σ H o Q fun vs H' e ok z => q ds vs H' rfl e ok z
theorem evcs_nil : EVcs X C [] Γ (fun l => l = []) := evcs_of evs_nil
theorem evcs_cons (h : EVc X C e Γ R) (hs : EVcs X C es Γ RS) (hst : starEach (e :: es) X.env = (false, eval e X.env) :: starEach es X.env := by rfl) : EVcs X C (e :: es) Γ (fun l => ∃ d ds, l = d :: ds ∧ R d ∧ RS ds) := .mk fun hK P σ H o Q q =>
  w_pa (pa_cons pe_w pa_w hst) (h hK P σ H o _ fun d v H1 r1 e1 ok1 z1 => hs hK P σ H1 (o.step e1 ok1) _ fun ds vs H2 r2 e2 ok2 z2 => q (d :: ds) _ H2 ⟨d, ds, rfl, r1, r2⟩ (e1.trans e2) ok2 (.cons (z1.mono ((o.step e1 ok1).le e2)) z2))
theorem evcs_one (h : EVc X C e Γ R) (hst : starEach [e] X.env = (false, eval e X.env) :: starEach [] X.env := by rfl) : EVcs X C [e] Γ (fun l => ∃ d, l = [d] ∧ R d) := .mk fun hK P σ H o Q q =>
  evcs_cons h evcs_nil hst hK P σ H o Q fun ds vs H' r => q ds vs H' (by obtain ⟨d, ds', rfl, r1, rfl⟩ := r; exact ⟨d, rfl, r1⟩)
theorem evc_tup {x1 : Nat} (h : EVcs X C es Γ RS) (hR : ∀ ds, RS ds → ds.length ≤ 100000 ∧ R (.tuple ds)) : EVc X C (.Tuple es x1 pos) Γ R := .mk fun hK P σ H o Q q =>
  w_pe (pe_tup pa_w) (h hK P σ H o _ fun ds vs H1 r1 e1 ok1 z1 => ⟨by rw [z1.length]; exact sz_le (hR ds r1).1, fun p hp =>
    have m := (o.step e1 ok1).md
    q _ _ _ (hR ds r1).2 (e1.trans (Ext.new hp)) (m.ok_new hp) (m.tup hp z1)⟩)
theorem evc_lst (h : EVcs X C es Γ RS) (hR : ∀ ds, RS ds → ds.length ≤ 100000 ∧ R (.list ds)) : EVc X C (.List es pos) Γ R := .mk fun hK P σ H o Q q =>
  w_pe (pe_lst pa_w) (h hK P σ H o _ fun ds vs H1 r1 e1 ok1 z1 => ⟨by rw [z1.length]; exact sz_le (hR ds r1).1, fun p hp =>
    have m := (o.step e1 ok1).md
    q _ _ _ (hR ds r1).2 (e1.trans (Ext.new hp)) (m.ok_new hp) (m.lst hp z1)⟩)
theorem evc_callC {xn : Str} {p : Pos} {j k n : Nat} {pm : Pm} (G : Kn X.prog X.w X.K X.mg X.base xn [] j (spD X.K C.W n pm)) (hr : Room k X.A) (hj : j ≤ k) (ha : EVcs X C (e :: es) Γ RS) (hp : ∀ ds, RS ds → pm ds R ∧ ds.length = n) (hg : Gl X xn := by rfl)
    (hdb : (xn == ("__debug__" : Str)) = false := by decide) (he : starEach (e :: es) X.env = (false, eval e X.env) :: starEach es X.env := by rfl) (hpl : (backTo pos (starEach es X.env)).any (·.1) = false := by rfl) : EVc X C (.Call (.Name xn p) (e :: es) [] pos) Γ R := .mk fun hK P σ H o Q q => by
  obtain ⟨f, fd, ps, dvl, h1, h2, h3, h4, h5⟩ := G.ex
  refine w_pe (pe_call (E := E0) h5 (hr.mono hj) hg h1 h2 h4 h3 pass0 pa_w hdb he hpl) (ha hK P σ H o _ fun ds vs H1 r1 e1 ok1 z1 => ?_)
  have o1 := o.step e1 ok1
  obtain ⟨hpm, hn⟩ := hp ds r1
  refine ⟨P, ds, R, ?_, ok1, o1.dom, o1.pw, ?_, hpm, fun d v H' r e2 ok2 z => ?_⟩
  · rw [List.append_nil, z1.length]; exact hn
  · rw [List.append_nil, ← hK]; exact z1
  · exact q d v H' r (e1.trans e2) ok2 (by rw [hK]; exact z)
theorem evc_t2 {t : TE} {r : R2} (hp : PE X e t) (ht : ∀ σ H Q, tOp r (wE X a) (wE X b) σ H Q → t σ H Q) (ha : EVc X C a Γ R1) (hb : EVc X C b Γ R2') (hr : ∀ d1 d2, R1 d1 → R2' d2 → ∃ d, R d ∧ R2D X C r d1 d2 d) : EVc X C e Γ R := .mk fun hK P σ H o Q q =>
  w_pe hp (ht σ H Q (ha hK P σ H o _ fun d1 v H1 r1 e1 ok1 z1 => hb hK P σ H1 (o.step e1 ok1) _ fun d2 u H2 r2 e2 ok2 z2 => by
    have o2 := (o.step e1 ok1).step e2 ok2
    obtain ⟨d, rd, hr⟩ := hr d1 d2 r1 r2
    exact hr hK P H2 v u o2.md (z1.mono ((o.step e1 ok1).le e2)) z2 Q fun w H3 e3 ok3 z3 => q d w H3 rd ((e1.trans e2).trans e3) ok3 z3))
theorem evc_sub (ha : EVc X C a Γ R1) (hb : EVc X C b Γ R2') (hr : ∀ d1 d2, R1 d1 → R2' d2 → ∃ i j, d1 = .int i ∧ d2 = .int j ∧ R (.int (i - j))) : EVc X C (.BinOp a .Sub b pos) Γ R :=
  evc_t2 (pe_op op_sub pe_w pe_w) (fun _ _ _ h => h) ha hb fun d1 d2 r1 r2 => by
    obtain ⟨i, j, rfl, rfl, r⟩ := hr d1 d2 r1 r2
    exact ⟨_, r, rd_I0 fun _ _ => .int _⟩
theorem rd_ixL {i : Int} (h : L2.atI ds i = some d) : R2D X C (rIxL X.K) (.list ds) (.int i) d := fun hK P H x y m z1 z2 Q q => by
  cases z2
  obtain ⟨p, vs, rfl, _, h1, h2⟩ := z1.lst_at
  obtain ⟨v, h3, h4⟩ := h2.atI h
  exact ⟨p, vs, i, v, rfl, rfl, SqL.of h1, h3, q v H (Ext.refl _ _) m.wok h4⟩
theorem evc_ixL (ha : EVc X C a Γ R1) (hb : EVc X C b Γ R2') (hr : ∀ d1 d2, R1 d1 → R2' d2 → ∃ ds i d, d1 = .list ds ∧ d2 = .int i ∧ L2.atI ds i = some d ∧ R d) (hs : PlainIx b := by exact fun _ _ => rfl) : EVc X C (.Subscript a b pos) Γ R :=
  evc_t2 (pe_ix ix_list pe_w pe_w hs) (fun _ _ _ h => h) ha hb fun d1 d2 r1 r2 => by
    obtain ⟨ds, i, d, rfl, rfl, h, r⟩ := hr d1 d2 r1 r2
    exact ⟨_, r, rd_ixL h⟩
theorem evc_slice {lo hi : Option Expr} {i j : Option Int} (ha : EVc X C a Γ R1) (hl : EVO X C lo Γ i) (hh : EVO X C hi Γ j) (hr : ∀ d, R1 d → ∃ ds, d = .list ds ∧ R (.list (cutD ds i j))) : EVc X C (.Subscript a (.Slice lo hi none p2) pos) Γ R := .mk fun hK P σ H o Q q => by
  obtain ⟨tl, hl1, hl2⟩ := hl
  obtain ⟨th, hh1, hh2⟩ := hh
  refine w_pe (pe_slice sl_list pe_w hl1 hh1) (ha hK P σ H o _ fun d v H1 r1 e1 ok1 z1 => hl2 hK P σ H1 (o.step e1 ok1) _ fun H2 e2 ok2 => hh2 hK P σ H2 ((o.step e1 ok1).step e2 ok2) _ fun H3 e3 ok3 => ?_)
  obtain ⟨ds, rfl, r⟩ := hr d r1
  have z3 := z1.mono ((o.step e1 ok1).le (e2.trans e3))
  obtain ⟨p, vs, rfl, _, h1, h2⟩ := z3.lst_at
  have E := (e1.trans e2).trans e3
  have m := ((o.step e1 ok1).step (e2.trans e3) ok3).md
  exact ⟨p, vs, rfl, SqL.of h1, fun r' hr => q _ _ _ r (E.trans (Ext.new hr)) (C.W.new ok3 hr) (m.lst hr (h2.cut i j))⟩
/-! ### statements -/
theorem s1_setC (i : Nat) {xn : Str} (hN : X.N.Nodup) (he : EVc X C e Γ R) (h : ∀ d, R d → B.nx (Γ.set i (.pu d))) (hi : X.N[i]? = some xn := by rfl) (hx : Loc X.env.scope xn := by first | exact Or.inl rfl | exact Or.inr rfl) (hs : swapsWith e (some (.Name xn p2)) pos.line X.env = pure false := by rfl)
    (hf : X.fn xn = true ∨ X.env.scope.names.lookup xn = some .local := by first | exact .inl rfl | exact .inr rfl) (hl : Nat.blt i Γ.length = true := by rfl) : S1 X C (.Assign [.Name xn p2] e pos) Γ B := .mk fun hK P σ H o D f =>
  w_ps (ps_set hN hi hx pe_w hs hf) (he hK P σ H o _ fun d v H' r e1 ok z => f.nx _ P _ H' (h d r) ((o.step e1 ok).set (Nat.le_of_ble_eq_true hl) z) (o.le e1))
theorem s1_retC (he : EVc X C e Γ R) (h : ∀ d, R d → B.rt d) : S1 X C (.Return (some e) pos) Γ B := .mk fun hK P σ H o D f => w_ps (ps_ret pe_w) (he hK P σ H o _ fun d v H' r e1 ok z => f.rt d v H' (h d r) (o.ext.trans e1) ok (z.mono (Le.p0 o.sub)))
/-- a test of which nothing is told -/
structure TVc (X : Cx) (C : Ct) (e : Expr) (Γ : List Sl) : Prop where
  run : C.K = X.K → ∀ P σ H, Ok C P H σ Γ → ∀ Q : Bool → Hp → Prop, (∀ b H', Ext C.W H H' → C.W.ok H' → Q b H') → wT X e σ H Q
instance {X : Cx} {C : Ct} {e : Expr} {Γ : List Sl} : CoeFun (TVc X C e Γ) fun _ => (C.K = X.K → ∀ P σ H, Ok C P H σ Γ → ∀ Q : Bool → Hp → Prop, (∀ b H', Ext C.W H H' → C.W.ok H' → Q b H') → wT X e σ H Q) := ⟨TVc.run⟩
structure TWc (X : Cx) (C : Ct) (e : Expr) (Γ : List Sl) : Prop where
  run : C.K = X.K → ∀ P σ H, Ok C P H σ Γ → ∀ Q : Bool → Hp → Prop, (∀ b H', Ext C.W H H' → C.W.ok H' → Q b H') → wW X e σ H Q
instance {X : Cx} {C : Ct} {e : Expr} {Γ : List Sl} : CoeFun (TWc X C e Γ) fun _ => (C.K = X.K → ∀ P σ H, Ok C P H σ Γ → ∀ Q : Bool → Hp → Prop, (∀ b H', Ext C.W H H' → C.W.ok H' → Q b H') → wW X e σ H Q) := ⟨TWc.run⟩
theorem TV.cc (h : TV X C e Γ x) : TVc X C e Γ := .mk fun hK P σ H o Q q => h hK P σ H o Q fun H' e ok => q x H' e ok
theorem TWc.tv (h : TWc X C e Γ) : TVc X C e Γ := .mk fun hK P σ H o Q q => w_pt (PW.pt pw_w) (h hK P σ H o Q q)
theorem twc_and1 (h : TVc X C a Γ) : TWc X C (.BoolOp .And [a] pos) Γ := .mk fun hK P σ H o Q q => w_pw (pw_and1 pt_w) (h hK P σ H o Q q)
theorem twc_and {rest : List Expr} (h : TVc X C a Γ) (h2 : TWc X C (.BoolOp .And (b :: rest) pos) Γ) : TWc X C (.BoolOp .And (a :: b :: rest) pos) Γ := .mk fun hK P σ H o Q q =>
  w_pw (pw_and pt_w pw_w) (h hK P σ H o _ fun x H' e1 ok => by
    cases x with
    | true => rw [if_pos rfl]; exact h2 hK P σ H' (o.step e1 ok) Q fun b H2 e2 ok2 => q b H2 (e1.trans e2) ok2
    | false => rw [if_neg Bool.false_ne_true]; exact q _ H' e1 ok)
/-- a conjunction whose first part is known -/
theorem twc_andK {rest : List Expr} (h : TV X C a Γ x) (hx : x = true → TWc X C (.BoolOp .And (b :: rest) pos) Γ) : TWc X C (.BoolOp .And (a :: b :: rest) pos) Γ := .mk fun hK P σ H o Q q =>
  w_pw (pw_and pt_w pw_w) (h hK P σ H o _ fun H' e1 ok => by
    cases x with
    | true => rw [if_pos rfl]; exact hx rfl hK P σ H' (o.step e1 ok) Q fun b H2 e2 ok2 => q b H2 (e1.trans e2) ok2
    | false => rw [if_neg Bool.false_ne_true]; exact q _ H' e1 ok)
theorem tvc_eqI (ha : EVc X C a Γ R1) (hb : EVc X C b Γ R2') (hr : ∀ d1 d2, R1 d1 → R2' d2 → ∃ i j, d1 = .int i ∧ d2 = .int j) (hm : behindInMarks .Eq b = false := by first | exact nomark _ | rfl) : TVc X C (.Compare a [.Eq] [b] pos) Γ := .mk fun hK P σ H o Q q =>
  w_pt (pt_cmpR op_eq pe_w pe_w hm) (ha hK P σ H o _ fun d1 v H1 r1 e1 ok1 z1 => hb hK P σ H1 (o.step e1 ok1) _ fun d2 u H2 r2 e2 ok2 z2 => by
    have o2 := (o.step e1 ok1).step e2 ok2
    obtain ⟨i, j, rfl, rfl⟩ := hr d1 d2 r1 r2
    exact rd_eqI hK P H2 v u o2.md (z1.mono ((o.step e1 ok1).le e2)) z2 _ fun w H3 e3 ok3 z3 => by cases z3; exact ⟨_, rfl, q _ H3 ((e1.trans e2).trans e3) ok3⟩)
theorem s1_ifC (hc : TVc X C c Γ) (h1 : SW X C t1 Γ B) (h2 : SW X C t2 Γ B) : S1 X C (.If c t1 t2 pos) Γ B := .mk fun hK P σ H o D f =>
  w_ps (ps_if pt_w pss_w pss_w) (hc hK P σ H o _ fun x H' e1 ok => by
    cases x with
    | true => rw [if_pos rfl]; exact h1 hK P σ H' (o.step e1 ok) D (f.le (o.le e1))
    | false => rw [if_neg Bool.false_ne_true]; exact h2 hK P σ H' (o.step e1 ok) D (f.le (o.le e1)))
/-- such a test that says something where it is true -/
structure TVt (X : Cx) (C : Ct) (e : Expr) (Γ : List Sl) (p : Prop) : Prop where
  run : C.K = X.K → ∀ P σ H, Ok C P H σ Γ → ∀ Q : Bool → Hp → Prop, (∀ b H', (b = true → p) → Ext C.W H H' → C.W.ok H' → Q b H') → wT X e σ H Q
instance {X : Cx} {C : Ct} {e : Expr} {Γ : List Sl} {p : Prop} : CoeFun (TVt X C e Γ p) fun _ => (C.K = X.K → ∀ P σ H, Ok C P H σ Γ → ∀ Q : Bool → Hp → Prop, (∀ b H', (b = true → p) → Ext C.W H H' → C.W.ok H' → Q b H') → wT X e σ H Q) := ⟨TVt.run⟩
theorem tvt_and3 {b c : Expr} {p : Prop} (ha : TV X C a Γ x) (hb : TV X C b Γ y) (hp : y = true → p) (hc : x = true → y = true → TVc X C c Γ) : TVt X C (.BoolOp .And [a, b, c] pos) Γ p := .mk fun hK P σ H o Q q =>
  w_pt (PW.pt pw_w) (w_pw (pw_and pt_w pw_w) (ha hK P σ H o _ fun H1 e1 ok1 => by
    cases x with
    | false => rw [if_neg Bool.false_ne_true]; exact q _ H1 (fun z => nomatch z) e1 ok1
    | true =>
      rw [if_pos rfl]
      have o1 := o.step e1 ok1
      refine w_pw (pw_and pt_w pw_w) (hb hK P σ H1 o1 _ fun H2 e2 ok2 => ?_)
      cases y with
      | false => rw [if_neg Bool.false_ne_true]; exact q _ H2 (fun z => nomatch z) (e1.trans e2) ok2
      | true =>
        rw [if_pos rfl]
        exact w_pw (pw_and1 pt_w) (hc rfl rfl hK P σ H2 (o1.step e2 ok2) _ fun z H3 e3 ok3 => q z H3 (fun _ => hp rfl) ((e1.trans e2).trans e3) ok3)))
theorem s1_ifT {p : Prop} (hc : TVt X C c Γ p) (h1 : p → SW X C t1 Γ B) (h2 : SW X C t2 Γ B) : S1 X C (.If c t1 t2 pos) Γ B := .mk fun hK P σ H o D f =>
  w_ps (ps_if pt_w pss_w pss_w) (hc hK P σ H o _ fun x H' hx e1 ok => by
    cases x with
    | true => rw [if_pos rfl]; exact h1 (hx rfl) hK P σ H' (o.step e1 ok) D (f.le (o.le e1))
    | false => rw [if_neg Bool.false_ne_true]; exact h2 hK P σ H' (o.step e1 ok) D (f.le (o.le e1)))
/-! ### a comprehension over a range of some length, elements of which a property is told -/
structure IVc (X : Cx) (C : Ct) (tg iter : Expr) (Γ : List Sl) (RI : List PD → Prop) : Prop where
  run : C.K = X.K → ∀ P σ H, Ok C P H σ Γ → ∀ R : It → Hp → Prop, (∀ its J Src H', RI its → Ext C.W H H' → C.W.ok H' → JD C J its Src → Src (msk P H') → R J H') → wI X tg iter σ H R
instance {X : Cx} {C : Ct} {tg iter : Expr} {Γ : List Sl} {RI : List PD → Prop} : CoeFun (IVc X C tg iter Γ RI) fun _ => (C.K = X.K → ∀ P σ H, Ok C P H σ Γ → ∀ R : It → Hp → Prop, (∀ its J Src H', RI its → Ext C.W H H' → C.W.ok H' → JD C J its Src → Src (msk P H') → R J H') → wI X tg iter σ H R) := ⟨IVc.run⟩
theorem ivc_rng1 {p : Pos} {N : Nat} (hm : X.mg "range" = none) (h : EVc X C e Γ fun d => ∃ n : Nat, n ≤ N ∧ d = .int (n : Int)) (hN : N ≤ 1000) (hg : Gl X "range" := by rfl) (hs : starEach [e] X.env = [(false, eval e X.env)] := by rfl) : IVc X C tg (.Call (.Name "range" p) [e] [] pos) Γ (fun its => ∃ n : Nat, n ≤ N ∧ its = rngD 0 n) := .mk fun hK P σ H o R q =>
  w_pi (pi_range1 hg hm pa_w hs) (evcs_one h hs hK P σ H o _ fun ds vs H' r e1 ok z => by
    obtain ⟨d, rfl, n, hn, rfl⟩ := r
    cases z with
    | cons z1 z2 =>
      cases z1
      cases z2
      exact ⟨(n : Int), rfl, by omega, by omega, q _ _ _ H' ⟨n, hn, rfl⟩ e1 ok (by rw [Int.toNat_natCast]; exact jd_rng) trivial⟩)
theorem lcC_read {scope : Scope} {own : List (Str × Nat)} {RI : List PD → Prop} {RE : PD → Prop} (hi : IVc X C tg iter Γ RI) (hz : ∀ its, RI its → its.length ≤ 1000)
    (hb : ∀ its, RI its → ∀ x ∈ its, ∃ Γ2 ws, (∀ i ∈ ws, i ∈ own.map (·.2)) ∧ (∀ s H Ca cl fp, GV (bk X s H scope Ca cl fp) C tg (wipeG Γ (own.map (·.2))) x Γ2 ws) ∧ (∀ s H Ca cl fp, EVc (bk X s H scope Ca cl fp) C elt Γ2 RE)) (hK : C.K = X.K) {P : Addr → Bool} {σ : L2.St} {H : Hp} (o : Ok C P H σ Γ) {Q : VK}
    (q : ∀ its ds p vs H', RI its → ds.length = its.length → (∀ d ∈ ds, RE d) → Ext C.W H H' → C.W.ok H' → H p = none → H' p = some (.lst vs) → DDs C.K (msk (add1 P p) H') vs ds → Q (.ref p) H') :
    tLc (wI X tg iter) (fun v σ H Q => ∀ s H' Ca cl fp, wG (bk X s H' scope Ca cl fp) tg v σ H Q) tYes (fun σ H Q => ∀ s H' Ca cl fp, wE (bk X s H' scope Ca cl fp) elt σ H Q) (own.map (·.2)) σ H Q := by
  refine hi hK P σ H o _ fun its J Src H1 ri e1 ok1 jd src D hD => ?_
  have o1 := o.step e1 ok1
  obtain ⟨oA, nA⟩ := o1.aside (u := .lst []) hD
  have h0 : C.P0 D = false := by
    cases z : C.P0 D with
    | false => rfl
    | true =>
      have := o1.md.free hD
      rw [o.sub D z] at this; cases this
  have nw : ∀ {M M' : Hp} {u : HO}, Ext C.W M M' → M D = some u → M' D = some u := fun k z => k D _ (fun y => by rw [o.wob D y] at h0; cases h0) z
  let Pv : Nat → Hp → Prop := fun i H' => Ok C (add1 P D) H' σ Γ ∧ Ext C.W H H' ∧ Src (msk (add1 P D) H') ∧ ∃ us ds, H' D = some (.lst us) ∧ DDs C.K (msk (add1 P D) H') us ds ∧ ds.length = i ∧ ∀ d ∈ ds, RE d
  refine ⟨fun i m H' => m = its.length - i ∧ i ≤ its.length ∧ Pv i H', ⟨its.length, by simp, Nat.zero_le _, oA, e1.trans (Ext.new hD), jd.mono _ _ (le_add_new hD) src, [], [], upd_same, .nil, rfl, fun _ z => nomatch z⟩, ?_⟩
  rintro i m H2 ⟨rfl, hi2, o2, e2, s2, us, ds, hus, z2, hl2, hr2⟩
  by_cases hlt : i < its.length
  · have hxi : its[i]? = some its[i] := List.getElem?_eq_getElem hlt
    obtain ⟨hgo, hy⟩ := jd.go _ H2 i _ o2.md s2 hxi
    refine .inr ⟨hgo, Pv (i + 1), fun H' p' => ⟨its.length - (i + 1), by omega, rfl, hlt, p'⟩, fun x H3 y => ?_⟩
    obtain ⟨e3, ok3, z3⟩ := hy x H3 y
    obtain ⟨Γ2, ws, hws, hG, hE⟩ := hb its ri its[i] (List.getElem_mem hlt)
    have o3 := o2.step e3 ok3
    have k3 := o2.le e3
    intro s' H' Ca cl fp
    refine hG s' H' Ca cl fp hK _ _ _ _ (o3.wipe _) z3 _ fun σ2 oσ kσ => ⟨(kσ _ hws).trans wipe_idem, ?_⟩
    unfold tYes
    dsimp only
    rw [if_pos rfl]
    intro s5 H5' Ca5 cl5 fp5
    refine hE s5 H5' Ca5 cl5 fp5 hK _ _ _ oσ _ fun d5 y5 H5 r5 e5 ok5 z5 => ?_
    have o5 := o3.step e5 ok5
    have k5 := fun a o w => o3.le e5 a o (k3 a o w)
    have hD5 : H5 D = some (.lst us) := nw e5 (nw e3 hus)
    have L6 : Le (msk (add1 P D) H5) (msk (add1 P D) (L2.upd H5 D (.lst (us ++ [y5])))) := fun a o w => by
      obtain ⟨w1, w2⟩ := msk_some w
      refine msk_of w1 ?_
      rw [upd_ne (fun z => by rw [z, add1_self] at w1; cases w1)]
      exact w2
    have hlen := z2.length
    have := hz its ri
    refine ⟨us, hD5, sz_lt' (by omega), o5.upd add1_self h0 nA, ((e2.trans e3).trans e5).mut (e1.back ok1 hD), jd.mono _ _ L6 (jd.mono _ _ k5 s2), us ++ [y5], ds ++ [d5], upd_same, ((z2.mono k5).append (.cons z5 .nil)).mono L6, ?_, fun d hd => ?_⟩
    · rw [List.length_append, hl2]; rfl
    · rcases List.mem_append.mp hd with hd | hd
      · exact hr2 d hd
      · rw [List.mem_singleton.mp hd]; exact r5
  · have e : i = its.length := by omega
    have st := jd.stop _ H2 o2.md s2
    rw [← e] at st
    exact .inl ⟨st, q its ds D us H2 ri (by omega) hr2 e2 o2.wok (e1.back ok1 hD) hus z2⟩
theorem evc_lc {scope : Scope} {own : List (Str × Nat)} {RI : List PD → Prop} {RE : PD → Prop} (hN : X.N.Nodup) (hi : IVc X C tg iter Γ RI) (ok : BlkOk X.N X.env.scope scope own) (hz : ∀ its, RI its → its.length ≤ 1000)
    (hb : ∀ its, RI its → ∀ x ∈ its, ∃ Γ2 ws, (∀ i ∈ ws, i ∈ own.map (·.2)) ∧ (∀ s H Ca cl fp, GV (bk X s H scope Ca cl fp) C tg (wipeG Γ (own.map (·.2))) x Γ2 ws) ∧ (∀ s H Ca cl fp, EVc (bk X s H scope Ca cl fp) C elt Γ2 RE))
    (hR : ∀ its ds, RI its → ds.length = its.length → (∀ d ∈ ds, RE d) → R (.list ds)) (hc : X.calm = true := by rfl) (hf : ∀ x, foldedSetIterable iter X.env x = pure x := by intro _; rfl) : EVc X C (.ListComp elt [⟨tg, iter, [], 0⟩] scope pos) Γ R := .mk fun hK P σ H o Q q =>
  w_pe (pe_lc (own := own) (g := fun v σ H Q => ∀ s H' Ca cl fp, wG (bk X s H' scope Ca cl fp) tg v σ H Q) (tt := tYes) (te := fun σ H Q => ∀ s H' Ca cl fp, wE (bk X s H' scope Ca cl fp) elt σ H Q) hc hN pi_w ok
    (fun s H Ca cl fp => ⟨fun pins s' σ H' v u Q I r h => h s H Ca cl fp pins s' u I r⟩) (fun _ _ _ _ _ => pts_nil) (fun s H Ca cl fp => ⟨fun pins s' σ H' Q I h => h s H Ca cl fp pins s' I⟩) hf) (lcC_read hi hz hb hK o fun its ds p vs H' ri hl hr e1 ok1 hp hl' z => by
      have o1 := o.step e1 ok1
      have hPp : P p = false := o.md.free hp
      refine q (.list ds) _ H' (hR its ds ri hl hr) e1 ok1 (.lst (msk_of hPp hl') (z.mono add1_le)))
end
/-! ### the box: a list of the row and a place -/
def Wo.box (W : Wo) (bx rw : Addr) (row : List Int) : Wo where
  wob a := W.wob a ∨ a = bx ∨ a = rw
  ok H := W.ok H ∧ (∃ n : Nat, H bx = some (.lst [.ref rw, .int (n : Int)])) ∧ H rw = some (.lst (row.map V.int)) ∧ ¬ W.wob bx
  dom H a h z := z.elim (W.dom H a h.1) fun z => z.elim (fun e => by obtain ⟨n, e2⟩ := h.2.1; rw [e, e2]; exact fun w => nomatch w) fun e => by rw [e, h.2.2.1]; exact fun w => nomatch w
  loc H H' k h := ⟨W.loc H H' (fun a z => k a (.inl z)) h.1, by rw [k bx (.inr (.inl rfl))]; exact h.2.1, by rw [k rw (.inr (.inr rfl))]; exact h.2.2.1, h.2.2.2⟩
section
variable {X : Cx} {C : Ct} {Γ : List Sl} {e a b : Expr} {pos p2 : Pos} {B : Po} {W : Wo} {bx rw : Addr} {row : List Int} {j : Nat}
theorem evc_boxAt (hW : C.W = W.box bx rw row) (ha : EV X C a Γ (opqD bx)) (hs : PlainIx (.Constant (.int 1) j p2) := by exact fun _ _ => rfl) : EVc X C (.Subscript a (.Constant (.int 1) j p2) pos) Γ (fun d => ∃ n : Nat, d = .int (n : Int)) := .mk fun hK P σ H o Q q =>
  w_pe (pe_ix ix_list pe_w pe_int hs) (ha hK P σ H o _ fun v H1 e1 ok1 z1 => by
    rw [z1.opq_at]
    have ok2 := ok1
    rw [hW] at ok2
    obtain ⟨_, ⟨n, hb⟩, _⟩ := ok2
    exact ⟨bx, _, 1, .int (n : Int), rfl, rfl, SqL.of hb, rfl, q _ _ H1 ⟨n, rfl⟩ e1 ok1 (.int _)⟩)
theorem ev_boxRow (hW : C.W = W.box bx rw row) (ha : EV X C a Γ (opqD bx)) (hs : PlainIx (.Constant (.int 0) j p2) := by exact fun _ _ => rfl) : EV X C (.Subscript a (.Constant (.int 0) j p2) pos) Γ (opqD rw) := .mk fun hK P σ H o Q q =>
  w_pe (pe_ix ix_list pe_w pe_int hs) (ha hK P σ H o _ fun v H1 e1 ok1 z1 => by
    rw [z1.opq_at]
    have ok2 := ok1
    rw [hW] at ok2
    obtain ⟨_, ⟨n, hb⟩, _⟩ := ok2
    exact ⟨bx, _, 0, .ref rw, rfl, rfl, SqL.of hb, rfl, q _ H1 e1 ok1 (.opq _)⟩)
theorem ev_rowLen {p : Pos} (hW : C.W = W.box bx rw row) (hm : X.mg "len" = none) (ha : EV X C e Γ (opqD rw)) (hg : Gl X "len" := by rfl) (he : starEach [e] X.env = (false, eval e X.env) :: starEach [] X.env := by rfl) (hpl : (backTo pos (starEach [] X.env)).any (·.1) = false := by rfl) : EV X C (.Call (.Name "len" p) [e] [] pos) Γ (.int (row.length : Int)) :=
  ev_bi call_len_seq (fun hK P H vs m z Q q => by
    cases z with
    | cons z1 z2 =>
      cases z2
      have hw := m.wok
      rw [hW] at hw
      refine ⟨rw, _, by rw [z1.opq_at], .inl (SqL.of hw.2.2.1), ?_⟩
      rw [List.length_map]
      exact q _ H (Ext.refl _ _) m.wok (.int _)) hm boot_len' (evs_one ha he) hg (by decide) (by decide) he hpl
theorem ev_rowIx {i z : Int} (hW : C.W = W.box bx rw row) (ha : EV X C a Γ (opqD rw)) (hb : EV X C b Γ (.int i)) (h : L2.atI row i = some z) (hs : PlainIx b := by exact fun _ _ => rfl) : EV X C (.Subscript a b pos) Γ (.int z) :=
  ev_t2 (pe_ix ix_list pe_w pe_w hs) (fun _ _ _ h => h) ha hb fun hK P H x y m z1 z2 Q q => by
    cases z2
    have hw := m.wok
    rw [hW] at hw
    have h' : L2.atI (row.map V.int) i = some (V.int z) := by
      unfold L2.atI at h ⊢
      rw [List.length_map]
      cases w : ixN row.length i with
      | none => rw [w] at h; cases h
      | some j =>
        rw [w] at h
        show (row.map V.int)[j]? = _
        rw [List.getElem?_map, show row[j]? = some z from h]
        rfl
    exact ⟨rw, _, i, _, z1.opq_at, rfl, SqL.of hw.2.2.1, h', q _ H (Ext.refl _ _) m.wok (.int z)⟩
/-- box[1] = e -/
theorem s1_boxSet {q2 q3 : Pos} {xn : Str} {n : Nat} (hW : C.W = W.box bx rw row) (he : EV X C e Γ (.int (n : Int))) (ho : EV X C (.Name xn q2) Γ (opqD bx)) (hB : B.nx Γ)
    (has : ∀ v, assign (.Subscript (.Name xn q2) (.Constant (.int 1) j p2) q3) X.env v = (do
      let ov ← holding [v] (eval (.Name xn q2) X.env)
      let iv ← holding [v, ov] (eval (.Constant (.int 1) j p2) X.env)
      standAt q3
      holding [v, ov, iv] (setItem ov iv v)
      release [v, ov, iv] []) := by intro _; rfl)
    (hs : swapsWithSole [.Subscript (.Name xn q2) (.Constant (.int 1) j p2) q3] e pos.line X.env = pure false := by rfl) (hw : swappedStores [.Subscript (.Name xn q2) (.Constant (.int 1) j p2) q3] e X.env = pure none := by rfl)
    (h1 : (assignEach [.Subscript (.Name xn q2) (.Constant (.int 1) j p2) q3] X.env).map (·.2) = [assign (.Subscript (.Name xn q2) (.Constant (.int 1) j p2) q3) X.env] := by rfl) : S1 X C (.Assign [.Subscript (.Name xn q2) (.Constant (.int 1) j p2) q3] e pos) Γ B := .mk fun hK P σ H o D f => by
  refine w_ps (ps_asg pe_w (pg_sub pe_w pe_int set_list has) hs hw h1) (he hK P σ H o _ fun v H1 e1 ok1 z1 => ?_)
  cases z1
  have o1 := o.step e1 ok1
  refine ho hK P σ H1 o1 _ fun u H2 e2 ok2 z2 => ?_
  have o2 := o1.step e2 ok2
  rw [z2.opq_at]
  have ok3 := ok2
  rw [hW] at ok3
  obtain ⟨k1, ⟨m, hb⟩, k3, hwb⟩ := ok3
  have hne : rw ≠ bx := fun z => by
    rw [z, hb] at k3
    cases row with
    | nil => cases k3
    | cons _ _ => cases k3
  have wb : C.W.wob bx := by rw [hW]; exact .inr (.inl rfl)
  have e3 : Ext C.W H2 (L2.upd H2 bx (.lst [.ref rw, .int (n : Int)])) := fun a u na hu => by rw [upd_ne (fun z => na (by rw [z]; exact wb))]; exact hu
  have ok4 : C.W.ok (L2.upd H2 bx (.lst [.ref rw, .int (n : Int)])) := by
    rw [hW]
    exact ⟨W.upd k1 hwb, ⟨n, upd_same⟩, by rw [upd_ne hne]; exact k3, hwb⟩
  exact ⟨bx, _, 1, 1, rfl, rfl, hb, rfl, f.nx _ P σ _ hB (o2.step e3 ok4) ((o.le (e1.trans e2)).trans (o2.le e3))⟩
end
end RT
end
section
set_option Elab.async false
set_option linter.all false
set_option maxRecDepth 100000
set_option maxHeartbeats 1500000
set_option exponentiation.threshold 20000
/-! B19: the row of digits, the box. -/
namespace RT
open PySem PySem.Spec PyProof.Rows L2
abbrev frzD (ns : List Int) : PD := .dict (ns.map fun n => (.int n, .none))
section
variable {X : Cx} {C : Ct} {Γ : List Sl} {a b c d : Expr} {pos : Pos} {i j : Int} {t1 t2 : List Stmt} {B : Po} {x y : Bool}
theorem ev_mulS (ha : EV X C a Γ (.int i)) (hb : EV X C b Γ (.int j)) (hc : CMul i j) : EV X C (.BinOp a .Mult b pos) Γ (.int (i * j)) := ev_op op_mul (rd_I hc fun _ _ => .int _) ha hb
theorem rd_cat {ds es' : List PD} (hz : ds.length + es'.length ≤ 100000) : R2D X C rCat (.list ds) (.list es') (.list (ds ++ es')) := fun hK P H x y m z1 z2 Q q => by
  obtain ⟨p1, vs, rfl, _, h1, h2⟩ := z1.lst_at
  obtain ⟨p2, us, rfl, _, h3, h4⟩ := z2.lst_at
  exact ⟨p1, p2, vs, us, rfl, rfl, h1, h3, by rw [h2.length, h4.length]; exact sz_le hz, fun r hr => q _ _ (Ext.new hr) (C.W.new m.wok hr) (m.lst hr (h2.append h4))⟩
theorem cms {i j : Int} (h : -(2 ^ 64) < j ∧ j < 2 ^ 64) : CMul i j := .inr h
theorem cms1 {i j : Int} (h : -(2 ^ 64) < i ∧ i < 2 ^ 64) : CMul i j := .inl h
end
section
variable {P : Program} {w : World} {K : PySem.W.Frag} {mg : Str → Option Value} {base : Heap} {W : Wo}
theorem sc__law_cell : FnScope ["_law_script", "_law_k"] ["_law_script", "_law_k"] (defScope (top 78)) := ⟨rfl, rfl, rfl, by decide +kernel, rfl, by decide +kernel, by decide +kernel⟩
def pm__law_cell : Pm := fun ds p => ∃ (ns : List Int) (k : Nat), ds = [frzD ns, .int (k : Int)] ∧ ∀ z : Int, p (.int z)
theorem k__law_cell (E : Hd K mg) : Kn P w K mg base "_law_cell" [] 1 (spD K W 2 pm__law_cell) :=
  kn_mk 57 E rfl rfl (fun _ _ _ _ _ _ us hl => match us, hl with | [_, _], _ => rfl) fun f fd F => fn_mk F sc__law_cell (by
    rintro X C cdv A outer s H E' P0 ds p rfl rfl hr ⟨ns, k, rfl, hp⟩
    have nd := sc__law_cell.nd
    dsimp only [iniL, iniN, List.tail]
    refine sw_cons (s1_if (tv_lt (ev_var 1 rfl) (ev_lenF (E.free "len" (by simp)) (ev_var 0 rfl))) (fun ht => ?_) fun ht => ?_)
    all_goals (try dsimp only [List.set])
    · have hk : k < ns.length := by simpa using ht
      exact sw_one (s1_ret (EV.r (ev_ixF (z := ns[k]) (ev_var 0 rfl) (ev_var 1 rfl) (by
        unfold L2.atI
        rw [show ixN ns.length (k : Int) = some k from by unfold ixN; simp; omega]
        exact List.getElem?_eq_getElem hk))) (hp _))
    · exact sw_nil (sw_one (s1_ret (EV.r ev_int) (hp _))))
theorem sc__law_row : FnScope ["_law_cell_here", "_law_k", "_law_many", "_law_row_here", "_law_turn", "_law_seed"] ["_law_cell_here", "_law_k", "_law_many"] (defScope (top 79)) := ⟨rfl, rfl, rfl, by decide +kernel, rfl, by decide +kernel, by decide +kernel⟩
def pm__law_row : Pm := fun ds p => ∃ (c : Int) (k : Nat), ds = [.int c, .int (k : Int), .int 12] ∧ ∀ r : List Int, r.length ≤ 12 → p (.list (r.map .int))
theorem k__law_row (E : Hd K mg) : Kn P w K mg base "_law_row" [] 1 (spD K W 3 pm__law_row) :=
  kn_mk 58 E rfl rfl (fun _ _ _ _ _ _ us hl => match us, hl with | [_, _, _], _ => rfl) fun f fd F => fn_mk F sc__law_row (by
    rintro X C cdv A outer s H E' P0 ds p rfl rfl hr ⟨c, k, rfl, hp⟩
    have nd := sc__law_row.nd
    dsimp only [iniL, iniN, List.tail]
    refine sw_cons (s1_own 3 nd (evl_lst evs_nil) ?_)
    all_goals (try dsimp only [List.set])
    refine sw_cons (s1_ifJ (fun Γ => ∃ z : Int, Γ = [.pu (.int z), .pu (.int (k : Int)), .pu (.int 12), .ow [], .no, .no]) (tv_lt (ev_var 0 rfl) ev_int) (fun ht => ?_) (fun ht => ?_) ?_)
    all_goals (try dsimp only [List.set])
    · exact sw_one (s1_set 0 nd (ev_sub ev_int (ev_mulS ev_int (ev_var 0 rfl) (cms1 (by decide)))) ⟨_, rfl⟩)
    · exact sw_nil ⟨_, rfl⟩
    rintro _ ⟨z, rfl⟩
    refine sw_cons (s1_if (tv_ge (ev_var 0 rfl) (ev_pow ev_int ev_int ⟨by decide, by decide, by decide⟩)) (fun ht => ?_) fun ht => ?_)
    all_goals (try dsimp only [List.set])
    · refine sw_cons (s1_for (fun (j : Nat) => PyData.int (j : Int)) (List.range 60) (iv_rng0 (E.free "range" (by simp)) (EV.is ev_int rfl) (by decide)) (fun i Γ => ∃ (z : Int) (r : List Int) (v : Sl), Γ = [.pu (.int z), .pu (.int (k : Int)), .pu (.int 12), .ow (r.map .int), v, .no] ∧ r.length ≤ 12) ⟨z, [], .no, rfl, by decide⟩ ?_ ?_)
      all_goals (try dsimp only [List.set])
      · rintro i j _ hx ⟨z, r, v, rfl, hl⟩
        refine ⟨_, _, gv_name 4 nd, ?_⟩
        try dsimp only [List.set]
        refine sw_one (s1_if (TW.tv (tw_and (tv_gt (ev_var 0 rfl) ev_int) fun _ => tw_and1 (tv_lt (ev_thaw 3 rfl (ev_len (E.free "len" (by simp)) (ev_var 3 rfl))) (ev_var 2 rfl)))) (fun ht => ?_) fun ht => ?_)
        all_goals (try dsimp only [List.set])
        · have hl2 : r.length < 12 := by
            rw [Bool.and_eq_true, decide_eq_true_eq, decide_eq_true_eq, List.length_map] at ht
            omega
          refine sw_cons (s1_append 3 rfl (ev_mod (ev_intI (E.free "int" (by simp)) (ev_var 0 rfl)) ev_int (by decide)) ?_ (by rw [List.length_map]; omega))
          try dsimp only [List.set]
          refine sw_one (s1_set 0 nd (ev_fdiv (ev_var 0 rfl) ev_int ⟨by decide, by decide⟩) ⟨z / 1000, r ++ [z % 1000], .pu (.int (j : Int)), ?_, ?_⟩)
          · try dsimp only [List.set]
            rw [List.map_append]
            rfl
          · rw [List.length_append]; simp; omega
        · exact sw_nil ⟨z, r, _, rfl, hl⟩
      · rintro _ ⟨z, r, v, rfl, hl⟩
        exact sw_one (s1_ret (evr_own 3 rfl) (hp r hl))
    refine sw_nil (sw_cons (s1_set 5 nd (ev_mod (ev_intI (E.free "int" (by simp)) (ev_add (ev_add (ev_mulS (ev_var 0 rfl) ev_int (cms (by decide))) (ev_mulS (ev_var 1 rfl) ev_int (cms (by decide)))) ev_int)) ev_int (by decide)) ?_))
    all_goals (try dsimp only [List.set])
    try dsimp only [List.set]
    refine sw_cons (s1_for (fun (j : Nat) => PyData.int (j : Int)) (List.range 12) (iv_rng0 (E.free "range" (by simp)) (EV.is (ev_var 2 rfl) rfl) (by decide)) (fun i Γ => ∃ (s : Int) (r : List Int) (v : Sl), Γ = [.pu (.int z), .pu (.int (k : Int)), .pu (.int 12), .ow (r.map .int), v, .pu (.int s)] ∧ r.length = i) ⟨_, [], .no, rfl, rfl⟩ ?_ ?_)
    all_goals (try dsimp only [List.set])
    · rintro i j _ hx ⟨s, r, v, rfl, hl⟩
      obtain ⟨rfl, hi⟩ := range_at hx
      refine ⟨_, _, gv_name 4 nd, ?_⟩
      try dsimp only [List.set]
      refine sw_cons (s1_set 5 nd (ev_mod (ev_intI (E.free "int" (by simp)) (ev_add (ev_add (ev_mulS (ev_var 5 rfl) ev_int (cms (by decide))) (ev_mulS ev_int (ev_var 4 rfl) (cms1 (by decide)))) ev_int)) ev_int (by decide)) ?_)
      all_goals (try dsimp only [List.set])
      try dsimp only [List.set]
      generalize (s * 16807 + 7 * (j : Int) + 1) % 2147483647 = s'
      refine sw_one (s1_append 3 rfl (ev_mod (ev_intI (E.free "int" (by simp)) (ev_fdiv (ev_var 5 rfl) ev_int ⟨by decide, by decide⟩)) ev_int (by decide)) ⟨s', r ++ [s' / 997 % 1000], .pu (.int (j : Int)), ?_, ?_⟩ (by rw [List.length_map]; omega))
      · try dsimp only [List.set]
        rw [List.map_append]
        rfl
      · rw [List.length_append, hl]; rfl
    · rintro _ ⟨s, r, v, rfl, hl⟩
      rw [List.length_range] at hl
      exact sw_one (s1_ret (evr_own 3 rfl) (hp r (by omega))))
theorem sc__law_box : FnScope ["_law_script", "_law_first", "_law_last", "_law_row_here", "_law_k"] ["_law_script", "_law_first", "_law_last"] (defScope (top 80)) := ⟨rfl, rfl, rfl, by decide +kernel, rfl, by decide +kernel, by decide +kernel⟩
def pm__law_box : Pm := fun ds p => ∃ (ns : List Int), ds = [frzD ns, .int 0, .int 50] ∧ ∀ r : List Int, p (.list [.list (r.map .int), .int 0])
theorem k__law_box (E : Hd K mg) : Kn P w K mg base "_law_box" [] 2 (spD K W 3 pm__law_box) :=
  kn_mk 59 E rfl rfl (fun _ _ _ _ _ _ us hl => match us, hl with | [_, _, _], _ => rfl) fun f fd F => fn_mk F sc__law_box (by
    rintro X C cdv A outer s H E' P0 ds p rfl rfl hr ⟨ns, rfl, hp⟩
    have nd := sc__law_box.nd
    dsimp only [iniL, iniN, List.tail]
    refine sw_cons (s1_set 3 nd (ev_lst evs_nil) ?_)
    all_goals (try dsimp only [List.set])
    try dsimp only [List.set]
    refine sw_cons (s1_for (fun (j : Nat) => PyData.int ((0 + j : Nat) : Int)) (List.range (50 - 0)) (iv_rngN (m := 0) (n := 50) (E.free "range" (by simp)) (EV.is (ev_var 1 rfl) rfl) (EV.is (ev_var 2 rfl) rfl) (by decide)) (fun i Γ => ∃ (r : List Int) (v : Sl), Γ = [.pu (frzD ns), .pu (.int 0), .pu (.int 50), .pu (.list (r.map .int)), v] ∧ r.length ≤ 12 * i) ⟨[], .no, rfl, by decide⟩ ?_ ?_)
    all_goals (try dsimp only [List.set])
    · rintro i j _ hx ⟨r, v, rfl, hl⟩
      obtain ⟨rfl, hi⟩ := range_at hx
      refine ⟨_, _, gv_name 4 nd, ?_⟩
      try dsimp only [List.set]
      refine sw_one (s1_setC (R := fun d => ∃ r2 : List Int, d = .list ((r ++ r2).map .int) ∧ r2.length ≤ 12) 3 nd (evc_t2 (pe_op op_cat pe_w pe_w) (fun _ _ _ h => h) (evc_of (ev_var 3 rfl)) (evc_callC (R := fun d => ∃ r2 : List Int, d = .list (r2.map .int) ∧ r2.length ≤ 12) (k__law_row E) hr (by decide) (evcs_cons (evc_callC (R := fun d => ∃ z : Int, d = .int z) (k__law_cell E) hr (by decide) (evcs_of (evs_cons (ev_var 0 rfl) (evs_one (ev_var 4 rfl)))) (fun ds e => ⟨⟨ns, 0 + j, e, fun z => ⟨z, rfl⟩⟩, by rw [e]; rfl⟩)) (evcs_of (evs_cons (ev_var 4 rfl) (evs_one ev_int)))) (fun ds e => ?_)) fun d1 d2 e1 e2 => ?_) fun d e => ?_)
      all_goals (try dsimp only [List.set])
      · obtain ⟨d, ds', rfl, ⟨z, rfl⟩, rfl⟩ := e
        exact ⟨⟨z, 0 + j, rfl, fun r2 h => ⟨r2, rfl, h⟩⟩, rfl⟩
      · obtain ⟨r2, rfl, h2⟩ := e2
        subst e1
        exact ⟨_, ⟨r2, rfl, h2⟩, by rw [List.map_append]; exact rd_cat (by rw [List.length_map, List.length_map]; omega)⟩
      · obtain ⟨r2, rfl, h2⟩ := e
        exact ⟨r ++ r2, .pu (.int ((0 + j : Nat) : Int)), rfl, by rw [List.length_append]; omega⟩
    · rintro _ ⟨r, v, rfl, hl⟩
      exact sw_one (s1_ret (EV.r (ev_lst (evs_cons (ev_var 3 rfl) (evs_one ev_int)))) (hp r)))
end
end RT
end
section
set_option Elab.async false
set_option linter.all false
set_option maxRecDepth 100000
set_option maxHeartbeats 1500000
set_option exponentiation.threshold 20000
/-! B20: draws: fractions, stops, elements, trains. -/
namespace RT
open PySem PySem.Spec PyProof.Rows L2
/-- a drawn fraction -/
structure Fq (q : Rat) : Prop where
  ex : ∃ n k : Int, (k = 1 ∨ k = 2 ∨ k = 3) ∧ n.natAbs ≤ 4 ∧ q = Rat.divInt n k
theorem Fq.sm {q : Rat} (h : Fq q) : Sm 4 q := by
  obtain ⟨n, k, hk, hn, rfl⟩ := h.ex
  rcases hk with rfl | rfl | rfl
  · refine ⟨6 * n, ?_, by rw [Int.natAbs_mul, show (6 : Int).natAbs = 6 from rfl]; omega⟩
    rw [Rat.divInt_eq_div, Rat.intCast_mul]
    have : ((6 : Int) : Rat) = 6 := rfl
    have : ((1 : Int) : Rat) = 1 := rfl
    grind
  · refine ⟨3 * n, ?_, by rw [Int.natAbs_mul, show (3 : Int).natAbs = 3 from rfl]; omega⟩
    rw [Rat.divInt_eq_div, Rat.intCast_mul]
    have : ((3 : Int) : Rat) = 3 := rfl
    have : ((2 : Int) : Rat) = 2 := rfl
    grind
  · refine ⟨2 * n, ?_, by rw [Int.natAbs_mul, show (2 : Int).natAbs = 2 from rfl]; omega⟩
    rw [Rat.divInt_eq_div, Rat.intCast_mul]
    have : ((3 : Int) : Rat) = 3 := rfl
    have : ((2 : Int) : Rat) = 2 := rfl
    grind
theorem Fq.half : Fq (Rat.divInt 1 2) := ⟨1, 2, .inr (.inl rfl), by decide, rfl⟩
theorem cast0i {a : Int} (h : (a : Rat) = 0) : a = 0 := by
  have := congrArg Rat.num h
  simpa using this
theorem Fq.afo {q : Rat} (h : Fq q) (h0 : q ≠ 0) : ElW (.afocal q) := by
  refine ⟨h.sm, h0, ?_⟩
  obtain ⟨n, k, hk, hn, rfl⟩ := h.ex
  rw [Rat.divInt_eq_div] at h0 ⊢
  have hn0 : n ≠ 0 := fun z => by
    subst z
    apply h0
    have : ((0 : Int) : Rat) = 0 := rfl
    rw [this]; grind
  have e : ∃ m : Int, m * n = 12 ∧ m.natAbs ≤ 12 := by
    have : n = 1 ∨ n = 2 ∨ n = 3 ∨ n = 4 ∨ n = -1 ∨ n = -2 ∨ n = -3 ∨ n = -4 := by omega
    rcases this with rfl | rfl | rfl | rfl | rfl | rfl | rfl | rfl
    · exact ⟨12, by decide, by decide⟩
    · exact ⟨6, by decide, by decide⟩
    · exact ⟨4, by decide, by decide⟩
    · exact ⟨3, by decide, by decide⟩
    · exact ⟨-12, by decide, by decide⟩
    · exact ⟨-6, by decide, by decide⟩
    · exact ⟨-4, by decide, by decide⟩
    · exact ⟨-3, by decide, by decide⟩
  obtain ⟨m, hm, hml⟩ := e
  refine ⟨m * k, ?_, ?_⟩
  · have hm' : (m : Rat) * (n : Rat) = 12 := by rw [← Rat.intCast_mul, hm]; rfl
    have hnq : (n : Rat) ≠ 0 := fun z => hn0 (cast0i z)
    have hkq : (k : Rat) ≠ 0 := fun z => by
      have := cast0i z
      omega
    rw [Rat.intCast_mul]
    grind
  · rw [Int.natAbs_mul]
    have : k.natAbs ≤ 3 := by omega
    have := Nat.mul_le_mul hml this
    omega
theorem Sm.up {b c : Nat} {x : Rat} (h : Sm b x) (l : b ≤ c) : Sm c x := by
  obtain ⟨k, h1, h2⟩ := h
  exact ⟨k, h1, by omega⟩
theorem Sm.add {b c : Nat} {x y : Rat} (h : Sm b x) (h2 : Sm c y) : Sm (b + c) (x + y) := by
  obtain ⟨k, h1, l1⟩ := h
  obtain ⟨m, h2, l2⟩ := h2
  exact ⟨k + m, by rw [Rat.intCast_add]; grind, by have := Int.natAbs_add_le k m; omega⟩
theorem Sm.neg {b : Nat} {x : Rat} (h : Sm b x) : Sm b (-x) := by
  obtain ⟨k, h1, l1⟩ := h
  exact ⟨-k, by rw [Rat.intCast_neg]; grind, by omega⟩
theorem Sm.zero {b : Nat} : Sm b 0 := ⟨0, by rw [Rat.mul_zero]; rfl, by simp⟩
/-- a drawn element -/
def ElV : El → Prop
  | .gap x => Sm 4 x
  | e => ElW e
theorem ElV.w {e : El} (h : ElV e) : ElW e := by
  cases e with
  | gap x => exact Sm.up h (by decide)
  | _ => exact h
/-- what a draw of such things may be -/
def IsF (d : PD) : Prop := ∃ q, d = fr q ∧ Fq q
def IsE (d : PD) : Prop := ∃ e, d = el e ∧ ElV e
section
variable {P : Program} {w : World} {K : PySem.W.Frag} {mg : Str → Option Value} {base : Heap} {W W0 : Wo} {bx rw : Addr} {row : List Int}
theorem sc__law_draw : FnScope ["_law_box_here", "_law_many", "_law_at"] ["_law_box_here", "_law_many"] (defScope (top 81)) := ⟨rfl, rfl, rfl, by decide +kernel, rfl, by decide +kernel, by decide +kernel⟩
def pm__law_draw (bx : Addr) : Pm := fun ds p => ∃ n : Nat, ds = [opqD bx, .int (n : Int)] ∧ 0 < n ∧ ∀ z : Nat, z < n → p (.int (z : Int))
theorem k__law_draw (E : Hd K mg) (hW : W = W0.box bx rw row) : Kn P w K mg base "_law_draw" [] 1 (spD K W 2 (pm__law_draw bx)) :=
  kn_mk 60 E rfl rfl (fun _ _ _ _ _ _ us hl => match us, hl with | [_, _], _ => rfl) fun f fd F => fn_mk F sc__law_draw (by
    rintro X C cdv A outer s H E' P0 ds p rfl rfl hr ⟨n, rfl, hn, hp⟩
    have nd := sc__law_draw.nd
    dsimp only [iniL, iniN, List.tail]
    have fin : ∀ x : Int, p (.int (x % (n : Int))) := fun x => by
      have h1 := Int.emod_nonneg x (show (n : Int) ≠ 0 by omega)
      have h2 := Int.emod_lt_of_pos x (show 0 < (n : Int) by omega)
      have := hp (x % (n : Int)).toNat (by omega)
      rwa [Int.toNat_of_nonneg h1] at this
    refine sw_cons (s1_setC (R := fun d => ∃ m : Nat, d = .int (m : Int)) 2 nd (evc_boxAt hW (ev_var 0 rfl)) fun d e => ?_)
    all_goals (try dsimp only [List.set])
    obtain ⟨m, rfl⟩ := e
    try dsimp only [List.set]
    refine sw_cons (s1_boxSet (n := m + 1) hW (EV.is (ev_add (ev_var 2 rfl) ev_int) rfl) (ev_var 0 rfl) ?_)
    all_goals (try dsimp only [List.set])
    refine sw_cons (s1_if (tv_lt (ev_var 2 rfl) (ev_rowLen hW (E.free "len" (by simp)) (ev_boxRow hW (ev_var 0 rfl)))) (fun ht => ?_) fun ht => ?_)
    all_goals (try dsimp only [List.set])
    · have hk : m < row.length := by simpa using ht
      exact sw_one (s1_ret (EV.r (ev_mod (ev_intI (E.free "int" (by simp)) (ev_rowIx (z := row[m]) hW (ev_boxRow hW (ev_var 0 rfl)) (ev_var 2 rfl) (by
        unfold L2.atI
        rw [show ixN row.length (m : Int) = some m from by unfold ixN; simp; omega]
        exact List.getElem?_eq_getElem hk))) (ev_var 1 rfl) (by omega))) (fin _))
    · exact sw_nil (sw_one (s1_ret (EV.r (ev_mod (ev_intI (E.free "int" (by simp)) (ev_add (ev_mulS (ev_var 2 rfl) ev_int (cms (by decide))) ev_int)) (ev_var 1 rfl) (by omega))) (fin _))))
section
variable {X : Cx} {C : Ct} {Γ : List Sl} {a b : Expr} {pos p : Pos} {k n : Nat}
theorem evc_dr (n : Nat) (E : Hd X.K X.mg) (hW : C.W = W0.box bx rw row) (hr : Room k X.A) (ha : EV X C a Γ (opqD bx)) (hb : EV X C b Γ (.int (n : Int))) (hn : 0 < n := by decide) (hk : 1 ≤ k := by decide) (hg : Gl X "_law_draw" := by rfl) (he : starEach [a, b] X.env = (false, eval a X.env) :: starEach [b] X.env := by rfl) (hpl : (backTo pos (starEach [b] X.env)).any (·.1) = false := by rfl) (he2 : starEach [b] X.env = (false, eval b X.env) :: starEach [] X.env := by rfl) :
    EVc X C (.Call (.Name "_law_draw" p) [a, b] [] pos) Γ (fun d => ∃ z : Nat, z < n ∧ d = .int (z : Int)) :=
  evc_callC (k__law_draw E hW) hr hk (evcs_of (evs_cons ha (evs_one hb he2) he)) (fun ds e => ⟨⟨n, e, hn, fun z hz => ⟨z, hz, rfl⟩⟩, by rw [e]; rfl⟩) hg (by decide) he hpl
end
theorem sc__law_fraction : FnScope ["_law_box_here"] ["_law_box_here"] (defScope (top 92)) := ⟨rfl, rfl, rfl, by decide +kernel, rfl, by decide +kernel, by decide +kernel⟩
def pm__law_fraction (bx : Addr) : Pm := fun ds p => ∃ u : Unit, ds = [opqD bx] ∧ ∀ q, Fq q → p (fr q)
theorem k__law_fraction (E : Hd K mg) (hW : W = W0.box bx rw row) : Kn P w K mg base "_law_fraction" [] 2 (spD K W 1 (pm__law_fraction bx)) :=
  kn_mk 71 E rfl rfl (fun _ _ _ _ _ _ us hl => match us, hl with | [_], _ => rfl) fun f fd F => fn_mk F sc__law_fraction (by
    rintro X C cdv A outer s H E' P0 ds p rfl rfl hr ⟨u, rfl, hp⟩
    have nd := sc__law_fraction.nd
    dsimp only [iniL, iniN, List.tail]
    refine sw_one (s1_retC (R := IsF) (evc_callC (R := IsF) (k__law_frac E) hr (by decide) (evcs_cons (evc_sub (R := fun d => ∃ n : Int, d = .int n ∧ n.natAbs ≤ 4) (evc_dr 9 E hW hr (ev_var 0 rfl) ev_int) (evc_of ev_int) (fun d1 d2 e1 e2 => ?_)) (evcs_one (evc_ixL (R := fun d => ∃ k : Int, d = .int k ∧ (k = 1 ∨ k = 2 ∨ k = 3)) (evc_of (ev_lst (evs_cons ev_int (evs_cons ev_int (evs_cons ev_int (evs_one ev_int)))))) (evc_dr 4 E hW hr (ev_var 0 rfl) ev_int) (fun d1 d2 e1 e2 => ?_)))) (fun ds e => ?_)) fun d e => ?_)
    all_goals (try dsimp only [List.set])
    · obtain ⟨z, hz, rfl⟩ := e1
      subst e2
      exact ⟨_, _, rfl, rfl, _, rfl, by omega⟩
    · obtain ⟨z, hz, rfl⟩ := e2
      subst e1
      have : z = 0 ∨ z = 1 ∨ z = 2 ∨ z = 3 := by omega
      rcases this with rfl | rfl | rfl | rfl
      · exact ⟨_, _, _, rfl, rfl, rfl, 1, rfl, .inl rfl⟩
      · exact ⟨_, _, _, rfl, rfl, rfl, 1, rfl, .inl rfl⟩
      · exact ⟨_, _, _, rfl, rfl, rfl, 2, rfl, .inr (.inl rfl)⟩
      · exact ⟨_, _, _, rfl, rfl, rfl, 3, rfl, .inr (.inr rfl)⟩
    · obtain ⟨d, ds', rfl, ⟨n, rfl, hn⟩, d2, rfl, k, rfl, hk⟩ := e
      refine ⟨⟨n, k, rfl, by omega, ?_, _, rfl, n, k, hk, hn, rfl⟩, rfl⟩
      rcases hk with rfl | rfl | rfl
      · exact Nat.one_lt_pow (by decide) (by decide)
      · exact Nat.lt_of_lt_of_le (by decide : (2 : Int).natAbs < 2 ^ 2) (Nat.pow_le_pow_right (by decide) (by decide))
      · exact Nat.lt_of_lt_of_le (by decide : (3 : Int).natAbs < 2 ^ 2) (Nat.pow_le_pow_right (by decide) (by decide))
    · obtain ⟨q, rfl, hq⟩ := e
      exact hp q hq)
section
variable {X : Cx} {C : Ct} {Γ : List Sl} {a b : Expr} {pos p : Pos} {k n : Nat}
theorem evc_fq (E : Hd X.K X.mg) (hW : C.W = W0.box bx rw row) (hr : Room k X.A) (ha : EV X C a Γ (opqD bx)) (hk : 2 ≤ k := by decide) (hg : Gl X "_law_fraction" := by rfl) (he : starEach [a] X.env = (false, eval a X.env) :: starEach [] X.env := by rfl) (hpl : (backTo pos (starEach [] X.env)).any (·.1) = false := by rfl) :
    EVc X C (.Call (.Name "_law_fraction" p) [a] [] pos) Γ IsF :=
  evc_callC (k__law_fraction E hW) hr hk (evcs_of (evs_one ha he)) (fun ds e => ⟨⟨(), e, fun q hq => ⟨q, rfl, hq⟩⟩, by rw [e]; rfl⟩) hg (by decide) he hpl
end
theorem sc__law_nonzero : FnScope ["_law_box_here", "_law_value"] ["_law_box_here"] (defScope (top 93)) := ⟨rfl, rfl, rfl, by decide +kernel, rfl, by decide +kernel, by decide +kernel⟩
def pm__law_nonzero (bx : Addr) : Pm := fun ds p => ∃ u : Unit, ds = [opqD bx] ∧ ∀ q, Fq q → q ≠ 0 → p (fr q)
theorem k__law_nonzero (E : Hd K mg) (hW : W = W0.box bx rw row) : Kn P w K mg base "_law_nonzero" [] 3 (spD K W 1 (pm__law_nonzero bx)) :=
  kn_mk 72 E rfl rfl (fun _ _ _ _ _ _ us hl => match us, hl with | [_], _ => rfl) fun f fd F => fn_mk F sc__law_nonzero (by
    rintro X C cdv A outer s H E' P0 ds p rfl rfl hr ⟨u, rfl, hp⟩
    have nd := sc__law_nonzero.nd
    dsimp only [iniL, iniN, List.tail]
    refine sw_cons (s1_setC (R := IsF) 1 nd (evc_fq E hW hr (ev_var 0 rfl)) fun d e => ?_)
    all_goals (try dsimp only [List.set])
    obtain ⟨q, rfl, hq⟩ := e
    try dsimp only [List.set]
    refine sw_cons (s1_if (tv_cmp op_eq rd_eqI (ev_num (ev_var 1 rfl)) ev_int) (fun ht => ?_) fun ht => ?_)
    all_goals (try dsimp only [List.set])
    · refine sw_one (s1_ret (EV.r (EV.is (ev_tup (evs_cons ev_int (evs_one ev_int))) ?_)) (hp (Rat.divInt 1 2) Fq.half (by decide)))
      rfl
    · refine sw_nil (sw_one (s1_ret (EV.r (ev_var 1 rfl)) (hp q hq fun z => ?_)))
      all_goals (try dsimp only [List.set])
      subst z
      cases ht)
theorem sc__law_stop : FnScope ["_law_box_here", "_law_lower", "_law_upper", "_law_kind_here"] ["_law_box_here"] (defScope (top 94)) := ⟨rfl, rfl, rfl, by decide +kernel, rfl, by decide +kernel, by decide +kernel⟩
def pm__law_stop (bx : Addr) : Pm := fun ds p => ∃ u : Unit, ds = [opqD bx] ∧ ∀ lo hi, ElW (.stop lo hi) → p (el (.stop lo hi))
theorem k__law_stop (E : Hd K mg) (hW : W = W0.box bx rw row) : Kn P w K mg base "_law_stop" [] 3 (spD K W 1 (pm__law_stop bx)) :=
  kn_mk 73 E rfl rfl (fun _ _ _ _ _ _ us hl => match us, hl with | [_], _ => rfl) fun f fd F => fn_mk F sc__law_stop (by
    rintro X C cdv A outer s H E' P0 ds p rfl rfl hr ⟨u, rfl, hp⟩
    have nd := sc__law_stop.nd
    dsimp only [iniL, iniN, List.tail]
    refine sw_cons (s1_setC (R := IsF) 1 nd (evc_fq E hW hr (ev_var 0 rfl)) fun d e => ?_)
    all_goals (try dsimp only [List.set])
    obtain ⟨q, rfl, hq⟩ := e
    try dsimp only [List.set]
    refine sw_cons (s1_setC (R := fun d => ∃ s, d = fr s ∧ Sm 9 s) 2 nd (evc_callC (k__law_add E) hr (by decide) (evcs_cons (evc_of (ev_var 1 rfl)) (evcs_one (evc_callC (R := fun d => ∃ s, d = fr s ∧ Sm 4 s) (k__law_frac E) hr (by decide) (evcs_cons (evc_dr 9 E hW hr (ev_var 0 rfl) ev_int) (evcs_one (evc_of ev_int))) (fun ds e => ?_)))) (fun ds e => ?_)) fun d e => ?_)
    all_goals (try dsimp only [List.set])
    · obtain ⟨d, ds', rfl, ⟨z, hz, rfl⟩, d2, rfl, rfl⟩ := e
      refine ⟨⟨(z : Int), 2, rfl, by decide, Nat.lt_of_lt_of_le (by decide : (2 : Int).natAbs < 2 ^ 2) (Nat.pow_le_pow_right (by decide) (by decide)), _, rfl, 3 * (z : Int), ?_, by omega⟩, rfl⟩
      rw [Rat.divInt_eq_div, Rat.intCast_mul]
      have : ((3 : Int) : Rat) = 3 := rfl
      have : ((2 : Int) : Rat) = 2 := rfl
      grind
    · obtain ⟨d, ds', rfl, rfl, d2, rfl, s, rfl, hs⟩ := e
      exact ⟨⟨q, s, rfl, (hq.sm.rb (by decide)).mono (by decide) (by decide), (hs.rb (by decide)).mono (by decide) (by decide), _, rfl, (hq.sm.add hs).up (by decide)⟩, rfl⟩
    obtain ⟨s, rfl, hs⟩ := e
    have hq9 : Sm 9 q := hq.sm.up (by decide)
    try dsimp only [List.set]
    refine sw_cons (s1_setC (R := fun d => ∃ z : Nat, z < 8 ∧ d = .int (z : Int)) 3 nd (evc_dr 8 E hW hr (ev_var 0 rfl) ev_int) fun d e => ?_)
    all_goals (try dsimp only [List.set])
    obtain ⟨z, hz, rfl⟩ := e
    try dsimp only [List.set]
    refine sw_cons (s1_if (tv_cmp op_eq rd_eqI (ev_var 3 rfl) ev_int) (fun ht => ?_) fun ht => ?_)
    all_goals (try dsimp only [List.set])
    · exact sw_one (s1_ret (EV.r (ev_tup (evs_cons ev_str (evs_cons ev_non (evs_one (ev_var 2 rfl)))))) (hp none (some s) ⟨fun _ h => (nomatch h), fun x h => by cases h; exact hs⟩))
    refine sw_nil (sw_cons (s1_if (tv_cmp op_eq rd_eqI (ev_var 3 rfl) ev_int) (fun ht => ?_) fun ht => ?_))
    all_goals (try dsimp only [List.set])
    · exact sw_one (s1_ret (EV.r (ev_tup (evs_cons ev_str (evs_cons (ev_var 1 rfl) (evs_one ev_non))))) (hp (some q) none ⟨fun x h => by cases h; exact hq9, fun _ h => (nomatch h)⟩))
    · exact sw_nil (sw_one (s1_ret (EV.r (ev_tup (evs_cons ev_str (evs_cons (ev_var 1 rfl) (evs_one (ev_var 2 rfl)))))) (hp (some q) (some s) ⟨fun x h => by cases h; exact hq9, fun x h => by cases h; exact hs⟩))))
end
end RT
end
section
set_option Elab.async false
set_option linter.all false
set_option maxRecDepth 100000
set_option maxHeartbeats 1500000
set_option exponentiation.threshold 20000
/-! B21: drawn elements, trains. -/
namespace RT
open PySem PySem.Spec PyProof.Rows L2
theorem all_el : ∀ {ds : List PD}, (∀ d ∈ ds, IsE d) → ∃ t : List El, ds = t.map el ∧ (∀ e ∈ t, ElV e) ∧ t.length = ds.length
  | [], _ => ⟨[], rfl, fun _ h => (nomatch h), rfl⟩
  | d :: ds, h => by
    obtain ⟨e, rfl, he⟩ := h d List.mem_cons_self
    obtain ⟨t, rfl, ht, hl⟩ := all_el fun d hd => h d (List.mem_cons_of_mem _ hd)
    exact ⟨e :: t, rfl, fun x hx => by
      rcases List.mem_cons.mp hx with rfl | hx
      · exact he
      · exact ht x hx, by simp⟩
section
variable {P : Program} {w : World} {K : PySem.W.Frag} {mg : Str → Option Value} {base : Heap} {W W0 : Wo} {bx rw : Addr} {row : List Int}
section
variable {X : Cx} {C : Ct} {Γ : List Sl} {a b : Expr} {pos p : Pos} {k n : Nat}
theorem evc_nz (E : Hd X.K X.mg) (hW : C.W = W0.box bx rw row) (hr : Room k X.A) (ha : EV X C a Γ (opqD bx)) (hk : 3 ≤ k := by decide) (hg : Gl X "_law_nonzero" := by rfl) (he : starEach [a] X.env = (false, eval a X.env) :: starEach [] X.env := by rfl) (hpl : (backTo pos (starEach [] X.env)).any (·.1) = false := by rfl) :
    EVc X C (.Call (.Name "_law_nonzero" p) [a] [] pos) Γ (fun d => ∃ q, d = fr q ∧ Fq q ∧ q ≠ 0) :=
  evc_callC (k__law_nonzero E hW) hr hk (evcs_of (evs_one ha he)) (fun ds e => ⟨⟨(), e, fun q hq h0 => ⟨q, rfl, hq, h0⟩⟩, by rw [e]; rfl⟩) hg (by decide) he hpl
end
theorem sc__law_element : FnScope ["_law_box_here", "_law_kind_here"] ["_law_box_here"] (defScope (top 95)) := ⟨rfl, rfl, rfl, by decide +kernel, rfl, by decide +kernel, by decide +kernel⟩
def pm__law_element (bx : Addr) : Pm := fun ds p => ∃ u : Unit, ds = [opqD bx] ∧ ∀ e, ElV e → p (el e)
theorem k__law_element (E : Hd K mg) (hW : W = W0.box bx rw row) : Kn P w K mg base "_law_element" [] 4 (spD K W 1 (pm__law_element bx)) :=
  kn_mk 74 E rfl rfl (fun _ _ _ _ _ _ us hl => match us, hl with | [_], _ => rfl) fun f fd F => fn_mk F sc__law_element (by
    rintro X C cdv A outer s H E' P0 ds p rfl rfl hr ⟨u, rfl, hp⟩
    have nd := sc__law_element.nd
    dsimp only [iniL, iniN, List.tail]
    have fin : ∀ d, IsE d → p d := fun d ⟨e, h1, h2⟩ => by rw [h1]; exact hp e h2
    refine sw_cons (s1_setC (R := fun d => ∃ z : Nat, z < 9 ∧ d = .int (z : Int)) 1 nd (evc_dr 9 E hW hr (ev_var 0 rfl) ev_int) fun d e => ?_)
    all_goals (try dsimp only [List.set])
    obtain ⟨z, hz, rfl⟩ := e
    try dsimp only [List.set]
    refine sw_cons (s1_if (tv_lt (ev_var 1 rfl) ev_int) (fun ht => ?_) fun ht => ?_)
    all_goals (try dsimp only [List.set])
    · refine sw_one (s1_retC (R := IsE) (evc_tup (evcs_cons (evc_of ev_str) (evcs_one (evc_fq E hW hr (ev_var 0 rfl)))) fun ds e => ?_) fin)
      obtain ⟨d, ds', rfl, rfl, d2, rfl, q, rfl, hq⟩ := e
      exact ⟨Nat.le_of_ble_eq_true rfl, .gap q, rfl, hq.sm⟩
    refine sw_nil (sw_cons (s1_if (tv_lt (ev_var 1 rfl) ev_int) (fun ht => ?_) fun ht => ?_))
    all_goals (try dsimp only [List.set])
    · refine sw_one (s1_retC (R := IsE) (evc_tup (evcs_cons (evc_of ev_str) (evcs_cons (evc_fq E hW hr (ev_var 0 rfl)) (evcs_one (evc_ixL (R := fun d => ∃ s, d = fr s ∧ Sm 4 s) (evc_lst (R := fun d => ∃ q, d = .list [fr 0, fr q] ∧ Sm 4 q) (evcs_cons (evc_of (eq_con (i := 0) (n := 0) (by decide)).ev) (evcs_one (evc_fq E hW hr (ev_var 0 rfl)))) (fun ds e => ?_)) (evc_dr 2 E hW hr (ev_var 0 rfl) ev_int) (fun d1 d2 e1 e2 => ?_))))) fun ds e => ?_) fin)
      · obtain ⟨d, ds', rfl, rfl, d2, rfl, q, rfl, hq⟩ := e
        exact ⟨Nat.le_of_ble_eq_true rfl, q, rfl, hq.sm⟩
      · obtain ⟨q, rfl, hq⟩ := e1
        obtain ⟨z2, hz2, rfl⟩ := e2
        have : z2 = 0 ∨ z2 = 1 := by omega
        rcases this with rfl | rfl
        · exact ⟨_, _, _, rfl, rfl, rfl, 0, rfl, Sm.zero⟩
        · exact ⟨_, _, _, rfl, rfl, rfl, q, rfl, hq⟩
      · obtain ⟨d, ds', rfl, rfl, d2, ds2, rfl, ⟨q, rfl, hq⟩, d3, rfl, s, rfl, hs⟩ := e
        exact ⟨Nat.le_of_ble_eq_true rfl, .lens q s, rfl, hq.sm, hs⟩
    refine sw_nil (sw_cons (s1_if (tv_cmp op_eq rd_eqI (ev_var 1 rfl) ev_int) (fun ht => ?_) fun ht => ?_))
    all_goals (try dsimp only [List.set])
    · refine sw_one (s1_retC (R := IsE) (evc_tup (evcs_cons (evc_of ev_str) (evcs_one (evc_fq E hW hr (ev_var 0 rfl)))) fun ds e => ?_) fin)
      obtain ⟨d, ds', rfl, rfl, d2, rfl, q, rfl, hq⟩ := e
      exact ⟨Nat.le_of_ble_eq_true rfl, .prism q, rfl, hq.sm⟩
    refine sw_nil (sw_cons (s1_if (tv_cmp op_eq rd_eqI (ev_var 1 rfl) ev_int) (fun ht => ?_) fun ht => ?_))
    all_goals (try dsimp only [List.set])
    · refine sw_one (s1_retC (R := IsE) (evc_tup (evcs_cons (evc_of ev_str) (evcs_one (evc_nz E hW hr (ev_var 0 rfl)))) fun ds e => ?_) fin)
      obtain ⟨d, ds', rfl, rfl, d2, rfl, q, rfl, hq, h0⟩ := e
      exact ⟨Nat.le_of_ble_eq_true rfl, .afocal q, rfl, hq.afo h0⟩
    refine sw_nil (sw_one (s1_retC (R := IsE) (evc_callC (k__law_stop E hW) hr (by decide) (evcs_of (evs_one (ev_var 0 rfl))) (fun ds e => ?_)) fin))
    subst e
    exact ⟨⟨(), rfl, fun lo hi h => ⟨.stop lo hi, rfl, h⟩⟩, rfl⟩)
theorem sc__law_train : FnScope ["_law_box_here", "_law_most", "_law_turn"] ["_law_box_here", "_law_most"] (defScope (top 96)) := ⟨rfl, rfl, rfl, by decide +kernel, rfl, by decide +kernel, by decide +kernel⟩
def pm__law_train (bx : Addr) : Pm := fun ds p => ∃ u : Unit, ds = [opqD bx, .int 5] ∧ ∀ t : List El, (∀ e ∈ t, ElV e) → t.length ≤ 5 → p (.list (t.map el))
theorem k__law_train (E : Hd K mg) (hW : W = W0.box bx rw row) : Kn P w K mg base "_law_train" [] 5 (spD K W 2 (pm__law_train bx)) :=
  kn_mk 75 E rfl rfl (fun _ _ _ _ _ _ us hl => match us, hl with | [_, _], _ => rfl) fun f fd F => fn_mk F sc__law_train (by
    rintro X C cdv A outer s H E' P0 ds p rfl rfl hr ⟨u, rfl, hp⟩
    have nd := sc__law_train.nd
    dsimp only [iniL, iniN, List.tail]
    refine sw_one (s1_retC (R := fun d => ∃ t : List El, d = .list (t.map el) ∧ (∀ e ∈ t, ElV e) ∧ t.length ≤ 5) (evc_lc (own := [("_law_turn", 2)]) (RE := IsE) nd (ivc_rng1 (N := 5) (E.free "range" (by simp)) ((evc_dr 6 E hW hr (ev_var 0 rfl) (EV.is (ev_add (ev_var 1 rfl) ev_int) rfl)).mono fun d h => ?_) (by decide)) (blkOk_by rfl) (fun its h => ?_) (fun its h x hx => ⟨_, _, by decide, fun s H Ca cl fp => gv_name 2 nd, fun s H Ca cl fp => ?_⟩) fun its ds h hl hE => ?_) fun d e => ?_)
    all_goals (try dsimp only [List.set])
    · obtain ⟨z, hz, rfl⟩ := h
      exact ⟨z, by omega, rfl⟩
    · obtain ⟨n, hn, rfl⟩ := h
      rw [rngD_len]; omega
    · exact evc_callC (k__law_element E hW) hr (by decide) (evcs_of (evs_one (ev_var 0 rfl))) (fun ds e => ⟨⟨(), e, fun e he => ⟨e, rfl, he⟩⟩, by rw [e]; rfl⟩)
    · obtain ⟨n, hn, rfl⟩ := h
      rw [rngD_len] at hl
      obtain ⟨t, rfl, ht, htl⟩ := all_el hE
      exact ⟨t, rfl, ht, by omega⟩
    · obtain ⟨t, rfl, ht, hl⟩ := e
      exact hp t ht hl)
end
end RT
end
section
set_option Elab.async false
set_option linter.all false
set_option maxRecDepth 100000
set_option maxHeartbeats 1500000
set_option exponentiation.threshold 20000
/-! B22: the other train. -/
namespace RT
open PySem PySem.Spec PyProof.Rows L2
theorem elS_gap {e : El} (h : elS e = "gap") : ∃ x, e = .gap x := by
  cases e with
  | gap x => exact ⟨x, rfl⟩
  | _ => exact absurd h (by simp only [elS]; decide)
theorem elS_stop {e : El} (h : elS e = "stop") : ∃ lo hi, e = .stop lo hi := by
  cases e with
  | stop lo hi => exact ⟨lo, hi, rfl⟩
  | _ => exact absurd h (by simp only [elS]; decide)
theorem mem_app {es fs : List El} (h : ∀ e ∈ es, ElW e) (h2 : ∀ e ∈ fs, ElW e) : ∀ e ∈ es ++ fs, ElW e := fun e he => (List.mem_append.mp he).elim (h e) (h2 e)
theorem one_w {e : El} (h : ElW e) : ∀ x ∈ [e], ElW x := fun x hx => by rw [List.mem_singleton.mp hx]; exact h
theorem two_w {e f : El} (h : ElW e) (h2 : ElW f) : ∀ x ∈ [e, f], ElW x := mem_app (one_w h) (one_w h2)
section
variable {P : Program} {w : World} {K : PySem.W.Frag} {mg : Str → Option Value} {base : Heap} {W W0 : Wo} {bx rw : Addr} {row : List Int}
theorem sc__law_other : FnScope ["_law_box_here", "_law_train_here", "_law_found", "_law_element_here", "_law_kind_here", "_law_part", "_law_value"] ["_law_box_here", "_law_train_here"] (defScope (top 117)) := ⟨rfl, rfl, rfl, by decide +kernel, rfl, by decide +kernel, by decide +kernel⟩
def pm__law_other (bx : Addr) : Pm := fun ds p => ∃ t : List El, ds = [opqD bx, .list (t.map el)] ∧ (∀ e ∈ t, ElV e) ∧ t.length ≤ 5 ∧ ∀ u : List El, (∀ e ∈ u, ElW e) → p (.list (u.map el))
theorem k__law_other (E : Hd K mg) (hW : W = W0.box bx rw row) : Kn P w K mg base "_law_other" [] 4 (spD K W 2 (pm__law_other bx)) :=
  kn_mk 95 E rfl rfl (fun _ _ _ _ _ _ us hl => match us, hl with | [_, _], _ => rfl) fun f fd F => fn_mk F sc__law_other (by
    rintro X C cdv A outer s H E' P0 ds p rfl rfl hr ⟨t, rfl, hV, hl5, hp⟩
    have nd := sc__law_other.nd
    dsimp only [iniL, iniN, List.tail]
    refine sw_cons (s1_own 2 nd (evl_lst evs_nil) ?_)
    all_goals (try dsimp only [List.set])
    try dsimp only [List.set]
    refine sw_cons (s1_for el t (iv_lst (ev_var 1 rfl)) (fun i Γ => ∃ (fs : List El) (v3 v4 v5 v6 : Sl), Γ = [.pu (opqD bx), .pu (.list (t.map el)), .ow (fs.map el), v3, v4, v5, v6] ∧ (∀ e ∈ fs, ElW e) ∧ fs.length ≤ 3 * i) ⟨[], .no, .no, .no, .no, rfl, fun _ h => (nomatch h), by decide⟩ ?_ ?_)
    all_goals (try dsimp only [List.set])
    · rintro i e _ hx ⟨fs, v3, v4, v5, v6, rfl, hfs, hl⟩
      have hi : i < 5 := Nat.lt_of_lt_of_le (List.getElem?_eq_some_iff.mp hx).1 hl5
      have he := hV e (List.mem_of_getElem? hx)
      refine ⟨_, _, gv_name 3 nd, ?_⟩
      try dsimp only [List.set]
      refine sw_cons (s1_setC (R := fun d => ∃ z : Nat, z < 6 ∧ d = .int (z : Int)) 4 nd (evc_dr 6 E hW hr (ev_var 0 rfl) ev_int) fun d h => ?_)
      all_goals (try dsimp only [List.set])
      obtain ⟨z, hz, rfl⟩ := h
      try dsimp only [List.set]
      refine sw_one (s1_if (TW.tv (tw_and (tv_cmp op_eq rd_eqI (ev_var 4 rfl) ev_int) fun _ => tw_and1 (tv_eqS (ev_el0 (ev_var 3 rfl)) ev_str))) (fun ht => ?_) fun ht => ?_)
      all_goals (try dsimp only [List.set])
      · rw [Bool.and_eq_true, decide_eq_true_eq, decide_eq_true_eq] at ht
        obtain ⟨x, rfl⟩ := elS_gap ht.2
        refine sw_cons (s1_setC (R := IsF) 5 nd (evc_fq E hW hr (ev_var 0 rfl)) fun d h => ?_)
        all_goals (try dsimp only [List.set])
        obtain ⟨q, rfl, hq⟩ := h
        have hx4 : Sm 4 x := he
        try dsimp only [List.set]
        refine sw_cons (s1_append 2 rfl (ev_tup (evs_cons ev_str (evs_one (ev_var 5 rfl)))) ?_ (by rw [List.length_map]; omega))
        try dsimp only [List.set]
        refine sw_one (s1_append 2 rfl (ev_tup (evs_cons ev_str (evs_one (lq_sub E hr ⟨ev_ixT (d := fr x) (ev_var 3 rfl) ev_int rfl, hx4.rb (by decide)⟩ ⟨ev_var 5 rfl, hq.sm.rb (by decide)⟩).ev))) ⟨fs ++ [.gap q, .gap (x - q)], .pu (el (.gap x)), .pu (.int (z : Int)), .pu (fr q), v6, ?_, ?_, ?_⟩ (by rw [List.length_append, List.length_map]; simp; omega))
        · try dsimp only [List.set]
          rw [List.map_append, List.append_assoc]
          rfl
        · refine mem_app hfs (two_w (e := .gap q) (f := .gap (x - q)) (hq.sm.up (by decide)) ?_)
          show Sm 8 (x - q)
          rw [Rat.sub_eq_add_neg]
          exact hx4.add hq.sm.neg
        · rw [List.length_append]; simp; omega
      refine sw_one (s1_if (tv_cmp op_eq rd_eqI (ev_var 4 rfl) ev_int) (fun ht => ?_) fun ht => ?_)
      all_goals (try dsimp only [List.set])
      · refine sw_cons (s1_setC (R := fun d => ∃ q, d = fr q ∧ Fq q ∧ q ≠ 0) 6 nd (evc_nz E hW hr (ev_var 0 rfl)) fun d h => ?_)
        all_goals (try dsimp only [List.set])
        obtain ⟨q, rfl, hq, h0⟩ := h
        try dsimp only [List.set]
        refine sw_freeze 2 rfl ?_
        try dsimp only [List.set]
        refine sw_one (s1_own 2 nd (evl_cat (ev_var 2 rfl) (ev_lst (evs_cons (ev_tup (evs_cons ev_str (evs_cons (ev_var 6 rfl) (evs_one (eq_con (i := 0) (n := 0) (by decide)).ev)))) (evs_cons (ev_tup (evs_cons ev_str (evs_cons (lq_neg E hr (n := 8) (d := 4) ⟨ev_var 6 rfl, hq.sm.rb (by decide)⟩).ev (evs_one (eq_con (i := 0) (n := 0) (by decide)).ev)))) (evs_one (ev_var 3 rfl))))) (by rw [List.length_map]; simp; omega)) ⟨fs ++ [.lens q 0, .lens (-q) 0, e], .pu (el e), .pu (.int (z : Int)), v5, .pu (fr q), ?_, ?_, ?_⟩)
        · try dsimp only [List.set]
          rw [List.map_append]
          rfl
        · exact mem_app hfs (mem_app (one_w (e := .lens q 0) ⟨hq.sm, Sm.zero⟩) (two_w (e := .lens (-q) 0) (f := e) ⟨hq.sm.neg, Sm.zero⟩ he.w))
        · rw [List.length_append]; simp; omega
      refine sw_one (s1_if (TW.tv (tw_and (tv_cmp op_eq rd_eqI (ev_var 4 rfl) ev_int) fun _ => tw_and1 (tv_eqS (ev_el0 (ev_var 3 rfl)) ev_str))) (fun ht => ?_) fun ht => ?_)
      all_goals (try dsimp only [List.set])
      · refine sw_freeze 2 rfl ?_
        try dsimp only [List.set]
        refine sw_one (s1_own 2 nd (evl_cat (ev_var 2 rfl) (ev_lst (evs_cons (ev_var 3 rfl) (evs_one (ev_var 3 rfl)))) (by rw [List.length_map]; simp; omega)) ⟨fs ++ [e, e], .pu (el e), .pu (.int (z : Int)), v5, v6, ?_, ?_, ?_⟩)
        · try dsimp only [List.set]
          rw [List.map_append]
          rfl
        · exact mem_app hfs (two_w he.w he.w)
        · rw [List.length_append]; simp; omega
      refine sw_one (s1_ifT (p := ∃ lo hi, e = .stop lo hi) (tvt_and3 (tv_cmp op_eq rd_eqI (ev_var 4 rfl) ev_int) (tv_eqS (ev_el0 (ev_var 3 rfl)) ev_str) (fun h => elS_stop (by simpa using h)) fun _ _ => tvc_eqI (evc_dr 2 E hW hr (ev_var 0 rfl) ev_int) (evc_of ev_int) fun d1 d2 e1 e2 => ?_) (fun h => ?_) ?_)
      all_goals (try dsimp only [List.set])
      · obtain ⟨z2, hz2, rfl⟩ := e1
        subst e2
        exact ⟨_, _, rfl, rfl⟩
      · obtain ⟨lo, hi', rfl⟩ := h
        have hw := he.w
        refine sw_one (s1_append 2 rfl (ev_tup (evs_cons ev_str (evs_cons (ev_ixT (d := ofr lo) (ev_var 3 rfl) ev_int rfl) (evs_one ev_non)))) ⟨fs ++ [.stop lo none], .pu (el (.stop lo hi')), .pu (.int (z : Int)), v5, v6, ?_, ?_, ?_⟩ (by rw [List.length_map]; omega))
        · try dsimp only [List.set]
          rw [List.map_append]
          rfl
        · exact mem_app hfs (one_w (e := .stop lo none) ⟨hw.1, fun _ h => (nomatch h)⟩)
        · rw [List.length_append]; simp; omega
      · refine sw_one (s1_append 2 rfl (ev_var 3 rfl) ⟨fs ++ [e], .pu (el e), .pu (.int (z : Int)), v5, v6, ?_, ?_, ?_⟩ (by rw [List.length_map]; omega))
        · try dsimp only [List.set]
          rw [List.map_append]
          rfl
        · exact mem_app hfs (one_w he.w)
        · rw [List.length_append]; simp; omega
    · rintro _ ⟨fs, v3, v4, v5, v6, rfl, hfs, hl⟩
      exact sw_one (s1_ret (evr_own 2 rfl) (hp fs hfs)))
end
end RT
end
section
set_option Elab.async false
set_option linter.all false
set_option maxRecDepth 100000
set_option maxHeartbeats 1500000
/-! B23: repr of data. -/
namespace RT
open PySem PySem.Spec PyProof.Rows L2
/-- small enough to be shown: at most n deep, whole numbers below 2 ^ 1920, short texts -/
def okN : Nat → PD → Bool
  | _, .none => true
  | _, .bool _ => true
  | _, .int i => decide (i.natAbs.log2 < 1920)
  | _, .str x => decide ((reprText x).length ≤ 1900)
  | n + 1, .list xs => xs.all (okN n)
  | n + 1, .tuple xs => xs.all (okN n)
  | _, _ => false
def cntN : Nat → PD → Nat
  | n + 1, .list xs => 1 + (xs.map (cntN n)).sum
  | n + 1, .tuple xs => 1 + (xs.map (cntN n)).sum
  | _, _ => 1
structure Shw (n : Nat) (d : PD) : Prop where
  sh : d.showable = true
  nd : d.hasDict = false
  dp : d.depth ≤ n
  ln : d.shown.length + 10 ≤ 2000 * cntN n d
theorem shw_all {n : Nat} (ih : ∀ d, okN n d = true → Shw n d) : ∀ xs : List PD, xs.all (okN n) = true → PyData.showableAll xs = true ∧ PyData.hasDictAll xs = false ∧ PyData.depthAll xs ≤ n ∧ ((PyData.shownAll xs).map (·.length)).sum + 10 * xs.length ≤ 2000 * (xs.map (cntN n)).sum
  | [], _ => ⟨by simp only [PyData.showableAll], by simp only [PyData.hasDictAll], by simp only [PyData.depthAll]; omega, by simp [PyData.shownAll]⟩
  | x :: xs, h => by
    rw [List.all_cons, Bool.and_eq_true] at h
    have a := ih x h.1
    obtain ⟨b1, b2, b3, b4⟩ := shw_all ih xs h.2
    refine ⟨by simp only [PyData.showableAll, a.sh, b1, Bool.and_self], by simp only [PyData.hasDictAll, a.nd, b2, Bool.or_self], ?_, ?_⟩
    · simp only [PyData.depthAll]
      exact Nat.max_le.mpr ⟨a.dp, b3⟩
    · have := a.ln
      simp only [PyData.shownAll, List.map_cons, List.sum_cons, List.length_cons]
      omega
theorem leafC (n : Nat) (d : PD) : 1 ≤ cntN n d := by
  cases n with
  | zero => cases d <;> exact Nat.le_refl 1
  | succ n =>
    cases d with
    | list xs => show 1 ≤ 1 + _; omega
    | tuple xs => show 1 ≤ 1 + _; omega
    | _ => exact Nat.le_refl 1
theorem leaf_shw {n : Nat} {d : PD} (h1 : d.showable = true) (h2 : d.hasDict = false) (h3 : d.depth = 0) (h4 : d.shown.length ≤ 1922) : Shw n d := ⟨h1, h2, by omega, by have := leafC n d; omega⟩
theorem okN_leaf {n : Nat} {d : PD} (hd : PyData.depth d = 0) (h : okN n d = true) : Shw n d := by
  cases d with
  | none => exact leaf_shw (by simp only [PyData.showable]) (by simp only [PyData.hasDict]) hd (by rw [PyData.shown_none]; decide)
  | bool b => exact leaf_shw (by simp only [PyData.showable]) (by simp only [PyData.hasDict]) hd (by rw [PyData.shown_bool]; cases b <;> decide)
  | int i =>
    have hi : i.natAbs.log2 < 1920 := by
      cases n <;> exact of_decide_eq_true h
    refine leaf_shw (by simp only [PyData.showable]; exact decide_eq_true hi) (by simp only [PyData.hasDict]) hd ?_
    rw [PyData.shown_int]
    have e := int_text_length_le (by decide) hi
    have e2 : (Str.ofString (toString i)).length = (toString i).length := PySem.ofString_length _
    rw [show ((toString i : String) : Str) = Str.ofString (toString i) from rfl, e2]
    omega
  | str x =>
    have hx : (reprText x).length ≤ 1900 := by
      cases n <;> exact of_decide_eq_true h
    exact leaf_shw (by simp only [PyData.showable]) (by simp only [PyData.hasDict]) hd (by rw [PyData.shown_str]; omega)
  | list xs => simp only [PyData.depth] at hd; omega
  | tuple xs => simp only [PyData.depth] at hd; omega
  | dict kv => simp only [PyData.depth] at hd; omega
theorem okN_shw : ∀ (n : Nat) (d : PD), okN n d = true → Shw n d
  | 0, d, h => by
    cases d with
    | list xs => cases h
    | tuple xs => cases h
    | dict kv => cases h
    | _ => exact okN_leaf (by simp only [PyData.depth]) h
  | n + 1, d, h => by
    cases d with
    | list xs =>
      obtain ⟨b1, b2, b3, b4⟩ := shw_all (okN_shw n) xs h
      refine ⟨by simp only [PyData.showable]; exact b1, by simp only [PyData.hasDict]; exact b2, by simp only [PyData.depth]; omega, ?_⟩
      have j := StrLaws.join_length_le ", " (PyData.shownAll xs)
      rw [PyData.shownAll_length] at j
      have e2 : ((", " : Str)).length = 2 := by decide
      rw [e2] at j
      rw [PyData.shown_list, Str.length_append, Str.length_append]
      have e3 : (("[" : Str)).length = 1 := by decide
      have e4 : (("]" : Str)).length = 1 := by decide
      show _ ≤ 2000 * (1 + (xs.map (cntN n)).sum)
      omega
    | tuple xs =>
      obtain ⟨b1, b2, b3, b4⟩ := shw_all (okN_shw n) xs h
      refine ⟨by simp only [PyData.showable]; exact b1, by simp only [PyData.hasDict]; exact b2, by simp only [PyData.depth]; omega, ?_⟩
      have j := StrLaws.join_length_le ", " (PyData.shownAll xs)
      rw [PyData.shownAll_length] at j
      have e2 : ((", " : Str)).length = 2 := by decide
      rw [e2] at j
      rw [PyData.shown_tuple, Str.length_append, Str.length_append]
      have e3 : (("(" : Str)).length = 1 := by decide
      have e4 : (((if xs.length == 1 then ",)" else ")" : String) : Str)).length ≤ 2 := by split <;> decide
      show _ ≤ 2000 * (1 + (xs.map (cntN n)).sum)
      omega
    | dict kv => cases h
    | _ => exact okN_leaf (by simp only [PyData.depth]) h
/-- what repr may be asked of -/
structure Rp (d : PD) : Prop where
  ok : okN 8 d = true
  ct : cntN 8 d ≤ 8000
def rRepr (K : PySem.W.Frag) : List V → Hp → VK → Prop := fun xs H Q => ∃ x d, xs = [x] ∧ Dp K H x d ∧ Rp d ∧ Q (.str d.shown) H
theorem call_reprD {X : Cx} (hG : X.A.guards = some []) (hu : X.A.units + 64 < cLine) : CallR X (.builtin "repr") (rRepr X.K) := by
  intro pins s σ H xs us Q I r h
  obtain ⟨x, d, rfl, hd, hp, q⟩ := h
  obtain ⟨u, rfl, ru⟩ := vals1 r
  have S := okN_shw 8 d hp.ok
  have hsz : d.shown.length ≤ sizeLine := by
    have h1 := S.ln
    have h2 := hp.ct
    have h3 : (2000 * 8000 : Nat) ≤ sizeLine := by decide
    omega
  obtain ⟨as, rd⟩ := Dp.reads I d x u hd ru
  cases rd with
  | none => exact PySem.P.repr_of_none ⟨.str _, H, I.tok _, ⟨_, rfl⟩, by rw [PyData.shown_none] at q; exact q⟩
  | bool b => exact PySem.P.repr_of_bool ⟨.str _, H, I.tok _, ⟨_, rfl⟩, by rw [PyData.shown_bool] at q; exact q⟩
  | int i t => exact PySem.P.repr_of_int (by have := S.sh; simp only [PyData.showable] at this; exact of_decide_eq_true this) ⟨.str _, H, I.tok _, ⟨_, rfl⟩, by rw [PyData.shown_int] at q; exact q⟩
  | str x t => exact PySem.P.repr_of_str ⟨.str _, H, I.tok _, ⟨_, rfl⟩, by rw [PyData.shown_str] at q; exact q⟩ (by rw [PyData.shown_str] at hsz; exact hsz)
  | list a b c e => exact repr_of_reads' (.list a b c e) S.sh (PyData.noDict_hsm S.nd) hG (by have := S.dp; omega) (fun _ _ h => h) (fun h' u tk k => ⟨.str _, H, I.kept k, ⟨_, rfl⟩, q⟩) hsz
  | tuple a b c e => exact repr_of_reads' (.tuple a b c e) S.sh (PyData.noDict_hsm S.nd) hG (by have := S.dp; omega) (fun _ _ h => h) (fun h' u tk k => ⟨.str _, H, I.kept k, ⟨_, rfl⟩, q⟩) hsz
  | dict _ _ _ _ _ => have := S.nd; simp only [PyData.hasDict] at this; cases this
theorem boot_repr' : bootBuiltins ("repr" : Str) = some (.builtin "repr") := by decide +kernel
theorem ev_repr {X : Cx} {C : Ct} {Γ : List Sl} {e : Expr} {pos p : Pos} {d : PD} {k : Nat} (hG : X.A.guards = some []) (hr : Room k X.A) (hm : X.mg "repr" = none) (ha : EV X C e Γ d) (hp : Rp d) (hg : Gl X "repr" := by rfl) (he : starEach [e] X.env = (false, eval e X.env) :: starEach [] X.env := by rfl) (hpl : (backTo pos (starEach [] X.env)).any (·.1) = false := by rfl) :
    EV X C (.Call (.Name "repr" p) [e] [] pos) Γ (.str d.shown) :=
  ev_bi (call_reprD hG hr.units) (fun hK P H vs m z Q q => by
    cases z with
    | cons z1 z2 =>
      cases z2
      have S := okN_shw 8 d hp.ok
      rw [hK] at z1
      exact ⟨_, d, rfl, (z1.mono msk_le).dp S.nd, hp, q _ H (Ext.refl _ _) m.wok (.str _)⟩) hm boot_repr' (evs_one ha he) hg (by decide) (by decide) he hpl
end RT
end
section
set_option Elab.async false
set_option linter.all false
set_option maxRecDepth 100000
set_option maxHeartbeats 1500000
/-! B24: defs that are called where no repr is under way. -/
namespace RT
open PySem PySem.Spec PyProof.Rows L2
/-- a def's promise at calls ahead of which no repr is under way -/
structure FnG (P : Program) (w : World) (K : PySem.W.Frag) (mg : Str → Option Value) (base : Heap) (k : Nat) (f : Addr) (fd : FuncData) (ps : List Str) (sp : Sp) : Prop where
  ln : ∀ vs H Q E, sp vs H Q E → vs.length = ps.length
  go : ∀ (A : Around) (outer : List Env) (s : Shared) (H : Hp) (ar : Args) (us : List Value) (vs : List V) (Q : VK) (E : XK), A.guards = some [] → Room k A → Env0 P w K mg base A outer s H →
    BindsTo s fd ar (ps.zip us) → Vals vs us → sp vs H Q E → codeAny (model P w) A (.call (.ref f) ar) (CR CX0 outer P w H s Q E) s
section
variable {P : Program} {w : World} {K : PySem.W.Frag} {mg : Str → Option Value} {base : Heap} {W : Wo}
theorem fnG_of {x q : Str} {prm : Arguments} {body : List Stmt} {scope : Scope} {dvs : List V} {f : Addr} {fd : FuncData} {N ps : List Str} {k : Nat} {sp : Sp} (F : FunD K x q prm body scope dvs [] f fd) (S : FnScope N ps scope) (hl : ∀ vs H Q E, sp vs H Q E → vs.length = ps.length)
    (hb : ∀ (cdv : Value) (A : Around) (outer : List Env) (s : Shared) (H : Hp) (vs : List V) (Q : VK) (E : XK), A.guards = some [] → Room k (A.deeper (envOfC q scope s.heap.objs.size f cdv)) → sp vs H Q E →
      ∃ t, PSs (cxOf CX0 P w K mg base N q scope f cdv A outer s H E) body t ∧ t { nx := fun _ H' => Q .non H', rt := Q } (L2.start N vs) H) : FnG P w K mg base (k + 1) f fd ps sp := by
  obtain ⟨oc, od, dV, kV, doc, pm, an, cdv, ct, osl, rfl, lk, hcd, _, _⟩ := F.ex
  constructor
  · exact hl
  intro A outer s H ar us vs Q E hG hroom env0 hbind hvals hspec
  have nvs := hl vs H Q E hspec
  have old : ∀ b o, base.get? b = some o → s.heap.get? b = some o := fun b o z => (env0.bs b o z).1
  have inK := PySem.W.Frag.In.keeps env0.mod.kin old
  have names : ∀ z ∈ ps.zip us, scope.names.lookup z.1 = some .local ∨ (scope.names.lookup z.1 = some .cell ∧ ((cellsFrom (s.heap.objs.size + 1) scope.names []).lookup z.1).isSome = true) := by
    rintro ⟨n, v⟩ hz
    have hn := S.par n (List.of_mem_zip hz).1
    exact hn.imp id fun c => ⟨c, PySem.W.cellsFrom_some _ _ _ (.inl c)⟩
  apply codeAny_call_function hroom.depth (inK _ _ lk) rfl S.co S.gen rfl (PySem.W.codeRec_of inK hcd)
  apply hbind
  apply wpAny_newFunctionEnv_cells S.kind names
  rintro _ rfl s1 inCall
  refine ⟨env0.mod.nolimit.keeps fun b o z => inCall.toInCall.keep b o (old b o z), codeAny_func ?_⟩
  obtain ⟨t, hps, ht⟩ := hb cdv A outer s H vs Q E hG (hroom.deeper _) hspec
  have at0 := inv_start (CX := CX0) (E := E) S hroom.hd env0 nvs hvals inCall
  refine wpAny_mono (hps.run [] s1 (L2.start N vs) H _ at0 ht) (fun ends s' he => ?_) (fun _ _ z => z)
  cases ends with
  | next =>
    obtain ⟨_, H', J, z⟩ := he
    exact ⟨V.non, H', J.os, J.bare, J.base, J.hok, rfl, z⟩
  | ret u =>
    obtain ⟨v, _, H', J, rv, z⟩ := he
    exact ⟨v, H', J.os, J.bare, J.base, J.hok, rv, z⟩
  | brk => obtain ⟨_, _, _, z⟩ := he; exact z.elim
  | cont => obtain ⟨_, _, _, z⟩ := he; exact z.elim
theorem fnG_mk {x q : Str} {params : Arguments} {body : List Stmt} {scope : Scope} {dvs : List V} {f : Addr} {fd : FuncData} {N ps : List Str} {k : Nat} {pm : Pm} (F : FunD K x q params body scope dvs [] f fd) (S : FnScope N ps scope)
    (hbody : ∀ (X : Cx) (C : Ct) (cdv : Value) (A : Around) (outer : List Env) (s : Shared) (H : Hp) (E : XK) (P0 : Addr → Bool) (ds : List PD) (p : PD → Prop), X = (cxOf CX0 P w K mg base N q scope f cdv A outer s H E).nox → X.A.guards = some [] → C = ⟨K, W, H, P0⟩ → Room k X.A → pm ds p → SW X C body (iniL N ds) { nx := fun _ => p .none, rt := p }) :
    FnG P w K mg base (k + 1) f fd ps (spD K W ps.length pm) :=
  fnG_of F S (fun vs H Q E h => by obtain ⟨_, _, _, h, _⟩ := h; exact h) fun cdv A outer s H vs Q E hG hr h => by
    obtain ⟨P0, ds, p, _, h1, h2, h3, h4, h5, h6⟩ := h
    refine ⟨_, PSs.nox pss_w, hbody _ _ cdv A outer s H E P0 ds p rfl hG rfl hr h5 rfl P0 _ H (by rw [← ini_eq]; exact start_ok h4 h1 h2 h3) _ ⟨fun Γ' P' σ' H' a o l => ?_, fun d v H' r e1 ok z => h6 d v H' r e1 ok z, fun _ _ _ _ z => z.elim, fun _ _ _ _ z => z.elim⟩⟩
    exact h6 .none .non H' a o.ext o.wok .non
/-- such a def is known -/
structure KnG (P : Program) (w : World) (K : PySem.W.Frag) (mg : Str → Option Value) (base : Heap) (x : Str) (k : Nat) (sp : Sp) : Prop where
  ex : ∃ (f : Addr) (fd : FuncData) (ps : List Str), mg x = some (.ref f) ∧ PySem.W.keepIn K (.ref f) = true ∧ Binds K fd ps [] ∧ FnG P w K mg base k f fd ps sp
theorem knG_mk {i : Nat} {x : Str} (j : Nat) {ps : List Str} {k n : Nat} {pm : Pm} (E : Hd K mg) (hj : fns[j]? = some (dOf i x [])) (hn : ps.length = n)
    (hb : ∀ (kV doc pm : Value) (an : Option Addr) (cdv ct : Value) (us : List Value), us.length = ps.length → bindArgs (PySem.W.fnOf x x (defArgs (top i)) (defBody (top i)) (defScope (top i)) .none kV doc pm an cdv ct) ⟨us, []⟩ = pure (ps.zip us))
    (h : ∀ f fd, FunD K x x (defArgs (top i)) (defBody (top i)) (defScope (top i)) [] [] f fd → FnG P w K mg base k f fd ps (spD K W ps.length pm)) : KnG P w K mg base x k (spD K W n pm) := by
  have hm : dOf i x [] ∈ fns := List.mem_of_getElem? hj
  obtain ⟨fd, F⟩ := E.def_ _ hm
  have F' : FunD K x x (defArgs (top i)) (defBody (top i)) (defScope (top i)) [] [] (He.fAd K (x, none)) fd := F
  exact ⟨⟨_, fd, ps, E.glo _ hm, F'.kp, F'.bindsN hb, by rw [← hn]; exact h _ fd F'⟩⟩
end
section
variable {X : Cx} {C : Ct} {Γ : List Sl} {e : Expr} {es : List Expr} {pos p : Pos} {d : PD} {ds : List PD} {j k n : Nat} {pm : Pm} {xn : Str} {sp : Sp} {t : TA}
theorem peG_call (G : KnG X.prog X.w X.K X.mg X.base xn j sp) (hG : X.A.guards = some []) (hr : Room j X.A) (hg : Gl X xn) (ha : L2.PA X (e :: es) t) (hdb : (xn == ("__debug__" : Str)) = false) (he : starEach (e :: es) X.env = (false, eval e X.env) :: starEach es X.env) (hpl : (backTo pos (starEach es X.env)).any (·.1) = false) :
    PE X (.Call (.Name xn p) (e :: es) [] pos) (tCall sp [] E0 t) := by
  obtain ⟨f, fd, ps, gm, kp, bnd, F⟩ := G.ex
  constructor
  intro pins s σ H Q inv hh
  apply wpAny_Call_Name_kw
  apply ld_glob inv hg gm _ hdb
  refine PySem.W.callWith_K (h₀ := X.base) inv.ok.mod.kin kp (thn (ha.run pos pins s σ H _ inv hh) fun us s1 z => ?_) he hpl
  obtain ⟨vs, H1, inv1, rv, hs⟩ := z
  have hs' : sp vs H1 Q E0 := by rw [← List.append_nil vs]; exact hs
  have hn : us.length = ps.length := by rw [← rv.length]; exact F.ln _ _ _ _ hs'
  have bt := bnd s1 us inv1.kIn (by rw [List.append_nil]; exact hn)
  rw [List.append_nil] at bt
  refine ⟨inv1.kIn, wpAny_call (codeAny_mono (F.go X.A X.stack s1 H1 ⟨us, []⟩ us vs Q E0 hG hr inv1.env0 bt rv hs') fun res s2 z => ?_)⟩
  match res, z with
  | .ok (.ret u), z => exact inv1.after z
theorem evG_call (G : KnG X.prog X.w X.K X.mg X.base xn j (spD X.K C.W n pm)) (hG : X.A.guards = some []) (hr : Room k X.A) (hj : j ≤ k) (ha : EVs X C (e :: es) Γ ds) (hp : pm ds fun d' => d' = d) (hn : ds.length = n := by rfl) (hg : Gl X xn := by rfl)
    (hdb : (xn == ("__debug__" : Str)) = false := by decide) (he : starEach (e :: es) X.env = (false, eval e X.env) :: starEach es X.env := by rfl) (hpl : (backTo pos (starEach es X.env)).any (·.1) = false := by rfl) : EV X C (.Call (.Name xn p) (e :: es) [] pos) Γ d := .mk fun hK P σ H o Q q => by
  refine w_pe (peG_call G hG (hr.mono hj) hg pa_w hdb he hpl) (ha hK P σ H o _ fun vs H1 e1 ok1 z1 => ?_)
  have o1 := o.step e1 ok1
  refine ⟨P, ds, fun d' => d' = d, ?_, ok1, o1.dom, o1.pw, ?_, hp, fun d' v H' r e2 ok2 z => ?_⟩
  · rw [List.append_nil, z1.length]; exact hn
  · rw [List.append_nil, ← hK]; exact z1
  · subst r
    exact q v H' (e1.trans e2) ok2 (by rw [hK]; exact z)
end
end RT
end
section
set_option linter.all false
/-! P1: finite systems of half planes over the fractions. -/
namespace RT
open PySem
/-! ### bounds of finite sets -/
theorem ex_max : ∀ L : List Rat, L ≠ [] → ∃ m ∈ L, ∀ l ∈ L, l ≤ m
  | [], h => absurd rfl h
  | [x], _ => ⟨x, List.mem_cons_self, fun l hl => by rw [List.mem_singleton.mp hl]; exact Rat.le_refl⟩
  | x :: y :: L, _ => by
    obtain ⟨m, h1, h2⟩ := ex_max (y :: L) (by simp)
    by_cases h : x ≤ m
    · refine ⟨m, List.mem_cons_of_mem _ h1, fun l hl => ?_⟩
      rcases List.mem_cons.mp hl with rfl | hl
      · exact h
      · exact h2 l hl
    · refine ⟨x, List.mem_cons_self, fun l hl => ?_⟩
      rcases List.mem_cons.mp hl with rfl | hl
      · exact Rat.le_refl
      · have := h2 l hl
        grind
theorem ex_min (L : List Rat) (h : L ≠ []) : ∃ m ∈ L, ∀ l ∈ L, m ≤ l := by
  obtain ⟨m, h1, h2⟩ := ex_max (L.map fun x => -x) (by simpa using h)
  obtain ⟨x, hx, rfl⟩ := List.mem_map.mp h1
  refine ⟨x, hx, fun l hl => ?_⟩
  have := h2 (-l) (List.mem_map_of_mem hl)
  grind
theorem between (L U : List Rat) (h : ∀ l ∈ L, ∀ u ∈ U, l ≤ u) : ∃ s, (∀ l ∈ L, l ≤ s) ∧ ∀ u ∈ U, s ≤ u := by
  by_cases hL : L = []
  · by_cases hU : U = []
    · subst hL; subst hU; exact ⟨0, by simp, by simp⟩
    · obtain ⟨m, h1, h2⟩ := ex_min U hU
      subst hL
      exact ⟨m, by simp, h2⟩
  · obtain ⟨m, h1, h2⟩ := ex_max L hL
    exact ⟨m, h2, h m h1⟩
/-! ### regions -/
def val (p q : Rat) (z : Ray) : Rat := p * z.1 + q * z.2
def In (hs : List Pl) (z : Ray) : Prop := ∀ h ∈ hs, valueAt h z ≤ (h.r : Rat)
def NZ (h : Pl) : Prop := h.p ≠ 0 ∨ h.q ≠ 0
theorem In.sub {hs gs : List Pl} {z : Ray} (h : In hs z) (s : ∀ g ∈ gs, g ∈ hs) : In gs z := fun g hg => h g (s g hg)
theorem In.cons {h : Pl} {hs : List Pl} {z : Ray} (a : valueAt h z ≤ (h.r : Rat)) (b : In hs z) : In (h :: hs) z := fun g hg => by
  rcases List.mem_cons.mp hg with rfl | hg
  · exact a
  · exact b g hg
/-- a small step -/
theorem step_ok {z d : Ray} : ∀ {hs : List Pl}, In hs z → (∀ h ∈ hs, valueAt h z = (h.r : Rat) → valueAt h d ≤ 0) → ∃ t : Rat, 0 < t ∧ ∀ s, 0 ≤ s → s ≤ t → In hs (z.1 + s * d.1, z.2 + s * d.2)
  | [], _, _ => ⟨1, by decide, fun _ _ _ g hg => by cases hg⟩
  | h :: hs, hz, ht => by
    obtain ⟨t, t0, t1⟩ := step_ok (hs := hs) (fun g hg => hz g (List.mem_cons_of_mem _ hg)) fun g hg => ht g (List.mem_cons_of_mem _ hg)
    have h1 := hz h List.mem_cons_self
    have h2 := ht h List.mem_cons_self
    have key : ∀ s : Rat, valueAt h (z.1 + s * d.1, z.2 + s * d.2) = valueAt h z + s * valueAt h d := fun s => by unfold valueAt; grind
    by_cases hd : valueAt h d ≤ 0
    · refine ⟨t, t0, fun s s0 s1 => (t1 s s0 s1).cons ?_⟩
      rw [key]
      have : 0 ≤ s * (-(valueAt h d)) := Rat.mul_nonneg s0 (by grind)
      grind
    · have hp : 0 < valueAt h d := by grind
      have hlt : 0 < (h.r : Rat) - valueAt h z := by
        rcases Rat.le_iff_lt_or_eq.mp h1 with e | e
        · grind
        · exact absurd (h2 e) hd
      have ex : ∃ g : Rat, 0 < g ∧ g * valueAt h d = (h.r : Rat) - valueAt h z := ⟨((h.r : Rat) - valueAt h z) / valueAt h d, by rw [Rat.div_def]; exact Rat.mul_pos hlt (Rat.inv_pos.mpr hp), by grind⟩
      obtain ⟨g, g0, g1⟩ := ex
      have fin : ∀ s, 0 ≤ s → s ≤ g → valueAt h (z.1 + s * d.1, z.2 + s * d.2) ≤ (h.r : Rat) := fun s s0 s1 => by
        rw [key]
        have : 0 ≤ (g - s) * valueAt h d := Rat.mul_nonneg (by grind) (Rat.le_of_lt hp)
        grind
      by_cases hg : g ≤ t
      · exact ⟨g, g0, fun s s0 s1 => (t1 s s0 (Rat.le_trans s1 hg)).cons (fin s s0 s1)⟩
      · exact ⟨t, t0, fun s s0 s1 => (t1 s s0 s1).cons (fin s s0 (by grind))⟩
theorem sq_pos {c1 c2 : Rat} (h : c1 ≠ 0 ∨ c2 ≠ 0) : 0 < c1 * c1 + c2 * c2 := by
  have sq : ∀ x : Rat, 0 ≤ x * x ∧ (x ≠ 0 → 0 < x * x) := fun x => by
    by_cases h0 : x = 0
    · subst h0; exact ⟨by rw [Rat.zero_mul]; exact Rat.le_refl, fun h => absurd rfl h⟩
    · have : 0 < x * x := by
        rcases (Rat.le_total : (0 : Rat) ≤ x ∨ x ≤ 0) with h | h
        · have : 0 < x := by grind
          exact Rat.mul_pos this this
        · have : 0 < -x := by grind
          have := Rat.mul_pos this this
          grind
      exact ⟨Rat.le_of_lt this, fun _ => this⟩
  have h1 := sq c1
  have h2 := sq c2
  rcases h with h | h
  · have := h1.2 h
    have := h2.1
    grind
  · have := h2.2 h
    have := h1.1
    grind
/-- what tight half planes give of a direction -/
theorem cone (T : List Pl) (c1 c2 : Rat) (hc : c1 ≠ 0 ∨ c2 ≠ 0) :
    (∃ f ∈ T, (f.p : Rat) * c2 - (f.q : Rat) * c1 = 0 ∧ 0 < (f.p : Rat) * c1 + (f.q : Rat) * c2) ∨
    (∃ f ∈ T, ∃ g ∈ T, ∃ w1 w2 : Rat, 0 < w1 ∧ 0 < w2 ∧ c1 = w1 * (f.p : Rat) + w2 * (g.p : Rat) ∧ c2 = w1 * (f.q : Rat) + w2 * (g.q : Rat) ∧ (f.p : Rat) * (g.q : Rat) - (f.q : Rat) * (g.p : Rat) ≠ 0) ∨
    ∃ d : Ray, (∀ f ∈ T, valueAt f d ≤ 0) ∧ 0 < c1 * d.1 + c2 * d.2 := by
  have hS := sq_pos hc
  by_cases h1 : ∃ f ∈ T, (f.p : Rat) * c2 - (f.q : Rat) * c1 = 0 ∧ 0 < (f.p : Rat) * c1 + (f.q : Rat) * c2
  · exact .inl h1
  refine .inr ?_
  let al : Pl → Rat := fun f => (f.p : Rat) * c1 + (f.q : Rat) * c2
  let be : Pl → Rat := fun f => c1 * (f.q : Rat) - c2 * (f.p : Rat)
  by_cases h2 : ∃ f ∈ T, ∃ g ∈ T, 0 < be f ∧ be g < 0 ∧ 0 < (f.q : Rat) * (g.p : Rat) - (g.q : Rat) * (f.p : Rat)
  · obtain ⟨f, hf, g, hg, b1, b2, hD⟩ := h2
    refine .inl ⟨f, hf, g, hg, -(be g) / ((f.q : Rat) * (g.p : Rat) - (g.q : Rat) * (f.p : Rat)), be f / ((f.q : Rat) * (g.p : Rat) - (g.q : Rat) * (f.p : Rat)), ?_, ?_, ?_, ?_, ?_⟩
    · rw [Rat.div_def]; exact Rat.mul_pos (by grind) (Rat.inv_pos.mpr hD)
    · rw [Rat.div_def]; exact Rat.mul_pos b1 (Rat.inv_pos.mpr hD)
    · simp only [be]; grind
    · simp only [be]; grind
    · grind
  · refine .inr ?_
    have cr : ∀ f ∈ T, ∀ g ∈ T, 0 < be f → be g < 0 → -(al g) / be g ≤ -(al f) / be f := fun f hf g hg b1 b2 => by
      have hD : ¬ 0 < (f.q : Rat) * (g.p : Rat) - (g.q : Rat) * (f.p : Rat) := fun z => h2 ⟨f, hf, g, hg, b1, b2, z⟩
      have e1 : be f * al g - be g * al f = ((f.q : Rat) * (g.p : Rat) - (g.q : Rat) * (f.p : Rat)) * (c1 * c1 + c2 * c2) := by simp only [al, be]; grind
      have e2 : 0 ≤ (-((f.q : Rat) * (g.p : Rat) - (g.q : Rat) * (f.p : Rat))) * (c1 * c1 + c2 * c2) := Rat.mul_nonneg (by grind) (Rat.le_of_lt hS)
      have e3 : be f * al g ≤ be g * al f := by grind
      have e4 : -(al g) / be g - -(al f) / be f = (be f * al g - be g * al f) * (-(be g) * be f)⁻¹ := by grind
      have e5 : 0 < (-(be g) * be f)⁻¹ := Rat.inv_pos.mpr (Rat.mul_pos (by grind) b1)
      have e6 : 0 ≤ (be g * al f - be f * al g) * (-(be g) * be f)⁻¹ := Rat.mul_nonneg (by grind) (Rat.le_of_lt e5)
      grind
    obtain ⟨s, s1, s2⟩ := between ((T.filter fun f => decide (be f < 0)).map fun f => -(al f) / be f) ((T.filter fun f => decide (0 < be f)).map fun f => -(al f) / be f) (by
      intro l hl u hu
      obtain ⟨g, hg, rfl⟩ := List.mem_map.mp hl
      obtain ⟨f, hf, rfl⟩ := List.mem_map.mp hu
      have hg := List.mem_filter.mp hg
      have hf := List.mem_filter.mp hf
      exact cr f hf.1 g hg.1 (by simpa using hf.2) (by simpa using hg.2))
    refine ⟨(c1 - s * c2, c2 + s * c1), fun f hf => ?_, ?_⟩
    · have ev : valueAt f (c1 - s * c2, c2 + s * c1) = al f + s * be f := by unfold valueAt; simp only [al, be]; grind
      rw [ev]
      by_cases b1 : 0 < be f
      · have := s2 _ (List.mem_map_of_mem (List.mem_filter.mpr ⟨hf, by simpa using b1⟩))
        have e : 0 ≤ (-(al f) / be f - s) * be f := Rat.mul_nonneg (by grind) (Rat.le_of_lt b1)
        have : (-(al f) / be f) * be f = -(al f) := by grind
        grind
      · by_cases b2 : be f < 0
        · have := s1 _ (List.mem_map_of_mem (List.mem_filter.mpr ⟨hf, by simpa using b2⟩))
          have e : 0 ≤ (s - -(al f) / be f) * (-(be f)) := Rat.mul_nonneg (by grind) (by grind)
          have : (-(al f) / be f) * be f = -(al f) := by grind
          grind
        · have b0 : be f = 0 := by grind
          have : ¬ 0 < al f := fun z => h1 ⟨f, hf, by simp only [be] at b0; grind, z⟩
          rw [b0]
          grind
    · have : c1 * (c1 - s * c2) + c2 * (c2 + s * c1) = c1 * c1 + c2 * c2 := by grind
      show 0 < c1 * (c1 - s * c2) + c2 * (c2 + s * c1)
      rw [this]
      exact hS
/-- a direction that is greatest at z comes from what is tight there -/
theorem dual {hs : List Pl} {c1 c2 : Rat} (hc : c1 ≠ 0 ∨ c2 ≠ 0) {z : Ray} (hz : In hs z) (hm : ∀ y, In hs y → val c1 c2 y ≤ val c1 c2 z) :
    (∃ f ∈ hs, valueAt f z = (f.r : Rat) ∧ (f.p : Rat) * c2 - (f.q : Rat) * c1 = 0 ∧ 0 < (f.p : Rat) * c1 + (f.q : Rat) * c2) ∨
    (∃ f ∈ hs, ∃ g ∈ hs, ∃ w1 w2 : Rat, valueAt f z = (f.r : Rat) ∧ valueAt g z = (g.r : Rat) ∧ 0 < w1 ∧ 0 < w2 ∧ c1 = w1 * (f.p : Rat) + w2 * (g.p : Rat) ∧ c2 = w1 * (f.q : Rat) + w2 * (g.q : Rat) ∧ (f.p : Rat) * (g.q : Rat) - (f.q : Rat) * (g.p : Rat) ≠ 0) := by
  have mf : ∀ {f}, f ∈ hs.filter (fun f => decide (valueAt f z = (f.r : Rat))) → f ∈ hs ∧ valueAt f z = (f.r : Rat) := fun h => by
    have := List.mem_filter.mp h
    exact ⟨this.1, by simpa using this.2⟩
  rcases cone (hs.filter fun f => decide (valueAt f z = (f.r : Rat))) c1 c2 hc with ⟨f, hf, h⟩ | ⟨f, hf, g, hg, w1, w2, h⟩ | ⟨d, h1, h2⟩
  · exact .inl ⟨f, (mf hf).1, (mf hf).2, h⟩
  · exact .inr ⟨f, (mf hf).1, g, (mf hg).1, w1, w2, (mf hf).2, (mf hg).2, h⟩
  · exfalso
    obtain ⟨t, t0, t1⟩ := step_ok (d := d) hz fun h hh e => h1 h (List.mem_filter.mpr ⟨hh, by simpa using e⟩)
    have := hm _ (t1 t (Rat.le_of_lt t0) Rat.le_refl)
    have e : val c1 c2 (z.1 + t * d.1, z.2 + t * d.2) = val c1 c2 z + t * (c1 * d.1 + c2 * d.2) := by unfold val; grind
    have := Rat.mul_pos t0 h2
    grind
end RT
end
section
set_option linter.all false
/-! P2: the program's bounds and emptiness are those of the region. -/
namespace RT
open PySem
theorem pick_le {xs : List (Option Rat)} : ∀ {c : Option Rat}, (∀ x, c = some x → ∃ b, xs.foldl pick c = some b ∧ b ≤ x) ∧ ∀ x, some x ∈ xs → ∃ b, xs.foldl pick c = some b ∧ b ≤ x := by
  induction xs with
  | nil => intro c; exact ⟨fun x h => ⟨x, h, Rat.le_refl⟩, fun x h => by cases h⟩
  | cons y xs ih =>
    intro c
    have h := @ih (pick c y)
    have hc : ∀ x, c = some x → ∃ b, pick c y = some b ∧ b ≤ x := fun x e => by
      subst e
      cases y with
      | none => exact ⟨x, rfl, Rat.le_refl⟩
      | some y =>
        by_cases hlt : y < x
        · exact ⟨y, if_pos hlt, Rat.le_of_lt hlt⟩
        · exact ⟨x, if_neg hlt, Rat.le_refl⟩
    have hy : ∀ x, y = some x → ∃ b, pick c y = some b ∧ b ≤ x := fun x e => by
      subst e
      cases c with
      | none => exact ⟨x, rfl, Rat.le_refl⟩
      | some z =>
        by_cases hlt : x < z
        · exact ⟨x, if_pos hlt, Rat.le_refl⟩
        · exact ⟨z, if_neg hlt, by grind⟩
    refine ⟨fun x e => ?_, fun x e => ?_⟩
    · obtain ⟨b, h1, h2⟩ := hc x e
      obtain ⟨b', h3, h4⟩ := h.1 b h1
      exact ⟨b', h3, Rat.le_trans h4 h2⟩
    · rcases List.mem_cons.mp e with e | e
      · obtain ⟨b, h1, h2⟩ := hy x e.symm
        obtain ⟨b', h3, h4⟩ := h.1 b h1
        exact ⟨b', h3, Rat.le_trans h4 h2⟩
      · exact h.2 x e
theorem leastO_le {xs : List (Option Rat)} {x : Rat} (h : some x ∈ xs) : ∃ b, leastO xs = some b ∧ b ≤ x := pick_le.2 x h
theorem leastO_is {xs : List (Option Rat)} {u : Rat} (h1 : some u ∈ xs) (h2 : ∀ x, some x ∈ xs → u ≤ x) : leastO xs = some u := by
  obtain ⟨b, e, hb⟩ := leastO_le h1
  have := h2 b (least_mem e)
  rw [e]
  congr 1
  grind
theorem pairsFrom_in {α β : Type} {f : α → α → β} {x y : α} : ∀ {xs : List α}, x ∈ xs → y ∈ xs → x ≠ y → f x y ∈ pairsFrom f xs ∨ f y x ∈ pairsFrom f xs
  | [], h, _, _ => by cases h
  | a :: xs, hx, hy, n => by
    unfold pairsFrom
    rcases List.mem_cons.mp hx with rfl | hx'
    · rcases List.mem_cons.mp hy with rfl | hy'
      · exact absurd rfl n
      · exact .inl (List.mem_append_left _ (List.mem_map_of_mem hy'))
    · rcases List.mem_cons.mp hy with rfl | hy'
      · exact .inr (List.mem_append_left _ (List.mem_map_of_mem hx'))
      · exact (pairsFrom_in hx' hy' n).imp (List.mem_append_right _) (List.mem_append_right _)
theorem det_cast (f g : Pl) : (det f g : Rat) = (f.p : Rat) * (g.q : Rat) - (f.q : Rat) * (g.p : Rat) := by
  unfold det; rw [Rat.intCast_sub, Rat.intCast_mul, Rat.intCast_mul]
theorem prod_cast (f g : Pl) : (prod f g : Rat) = (f.p : Rat) * (g.p : Rat) + (f.q : Rat) * (g.q : Rat) := by
  unfold prod; rw [Rat.intCast_add, Rat.intCast_mul, Rat.intCast_mul]
theorem cast0 {a : Int} : (a : Rat) = 0 ↔ a = 0 := by
  constructor
  · intro h
    have := congrArg Rat.num h
    simpa using this
  · intro h; subst h; rfl
theorem cast_pos {a : Int} : (0 : Rat) < (a : Rat) ↔ 0 < a := by
  have := Rat.intCast_lt_intCast (a := 0) (b := a)
  simpa using this
theorem mul_le {w x y : Rat} (hw : 0 ≤ w) (h : x ≤ y) : w * x ≤ w * y := by
  have := Rat.mul_nonneg hw (show 0 ≤ y - x by grind)
  grind
theorem div_pos {x y : Rat} (hx : 0 < x) (hy : 0 < y) : 0 < x / y := by rw [Rat.div_def]; exact Rat.mul_pos hx (Rat.inv_pos.mpr hy)
theorem single_le {h : Pl} {p q b : Rat} {z : Ray} (e : single h p q = some b) (hz : valueAt h z ≤ (h.r : Rat)) : val p q z ≤ b := by
  unfold single at e
  split at e
  · cases e
  · rename_i hc
    have c1 : (h.p : Rat) * q - (h.q : Rat) * p = 0 := by grind
    have c2 : 0 < (h.p : Rat) * p + (h.q : Rat) * q := by grind
    cases e
    have hnz : (h.p : Rat) ≠ 0 ∨ (h.q : Rat) ≠ 0 := by
      by_cases z : (h.p : Rat) = 0
      · right; intro z2; rw [z, z2] at c2; grind
      · exact .inl z
    have hs := sq_pos hnz
    rw [prod_cast]
    have hw := Rat.le_of_lt (div_pos c2 hs)
    have := mul_le hw hz
    have e2 : val p q z = ((h.p : Rat) * p + (h.q : Rat) * q) / ((h.p : Rat) * (h.p : Rat) + (h.q : Rat) * (h.q : Rat)) * valueAt h z := by
      unfold val valueAt
      have hs0 : (h.p : Rat) * (h.p : Rat) + (h.q : Rat) * (h.q : Rat) ≠ 0 := by grind
      have k1 : p * ((h.p : Rat) * (h.p : Rat) + (h.q : Rat) * (h.q : Rat)) = ((h.p : Rat) * p + (h.q : Rat) * q) * (h.p : Rat) := by grind
      have k2 : q * ((h.p : Rat) * (h.p : Rat) + (h.q : Rat) * (h.q : Rat)) = ((h.p : Rat) * p + (h.q : Rat) * q) * (h.q : Rat) := by grind
      grind
    rw [e2]; exact this
theorem pairB_le {f g : Pl} {p q b : Rat} {z : Ray} (e : pairB p q f g = some b) (hf : valueAt f z ≤ (f.r : Rat)) (hg : valueAt g z ≤ (g.r : Rat)) : val p q z ≤ b := by
  unfold pairB pairWs at e
  by_cases hd : det f g = 0
  · rw [if_pos hd] at e; cases e
  · rw [if_neg hd] at e
    simp only at e
    have hdc : (det f g : Rat) ≠ 0 := fun z => hd (cast0.mp z)
    rw [det_cast] at e hdc
    generalize hw1 : (p * (g.q : Rat) - q * (g.p : Rat)) / ((f.p : Rat) * (g.q : Rat) - (f.q : Rat) * (g.p : Rat)) = w1 at e
    generalize hw2 : (q * (f.p : Rat) - p * (f.q : Rat)) / ((f.p : Rat) * (g.q : Rat) - (f.q : Rat) * (g.p : Rat)) = w2 at e
    split at e
    · cases e
    · rename_i w hw
      split at hw
      · cases hw
      · rename_i hn
        cases hw
        cases e
        have a1 := mul_le (w := w1) (by grind) hf
        have a2 := mul_le (w := w2) (by grind) hg
        have e2 : val p q z = w1 * valueAt f z + w2 * valueAt g z := by
          unfold val valueAt
          have k1 : p = w1 * (f.p : Rat) + w2 * (g.p : Rat) := by rw [← hw1, ← hw2]; grind
          have k2 : q = w1 * (f.q : Rat) + w2 * (g.q : Rat) := by rw [← hw1, ← hw2]; grind
          grind
        rw [e2]
        show w1 * valueAt f z + w2 * valueAt g z ≤ w1 * (f.r : Rat) + w2 * (g.r : Rat)
        grind
def cands (hs : List Pl) (p q : Rat) : List (Option Rat) := (hs.map fun h => single h p q) ++ pairsFrom (pairB p q) hs
theorem cands_le {hs : List Pl} {p q b : Rat} {z : Ray} (e : some b ∈ cands hs p q) (hz : In hs z) : val p q z ≤ b := by
  rcases List.mem_append.mp e with e | e
  · obtain ⟨h, hh, e⟩ := List.mem_map.mp e
    exact single_le e (hz h hh)
  · obtain ⟨f, g, hf, hg, e⟩ := mem_pairsFrom e
    exact pairB_le e.symm (hz f hf) (hz g hg)
theorem pairB_is {f g : Pl} {p q w1 w2 : Rat} {z : Ray} (h1 : 0 < w1) (h2 : 0 < w2) (e1 : p = w1 * (f.p : Rat) + w2 * (g.p : Rat)) (e2 : q = w1 * (f.q : Rat) + w2 * (g.q : Rat)) (hd : (f.p : Rat) * (g.q : Rat) - (f.q : Rat) * (g.p : Rat) ≠ 0) (hf : valueAt f z = (f.r : Rat)) (hg : valueAt g z = (g.r : Rat)) : pairB p q f g = some (val p q z) := by
  unfold pairB pairWs
  have hd' : det f g ≠ 0 := fun z => hd (by rw [← det_cast, z]; rfl)
  rw [if_neg hd']
  simp only
  rw [det_cast]
  have k1 : (p * (g.q : Rat) - q * (g.p : Rat)) / ((f.p : Rat) * (g.q : Rat) - (f.q : Rat) * (g.p : Rat)) = w1 := by grind
  have k2 : (q * (f.p : Rat) - p * (f.q : Rat)) / ((f.p : Rat) * (g.q : Rat) - (f.q : Rat) * (g.p : Rat)) = w2 := by grind
  rw [k1, k2, if_neg (by grind)]
  show some (w1 * (f.r : Rat) + w2 * (g.r : Rat)) = _
  rw [← hf, ← hg]
  unfold val valueAt
  congr 1
  grind
theorem supr_some {hs : List Pl} {p q : Rat} (h0 : p ≠ 0 ∨ q ≠ 0) {z : Ray} (hz : In hs z) (hm : ∀ y, In hs y → val p q y ≤ val p q z) : supr hs p q = some (val p q z) := by
  unfold supr
  rw [if_neg (by grind)]
  refine leastO_is ?_ fun x hx => cands_le hx hz
  rcases dual h0 hz hm with ⟨f, hf, t, c1, c2⟩ | ⟨f, hf, g, hg, w1, w2, t1, t2, a1, a2, e1, e2, hd⟩
  · refine List.mem_append_left _ (List.mem_map.mpr ⟨f, hf, ?_⟩)
    unfold single
    rw [if_neg (by grind), prod_cast, ← t]
    have hnz : (f.p : Rat) ≠ 0 ∨ (f.q : Rat) ≠ 0 := by
      by_cases z : (f.p : Rat) = 0
      · right; intro z2; rw [z, z2] at c2; grind
      · exact .inl z
    have hs := sq_pos hnz
    have hs0 : (f.p : Rat) * (f.p : Rat) + (f.q : Rat) * (f.q : Rat) ≠ 0 := by grind
    have k1 : p * ((f.p : Rat) * (f.p : Rat) + (f.q : Rat) * (f.q : Rat)) = ((f.p : Rat) * p + (f.q : Rat) * q) * (f.p : Rat) := by grind
    have k2 : q * ((f.p : Rat) * (f.p : Rat) + (f.q : Rat) * (f.q : Rat)) = ((f.p : Rat) * p + (f.q : Rat) * q) * (f.q : Rat) := by grind
    congr 1
    unfold val valueAt
    grind
  · refine List.mem_append_right _ ?_
    have n : f ≠ g := fun z => by subst z; grind
    rcases pairsFrom_in (f := pairB p q) hf hg n with h | h
    · rw [pairB_is a1 a2 e1 e2 hd t1 t2] at h; exact h
    · rw [pairB_is a2 a1 (by grind) (by grind) (by grind) t2 t1] at h; exact h
theorem supr_none {hs : List Pl} {p q : Rat} (h0 : p ≠ 0 ∨ q ≠ 0) (hu : ∀ N, ∃ z, In hs z ∧ N < val p q z) : supr hs p q = none := by
  unfold supr
  rw [if_neg (by grind)]
  cases e : leastO (cands hs p q) with
  | none => exact e
  | some b =>
    obtain ⟨z, hz, hN⟩ := hu b
    have := cands_le (least_mem e) hz
    grind
end RT
end
section
set_option linter.all false
/-! P3: when the program calls a region empty. -/
namespace RT
open PySem
/-- two, three half planes that leave no ray -/
def C2 (f g : Pl) : Prop := det f g = 0 ∧ prod f g < 0 ∧ size1 g * f.r + size1 f * g.r < 0
def C3 (f g h : Pl) : Prop :=
  (0 < det g h ∧ 0 < det h f ∧ 0 < det f g ∧ det g h * f.r + det h f * g.r + det f g * h.r < 0) ∨
  (det g h < 0 ∧ det h f < 0 ∧ det f g < 0 ∧ 0 < det g h * f.r + det h f * g.r + det f g * h.r)
theorem det_swap (f g : Pl) : det g f = -(det f g) := by unfold det; rw [Int.mul_comm g.p, Int.mul_comm g.q]; omega
theorem C2.symm {f g : Pl} (h : C2 f g) : C2 g f := by
  obtain ⟨h1, h2, h3⟩ := h
  refine ⟨by rw [det_swap]; omega, ?_, by omega⟩
  have : prod g f = prod f g := by unfold prod; rw [Int.mul_comm g.p, Int.mul_comm g.q]
  omega
theorem C3.s1 {f g h : Pl} (c : C3 f g h) : C3 g f h := by
  unfold C3 at *
  rw [det_swap h f, det_swap g h, det_swap f g]
  simp only [Int.neg_mul]
  rcases c with c | c
  · right; omega
  · left; omega
theorem C3.s2 {f g h : Pl} (c : C3 f g h) : C3 f h g := by
  unfold C3 at *
  rw [det_swap g h, det_swap f g, det_swap h f]
  simp only [Int.neg_mul]
  rcases c with c | c
  · right; omega
  · left; omega
theorem prod_self (f : Pl) : 0 ≤ prod f f := by
  unfold prod
  have h1 : 0 ≤ f.p * f.p := by rw [← Int.natAbs_mul_self (a := f.p)]; omega
  have h2 : 0 ≤ f.q * f.q := by rw [← Int.natAbs_mul_self (a := f.q)]; omega
  omega
theorem det_self (f : Pl) : det f f = 0 := by unfold det; rw [Int.mul_comm]; omega
theorem sz1_pos {f : Pl} (h : NZ f) : 0 < size1 f := by unfold size1; unfold NZ at h; omega
/-- opposite directions -/
theorem opp_sum {f g : Pl} (h1 : det f g = 0) (h2 : prod f g < 0) : size1 g * f.p + size1 f * g.p = 0 ∧ size1 g * f.q + size1 f * g.q = 0 := by
  have h1' : f.p * g.q = f.q * g.p := by unfold det at h1; omega
  have sgn_abs : ∀ a : Int, (a.natAbs : Int) = a ∨ (a.natAbs : Int) = -a := fun a => by omega
  -- the products of parts are not positive
  have e1 : f.p * g.p * (f.q * g.q) = f.p * g.q * (f.q * g.p) := by
    rw [Int.mul_assoc, Int.mul_assoc, Int.mul_left_comm g.p, Int.mul_comm g.p g.q, Int.mul_left_comm f.q g.q]
  have nn : 0 ≤ f.p * g.p * (f.q * g.q) := by rw [e1, h1']; rw [← Int.natAbs_mul_self (a := f.q * g.p)]; omega
  have hp : f.p * g.p ≤ 0 ∧ f.q * g.q ≤ 0 := by
    unfold prod at h2
    refine ⟨?_, ?_⟩
    · apply Int.not_lt.mp
      intro z
      have z2 : f.q * g.q < 0 := by omega
      have := Int.mul_neg_of_pos_of_neg z z2
      omega
    · apply Int.not_lt.mp
      intro z
      have z2 : f.p * g.p < 0 := by omega
      have := Int.mul_neg_of_neg_of_pos z2 z
      omega
  have key : ∀ a b : Int, a * b ≤ 0 → (b.natAbs : Int) * a = -((a.natAbs : Int) * b) := fun a b h => by
    rcases Int.lt_trichotomy a 0 with ha | ha | ha
    · have hb : 0 ≤ b := by
        apply Int.not_lt.mp; intro z
        have := Int.mul_pos_of_neg_of_neg ha z
        omega
      rw [show (b.natAbs : Int) = b by omega, show (a.natAbs : Int) = -a by omega, Int.neg_mul, Int.neg_neg, Int.mul_comm]
    · subst ha; simp
    · have hb : b ≤ 0 := by
        apply Int.not_lt.mp; intro z
        have := Int.mul_pos ha z
        omega
      rw [show (b.natAbs : Int) = -b by omega, show (a.natAbs : Int) = a by omega, Int.neg_mul, Int.mul_comm]
  have cr : ∀ a b c d : Int, a * d = b * c → (d.natAbs : Int) * a = (d.natAbs : Int) * a := fun _ _ _ _ _ => rfl
  have k1 := key f.p g.p hp.1
  have k2 := key f.q g.q hp.2
  -- |g.q| f.p = -|f.q| g.p
  have mix : ∀ a b c d : Int, a * d = b * c → a * c ≤ 0 → b * d ≤ 0 → (d.natAbs : Int) * a = -((b.natAbs : Int) * c) := fun a b c d e z1 z2 => by
    rcases Int.lt_trichotomy d 0 with hd | hd | hd
    · have hb : 0 ≤ b := by
        apply Int.not_lt.mp; intro y
        have := Int.mul_pos_of_neg_of_neg y hd
        omega
      rw [show (d.natAbs : Int) = -d by omega, show (b.natAbs : Int) = b by omega, ← e, Int.neg_mul, Int.mul_comm]
    · subst hd
      have e' : b * c = 0 := by rw [← e]; simp
      have : (b.natAbs : Int) * c = 0 := by
        rcases sgn_abs b with y | y
        · rw [y, e']
        · rw [y, Int.neg_mul, e']; rfl
      rw [this]; simp
    · have hb : b ≤ 0 := by
        apply Int.not_lt.mp; intro y
        have := Int.mul_pos y hd
        omega
      rw [show (d.natAbs : Int) = d by omega, show (b.natAbs : Int) = -b by omega, Int.neg_mul, Int.neg_neg, ← e, Int.mul_comm]
  have m1 := mix f.p f.q g.p g.q h1' hp.1 hp.2
  have m2 := mix f.q f.p g.q g.p h1'.symm hp.2 hp.1
  unfold size1
  rw [Int.add_mul, Int.add_mul, Int.add_mul, Int.add_mul]
  omega
/-- no ray lies in both -/
theorem C2.no {f g : Pl} (c : C2 f g) {z : Ray} (hf : valueAt f z ≤ (f.r : Rat)) (hg : valueAt g z ≤ (g.r : Rat)) : False := by
  obtain ⟨h1, h2, h3⟩ := c
  obtain ⟨o1, o2⟩ := opp_sum h1 h2
  have s1 : (0 : Rat) ≤ (size1 g : Rat) := by rw [show (0 : Rat) = ((0 : Int) : Rat) from rfl, Rat.intCast_le_intCast]; unfold size1; omega
  have s2 : (0 : Rat) ≤ (size1 f : Rat) := by rw [show (0 : Rat) = ((0 : Int) : Rat) from rfl, Rat.intCast_le_intCast]; unfold size1; omega
  have a1 := mul_le s1 hf
  have a2 := mul_le s2 hg
  have o1' : (size1 g : Rat) * (f.p : Rat) + (size1 f : Rat) * (g.p : Rat) = 0 := by rw [← Rat.intCast_mul, ← Rat.intCast_mul, ← Rat.intCast_add, o1]; rfl
  have o2' : (size1 g : Rat) * (f.q : Rat) + (size1 f : Rat) * (g.q : Rat) = 0 := by rw [← Rat.intCast_mul, ← Rat.intCast_mul, ← Rat.intCast_add, o2]; rfl
  have h3' : (size1 g : Rat) * (f.r : Rat) + (size1 f : Rat) * (g.r : Rat) < 0 := by
    rw [← Rat.intCast_mul, ← Rat.intCast_mul, ← Rat.intCast_add, show (0 : Rat) = ((0 : Int) : Rat) from rfl, Rat.intCast_lt_intCast]; exact h3
  unfold valueAt at a1 a2
  have e : (size1 g : Rat) * ((f.p : Rat) * z.1 + (f.q : Rat) * z.2) + (size1 f : Rat) * ((g.p : Rat) * z.1 + (g.q : Rat) * z.2) = ((size1 g : Rat) * (f.p : Rat) + (size1 f : Rat) * (g.p : Rat)) * z.1 + ((size1 g : Rat) * (f.q : Rat) + (size1 f : Rat) * (g.q : Rat)) * z.2 := by grind
  rw [o1', o2'] at e
  clear o1 o2 h1 h2 h3
  grind
theorem C3.no {f g h : Pl} (c : C3 f g h) {z : Ray} (hf : valueAt f z ≤ (f.r : Rat)) (hg : valueAt g z ≤ (g.r : Rat)) (hh : valueAt h z ≤ (h.r : Rat)) : False := by
  have key : ∀ a b c : Rat, 0 < a → 0 < b → 0 < c → a * (f.p : Rat) + b * (g.p : Rat) + c * (h.p : Rat) = 0 → a * (f.q : Rat) + b * (g.q : Rat) + c * (h.q : Rat) = 0 → a * (f.r : Rat) + b * (g.r : Rat) + c * (h.r : Rat) < 0 → False := fun a b c ha hb hc e1 e2 e3 => by
    have a1 := mul_le (Rat.le_of_lt ha) hf
    have a2 := mul_le (Rat.le_of_lt hb) hg
    have a3 := mul_le (Rat.le_of_lt hc) hh
    unfold valueAt at a1 a2 a3
    have e : a * ((f.p : Rat) * z.1 + (f.q : Rat) * z.2) + b * ((g.p : Rat) * z.1 + (g.q : Rat) * z.2) + c * ((h.p : Rat) * z.1 + (h.q : Rat) * z.2) = (a * (f.p : Rat) + b * (g.p : Rat) + c * (h.p : Rat)) * z.1 + (a * (f.q : Rat) + b * (g.q : Rat) + c * (h.q : Rat)) * z.2 := by grind
    rw [e1, e2] at e
    clear e1 e2
    grind
  have d1 := det_cast g h
  have d2 := det_cast h f
  have d3 := det_cast f g
  rcases c with ⟨h1, h2, h3, h4⟩ | ⟨h1, h2, h3, h4⟩
  · refine key (det g h) (det h f) (det f g) (cast_pos.mpr h1) (cast_pos.mpr h2) (cast_pos.mpr h3) (by rw [d1, d2, d3]; grind) (by rw [d1, d2, d3]; grind) ?_
    rw [← Rat.intCast_mul, ← Rat.intCast_mul, ← Rat.intCast_mul, ← Rat.intCast_add, ← Rat.intCast_add, show (0 : Rat) = ((0 : Int) : Rat) from rfl, Rat.intCast_lt_intCast]; exact h4
  · have n : ∀ {x : Int}, x < 0 → (0 : Rat) < -(x : Rat) := fun {x} hx => by rw [← Rat.intCast_neg]; exact cast_pos.mpr (by omega)
    refine key (-(det g h : Rat)) (-(det h f : Rat)) (-(det f g : Rat)) (n h1) (n h2) (n h3) (by rw [d1, d2, d3]; grind) (by rw [d1, d2, d3]; grind) ?_
    have := cast_pos.mpr h4
    rw [Rat.intCast_add, Rat.intCast_add, Rat.intCast_mul, Rat.intCast_mul, Rat.intCast_mul] at this
    grind
def Cert (hs : List Pl) : Prop := (∃ f ∈ hs, ∃ g ∈ hs, C2 f g) ∨ ∃ f ∈ hs, ∃ g ∈ hs, ∃ h ∈ hs, C3 f g h
theorem Cert.no {hs : List Pl} (c : Cert hs) {z : Ray} (hz : In hs z) : False := by
  rcases c with ⟨f, hf, g, hg, c⟩ | ⟨f, hf, g, hg, h, hh, c⟩
  · exact c.no (hz f hf) (hz g hg)
  · exact c.no (hz f hf) (hz g hg) (hz h hh)
/-! ### what is_empty looks at -/
theorem oppW_iff {f g : Pl} : (∃ w1 w2, oppW f g = some [w1, w2] ∧ f.r * w1 + g.r * w2 < 0) ↔ C2 f g := by
  unfold oppW C2
  by_cases hc : det f g ≠ 0 ∨ prod f g ≥ 0
  · rw [if_pos hc]
    constructor
    · rintro ⟨_, _, h, _⟩; cases h
    · rintro ⟨h1, h2, _⟩; omega
  · rw [if_neg hc]
    have h1 : det f g = 0 := by omega
    have h2 : prod f g < 0 := by omega
    have hs : size1 g ≠ 0 := by
      intro z
      have e1 : g.p = 0 := by unfold size1 at z; omega
      have e2 : g.q = 0 := by unfold size1 at z; omega
      unfold prod at h2
      rw [e1, e2] at h2
      simp at h2
    have hd := gcd_pos (n := size1 f) hs
    rw [Int.gcd_comm] at hd
    have v1 := Int.gcd_dvd_left (size1 g) (size1 f)
    have v2 := Int.gcd_dvd_right (size1 g) (size1 f)
    simp only
    generalize Int.gcd (size1 g) (size1 f) = d at hd v1 v2 ⊢
    obtain ⟨x, hx⟩ := v1
    obtain ⟨y, hy⟩ := v2
    have ex : size1 g / (d : Int) = x := by rw [hx]; exact Int.mul_ediv_cancel_left _ (by omega)
    have ey : size1 f / (d : Int) = y := by rw [hy]; exact Int.mul_ediv_cancel_left _ (by omega)
    have es : size1 g * f.r + size1 f * g.r = d * (f.r * x + g.r * y) := by rw [hx, hy, Int.mul_add, Int.mul_comm f.r, Int.mul_comm g.r, Int.mul_assoc, Int.mul_assoc]
    have dp : (0 : Int) < d := by omega
    have sg : d * (f.r * x + g.r * y) < 0 ↔ f.r * x + g.r * y < 0 := by
      constructor
      · intro h
        apply Int.not_le.mp
        intro z
        have := Int.mul_nonneg (Int.le_of_lt dp) z
        omega
      · intro h; exact Int.mul_neg_of_pos_of_neg dp h
    rw [es, sg, ex, ey]
    constructor
    · rintro ⟨w1, w2, h, h3⟩
      cases h
      exact ⟨h1, h2, h3⟩
    · rintro ⟨_, _, h3⟩
      exact ⟨x, y, rfl, h3⟩
theorem trip3 {a b c : Int} {fr gr hr : Int} : (∃ w, (if [a, b, c].any (fun x => decide (x ≤ 0)) then none else some ([a, b, c].map fun x => x / igcd3 a b c)) = some w ∧ ∃ w1 w2 w3, w = [w1, w2, w3] ∧ fr * w1 + gr * w2 + hr * w3 < 0) ↔ (0 < a ∧ 0 < b ∧ 0 < c ∧ a * fr + b * gr + c * hr < 0) := by
  by_cases hc : 0 < a ∧ 0 < b ∧ 0 < c
  · rw [if_neg (by simp; omega)]
    have hg : 0 < igcd3 a b c := by
      unfold igcd3
      have := gcd_pos (n := (Int.gcd a b : Nat)) (d := c) (by omega)
      omega
    have va : igcd3 a b c ∣ a := Int.dvd_trans (Int.gcd_dvd_left _ _) (Int.gcd_dvd_left _ _)
    have vb : igcd3 a b c ∣ b := Int.dvd_trans (Int.gcd_dvd_left _ _) (Int.gcd_dvd_right _ _)
    have vc : igcd3 a b c ∣ c := Int.gcd_dvd_right _ _
    generalize igcd3 a b c = d at hg va vb vc ⊢
    obtain ⟨x, hx⟩ := va
    obtain ⟨y, hy⟩ := vb
    obtain ⟨z, hz⟩ := vc
    have ex : a / d = x := by rw [hx]; exact Int.mul_ediv_cancel_left _ (by omega)
    have ey : b / d = y := by rw [hy]; exact Int.mul_ediv_cancel_left _ (by omega)
    have ez : c / d = z := by rw [hz]; exact Int.mul_ediv_cancel_left _ (by omega)
    have es : a * fr + b * gr + c * hr = d * (fr * x + gr * y + hr * z) := by
      rw [hx, hy, hz, Int.mul_add, Int.mul_add, Int.mul_comm fr, Int.mul_comm gr, Int.mul_comm hr, Int.mul_assoc, Int.mul_assoc, Int.mul_assoc]
    have sg : d * (fr * x + gr * y + hr * z) < 0 ↔ fr * x + gr * y + hr * z < 0 := by
      constructor
      · intro h
        apply Int.not_le.mp
        intro z
        have := Int.mul_nonneg (Int.le_of_lt hg) z
        omega
      · intro h; exact Int.mul_neg_of_pos_of_neg hg h
    rw [es, sg]
    simp only [List.map_cons, List.map_nil, ex, ey, ez]
    constructor
    · rintro ⟨w, e, w1, w2, w3, h, h3⟩
      cases e
      cases h
      exact ⟨hc.1, hc.2.1, hc.2.2, h3⟩
    · rintro ⟨_, _, _, h3⟩
      exact ⟨_, rfl, x, y, z, rfl, h3⟩
  · rw [if_pos (by simp; omega)]
    constructor
    · rintro ⟨_, h, _⟩; cases h
    · rintro ⟨h1, h2, h3, _⟩; exact absurd ⟨h1, h2, h3⟩ hc
theorem tripW_iff {f g h : Pl} : (∃ w, tripW f g h = some w ∧ ∃ w1 w2 w3, w = [w1, w2, w3] ∧ f.r * w1 + g.r * w2 + h.r * w3 < 0) ↔ C3 f g h := by
  unfold C3
  by_cases ha : det g h < 0
  · have e : tripL f g h = [-(det g h), -(det h f), -(det f g)] := if_pos ha
    unfold tripW
    rw [e]
    refine Iff.trans trip3 ?_
    simp only [Int.neg_mul]
    omega
  · have e : tripL f g h = [det g h, det h f, det f g] := if_neg ha
    unfold tripW
    rw [e]
    refine Iff.trans trip3 ?_
    omega
theorem mem_zipIdx {α : Type} {xs : List α} {x : α} (h : x ∈ xs) : ∃ i, (x, i) ∈ xs.zipIdx := by
  obtain ⟨i, hi, e⟩ := List.getElem_of_mem h
  refine ⟨i, ?_⟩
  rw [List.mem_iff_getElem?]
  exact ⟨i, by rw [List.getElem?_zipIdx, List.getElem?_eq_getElem hi, e]; simp⟩
theorem triples_in {α β : Type} {f : α → α → α → β} {S : α → α → α → Prop} (s1 : ∀ x y z, S x y z → S y x z) (s2 : ∀ x y z, S x y z → S x z y) (ir : ∀ x y, ¬ S x x y) : ∀ {xs : List α} {x y z : α}, x ∈ xs → y ∈ xs → z ∈ xs → S x y z → ∃ x' y' z', x' ∈ xs ∧ y' ∈ xs ∧ z' ∈ xs ∧ S x' y' z' ∧ f x' y' z' ∈ triplesFrom f xs
  | [], _, _, _, h, _, _, _ => by cases h
  | a :: xs, x, y, z, hx, hy, hz, s => by
    have ir2 : ∀ x y, ¬ S x y y := fun x y h => ir y x (s2 _ _ _ (s1 _ _ _ h))
    have head : ∀ y z, y ∈ xs → z ∈ xs → S a y z → ∃ x' y' z', x' ∈ a :: xs ∧ y' ∈ a :: xs ∧ z' ∈ a :: xs ∧ S x' y' z' ∧ f x' y' z' ∈ triplesFrom f (a :: xs) := fun y z hy hz s => by
      have n : y ≠ z := fun e => ir2 a y (by rw [← e] at s; exact s)
      unfold triplesFrom
      rcases pairsFrom_in (f := f a) hy hz n with h | h
      · exact ⟨a, y, z, List.mem_cons_self, List.mem_cons_of_mem _ hy, List.mem_cons_of_mem _ hz, s, List.mem_append_left _ h⟩
      · exact ⟨a, z, y, List.mem_cons_self, List.mem_cons_of_mem _ hz, List.mem_cons_of_mem _ hy, s2 _ _ _ s, List.mem_append_left _ h⟩
    rcases List.mem_cons.mp hx with rfl | hx'
    · rcases List.mem_cons.mp hy with rfl | hy'
      · exact absurd s (ir _ _)
      · rcases List.mem_cons.mp hz with rfl | hz'
        · exact absurd (s1 _ _ _ s) (ir2 _ _)
        · exact head y z hy' hz' s
    · rcases List.mem_cons.mp hy with rfl | hy'
      · rcases List.mem_cons.mp hz with rfl | hz'
        · exact absurd s (ir2 _ _)
        · exact head x z hx' hz' (s1 _ _ _ s)
      · rcases List.mem_cons.mp hz with rfl | hz'
        · exact head x y hx' hy' (s1 _ _ _ (s2 _ _ _ s))
        · obtain ⟨x', y', z', a1, a2, a3, a4, a5⟩ := triples_in s1 s2 ir hx' hy' hz' s
          exact ⟨x', y', z', List.mem_cons_of_mem _ a1, List.mem_cons_of_mem _ a2, List.mem_cons_of_mem _ a3, a4, by unfold triplesFrom; exact List.mem_append_right _ a5⟩
theorem isEmp_iff {hs : List Pl} : isEmp hs = true ↔ ∃ o ∈ oppAll hs, ∃ w, o.2 = some w ∧ numberOf hs o.1 w < 0 := by
  unfold isEmp oppSets
  rw [List.any_eq_true]
  constructor
  · rintro ⟨x, hx, h⟩
    obtain ⟨o, ho, e⟩ := List.mem_filterMap.mp hx
    cases hw : o.2 with
    | none => rw [hw] at e; cases e
    | some w =>
      rw [hw] at e
      cases e
      exact ⟨o, ho, w, hw, by simpa using h⟩
  · rintro ⟨o, ho, w, hw, h⟩
    exact ⟨(o.1, w), List.mem_filterMap.mpr ⟨o, ho, by rw [hw]; rfl⟩, by simpa using h⟩
theorem number2 {hs : List Pl} {x y : Pl × Nat} (hx : x ∈ hs.zipIdx) (hy : y ∈ hs.zipIdx) (w1 w2 : Int) : numberOf hs [x.2, y.2] [w1, w2] = x.1.r * w1 + y.1.r * w2 := by
  have e1 := zipIdx_mem hx
  have e2 := zipIdx_mem hy
  unfold numberOf
  simp [List.getD_eq_getElem?_getD, e1, e2]
theorem number3 {hs : List Pl} {x y z : Pl × Nat} (hx : x ∈ hs.zipIdx) (hy : y ∈ hs.zipIdx) (hz : z ∈ hs.zipIdx) (w1 w2 w3 : Int) : numberOf hs [x.2, y.2, z.2] [w1, w2, w3] = x.1.r * w1 + y.1.r * w2 + z.1.r * w3 := by
  have e1 := zipIdx_mem hx
  have e2 := zipIdx_mem hy
  have e3 := zipIdx_mem hz
  unfold numberOf
  simp [List.getD_eq_getElem?_getD, e1, e2, e3]
  omega
theorem zipIdx_in {hs : List Pl} {x : Pl × Nat} (h : x ∈ hs.zipIdx) : x.1 ∈ hs := List.mem_of_getElem? (zipIdx_mem h)
theorem oppW_two {f g : Pl} {w : List Int} (h : oppW f g = some w) : ∃ w1 w2, w = [w1, w2] := by
  unfold oppW at h
  split at h
  · cases h
  · cases h; exact ⟨_, _, rfl⟩
theorem tripW_three {f g k : Pl} {w : List Int} (h : tripW f g k = some w) : ∃ w1 w2 w3, w = [w1, w2, w3] := by
  unfold tripW at h
  have : ∃ a b c, tripL f g k = [a, b, c] := by unfold tripL; simp only; split <;> exact ⟨_, _, _, rfl⟩
  obtain ⟨a, b, c, e⟩ := this
  rw [e] at h
  split at h
  · cases h
  · cases h; exact ⟨_, _, _, rfl⟩
theorem isEmp_cert {hs : List Pl} : isEmp hs = true ↔ Cert hs := by
  rw [isEmp_iff]
  constructor
  · rintro ⟨o, ho, w, hw, hn⟩
    unfold oppAll at ho
    rcases List.mem_append.mp ho with ho | ho
    · obtain ⟨x, y, hx, hy, rfl⟩ := mem_pairsFrom ho
      obtain ⟨w1, w2, rfl⟩ := oppW_two hw
      rw [show (opp2 x y).1 = [x.2, y.2] from rfl, number2 hx hy] at hn
      exact .inl ⟨x.1, zipIdx_in hx, y.1, zipIdx_in hy, oppW_iff.mp ⟨w1, w2, hw, hn⟩⟩
    · obtain ⟨x, y, z, hx, hy, hz, rfl⟩ := mem_triplesFrom ho
      obtain ⟨w1, w2, w3, rfl⟩ := tripW_three hw
      rw [show (opp3 x y z).1 = [x.2, y.2, z.2] from rfl, number3 hx hy hz] at hn
      exact .inr ⟨x.1, zipIdx_in hx, y.1, zipIdx_in hy, z.1, zipIdx_in hz, tripW_iff.mp ⟨_, hw, w1, w2, w3, rfl, hn⟩⟩
  · rintro (⟨f, hf, g, hg, c⟩ | ⟨f, hf, g, hg, k, hk, c⟩)
    · obtain ⟨i, hi⟩ := mem_zipIdx hf
      obtain ⟨j, hj⟩ := mem_zipIdx hg
      have n : (f, i) ≠ (g, j) := fun e => by
        cases e
        have := prod_self f
        have := c.2.1
        omega
      rcases pairsFrom_in (f := opp2) hi hj n with h | h
      · obtain ⟨w1, w2, e, hn⟩ := oppW_iff.mpr c
        exact ⟨_, List.mem_append_left _ h, [w1, w2], e, by rw [show (opp2 (f, i) (g, j)).1 = [((f, i) : Pl × Nat).2, ((g, j) : Pl × Nat).2] from rfl, number2 hi hj]; exact hn⟩
      · obtain ⟨w1, w2, e, hn⟩ := oppW_iff.mpr c.symm
        exact ⟨_, List.mem_append_left _ h, [w1, w2], e, by rw [show (opp2 (g, j) (f, i)).1 = [((g, j) : Pl × Nat).2, ((f, i) : Pl × Nat).2] from rfl, number2 hj hi]; exact hn⟩
    · obtain ⟨i, hi⟩ := mem_zipIdx hf
      obtain ⟨j, hj⟩ := mem_zipIdx hg
      obtain ⟨l, hl⟩ := mem_zipIdx hk
      obtain ⟨x, y, z, hx, hy, hz, s, h⟩ := triples_in (f := opp3) (S := fun (x y z : Pl × Nat) => C3 x.1 y.1 z.1) (fun _ _ _ h => h.s1) (fun _ _ _ h => h.s2) (fun x y h => by
        unfold C3 at h
        rw [det_self] at h
        omega) hi hj hl c
      obtain ⟨w, e, w1, w2, w3, rfl, hn⟩ := tripW_iff.mpr s
      exact ⟨_, List.mem_append_right _ h, _, e, by rw [show (opp3 x y z).1 = [x.2, y.2, z.2] from rfl, number3 hx hy hz]; exact hn⟩
end RT
end
section
set_option linter.all false
/-! P4: the law's bounds are those of the region; both sides agree on bounds, emptiness, kinds. -/
namespace RT
open PySem
theorem leastL_le {xs : List Rat} {x : Rat} (h : x ∈ xs) : ∃ b, leastL xs = some b ∧ b ≤ x := leastO_le (List.mem_map_of_mem h)
theorem pickG_ge {xs : List Rat} : ∀ {c : Option Rat}, (∀ x, c = some x → ∃ b, xs.foldl pickG c = some b ∧ x ≤ b) ∧ ∀ x ∈ xs, ∃ b, xs.foldl pickG c = some b ∧ x ≤ b := by
  induction xs with
  | nil => intro c; exact ⟨fun x h => ⟨x, h, Rat.le_refl⟩, fun x h => by cases h⟩
  | cons y xs ih =>
    intro c
    have h := @ih (pickG c y)
    have hc : (∀ x, c = some x → ∃ b, pickG c y = some b ∧ x ≤ b) ∧ ∃ b, pickG c y = some b ∧ y ≤ b := by
      cases c with
      | none => exact ⟨fun x e => (nomatch e), y, rfl, Rat.le_refl⟩
      | some z =>
        by_cases hlt : z < y
        · exact ⟨fun x e => by cases e; exact ⟨y, if_pos hlt, Rat.le_of_lt hlt⟩, y, if_pos hlt, Rat.le_refl⟩
        · exact ⟨fun x e => by cases e; exact ⟨z, if_neg hlt, Rat.le_refl⟩, z, if_neg hlt, by grind⟩
    refine ⟨fun x e => ?_, fun x e => ?_⟩
    · obtain ⟨b, h1, h2⟩ := hc.1 x e
      obtain ⟨b', h3, h4⟩ := h.1 b h1
      exact ⟨b', h3, Rat.le_trans h2 h4⟩
    · rcases List.mem_cons.mp e with rfl | e
      · obtain ⟨b, h1, h2⟩ := hc.2
        obtain ⟨b', h3, h4⟩ := h.1 b h1
        exact ⟨b', h3, Rat.le_trans h2 h4⟩
      · exact h.2 x e
theorem greatL_ge {xs : List Rat} {x : Rat} (h : x ∈ xs) : ∃ b, greatL xs = some b ∧ x ≤ b := pickG_ge.2 x h
theorem least_iff {xs : List Rat} {x : Rat} : (∀ u ∈ xs, x ≤ u) ↔ ∀ u, leastL xs = some u → x ≤ u := by
  constructor
  · intro h u e; exact h u (leastL_mem e)
  · intro h u hu
    obtain ⟨b, e, hb⟩ := leastL_le hu
    exact Rat.le_trans (h b e) hb
theorem great_iff {xs : List Rat} {x : Rat} : (∀ u ∈ xs, u ≤ x) ↔ ∀ u, greatL xs = some u → u ≤ x := by
  constructor
  · intro h u e; exact h u (greatL_mem e)
  · intro h u hu
    obtain ⟨b, e, hb⟩ := greatL_ge hu
    exact Rat.le_trans hb (h b e)
theorem num0 {x : Rat} : x.num = 0 ↔ x = 0 := Rat.num_eq_zero
/-- one value is taken out -/
theorem fm {ls : List Ln} {x : Rat} : (∃ y, ∀ l ∈ ls, l.a * x + l.b * y ≤ l.c) ↔ ∀ r ∈ lawRows ls, r.a * x ≤ r.c := by
  constructor
  · rintro ⟨y, h⟩ r hr
    rcases List.mem_append.mp hr with hr | hr
    · obtain ⟨h1, h2⟩ := List.mem_filter.mp hr
      have h0 : r.b = 0 := num0.mp (by simpa using h2)
      have := h r h1
      rw [h0] at this
      grind
    · obtain ⟨one, ho, hr⟩ := List.mem_flatMap.mp hr
      obtain ⟨ot, ht, rfl⟩ := List.mem_map.mp hr
      obtain ⟨o1, o2⟩ := List.mem_filter.mp ho
      obtain ⟨t1, t2⟩ := List.mem_filter.mp ht
      have o3 : 0 < one.b := num_pos.mp (by simpa using o2)
      have t3 : ot.b < 0 := num_neg.mp (by simpa using t2)
      have a1 := h one o1
      have a2 := h ot t1
      have hk : 0 < -(one.b / ot.b) := by
        have := div_pos o3 (show 0 < -ot.b by grind)
        grind
      have a3 := mul_le (Rat.le_of_lt hk) a2
      have e : -(one.b / ot.b) * (ot.b * y) = -(one.b * y) := by grind
      show (one.a + -(one.b / ot.b) * ot.a) * x ≤ one.c + -(one.b / ot.b) * ot.c
      grind
  · intro h
    obtain ⟨y, y1, y2⟩ := between ((lnN ls).map fun l => (l.c - l.a * x) / l.b) ((lnP ls).map fun l => (l.c - l.a * x) / l.b) (by
      intro a ha b hb
      obtain ⟨ot, ht, rfl⟩ := List.mem_map.mp ha
      obtain ⟨one, ho, rfl⟩ := List.mem_map.mp hb
      have hr := h (lawComb one ot) (List.mem_append_right _ (List.mem_flatMap.mpr ⟨one, ho, List.mem_map_of_mem ht⟩))
      obtain ⟨o1, o2⟩ := List.mem_filter.mp ho
      obtain ⟨t1, t2⟩ := List.mem_filter.mp ht
      have o3 : 0 < one.b := num_pos.mp (by simpa using o2)
      have t3 : ot.b < 0 := num_neg.mp (by simpa using t2)
      have hr' : (one.a + -(one.b / ot.b) * ot.a) * x ≤ one.c + -(one.b / ot.b) * ot.c := hr
      have e : (one.c - one.a * x) / one.b - (ot.c - ot.a * x) / ot.b = (one.c + -(one.b / ot.b) * ot.c - (one.a + -(one.b / ot.b) * ot.a) * x) * one.b⁻¹ := by grind
      have : 0 ≤ (one.c + -(one.b / ot.b) * ot.c - (one.a + -(one.b / ot.b) * ot.a) * x) * one.b⁻¹ := Rat.mul_nonneg (by grind) (Rat.le_of_lt (Rat.inv_pos.mpr o3))
      grind)
    refine ⟨y, fun l hl => ?_⟩
    by_cases b1 : 0 < l.b
    · have := y2 _ (List.mem_map_of_mem (List.mem_filter.mpr ⟨hl, by simpa using num_pos.mpr b1⟩))
      have := mul_le (Rat.le_of_lt b1) this
      have : l.b * ((l.c - l.a * x) / l.b) = l.c - l.a * x := by grind
      grind
    · by_cases b2 : l.b < 0
      · have := y1 _ (List.mem_map_of_mem (List.mem_filter.mpr ⟨hl, by simpa using num_neg.mpr b2⟩))
        have := mul_le (w := -l.b) (by grind) this
        have : -l.b * ((l.c - l.a * x) / l.b) = -(l.c - l.a * x) := by grind
        grind
      · have b0 : l.b = 0 := by grind
        have := h l (List.mem_append_left _ (List.mem_filter.mpr ⟨hl, by simpa using num0.mpr b0⟩))
        rw [b0]
        grind
theorem rows_iff {rs : List Ln} {x : Rat} (nb : rs.any lnBad = false) : (∀ r ∈ rs, r.a * x ≤ r.c) ↔ (∀ l ∈ lnLo rs, l ≤ x) ∧ ∀ u ∈ lnUp rs, x ≤ u := by
  have nb' : ∀ r ∈ rs, r.a = 0 → 0 ≤ r.c := fun r hr h0 => by
    have := List.any_eq_false.mp nb r hr
    unfold lnBad at this
    rw [num0.mpr h0] at this
    have h2 : ¬ r.c.num < 0 := by simpa using this
    rw [num_neg] at h2
    grind
  constructor
  · intro h
    refine ⟨fun l hl => ?_, fun u hu => ?_⟩
    · obtain ⟨r, hr, rfl⟩ := List.mem_map.mp hl
      obtain ⟨r1, r2⟩ := List.mem_filter.mp hr
      have r3 : r.a < 0 := num_neg.mp (by simpa using r2)
      have := h r r1
      have e : x - r.c / r.a = (r.c - r.a * x) * (-r.a)⁻¹ := by grind
      have : 0 ≤ (r.c - r.a * x) * (-r.a)⁻¹ := Rat.mul_nonneg (by grind) (Rat.le_of_lt (Rat.inv_pos.mpr (by grind)))
      grind
    · obtain ⟨r, hr, rfl⟩ := List.mem_map.mp hu
      obtain ⟨r1, r2⟩ := List.mem_filter.mp hr
      have r3 : 0 < r.a := num_pos.mp (by simpa using r2)
      have := h r r1
      have e : r.c / r.a - x = (r.c - r.a * x) * (r.a)⁻¹ := by grind
      have : 0 ≤ (r.c - r.a * x) * (r.a)⁻¹ := Rat.mul_nonneg (by grind) (Rat.le_of_lt (Rat.inv_pos.mpr r3))
      grind
  · rintro ⟨h1, h2⟩ r hr
    by_cases a1 : 0 < r.a
    · have := mul_le (Rat.le_of_lt a1) (h2 _ (List.mem_map_of_mem (List.mem_filter.mpr ⟨hr, by simpa using num_pos.mpr a1⟩)))
      have : r.a * (r.c / r.a) = r.c := by grind
      grind
    · by_cases a2 : r.a < 0
      · have := mul_le (w := -r.a) (by grind) (h1 _ (List.mem_map_of_mem (List.mem_filter.mpr ⟨hr, by simpa using num_neg.mpr a2⟩)))
        have : -r.a * (r.c / r.a) = -r.c := by grind
        grind
      · have a0 : r.a = 0 := by grind
        have := nb' r hr a0
        rw [a0]; grind
/-- what a range of values says -/
structure Rng (S : Rat → Prop) (w : Option Rat × Option Rat) : Prop where
  iff : ∀ x, S x ↔ (∀ l, w.1 = some l → l ≤ x) ∧ ∀ u, w.2 = some u → x ≤ u
  le : ∀ l u, w.1 = some l → w.2 = some u → l ≤ u
theorem ends_iff {lo up : Option Rat} {w : Option Rat × Option Rat} : lawEnds lo up = some w ↔ w = (lo, up) ∧ ∀ l u, lo = some l → up = some u → l ≤ u := by
  cases lo with
  | none =>
    cases up with
    | none => exact ⟨fun h => by cases h; exact ⟨rfl, fun _ _ h => (nomatch h)⟩, fun h => by rw [h.1]; rfl⟩
    | some u => exact ⟨fun h => by cases h; exact ⟨rfl, fun _ _ h => (nomatch h)⟩, fun h => by rw [h.1]; rfl⟩
  | some l =>
    cases up with
    | none => exact ⟨fun h => by cases h; exact ⟨rfl, fun _ _ _ h => (nomatch h)⟩, fun h => by rw [h.1]; rfl⟩
    | some u =>
      show (if u < l then none else some (some l, some u)) = some w ↔ _
      by_cases hlt : u < l
      · rw [if_pos hlt]
        exact ⟨fun h => (nomatch h), fun h => absurd (h.2 l u rfl rfl) (by grind)⟩
      · rw [if_neg hlt]
        exact ⟨fun h => by cases h; exact ⟨rfl, fun _ _ h1 h2 => by cases h1; cases h2; grind⟩, fun h => by rw [h.1]⟩
theorem bnd_some {rs : List Ln} {w : Option Rat × Option Rat} (h : lawBnd rs = some w) : Rng (fun x => ∀ r ∈ rs, r.a * x ≤ r.c) w := by
  unfold lawBnd at h
  split at h
  · cases h
  · rename_i nb
    obtain ⟨rfl, hle⟩ := ends_iff.mp h
    exact ⟨fun x => by rw [rows_iff (by simpa using nb), great_iff, least_iff], hle⟩
theorem Rng.ex {S : Rat → Prop} {w : Option Rat × Option Rat} (r : Rng S w) : ∃ x, S x := by
  obtain ⟨lo, up⟩ := w
  cases lo with
  | none =>
    cases up with
    | none => exact ⟨0, (r.iff 0).mpr ⟨fun _ h => (nomatch h), fun _ h => (nomatch h)⟩⟩
    | some u => exact ⟨u, (r.iff u).mpr ⟨fun _ h => (nomatch h), fun _ h => by cases h; exact Rat.le_refl⟩⟩
  | some l =>
    exact ⟨l, (r.iff l).mpr ⟨fun _ h => by cases h; exact Rat.le_refl, fun u h => r.le l u rfl h⟩⟩
theorem bnd_none {rs : List Ln} (h : lawBnd rs = none) {x : Rat} (hx : ∀ r ∈ rs, r.a * x ≤ r.c) : False := by
  unfold lawBnd at h
  split at h
  · rename_i hb
    obtain ⟨r, hr, hb⟩ := List.any_eq_true.mp hb
    unfold lnBad at hb
    have hb' : r.a.num = 0 ∧ r.c.num < 0 := by simpa using hb
    have := hx r hr
    rw [num0.mp hb'.1] at this
    have := num_neg.mp hb'.2
    grind
  · rename_i nb
    obtain ⟨h1, h2⟩ := (rows_iff (by simpa using nb)).mp hx
    rw [great_iff] at h1
    rw [least_iff] at h2
    have : lawEnds (greatL (lnLo rs)) (leastL (lnUp rs)) = some (greatL (lnLo rs), leastL (lnUp rs)) := ends_iff.mpr ⟨rfl, fun l u e1 e2 => Rat.le_trans (h1 l e1) (h2 u e2)⟩
    rw [h] at this
    cases this
/-- the values of a direction over a region -/
def Vals' (hs : List Pl) (p q : Rat) : Rat → Prop := fun v => ∃ z, In hs z ∧ val p q z = v
theorem vals_lines {hs : List Pl} {p q v : Rat} (h0 : p ≠ 0 ∨ q ≠ 0) : Vals' hs p q v ↔ ∃ y, ∀ l ∈ hs.map (fun h => lawLine h p q), l.a * v + l.b * y ≤ l.c := by
  unfold Vals' val
  by_cases hq : q = 0
  · have hp : p ≠ 0 := h0.resolve_right fun z => z hq
    have e : ∀ h, lawLine h p q = ⟨(h.p : Rat) / p, (h.q : Rat), (h.r : Rat)⟩ := fun h => by unfold lawLine; rw [if_neg (by rw [hq]; decide)]
    constructor
    · rintro ⟨z, hz, rfl⟩
      refine ⟨z.2, fun l hl => ?_⟩
      obtain ⟨h, hh, rfl⟩ := List.mem_map.mp hl
      have := hz h hh
      rw [e, hq]
      unfold valueAt at this
      show (h.p : Rat) / p * (p * z.1 + 0 * z.2) + (h.q : Rat) * z.2 ≤ (h.r : Rat)
      have k : (h.p : Rat) / p * (p * z.1 + 0 * z.2) = (h.p : Rat) * z.1 := by grind
      rw [k]; exact this
    · rintro ⟨y, hy⟩
      refine ⟨(v / p, y), fun h hh => ?_, ?_⟩
      · have := hy _ (List.mem_map_of_mem hh)
        rw [e] at this
        unfold valueAt
        show (h.p : Rat) * (v / p) + (h.q : Rat) * y ≤ (h.r : Rat)
        have : (h.p : Rat) / p * v + (h.q : Rat) * y ≤ (h.r : Rat) := this
        have k : (h.p : Rat) * (v / p) = (h.p : Rat) / p * v := by grind
        rw [k]; exact this
      · rw [hq]
        show p * (v / p) + 0 * y = v
        grind
  · have e : ∀ h, lawLine h p q = ⟨(h.q : Rat) / q, (h.p : Rat) - (h.q : Rat) / q * p, (h.r : Rat)⟩ := fun h => by unfold lawLine; rw [if_pos (fun z => hq (num0.mp z))]
    constructor
    · rintro ⟨z, hz, rfl⟩
      refine ⟨z.1, fun l hl => ?_⟩
      obtain ⟨h, hh, rfl⟩ := List.mem_map.mp hl
      have := hz h hh
      rw [e]
      unfold valueAt at this
      show (h.q : Rat) / q * (p * z.1 + q * z.2) + ((h.p : Rat) - (h.q : Rat) / q * p) * z.1 ≤ (h.r : Rat)
      have k : (h.q : Rat) / q * (p * z.1 + q * z.2) + ((h.p : Rat) - (h.q : Rat) / q * p) * z.1 = (h.p : Rat) * z.1 + (h.q : Rat) * z.2 := by grind
      rw [k]; exact this
    · rintro ⟨y, hy⟩
      refine ⟨(y, (v - p * y) / q), fun h hh => ?_, ?_⟩
      · have := hy _ (List.mem_map_of_mem hh)
        rw [e] at this
        unfold valueAt
        show (h.p : Rat) * y + (h.q : Rat) * ((v - p * y) / q) ≤ (h.r : Rat)
        have : (h.q : Rat) / q * v + ((h.p : Rat) - (h.q : Rat) / q * p) * y ≤ (h.r : Rat) := this
        have k : (h.q : Rat) / q * v + ((h.p : Rat) - (h.q : Rat) / q * p) * y = (h.p : Rat) * y + (h.q : Rat) * ((v - p * y) / q) := by grind
        rw [← k]; exact this
      · show p * y + q * ((v - p * y) / q) = v
        grind
theorem bounds_some {hs : List Pl} {p q : Rat} (h0 : p ≠ 0 ∨ q ≠ 0) {w : Option Rat × Option Rat} (e : lawBounds hs p q = some w) : Rng (Vals' hs p q) w := by
  have r := bnd_some e
  exact ⟨fun x => by rw [vals_lines h0, fm]; exact r.iff x, r.le⟩
theorem bounds_none {hs : List Pl} {p q : Rat} (h0 : p ≠ 0 ∨ q ≠ 0) (e : lawBounds hs p q = none) {z : Ray} (hz : In hs z) : False := by
  have hv : Vals' hs p q (val p q z) := ⟨z, hz, rfl⟩
  rw [vals_lines h0, fm] at hv
  exact bnd_none e hv
theorem bounds_ne {hs : List Pl} {p q : Rat} (h0 : p ≠ 0 ∨ q ≠ 0) (h : ∃ z, In hs z) : ∃ w, lawBounds hs p q = some w ∧ Rng (Vals' hs p q) w := by
  cases e : lawBounds hs p q with
  | none => obtain ⟨z, hz⟩ := h; exact (bounds_none h0 e hz).elim
  | some w => exact ⟨w, rfl, bounds_some h0 e⟩
theorem one_nz : (1 : Rat) ≠ 0 ∨ (0 : Rat) ≠ 0 := .inl (by decide)
theorem lawEmp_iff {hs : List Pl} : lawEmp hs = false ↔ ∃ z, In hs z := by
  unfold lawEmp
  constructor
  · intro h
    cases e : lawBounds hs 1 0 with
    | none => rw [e] at h; cases h
    | some w =>
      obtain ⟨x, z, hz, _⟩ := (bounds_some one_nz e).ex
      exact ⟨z, hz⟩
  · intro h
    obtain ⟨w, e, _⟩ := bounds_ne one_nz h
    rw [e]; rfl
/-- emptiness does not hang on the direction -/
theorem neOk (hs : List Pl) : lawEmp hs = false → ∀ p q : Rat, (p ≠ 0 ∨ q ≠ 0) → lawBounds hs p q ≠ none := fun h p q h0 e => by
  obtain ⟨z, hz⟩ := lawEmp_iff.mp h
  exact bounds_none h0 e hz
theorem NZ.c {h : Pl} (n : NZ h) : (h.p : Rat) ≠ 0 ∨ (h.q : Rat) ≠ 0 := n.imp (fun a z => a (cast0.mp z)) fun a z => a (cast0.mp z)
theorem val_neg (p q : Rat) (z : Ray) : val (-p) (-q) z = -(val p q z) := by unfold val; grind
theorem neg_nz {p q : Rat} (h0 : p ≠ 0 ∨ q ≠ 0) : -p ≠ 0 ∨ -q ≠ 0 := h0.imp (fun a z => a (by grind)) fun a z => a (by grind)
/-- the program's bounds over a region with rays -/
theorem supr_law {hs : List Pl} {p q : Rat} (h0 : p ≠ 0 ∨ q ≠ 0) {w : Option Rat × Option Rat} (r : Rng (Vals' hs p q) w) : supr hs p q = w.2 := by
  cases e : w.2 with
  | some u =>
    have hu : Vals' hs p q u := (r.iff u).mpr ⟨fun l h => r.le l u h e, fun u' h => by rw [e] at h; cases h; exact Rat.le_refl⟩
    obtain ⟨z, hz, hv⟩ := hu
    rw [supr_some h0 hz fun y hy => ?_, hv]
    rw [hv]
    exact ((r.iff _).mp ⟨y, hy, rfl⟩).2 u e
  | none =>
    refine supr_none h0 fun N => ?_
    obtain ⟨x, hx⟩ := r.ex
    have hx' := (r.iff x).mp hx
    have hb : Vals' hs p q (if x ≤ N + 1 then N + 1 else x) := (r.iff _).mpr ⟨fun l h => by
      have := hx'.1 l h
      split
      · grind
      · exact this, fun u h => by rw [e] at h; cases h⟩
    obtain ⟨z, hz, hv⟩ := hb
    refine ⟨z, hz, ?_⟩
    rw [hv]
    split <;> grind
theorem Rng.neg {hs : List Pl} {p q : Rat} {w : Option Rat × Option Rat} (r : Rng (Vals' hs p q) w) : Rng (Vals' hs (-p) (-q)) (w.2.map (fun x => -x), w.1.map fun x => -x) := by
  refine ⟨fun x => ?_, fun l u h1 h2 => ?_⟩
  · have e : Vals' hs (-p) (-q) x ↔ Vals' hs p q (-x) := by
      unfold Vals'
      constructor
      · rintro ⟨z, hz, rfl⟩
        exact ⟨z, hz, by rw [val_neg]; grind⟩
      · rintro ⟨z, hz, hv⟩
        exact ⟨z, hz, by rw [val_neg, hv]; grind⟩
    rw [e, r.iff]
    constructor
    · rintro ⟨a, b⟩
      refine ⟨fun l hl => ?_, fun u hu => ?_⟩
      · obtain ⟨y, hy, rfl⟩ := Option.map_eq_some_iff.mp hl
        have := b y hy
        grind
      · obtain ⟨y, hy, rfl⟩ := Option.map_eq_some_iff.mp hu
        have := a y hy
        grind
    · rintro ⟨a, b⟩
      refine ⟨fun l hl => ?_, fun u hu => ?_⟩
      · have := b (-l) (Option.map_eq_some_iff.mpr ⟨l, hl, rfl⟩)
        grind
      · have := a (-u) (Option.map_eq_some_iff.mpr ⟨u, hu, rfl⟩)
        grind
  · obtain ⟨y, hy, rfl⟩ := Option.map_eq_some_iff.mp h1
    obtain ⟨x, hx, rfl⟩ := Option.map_eq_some_iff.mp h2
    have := r.le x y hx hy
    grind
theorem infi_law {hs : List Pl} {p q : Rat} (h0 : p ≠ 0 ∨ q ≠ 0) {w : Option Rat × Option Rat} (r : Rng (Vals' hs p q) w) : infi hs p q = w.1 := by
  unfold infi
  rw [supr_law (neg_nz h0) r.neg]
  show Option.map _ (Option.map _ w.1) = w.1
  cases w.1 with
  | none => rfl
  | some x =>
    show some (- -x) = some x
    congr 1
    grind
/-- emptiness -/
theorem size1_nn (f : Pl) : 0 ≤ size1 f := by unfold size1; omega
theorem Cert.of_empty : ∀ {hs : List Pl}, (∀ h ∈ hs, NZ h) → ¬ Cert hs → ∃ z, In hs z
  | [], _, _ => ⟨(0, 0), fun h hh => by cases hh⟩
  | h :: hs, hN, hC => by
    have hC' : ¬ Cert hs := fun c => hC (by
      rcases c with ⟨f, hf, g, hg, c⟩ | ⟨f, hf, g, hg, k, hk, c⟩
      · exact .inl ⟨f, List.mem_cons_of_mem _ hf, g, List.mem_cons_of_mem _ hg, c⟩
      · exact .inr ⟨f, List.mem_cons_of_mem _ hf, g, List.mem_cons_of_mem _ hg, k, List.mem_cons_of_mem _ hk, c⟩)
    have ih := Cert.of_empty (fun g hg => hN g (List.mem_cons_of_mem _ hg)) hC'
    have nz := hN h List.mem_cons_self
    obtain ⟨w, _, r⟩ := bounds_ne nz.c ih
    obtain ⟨x, hx⟩ := r.ex
    -- a value that is at most the number of h, or the least value is above it
    cases e : w.1 with
    | none =>
      have hv : Vals' hs (h.p : Rat) (h.q : Rat) (if x ≤ (h.r : Rat) then x else (h.r : Rat)) := (r.iff _).mpr ⟨fun l z => (by rw [e] at z; cases z), fun u z => by
        have := ((r.iff x).mp hx).2 u z
        split
        · exact this
        · grind⟩
      obtain ⟨z, hz, hv⟩ := hv
      refine ⟨z, In.cons ?_ hz⟩
      have : valueAt h z = val (h.p : Rat) (h.q : Rat) z := rfl
      rw [this, hv]
      split
      · assumption
      · exact Rat.le_refl
    | some l =>
      have hl : Vals' hs (h.p : Rat) (h.q : Rat) l := (r.iff l).mpr ⟨fun l' z => by rw [e] at z; cases z; exact Rat.le_refl, fun u z => r.le l u e z⟩
      obtain ⟨z, hz, hv⟩ := hl
      by_cases hle : l ≤ (h.r : Rat)
      · exact ⟨z, In.cons (by rw [show valueAt h z = val (h.p : Rat) (h.q : Rat) z from rfl, hv]; exact hle) hz⟩
      · exfalso
        have hm : ∀ y, In hs y → val (-(h.p : Rat)) (-(h.q : Rat)) y ≤ val (-(h.p : Rat)) (-(h.q : Rat)) z := fun y hy => by
          rw [val_neg, val_neg, hv]
          have := ((r.iff _).mp ⟨y, hy, rfl⟩).1 l e
          grind
        have hvz : (h.p : Rat) * z.1 + (h.q : Rat) * z.2 = l := hv
        rcases dual (neg_nz nz.c) hz hm with ⟨f, hf, t, c1, c2⟩ | ⟨f, hf, g, hg, w1, w2, t1, t2, a1, a2, e1, e2, hd⟩
        · refine hC (.inl ⟨h, List.mem_cons_self, f, List.mem_cons_of_mem _ hf, ?_⟩)
          have d0 : det h f = 0 := by
            apply cast0.mp
            rw [det_cast]; grind
          have p0 : prod h f < 0 := by
            have : (prod h f : Rat) < ((0 : Int) : Rat) := by
              rw [prod_cast]
              show _ < (0 : Rat)
              grind
            exact Rat.intCast_lt_intCast.mp this
          refine ⟨d0, p0, ?_⟩
          obtain ⟨o1, o2⟩ := opp_sum d0 p0
          have o1' : (size1 f : Rat) * (h.p : Rat) + (size1 h : Rat) * (f.p : Rat) = 0 := by rw [← Rat.intCast_mul, ← Rat.intCast_mul, ← Rat.intCast_add, o1]; rfl
          have o2' : (size1 f : Rat) * (h.q : Rat) + (size1 h : Rat) * (f.q : Rat) = 0 := by rw [← Rat.intCast_mul, ← Rat.intCast_mul, ← Rat.intCast_add, o2]; rfl
          have sf : (0 : Rat) < (size1 f : Rat) := cast_pos.mpr (sz1_pos (hN f (List.mem_cons_of_mem _ hf)))
          have t' : (f.p : Rat) * z.1 + (f.q : Rat) * z.2 = (f.r : Rat) := t
          have k : (size1 f : Rat) * ((h.p : Rat) * z.1 + (h.q : Rat) * z.2) + (size1 h : Rat) * ((f.p : Rat) * z.1 + (f.q : Rat) * z.2) = ((size1 f : Rat) * (h.p : Rat) + (size1 h : Rat) * (f.p : Rat)) * z.1 + ((size1 f : Rat) * (h.q : Rat) + (size1 h : Rat) * (f.q : Rat)) * z.2 := by grind
          rw [o1', o2', hvz, t'] at k
          have lt := Rat.mul_pos sf (show 0 < l - (h.r : Rat) by grind)
          have fin : ((size1 f * h.r + size1 h * f.r : Int) : Rat) < ((0 : Int) : Rat) := by
            rw [Rat.intCast_add, Rat.intCast_mul, Rat.intCast_mul]
            show _ < (0 : Rat)
            clear o1' o2' c1 c2 t t' hvz o1 o2
            grind
          exact Rat.intCast_lt_intCast.mp fin
        · refine hC (.inr ⟨h, List.mem_cons_self, f, List.mem_cons_of_mem _ hf, g, List.mem_cons_of_mem _ hg, ?_⟩)
          have D1 := det_cast f g
          have D2 : (det g h : Rat) = w1 * (det f g : Rat) := by rw [det_cast, D1]; grind
          have D3 : (det h f : Rat) = w2 * (det f g : Rat) := by rw [det_cast, D1]; grind
          rw [← D1] at hd
          have t1' : (f.p : Rat) * z.1 + (f.q : Rat) * z.2 = (f.r : Rat) := t1
          have t2' : (g.p : Rat) * z.1 + (g.q : Rat) * z.2 = (g.r : Rat) := t2
          have sum : w1 * (f.r : Rat) + w2 * (g.r : Rat) = -l := by
            rw [← hvz, ← t1', ← t2']
            have a : -(h.p : Rat) * z.1 = (w1 * (f.p : Rat) + w2 * (g.p : Rat)) * z.1 := by rw [e1]
            have b : -(h.q : Rat) * z.2 = (w1 * (f.q : Rat) + w2 * (g.q : Rat)) * z.2 := by rw [e2]
            grind
          have tot : ((det f g * h.r + det g h * f.r + det h f * g.r : Int) : Rat) = (det f g : Rat) * ((h.r : Rat) - l) := by
            rw [Rat.intCast_add, Rat.intCast_add, Rat.intCast_mul, Rat.intCast_mul, Rat.intCast_mul, D2, D3]
            have : (det f g : Rat) * (w1 * (f.r : Rat) + w2 * (g.r : Rat)) = (det f g : Rat) * -l := by rw [sum]
            grind
          have ng : (h.r : Rat) - l < 0 := by grind
          unfold C3
          by_cases hp : 0 < det f g
          · left
            have hp' := cast_pos.mpr hp
            refine ⟨hp, cast_pos.mp (by rw [D2]; exact Rat.mul_pos a1 hp'), cast_pos.mp (by rw [D3]; exact Rat.mul_pos a2 hp'), ?_⟩
            have lt := Rat.mul_pos hp' (show 0 < l - (h.r : Rat) by grind)
            have : ((det f g * h.r + det g h * f.r + det h f * g.r : Int) : Rat) < ((0 : Int) : Rat) := by
              rw [tot]
              show _ < (0 : Rat)
              grind
            exact Rat.intCast_lt_intCast.mp this
          · right
            have h0 : det f g ≠ 0 := fun z => hd (by rw [z]; rfl)
            have hn : 0 < -(det f g : Rat) := by
              rw [← Rat.intCast_neg]
              exact cast_pos.mpr (by omega)
            have ng' : ∀ {x : Int}, 0 < -(x : Rat) → x < 0 := fun {x} hx => by
              rw [← Rat.intCast_neg] at hx
              have := cast_pos.mp hx
              omega
            have m1 := Rat.mul_pos a1 hn
            have m2 := Rat.mul_pos a2 hn
            refine ⟨by omega, ng' (by rw [D2]; grind), ng' (by rw [D3]; grind), ?_⟩
            apply cast_pos.mp
            rw [tot]
            have lt := Rat.mul_pos hn (show 0 < l - (h.r : Rat) by grind)
            grind
theorem isEmp_ex {hs : List Pl} (hN : ∀ h ∈ hs, NZ h) : isEmp hs = false ↔ ∃ z, In hs z := by
  constructor
  · intro h
    refine Cert.of_empty hN fun c => ?_
    rw [← isEmp_cert, h] at c
    cases c
  · rintro ⟨z, hz⟩
    cases e : isEmp hs with
    | false => rfl
    | true => exact (Cert.no (isEmp_cert.mp e) hz).elim
theorem isEmp_law {hs : List Pl} (hN : ∀ h ∈ hs, NZ h) : isEmp hs = lawEmp hs := by
  have h1 := isEmp_ex hN
  have h2 := @lawEmp_iff hs
  cases e1 : isEmp hs <;> cases e2 : lawEmp hs
  · rfl
  · have := h2.mpr (h1.mp e1); rw [e2] at this; cases this
  · have := h1.mpr (h2.mp e2); rw [e1] at this; cases this
  · rfl
end RT
end
section
set_option linter.all false
/-! P5: what is implied, kinds, the sample ray, needed half planes. -/
namespace RT
open PySem
def Imp (hs : List Pl) (h : Pl) : Prop := ∀ z, In hs z → valueAt h z ≤ (h.r : Rat)
theorem bool_eq {a b : Bool} {p : Prop} (h1 : a = true ↔ p) (h2 : b = true ↔ p) : a = b := by
  cases a <;> cases b
  · rfl
  · have := h1.mpr (h2.mp rfl); cases this
  · have := h2.mpr (h1.mp rfl); cases this
  · rfl
theorem up_le {hs : List Pl} {h : Pl} {w : Option Rat × Option Rat} (r : Rng (Vals' hs (h.p : Rat) (h.q : Rat)) w) : Imp hs h ↔ ∃ u, w.2 = some u ∧ u ≤ (h.r : Rat) := by
  constructor
  · intro hi
    cases e : w.2 with
    | some u =>
      have hu : Vals' hs (h.p : Rat) (h.q : Rat) u := (r.iff u).mpr ⟨fun l z => r.le l u z e, fun u' z => by rw [e] at z; cases z; exact Rat.le_refl⟩
      obtain ⟨z, hz, hv⟩ := hu
      refine ⟨u, rfl, ?_⟩
      rw [← hv]
      exact hi z hz
    | none =>
      exfalso
      obtain ⟨x, hx⟩ := r.ex
      have hx' := (r.iff x).mp hx
      have hb : Vals' hs (h.p : Rat) (h.q : Rat) (if x ≤ (h.r : Rat) + 1 then (h.r : Rat) + 1 else x) := (r.iff _).mpr ⟨fun l z => by
        have := hx'.1 l z
        split
        · grind
        · exact this, fun u z => by rw [e] at z; cases z⟩
      obtain ⟨z, hz, hv⟩ := hb
      have := hi z hz
      rw [show valueAt h z = val (h.p : Rat) (h.q : Rat) z from rfl, hv] at this
      split at this <;> grind
  · rintro ⟨u, e, hu⟩ z hz
    exact Rat.le_trans (((r.iff _).mp ⟨z, hz, rfl⟩).2 u e) hu
theorem lawImp_iff {hs : List Pl} {h : Pl} (hh : NZ h) : lawImp hs h = true ↔ Imp hs h := by
  unfold lawImp
  cases e : lawBounds hs (h.p : Rat) (h.q : Rat) with
  | none => exact ⟨fun _ z hz => (bounds_none hh.c e hz).elim, fun _ => rfl⟩
  | some w =>
    rw [up_le (bounds_some hh.c e)]
    obtain ⟨lo, up⟩ := w
    cases up with
    | none => simp
    | some u =>
      simp
      constructor <;> intro h <;> grind
theorem implied_iff {hs : List Pl} {h : Pl} (hN : ∀ h ∈ hs, NZ h) (hh : NZ h) : implied hs h = true ↔ Imp hs h := by
  unfold implied
  cases e : isEmp hs with
  | true =>
    refine ⟨fun _ z hz => ?_, fun _ => rfl⟩
    exact (Cert.no (isEmp_cert.mp e) hz).elim
  | false =>
    obtain ⟨w, _, r⟩ := bounds_ne hh.c ((isEmp_ex hN).mp e)
    rw [up_le r, supr_law hh.c r, Bool.false_or]
    cases w.2 with
    | none => simp
    | some u => simp [cmp_le]
theorem implied_law {hs : List Pl} {h : Pl} (hN : ∀ h ∈ hs, NZ h) (hh : NZ h) : implied hs h = lawImp hs h := bool_eq (implied_iff hN hh) (lawImp_iff hh)
theorem find_congr {α : Type} {p q : α → Bool} : ∀ {xs : List α}, (∀ x ∈ xs, p x = q x) → xs.find? p = xs.find? q
  | [], _ => rfl
  | x :: xs, h => by
    rw [List.find?_cons, List.find?_cons, h x List.mem_cons_self, find_congr fun y hy => h y (List.mem_cons_of_mem _ hy)]
theorem lineOf_law {hs : List Pl} (hN : ∀ h ∈ hs, NZ h) (hE : ∃ z, In hs z) : lineOf hs = lawLineOf hs := by
  refine find_congr fun h hh => ?_
  obtain ⟨w, e, r⟩ := bounds_ne (hN h hh).c hE
  unfold lolB
  rw [e, infi_law (hN h hh).c r]
theorem endsKind_law (lo up : Option Rat) : endsKind lo up = lawEndKind lo up := by cases lo <;> cases up <;> rfl
theorem NZ.turn {l : Pl} (h : NZ l) : ((-l.q : Int) : Rat) ≠ 0 ∨ (l.p : Rat) ≠ 0 := by
  rcases h with h | h
  · exact .inr fun z => h (cast0.mp z)
  · exact .inl fun z => h (by have := cast0.mp z; omega)
theorem kind_law {hs : List Pl} (hN : ∀ h ∈ hs, NZ h) : kindOf hs = lawKind hs := by
  unfold kindOf lawKind
  rw [isEmp_law hN]
  cases e : lawEmp hs with
  | true => rfl
  | false =>
    have hE := lawEmp_iff.mp e
    rw [if_neg Bool.false_ne_true, if_neg Bool.false_ne_true, lineOf_law hN hE]
    cases hl : lawLineOf hs with
    | none => rfl
    | some l =>
      have nz : NZ l := hN l (List.mem_of_find?_eq_some hl)
      obtain ⟨w, e2, r⟩ := bounds_ne nz.turn hE
      simp only [e2]
      rw [infi_law nz.turn r, supr_law nz.turn r, endsKind_law]
/-! ### made half planes -/
theorem mkPl_scale {p q r : Rat} (h0 : p ≠ 0 ∨ q ≠ 0) : ∃ k : Rat, 0 < k ∧ ((mkPl p q r).p : Rat) = k * p ∧ ((mkPl p q r).q : Rat) = k * q ∧ ((mkPl p q r).r : Rat) = k * r := by
  have ne := mkPa_ne2 (r := r) h0
  have g0 : 0 < igcd3 (mkPa p q r p) (mkPa p q r q) (mkPa p q r r) := (igcd3_le (c := mkPa p q r r) ne).1
  have d1 : igcd3 (mkPa p q r p) (mkPa p q r q) (mkPa p q r r) ∣ mkPa p q r p := Int.dvd_trans (Int.gcd_dvd_left _ _) (Int.gcd_dvd_left _ _)
  have d2 : igcd3 (mkPa p q r p) (mkPa p q r q) (mkPa p q r r) ∣ mkPa p q r q := Int.dvd_trans (Int.gcd_dvd_left _ _) (Int.gcd_dvd_right _ _)
  have d3 : igcd3 (mkPa p q r p) (mkPa p q r q) (mkPa p q r r) ∣ mkPa p q r r := Int.gcd_dvd_right _ _
  have sp := @mkPs_pos p q r
  have part : ∀ x : Rat, (x.den : Int) ∣ mkPs p q r → (mkPa p q r x : Rat) = (mkPs p q r : Rat) * x := fun x hx => by
    obtain ⟨m, hm⟩ := hx
    have hd : (x.den : Int) ≠ 0 := den_ne x
    unfold mkPa
    rw [hm, Int.mul_ediv_cancel_left _ hd, Rat.intCast_mul, Rat.intCast_mul, Rat.intCast_natCast]
    have := Rat.mul_comm (x.den : Rat) x
    have e : (x.den : Rat) * x = (x.num : Rat) := by
      have h := Rat.num_divInt_den x
      rw [Rat.divInt_eq_div] at h
      have hq : (x.den : Rat) ≠ 0 := fun z => by
        have : ((x.den : Int) : Rat) = 0 := by rw [Rat.intCast_natCast]; exact z
        exact hd (cast0.mp this)
      rw [Rat.intCast_natCast] at h
      have h2 : (x.num : Rat) / (x.den : Rat) * (x.den : Rat) = (x.num : Rat) := by grind
      rw [h] at h2
      rw [Rat.mul_comm]; exact h2
    rw [← e]
    grind
  have e1 := part p ⟨q.den * r.den, by unfold mkPs; exact Int.mul_assoc _ _ _⟩
  have e2 := part q ⟨p.den * r.den, by unfold mkPs; rw [Int.mul_comm (p.den : Int), Int.mul_assoc]⟩
  have e3 := part r ⟨p.den * q.den, by unfold mkPs; rw [Int.mul_comm]⟩
  rw [mkPl_eq]
  generalize mkPa p q r p = A at *
  generalize mkPa p q r q = B at *
  generalize mkPa p q r r = C at *
  generalize igcd3 A B C = g at *
  have gq : (0 : Rat) < (g : Rat) := cast_pos.mpr g0
  have dv : ∀ {x : Int}, g ∣ x → ((x / g : Int) : Rat) = (x : Rat) / (g : Rat) := fun {x} hx => by
    obtain ⟨m, rfl⟩ := hx
    rw [Int.mul_ediv_cancel_left _ (by omega), Rat.intCast_mul]
    grind
  refine ⟨(mkPs p q r : Rat) / (g : Rat), div_pos (cast_pos.mpr sp) gq, ?_, ?_, ?_⟩
  · show ((A / g : Int) : Rat) = _
    rw [dv d1, e1]; grind
  · show ((B / g : Int) : Rat) = _
    rw [dv d2, e2]; grind
  · show ((C / g : Int) : Rat) = _
    rw [dv d3, e3]; grind
theorem mkPl_in {p q r : Rat} (h0 : p ≠ 0 ∨ q ≠ 0) {z : Ray} : valueAt (mkPl p q r) z ≤ ((mkPl p q r).r : Rat) ↔ val p q z ≤ r := by
  obtain ⟨k, k0, e1, e2, e3⟩ := mkPl_scale (r := r) h0
  unfold valueAt val
  rw [e1, e2, e3]
  have e : k * p * z.1 + k * q * z.2 = k * (p * z.1 + q * z.2) := by grind
  rw [e]
  constructor
  · intro h
    have := mul_le (Rat.le_of_lt (Rat.inv_pos.mpr k0)) h
    have a : k⁻¹ * (k * (p * z.1 + q * z.2)) = p * z.1 + q * z.2 := by grind
    have b : k⁻¹ * (k * r) = r := by grind
    rw [a, b] at this
    exact this
  · intro h; exact mul_le (Rat.le_of_lt k0) h
theorem near_in {lo up : Option Rat} (hle : ∀ l u, lo = some l → up = some u → l ≤ u) : (∀ l, lo = some l → l ≤ nearOf lo up) ∧ ∀ u, up = some u → nearOf lo up ≤ u := by
  have nU : (∀ l, lo = some l → l ≤ 0) → (∀ l, lo = some l → l ≤ nearU up) ∧ ∀ u, up = some u → nearU up ≤ u := fun h0 => by
    unfold nearU
    cases up with
    | none => exact ⟨h0, fun _ h => (nomatch h)⟩
    | some y =>
      simp only
      by_cases hy : y.num < 0
      · rw [if_pos hy]
        exact ⟨fun l e => hle l y e rfl, fun u e => by cases e; exact Rat.le_refl⟩
      · rw [if_neg hy]
        rw [num_neg] at hy
        exact ⟨h0, fun u e => by cases e; grind⟩
  unfold nearOf
  cases lo with
  | none => exact nU fun _ h => (nomatch h)
  | some x =>
    simp only
    by_cases hx : x.num > 0
    · rw [if_pos hx]
      exact ⟨fun l e => by cases e; exact Rat.le_refl, fun u e => hle x u rfl e⟩
    · rw [if_neg hx]
      exact nU fun l e => by
        cases e
        have : ¬ 0 < x := fun z => hx (num_pos.mpr z)
        grind
theorem sampOk (hs : List Pl) : lawEmp hs = false → lawBounds (sampP hs) 0 1 ≠ none := fun h e => by
  obtain ⟨w, e2, r⟩ := bounds_ne one_nz (lawEmp_iff.mp h)
  have hv : Vals' hs 1 0 (sampH hs) := by
    unfold sampH
    rw [e2]
    exact (r.iff _).mpr (near_in r.le)
  obtain ⟨z, hz, hv⟩ := hv
  have z1 : z.1 = sampH hs := by
    rw [← hv]; unfold val; grind
  refine bounds_none (.inr (by decide)) e (z := z) fun g hg => ?_
  rcases List.mem_append.mp hg with hg | hg
  · exact hz g hg
  · rcases List.mem_cons.mp hg with rfl | hg
    · rw [mkPl_in (.inl (by decide))]
      unfold val; grind
    · rw [List.mem_singleton] at hg
      subst hg
      rw [mkPl_in (.inl (by decide))]
      unfold val; grind
/-! ### how many lines -/
def par (a b : Pl) : Prop := det a b = 0
theorem par_trans {a b c : Pl} (hb : NZ b) (h1 : par a b) (h2 : par b c) : par a c := by
  unfold par at *
  have e1 : (a.p : Rat) * (b.q : Rat) - (a.q : Rat) * (b.p : Rat) = 0 := by rw [← det_cast, h1]; rfl
  have e2 : (b.p : Rat) * (c.q : Rat) - (b.q : Rat) * (c.p : Rat) = 0 := by rw [← det_cast, h2]; rfl
  apply cast0.mp
  rw [det_cast]
  rcases hb.c with h | h <;> grind
theorem par_symm {a b : Pl} (h : par a b) : par b a := by unfold par at *; rw [det_swap, h]; rfl
structure Axs (xs as : List Pl) : Prop where
  sub : ∀ a ∈ as, a ∈ xs
  pw : as.Pairwise fun a b => ¬ par a b
  all : ∀ x ∈ xs, ∃ a ∈ as, par a x
theorem axs_add {xs as : List Pl} {h : Pl} (hh : NZ h) (A : Axs xs as) : Axs (xs ++ [h]) (axAdd as h) := by
  unfold axAdd
  split
  · rename_i he
    have he' : ∀ a ∈ as, ¬ par a h := fun a ha z => by
      have : a ∈ as.filter fun a => decide (det a h = 0) := List.mem_filter.mpr ⟨ha, decide_eq_true z⟩
      rw [List.isEmpty_iff.mp he] at this
      cases this
    refine ⟨fun a ha => ?_, ?_, fun x hx => ?_⟩
    · rcases List.mem_append.mp ha with ha | ha
      · exact List.mem_append_left _ (A.sub a ha)
      · exact List.mem_append_right _ ha
    · rw [List.pairwise_append]
      exact ⟨A.pw, List.pairwise_singleton _ _, fun a ha b hb => by rw [List.mem_singleton.mp hb]; exact he' a ha⟩
    · rcases List.mem_append.mp hx with hx | hx
      · obtain ⟨a, ha, p⟩ := A.all x hx
        exact ⟨a, List.mem_append_left _ ha, p⟩
      · rw [List.mem_singleton] at hx
        subst hx
        exact ⟨x, List.mem_append_right _ List.mem_cons_self, det_self x⟩
  · rename_i he
    refine ⟨fun a ha => List.mem_append_left _ (A.sub a ha), A.pw, fun x hx => ?_⟩
    rcases List.mem_append.mp hx with hx | hx
    · exact A.all x hx
    · rw [List.mem_singleton] at hx
      subst hx
      have : as.filter (fun a => decide (det a x = 0)) ≠ [] := fun z => he (by rw [z]; rfl)
      obtain ⟨a, ha⟩ := List.exists_mem_of_ne_nil _ this
      obtain ⟨h1, h2⟩ := List.mem_filter.mp ha
      exact ⟨a, h1, by simpa [par] using h2⟩
theorem axs_of {xs : List Pl} (hN : ∀ h ∈ xs, NZ h) : Axs xs (axesOf xs) := by
  have : ∀ (ys xs as : List Pl), (∀ h ∈ ys, NZ h) → Axs xs as → Axs (xs ++ ys) (ys.foldl axAdd as) := by
    intro ys
    induction ys with
    | nil => intro xs as _ A; simpa using A
    | cons y ys ih =>
      intro xs as hN A
      rw [List.foldl_cons, show xs ++ y :: ys = (xs ++ [y]) ++ ys by simp]
      exact ih _ _ (fun h hh => hN h (List.mem_cons_of_mem _ hh)) (axs_add (hN y List.mem_cons_self) A)
  have := this xs [] [] hN ⟨fun _ h => (nomatch h), List.Pairwise.nil, fun _ h => (nomatch h)⟩
  unfold axesOf
  simpa using this
theorem lines_eq (xs : List Pl) : linesOf xs = axesOf xs := rfl
theorem axs_le : ∀ {as bs : List Pl}, (∀ a ∈ as, NZ a) → (∀ b ∈ bs, NZ b) → as.Pairwise (fun a b => ¬ par a b) → (∀ a ∈ as, ∃ b ∈ bs, par a b) → as.length ≤ bs.length
  | [], _, _, _, _, _ => Nat.zero_le _
  | a :: as, bs, hA, hB, hp, h => by
    obtain ⟨b, hb, p⟩ := h a List.mem_cons_self
    have hp' := List.pairwise_cons.mp hp
    have := axs_le (as := as) (bs := bs.erase b) (fun x hx => hA x (List.mem_cons_of_mem _ hx)) (fun x hx => hB x (List.mem_of_mem_erase hx)) hp'.2 fun a' ha' => by
      obtain ⟨b', hb', p'⟩ := h a' (List.mem_cons_of_mem _ ha')
      refine ⟨b', ?_, p'⟩
      have n : b' ≠ b := fun e => by
        subst e
        exact hp'.1 a' ha' (par_trans (hB b' hb') p (par_symm p'))
      exact (List.mem_erase_of_ne n).mpr hb'
    rw [List.length_erase_of_mem hb] at this
    have := List.length_pos_of_mem hb
    rw [List.length_cons]
    omega
theorem axes_lenQ {xs ys : List Pl} (hX : ∀ h ∈ xs, NZ h) (hm : ∀ h, h ∈ xs ↔ h ∈ ys) : (axesOf xs).length = (axesOf ys).length := by
  have hY : ∀ h ∈ ys, NZ h := fun h hh => hX h ((hm h).mpr hh)
  have A := axs_of hX
  have B := axs_of hY
  have nA : ∀ a ∈ axesOf xs, NZ a := fun a ha => hX a (A.sub a ha)
  have nB : ∀ a ∈ axesOf ys, NZ a := fun a ha => hY a (B.sub a ha)
  refine Nat.le_antisymm (axs_le nA nB A.pw fun a ha => ?_) (axs_le nB nA B.pw fun a ha => ?_)
  · obtain ⟨b, hb, p⟩ := B.all a ((hm a).mp (A.sub a ha))
    exact ⟨b, hb, par_symm p⟩
  · obtain ⟨b, hb, p⟩ := A.all a ((hm a).mpr (B.sub a ha))
    exact ⟨b, hb, par_symm p⟩
/-! ### orders: the same members -/
theorem mem_insAt {α : Type} {k : Nat} {x y : α} {xs : List α} : y ∈ insAt k x xs ↔ y = x ∨ y ∈ xs := by
  unfold insAt
  rw [List.mem_append, List.mem_append, List.mem_singleton]
  constructor
  · rintro ((h | h) | h)
    · exact .inr (List.mem_of_mem_take h)
    · exact .inl h
    · exact .inr (List.mem_of_mem_drop h)
  · rintro (h | h)
    · exact .inl (.inr h)
    · rw [← List.take_append_drop k xs, List.mem_append] at h
      exact h.elim (fun h => .inl (.inl h)) .inr
theorem inOrder_mem' {hs : List Pl} {x : Pl} : x ∈ inOrder hs ↔ x ∈ hs := by
  have : ∀ (hs fs : List Pl), x ∈ hs.foldl ordAdd fs ↔ x ∈ fs ∨ x ∈ hs := by
    intro hs
    induction hs with
    | nil => intro fs; simp
    | cons h hs ih =>
      intro fs
      rw [List.foldl_cons, ih, List.mem_cons]
      unfold ordAdd
      split
      · rename_i hm
        constructor
        · rintro (z | z)
          · exact .inl z
          · exact .inr (.inr z)
        · rintro (z | z | z)
          · exact .inl z
          · rw [z]; exact .inl hm
          · exact .inr z
      · rw [mem_insAt]
        constructor
        · rintro ((z | z) | z)
          · exact .inr (.inl z)
          · exact .inl z
          · exact .inr (.inr z)
        · rintro (z | z | z)
          · exact .inl (.inr z)
          · exact .inl (.inl z)
          · exact .inr z
  unfold inOrder
  rw [this]; simp
theorem sortF_all : ∀ (n : Nat) {rest : List Pl} {x : Pl}, rest.length ≤ n → x ∈ rest → x ∈ sortF n rest
  | 0, rest, x, hl, h => by
    have := List.length_pos_of_mem h
    omega
  | n + 1, [], _, _, h => by cases h
  | n + 1, r :: rs, x, hl, h => by
    show x ∈ pickFirst (r :: rs) :: sortF n ((r :: rs).erase (pickFirst (r :: rs)))
    by_cases e : x = pickFirst (r :: rs)
    · rw [e]; exact List.mem_cons_self
    · refine List.mem_cons_of_mem _ (sortF_all n ?_ ((List.mem_erase_of_ne e).mpr h))
      rw [List.length_erase_of_mem pickFirst_mem]
      omega
theorem lawSorted_mem' {hs : List Pl} {x : Pl} : x ∈ lawSorted hs ↔ x ∈ hs :=
  ⟨lawSorted_mem, fun h => sortF_all _ (Nat.le_refl _) (dedup_mem.mpr h)⟩
theorem Imp.congr {hs gs : List Pl} {h : Pl} (e : ∀ x, x ∈ hs ↔ x ∈ gs) : Imp hs h ↔ Imp gs h :=
  ⟨fun i z hz => i z (hz.sub fun g hg => (e g).mp hg), fun i z hz => i z (hz.sub fun g hg => (e g).mpr hg)⟩
theorem needed_memQ {hs : List Pl} (hN : ∀ h ∈ hs, NZ h) {x : Pl} : x ∈ neededOf hs ↔ x ∈ lawNeeded hs := by
  unfold neededOf lawNeeded
  rw [List.mem_filter, List.mem_filter, inOrder_mem', lawSorted_mem']
  refine and_congr_right fun hx => ?_
  have e1 : ∀ h ∈ (inOrder hs).filter (fun o => decide (o ≠ x)), NZ h := fun h hh => hN h (inOrder_mem'.mp (List.mem_filter.mp hh).1)
  rw [implied_law e1 (hN x hx)]
  have : lawImp ((inOrder hs).filter fun o => decide (o ≠ x)) x = lawImp ((lawSorted hs).filter fun o => decide (o ≠ x)) x := by
    refine bool_eq (lawImp_iff (hN x hx)) ?_
    rw [lawImp_iff (hN x hx)]
    refine Imp.congr fun y => ?_
    rw [List.mem_filter, List.mem_filter, inOrder_mem', lawSorted_mem']
  rw [this]
theorem needed_nz {hs : List Pl} (hN : ∀ h ∈ hs, NZ h) : ∀ h ∈ neededOf hs, NZ h := fun h hh => hN h (inOrder_mem'.mp (List.mem_filter.mp hh).1)
theorem due_law {hs : List Pl} (hN : ∀ h ∈ hs, NZ h) : minStops hs = lawDue hs := by
  unfold minStops lawDue
  rw [← kind_law hN, lines_eq, axes_lenQ (needed_nz hN) fun h => needed_memQ hN]
  cases kindOf hs <;> simp
end RT
end
section
set_option linter.all false
/-! P6: trains: edges that are not needed, the simplified train acts alike. -/
namespace RT
open PySem
theorem PO.n {h : Pl} (o : PO h) : NZ h := o.nz
theorem TrW.nz {t : List El} (h : TrW t) : ∀ g ∈ planes t, NZ g := fun g hg => (h.po' g hg).n
theorem red_law {t : List El} (h : TrW t) : redEdges t = lawRed t := by
  unfold redEdges lawRed
  congr 1
  refine List.filter_congr fun z hz => ?_
  obtain ⟨lo, hi, he, _⟩ := mem_hps hz
  have hw := (h.wo he).nz
  have nz : NZ z.2 := (h.po z hz).n
  unfold isRed lawRedOne
  rw [implied_law hw nz, isEmp_law hw]
  cases e : lawEmp (planes (woEdge t z.1)) with
  | false => rfl
  | true =>
    rw [Bool.true_or]
    refine (((lawImp_iff nz).mpr fun y hy => ?_)).symm
    have := lawEmp_iff.mpr ⟨y, hy⟩
    rw [e] at this
    cases this
theorem comp_idm (m : Mp) : comp m idm = m := by
  obtain ⟨a, b, c, d, e, f⟩ := m
  unfold comp idm wgt
  simp [Rat.one_mul, Rat.zero_mul, Rat.add_zero, Rat.zero_add]
/-- the half planes of an element, of a train behind a map -/
def plsEl (m : Mp) : El → List Pl
  | .stop lo hi => (match lo with | none => [] | some x => [mkPl (-m.a) (-m.b) (m.e - x)]) ++ (match hi with | none => [] | some y => [mkPl m.a m.b (y - m.e)])
  | _ => []
def plsFrom (m : Mp) : List El → List Pl
  | [] => []
  | e :: t => plsEl m e ++ plsFrom (comp m (elMap e)) t
theorem hpAt_pls {t : List El} {i : Nat} {e : El} (h : t[i]? = some e) : (hpAt t i).map (·.2) = plsEl (mapOf (t.take i)) e := by
  unfold hpAt
  rw [h]
  cases e with
  | stop lo hi => cases lo <;> cases hi <;> rfl
  | _ => rfl
theorem planes_from (t : List El) : planes t = plsFrom idm t := by
  suffices h : ∀ v u : List El, (hps (u ++ v)).map (·.2) = (hpTo (u ++ v) u.length).map (·.2) ++ plsFrom (mapOf u) v by
    have := h t []
    unfold planes
    simpa [hpTo, mapOf] using this
  intro v
  induction v with
  | nil => intro u; unfold hps plsFrom; simp
  | cons e v ih =>
    intro u
    have e1 : u ++ e :: v = (u ++ [e]) ++ v := by simp
    have he : (u ++ e :: v)[u.length]? = some e := by simp
    rw [e1, ih (u ++ [e]), ← e1, List.length_append, show u.length + [e].length = u.length + 1 from rfl, hpTo_succ, List.map_append, hpAt_pls he, mapOf_add, List.append_assoc]
    congr 1
    rw [show (u ++ e :: v).take u.length = u by simp]
    rfl
theorem plsFrom_app (u v : List El) : ∀ m, plsFrom m (u ++ v) = plsFrom m u ++ plsFrom (u.foldl (fun m e => comp m (elMap e)) m) v := by
  induction u with
  | nil => intro m; rfl
  | cons e u ih =>
    intro m
    show plsEl m e ++ plsFrom _ (u ++ v) = (plsEl m e ++ plsFrom _ u) ++ _
    rw [ih, List.append_assoc]
    rfl
theorem planes_split (u v : List El) (lo hi : Option Rat) : planes (u ++ [.stop lo hi] ++ v) = planes u ++ (plsEl (mapOf u) (.stop lo hi) ++ plsFrom (mapOf u) v) := by
  rw [planes_from, planes_from, plsFrom_app, plsFrom_app, List.append_assoc]
  congr 1
  rw [List.foldl_append]
  show plsFrom (mapOf u) [.stop lo hi] ++ plsFrom (comp (mapOf u) idm) v = _
  rw [comp_idm]
  show (plsEl (mapOf u) (.stop lo hi) ++ []) ++ _ = _
  rw [List.append_nil]
theorem outOf_app (u v : List El) (z : Ray) : outOf (u ++ v) z = outOf v (outOf u z) := by unfold outOf; rw [List.foldl_append]
theorem outOf_stop (u v : List El) (lo hi : Option Rat) (z : Ray) : outOf (u ++ [.stop lo hi] ++ v) z = outOf (u ++ v) z := by
  rw [outOf_app, outOf_app, outOf_app]; rfl
theorem wo_mem {t : List El} {z : Ed × Pl} (hz : z ∈ hps t) (x : Pl) : x ∈ planes t ↔ x ∈ planes (woEdge t z.1) ∨ x = z.2 := by
  obtain ⟨lo, hi, he, hc⟩ := mem_hps hz
  rw [woEdge_at he]
  conv => lhs; rw [split_at he]
  have e1 := planes_split (t.take z.1.i) (t.drop (z.1.i + 1)) lo hi
  rcases hc with ⟨hu, y, hy, h2⟩ | ⟨hu, y, hy, h2⟩
  · rw [hu]
    have e2 := planes_split (t.take z.1.i) (t.drop (z.1.i + 1)) none hi
    rw [e1, show (if false = true then El.stop lo none else El.stop none hi) = El.stop none hi from rfl, e2, h2]
    subst hy
    simp only [plsEl, List.mem_append, List.mem_singleton, List.nil_append]
    exact ⟨fun | .inl a => .inl (.inl a) | .inr (.inl (.inl d)) => .inr d | .inr (.inl (.inr f)) => .inl (.inr (.inl f)) | .inr (.inr b) => .inl (.inr (.inr b)), fun | .inl (.inl a) => .inl a | .inl (.inr (.inl f)) => .inr (.inl (.inr f)) | .inl (.inr (.inr b)) => .inr (.inr b) | .inr d => .inr (.inl (.inl d))⟩
  · rw [hu]
    have e2 := planes_split (t.take z.1.i) (t.drop (z.1.i + 1)) lo none
    rw [e1, show (if true = true then El.stop lo none else El.stop none hi) = El.stop lo none from rfl, e2, h2]
    subst hy
    simp only [plsEl, List.mem_append, List.mem_singleton, List.append_nil]
    exact ⟨fun | .inl a => .inl (.inl a) | .inr (.inl (.inl f)) => .inl (.inr (.inl f)) | .inr (.inl (.inr d)) => .inr d | .inr (.inr b) => .inl (.inr (.inr b)), fun | .inl (.inl a) => .inl a | .inl (.inr (.inl f)) => .inr (.inl (.inl f)) | .inl (.inr (.inr b)) => .inr (.inr b) | .inr d => .inr (.inl (.inr d))⟩
theorem wo_out {t : List El} {e : Ed} {lo hi : Option Rat} (he : t[e.i]? = some (.stop lo hi)) (z : Ray) : outOf (woEdge t e) z = outOf t z := by
  rw [woEdge_at he]
  conv => rhs; rw [split_at he, outOf_stop]
  split <;> rw [outOf_stop]
/-- two trains of the same region and the same rays -/
structure Alk (t u : List El) : Prop where
  inn : ∀ z, In (planes t) z ↔ In (planes u) z
  out : ∀ z, outOf t z = outOf u z
theorem Alk.trans {t u v : List El} (a : Alk t u) (b : Alk u v) : Alk t v := ⟨fun z => (a.inn z).trans (b.inn z), fun z => (a.out z).trans (b.out z)⟩
theorem wo_alk {t : List El} (h : TrW t) {z : Ed × Pl} (hz : z ∈ hps t) (hr : isRed t z = true) : Alk t (woEdge t z.1) ∧ TrW (woEdge t z.1) := by
  obtain ⟨lo, hi, he, _⟩ := mem_hps hz
  have hw := h.wo he
  have nz : NZ z.2 := (h.po z hz).n
  have hi : Imp (planes (woEdge t z.1)) z.2 := by
    have h2 := implied_iff hw.nz nz
    unfold isRed at hr
    rcases Bool.or_eq_true _ _ ▸ hr with e | e
    · intro y hy
      exact (Cert.no (isEmp_cert.mp e) hy).elim
    · exact h2.mp e
  refine ⟨⟨fun y => ⟨fun a => a.sub fun g hg => (wo_mem hz g).mpr (.inl hg), fun a g hg => ?_⟩, fun y => (wo_out he y).symm⟩, hw⟩
  rcases (wo_mem hz g).mp hg with hg | rfl
  · exact a g hg
  · exact hi y a
theorem simpF_alk : ∀ (n : Nat) {t : List El}, TrW t → Alk t (simpF n t) ∧ TrW (simpF n t)
  | 0, t, h => ⟨⟨fun _ => Iff.rfl, fun _ => rfl⟩, h⟩
  | n + 1, t, h => by
    unfold simpF
    cases e : redEdges t with
    | nil => exact ⟨⟨fun _ => Iff.rfl, fun _ => rfl⟩, h⟩
    | cons x xs =>
      obtain ⟨z, hz, rfl, hr⟩ := redEdges_mem (t := t) (e := x) (by rw [e]; exact List.mem_cons_self)
      obtain ⟨a, hw⟩ := wo_alk h hz hr
      obtain ⟨b, hv⟩ := simpF_alk n hw
      exact ⟨a.trans b, hv⟩
theorem simpl_tr {t : List El} (h : TrW t) : TrW (simpl t) := (simpF_alk _ h).2
theorem filt_pls (t : List El) : ∀ m, plsFrom m (t.filter fun e => decide (e ≠ .stop none none)) = plsFrom m t := by
  induction t with
  | nil => intro m; rfl
  | cons e t ih =>
    intro m
    by_cases h : e = .stop none none
    · subst h
      rw [List.filter_cons_of_neg (by simp), ih]
      show _ = plsEl m (.stop none none) ++ plsFrom (comp m idm) t
      rw [comp_idm]; rfl
    · rw [List.filter_cons_of_pos (by simpa using h)]
      show plsEl m e ++ plsFrom _ _ = plsEl m e ++ plsFrom _ _
      rw [ih]
theorem filt_out (t : List El) : ∀ z, outOf (t.filter fun e => decide (e ≠ .stop none none)) z = outOf t z := by
  induction t with
  | nil => intro z; rfl
  | cons e t ih =>
    intro z
    by_cases h : e = .stop none none
    · subst h
      rw [List.filter_cons_of_neg (by simp), ih]; rfl
    · rw [List.filter_cons_of_pos (by simpa using h)]
      exact ih _
theorem simplOf_alk {t : List El} (h : TrW t) : Alk t (simplOf t) ∧ TrW (simplOf t) := by
  obtain ⟨a, hv⟩ := simpF_alk (hps t).length h
  refine ⟨a.trans ⟨fun z => ?_, fun z => (filt_out _ z).symm⟩, ?_⟩
  · unfold simplOf
    rw [planes_from ((simpl t).filter _), filt_pls, ← planes_from]
    rfl
  · exact ⟨fun e he => hv.el e (List.mem_filter.mp he).1, Nat.le_trans (List.length_filter_le _ _) hv.len⟩
theorem alk_law {t u : List El} (ht : TrW t) (hu : TrW u) (a : Alk t u) : lawAlike t u = true := by
  unfold lawAlike
  have no : ∀ {t u : List El}, TrW u → (∀ z, In (planes t) z → In (planes u) z) → ((planes u).any fun h => !lawImp (planes t) h) = false := fun {t u} hu s => by
    rw [List.any_eq_false]
    intro h hh
    rw [(lawImp_iff (hu.nz h hh)).mpr fun z hz => s z hz h hh]
    simp
  rw [if_neg (by rw [no hu fun z => (a.inn z).mp, no ht fun z => (a.inn z).mpr]; simp)]
  split
  · rfl
  · rw [List.all_eq_true]
    intro s _
    unfold lawTry
    rw [a.out]
    exact decide_eq_true rfl
theorem law_alike {t : List El} (h : TrW t) : lawAlike t (simplOf t) = true := alk_law h (simplOf_alk h).2 (simplOf_alk h).1
end RT
end
section
set_option linter.all false
set_option exponentiation.threshold 20000
/-! P7: corners: there are some; areas stay small. -/
namespace RT
open PySem
/-! ### a bounded region has a corner -/
theorem meet_at {f g : Pl} {z : Ray} (hd : det f g ≠ 0) (hf : valueAt f z = (f.r : Rat)) (hg : valueAt g z = (g.r : Rat)) : meet f g = some z := by
  unfold meet
  rw [if_neg hd, Rat.divInt_eq_div, Rat.divInt_eq_div, det_cast]
  have hd' : (f.p : Rat) * (g.q : Rat) - (f.q : Rat) * (g.p : Rat) ≠ 0 := by rw [← det_cast]; exact fun h => hd (cast0.mp h)
  simp only [Rat.intCast_sub, Rat.intCast_mul]
  unfold valueAt at hf hg
  rw [← hf, ← hg]
  congr 1
  apply Prod.ext
  · show _ = z.1
    grind
  · show _ = z.2
    grind
theorem meet_is {f g : Pl} {z : Ray} (h : meet f g = some z) : det f g ≠ 0 ∧ valueAt f z = (f.r : Rat) ∧ valueAt g z = (g.r : Rat) := by
  unfold meet at h
  split at h
  · cases h
  · rename_i hd
    have hd' : (f.p : Rat) * (g.q : Rat) - (f.q : Rat) * (g.p : Rat) ≠ 0 := by rw [← det_cast]; exact fun h => hd (cast0.mp h)
    rw [Rat.divInt_eq_div, Rat.divInt_eq_div, det_cast] at h
    simp only [Rat.intCast_sub, Rat.intCast_mul] at h
    cases h
    unfold valueAt
    refine ⟨hd, ?_, ?_⟩ <;> grind
theorem contains_iff {hs : List Pl} {z : Ray} : contains hs z = true ↔ In hs z := by
  unfold contains In
  rw [List.all_eq_true]
  simp only [decide_eq_true_eq, cmp_le]
theorem cornAdd_keep {hs : List Pl} {fs : List Ray} {x : Ray} (h : x ∈ fs) (o : Option Ray) : x ∈ cornAdd hs fs o := by
  unfold cornAdd
  cases o with
  | none => exact h
  | some z =>
    simp only
    split
    · unfold putIn
      split
      · exact h
      · exact mem_insAt.mpr (.inr h)
    · exact h
theorem corners_in {hs : List Pl} {z : Ray} (h : some z ∈ pairsFrom meet hs) (hz : In hs z) : z ∈ cornersOf hs := by
  have keep : ∀ (os : List (Option Ray)) (fs : List Ray), z ∈ fs → z ∈ os.foldl (cornAdd hs) fs := by
    intro os
    induction os with
    | nil => intro fs h; exact h
    | cons o os ih => intro fs h; exact ih _ (cornAdd_keep h o)
  have : ∀ (os : List (Option Ray)) (fs : List Ray), some z ∈ os → z ∈ os.foldl (cornAdd hs) fs := by
    intro os
    induction os with
    | nil => intro fs h; cases h
    | cons o os ih =>
      intro fs h
      rw [List.foldl_cons]
      rcases List.mem_cons.mp h with rfl | h
      · refine keep _ _ ?_
        show z ∈ (if contains hs z then putIn fs z else fs)
        rw [if_pos (contains_iff.mpr hz)]
        unfold putIn
        split
        · assumption
        · exact mem_insAt.mpr (.inl rfl)
      · exact ih _ h
  exact this _ _ h
theorem zero_one_nz : (0 : Rat) ≠ 0 ∨ (1 : Rat) ≠ 0 := .inr (by decide)
theorem corner_ex {hs : List Pl} (hE : ∃ z, In hs z) (hb : bounded hs = true) : cornersOf hs ≠ [] := by
  obtain ⟨w, _, r⟩ := bounds_ne one_nz hE
  obtain ⟨v, _, r2⟩ := bounds_ne zero_one_nz hE
  have hb' : w.2.isSome ∧ v.2.isSome := by
    unfold bounded at hb
    rw [supr_law one_nz r, supr_law zero_one_nz r2, infi_law one_nz r, infi_law zero_one_nz r2] at hb
    simp only [Bool.and_eq_true] at hb
    exact ⟨hb.1.1.2, hb.2⟩
  obtain ⟨u, hu⟩ := Option.isSome_iff_exists.mp hb'.1
  obtain ⟨s, hs'⟩ := Option.isSome_iff_exists.mp hb'.2
  -- the highest ray
  have hv : Vals' hs 1 0 u := (r.iff u).mpr ⟨fun l z => r.le l u z hu, fun u' z => by rw [hu] at z; cases z; exact Rat.le_refl⟩
  obtain ⟨z0, hz0, hv0⟩ := hv
  have top : ∀ y, In hs y → y.1 ≤ u := fun y hy => by
    have := ((r.iff _).mp ⟨y, hy, rfl⟩).2 u hu
    unfold val at this
    grind
  -- among those the greatest slope
  have mm : ∀ y : Ray, In (hs ++ [mkPl (-1) 0 (-u)]) y ↔ In hs y ∧ u ≤ y.1 := fun y => by
    constructor
    · intro h
      refine ⟨h.sub fun g hg => List.mem_append_left _ hg, ?_⟩
      have := (mkPl_in (.inl (by decide))).mp (h _ (List.mem_append_right _ List.mem_cons_self))
      unfold val at this
      grind
    · rintro ⟨h1, h2⟩ g hg
      rcases List.mem_append.mp hg with hg | hg
      · exact h1 g hg
      · rw [List.mem_singleton] at hg
        subst hg
        rw [mkPl_in (.inl (by decide))]
        unfold val; grind
  obtain ⟨x, _, r3⟩ := bounds_ne (hs := hs ++ [mkPl (-1) 0 (-u)]) zero_one_nz ⟨z0, (mm z0).mpr ⟨hz0, by rw [← hv0]; unfold val; grind⟩⟩
  have hx : ∃ t, x.2 = some t := by
    cases e : x.2 with
    | some t => exact ⟨t, rfl⟩
    | none =>
      exfalso
      obtain ⟨y, hy⟩ := r3.ex
      have hy' := (r3.iff y).mp hy
      have : Vals' (hs ++ [mkPl (-1) 0 (-u)]) 0 1 (if y ≤ s + 1 then s + 1 else y) := (r3.iff _).mpr ⟨fun l hl => by
        have := hy'.1 l hl
        split
        · grind
        · exact this, fun u' z => by rw [e] at z; cases z⟩
      obtain ⟨q, hq, hqv⟩ := this
      have := ((r2.iff _).mp ⟨q, ((mm q).mp hq).1, rfl⟩).2 s hs'
      rw [hqv] at this
      split at this <;> grind
  obtain ⟨t, ht⟩ := hx
  have hv : Vals' (hs ++ [mkPl (-1) 0 (-u)]) 0 1 t := (r3.iff t).mpr ⟨fun l z => r3.le l t z ht, fun u' z => by rw [ht] at z; cases z; exact Rat.le_refl⟩
  obtain ⟨z, hz, hvz⟩ := hv
  obtain ⟨hzi, hz1⟩ := (mm z).mp hz
  have ez1 : z.1 = u := by have := top z hzi; grind
  have m1 : ∀ y, In hs y → val 1 0 y ≤ val 1 0 z := fun y hy => by
    have := top y hy
    unfold val; grind
  have m2 : ∀ y, In (hs ++ [mkPl (-1) 0 (-u)]) y → val 0 1 y ≤ val 0 1 z := fun y hy => by
    rw [hvz]
    exact ((r3.iff _).mp ⟨y, hy, rfl⟩).2 t ht
  have key : ∃ f ∈ hs, ∃ g ∈ hs, det f g ≠ 0 ∧ valueAt f z = (f.r : Rat) ∧ valueAt g z = (g.r : Rat) := by
    have nd : ∀ {f g : Pl}, (f.p : Rat) * (g.q : Rat) - (f.q : Rat) * (g.p : Rat) ≠ 0 → det f g ≠ 0 := fun {f g} h e => h (by rw [← det_cast, e]; rfl)
    rcases dual one_nz hzi m1 with ⟨f, hf, t1, c1, c2⟩ | ⟨f, hf, g, hg, w1, w2, t1, t2, a1, a2, e1, e2, hd⟩
    · have fq : (f.q : Rat) = 0 := by grind
      have fp : (f.p : Rat) ≠ 0 := by grind
      -- a tight half plane with a slope part
      have ex : ∃ g ∈ hs ++ [mkPl (-1) 0 (-u)], valueAt g z = (g.r : Rat) ∧ (g.q : Rat) ≠ 0 := by
        rcases dual zero_one_nz hz m2 with ⟨g, hg, t2, c3, c4⟩ | ⟨g, hg, k, hk, w1, w2, t2, t3, a1, a2, e1, e2, hd⟩
        · exact ⟨g, hg, t2, by grind⟩
        · by_cases h0 : (g.q : Rat) = 0
          · exact ⟨k, hk, t3, by intro h1; rw [h0, h1] at e2; grind⟩
          · exact ⟨g, hg, t2, h0⟩
      obtain ⟨g, hg, t2, gq⟩ := ex
      rcases List.mem_append.mp hg with hg | hg
      · exact ⟨f, hf, g, hg, nd (by rw [fq]; grind), t1, t2⟩
      · rw [List.mem_singleton] at hg
        subst hg
        obtain ⟨k, _, _, e2, _⟩ := mkPl_scale (p := -1) (q := 0) (r := -u) (.inl (by decide))
        exact absurd (by rw [e2]; grind) gq
    · exact ⟨f, hf, g, hg, nd hd, t1, t2⟩
  obtain ⟨f, hf, g, hg, hd, t1, t2⟩ := key
  have n : f ≠ g := fun e => hd (by rw [e]; exact det_self g)
  have hmem : some z ∈ pairsFrom meet hs := by
    rcases pairsFrom_in (f := meet) hf hg n with h | h
    · rwa [meet_at hd t1 t2] at h
    · rwa [meet_at (by rw [det_swap]; omega) t2 t1] at h
  exact List.ne_nil_of_mem (corners_in hmem hzi)
/-! ### sizes of half planes -/
theorem mkPl_pa {p q r : Rat} (hp : RB 75 37 p) (hq : RB 75 37 q) (hr : RB 75 41 r) (h0 : p ≠ 0 ∨ q ≠ 0) : PlB 190 (mkPl p q r) := by
  have hS : (mkPs p q r).natAbs ≤ 2 ^ (37 + 37 + 41) := imul_le (imul_le (by simpa using hp.2) (by simpa using hq.2)) (by simpa using hr.2)
  have lt : ∀ x d, RB 75 d x → (mkPa p q r x).natAbs < 2 ^ (75 + (37 + 37 + 41)) := fun x d hx => imul_lt2 hx.1 (Nat.le_trans div_nat_le hS)
  have dv : ∀ x, (x / igcd3 (mkPa p q r p) (mkPa p q r q) (mkPa p q r r)).natAbs ≤ x.natAbs := fun x => Int.natAbs_ediv_le_natAbs _ _
  rw [mkPl_eq]
  exact ⟨Nat.lt_of_le_of_lt (dv _) (lt p _ hp), Nat.lt_of_le_of_lt (dv _) (lt q _ hq), Nat.lt_of_le_of_lt (dv _) (lt r _ hr)⟩
theorem TrW.pa {t : List El} (h : TrW t) : ∀ g ∈ planes t, PA g := by
  intro g hg
  refine ⟨h.po' g hg, ?_⟩
  obtain ⟨z, hz, rfl⟩ := List.mem_map.mp hg
  obtain ⟨lo, hi, he, hc⟩ := mem_hps hz
  obtain ⟨hE, hl⟩ := h.take z.1.i
  have hb := hE.b' hl
  have ha := hE.ab
  have hs := (h.el _ (List.mem_of_getElem? he)).b
  rcases hc with ⟨_, x, hx, e⟩ | ⟨_, x, hx, e⟩
  · rw [e]
    exact mkPl_pa (hb.a.neg.mono (by decide) (by decide)) (hb.b.neg.mono (by decide) (by decide)) ((hb.e.sub (hs.1 x hx)).mono (by decide) (by decide)) (ha.imp (fun z y => z (by grind)) (fun z y => z (by grind)))
  · rw [e]
    exact mkPl_pa (hb.a.mono (by decide) (by decide)) (hb.b.mono (by decide) (by decide)) (((hs.2 x hx).sub hb.e).mono (by decide) (by decide)) ha
/-! ### a common denominator of corners -/
/-- N times the parts of z are whole, at most N B -/
structure Cn (N : Int) (B : Nat) (z : Ray) : Prop where
  ex : ∃ m n : Int, (N : Rat) * z.1 = (m : Rat) ∧ (N : Rat) * z.2 = (n : Rat) ∧ m.natAbs ≤ N.natAbs * B ∧ n.natAbs ≤ N.natAbs * B
theorem Cn.zero (N : Int) (B : Nat) : Cn N B (0, 0) := ⟨0, 0, by show (N : Rat) * 0 = 0; grind, by show (N : Rat) * 0 = 0; grind, by simp, by simp⟩
theorem Cn.turn {N : Int} {B : Nat} {a b c : Ray} (ha : Cn N B a) (hb : Cn N B b) (hc : Cn N B c) : ∃ s : Int, ((N * N : Int) : Rat) * turnOf a b c = (s : Rat) ∧ s.natAbs ≤ 8 * ((N.natAbs * B) * (N.natAbs * B)) := by
  obtain ⟨a1, a2, ea1, ea2, la1, la2⟩ := ha.ex
  obtain ⟨b1, b2, eb1, eb2, lb1, lb2⟩ := hb.ex
  obtain ⟨c1, c2, ec1, ec2, lc1, lc2⟩ := hc.ex
  refine ⟨(b1 - a1) * (c2 - a2) - (b2 - a2) * (c1 - a1), ?_, ?_⟩
  · unfold turnOf
    simp only [Rat.intCast_sub, Rat.intCast_mul]
    rw [← ea1, ← ea2, ← eb1, ← eb2, ← ec1, ← ec2]
    grind
  · generalize N.natAbs * B = L at *
    have m : ∀ {x y : Int}, x.natAbs ≤ L + L → y.natAbs ≤ L + L → (x * y).natAbs ≤ (L + L) * (L + L) := fun hx hy => by rw [Int.natAbs_mul]; exact Nat.mul_le_mul hx hy
    have d1 : (b1 - a1).natAbs ≤ L + L := by omega
    have d2 : (c2 - a2).natAbs ≤ L + L := by omega
    have d3 : (b2 - a2).natAbs ≤ L + L := by omega
    have d4 : (c1 - a1).natAbs ≤ L + L := by omega
    have p1 := m d1 d2
    have p2 := m d3 d4
    have e : (L + L) * (L + L) = 4 * (L * L) := by rw [Nat.add_mul, Nat.mul_add]; omega
    have := Int.natAbs_sub_le ((b1 - a1) * (c2 - a2)) ((b2 - a2) * (c1 - a1))
    omega
theorem Cn.chain {N : Int} {B : Nat} {c : List Ray} (h : ∀ z ∈ c, Cn N B z) : ∀ i, ∃ s : Int, ((N * N : Int) : Rat) * chainTo c i = (s : Rat) ∧ s.natAbs ≤ i * (8 * ((N.natAbs * B) * (N.natAbs * B)))
  | 0 => ⟨0, by
    show ((N * N : Int) : Rat) * 0 = 0
    rw [Rat.mul_zero], by simp⟩
  | i + 1 => by
    obtain ⟨s, e, l⟩ := Cn.chain h i
    have g : ∀ j, Cn N B (c.getD j (0, 0)) := fun j => by
      rw [List.getD_eq_getElem?_getD]
      cases q : c[j]? with
      | none => exact Cn.zero N B
      | some z => exact h z (List.mem_of_getElem? q)
    obtain ⟨u, e2, l2⟩ := Cn.turn (g 0) (g (i + 1)) (g (i + 2))
    refine ⟨s + u, ?_, ?_⟩
    · rw [chainTo_succ, Rat.intCast_add, ← e, ← e2]
      grind
    · have := Int.natAbs_add_le s u
      rw [Nat.add_mul, Nat.one_mul]
      omega
end RT
end
section
set_option linter.all false
set_option exponentiation.threshold 20000
/-! P8: the corners of a train's region have one small denominator. -/
namespace RT
open PySem
def isStop : El → Bool
  | .stop _ _ => true
  | _ => false
def nst (t : List El) : Nat := (t.filter fun e => !isStop e).length
def kst (t : List El) : Nat := (t.filter isStop).length
theorem nk (t : List El) : nst t + kst t = t.length := by
  unfold nst kst
  induction t with
  | nil => rfl
  | cons e t ih =>
    rw [List.filter_cons, List.filter_cons, List.length_cons]
    cases isStop e <;> simp <;> omega
theorem mapOf_nst (t : List El) : mapOf t = mapOf (t.filter fun e => !isStop e) := by
  have : ∀ m, t.foldl (fun m e => comp m (elMap e)) m = (t.filter fun e => !isStop e).foldl (fun m e => comp m (elMap e)) m := by
    induction t with
    | nil => intro m; rfl
    | cons e t ih =>
      intro m
      cases e with
      | stop lo hi =>
        rw [List.filter_cons_of_neg (by simp [isStop]), List.foldl_cons]
        show List.foldl _ (comp m idm) t = _
        rw [comp_idm, ih]
      | _ =>
        rw [List.filter_cons_of_pos (by simp [isStop]), List.foldl_cons, List.foldl_cons, ih]
  exact this idm
theorem En.up {i j : Nat} {x : Rat} (h : En i x) (l : i ≤ j) : En j x := by
  obtain ⟨k, rfl⟩ := Nat.exists_eq_add_of_le l
  obtain ⟨n, h1, h2⟩ := h
  refine ⟨n * ((36 ^ k : Nat) : Int), ?_, ?_⟩
  · rw [Nat.pow_add, Rat.natCast_mul, Rat.intCast_mul, ← h1, Rat.intCast_natCast]
    grind
  · rw [Int.natAbs_mul, Int.natAbs_natCast, Nat.pow_add]
    exact Nat.mul_le_mul h2 (pow36 k)
theorem TrW.en {t : List El} (h : TrW t) (j : Nat) : En (nst t) (mapOf (t.take j)).a ∧ En (nst t) (mapOf (t.take j)).b ∧ En (nst t) (mapOf (t.take j)).e := by
  have hE : MpE (nst (t.take j)) (mapOf (t.take j)) := by
    rw [mapOf_nst]
    exact mapE _ fun e he => h.el e (List.mem_of_mem_take (List.mem_filter.mp he).1)
  have l : nst (t.take j) ≤ nst t := List.Sublist.length_le ((List.take_sublist j t).filter _)
  exact ⟨hE.a.up l, hE.b.up l, hE.e.up l⟩
def sc (M : Nat) (x : Rat) : Int := (((36 ^ M : Nat) : Rat) * x).num
theorem sc_of {M : Nat} {x : Rat} (h : En M x) : ((sc M x : Int) : Rat) = ((36 ^ M : Nat) : Rat) * x ∧ (sc M x).natAbs ≤ 756 ^ M := by
  obtain ⟨n, h1, h2⟩ := h
  unfold sc
  rw [h1, Rat.num_intCast]
  exact ⟨rfl, h2⟩
def posS (t : List El) : List Nat := (List.range t.length).filter fun j => isStop (t.getD j (.gap 0))
theorem posS_len (t : List El) : (posS t).length = kst t := by
  have e : t = (List.range t.length).map fun j => t.getD j (.gap 0) := by
    apply List.ext_getElem?
    intro i
    rw [List.getElem?_map]
    by_cases hi : i < t.length
    · rw [List.getElem?_range hi, List.getElem?_eq_getElem hi]
      simp [List.getD_eq_getElem?_getD, List.getElem?_eq_getElem hi]
    · rw [List.getElem?_eq_none (by omega), List.getElem?_eq_none (by simp; omega)]; rfl
  unfold kst posS
  conv => rhs; rw [e, List.filter_map, List.length_map]
  rfl
theorem posS_mem {t : List El} {j : Nat} {lo hi : Option Rat} (h : t[j]? = some (.stop lo hi)) : j ∈ posS t := by
  have hj := (List.getElem?_eq_some_iff.mp h).1
  refine List.mem_filter.mpr ⟨List.mem_range.mpr hj, ?_⟩
  rw [List.getD_eq_getElem?_getD, h]; rfl
def dirAt (t : List El) (j : Nat) : Pl := ⟨sc (nst t) (mapOf (t.take j)).a, sc (nst t) (mapOf (t.take j)).b, 0⟩
def dirs (t : List El) : List Pl := (posS t).map (dirAt t)
def Dt (f g : Pl) : Int := if det f g = 0 then 1 else det f g
theorem Dt_ne (f g : Pl) : Dt f g ≠ 0 := by unfold Dt; split <;> omega
def iprod : List Int → Int
  | [] => 1
  | x :: xs => x * iprod xs
theorem iprod_dvd {x : Int} : ∀ {xs : List Int}, x ∈ xs → ∃ e, iprod xs = x * e
  | [], h => by cases h
  | y :: xs, h => by
    rcases List.mem_cons.mp h with rfl | h
    · exact ⟨iprod xs, rfl⟩
    · obtain ⟨e, he⟩ := iprod_dvd h
      exact ⟨y * e, by show y * iprod xs = _; rw [he, Int.mul_left_comm]⟩
theorem iprod_ne : ∀ {xs : List Int}, (∀ x ∈ xs, x ≠ 0) → iprod xs ≠ 0
  | [], _ => by decide
  | x :: xs, h => Int.mul_ne_zero (h x List.mem_cons_self) (iprod_ne fun y hy => h y (List.mem_cons_of_mem _ hy))
theorem iprod_le {B : Nat} : ∀ {xs : List Int}, (∀ x ∈ xs, x.natAbs ≤ B) → (iprod xs).natAbs ≤ B ^ xs.length
  | [], _ => Nat.le_refl 1
  | x :: xs, h => by
    show (x * iprod xs).natAbs ≤ _
    rw [Int.natAbs_mul, List.length_cons, Nat.pow_succ, Nat.mul_comm]
    exact Nat.mul_le_mul (iprod_le fun y hy => h y (List.mem_cons_of_mem _ hy)) (h x List.mem_cons_self)
theorem pairs_len2 {α β : Type} (f : α → α → β) : ∀ xs : List α, (pairsFrom f xs).length * 2 = xs.length * (xs.length - 1)
  | [] => rfl
  | x :: xs => by
    unfold pairsFrom
    rw [List.length_append, List.length_map, List.length_cons, Nat.add_mul, pairs_len2 f xs, Nat.add_sub_cancel]
    cases xs.length with
    | zero => rfl
    | succ n =>
      rw [Nat.add_sub_cancel, ← Nat.mul_add, Nat.mul_comm]
      congr 1
      omega
def Dall (t : List El) : Int := iprod (pairsFrom Dt (dirs t))
theorem Dall_ne (t : List El) : Dall t ≠ 0 := iprod_ne fun x hx => by
  obtain ⟨f, g, _, _, rfl⟩ := mem_pairsFrom hx
  exact Dt_ne f g
theorem small_all : ∀ M < 8, ∀ K < 8, M + K ≤ 7 → (2 * 756 ^ (2 * M)) ^ (K * (K - 1) / 2) ≤ 2 ^ 394 := by decide +kernel
theorem Dall_le {t : List El} (h : TrW t) : (Dall t).natAbs ≤ 2 ^ 394 := by
  have b : ∀ f ∈ dirs t, f.p.natAbs ≤ 756 ^ nst t ∧ f.q.natAbs ≤ 756 ^ nst t := fun f hf => by
    obtain ⟨j, _, rfl⟩ := List.mem_map.mp hf
    obtain ⟨ha, hb, _⟩ := h.en j
    exact ⟨(sc_of ha).2, (sc_of hb).2⟩
  have hd : ∀ x ∈ pairsFrom Dt (dirs t), x.natAbs ≤ 2 * 756 ^ (2 * nst t) := fun x hx => by
    obtain ⟨f, g, hf, hg, rfl⟩ := mem_pairsFrom hx
    obtain ⟨f1, f2⟩ := b f hf
    obtain ⟨g1, g2⟩ := b g hg
    have pp : 0 < 756 ^ (2 * nst t) := Nat.pow_pos (by decide)
    have e : 756 ^ (2 * nst t) = 756 ^ nst t * 756 ^ nst t := by rw [Nat.two_mul, Nat.pow_add]
    unfold Dt
    split
    · show 1 ≤ _
      omega
    · unfold det
      have := Int.natAbs_sub_le (f.p * g.q) (f.q * g.p)
      rw [Int.natAbs_mul, Int.natAbs_mul] at this
      have m1 := Nat.mul_le_mul f1 g2
      have m2 := Nat.mul_le_mul f2 g1
      omega
  have l := iprod_le hd
  have hl : (pairsFrom Dt (dirs t)).length = kst t * (kst t - 1) / 2 := by
    have := pairs_len2 Dt (dirs t)
    unfold dirs at this ⊢
    rw [List.length_map, posS_len] at this
    omega
  rw [hl] at l
  have hk := nk t
  have hlen := h.len
  exact Nat.le_trans l (small_all _ (by omega) _ (by omega) (by omega))
/-- the line of a half plane of a train -/
theorem line_at {t : List El} {g : Pl} (h : TrW t) (hg : g ∈ planes t) : ∃ j k x, j ∈ posS t ∧ k ≠ 0 ∧ Sm 9 x ∧ (g.p : Rat) = k * (mapOf (t.take j)).a ∧ (g.q : Rat) = k * (mapOf (t.take j)).b ∧ (g.r : Rat) = k * (x - (mapOf (t.take j)).e) := by
  obtain ⟨z, hz, rfl⟩ := List.mem_map.mp hg
  obtain ⟨lo, hi, he, hc⟩ := mem_hps hz
  have hs := h.el _ (List.mem_of_getElem? he)
  have ha := (h.take z.1.i).1.ab
  rcases hc with ⟨_, x, hx, e⟩ | ⟨_, x, hx, e⟩
  · obtain ⟨k, k0, e1, e2, e3⟩ := mkPl_scale (r := (mapOf (t.take z.1.i)).e - x) (neg_nz ha)
    rw [e]
    refine ⟨z.1.i, -k, x, posS_mem he, by grind, hs.1 x hx, by rw [e1]; grind, by rw [e2]; grind, by rw [e3]; grind⟩
  · obtain ⟨k, k0, e1, e2, e3⟩ := mkPl_scale (r := x - (mapOf (t.take z.1.i)).e) ha
    rw [e]
    exact ⟨z.1.i, k, x, posS_mem he, by grind, hs.2 x hx, e1, e2, e3⟩
theorem corners_from {hs : List Pl} {z : Ray} (h : z ∈ cornersOf hs) : ∃ f ∈ hs, ∃ g ∈ hs, meet f g = some z := by
  have : ∀ (os : List (Option Ray)) (fs : List Ray), z ∈ os.foldl (cornAdd hs) fs → z ∈ fs ∨ some z ∈ os := by
    intro os
    induction os with
    | nil => intro fs h; exact .inl h
    | cons o os ih =>
      intro fs h
      rw [List.foldl_cons] at h
      rcases ih _ h with h | h
      · unfold cornAdd at h
        cases o with
        | none => exact .inl h
        | some y =>
          simp only at h
          split at h
          · rcases putIn_mem h with h | h
            · exact .inl h
            · exact .inr (by rw [h]; exact List.mem_cons_self)
          · exact .inl h
      · exact .inr (List.mem_cons_of_mem _ h)
  rcases this _ _ h with h | h
  · cases h
  · obtain ⟨f, g, hf, hg, e⟩ := mem_pairsFrom h
    exact ⟨f, hf, g, hg, e.symm⟩
def CB (M : Nat) : Nat := 120 * 756 ^ (2 * M)
theorem corner_cn {t : List El} (h : TrW t) {z : Ray} (hz : z ∈ cornersOf (planes t)) : Cn (6 * Dall t) (CB (nst t)) z := by
  obtain ⟨f, hf, g, hg, hm⟩ := corners_from hz
  obtain ⟨hd, t1, t2⟩ := meet_is hm
  obtain ⟨i, k, x, hi, k0, sx, fp, fq, fr'⟩ := line_at h hf
  obtain ⟨j, l, y, hj, l0, sy, gp, gq, gr⟩ := line_at h hg
  obtain ⟨ea, eb, ee⟩ := h.en i
  obtain ⟨ga, gb, ge⟩ := h.en j
  have A1 := sc_of ea
  have B1 := sc_of eb
  have A2 := sc_of ga
  have B2 := sc_of gb
  obtain ⟨n1, en1, ln1⟩ := ee
  obtain ⟨n2, en2, ln2⟩ := ge
  obtain ⟨k1, ek1, lk1⟩ := sx
  obtain ⟨k2, ek2, lk2⟩ := sy
  have mi : dirAt t i ∈ dirs t := List.mem_map_of_mem hi
  have mj : dirAt t j ∈ dirs t := List.mem_map_of_mem hj
  have dd : (det (dirAt t i) (dirAt t j) : Rat) = (sc (nst t) (mapOf (t.take i)).a : Rat) * (sc (nst t) (mapOf (t.take j)).b : Rat) - (sc (nst t) (mapOf (t.take i)).b : Rat) * (sc (nst t) (mapOf (t.take j)).a : Rat) := det_cast _ _
  unfold valueAt at t1 t2
  rw [fp, fq, fr'] at t1
  rw [gp, gq, gr] at t2
  have hd' : (f.p : Rat) * (g.q : Rat) - (f.q : Rat) * (g.p : Rat) ≠ 0 := by rw [← det_cast]; exact fun h => hd (cast0.mp h)
  rw [fp, fq, gp, gq] at hd'
  generalize hMp : ((36 ^ nst t : Nat) : Rat) = q at *
  have q0 : q ≠ 0 := by
    rw [← hMp]
    intro z
    have : ((36 ^ nst t : Nat) : Int) = 0 := cast0.mp (by rw [Rat.intCast_natCast]; exact z)
    have := Nat.pow_pos (n := nst t) (show 0 < 36 by decide)
    omega
  have p36 := pow36 (nst t)
  generalize sc (nst t) (mapOf (t.take i)).a = a1 at *
  generalize sc (nst t) (mapOf (t.take i)).b = b1 at *
  generalize sc (nst t) (mapOf (t.take j)).a = a2 at *
  generalize sc (nst t) (mapOf (t.take j)).b = b2 at *
  -- the numbers of the two lines, whole
  obtain ⟨R1, hR1, lR1⟩ : ∃ R : Int, 6 * q * (x - (mapOf (t.take i)).e) = (R : Rat) ∧ R.natAbs ≤ 60 * 756 ^ nst t := by
    refine ⟨((36 ^ nst t : Nat) : Int) * k1 - 6 * n1, ?_, ?_⟩
    · rw [Rat.intCast_sub, Rat.intCast_mul, Rat.intCast_mul, Rat.intCast_natCast, hMp, ← ek1, ← en1, show ((6 : Int) : Rat) = 6 from rfl]
      grind
    · have e1 : (((36 ^ nst t : Nat) : Int) * k1).natAbs ≤ 756 ^ nst t * 54 := by rw [Int.natAbs_mul, Int.natAbs_natCast]; exact Nat.mul_le_mul p36 lk1
      have := Int.natAbs_sub_le (((36 ^ nst t : Nat) : Int) * k1) (6 * n1)
      have e2 : (6 * n1).natAbs = 6 * n1.natAbs := Int.natAbs_mul 6 n1
      omega
  obtain ⟨R2, hR2, lR2⟩ : ∃ R : Int, 6 * q * (y - (mapOf (t.take j)).e) = (R : Rat) ∧ R.natAbs ≤ 60 * 756 ^ nst t := by
    refine ⟨((36 ^ nst t : Nat) : Int) * k2 - 6 * n2, ?_, ?_⟩
    · rw [Rat.intCast_sub, Rat.intCast_mul, Rat.intCast_mul, Rat.intCast_natCast, hMp, ← ek2, ← en2, show ((6 : Int) : Rat) = 6 from rfl]
      grind
    · have e1 : (((36 ^ nst t : Nat) : Int) * k2).natAbs ≤ 756 ^ nst t * 54 := by rw [Int.natAbs_mul, Int.natAbs_natCast]; exact Nat.mul_le_mul p36 lk2
      have := Int.natAbs_sub_le (((36 ^ nst t : Nat) : Int) * k2) (6 * n2)
      have e2 : (6 * n2).natAbs = 6 * n2.natAbs := Int.natAbs_mul 6 n2
      omega
  have L1 : 6 * ((a1 : Rat) * z.1 + (b1 : Rat) * z.2) = (R1 : Rat) := by
    rw [← hR1, A1.1, B1.1]
    have : (mapOf (t.take i)).a * z.1 + (mapOf (t.take i)).b * z.2 = x - (mapOf (t.take i)).e := by grind
    grind
  have L2 : 6 * ((a2 : Rat) * z.1 + (b2 : Rat) * z.2) = (R2 : Rat) := by
    rw [← hR2, A2.1, B2.1]
    have : (mapOf (t.take j)).a * z.1 + (mapOf (t.take j)).b * z.2 = y - (mapOf (t.take j)).e := by grind
    grind
  have dn : det (dirAt t i) (dirAt t j) ≠ 0 := by
    intro e
    have : (det (dirAt t i) (dirAt t j) : Rat) = 0 := by rw [e]; rfl
    rw [dd, A1.1, B1.1, A2.1, B2.1] at this
    apply hd'
    have e2 : (mapOf (t.take i)).a * (mapOf (t.take j)).b - (mapOf (t.take i)).b * (mapOf (t.take j)).a = 0 := by
      have : q * q * ((mapOf (t.take i)).a * (mapOf (t.take j)).b - (mapOf (t.take i)).b * (mapOf (t.take j)).a) = 0 := by grind
      grind
    grind
  obtain ⟨e, he⟩ : ∃ e : Int, Dall t = det (dirAt t i) (dirAt t j) * e := by
    have nn : dirAt t i ≠ dirAt t j := fun z => dn (by rw [z]; exact det_self _)
    rcases pairsFrom_in (f := Dt) mi mj nn with m | m
    · obtain ⟨e, he⟩ := iprod_dvd m
      unfold Dt at he
      rw [if_neg dn] at he
      exact ⟨e, he⟩
    · obtain ⟨e, he⟩ := iprod_dvd m
      unfold Dt at he
      rw [if_neg (by rw [det_swap]; omega), det_swap] at he
      exact ⟨-e, by rw [Int.mul_neg, ← Int.neg_mul]; exact he⟩
  have m2 : ∀ {u v : Int}, u.natAbs ≤ 60 * 756 ^ nst t → v.natAbs ≤ 756 ^ nst t → (u * v).natAbs ≤ 60 * 756 ^ (2 * nst t) := fun {u v} hu hv => by
    rw [Int.natAbs_mul, Nat.two_mul, Nat.pow_add, ← Nat.mul_assoc]
    exact Nat.mul_le_mul hu hv
  have big : ∀ r : Int, r.natAbs ≤ CB (nst t) → (e * r).natAbs ≤ (6 * Dall t).natAbs * CB (nst t) := fun r hr => by
    rw [Int.natAbs_mul]
    refine Nat.mul_le_mul ?_ hr
    rw [he, Int.natAbs_mul, Int.natAbs_mul, show (6 : Int).natAbs = 6 from rfl]
    have : 1 ≤ (det (dirAt t i) (dirAt t j)).natAbs := by omega
    have := Nat.mul_le_mul_right e.natAbs this
    rw [Nat.one_mul] at this
    omega
  refine ⟨e * (R1 * b2 - R2 * b1), e * (R2 * a1 - R1 * a2), ?_, ?_, big _ ?_, big _ ?_⟩
  · rw [he]
    simp only [Rat.intCast_mul, Rat.intCast_sub]
    rw [dd, ← L1, ← L2, show ((6 : Int) : Rat) = 6 from rfl]
    grind
  · rw [he]
    simp only [Rat.intCast_mul, Rat.intCast_sub]
    rw [dd, ← L1, ← L2, show ((6 : Int) : Rat) = 6 from rfl]
    grind
  · have := Int.natAbs_sub_le (R1 * b2) (R2 * b1)
    have := m2 lR1 B2.2
    have := m2 lR2 B1.2
    unfold CB
    omega
  · have := Int.natAbs_sub_le (R2 * a1) (R1 * a2)
    have := m2 lR2 A1.2
    have := m2 lR1 A2.2
    unfold CB
    omega
theorem CB_le {t : List El} (h : TrW t) : CB (nst t) ≤ 2 ^ 141 := by
  have hk := nk t
  have hlen := h.len
  unfold CB
  exact Nat.le_trans (Nat.mul_le_mul_left _ (Nat.pow_le_pow_right (by decide) (show 2 * nst t ≤ 14 by omega))) (by decide)
theorem corners_len (hs : List Pl) (hl : hs.length ≤ 14) : (cornersOf hs).length ≤ 196 := by
  have : ∀ (os : List (Option Ray)) (fs : List Ray), (os.foldl (cornAdd hs) fs).length ≤ fs.length + os.length := by
    intro os
    induction os with
    | nil => intro fs; exact Nat.le_refl _
    | cons o os ih =>
      intro fs
      rw [List.foldl_cons, List.length_cons]
      have h1 := ih (cornAdd hs fs o)
      have h2 := cornAdd_len hs fs o
      omega
  have h1 := this (pairsFrom meet hs) []
  have h2 := pairsFrom_len meet hs
  have h3 : hs.length * hs.length ≤ 14 * 14 := Nat.mul_le_mul hl hl
  unfold cornersOf
  rw [List.length_nil] at h1
  omega
theorem NN_le {t : List El} (h : TrW t) : (6 * Dall t).natAbs ≤ 2 ^ 397 := by
  have := Dall_le h
  rw [Int.natAbs_mul, show (6 : Int).natAbs = 6 from rfl]
  have e : (2 : Nat) ^ 397 = 2 ^ 394 * 8 := by rw [← Nat.pow_add (m := 394) (n := 3)]
  omega
theorem chain_s {t : List El} (h : TrW t) {c : List Ray} (hc : ∀ z ∈ c, z ∈ cornersOf (planes t)) {i : Nat} (hi : i ≤ 2 ^ 8) : ∃ s : Int, ((6 * Dall t * (6 * Dall t) : Int) : Rat) * chainTo c i = (s : Rat) ∧ s.natAbs < 2 ^ 1090 := by
  obtain ⟨s, e, l⟩ := Cn.chain (fun z hz => corner_cn h (hc z hz)) i
  refine ⟨s, e, ?_⟩
  have hN := NN_le h
  have hB := CB_le h
  have h1 : (6 * Dall t).natAbs * CB (nst t) ≤ 2 ^ (397 + 141) := by rw [Nat.pow_add]; exact Nat.mul_le_mul hN hB
  have h2 := Nat.mul_le_mul h1 h1
  rw [← Nat.pow_add] at h2
  have h3 := Nat.mul_le_mul hi (Nat.mul_le_mul_left 8 h2)
  refine Nat.lt_of_le_of_lt (Nat.le_trans l h3) ?_
  decide
theorem sq_int {a : Int} (h : a ≠ 0) : 0 < a * a := by
  rcases Int.lt_or_gt_of_ne h with h | h
  · exact Int.mul_pos_of_neg_of_neg h h
  · exact Int.mul_pos h h
theorem NNsq {t : List El} (h : TrW t) : 0 < 6 * Dall t * (6 * Dall t) ∧ (6 * Dall t * (6 * Dall t)).natAbs ≤ 2 ^ 794 := by
  have h0 : 6 * Dall t ≠ 0 := Int.mul_ne_zero (by decide) (Dall_ne t)
  refine ⟨sq_int h0, ?_⟩
  have := NN_le h
  exact imul_le (n := 397) (m := 397) this this
theorem chB_of {t : List El} (h : TrW t) (hk : kindOf (planes t) = .area) (hb : bounded (planes t) = true) : ChB (cornersOf (planes t)) := by
  have hE : isEmp (planes t) = false := by
    cases e : isEmp (planes t) with
    | false => rfl
    | true => unfold kindOf at hk; rw [e] at hk; cases hk
  have ne := corner_ex ((isEmp_ex h.nz).mp hE) hb
  have hl := corners_len (planes t) h.plen
  refine ⟨ne, corners_mem h.pa, by omega, fun lower i hi => ?_⟩
  obtain ⟨s, e, l⟩ := chain_s h (c := chainOf (cornersOf (planes t)) lower) (fun z hz => chainOf_mem ne z hz) (i := i) (Nat.le_trans hi (Nat.le_trans hl (by decide)))
  exact (rb_of (NNsq h).1 e l (NNsq h).2).mono (by decide) (by decide)
/-- the area is small -/
theorem area_rb {t : List El} (h : TrW t) {x : Rat} (e : areaOf (planes t) = some x) : RB 1100 800 x := by
  unfold areaOf at e
  split at e
  · cases e; exact RB.zero.mono (by decide) (by decide)
  · rename_i hk
    split at e
    · cases e
    · rename_i hb
      have hk' : kindOf (planes t) = .area := by simpa using hk
      have hb' : bounded (planes t) = true := by simpa using hb
      have B := chB_of h hk' hb'
      cases e
      have hl := corners_len (planes t) h.plen
      have cl : ∀ lower, (chainOf (cornersOf (planes t)) lower).length - 2 ≤ 2 ^ 8 := fun lower => by
        have := chainOf_len (cornersOf (planes t)) lower
        have : (2 : Nat) ^ 8 = 256 := by decide
        omega
      unfold chainArea
      obtain ⟨s1, e1, l1⟩ := chain_s h (c := chainOf (cornersOf (planes t)) true) (fun z hz => chainOf_mem B.ne z hz) (cl true)
      obtain ⟨s2, e2, l2⟩ := chain_s h (c := chainOf (cornersOf (planes t)) false) (fun z hz => chainOf_mem B.ne z hz) (cl false)
      obtain ⟨n0, n1⟩ := NNsq h
      generalize 6 * Dall t * (6 * Dall t) = N at *
      generalize chainTo (chainOf (cornersOf (planes t)) true) ((chainOf (cornersOf (planes t)) true).length - 2) = x1 at *
      generalize chainTo (chainOf (cornersOf (planes t)) false) ((chainOf (cornersOf (planes t)) false).length - 2) = x2 at *
      have hd := isub_lt l1 l2
      rw [Nat.max_self] at hd
      refine (rb_of (D := N * 2) (k := s1 - s2) (by omega) ?_ hd (imul_le (m := 1) n1 (by decide))).mono (by decide) (by decide)
      rw [Rat.intCast_mul, Rat.intCast_sub, ← e1, ← e2, show ((2 : Int) : Rat) = 2 from rfl]
      grind
end RT
end
section
set_option Elab.async false
set_option linter.all false
set_option maxRecDepth 100000
set_option maxHeartbeats 1500000
set_option exponentiation.threshold 20000
/-! B25: what the law shows; _law_same. -/
namespace RT
open PySem PySem.Spec PyProof.Rows L2
theorem okN_int (n : Nat) (i : Int) : okN n (.int i) = decide (i.natAbs.log2 < 1920) := by cases n <;> rfl
theorem okN_str (n : Nat) (x : Str) : okN n (.str x) = decide ((reprText x).length ≤ 1900) := by cases n <;> rfl
theorem okN_non (n : Nat) : okN n .none = true := by cases n <;> rfl
theorem okN_tup (n : Nat) (xs : List PD) : okN (n + 1) (.tuple xs) = xs.all (okN n) := rfl
theorem okN_lst (n : Nat) (xs : List PD) : okN (n + 1) (.list xs) = xs.all (okN n) := rfl
theorem log_ok {m : Nat} (h : m < 2 ^ 1900) : m.log2 < 1920 := Nat.lt_of_lt_of_le (PySem.Flt.log2_lt_of (by decide) h) (by decide)
theorem okN_fr {n a b : Nat} {q : Rat} (h : RB a b q) (ha : a ≤ 1900) (hb : b ≤ 1899) : okN (n + 1) (fr q) = true := by
  unfold fr
  rw [okN_tup]
  simp only [List.all_cons, List.all_nil, Bool.and_true, okN_int, Bool.and_eq_true, decide_eq_true_eq]
  refine ⟨log_ok (Nat.lt_of_lt_of_le h.1 (Nat.pow_le_pow_right (by decide) ha)), log_ok ?_⟩
  rw [Int.natAbs_natCast]
  exact Nat.lt_of_le_of_lt h.2 (Nat.pow_lt_pow_right (by decide) (by omega))
theorem okN_ofr {n a b : Nat} {o : Option Rat} (h : ∀ q, o = some q → RB a b q) (ha : a ≤ 1900) (hb : b ≤ 1899) : okN (n + 1) (ofr o) = true := by
  cases o with
  | none => exact okN_non _
  | some q => exact okN_fr (h q rfl) ha hb
theorem okN_el {n : Nat} {e : El} (h : ElW e) : okN (n + 2) (el e) = true := by
  have sm : ∀ {b : Nat} {x : Rat}, Sm b x → b ≤ 9 → okN (n + 1) (fr x) = true := fun h hb => okN_fr (h.rb hb) (by decide) (by decide)
  cases e with
  | gap x =>
    show ([.str "gap", fr x] : List PD).all (okN (n + 1)) = true
    simp only [List.all_cons, List.all_nil, Bool.and_true, okN_str, sm h (by decide)]
    decide +kernel
  | lens p c =>
    show ([.str "lens", fr p, fr c] : List PD).all (okN (n + 1)) = true
    simp only [List.all_cons, List.all_nil, Bool.and_true, okN_str, sm h.1 (by decide), sm h.2 (by decide)]
    decide +kernel
  | prism x =>
    show ([.str "prism", fr x] : List PD).all (okN (n + 1)) = true
    simp only [List.all_cons, List.all_nil, Bool.and_true, okN_str, sm h (by decide)]
    decide +kernel
  | afocal m =>
    show ([.str "afocal", fr m] : List PD).all (okN (n + 1)) = true
    simp only [List.all_cons, List.all_nil, Bool.and_true, okN_str, sm h.1 (by decide)]
    decide +kernel
  | stop lo hi =>
    show ([.str "stop", ofr lo, ofr hi] : List PD).all (okN (n + 1)) = true
    have h1 : okN (n + 1) (ofr lo) = true := okN_ofr (fun q e => (h.1 q e).rb (by decide)) (by decide) (by decide)
    have h2 : okN (n + 1) (ofr hi) = true := okN_ofr (fun q e => (h.2 q e).rb (by decide)) (by decide) (by decide)
    simp only [List.all_cons, List.all_nil, Bool.and_true, okN_str, h1, h2]
    decide +kernel
theorem cnt_ofr (n : Nat) (o : Option Rat) : cntN n (ofr o) ≤ 3 := by
  cases o with
  | none => cases n <;> (show (1 : Nat) ≤ 3; decide)
  | some q =>
    match n with
    | 0 => show (1 : Nat) ≤ 3; decide
    | 1 => show (3 : Nat) ≤ 3; decide
    | n + 2 => show (3 : Nat) ≤ 3; decide
theorem cnt_fr (n : Nat) (q : Rat) : cntN n (fr q) ≤ 3 := cnt_ofr n (some q)
theorem cnt_str (n : Nat) (x : Str) : cntN n (.str x) = 1 := by cases n <;> rfl
theorem cnt_el (n : Nat) (e : El) : cntN (n + 1) (el e) ≤ 8 := by
  cases e with
  | gap x => show 1 + ([cntN n (.str "gap"), cntN n (fr x)] : List Nat).sum ≤ 8; have := cnt_fr n x; rw [cnt_str]; simp; omega
  | lens p c => show 1 + ([cntN n (.str "lens"), cntN n (fr p), cntN n (fr c)] : List Nat).sum ≤ 8; have := cnt_fr n p; have := cnt_fr n c; rw [cnt_str]; simp; omega
  | prism x => show 1 + ([cntN n (.str "prism"), cntN n (fr x)] : List Nat).sum ≤ 8; have := cnt_fr n x; rw [cnt_str]; simp; omega
  | afocal x => show 1 + ([cntN n (.str "afocal"), cntN n (fr x)] : List Nat).sum ≤ 8; have := cnt_fr n x; rw [cnt_str]; simp; omega
  | stop lo hi => show 1 + ([cntN n (.str "stop"), cntN n (ofr lo), cntN n (ofr hi)] : List Nat).sum ≤ 8; have := cnt_ofr n lo; have := cnt_ofr n hi; rw [cnt_str]; simp; omega
theorem sum_le {α : Type} {f : α → Nat} {c : Nat} : ∀ xs : List α, (∀ x ∈ xs, f x ≤ c) → (xs.map f).sum ≤ c * xs.length
  | [], _ => Nat.le_refl _
  | x :: xs, h => by
    have h1 := h x List.mem_cons_self
    have h2 := sum_le xs fun y hy => h y (List.mem_cons_of_mem _ hy)
    rw [List.map_cons, List.sum_cons, List.length_cons, Nat.mul_add]
    omega
theorem rp_train {t : List El} (h : TrW t) : Rp (.list (t.map el)) := by
  refine ⟨?_, ?_⟩
  · rw [okN_lst, List.all_map, List.all_eq_true]
    exact fun e he => okN_el (h.el e he)
  · show 1 + ((t.map el).map (cntN 7)).sum ≤ 8000
    have := sum_le (f := cntN 7) (c := 8) (t.map el) fun d hd => by
      obtain ⟨e, _, rfl⟩ := List.mem_map.mp hd
      exact cnt_el 6 e
    rw [List.length_map] at this
    have := h.len
    omega
theorem rp_edges {es : List Ed} (hl : es.length ≤ 100) (hi : ∀ e ∈ es, e.i ≤ 100) : Rp (.list (es.map ed)) := by
  refine ⟨?_, ?_⟩
  · rw [okN_lst, List.all_map, List.all_eq_true]
    intro e he
    show ([.int (e.i : Int), .str (sideS e.up)] : List PD).all (okN 6) = true
    simp only [List.all_cons, List.all_nil, Bool.and_true, okN_str, okN_int, Bool.and_eq_true, decide_eq_true_eq]
    refine ⟨log_ok ?_, ?_⟩
    · rw [Int.natAbs_natCast]
      exact Nat.lt_of_le_of_lt (hi e he) (Nat.lt_of_lt_of_le (by decide : 100 < 2 ^ 7) (Nat.pow_le_pow_right (by decide) (by decide)))
    · cases e.up <;> decide +kernel
  · show 1 + ((es.map ed).map (cntN 7)).sum ≤ 8000
    have := sum_le (f := cntN 7) (c := 3) (es.map ed) fun d hd => by
      obtain ⟨e, _, rfl⟩ := List.mem_map.mp hd
      show (3 : Nat) ≤ 3
      decide
    rw [List.length_map] at this
    omega
theorem rp_int {i : Int} (h : i.natAbs ≤ 1000) : Rp (.int i) := ⟨by rw [okN_int]; exact decide_eq_true (log_ok (Nat.lt_of_le_of_lt h (Nat.lt_of_lt_of_le (by decide : 1000 < 2 ^ 10) (Nat.pow_le_pow_right (by decide) (by decide))))), Nat.le_trans (show (1 : Nat) ≤ 1 by decide) (by decide)⟩
theorem rp_area {o : Option Rat} (h : ∀ x, o = some x → RB 1100 800 x) : Rp (ofr o) := ⟨okN_ofr h (by decide) (by decide), Nat.le_trans (cnt_ofr 8 o) (by decide)⟩
section
variable {P : Program} {w : World} {K : PySem.W.Frag} {mg : Str → Option Value} {base : Heap} {W : Wo}
theorem sc__law_same : FnScope ["_law_one", "_law_other_here"] ["_law_one", "_law_other_here"] (defScope (top 82)) := ⟨rfl, rfl, rfl, by decide +kernel, rfl, by decide +kernel, by decide +kernel⟩
def pm__law_same : Pm := fun ds p => ∃ d, ds = [d, d] ∧ Rp d ∧ p (.bool true)
theorem kG__law_same (E : Hd K mg) : KnG P w K mg base "_law_same" 1 (spD K W 2 pm__law_same) :=
  knG_mk 61 E rfl rfl (fun _ _ _ _ _ _ us hl => match us, hl with | [_, _], _ => rfl) fun f fd F => fnG_mk F sc__law_same (by
    rintro X C cdv A outer s H E' P0 ds p rfl hG rfl hr ⟨d, rfl, hd, hp⟩
    refine sw_one (s1_ret (EV.r (ev_cmp op_eq rd_eqS (ev_repr hG hr (E.free "repr" (by simp)) (ev_var 0 rfl) hd) (ev_repr hG hr (E.free "repr" (by simp)) (ev_var 1 rfl) hd))) ?_)
    rw [decide_eq_true rfl]
    exact hp)
end
section
variable {X : Cx} {C : Ct} {Γ : List Sl} {a b : Expr} {pos p : Pos} {k : Nat} {d : PD}
/-- the two are the same data -/
theorem ev_same (E : Hd X.K X.mg) (hG : X.A.guards = some []) (hr : Room k X.A) (ha : EV X C a Γ d) (hb : EV X C b Γ d) (hd : Rp d) (hk : 1 ≤ k := by decide) (hg : Gl X "_law_same" := by rfl) (he : starEach [a, b] X.env = (false, eval a X.env) :: starEach [b] X.env := by rfl) (hpl : (backTo pos (starEach [b] X.env)).any (·.1) = false := by rfl) (he2 : starEach [b] X.env = (false, eval b X.env) :: starEach [] X.env := by rfl) :
    EV X C (.Call (.Name "_law_same" p) [a, b] [] pos) Γ (.bool true) :=
  evG_call (kG__law_same E) hG hr hk (evs_cons ha (evs_one hb he2) he) ⟨d, rfl, hd, rfl⟩ rfl hg (by decide) he hpl
end
end RT
end
section
set_option Elab.async false
set_option linter.all false
set_option maxRecDepth 100000
set_option maxHeartbeats 3000000
set_option exponentiation.threshold 20000
/-! B26: the law behind its box. -/
namespace RT
open PySem PySem.Spec PyProof.Rows L2
theorem rp_red {t : List El} (h : TrW t) : Rp (.list ((redEdges t).map ed)) := by
  have hl := hpTo_len t t.length
  have h2 := h.len
  refine rp_edges ?_ fun e he => ?_
  · unfold redEdges
    rw [List.length_map]
    refine Nat.le_trans (List.length_filter_le _ _) ?_
    unfold hps
    omega
  · obtain ⟨z, hz, rfl, _⟩ := redEdges_mem he
    obtain ⟨lo, hi, he, _⟩ := mem_hps hz
    have := (List.getElem?_eq_some_iff.mp he).1
    omega
theorem eqv_ones {α : Type} (xs : List α) : PyData.eqv (.list (xs.map fun _ => PyData.int 1)) (.list []) = xs.isEmpty := by
  cases xs with
  | nil => simp [PyData.eqv, PyData.eqvAll]
  | cons x xs => simp [PyData.eqv, PyData.eqvAll]
theorem flat_one : flat (.int 1) := ⟨rfl, Nat.le_of_ble_eq_true rfl⟩
theorem lines_len {xs : List Pl} : (linesOf xs).length ≤ xs.length := by
  have : ∀ (ys as : List Pl), (ys.foldl lineAdd as).length ≤ as.length + ys.length := by
    intro ys
    induction ys with
    | nil => intro as; exact Nat.le_refl _
    | cons y ys ih =>
      intro as
      rw [List.foldl_cons, List.length_cons]
      have h1 := ih (lineAdd as y)
      have h2 : (lineAdd as y).length ≤ as.length + 1 := by
        unfold lineAdd
        split
        · simp
        · omega
      omega
  have := this xs []
  unfold linesOf
  simpa using this
theorem lines_mem {xs : List Pl} {x : Pl} (h : x ∈ linesOf xs) : x ∈ xs := by
  have : ∀ (ys as : List Pl), x ∈ ys.foldl lineAdd as → x ∈ as ∨ x ∈ ys := by
    intro ys
    induction ys with
    | nil => intro as h; exact .inl h
    | cons y ys ih =>
      intro as h
      rw [List.foldl_cons] at h
      rcases ih _ h with h | h
      · unfold lineAdd at h
        split at h
        · rcases List.mem_append.mp h with h | h
          · exact .inl h
          · exact .inr (by rw [List.mem_singleton.mp h]; exact List.mem_cons_self)
        · exact .inl h
      · exact .inr (List.mem_cons_of_mem _ h)
  exact (this xs [] h).resolve_left fun z => nomatch z
theorem lines_succ {xs : List Pl} {i : Nat} {h : Pl} (e : xs[i]? = some h) : linesOf (xs.take (i + 1)) = lineAdd (linesOf (xs.take i)) h := by
  unfold linesOf
  rw [List.take_succ, e, List.foldl_append]
  rfl
theorem lawNeeded_mem {hs : List Pl} {h : Pl} (hh : h ∈ lawNeeded hs) : h ∈ hs := lawSorted_mem (List.mem_filter.mp hh).1
theorem lawNeeded_len (hs : List Pl) : (lawNeeded hs).length ≤ hs.length := Nat.le_trans (List.length_filter_le _ _) (lawSorted_len hs)
theorem due_le (hs : List Pl) (h : hs.length ≤ 100) : lawDue hs ≤ 100 := by
  unfold lawDue
  split
  · exact Nat.le_trans lines_len (Nat.le_trans (lawNeeded_len hs) h)
  · split <;> omega
section
variable {P : Program} {w : World} {K : PySem.W.Frag} {mg : Str → Option Value} {base : Heap} {W W0 : Wo} {bx rw : Addr} {row : List Int}
abbrev lawN : List Str := ["_law_script", "_law_box_here", "_law_train_here", "_law_edges_here", "_law_small", "_law_planes_here", "_law_kind_here", "_law_lines", "_law_plane_here", "_law_due", "_law_element_here", "_law_line_here"]
theorem sc_law : FnScope lawN ["_law_script"] (defScope (top 120)) := ⟨rfl, rfl, rfl, by decide +kernel, rfl, by decide +kernel, by decide +kernel⟩
theorem law_tail (E : Hd K mg) (T : Tabs W base mg K) (hW : W = W0.box bx rw row) {f : Addr} {cdv : Value} {A : Around} {outer : List Env} {s : Shared} {H H1 : Hp} {E' : XK} {P1 : Addr → Bool} (hG : A.guards = some []) (hr : Room 14 (cxOf CX0 P w K mg base lawN "law" (defScope (top 120)) f cdv A outer s H E').nox.A) {p : PD → Prop} (hp : p (.bool true)) :
    SW (cxOf CX0 P w K mg base lawN "law" (defScope (top 120)) f cdv A outer s H E').nox ⟨K, W, H1, P1⟩ (defBody (top 120)).tail [.no, .pu (opqD bx), .no, .no, .no, .no, .no, .no, .no, .no, .no, .no] { nx := fun _ => p .none, rt := p } := by
  have nd := sc_law.nd
  refine sw_cons (s1_setC (R := fun d => ∃ t : List El, d = .list (t.map el) ∧ TrW t) 2 nd (evc_slice (j := some ((7 : Nat) : Int)) (R1 := fun d => ∃ u : List El, d = .list (u.map el) ∧ ∀ e ∈ u, ElW e) (evc_callC (k__law_other E hW) hr (by decide) (evcs_cons (evc_of (ev_var 1 rfl)) (evcs_one (evc_callC (R := fun d => ∃ t : List El, d = .list (t.map el) ∧ (∀ e ∈ t, ElV e) ∧ t.length ≤ 5) (k__law_train E hW) hr (by decide) (evcs_of (evs_cons (ev_var 1 rfl) (evs_one ev_int))) (fun ds e => ⟨⟨(), e, fun t h1 h2 => ⟨t, rfl, h1, h2⟩⟩, by rw [e]; rfl⟩)))) (fun ds e => ?_)) evo_none (evo_some (EV.is ev_int rfl)) (fun d e => ?_)) fun d e => ?_)
  · obtain ⟨d, ds', rfl, rfl, d2, rfl, t, rfl, hV, hl⟩ := e
    exact ⟨⟨t, rfl, hV, hl, fun u hu => ⟨u, rfl, hu⟩⟩, rfl⟩
  · obtain ⟨u, rfl, hu⟩ := e
    refine ⟨_, rfl, u.take 7, ?_, ⟨fun e he => hu e (List.mem_of_mem_take he), by rw [List.length_take]; omega⟩⟩
    rw [cutD_take, List.map_take]
  obtain ⟨t, rfl, hT⟩ := e
  dsimp only [List.set]
  have hTl := hT.len
  refine sw_cons (s1_set 3 nd (EV.is (ev_fn (k__law_redundant E) hr (by decide) (evs_one (ev_var 2 rfl)) ⟨t, rfl, hT, rfl⟩) (by rw [← red_law hT])) ?_)
  dsimp only [List.set]
  refine sw_cons (s1_skip (tv_not (tv_val (ev_same E hG hr (ev_fn (k_redundant_edges E T) hr (by decide) (evs_one (ev_var 2 rfl)) ⟨t, rfl, hT, rfl⟩) (ev_var 3 rfl) (rp_red hT)))) rfl (sw_nil ?_))
  refine sw_cons (s1_own 4 nd (evl_list (E.free "list" (by simp)) (ev_var 2 rfl)) ?_)
  refine sw_freeze 4 rfl ?_
  dsimp only [List.set]
  refine sw_cons (s1_while (fun m Γ => ∃ u, TrW u ∧ (hps u).length = m ∧ simpl u = simpl t ∧ Γ = [.no, .pu (opqD bx), .pu (.list (t.map el)), .pu (.list ((redEdges u).map ed)), .pu (.list (u.map el)), .no, .no, .no, .no, .no, .no, .no]) (hps t).length ⟨t, hT, rfl, rfl, rfl⟩ ?_)
  rintro m _ ⟨u, hU, hm, hs, rfl⟩
  have hUl := hU.len
  refine ⟨_, tv_lst (ev_var 3 rfl), fun ht => ?_, fun ht => ?_⟩
  · cases e : redEdges u with
    | nil => rw [e] at ht; cases ht
    | cons x xs =>
      obtain ⟨z, hz, hzx, _⟩ := redEdges_mem (t := u) (e := x) (by rw [e]; exact List.mem_cons_self)
      subst hzx
      obtain ⟨lo, hi, he, _⟩ := mem_hps hz
      obtain ⟨s1, s2⟩ := simpl_cons e
      have hw := hU.wo he
      refine sw_cons (s1_skip (tv_not (tv_val (ev_same E hG hr (ev_fn (k_without_edge E) hr (by decide) (evs_cons (ev_var 4 rfl) (evs_one (ev_ixL (ev_var 3 rfl) ev_int atI_cons))) ⟨u, z.1, lo, hi, rfl, he, by omega, rfl⟩) (ev_fn (k__law_without E) hr (by decide) (evs_cons (ev_var 4 rfl) (evs_one (ev_ixL (ev_var 3 rfl) ev_int atI_cons))) ⟨u, z.1, lo, hi, rfl, he, by omega, rfl⟩) (rp_train hw)))) rfl (sw_nil ?_))
      refine sw_cons (s1_set 4 nd (ev_fn (k__law_without E) hr (by decide) (evs_cons (ev_var 4 rfl) (evs_one (ev_ixL (ev_var 3 rfl) ev_int atI_cons))) ⟨u, z.1, lo, hi, rfl, he, by omega, rfl⟩) ?_)
      dsimp only [List.set]
      refine sw_one (s1_set 3 nd (EV.is (ev_fn (k__law_redundant E) hr (by decide) (evs_one (ev_var 4 rfl)) ⟨_, rfl, hw, rfl⟩) (by rw [← red_law hw])) ⟨_, by rw [← hm]; exact s2, _, hw, rfl, by rw [← s1]; exact hs, rfl⟩)
  have e : redEdges u = [] := by
    cases q : redEdges u with
    | nil => rfl
    | cons x xs => rw [q] at ht; cases ht
  have hu : simplOf t = u.filter fun e => !decide (e = .stop none none) := by
    unfold simplOf
    rw [← hs, simpl_nil e]
    congr 1
    funext x
    simp
  obtain ⟨ak, hS⟩ := simplOf_alk hT
  refine sw_cons (s1_lcIf 4 [("_law_element_here", 10)] el (fun e => !decide (e = .stop none none)) el u nd (iv_lst (ev_var 4 rfl)) (blkOk_by rfl) (by omega) (fun x hx => ⟨_, _, by decide, fun s H Ca cl fp => gv_name 10 nd, fun s H Ca cl fp => TV.is (tv_cmp (op_neD hr.units) (rd_neD (d1 := el x) (d2 := el (.stop none none)) (flat_of (flat_el x)) (flat_of (flat_el _))) (ev_var 10 rfl) (ev_tup (evs_cons ev_str (evs_cons ev_non (evs_one ev_non))))) (by rw [eqv_stop]), fun _ s H Ca cl fp => ev_var 10 rfl⟩) ?_)
  refine sw_freeze 4 rfl ?_
  dsimp only [List.set]
  rw [← hu]
  refine sw_cons (s1_skip (TW.tv (tw_or (tv_not (tv_val (ev_same E hG hr (ev_fn (k_simplify E T) hr (by decide) (evs_one (ev_var 2 rfl)) ⟨t, rfl, hT, rfl⟩) (ev_var 4 rfl) (rp_train hS)))) fun _ => tw_or1 (tv_not (tv_val (ev_fn (k__law_alike E) hr (by decide) (evs_cons (ev_var 2 rfl) (evs_one (ev_var 4 rfl))) ⟨t, simplOf t, rfl, hT, hS, neOk _, sampOk _, rfl⟩))))) (by rw [law_alike hT]; rfl) (sw_nil ?_))
  refine sw_cons (s1_set 5 nd (ev_fn (k__law_planes E) hr (by decide) (evs_one (ev_var 2 rfl)) ⟨t, rfl, hT, rfl⟩) ?_)
  dsimp only [List.set]
  have hO := hT.po'
  have hpl := hT.plen
  refine sw_cons (s1_set 6 nd (ev_fn (k__law_kind E) hr (by decide) (evs_one (ev_var 5 rfl)) ⟨planes t, rfl, hO, by omega, neOk _, rfl⟩) ?_)
  dsimp only [List.set]
  refine sw_cons (s1_skip (tv_not (tv_val (ev_same E hG hr (ev_fn (k_acceptance_area E T) hr (by decide) (evs_one (ev_var 2 rfl)) ⟨t, rfl, hT, hT.pa, chB_of hT, rfl⟩) (ev_fn (k_area E T) hr (by decide) (evs_one (ev_var 5 rfl)) ⟨planes t, rfl, hT.pa, by omega, chB_of hT, rfl⟩) (rp_area fun x hx => area_rb hT hx)))) rfl (sw_nil ?_))
  have due := due_law hT.nz
  have hdl := due_le (planes t) (by omega)
  have keyA : decide (kindS (lawKind (planes t)) = ("area" : Str)) = decide (lawKind (planes t) = .area) := by cases lawKind (planes t) <;> decide +kernel
  have keyL : decide (kindS (lawKind (planes t)) = ("line" : Str)) = decide (lawKind (planes t) = .line) := by cases lawKind (planes t) <;> decide +kernel
  refine sw_cons (s1_ifJ (fun Γ => ∃ v7 v8, Γ = [.no, .pu (opqD bx), .pu (.list (t.map el)), .pu (.list ((redEdges u).map ed)), .pu (.list ((simplOf t).map el)), .pu (.list ((planes t).map pl)), .pu (.str (kindS (lawKind (planes t)))), v7, v8, .pu (.int (lawDue (planes t) : Int)), .no, .no]) (tv_eqS (ev_var 6 rfl) ev_str) (fun hc => ?_) (fun hc => ?_) ?_)
  · rw [keyA, decide_eq_true_eq] at hc
    have hd : lawDue (planes t) = (linesOf (lawNeeded (planes t))).length := if_pos hc
    rw [hd]
    have hN : ∀ h ∈ lawNeeded (planes t), PO h := fun h hh => hO h (lawNeeded_mem hh)
    have hNl := lawNeeded_len (planes t)
    refine sw_cons (s1_own 7 nd (evl_lst evs_nil) ?_)
    dsimp only [List.set]
    refine sw_cons (s1_for pl (lawNeeded (planes t)) (iv_lst (ev_fn (k__law_canonical E) hr (by decide) (evs_one (ev_var 5 rfl)) ⟨planes t, rfl, hO, by omega, neOk _, hc, rfl⟩)) (fun i Γ => ∃ v8, Γ = [.no, .pu (opqD bx), .pu (.list (t.map el)), .pu (.list ((redEdges u).map ed)), .pu (.list ((simplOf t).map el)), .pu (.list ((planes t).map pl)), .pu (.str (kindS (lawKind (planes t)))), .ow ((linesOf ((lawNeeded (planes t)).take i)).map pl), v8, .no, .no, .no]) ⟨.no, rfl⟩ ?_ ?_)
    · rintro i h _ hx ⟨v8, rfl⟩
      have hm := List.mem_of_getElem? hx
      have hi := (List.getElem?_eq_some_iff.mp hx).1
      rw [lines_succ hx]
      have hls : ∀ a ∈ linesOf ((lawNeeded (planes t)).take i), PO a := fun a ha => hN a (List.mem_of_mem_take (lines_mem ha))
      have hll : (linesOf ((lawNeeded (planes t)).take i)).length ≤ 14 := Nat.le_trans lines_len (by rw [List.length_take]; omega)
      generalize linesOf ((lawNeeded (planes t)).take i) = ls at hls hll ⊢
      refine ⟨_, _, gv_name 8 nd, ?_⟩
      dsimp only [List.set]
      have big : ∀ {a : Pl}, PO a → PlB 3000 a := fun o => ⟨Nat.lt_of_lt_of_le o.b.p (Nat.pow_le_pow_right (by decide) (by decide)), Nat.lt_of_lt_of_le o.b.q (Nat.pow_le_pow_right (by decide) (by decide)), Nat.lt_of_lt_of_le o.b.r (Nat.pow_le_pow_right (by decide) (by decide))⟩
      refine sw_one (s1_if (TV.is (tv_thaw 7 rfl (tv_eqD hr (EVL.ev (evl_lcIf (own := [("_law_line_here", 11)]) pl (fun a => decide (det a h = 0)) (fun _ => .int 1) ls nd (iv_lst (ev_var 7 rfl)) (blkOk_by rfl) (by omega) (fun a ha => ⟨_, _, by decide, fun s H Ca cl fp => gv_name 11 nd, fun s H Ca cl fp => tv_cmp op_eq rd_eqI (ev_fn (k__law_cross E) hr (by decide) (evs_cons (ev_var 11 rfl) (evs_one (ev_var 8 rfl))) ⟨a, h, rfl, big (hls a ha), big (hN h hm), rfl⟩) ev_int, fun _ s H Ca cl fp => ev_int⟩))) (ev_lst evs_nil) (flat_list fun d hd => by
        obtain ⟨_, _, rfl⟩ := List.mem_map.mp hd
        exact flat_one) rfl)) (eqv_ones _)) (fun hn => ?_) fun hn => ?_)
      · refine sw_one (s1_append 7 rfl (ev_var 8 rfl) ⟨.pu (pl h), ?_⟩ (by rw [List.length_map]; omega))
        dsimp only [List.set]
        unfold lineAdd
        rw [if_pos hn, List.map_append]
        rfl
      · refine sw_nil ⟨.pu (pl h), ?_⟩
        unfold lineAdd
        rw [if_neg (by rw [hn]; exact Bool.false_ne_true)]
    · rintro _ ⟨v8, rfl⟩
      rw [List.take_length]
      refine sw_one (s1_set 9 nd (EV.is (ev_thaw 7 rfl (ev_len (E.free "len" (by simp)) (ev_var 7 rfl))) (by rw [List.length_map])) ⟨_, v8, rfl⟩)
  · rw [keyA, decide_eq_false_iff_not] at hc
    have hd : lawDue (planes t) = if lawKind (planes t) = .line then 1 else 2 := if_neg hc
    refine sw_one (s1_set 9 nd (ev_ixL (d := .int (lawDue (planes t) : Int)) (ev_lst (evs_cons ev_int (evs_one ev_int))) (ev_intB (E.free "int" (by simp)) (ev_cmp op_eq rd_eqS (ev_var 6 rfl) ev_str)) ?_) ⟨.no, .no, rfl⟩)
    rw [hd, keyL]
    by_cases hk : lawKind (planes t) = .line
    · simp only [hk, decide_true, if_true]
      rfl
    · simp only [hk, decide_false, Bool.false_eq_true, if_false]
      rfl
  · rintro _ ⟨v7, v8, rfl⟩
    refine sw_one (s1_ret (EV.r (ev_same E hG hr (ev_fn (k_minimum_stops E T) hr (by decide) (evs_one (ev_var 2 rfl)) ⟨t, rfl, hT, rfl⟩) (EV.is (ev_var 9 rfl) (by rw [due])) (rp_int ?_))) hp)
    rw [due, Int.natAbs_natCast]
    omega
end
end RT
end
section
set_option Elab.async false
set_option linter.all false
set_option maxRecDepth 100000
set_option maxHeartbeats 3000000
set_option exponentiation.threshold 20000
/-! B27: the law as a def. -/
namespace RT
open PySem PySem.Spec PyProof.Rows L2
/-- the tables of code objects -/
def Wo.tab (ps : List Addr) : Wo where
  wob a := a ∈ ps
  ok H := ∀ q ∈ ps, GxR.TabG H q
  dom H a h z := by obtain ⟨t, e, _⟩ := h a z; rw [e]; exact fun w => nomatch w
  loc H H' k h := fun q hq => by
    obtain ⟨t, e, ok⟩ := h q hq
    exact ⟨t, by rw [k q hq]; exact e, ok⟩
theorem tabW_tab {ps : List Addr} {base : Heap} {mg : Str → Option Value} {c Pt : Addr} (tb : GxR.TabB base mg c Pt) (hp : Pt ∈ ps) : TabW (Wo.tab ps) base mg c Pt :=
  ⟨tb, hp, fun H h => h Pt hp, fun H t h ok q hq => by
    by_cases e : q = Pt
    · rw [e]; exact ⟨t, upd_same, ok⟩
    · obtain ⟨t', e', ok'⟩ := h q hq
      exact ⟨t', by rw [upd_ne e]; exact e', ok'⟩⟩
theorem tabW_box {W : Wo} {base : Heap} {mg : Str → Option Value} {c Pt bx rw : Addr} {row : List Int} (T : TabW W base mg c Pt) : TabW (W.box bx rw row) base mg c Pt :=
  ⟨T.tb, .inl T.wob, fun H h => T.at_ H h.1, fun H t h ok => by
    obtain ⟨h1, ⟨n, h2⟩, h3, h4⟩ := h
    obtain ⟨t', e', _⟩ := T.at_ H h1
    have n1 : bx ≠ Pt := fun e => h4 (by rw [e]; exact T.wob)
    have n2 : rw ≠ Pt := fun e => by rw [e, e'] at h3; cases h3
    exact ⟨T.put H t h1 ok, ⟨n, by rw [upd_ne n1]; exact h2⟩, by rw [upd_ne n2]; exact h3, h4⟩⟩
theorem tabs_box {W : Wo} {base : Heap} {mg : Str → Option Value} {K : PySem.W.Frag} {bx rw : Addr} {row : List Int} (T : Tabs W base mg K) : Tabs (W.box bx rw row) base mg K := ⟨fun x hx => tabW_box (T.t x hx)⟩
noncomputable def Wo.dP (W : Wo) : Addr → Bool := fun b => @decide (W.wob b) (Classical.propDecidable _)
theorem Wo.dP_iff {W : Wo} {b : Addr} : W.dP b = true ↔ W.wob b := @decide_eq_true_iff _ (Classical.propDecidable _)
/-- what the law asks at its call, and gives -/
def spLaw (K : PySem.W.Frag) (ps : List Addr) : Sp := fun vs H Q _ => ∃ (a : Addr) (ns : List Int), vs = [.ref a] ∧ (∀ q ∈ ps, GxR.TabG H q) ∧ SqL K H a (ns.map V.int) ∧ a ∉ ps ∧ ∀ H', Q (.bl true) H'
section
variable {P : Program} {w : World} {K : PySem.W.Frag} {mg : Str → Option Value} {base : Heap}
theorem law_body (E : Hd K mg) {ps : List Addr} (T : Tabs (Wo.tab ps) base mg K) {f : Addr} {cdv : Value} {A : Around} {outer : List Env} {s : Shared} {H : Hp} {E' : XK} {Q : VK} {vs : List V} (hG : A.guards = some []) (hr : Room 14 (A.deeper (envOfC "law" (defScope (top 120)) s.heap.objs.size f cdv))) (hsp : spLaw K ps vs H Q E') :
    wS (cxOf CX0 P w K mg base lawN "law" (defScope (top 120)) f cdv A outer s H E').nox (defBody (top 120)) { nx := fun _ H' => Q .non H', rt := Q } (L2.start lawN vs) H := by
  obtain ⟨a, ns, rfl, hT, hS, hna, hQ⟩ := hsp
  have nd := sc_law.nd
  -- the first statement, where only the tables are set aside
  have hz : DDs K (msk (fun b => decide (b ∈ ps)) H) [.ref a] [frzD ns] := by
    refine .cons (.frz ?_) .nil
    rcases hS with (h | ⟨o, h⟩) | h
    · exact .inl (.inl (msk_of (decide_eq_false hna) h))
    · exact .inl (.inr ⟨o, msk_of (decide_eq_false hna) h⟩)
    · exact .inr h
  have o0 : Ok ⟨K, Wo.tab ps, H, fun b => decide (b ∈ ps)⟩ (fun b => decide (b ∈ ps)) H (L2.start lawN [.ref a]) (ini lawN [frzD ns]) := start_ok hz hT (fun b hb => (Wo.tab ps).dom H b hT (show b ∈ ps from of_decide_eq_true hb)) (fun b hb => decide_eq_true (show b ∈ ps from hb))
  rw [ini_eq] at o0
  have hcall : EVc (cxOf CX0 P w K mg base lawN "law" (defScope (top 120)) f cdv A outer s H E').nox ⟨K, Wo.tab ps, H, fun b => decide (b ∈ ps)⟩ (.Call (.Name "_law_box" ⟨641, 20, 641, 28⟩) [.Name "_law_script" ⟨641, 29, 641, 40⟩, .Constant (.int 0) 0 ⟨641, 42, 641, 43⟩, .Constant (.int 50) 0 ⟨641, 45, 641, 47⟩] [] ⟨641, 20, 641, 48⟩) (iniL lawN [frzD ns]) (fun d => ∃ r : List Int, d = .list [.list (r.map .int), .int 0]) :=
    evc_callC (k__law_box E) hr (by decide) (evcs_of (evs_cons (ev_var 0 rfl) (evs_cons ev_int (evs_one ev_int)))) fun ds e => ⟨⟨ns, e, fun r => ⟨r, rfl⟩⟩, by rw [e]; rfl⟩
  refine w_pss (pss_cons ps_w pss_w) (w_ps (ps_set (i := 1) nd rfl (Or.inl rfl) pe_w rfl (.inl rfl)) ?_)
  refine hcall rfl _ _ H o0 _ fun d v H1 hd e1 ok1 z => ?_
  obtain ⟨r, rfl⟩ := hd
  obtain ⟨bx, us, rfl, hbP, hb, hus⟩ := z.lst_at
  cases hus with
  | cons z1 z2 =>
    cases z2 with
    | cons z2 z3 =>
      cases z2
      cases z3
      obtain ⟨rw, us2, rfl, hrP, hr1, hus2⟩ := z1.lst_at
      have hu : us2 = r.map V.int := hus2.ints
      subst hu
      have hbn : bx ∉ ps := of_decide_eq_false hbP
      have W1ok : ((Wo.tab ps).box bx rw r).ok H1 := ⟨ok1, ⟨0, hb⟩, hr1, hbn⟩
      have o1 : Ok ⟨K, (Wo.tab ps).box bx rw r, H1, ((Wo.tab ps).box bx rw r).dP⟩ (((Wo.tab ps).box bx rw r).dP) H1 ((L2.start lawN [.ref a]).set 1 (some (.ref bx))) [.no, .pu (opqD bx), .no, .no, .no, .no, .no, .no, .no, .no, .no, .no] := by
        refine ⟨Ext.refl _ _, W1ok, fun b hb' => ((Wo.tab ps).box bx rw r).dom H1 b W1ok (Wo.dP_iff.mp hb'), fun b hb' => Wo.dP_iff.mpr hb', fun _ h => h, fun b h => .inl h, rfl, fun i x e => ?_, fun i j ds es p e2 _ _ _ => ?_⟩
        · match i, e with
          | 0, e => cases e; trivial
          | 1, e => cases e; exact ⟨_, rfl, .opq bx⟩
          | 2, e => cases e; trivial
          | 3, e => cases e; trivial
          | 4, e => cases e; trivial
          | 5, e => cases e; trivial
          | 6, e => cases e; trivial
          | 7, e => cases e; trivial
          | 8, e => cases e; trivial
          | 9, e => cases e; trivial
          | 10, e => cases e; trivial
          | 11, e => cases e; trivial
          | n + 12, e => cases e
        · match i, e2 with
          | 0, e => cases e
          | 1, e => cases e
          | 2, e => cases e
          | 3, e => cases e
          | 4, e => cases e
          | 5, e => cases e
          | 6, e => cases e
          | 7, e => cases e
          | 8, e => cases e
          | 9, e => cases e
          | 10, e => cases e
          | 11, e => cases e
          | n + 12, e => cases e
      have key := law_tail (P := P) (w := w) (W := (Wo.tab ps).box bx rw r) (H1 := H1) (P1 := ((Wo.tab ps).box bx rw r).dP) E (tabs_box T) rfl (f := f) (cdv := cdv) (A := A) (outer := outer) (s := s) (H := H) (E' := E') hG hr (p := fun d => d = .bool true) rfl
      refine key rfl _ _ H1 o1 _ ⟨fun _ _ _ _ z => (nomatch z), fun d v H' hd _ _ z => ?_, fun _ _ _ _ z => z.elim, fun _ _ _ _ z => z.elim⟩
      subst hd
      cases z
      exact hQ H'
theorem fnG_law (E : Hd K mg) {ps : List Addr} (T : Tabs (Wo.tab ps) base mg K) {f : Addr} {fd : FuncData} (F : FunD K "law" "law" (defArgs (top 120)) (defBody (top 120)) (defScope (top 120)) [] [] f fd) : FnG P w K mg base 15 f fd ["_law_script"] (spLaw K ps) :=
  fnG_of F sc_law (fun vs H Q E h => by obtain ⟨_, _, rfl, _⟩ := h; rfl) fun cdv A outer s H vs Q E' hG hr hsp => ⟨_, PSs.nox pss_w, law_body E T hG hr hsp⟩
end
end RT
end
section
set_option Elab.async false
set_option linter.all false
set_option maxRecDepth 100000
set_option maxHeartbeats 2000000
/-! E1: the call of the law by its caller. -/
namespace RT
open PySem PySem.Spec PyProof.Rows L2
abbrev tabObj : Obj := { cls := .none, data := .fields #[] }
abbrev scrObj (vs : List Value) : Obj := { cls := .type "list", data := .seq vs.toArray }
/-- what is tracked at the call: the tables, and the script where K does not hold it -/
structure AtCall (K : PySem.W.Frag) (tb : List Addr) (a : Addr) (vs : List Value) (ns : List Int) (H : Hp) : Prop where
  tab : ∀ b ∈ tb, H b = some (.tbl #[])
  out : ∀ b, b ∉ tb → H b = none ∨ (b = a ∧ K.lookup a = none ∧ H b = some (.frz (scrObj vs) (.lst (ns.map V.int))))
theorem law_endG {P : Program} {w : World} {K : PySem.W.Frag} {mg mb : Str → Option Value} {k : Nat} {fa a : Addr} {cs : List (Addr × Addr)} {fd : FuncData} {x : Str} {s1 : Shared} {vs : List Value} {ns : List Int}
    (kin : K.In s1.heap) (glob : s1.heap.Ns mainGlobals mg) (blt : s1.heap.Ns builtinsNs mb) (bltE : ∀ y : Str, y ≠ "__name__" → mb y = bootBuiltins y) (nolim : s1.heap.NoLimit) (nogens : s1.gens = #[])
    (tabs : ∀ z ∈ cs, s1.heap.get? z.2 = some tabObj) (tabsK : ∀ z ∈ cs, K.lookup z.2 = none) (heads : ∀ z ∈ cs, PySem.W.CodeHd s1.heap z.1 z.2)
    (bmod : ∃ (bm : Addr) (ob : Obj), mg "__builtins__" = some (.ref bm) ∧ bm ≠ builtinsNs ∧ s1.heap.get? bm = some ob ∧ ob.cls = .type "module" ∧ ob.dict = some builtinsNs ∧ ob.data = .plain)
    (scr : s1.heap.get? a = some (scrObj vs)) (whole : IntsAre vs ns) (short : ns.length ≤ sizeLine) (room : Room k callerA)
    (F : ∀ base : Heap, K.In base → base.Ns mainGlobals mg → (∀ z ∈ cs, GxR.TabB base mg z.1 z.2) → FnG P w K mg base k fa fd [x] (spLaw K (cs.map (·.2))))
    (bind : ∀ (s : Shared) (u : Value), BindsTo s fd ⟨[u], []⟩ [(x, u)]) :
    codeAny (model P w) callerA (.call (.ref fa) ⟨[.ref a], []⟩) (fun r s' => r = .ok (.ret (.bool true)) ∧ OldK s1.heap s'.heap ∧ s'.os = s1.os ∧ AllBare s'.gens) s1 := by
  have ivals := vals_ints whole
  have ilen := whole.length
  have tabAt : ∀ b ∈ cs.map (·.2), s1.heap.get? b = some tabObj := by
    intro b hb
    obtain ⟨z, hz, rfl⟩ := List.mem_map.mp hb
    exact tabs z hz
  have inTb : ∀ z ∈ cs, z.2 ∈ cs.map (·.2) := fun z hz => List.mem_map_of_mem hz
  have scrOut : a ∉ cs.map (·.2) := by
    intro h
    have e := (tabAt a h).symm.trans scr
    have e2 : Data.fields #[] = Data.seq vs.toArray _ := congrArg Obj.data (Option.some.inj e)
    exact nomatch e2
  have main : ∀ H : Hp, AtCall K (cs.map (·.2)) a vs ns H → SqL K H a (ns.map V.int) → codeAny (model P w) callerA (.call (.ref fa) ⟨[.ref a], []⟩) (fun r s' => r = .ok (.ret (.bool true)) ∧ OldK s1.heap s'.heap ∧ s'.os = s1.os ∧ AllBare s'.gens) s1 := by
    intro H T S
    -- objects that are neither a table nor the script are not tracked
    have free : ∀ {b : Addr} {o : Obj}, s1.heap.get? b = some o → o ≠ tabObj → o ≠ scrObj vs → H b = none := by
      intro b o e n1 n2
      by_cases hb : b ∈ cs.map (·.2)
      · have e2 := (tabAt b hb).symm.trans e
        exact absurd (Option.some.inj e2).symm n1
      · rcases T.out b hb with h | ⟨rfl, _, _⟩
        · exact h
        · have e2 := scr.symm.trans e
          exact absurd (Option.some.inj e2).symm n2
    have down : ∀ {b : Addr} {o : Obj}, s1.heap.get? b = some o → o ≠ tabObj → o ≠ scrObj vs → (hidT s1.heap H).get? b = some o := fun e n1 n2 => hidT_get e (free e n1 n2)
    have spaces : ∀ {b : Addr} {m : Str → Option Value}, s1.heap.Ns b m → (hidT s1.heap H).Ns b m := by
      rintro b m ⟨o, es, ep, e, d, r⟩
      refine ⟨o, es, ep, down e ?_ ?_, d, r⟩
      · rintro rfl; cases d
      · rintro rfl; cases d
    have kbase : K.In (hidT s1.heap H) := by
      intro b o e
      refine hidT_get (kin b o e) ?_
      by_cases hb : b ∈ cs.map (·.2)
      · obtain ⟨z, hz, rfl⟩ := List.mem_map.mp hb
        rw [tabsK z hz] at e
        cases e
      · rcases T.out b hb with h | ⟨rfl, h, _⟩
        · exact h
        · rw [h] at e
          cases e
    have lim : (hidT s1.heap H).NoLimit := by
      obtain ⟨mc, l1, l2⟩ := nolim
      exact ⟨mc, spaces l1, l2⟩
    have md : L2.Mod K mg (hidT s1.heap H) := ⟨kbase, spaces glob, ⟨mb, spaces blt, bltE⟩, lim⟩
    have tbs : ∀ z ∈ cs, GxR.TabB (hidT s1.heap H) mg z.1 z.2 := by
      intro z hz
      constructor
      · obtain ⟨o, us, f1, f2, f3, f4, f5, f6, f7, e, r1, r2, r3, rest⟩ := heads z hz
        refine ⟨o, us, f1, f2, f3, f4, f5, f6, f7, down e ?_ ?_, r1, r2, r3, rest⟩
        · rintro rfl
          cases r2
          simp at r3
        · rintro rfl
          cases r2
      · obtain ⟨bm, ob, q1, q2, q3, q4, q5, q6⟩ := bmod
        refine ⟨bm, ob, q1, q2, ?_, ?_, down q3 ?_ ?_, q4, q5, q6⟩
        · rintro rfl
          obtain ⟨o, es, ep, e, d, _⟩ := glob
          rw [q3] at e
          cases e
          rw [q6] at d
          cases d
        · rintro rfl
          rw [tabs z hz] at q3
          cases q3
          cases q6
        · rintro rfl; cases q6
        · rintro rfl; cases q6
      · intro e
        obtain ⟨o, es, ep, e2, d, _⟩ := glob
        rw [e, tabs z hz] at e2
        cases e2
        cases d
    have held : HOk P w H s1.heap := by
      intro b u e
      by_cases hb : b ∈ cs.map (·.2)
      · rw [T.tab b hb] at e
        cases e
        exact tabAt b hb
      · rcases T.out b hb with h | ⟨rfl, _, h⟩
        · rw [h] at e; cases e
        · rw [h] at e
          cases e
          exact ⟨scr, by rw [List.length_map]; exact short, vs, _, ivals, scr⟩
    have start : Env0 P w K mg (hidT s1.heap H) callerA [] s1 H :=
      ⟨rfl, md, fun b o e => of_hidT e, Nat.le_of_eq (hidT_size _ _), trivial, fun b hb => (nomatch hb), held, .of_eq nogens⟩
    have call := (F _ kbase (spaces glob) tbs).go callerA [] s1 H ⟨[.ref a], []⟩ [.ref a] [.ref a] (fun v _ => v = .bl true) E0 rfl room start (bind s1 (.ref a)) (.cons rfl .nil)
      ⟨a, ns, rfl, fun q hq => ⟨#[], T.tab q hq, trivial⟩, S, scrOut, fun _ => rfl⟩
    refine codeAny_mono call fun r s' hr => ?_
    match r, hr with
    | .ok (.ret u), hr =>
      obtain ⟨v, H', os, bare, un, held', rv, rfl⟩ := hr
      obtain rfl : u = Value.bool true := rv
      have same : ∀ b o, b ∉ cs.map (·.2) → s1.heap.get? b = some o → s'.heap.get? b = some o := by
        intro b o hb e
        rcases T.out b hb with h | ⟨rfl, _, h⟩
        · exact un.keep b o e h (fun z => nomatch z) (fun z => nomatch z)
        · have e2 := (held' b _ (un.frzs b _ _ h)).1
          have e3 := scr.symm.trans e
          rw [← Option.some.inj e3]
          exact e2
      have grown : ∀ b ∈ cs.map (·.2), ∃ more : Array Value, s'.heap.get? b = some { cls := .none, data := .fields (#[] ++ more) } := by
        intro b hb
        obtain ⟨more, h⟩ := un.tbls b #[] (T.tab b hb)
        exact ⟨more, held' b _ h⟩
      refine ⟨rfl, ⟨fun b o e => ?_, fun b o e => ?_⟩, os, bare⟩
      · by_cases hb : b ∈ cs.map (·.2)
        · obtain ⟨more, hm⟩ := grown b hb
          have e2 := (tabAt b hb).symm.trans e
          obtain rfl := Option.some.inj e2
          obtain ⟨z, hz, rfl⟩ := List.mem_map.mp hb
          exact .inr (.inl ⟨((heads z hz).tab (tabs z hz)).isCodeTable, rfl, #[], more, rfl, hm⟩)
        · exact .inl (same b o hb e)
      · by_cases hb : b ∈ cs.map (·.2)
        · obtain ⟨more, hm⟩ := grown b hb
          exact ⟨_, hm⟩
        · exact ⟨o, same b o hb e⟩
  -- where the script stands
  cases hk : K.lookup a with
  | some o =>
    have e := (kin a o hk).symm.trans scr
    obtain rfl := Option.some.inj e
    refine main (fun b => if b ∈ cs.map (·.2) then some (.tbl #[]) else none) ⟨fun b hb => if_pos hb, fun b hb => .inl (if_neg hb)⟩ (.inr ⟨_, vs.toArray, _, hk, rfl, rfl, rfl, ?_, ?_⟩)
    · rw [List.size_toArray, ilen]; exact short
    · simpa using ivals
  | none =>
    refine main (fun b => if b ∈ cs.map (·.2) then some (.tbl #[]) else if b = a then some (.frz (scrObj vs) (.lst (ns.map V.int))) else none) ⟨fun b hb => if_pos hb, fun b hb => ?_⟩ (.inl (.inr ⟨scrObj vs, ?_⟩))
    · by_cases hba : b = a
      · exact .inr ⟨hba, hk, by show (if b ∈ cs.map (·.2) then _ else _) = _; rw [if_neg hb, if_pos hba]⟩
      · exact .inl (by show (if b ∈ cs.map (·.2) then _ else _) = _; rw [if_neg hb, if_neg hba])
    · show (if a ∈ cs.map (·.2) then _ else _) = _
      rw [if_neg scrOut, if_pos rfl]
end RT
end
section
set_option Elab.async false
set_option linter.all false
set_option maxRecDepth 100000
set_option maxHeartbeats 4000000
/-! F1: the law holds. -/
namespace RT
open PySem PySem.Spec PyProof.Rows L2
theorem at_name : ∀ d ∈ fns, d.at_ = (d.name, none) := by
  have h : (fns.all fun d => decide (d.at_ = (d.name, none))) = true := by decide +kernel
  intro d hd
  exact of_decide_eq_true (List.all_eq_true.mp h d hd)
theorem twoB_ok {K : PySem.W.Frag} {a : Addr} {i j : Int} (h : twoB K a i j = true) (H : Hp) : DD K H (.ref a) (.tuple [.int i, .int j]) := by
  unfold twoB at h
  split at h
  · rename_i c od its n sl e
    rw [Bool.and_eq_true] at h
    have hc := of_decide_eq_true h.1
    subst hc
    have h2 := h.2
    split at h2
    · rename_i x t1 y t2 e2
      rw [Bool.and_eq_true] at h2
      have hx := of_decide_eq_true h2.1
      have hy := of_decide_eq_true h2.2
      subst hx
      subst hy
      refine .tup (xs := [.int x, .int y]) (.inr ⟨_, its, n, e, rfl, rfl, ?_, ?_⟩) (.cons (.int _) (.cons (.int _) .nil))
      · have : its.size = 2 := by rw [← Array.length_toList, e2]; rfl
        rw [this]; decide
      · rw [e2]
        exact .cons ⟨_, rfl⟩ (.cons ⟨_, rfl⟩ .nil)
    · cases h2
  · cases h
theorem idnB_ok {K : PySem.W.Frag} {a : Addr} (h : idnB K a = true) (H : Hp) : DD K H (.ref a) (mp ⟨1, 0, 0, 1, 0, 0⟩) := by
  unfold idnB at h
  split at h
  · rename_i c od its n sl e
    rw [Bool.and_eq_true] at h
    have hc := of_decide_eq_true h.1
    subst hc
    have h2 := h.2
    split at h2
    · rename_i a1 a2 a3 a4 a5 a6 e2
      simp only [Bool.and_eq_true] at h2
      obtain ⟨⟨⟨⟨⟨h1, h2⟩, h3⟩, h4⟩, h5⟩, h6⟩ := h2
      refine .tup (xs := [.ref a1, .ref a2, .ref a3, .ref a4, .ref a5, .ref a6]) (.inr ⟨_, its, n, e, rfl, rfl, ?_, ?_⟩) (.cons (twoB_ok h1 H) (.cons (twoB_ok h2 H) (.cons (twoB_ok h3 H) (.cons (twoB_ok h4 H) (.cons (twoB_ok h5 H) (.cons (twoB_ok h6 H) .nil))))))
      · have : its.size = 6 := by rw [← Array.length_toList, e2]; rfl
        rw [this]; decide
      · rw [e2]
        exact .cons rfl (.cons rfl (.cons rfl (.cons rfl (.cons rfl (.cons rfl .nil)))))
    · cases h2
  · cases h
theorem hd_of {K : PySem.W.Frag} {mg : Str → Option Value} {h : Heap} {w : World} (kin : K.In h) (glob : h.Ns mainGlobals mg) (c : He.SaysX faL fns [] tfL exK w h K) : Hd K mg := by
  have D : He.SaysD faL fns K := c.t.d
  have ex := c.more
  unfold exK at ex
  rw [Bool.and_eq_true, Bool.and_eq_true] at ex
  have g : ∀ x, He.Fa.glo x ∈ faL → mg x = some (.ref (He.ga K x)) := fun x hx => He.glo_ok kin glob (D.facts hx)
  have inA : ∀ {f : He.Fa}, f ∈ (fns.map fun d => He.Fa.glo d.name) ++ [He.Fa.glo "ZERO", He.Fa.glo "ONE", He.Fa.glo "IDENTITY"] → f ∈ faL := fun hf => List.mem_append_left _ hf
  refine ⟨fun d hd => D.defs hd, fun d hd => ?_, fun x hx => He.free_ok kin glob (D.facts (f := .free x) (List.mem_append_right _ (List.mem_map_of_mem hx))), ⟨_, g "ZERO" (inA (List.mem_append_right _ (by simp))), twoB_ok ex.1.1⟩, ⟨_, g "ONE" (inA (List.mem_append_right _ (by simp))), twoB_ok ex.1.2⟩, ⟨_, g "IDENTITY" (inA (List.mem_append_right _ (by simp))), idnB_ok ex.2⟩⟩
  rw [at_name d hd]
  exact g d.name (inA (List.mem_append_left _ (List.mem_map.mpr ⟨d, hd, rfl⟩)))
abbrev rwL := PySem.Challenge.rw_raytrain_k44_edges_that_are_not_needed
theorem walkL : PySem.W.WalkO (PySem.W.view Ro.prog [120]) nms (PySem.W.XL (PySem.W.view Ro.prog [120]) []) hkL.says rwL.row.toRowW (HandSHeadRun.topDef Ro.prog 120) [] (fun f vs => PySem.call f vs) := by
  refine Att.attach_callB (l := rwL) (n := 63) rfl (by kernel_rfl) fun w s0 s1 mg mb fa o pm cd doc a vs ns G Y ho hd hcd hmg hobj hints hlen hbits hg => ?_
  obtain ⟨K, kin, c⟩ := Y
  have E := hd_of kin G.T.g c
  have hlaw : dOf 120 "law" [] ∈ fns := List.mem_of_getElem? (i := 98) rfl
  obtain ⟨fd, F⟩ := E.def_ _ hlaw
  have gl := E.glo _ hlaw
  have hm : mg ("law" : PySem.Str) = some (.ref fa) := by
    have e : (HandSHeadRun.topDef Ro.prog 120).name = ("law" : PySem.Str) := by kernel_rfl
    rw [← e]
    exact hmg
  have F' : FunD K "law" "law" (defArgs (top 120)) (defBody (top 120)) (defScope (top 120)) [] [] fa fd := by
    have e : some (Value.ref (He.fAd K ("law", none))) = some (Value.ref fa) := gl.symm.trans hm
    have e2 : He.fAd K ("law", none) = fa := by injection e with e; injection e
    rw [← e2]
    exact F
  have bnd := FunD.bindsA (ps := ["_law_script"]) F' fun _ _ _ _ _ _ us hl => match us, hl with | [_], _ => rfl
  refine law_endG (k := 15) (x := "_law_script") (cs := tfL.map fun p => He.cT K p) kin G.T.g G.T.b G.T.builtins G.T.nolimit hg ?_ ?_ ?_ G.T.bmain hobj hints (Nat.le_trans hlen (by decide)) ⟨rfl, by decide, by decide⟩ (fun base kb gb tb => ?_) (fun s u => bnd s [u] rfl)
  · intro z hz
    obtain ⟨p, hp, rfl⟩ := List.mem_map.mp hz
    exact c.empty p hp
  · intro z hz
    obtain ⟨p, hp, rfl⟩ := List.mem_map.mp hz
    exact c.out p hp
  · intro z hz
    obtain ⟨p, hp, rfl⟩ := List.mem_map.mp hz
    exact PySem.W.codeHd_of_K kin (c.hd p hp)
  · refine fnG_law E ⟨fun x hx => ?_⟩ F'
    have hz : He.cT K (x, none) ∈ tfL.map fun p => He.cT K p := List.mem_map.mpr ⟨(x, none), List.mem_map_of_mem hx, rfl⟩
    exact tabW_tab (tb _ hz) (List.mem_map_of_mem hz)
end RT
end
open PySem PySem.W PySem.Calls PyProof.Rows
set_option maxRecDepth 100000 in
set_option maxHeartbeats 8000000 in
theorem PySem.Challenge.cw_raytrain_k44_edges_that_are_not_needed_holds : PySem.Challenge.rw_raytrain_k44_edges_that_are_not_needed.Holds := by
  w_on; o_law
  refine HandSHeadRun.head_any (r := OpenLaw.row PySem.Challenge.rw_raytrain_k44_edges_that_are_not_needed) (q := view RT.Ro.prog [120]) (H := RT.hkL) (ob := RT.obL) (M := 20000) (loose := RT.nms) (d := HandSHeadRun.topDef RT.Ro.prog 120) (kwd := []) RT.obL_eq
    (by kernel_rfl) (fun s => by kernel_rfl) RT.runL (by kernel_rfl) (by kernel_rfl) (by kernel_rfl) (by rfl) (by first | assumption | decide +kernel) (by decide +kernel) ⟨rfl, rfl, rfl, rfl, rfl, by decide +kernel⟩ ?hw RT.walkL
  case hw => w_witness2
