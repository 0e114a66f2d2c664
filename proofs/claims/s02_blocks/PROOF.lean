import PyProof.Rows.All
import Wide.All
import OpenK.AllK
import Wide.FinOn
import Open.SpecLaws
import KE.OsGo
import HandS.ForSpec
import HandS.Comp
import HandS.Iter
import HandS.Walk
import HandS.Wide
import PySem.Challenge.RW_risingfits_s02_blocks
set_option Elab.async false
set_option maxRecDepth 100000
set_option maxHeartbeats 2000000

/-! Mirror of the program over plain Lean (ints and lists), and the mathematics: the mirror answers as the specification. -/
namespace RF
open Ks604 (Rational)
/-! ### 1. The mirror -/
abbrev P2 := Int × Int
abbrev P3 := Int × Int × Int
def isWithin (n lo hi : Int) : Bool := decide (lo ≤ n) && decide (n ≤ hi)
def areWithin (ns : List Int) (lo hi : Int) : Bool := ns.all fun n => isWithin n lo hi
def unflat : List Int → List P2
  | a :: b :: r => (a, b) :: unflat r
  | _ => []
def okM (ns : List Int) : Bool :=
  decide (ns.length % 2 = 0) && isWithin ((ns.length / 2 : Nat) : Int) 1 10 && areWithin ((unflat ns).map (·.1)) 0 999 && areWithin ((unflat ns).map (·.2)) 1 9
def blockOf (p : P2) : P3 := (1, p.2, p.2 * p.1)
def joined (a b : P3) : P3 := (a.1 + b.1, a.2.1 + b.2.1, a.2.2 + b.2.2)
def meanOf (b : P3) : P2 := (b.2.2, b.2.1)
def isAtMost (a b : P3) : Bool := decide (a.2.2 * b.2.1 ≤ b.2.2 * a.2.1)
/-- the last block first -/
def mergedR : Nat → List P3 → List P3
  | 0, l => l
  | _ + 1, [] => []
  | _ + 1, [x] => [x]
  | n + 1, x :: y :: r => if isAtMost x y = true then mergedR n (joined y x :: r) else x :: y :: r
def merged (l : List P3) : List P3 := (mergedR l.length l.reverse).reverse
def blocksOf (ps : List P2) : List P3 := ps.foldl (fun l p => merged (l ++ [blockOf p])) []
def fitsOf (bs : List P3) : List P2 := bs.flatMap fun b => List.replicate b.1.toNat (meanOf b)
def wholeBlock (ps : List P2) : P3 := match ps with
  | [] => (0, 0, 0)
  | p :: r => r.foldl (fun b q => joined b (blockOf q)) (blockOf p)
def gcdI (a b : Int) : Int := ((Int.gcd a b : Nat) : Int)
def reduced (p : P2) : P2 := (p.1 / gcdI p.1 p.2, p.2 / gcdI p.1 p.2)
def added (p q : P2) : P2 := (p.1 * q.2 + q.1 * p.2, p.2 * q.2)
def totalOf (ps : List P2) : P2 := ps.foldl (fun t p => reduced (added t p)) (0, 1)
def flat2 (ps : List P2) : List Int := ps.flatMap fun p => [p.1, p.2]
def shown (ps : List P2) : List Int := flat2 (ps.map reduced)
def oneError (p e : P2) : P2 := (p.2 * (e.1 - p.1 * e.2) * (e.1 - p.1 * e.2), e.2 * e.2)
def errorOf (ps es : List P2) : P2 := totalOf (List.zipWith oneError ps es)
def isNondec (ns : List Int) : Bool := (List.range (ns.length - 1)).all fun i => !decide (ns.getD (i + 1) 0 < ns.getD i 0)
def descentsOf (ps : List P2) : Int := (((List.range (ps.length - 1)).filter fun i => decide ((ps.getD (i + 1) (0, 0)).1 < (ps.getD i (0, 0)).1)).length : Nat)
def withValue (ps : List P2) (i : Nat) (v : Int) : List P2 := ps.take i ++ [(v, (ps.getD i (0, 0)).2)] ++ ps.drop (i + 1)
def firstReach (v : Int) (ps : List P2) : Option Nat := (List.range ps.length).find? fun i => decide ((ps.getD i (0, 1)).1 ≥ v * (ps.getD i (0, 1)).2)

def isotonicFit (ns : List Int) : List Int :=
  if okM ns = true then
    ([((unflat ns).length : Int)] ++ shown (fitsOf (blocksOf (unflat ns)))) ++ shown [errorOf (unflat ns) (fitsOf (blocksOf (unflat ns)))]
  else [-22]
def blocks (ns : List Int) : List Int :=
  if okM ns = true then ([((blocksOf (unflat ns)).length : Int)] ++ (blocksOf (unflat ns)).map (·.1)) ++ [descentsOf (unflat ns)] else [-22]
def squaredError (den : Int) (ns vs : List Int) : List Int :=
  if okM ns = true then
    if isWithin den 1 99 = true then
      if vs.length = (unflat ns).length ∧ areWithin vs 0 99999 = true then
        [if isNondec vs = true then 1 else 0] ++ shown [errorOf (unflat ns) (vs.map fun v => (v, den))]
      else [-22]
    else [-22]
  else [-22]
def fitIfValue (index value : Int) (ns : List Int) : List Int :=
  if okM ns = true then
    if isWithin index 0 (((unflat ns).length : Int) - 1) = true then
      if isWithin value 0 999 = true then
        [((unflat ns).length : Int)] ++ shown (fitsOf (blocksOf (withValue (unflat ns) index.toNat value)))
      else [-22]
    else [-2]
  else [-22]
def firstReaching (value : Int) (ns : List Int) : List Int :=
  if okM ns = true then
    match firstReach value (fitsOf (blocksOf (unflat ns))) with
    | some i => [(i : Int)]
    | none => [-33]
  else [-22]
def rangeMean (first last : Int) (ns : List Int) : List Int :=
  if okM ns = true then
    if isWithin first 0 (((unflat ns).length : Int) - 1) = true ∧ isWithin last 0 (((unflat ns).length : Int) - 1) = true then
      if last < first then [-22]
      else [0] ++ shown [meanOf (wholeBlock (((unflat ns).drop first.toNat).take ((last + 1).toNat - first.toNat)))]
    else [-2]
  else [-22]

/-! ### 2. Requests: the list of ints read as measurements -/
theorem isWithin_iff {n lo hi : Int} : isWithin n lo hi = true ↔ lo ≤ n ∧ n ≤ hi := by
  unfold isWithin
  rw [Bool.and_eq_true, decide_eq_true_eq, decide_eq_true_eq]
def toM (p : P2) : Ks607.Measurement := ⟨p.1.toNat, p.2.toNat⟩
/-- one measurement's limits -/
def Ok1 (p : P2) : Prop := 0 ≤ p.1 ∧ p.1 ≤ 999 ∧ 1 ≤ p.2 ∧ p.2 ≤ 9
theorem parse_some : ∀ (ns : List Int), (∀ n ∈ ns, 0 ≤ n) → ns.length % 2 = 0 → (∀ p ∈ unflat ns, Ok1 p) →
    Ks607.parseSequence (ns.map Int.toNat) = some ((unflat ns).map toM)
  | [], _, _, _ => rfl
  | [_], _, h, _ => by simp at h
  | a :: b :: r, h0, h, hp => by
    have ih := parse_some r (fun n hn => h0 n (by simp [hn])) (by simp only [List.length_cons] at h; omega) (fun p hq => hp p (List.mem_cons_of_mem _ hq))
    obtain ⟨q0, q1, q2, q3⟩ := hp (a, b) List.mem_cons_self
    have e : Ks607.isValidMeasurement a.toNat b.toNat = true := by
      unfold Ks607.isValidMeasurement
      simp only [Bool.and_eq_true, decide_eq_true_eq]
      omega
    simp only [List.map_cons, Ks607.parseSequence, e, if_true, ih, unflat]
    rfl
theorem parse_inv : ∀ (ns : List Int), (∀ n ∈ ns, 0 ≤ n) → ∀ s, Ks607.parseSequence (ns.map Int.toNat) = some s → ns.length % 2 = 0 ∧ (∀ p ∈ unflat ns, Ok1 p) ∧ s.length = ns.length / 2
  | [], _, s, h => by
    have e : [] = s := Option.some.inj h
    subst e
    exact ⟨rfl, (fun p hp => nomatch hp), rfl⟩
  | [_], _, s, h => by cases h
  | a :: b :: r, h0, s, h => by
    simp only [List.map_cons, Ks607.parseSequence] at h
    split at h
    · rename_i e
      cases q : Ks607.parseSequence (r.map Int.toNat) with
      | none => rw [q] at h; cases h
      | some s' =>
        rw [q] at h
        have e2 := Option.some.inj h
        subst e2
        obtain ⟨i1, i2, i3⟩ := parse_inv r (fun n hn => h0 n (by simp [hn])) s' q
        have ha := h0 a (by simp)
        have hb := h0 b (by simp)
        unfold Ks607.isValidMeasurement at e
        simp only [Bool.and_eq_true, decide_eq_true_eq] at e
        refine ⟨by simp only [List.length_cons]; omega, fun p hp => ?_, ?_⟩
        · rcases List.mem_cons.mp hp with rfl | hp
          · exact ⟨ha, by show a ≤ 999; omega, by show 1 ≤ b; omega, by show b ≤ 9; omega⟩
          · exact i2 p hp
        · simp only [List.length_cons, i3]; omega
    · cases h
theorem unflat_length : ∀ ns : List Int, (unflat ns).length = ns.length / 2
  | [] => rfl
  | [_] => by simp [unflat]
  | a :: b :: r => by
    simp only [unflat, List.length_cons, unflat_length r]
    omega
theorem okM_iff {ns : List Int} : okM ns = true ↔ ns.length % 2 = 0 ∧ (1 ≤ (unflat ns).length ∧ (unflat ns).length ≤ 10) ∧ ∀ p ∈ unflat ns, Ok1 p := by
  unfold okM areWithin
  simp only [Bool.and_eq_true, decide_eq_true_eq, isWithin_iff, List.all_eq_true, List.mem_map, unflat_length]
  constructor
  · rintro ⟨⟨⟨h1, h2⟩, h3⟩, h4⟩
    refine ⟨h1, by omega, fun p hp => ?_⟩
    have a := h3 p.1 ⟨p, hp, rfl⟩
    have b := h4 p.2 ⟨p, hp, rfl⟩
    exact ⟨a.1, a.2, b.1, b.2⟩
  · rintro ⟨h1, h2, h3⟩
    refine ⟨⟨⟨h1, by omega⟩, ?_⟩, ?_⟩
    · rintro _ ⟨p, hp, rfl⟩
      exact ⟨(h3 p hp).1, (h3 p hp).2.1⟩
    · rintro _ ⟨p, hp, rfl⟩
      exact ⟨(h3 p hp).2.2.1, (h3 p hp).2.2.2⟩
/-- what withSequence does -/
theorem with_ok {ns : List Int} (h0 : ∀ n ∈ ns, 0 ≤ n) (h : okM ns = true) (f : Ks607.Sequence → Ks607.Result) : Ks607.withSequence (ns.map Int.toNat) f = f ((unflat ns).map toM) := by
  obtain ⟨h1, h2, h3⟩ := okM_iff.mp h
  unfold Ks607.withSequence
  rw [parse_some ns h0 h1 h3]
  show (if ((unflat ns).map toM).length < 1 ∨ Ks607.maxMeasurements < ((unflat ns).map toM).length then _ else _) = _
  rw [if_neg]
  rw [List.length_map]
  show ¬ ((unflat ns).length < 1 ∨ 10 < (unflat ns).length)
  omega
theorem with_no {ns : List Int} (h0 : ∀ n ∈ ns, 0 ≤ n) (h : ¬ okM ns = true) (f : Ks607.Sequence → Ks607.Result) : Ks607.withSequence (ns.map Int.toNat) f = Ks607.number (-22) := by
  unfold Ks607.withSequence
  cases q : Ks607.parseSequence (ns.map Int.toNat) with
  | none => rfl
  | some s =>
    obtain ⟨i1, i2, i3⟩ := parse_inv ns h0 s q
    show (if s.length < 1 ∨ Ks607.maxMeasurements < s.length then _ else _) = _
    rw [if_pos]
    show s.length < 1 ∨ 10 < s.length
    have l := unflat_length ns
    by_cases c : 1 ≤ (unflat ns).length ∧ (unflat ns).length ≤ 10
    · exact absurd (okM_iff.mpr ⟨i1, c, i2⟩) h
    · omega
/-! ### 3. Rational numbers -/
/-- in lowest terms -/
def Low (q : Rational) : Prop := 0 < q.den ∧ Nat.gcd q.num.natAbs q.den = 1
/-- q is n / d -/
def Is (q : Rational) (n d : Int) : Prop := q.num * d = n * (q.den : Int)
theorem gcd_pos {n : Int} {d : Nat} (hd : 0 < d) : 0 < Nat.gcd n.natAbs d := Nat.gcd_pos_of_pos_right _ hd
theorem make_eq {n : Int} {d : Nat} (hd : 0 < d) : Rational.make n d = ⟨n / ((Nat.gcd n.natAbs d : Nat) : Int), d / Nat.gcd n.natAbs d⟩ := by
  unfold Rational.make
  rw [if_neg (by omega)]
theorem make_facts {n : Int} {d : Nat} (hd : 0 < d) : ∃ (g m : Int) (e : Nat), 0 < g ∧ n = m * g ∧ (d : Int) = (e : Int) * g ∧ Rational.make n d = ⟨m, e⟩ ∧ 0 < e ∧ Nat.gcd m.natAbs e = 1 := by
  have hg := gcd_pos (n := n) hd
  have d1 : ((Nat.gcd n.natAbs d : Nat) : Int) ∣ n := Int.dvd_natAbs.mp (Int.natCast_dvd_natCast.mpr (Nat.gcd_dvd_left _ _))
  have d2 : Nat.gcd n.natAbs d ∣ d := Nat.gcd_dvd_right _ _
  refine ⟨((Nat.gcd n.natAbs d : Nat) : Int), n / ((Nat.gcd n.natAbs d : Nat) : Int), d / Nat.gcd n.natAbs d, by omega, (Int.ediv_mul_cancel d1).symm, ?_, make_eq hd, ?_, ?_⟩
  · rw [← Int.natCast_mul, Nat.div_mul_cancel d2]
  · exact Nat.div_pos (Nat.le_of_dvd hd d2) hg
  · rw [Int.natAbs_ediv_of_dvd d1, Int.natAbs_natCast]
    exact Nat.gcd_div_gcd_div_gcd_of_pos_right hd
theorem make_low {n : Int} {d : Nat} (hd : 0 < d) : Low (Rational.make n d) := by
  obtain ⟨g, m, e, _, _, _, q, h1, h2⟩ := make_facts (n := n) hd
  rw [q]
  exact ⟨h1, h2⟩
theorem make_is {n : Int} {d : Nat} (hd : 0 < d) : Is (Rational.make n d) n d := by
  obtain ⟨g, m, e, h0, h1, h2, q, _, _⟩ := make_facts (n := n) hd
  rw [q]
  show m * (d : Int) = n * (e : Int)
  rw [h1, h2, Int.mul_assoc, Int.mul_comm g]
theorem eq_of {a b d : Int} (hd : d ≠ 0) (h : a * d = b * d) : a = b := Int.eq_of_mul_eq_mul_right hd h
/-- one number has one form in lowest terms -/
theorem low_unique {p q : Rational} {n d : Int} (hp : Low p) (hq : Low q) (hd : d ≠ 0) (h1 : Is p n d) (h2 : Is q n d) : p = q := by
  obtain ⟨pn, pd⟩ := p
  obtain ⟨qn, qd⟩ := q
  obtain ⟨hp0, hp1⟩ := hp
  obtain ⟨hq0, hq1⟩ := hq
  have h1 : pn * d = n * (pd : Int) := h1
  have h2 : qn * d = n * (qd : Int) := h2
  have hp0 : 0 < pd := hp0
  have hq0 : 0 < qd := hq0
  have hp1 : Nat.gcd pn.natAbs pd = 1 := hp1
  have hq1 : Nat.gcd qn.natAbs qd = 1 := hq1
  have e : pn * (qd : Int) = qn * (pd : Int) := by
    apply Int.eq_of_mul_eq_mul_right hd
    rw [Int.mul_right_comm, h1, Int.mul_right_comm qn, h2, Int.mul_right_comm]
  have e2 : pn.natAbs * qd = qn.natAbs * pd := by
    have := congrArg Int.natAbs e
    rwa [Int.natAbs_mul, Int.natAbs_mul, Int.natAbs_natCast, Int.natAbs_natCast] at this
  have a1 : pd ∣ qd := by
    have : pd ∣ qd * pn.natAbs := ⟨qn.natAbs, by rw [Nat.mul_comm, e2, Nat.mul_comm]⟩
    exact Nat.Coprime.dvd_of_dvd_mul_right (by rw [Nat.Coprime, Nat.gcd_comm]; exact hp1) this
  have a2 : qd ∣ pd := by
    have : qd ∣ pd * qn.natAbs := ⟨pn.natAbs, by rw [Nat.mul_comm, ← e2, Nat.mul_comm]⟩
    exact Nat.Coprime.dvd_of_dvd_mul_right (by rw [Nat.Coprime, Nat.gcd_comm]; exact hq1) this
  have ed : pd = qd := Nat.dvd_antisymm a1 a2
  subst ed
  have en : pn = qn := Int.eq_of_mul_eq_mul_right (by omega) e
  rw [en]
theorem make_of {q : Rational} {n : Int} {d : Nat} (hq : Low q) (hd : 0 < d) (h : Is q n d) : q = Rational.make n d :=
  low_unique hq (make_low hd) (by omega) h (make_is hd)
/-- the program's fraction in lowest terms is the specification's -/
theorem reduced_make {n d : Int} (hd : 0 < d) : (Rational.make n d.toNat).num = (reduced (n, d)).1 ∧ ((Rational.make n d.toNat).den : Int) = (reduced (n, d)).2 := by
  have e : ((d.toNat : Nat) : Int) = d := Int.toNat_of_nonneg (by omega)
  have hg : Nat.gcd n.natAbs d.toNat = Int.gcd n d := by
    show _ = Nat.gcd n.natAbs d.natAbs
    congr 1
    omega
  rw [make_eq (by omega)]
  refine ⟨?_, ?_⟩
  · show n / _ = n / gcdI n d
    rw [hg]; rfl
  · show ((d.toNat / Nat.gcd n.natAbs d.toNat : Nat) : Int) = d / gcdI n d
    rw [hg, Int.natCast_ediv, e]; rfl
theorem is_ofNat (v : Nat) : Is (Rational.ofNat v) v 1 := by
  show (v : Int) * 1 = (v : Int) * ((1 : Nat) : Int)
  rfl
theorem low_ofNat (v : Nat) : Low (Rational.ofNat v) := ⟨by show 0 < 1; omega, by show Nat.gcd _ 1 = 1; exact Nat.gcd_one_right _⟩
theorem low_zero : Low Rational.zero := ⟨by show 0 < 1; omega, by show Nat.gcd _ 1 = 1; exact Nat.gcd_one_right _⟩
theorem is_zero : Is Rational.zero 0 1 := rfl
theorem add_low {a b : Rational} (ha : Low a) (hb : Low b) : Low (a + b) := make_low (Nat.mul_pos ha.1 hb.1)
theorem mul_low {a b : Rational} (ha : Low a) (hb : Low b) : Low (a * b) := make_low (Nat.mul_pos ha.1 hb.1)
theorem neg_low {a : Rational} (ha : Low a) : Low (Rational.neg a) := ⟨ha.1, by
  show Nat.gcd (-a.num).natAbs a.den = 1
  rw [Int.natAbs_neg]
  exact ha.2⟩
theorem sub_low {a b : Rational} (ha : Low a) (hb : Low b) : Low (a - b) := add_low (b := Rational.neg b) ha (neg_low hb)
theorem add_is {a b : Rational} {n d n' d' : Int} (ha : Low a) (hb : Low b) (h : Is a n d) (h' : Is b n' d') : Is (a + b) (n * d' + n' * d) (d * d') := by
  have m := make_is (n := a.num * b.den + b.num * a.den) (d := a.den * b.den) (Nat.mul_pos ha.1 hb.1)
  have hr : a + b = Rational.make (a.num * b.den + b.num * a.den) (a.den * b.den) := rfl
  rw [← hr] at m
  generalize a + b = r at m
  obtain ⟨an, ad⟩ := a
  obtain ⟨bn, bd⟩ := b
  obtain ⟨rn, rd⟩ := r
  have h0 : 0 < ad := ha.1
  have h1 : 0 < bd := hb.1
  have h : an * d = n * (ad : Int) := h
  have h' : bn * d' = n' * (bd : Int) := h'
  have m : rn * ((ad * bd : Nat) : Int) = (an * (bd : Int) + bn * (ad : Int)) * (rd : Int) := m
  show rn * (d * d') = (n * d' + n' * d) * (rd : Int)
  have z : (ad : Int) * (bd : Int) ≠ 0 := by
    have := Nat.mul_pos h0 h1
    rw [← Int.natCast_mul]; omega
  apply Int.eq_of_mul_eq_mul_right z
  rw [Int.natCast_mul] at m
  grind
theorem neg_is {a : Rational} {n d : Int} (h : Is a n d) : Is (Rational.neg a) (-n) d := by
  have h : a.num * d = n * (a.den : Int) := h
  show -a.num * d = -n * (a.den : Int)
  rw [Int.neg_mul, Int.neg_mul, h]
theorem sub_is {a b : Rational} {n d n' d' : Int} (ha : Low a) (hb : Low b) (h : Is a n d) (h' : Is b n' d') : Is (a - b) (n * d' + -n' * d) (d * d') :=
  add_is (b := Rational.neg b) ha (neg_low hb) h (neg_is h')
theorem mul_is {a b : Rational} {n d n' d' : Int} (ha : Low a) (hb : Low b) (h : Is a n d) (h' : Is b n' d') : Is (a * b) (n * n') (d * d') := by
  have m := make_is (n := a.num * b.num) (d := a.den * b.den) (Nat.mul_pos ha.1 hb.1)
  have hr : a * b = Rational.make (a.num * b.num) (a.den * b.den) := rfl
  rw [← hr] at m
  generalize a * b = r at m
  obtain ⟨an, ad⟩ := a
  obtain ⟨bn, bd⟩ := b
  obtain ⟨rn, rd⟩ := r
  have h0 : 0 < ad := ha.1
  have h1 : 0 < bd := hb.1
  have h : an * d = n * (ad : Int) := h
  have h' : bn * d' = n' * (bd : Int) := h'
  have m : rn * ((ad * bd : Nat) : Int) = (an * bn) * (rd : Int) := m
  show rn * (d * d') = (n * n') * (rd : Int)
  have z : (ad : Int) * (bd : Int) ≠ 0 := by
    have := Nat.mul_pos h0 h1
    rw [← Int.natCast_mul]; omega
  apply Int.eq_of_mul_eq_mul_right z
  rw [Int.natCast_mul] at m
  grind
/-- order -/
theorem le_is {a b : Rational} {n d n' d' : Int} (ha : Low a) (hb : Low b) (hd : 0 < d) (hd' : 0 < d') (h : Is a n d) (h' : Is b n' d') : Rational.le a b = decide (n * d' ≤ n' * d) := by
  obtain ⟨an, ad⟩ := a
  obtain ⟨bn, bd⟩ := b
  have h0 : 0 < ad := ha.1
  have h1 : 0 < bd := hb.1
  have h : an * d = n * (ad : Int) := h
  have h' : bn * d' = n' * (bd : Int) := h'
  show decide (an * (bd : Int) ≤ bn * (ad : Int)) = _
  rw [decide_eq_decide]
  have z : (0 : Int) < d * d' := Int.mul_pos hd hd'
  have z2 : (0 : Int) < (ad : Int) * (bd : Int) := by
    have := Nat.mul_pos h0 h1
    rw [← Int.natCast_mul]; omega
  have e1 : (an * (bd : Int)) * (d * d') = (n * d') * ((ad : Int) * (bd : Int)) := by grind
  have e2 : (bn * (ad : Int)) * (d * d') = (n' * d) * ((ad : Int) * (bd : Int)) := by grind
  constructor
  · intro q
    have := Int.mul_le_mul_of_nonneg_right q (Int.le_of_lt z)
    rw [e1, e2] at this
    exact Int.le_of_mul_le_mul_right this z2
  · intro q
    have := Int.mul_le_mul_of_nonneg_right q (Int.le_of_lt z2)
    rw [← e1, ← e2] at this
    exact Int.le_of_mul_le_mul_right this z
end RF

namespace RF
open Ks604 (Rational)
/-! ### 4. Blocks -/
def toB (b : P3) : Ks607.Block := (b.1.toNat, b.2.1.toNat, b.2.2.toNat)
def toR (p : P2) : Rational := Rational.make p.1 p.2.toNat
/-- a block's bounds -/
def Good (b : P3) : Prop := 1 ≤ b.1 ∧ b.1 ≤ b.2.1 ∧ b.2.1 ≤ 9 * b.1 ∧ 0 ≤ b.2.2 ∧ b.2.2 ≤ 8991 * b.1
def sizes (bs : List P3) : Int := (bs.map (·.1)).sum
theorem good_blockOf {p : P2} (h : Ok1 p) : Good (blockOf p) := by
  obtain ⟨v, w⟩ := p
  obtain ⟨h1, h2, h3, h4⟩ := h
  have h1 : 0 ≤ v := h1
  have h2 : v ≤ 999 := h2
  have h3 : 1 ≤ w := h3
  have h4 : w ≤ 9 := h4
  refine ⟨Int.le_refl 1, h3, by show w ≤ 9 * 1; omega, Int.mul_nonneg (by omega) h1, ?_⟩
  show w * v ≤ 8991 * 1
  exact Int.le_trans (Int.mul_le_mul h4 h2 h1 (by omega)) (by decide)
theorem good_joined {a b : P3} (ha : Good a) (hb : Good b) : Good (joined a b) := by
  obtain ⟨a1, a2, a3, a4, a5⟩ := ha
  obtain ⟨b1, b2, b3, b4, b5⟩ := hb
  refine ⟨?_, ?_, ?_, ?_, ?_⟩
  · show 1 ≤ a.1 + b.1; omega
  · show a.1 + b.1 ≤ a.2.1 + b.2.1; omega
  · show a.2.1 + b.2.1 ≤ 9 * (a.1 + b.1); omega
  · show 0 ≤ a.2.2 + b.2.2; omega
  · show a.2.2 + b.2.2 ≤ 8991 * (a.1 + b.1); omega
theorem sizes_nil : sizes [] = 0 := rfl
theorem sizes_cons (b : P3) (l : List P3) : sizes (b :: l) = b.1 + sizes l := by
  unfold sizes
  rw [List.map_cons, List.sum_cons]
theorem sizes_append (l m : List P3) : sizes (l ++ m) = sizes l + sizes m := by
  unfold sizes
  rw [List.map_append, List.sum_append]
theorem sizes_reverse (l : List P3) : sizes l.reverse = sizes l := by
  induction l with
  | nil => rfl
  | cons b l ih => rw [List.reverse_cons, sizes_append, ih, sizes_cons, sizes_cons, sizes_nil]; omega
theorem good_reverse {l : List P3} (h : ∀ b ∈ l, Good b) : ∀ b ∈ l.reverse, Good b := fun b hb => h b (List.mem_reverse.mp hb)
theorem sizes_ge {l : List P3} (h : ∀ b ∈ l, Good b) : (l.length : Int) ≤ sizes l := by
  induction l with
  | nil => exact Int.le_refl 0
  | cons b l ih =>
    have := ih fun x hx => h x (List.mem_cons_of_mem _ hx)
    have q := (h b List.mem_cons_self).1
    rw [sizes_cons, List.length_cons]
    omega
theorem size_le {l : List P3} (h : ∀ b ∈ l, Good b) {b : P3} (hb : b ∈ l) : b.1 ≤ sizes l := by
  induction l with
  | nil => cases hb
  | cons c l ih =>
    have hl : ∀ b ∈ l, Good b := fun x hx => h x (List.mem_cons_of_mem _ hx)
    have q := (h c List.mem_cons_self).1
    have z := sizes_ge hl
    rw [sizes_cons]
    rcases List.mem_cons.mp hb with rfl | hb
    · omega
    · have := ih hl hb; omega
/-- many blocks: each is good, together at most ten measurements -/
def GoodL (l : List P3) : Prop := (∀ b ∈ l, Good b) ∧ sizes l ≤ 10
theorem mergedR_good : ∀ (n : Nat) (l : List P3), (∀ b ∈ l, Good b) → (∀ b ∈ mergedR n l, Good b) ∧ sizes (mergedR n l) = sizes l
  | 0, l, h => ⟨h, rfl⟩
  | _ + 1, [], h => ⟨h, rfl⟩
  | _ + 1, [x], h => ⟨h, rfl⟩
  | n + 1, x :: y :: r, h => by
    unfold mergedR
    split
    · have hx := h x List.mem_cons_self
      have hy := h y (List.mem_cons_of_mem _ List.mem_cons_self)
      obtain ⟨i1, i2⟩ := mergedR_good n (joined y x :: r) fun b hb => by
        rcases List.mem_cons.mp hb with rfl | hb
        · exact good_joined hy hx
        · exact h b (List.mem_cons_of_mem _ (List.mem_cons_of_mem _ hb))
      refine ⟨i1, ?_⟩
      rw [i2, sizes_cons, sizes_cons, sizes_cons]
      show y.1 + x.1 + sizes r = _
      omega
    · exact ⟨h, rfl⟩
theorem merged_good {l : List P3} (h : ∀ b ∈ l, Good b) : (∀ b ∈ merged l, Good b) ∧ sizes (merged l) = sizes l := by
  obtain ⟨i1, i2⟩ := mergedR_good l.length l.reverse (good_reverse h)
  exact ⟨good_reverse i1, by unfold merged; rw [sizes_reverse, i2, sizes_reverse]⟩
theorem blocksOf_goodFrom : ∀ (ps : List P2) (l : List P3), (∀ p ∈ ps, Ok1 p) → (∀ b ∈ l, Good b) →
    (∀ b ∈ ps.foldl (fun l p => merged (l ++ [blockOf p])) l, Good b) ∧ sizes (ps.foldl (fun l p => merged (l ++ [blockOf p])) l) = sizes l + (ps.length : Int)
  | [], l, _, h => ⟨h, by show sizes l = sizes l + ((0 : Nat) : Int); omega⟩
  | p :: ps, l, hp, h => by
    have g : ∀ b ∈ l ++ [blockOf p], Good b := fun b hb => by
      rcases List.mem_append.mp hb with hb | hb
      · exact h b hb
      · rw [List.mem_singleton.mp hb]; exact good_blockOf (hp p List.mem_cons_self)
    obtain ⟨i1, i2⟩ := merged_good g
    obtain ⟨j1, j2⟩ := blocksOf_goodFrom ps (merged (l ++ [blockOf p])) (fun q hq => hp q (List.mem_cons_of_mem _ hq)) i1
    refine ⟨j1, ?_⟩
    rw [List.foldl_cons, j2, i2, sizes_append, sizes_cons, sizes_nil, List.length_cons]
    show sizes l + (1 + 0) + _ = _
    omega
theorem blocksOf_good {ps : List P2} (hp : ∀ p ∈ ps, Ok1 p) : (∀ b ∈ blocksOf ps, Good b) ∧ sizes (blocksOf ps) = (ps.length : Int) := by
  obtain ⟨h1, h2⟩ := blocksOf_goodFrom ps [] hp fun b hb => nomatch hb
  exact ⟨h1, by rw [sizes_nil] at h2; unfold blocksOf; omega⟩
theorem toB_joined {a b : P3} (ha : Good a) (hb : Good b) : toB (joined a b) = ((toB a).1 + (toB b).1, (toB a).2.1 + (toB b).2.1, (toB a).2.2 + (toB b).2.2) := by
  obtain ⟨a1, a2, a3, a4, a5⟩ := ha
  obtain ⟨b1, b2, b3, b4, b5⟩ := hb
  show ((a.1 + b.1).toNat, (a.2.1 + b.2.1).toNat, (a.2.2 + b.2.2).toNat) = (a.1.toNat + b.1.toNat, a.2.1.toNat + b.2.1.toNat, a.2.2.toNat + b.2.2.toNat)
  rw [Int.toNat_add (by omega) (by omega), Int.toNat_add (by omega) (by omega), Int.toNat_add (by omega) (by omega)]
theorem toB_blockOf {p : P2} (h : Ok1 p) : toB (blockOf p) = (1, (toM p).weight, (toM p).weight * (toM p).value) := by
  obtain ⟨h1, h2, h3, h4⟩ := h
  show ((1 : Int).toNat, p.2.toNat, (p.2 * p.1).toNat) = (1, p.2.toNat, p.2.toNat * p.1.toNat)
  rw [Int.toNat_mul (by omega) (by omega)]
  rfl
theorem mean_toB {b : P3} (h : Good b) : Ks607.blockMean (toB b) = toR (meanOf b) := by
  obtain ⟨a1, a2, a3, a4, a5⟩ := h
  show Rational.make ((b.2.2.toNat : Nat) : Int) b.2.1.toNat = Rational.make b.2.2 b.2.1.toNat
  rw [Int.toNat_of_nonneg a4]
theorem toR_is {p : P2} (h : 0 < p.2) : Low (toR p) ∧ Is (toR p) p.1 p.2 := by
  have e : ((p.2.toNat : Nat) : Int) = p.2 := Int.toNat_of_nonneg (by omega)
  have d : 0 < p.2.toNat := by omega
  refine ⟨make_low d, ?_⟩
  have q := make_is (n := p.1) d
  rw [e] at q
  exact q
theorem le_blocks {a b : P3} (ha : Good a) (hb : Good b) : Rational.le (Ks607.blockMean (toB a)) (Ks607.blockMean (toB b)) = isAtMost a b := by
  rw [mean_toB ha, mean_toB hb]
  have pa : 0 < (meanOf a).2 := by obtain ⟨a1, a2, _⟩ := ha; show 0 < a.2.1; omega
  have pb : 0 < (meanOf b).2 := by obtain ⟨a1, a2, _⟩ := hb; show 0 < b.2.1; omega
  obtain ⟨l1, i1⟩ := toR_is pa
  obtain ⟨l2, i2⟩ := toR_is pb
  exact le_is l1 l2 pa pb i1 i2
theorem push_is : ∀ (l : List P3) (b : P3) (n : Nat), l.length ≤ n → (∀ x ∈ b :: l, Good x) → (mergedR n (b :: l)).map toB = Ks607.pushBlock l.length (l.map toB) (toB b)
  | [], b, 0, _, _ => rfl
  | [], b, _ + 1, _, _ => rfl
  | y :: r, b, 0, h, _ => by simp at h
  | y :: r, b, n + 1, h, hg => by
    have hb := hg b List.mem_cons_self
    have hy := hg y (List.mem_cons_of_mem _ List.mem_cons_self)
    have ih := push_is r (joined y b) n (by simp only [List.length_cons] at h; omega) fun x hx => by
      rcases List.mem_cons.mp hx with rfl | hx
      · exact good_joined hy hb
      · exact hg x (List.mem_cons_of_mem _ (List.mem_cons_of_mem _ hx))
    rw [toB_joined hy hb] at ih
    show (if isAtMost b y = true then mergedR n (joined y b :: r) else b :: y :: r).map toB =
      (if Rational.le (Ks607.blockMean (toB b)) (Ks607.blockMean (toB y)) = true then Ks607.pushBlock r.length (r.map toB) ((toB y).1 + (toB b).1, (toB y).2.1 + (toB b).2.1, (toB y).2.2 + (toB b).2.2) else toB b :: toB y :: r.map toB)
    rw [le_blocks hb hy]
    split
    · exact ih
    · rfl
theorem merged_is {l : List P3} {b : P3} (h : ∀ x ∈ l ++ [b], Good x) : ((merged (l ++ [b])).map toB).reverse = Ks607.pushBlock (l.reverse.map toB).length (l.reverse.map toB) (toB b) := by
  unfold merged
  rw [List.map_reverse, List.reverse_reverse, List.reverse_append, List.length_append, List.length_map]
  show (mergedR (l.length + 1) (b :: l.reverse)).map toB = _
  refine push_is l.reverse b _ (by rw [List.length_reverse]; omega) fun x hx => h x ?_
  rcases List.mem_cons.mp hx with rfl | hx
  · exact List.mem_append_right _ List.mem_cons_self
  · exact List.mem_append_left _ (List.mem_reverse.mp hx)
theorem blocks_from : ∀ (ps : List P2) (l : List P3), (∀ p ∈ ps, Ok1 p) → (∀ b ∈ l, Good b) →
    ((ps.foldl (fun l p => merged (l ++ [blockOf p])) l).map toB).reverse = (ps.map toM).foldl (fun blocks m => Ks607.pushBlock blocks.length blocks (1, m.weight, m.weight * m.value)) (l.map toB).reverse
  | [], l, _, _ => rfl
  | p :: ps, l, hp, h => by
    have hp0 := hp p List.mem_cons_self
    have g : ∀ b ∈ l ++ [blockOf p], Good b := fun b hb => by
      rcases List.mem_append.mp hb with hb | hb
      · exact h b hb
      · rw [List.mem_singleton.mp hb]; exact good_blockOf hp0
    have ih := blocks_from ps (merged (l ++ [blockOf p])) (fun q hq => hp q (List.mem_cons_of_mem _ hq)) (merged_good g).1
    rw [List.foldl_cons, ih, List.map_cons, List.foldl_cons, merged_is g, toB_blockOf hp0, List.map_reverse]
theorem blocks_is {ps : List P2} (hp : ∀ p ∈ ps, Ok1 p) : Ks607.blocksOf (ps.map toM) = (blocksOf ps).map toB := by
  have q := blocks_from ps [] hp fun b hb => nomatch hb
  unfold Ks607.blocksOf
  show (List.foldl _ (([] : List P3).map toB).reverse _).reverse = _
  rw [← q, List.reverse_reverse]
  rfl
theorem fits_map {bs : List P3} (h : ∀ b ∈ bs, Good b) : ((bs.map toB).flatMap fun b => List.replicate b.1 (Ks607.blockMean b)) = (fitsOf bs).map toR := by
  induction bs with
  | nil => rfl
  | cons b r ih =>
    have ih := ih fun x hx => h x (List.mem_cons_of_mem _ hx)
    unfold fitsOf at ih ⊢
    rw [List.map_cons, List.flatMap_cons, ih, List.flatMap_cons, List.map_append, List.map_replicate, mean_toB (h b List.mem_cons_self)]
    rfl
theorem fit_is {ps : List P2} (hp : ∀ p ∈ ps, Ok1 p) : Ks607.isotonicFit (ps.map toM) = (fitsOf (blocksOf ps)).map toR := by
  unfold Ks607.isotonicFit
  rw [blocks_is hp]
  exact fits_map (blocksOf_good hp).1
theorem fits_length {bs : List P3} (h : ∀ b ∈ bs, Good b) : ((fitsOf bs).length : Int) = sizes bs := by
  induction bs with
  | nil => rfl
  | cons b r ih =>
    have ih := ih fun x hx => h x (List.mem_cons_of_mem _ hx)
    have q := (h b List.mem_cons_self).1
    unfold fitsOf at ih ⊢
    rw [List.flatMap_cons, List.length_append, List.length_replicate, sizes_cons]
    omega
/-- a fraction's bounds, as they come of blocks and of sequences -/
def OkF (p : P2) : Prop := 0 ≤ p.1 ∧ p.1 ≤ 99999 ∧ 1 ≤ p.2 ∧ p.2 ≤ 99
theorem fits_ok {bs : List P3} (h : GoodL bs) : ∀ p ∈ fitsOf bs, OkF p := fun p hp => by
  obtain ⟨b, hb, hp⟩ := List.mem_flatMap.mp hp
  have e := (List.mem_replicate.mp hp).2
  subst e
  obtain ⟨a1, a2, a3, a4, a5⟩ := h.1 b hb
  have z := size_le h.1 hb
  have z2 := h.2
  exact ⟨a4, by show b.2.2 ≤ 99999; omega, by show 1 ≤ b.2.1; omega, by show b.2.1 ≤ 99; omega⟩
/-! ### 5. What is shown -/
theorem pairs_shown {ps : List P2} (h : ∀ p ∈ ps, 0 < p.2) : Ks604.pairs (ps.map toR) = shown ps := by
  induction ps with
  | nil => rfl
  | cons p r ih =>
    have ih := ih fun x hx => h x (List.mem_cons_of_mem _ hx)
    obtain ⟨e1, e2⟩ := reduced_make (n := p.1) (h p List.mem_cons_self)
    unfold Ks604.pairs shown flat2 at ih ⊢
    rw [List.map_cons, List.flatMap_cons, ih, List.map_cons, List.flatMap_cons]
    show [(Rational.make p.1 p.2.toNat).num, ((Rational.make p.1 p.2.toNat).den : Int)] ++ _ = _
    rw [e1, e2]
theorem pairs_one {q : Rational} {t : P2} (hq : Low q) (ht : 0 < t.2) (h : Is q t.1 t.2) : Ks604.pairs [q] = shown [t] := by
  have e : ((t.2.toNat : Nat) : Int) = t.2 := Int.toNat_of_nonneg (by omega)
  have : q = toR t := make_of hq (by omega) (by rw [e]; exact h)
  rw [this]
  exact pairs_shown (ps := [t]) fun p hp => by rw [List.mem_singleton.mp hp]; exact ht
theorem pairs_append (a b : List Rational) : Ks604.pairs (a ++ b) = Ks604.pairs a ++ Ks604.pairs b := by
  unfold Ks604.pairs
  rw [List.flatMap_append]
/-! ### 6. Squared errors -/
theorem gcdI_pos {a b : Int} (hb : 0 < b) : 0 < gcdI a b := by
  unfold gcdI
  have : 0 < Nat.gcd a.natAbs b.natAbs := Nat.gcd_pos_of_pos_right _ (by omega)
  show 0 < ((Nat.gcd a.natAbs b.natAbs : Nat) : Int)
  omega
theorem reduced_mul {p : P2} : (reduced p).1 * gcdI p.1 p.2 = p.1 ∧ (reduced p).2 * gcdI p.1 p.2 = p.2 :=
  ⟨Int.ediv_mul_cancel (Int.gcd_dvd_left ..), Int.ediv_mul_cancel (Int.gcd_dvd_right ..)⟩
theorem reduced_pos {p : P2} (h : 0 < p.2) : 0 < (reduced p).2 := by
  have g := gcdI_pos (a := p.1) h
  have e := (reduced_mul (p := p)).2
  rcases Int.lt_trichotomy 0 (reduced p).2 with c | c | c
  · exact c
  · rw [← c, Int.zero_mul] at e; omega
  · have := Int.mul_neg_of_neg_of_pos c g; omega
theorem reduced_is {q : Rational} {p : P2} (hp : 0 < p.2) (h : Is q p.1 p.2) : Is q (reduced p).1 (reduced p).2 := by
  have g := gcdI_pos (a := p.1) hp
  obtain ⟨e1, e2⟩ := reduced_mul (p := p)
  have h : q.num * p.2 = p.1 * (q.den : Int) := h
  show q.num * (reduced p).2 = (reduced p).1 * (q.den : Int)
  apply Int.eq_of_mul_eq_mul_right (show gcdI p.1 p.2 ≠ 0 by omega)
  rw [Int.mul_assoc, e2, h, Int.mul_right_comm, e1]
theorem totalOf_snoc (l : List P2) (x : P2) : totalOf (l ++ [x]) = reduced (added (totalOf l) x) := by
  unfold totalOf
  rw [List.foldl_append]
  rfl
theorem take_snoc {α : Type} {l : List α} {i : Nat} (h : i < l.length) : l.take (i + 1) = l.take i ++ [l[i]] := by
  rw [List.take_add_one, List.getElem?_eq_getElem h]
  rfl
/-- the specification's loop -/
def specErr (s : Ks607.Sequence) (values : List Rational) (k : Nat) : Rational :=
  (List.range k).foldl (fun total i =>
    let d := values.getD i Rational.zero - Rational.ofNat (Ks607.measurementAt s i).value
    total + Rational.ofNat (Ks607.measurementAt s i).weight * (d * d)) Rational.zero
theorem err_is {ps es : List P2} (hl : es.length = ps.length) (hp : ∀ p ∈ ps, 0 ≤ p.1 ∧ 0 ≤ p.2) (he : ∀ e ∈ es, 0 < e.2) : ∀ k, k ≤ ps.length →
    Low (specErr (ps.map toM) (es.map toR) k) ∧ 0 < (totalOf ((List.zipWith oneError ps es).take k)).2 ∧
      Is (specErr (ps.map toM) (es.map toR) k) (totalOf ((List.zipWith oneError ps es).take k)).1 (totalOf ((List.zipWith oneError ps es).take k)).2
  | 0, _ => by
    refine ⟨low_zero, ?_, ?_⟩
    · show (0 : Int) < 1; omega
    · exact is_zero
  | k + 1, hk => by
    obtain ⟨i1, i2, i3⟩ := err_is hl hp he k (by omega)
    have k1 : k < ps.length := by omega
    have k2 : k < es.length := by omega
    have k3 : k < (List.zipWith oneError ps es).length := by rw [List.length_zipWith]; omega
    rw [take_snoc k3, totalOf_snoc, List.getElem_zipWith]
    have es1 : specErr (ps.map toM) (es.map toR) (k + 1) = specErr (ps.map toM) (es.map toR) k +
        Rational.ofNat (ps[k].2.toNat) * ((toR es[k] - Rational.ofNat (ps[k].1.toNat)) * (toR es[k] - Rational.ofNat (ps[k].1.toNat))) := by
      have m : Ks607.measurementAt (ps.map toM) k = toM ps[k] := by
        unfold Ks607.measurementAt
        rw [List.getD_eq_getElem?_getD, List.getElem?_map, List.getElem?_eq_getElem k1]
        rfl
      have v : (es.map toR).getD k Rational.zero = toR es[k] := by
        rw [List.getD_eq_getElem?_getD, List.getElem?_map, List.getElem?_eq_getElem k2]
        rfl
      unfold specErr
      rw [List.range_succ, List.foldl_append]
      show _ + Rational.ofNat (Ks607.measurementAt (ps.map toM) k).weight * (((es.map toR).getD k Rational.zero - Rational.ofNat (Ks607.measurementAt (ps.map toM) k).value) * ((es.map toR).getD k Rational.zero - Rational.ofNat (Ks607.measurementAt (ps.map toM) k).value)) = _
      rw [m, v]
      rfl
    rw [es1]
    obtain ⟨q1, q2⟩ := hp ps[k] (List.getElem_mem k1)
    have q3 := he es[k] (List.getElem_mem k2)
    generalize specErr (ps.map toM) (es.map toR) k = Q at i1 i3 ⊢
    generalize totalOf ((List.zipWith oneError ps es).take k) = T at i2 i3 ⊢
    generalize ps[k] = p at q1 q2 ⊢
    generalize es[k] = e at q3 ⊢
    obtain ⟨l1, r1⟩ := toR_is q3
    have lv := low_ofNat p.1.toNat
    have rv := is_ofNat p.1.toNat
    rw [Int.toNat_of_nonneg q1] at rv
    have lw := low_ofNat p.2.toNat
    have rw_ := is_ofNat p.2.toNat
    rw [Int.toNat_of_nonneg q2] at rw_
    have ld := sub_low l1 lv
    have rd := sub_is l1 lv r1 rv
    have ldd := mul_low ld ld
    have rdd := mul_is ld ld rd rd
    have lt := mul_low lw ldd
    have rt := mul_is lw ldd rw_ rdd
    have ltot := add_low i1 lt
    have rtot := add_is i1 lt i3 rt
    have pd : 0 < (oneError p e).2 := Int.mul_pos q3 q3
    have pt : 0 < (added T (oneError p e)).2 := Int.mul_pos i2 pd
    refine ⟨ltot, reduced_pos pt, reduced_is pt ?_⟩
    have e1 : (oneError p e).1 = p.2 * ((e.1 * 1 + -p.1 * e.2) * (e.1 * 1 + -p.1 * e.2)) := by
      show p.2 * (e.1 - p.1 * e.2) * (e.1 - p.1 * e.2) = _
      grind
    have e2 : (oneError p e).2 = 1 * (e.2 * 1 * (e.2 * 1)) := by
      show e.2 * e.2 = _
      grind
    show Is _ (T.1 * (oneError p e).2 + (oneError p e).1 * T.2) (T.2 * (oneError p e).2)
    rw [e1, e2]
    exact rtot
theorem error_is {ps es : List P2} (hl : es.length = ps.length) (hp : ∀ p ∈ ps, Ok1 p) (he : ∀ e ∈ es, 0 < e.2) :
    Ks604.pairs [Ks607.squaredError (ps.map toM) (es.map toR)] = shown [errorOf ps es] := by
  obtain ⟨h1, h2, h3⟩ := err_is hl (fun p h => ⟨(hp p h).1, by have := (hp p h).2.2.1; omega⟩) he ps.length (Nat.le_refl _)
  rw [List.take_of_length_le (by rw [List.length_zipWith]; omega)] at h2 h3
  have e : Ks607.squaredError (ps.map toM) (es.map toR) = specErr (ps.map toM) (es.map toR) ps.length := by
    unfold Ks607.squaredError specErr
    rw [List.length_map]
  rw [e]
  exact pairs_one h1 h2 h3
/-! ### 7. Order, descents, first reaching, ranges, another value -/
theorem all_range {n : Nat} {p : Nat → Bool} : (List.range n).all p = true ↔ ∀ i, i < n → p i = true := by
  rw [List.all_eq_true]
  exact ⟨fun h i hi => h i (List.mem_range.mpr hi), fun h i hi => h i (List.mem_range.mp hi)⟩
theorem isNondec_cons (a b : Int) (r : List Int) : isNondec (a :: b :: r) = (decide (a ≤ b) && isNondec (b :: r)) := by
  rw [Bool.eq_iff_iff, Bool.and_eq_true]
  unfold isNondec
  rw [all_range, all_range]
  simp only [List.length_cons, Nat.add_sub_cancel]
  constructor
  · intro h
    refine ⟨?_, fun i hi => ?_⟩
    · have := h 0 (by omega)
      simp at this
      simpa using this
    · have := h (i + 1) (by omega)
      simpa using this
  · rintro ⟨h0, h⟩ i hi
    cases i with
    | zero => simpa using h0
    | succ i => have := h i (by omega); simpa using this
theorem nondec_is {den : Int} (hd : 0 < den) : ∀ (vs : List Int), Ks607.isNondecreasing (vs.map fun v => toR (v, den)) = isNondec vs
  | [] => rfl
  | [a] => rfl
  | a :: b :: r => by
    have ih := nondec_is hd (b :: r)
    obtain ⟨l1, i1⟩ := toR_is (p := (a, den)) hd
    obtain ⟨l2, i2⟩ := toR_is (p := (b, den)) hd
    have e := le_is l1 l2 hd hd i1 i2
    have e2 : decide (a * den ≤ b * den) = decide (a ≤ b) := by
      rw [decide_eq_decide]
      exact ⟨fun h => Int.le_of_mul_le_mul_right h hd, fun h => Int.mul_le_mul_of_nonneg_right h (Int.le_of_lt hd)⟩
    rw [isNondec_cons, ← ih, ← e2, ← e]
    unfold Ks607.isNondecreasing
    rfl
theorem descents_is {ps : List P2} (hp : ∀ p ∈ ps, 0 ≤ p.1) : ((Ks607.descents (ps.map toM) : Nat) : Int) = descentsOf ps := by
  unfold Ks607.descents descentsOf
  rw [List.length_map]
  congr 2
  apply List.filter_congr
  intro i hi
  have hi := List.mem_range.mp hi
  have k1 : i < ps.length := by omega
  have k2 : i + 1 < ps.length := by omega
  unfold Ks607.measurementAt
  simp only [List.getD_eq_getElem?_getD, List.getElem?_map, List.getElem?_eq_getElem k1, List.getElem?_eq_getElem k2, Option.map_some, Option.getD_some]
  rw [decide_eq_decide]
  have a := hp ps[i] (List.getElem_mem k1)
  have b := hp ps[i + 1] (List.getElem_mem k2)
  show ps[i + 1].1.toNat < ps[i].1.toNat ↔ _
  omega
theorem find_congr {α : Type} {p q : α → Bool} : ∀ {l : List α}, (∀ x ∈ l, p x = q x) → l.find? p = l.find? q
  | [], _ => rfl
  | a :: l, h => by
    rw [List.find?_cons, List.find?_cons, h a List.mem_cons_self, find_congr (l := l) fun x hx => h x (List.mem_cons_of_mem _ hx)]
theorem reaching_is {ps : List P2} {v : Int} (hv : 0 ≤ v) (hp : ∀ p ∈ ps, Ok1 p) (hl : ps.length ≤ 10) : Ks607.firstReaching (ps.map toM) v.toNat = firstReach v (fitsOf (blocksOf ps)) := by
  obtain ⟨g1, g2⟩ := blocksOf_good hp
  have len := fits_length g1
  have ok := fits_ok ⟨g1, by omega⟩
  unfold Ks607.firstReaching firstReach
  rw [fit_is hp, List.length_map, show ps.length = (fitsOf (blocksOf ps)).length by omega]
  apply find_congr
  intro i hi
  have hi := List.mem_range.mp hi
  simp only [List.getD_eq_getElem?_getD, List.getElem?_map, List.getElem?_eq_getElem hi, Option.map_some, Option.getD_some]
  have o := ok _ (List.getElem_mem hi)
  generalize (fitsOf (blocksOf ps))[i] = e at o ⊢
  have pe : 0 < e.2 := by have := o.2.2.1; omega
  obtain ⟨l1, i1⟩ := toR_is pe
  have lv := low_ofNat v.toNat
  have iv := is_ofNat v.toNat
  rw [Int.toNat_of_nonneg hv] at iv
  rw [le_is lv l1 (by omega) pe iv i1, decide_eq_decide, Int.mul_one]
theorem whole_from : ∀ (r : List P2) (b : P3), (∀ p ∈ r, Ok1 p) → Good b →
    toB (r.foldl (fun b q => joined b (blockOf q)) b) = (r.map toM).foldl (fun b m => (b.1 + 1, b.2.1 + m.weight, b.2.2 + m.weight * m.value)) (toB b) ∧
      Good (r.foldl (fun b q => joined b (blockOf q)) b) ∧ (r.foldl (fun b q => joined b (blockOf q)) b).1 = b.1 + (r.length : Int)
  | [], b, _, h => ⟨rfl, h, by show b.1 = b.1 + ((0 : Nat) : Int); omega⟩
  | p :: r, b, hp, h => by
    have hp0 := hp p List.mem_cons_self
    obtain ⟨i1, i2, i3⟩ := whole_from r (joined b (blockOf p)) (fun q hq => hp q (List.mem_cons_of_mem _ hq)) (good_joined h (good_blockOf hp0))
    refine ⟨?_, i2, ?_⟩
    · rw [List.foldl_cons, i1, toB_joined h (good_blockOf hp0), toB_blockOf hp0]
      rfl
    · rw [List.foldl_cons, i3, List.length_cons]
      show b.1 + 1 + _ = _
      omega
theorem whole_is {l : List P2} (hl : l ≠ []) (hp : ∀ p ∈ l, Ok1 p) :
    Ks607.blockMean ((l.map toM).foldl (fun b m => (b.1 + 1, b.2.1 + m.weight, b.2.2 + m.weight * m.value)) ((0, 0, 0) : Ks607.Block)) = toR (meanOf (wholeBlock l)) ∧ Good (wholeBlock l) ∧ (wholeBlock l).1 = (l.length : Int) := by
  cases l with
  | nil => exact absurd rfl hl
  | cons p r =>
    have hp0 := hp p List.mem_cons_self
    obtain ⟨i1, i2, i3⟩ := whole_from r (blockOf p) (fun q hq => hp q (List.mem_cons_of_mem _ hq)) (good_blockOf hp0)
    refine ⟨?_, i2, ?_⟩
    · have m := mean_toB i2
      rw [i1, toB_blockOf hp0] at m
      show _ = toR (meanOf (r.foldl (fun b q => joined b (blockOf q)) (blockOf p)))
      rw [← m, List.map_cons, List.foldl_cons]
      simp only [Nat.zero_add]
    · show (r.foldl (fun b q => joined b (blockOf q)) (blockOf p)).1 = _
      rw [i3, List.length_cons]
      show 1 + _ = _
      omega
theorem with_is {ps : List P2} {i : Nat} {v : Int} (hi : i < ps.length) : Ks607.withValue (ps.map toM) i v.toNat = (withValue ps i v).map toM := by
  have m : Ks607.measurementAt (ps.map toM) i = toM ps[i] := by
    unfold Ks607.measurementAt
    rw [List.getD_eq_getElem?_getD, List.getElem?_map, List.getElem?_eq_getElem hi]
    rfl
  unfold Ks607.withValue withValue
  rw [m, List.set_eq_take_append_cons_drop, if_pos (by rw [List.length_map]; exact hi), List.map_append, List.map_append, List.map_take, List.map_drop, List.getD_eq_getElem?_getD, List.getElem?_eq_getElem hi,
    List.append_assoc]
  rfl
theorem with_length {ps : List P2} {i : Nat} {v : Int} (hi : i < ps.length) : (withValue ps i v).length = ps.length := by
  unfold withValue
  rw [List.length_append, List.length_append, List.length_take, List.length_drop, List.length_singleton]
  omega
theorem with_value_ok {ps : List P2} {i : Nat} {v : Int} (hi : i < ps.length) (hv : 0 ≤ v ∧ v ≤ 999) (hp : ∀ p ∈ ps, Ok1 p) : ∀ p ∈ withValue ps i v, Ok1 p := fun p h => by
  unfold withValue at h
  rcases List.mem_append.mp h with h | h
  · rcases List.mem_append.mp h with h | h
    · exact hp p (List.mem_of_mem_take h)
    · have e := List.mem_singleton.mp h
      rw [List.getD_eq_getElem?_getD, List.getElem?_eq_getElem hi] at e
      have q := hp ps[i] (List.getElem_mem hi)
      subst e
      exact ⟨hv.1, hv.2, q.2.2.1, q.2.2.2⟩
  · exact hp p (List.mem_of_mem_drop h)
/-! ### 8. The mirror answers as the specification -/
theorem fits_all {ps : List P2} (hp : ∀ p ∈ ps, Ok1 p) (hl : ps.length ≤ 10) : GoodL (blocksOf ps) ∧ (fitsOf (blocksOf ps)).length = ps.length ∧ ∀ p ∈ fitsOf (blocksOf ps), 0 < p.2 := by
  obtain ⟨g1, g2⟩ := blocksOf_good hp
  have g : GoodL (blocksOf ps) := ⟨g1, by omega⟩
  refine ⟨g, ?_, fun p h => ?_⟩
  · have := fits_length g1; omega
  · have := (fits_ok g p h).2.2.1; omega
theorem spec_isotonic {ns : List Int} (h0 : ∀ n ∈ ns, 0 ≤ n) : PyKs607.isotonic_fit ns = isotonicFit ns := by
  show Ks607Neutral.integers (Ks607.withSequence (ns.map Int.toNat) _) = _
  unfold isotonicFit
  by_cases h : okM ns = true
  · obtain ⟨_, h2, h3⟩ := okM_iff.mp h
    rw [with_ok h0 h, if_pos h]
    obtain ⟨g1, g2, g3⟩ := fits_all h3 h2.2
    rw [fit_is h3]
    show ((((unflat ns).map toM).length : Nat) : Int) :: Ks604.pairs (_ ++ [_]) = _
    rw [pairs_append, error_is g2 h3 g3, pairs_shown g3, List.length_map]
    rfl
  · rw [with_no h0 h, if_neg h]
    rfl
theorem spec_blocks {ns : List Int} (h0 : ∀ n ∈ ns, 0 ≤ n) : PyKs607.blocks ns = blocks ns := by
  show Ks607Neutral.integers (Ks607.withSequence (ns.map Int.toNat) _) = _
  unfold blocks
  by_cases h : okM ns = true
  · obtain ⟨_, h2, h3⟩ := okM_iff.mp h
    rw [with_ok h0 h, if_pos h]
    obtain ⟨g1, g2⟩ := blocksOf_good h3
    rw [blocks_is h3]
    show ((((blocksOf (unflat ns)).map toB).length : Nat) : Int) :: (Ks604.integers (((blocksOf (unflat ns)).map toB).map fun b => b.1) ++ [((Ks607.descents ((unflat ns).map toM) : Nat) : Int)]) = _
    rw [descents_is fun p hp => (h3 p hp).1, List.length_map]
    have e : Ks604.integers (((blocksOf (unflat ns)).map toB).map fun b => b.1) = (blocksOf (unflat ns)).map (·.1) := by
      unfold Ks604.integers
      rw [List.map_map, List.map_map]
      apply List.map_congr_left
      intro b hb
      have := (g1 b hb).1
      show ((b.1.toNat : Nat) : Int) = b.1
      omega
    rw [e]
    rfl
  · rw [with_no h0 h, if_neg h]
    rfl
theorem spec_squared {den : Int} {ns vs : List Int} (hd : 0 ≤ den) (h0 : ∀ n ∈ ns, 0 ≤ n) (hv : ∀ n ∈ vs, 0 ≤ n) : PyKs607.squared_error den ns vs = squaredError den ns vs := by
  show Ks607Neutral.integers (Ks607.withSequence (ns.map Int.toNat) fun s => if Ks607.areValidValues s den.toNat (vs.map Int.toNat) = false then Ks607.number (-22) else
    { value := if Ks607.isNondecreasing ((vs.map Int.toNat).map fun (v : Nat) => Rational.make (v : Int) den.toNat) = true then 1 else 0, rest := Ks604.pairs [Ks607.squaredError s ((vs.map Int.toNat).map fun (v : Nat) => Rational.make (v : Int) den.toNat)] }) = _
  unfold squaredError
  by_cases h : okM ns = true
  · obtain ⟨_, h2, h3⟩ := okM_iff.mp h
    rw [with_ok h0 h, if_pos h]
    have e : Ks607.areValidValues ((unflat ns).map toM) den.toNat (vs.map Int.toNat) = true ↔ isWithin den 1 99 = true ∧ vs.length = (unflat ns).length ∧ areWithin vs 0 99999 = true := by
      unfold Ks607.areValidValues areWithin
      simp only [Bool.and_eq_true, decide_eq_true_eq, isWithin_iff, List.all_eq_true, List.length_map, beq_iff_eq]
      constructor
      · rintro ⟨⟨⟨a, b⟩, c⟩, d⟩
        refine ⟨by omega, a, fun n hn => ⟨hv n hn, ?_⟩⟩
        have := d n.toNat (List.mem_map.mpr ⟨n, hn, rfl⟩)
        omega
      · rintro ⟨a, b, c⟩
        refine ⟨⟨⟨b, by omega⟩, by omega⟩, fun m hm => ?_⟩
        obtain ⟨n, hn, rfl⟩ := List.mem_map.mp hm
        have := c n hn
        omega
    by_cases c : Ks607.areValidValues ((unflat ns).map toM) den.toNat (vs.map Int.toNat) = true
    · obtain ⟨c1, c2, c3⟩ := e.mp c
      rw [if_pos c1, if_neg (by rw [c]; decide), if_pos (⟨c2, c3⟩ : vs.length = (unflat ns).length ∧ areWithin vs 0 99999 = true)]
      have hd1 : 0 < den := by have := (isWithin_iff.mp c1).1; omega
      have ex : ((vs.map Int.toNat).map fun (v : Nat) => Rational.make (v : Int) den.toNat) = (vs.map fun v => ((v, den) : P2)).map toR := by
        rw [List.map_map, List.map_map]
        apply List.map_congr_left
        intro v hv'
        show Rational.make ((v.toNat : Nat) : Int) den.toNat = Rational.make v den.toNat
        rw [Int.toNat_of_nonneg (hv v hv')]
      show (if Ks607.isNondecreasing ((vs.map Int.toNat).map fun (v : Nat) => Rational.make (v : Int) den.toNat) = true then 1 else 0) :: Ks604.pairs [Ks607.squaredError ((unflat ns).map toM) ((vs.map Int.toNat).map fun (v : Nat) => Rational.make (v : Int) den.toNat)] = _
      rw [ex, error_is (by rw [List.length_map]; exact c2) h3 fun p hp => by
        obtain ⟨v, _, rfl⟩ := List.mem_map.mp hp
        exact hd1]
      rw [List.map_map]
      have nd := nondec_is hd1 vs
      rw [← nd]
      rfl
    · have c' : Ks607.areValidValues ((unflat ns).map toM) den.toNat (vs.map Int.toNat) = false := by simpa using c
      rw [if_pos c']
      by_cases c1 : isWithin den 1 99 = true
      · rw [if_pos c1]
        by_cases c2 : vs.length = (unflat ns).length ∧ areWithin vs 0 99999 = true
        · exact absurd (e.mpr ⟨c1, c2⟩) c
        · rw [if_neg c2]; rfl
      · rw [if_neg c1]; rfl
  · rw [with_no h0 h, if_neg h]
    rfl
theorem spec_fit_if {index value : Int} {ns : List Int} (hi : 0 ≤ index) (hv : 0 ≤ value) (h0 : ∀ n ∈ ns, 0 ≤ n) : PyKs607.fit_if_value index value ns = fitIfValue index value ns := by
  show Ks607Neutral.integers (Ks607.withSequence (ns.map Int.toNat) fun s => if s.length ≤ index.toNat then Ks607.number (-2) else if 999 < value.toNat then Ks607.number (-22) else
    { value := s.length, rest := Ks604.pairs (Ks607.isotonicFit (Ks607.withValue s index.toNat value.toNat)) }) = _
  unfold fitIfValue
  by_cases h : okM ns = true
  · obtain ⟨_, h2, h3⟩ := okM_iff.mp h
    rw [with_ok h0 h, if_pos h, List.length_map]
    by_cases c1 : (unflat ns).length ≤ index.toNat
    · rw [if_pos c1, if_neg (fun z => by have := (isWithin_iff.mp z).2; omega)]
      rfl
    · rw [if_neg c1, if_pos (isWithin_iff.mpr ⟨hi, by omega⟩)]
      by_cases c2 : 999 < value.toNat
      · rw [if_pos c2, if_neg (fun z => by have := (isWithin_iff.mp z).2; omega)]
        rfl
      · rw [if_neg c2, if_pos (isWithin_iff.mpr ⟨hv, by omega⟩)]
        have c3 : index.toNat < (unflat ns).length := by omega
        have ok := with_value_ok (v := value) c3 ⟨hv, by omega⟩ h3
        have hl : (withValue (unflat ns) index.toNat value).length ≤ 10 := by rw [with_length c3]; exact h2.2
        obtain ⟨g1, g2, g3⟩ := fits_all ok hl
        rw [with_is c3, fit_is ok]
        show ((((unflat ns).length : Nat) : Int)) :: Ks604.pairs _ = _
        rw [pairs_shown g3]
        rfl
  · rw [with_no h0 h, if_neg h]
    rfl
theorem spec_reaching {value : Int} {ns : List Int} (hv : 0 ≤ value) (h0 : ∀ n ∈ ns, 0 ≤ n) : PyKs607.first_reaching value ns = firstReaching value ns := by
  show Ks607Neutral.integers (Ks607.withSequence (ns.map Int.toNat) fun s => match Ks607.firstReaching s value.toNat with | none => _ | some i => _) = _
  unfold firstReaching
  by_cases h : okM ns = true
  · obtain ⟨_, h2, h3⟩ := okM_iff.mp h
    rw [with_ok h0 h, if_pos h, reaching_is hv h3 h2.2]
    cases firstReach value (fitsOf (blocksOf (unflat ns))) with
    | none => rfl
    | some i => rfl
  · rw [with_no h0 h, if_neg h]
    rfl
theorem spec_range {first last : Int} {ns : List Int} (hf : 0 ≤ first) (hl : 0 ≤ last) (h0 : ∀ n ∈ ns, 0 ≤ n) : PyKs607.range_mean first last ns = rangeMean first last ns := by
  show Ks607Neutral.integers (Ks607.withSequence (ns.map Int.toNat) fun s => if s.length ≤ first.toNat ∨ s.length ≤ last.toNat then Ks607.number (-2) else if last.toNat < first.toNat then Ks607.number (-22) else
    { value := 0, rest := Ks604.pairs [Ks607.rangeMean s first.toNat last.toNat] }) = _
  unfold rangeMean
  by_cases h : okM ns = true
  · obtain ⟨_, h2, h3⟩ := okM_iff.mp h
    rw [with_ok h0 h, if_pos h, List.length_map]
    have w := and_congr (isWithin_iff (n := first) (lo := 0) (hi := ((unflat ns).length : Int) - 1)) (isWithin_iff (n := last) (lo := 0) (hi := ((unflat ns).length : Int) - 1))
    by_cases c1 : (unflat ns).length ≤ first.toNat ∨ (unflat ns).length ≤ last.toNat
    · rw [if_pos c1, if_neg (fun z => by have := w.mp z; omega)]
      rfl
    · rw [if_neg c1, if_pos (w.mpr (by omega))]
      by_cases c2 : last.toNat < first.toNat
      · rw [if_pos c2, if_pos (by omega)]
        rfl
      · rw [if_neg c2, if_neg (by omega)]
        have e : (last + 1).toNat - first.toNat = last.toNat + 1 - first.toNat := by omega
        rw [e]
        have ne : ((unflat ns).drop first.toNat).take (last.toNat + 1 - first.toNat) ≠ [] := by
          intro z
          have := congrArg List.length z
          rw [List.length_take, List.length_drop, List.length_nil] at this
          omega
        obtain ⟨w1, w2, w3⟩ := whole_is ne fun p hp => h3 p (List.mem_of_mem_drop (List.mem_of_mem_take hp))
        show (0 : Int) :: Ks604.pairs [Ks607.rangeMean ((unflat ns).map toM) first.toNat last.toNat] = _
        have e3 : Ks607.rangeMean ((unflat ns).map toM) first.toNat last.toNat = toR (meanOf (wholeBlock (((unflat ns).drop first.toNat).take (last.toNat + 1 - first.toNat)))) := by
          unfold Ks607.rangeMean
          rw [← w1, List.map_take, List.map_drop]
        rw [e3]
        have pos : 0 < (meanOf (wholeBlock (((unflat ns).drop first.toNat).take (last.toNat + 1 - first.toNat)))).2 := by
          obtain ⟨a1, a2, _⟩ := w2
          show 0 < (wholeBlock _).2.1
          omega
        have := pairs_shown (ps := [meanOf (wholeBlock (((unflat ns).drop first.toNat).take (last.toNat + 1 - first.toNat)))]) fun p hp => by rw [List.mem_singleton.mp hp]; exact pos
        rw [List.map_singleton] at this
        rw [this]
        rfl
  · rw [with_no h0 h, if_neg h]
    rfl
/-! ### 9. Places, turns of loops -/
theorem unflat_get : ∀ (ns : List Int) (i : Nat) (h : i < (unflat ns).length), ns[2 * i]? = some ((unflat ns)[i]).1 ∧ ns[2 * i + 1]? = some ((unflat ns)[i]).2
  | [], i, h => by simp [unflat] at h
  | [_], i, h => by simp [unflat] at h
  | a :: b :: r, 0, h => ⟨rfl, rfl⟩
  | a :: b :: r, i + 1, h => by
    have ih := unflat_get r i (by simpa [unflat] using h)
    have e : 2 * (i + 1) = 2 * i + 1 + 1 := by omega
    rw [e]
    exact ih
theorem unflat_len {ns : List Int} {m : Nat} (h : ns.length = 2 * m) : (unflat ns).length = m := by
  rw [unflat_length, h]
  omega
theorem merged_short {l : List P3} (h : l.length ≤ 1) : merged l = l := by
  match l, h with
  | [], _ => rfl
  | [x], _ => rfl
theorem mergedR_more : ∀ (n : Nat) (l : List P3), l.length ≤ n → mergedR (n + 1) l = mergedR n l
  | 0, [], _ => rfl
  | 0, _ :: _, h => by simp at h
  | _ + 1, [], _ => rfl
  | _ + 1, [_], _ => rfl
  | n + 1, x :: y :: r, h => by
    show (if isAtMost x y = true then mergedR (n + 1) (joined y x :: r) else x :: y :: r) = (if isAtMost x y = true then mergedR n (joined y x :: r) else x :: y :: r)
    rw [mergedR_more n (joined y x :: r) (by simp only [List.length_cons] at h ⊢; omega)]
theorem merged_step {l : List P3} {x y : P3} : merged (l ++ [y, x]) = if isAtMost x y = true then merged (l ++ [joined y x]) else l ++ [y, x] := by
  have e : l ++ [y, x] = (x :: y :: l.reverse).reverse := by simp
  unfold merged
  rw [List.length_append, List.length_append, List.reverse_append, List.reverse_append]
  show (if isAtMost x y = true then mergedR (l.length + 1) (joined y x :: l.reverse) else x :: y :: l.reverse).reverse = _
  split
  · rfl
  · rw [e]
theorem last_two {α : Type} {l : List α} (h : 2 ≤ l.length) : l = l.take (l.length - 2) ++ [l[l.length - 2]'(by omega), l[l.length - 1]'(by omega)] := by
  have a : l.take (l.length - 2 + 1) = l.take (l.length - 2) ++ [l[l.length - 2]'(by omega)] := take_snoc (by omega)
  have b : l.take (l.length - 1 + 1) = l.take (l.length - 1) ++ [l[l.length - 1]'(by omega)] := take_snoc (by omega)
  have c : l.length - 2 + 1 = l.length - 1 := by omega
  have d : l.length - 1 + 1 = l.length := by omega
  rw [c] at a
  rw [d, List.take_length, a, List.append_assoc] at b
  exact b
theorem blocksOf_snoc (l : List P2) (p : P2) : blocksOf (l ++ [p]) = merged (blocksOf l ++ [blockOf p]) := by
  unfold blocksOf
  rw [List.foldl_append]
  rfl
theorem fitsOf_snoc (l : List P3) (b : P3) : fitsOf (l ++ [b]) = fitsOf l ++ List.replicate b.1.toNat (meanOf b) := by
  unfold fitsOf
  rw [List.flatMap_append, List.flatMap_cons, List.flatMap_nil, List.append_nil]
theorem shown_snoc (l : List P2) (p : P2) : shown (l ++ [p]) = shown l ++ [(reduced p).1, (reduced p).2] := by
  unfold shown flat2
  rw [List.map_append, List.flatMap_append, List.map_singleton, List.flatMap_cons, List.flatMap_nil, List.append_nil]
theorem shown_length : ∀ l : List P2, (shown l).length = 2 * l.length
  | [] => rfl
  | p :: r => by
    have ih := shown_length r
    unfold shown flat2 at ih ⊢
    rw [List.map_cons, List.flatMap_cons, List.length_append, ih]
    have e : (p :: r).length = r.length + 1 := rfl
    show 2 + _ = _
    omega
theorem fits_le {bs : List P3} (h : GoodL bs) : (fitsOf bs).length ≤ 10 := by
  have := fits_length h.1
  have := h.2
  omega
theorem goodL_take {bs : List P3} (h : GoodL bs) (n : Nat) : GoodL (bs.take n) := by
  refine ⟨fun b hb => h.1 b (List.mem_of_mem_take hb), ?_⟩
  have e : sizes bs = sizes (bs.take n) + sizes (bs.drop n) := by rw [← sizes_append, List.take_append_drop]
  have z := sizes_ge (l := bs.drop n) fun b hb => h.1 b (List.mem_of_mem_drop hb)
  have := h.2
  omega
theorem goodL_block {bs : List P3} (h : GoodL bs) {b : P3} (hb : b ∈ bs) : 1 ≤ b.1 ∧ b.1 ≤ 10 ∧ 1 ≤ b.2.1 ∧ b.2.1 ≤ 90 ∧ 0 ≤ b.2.2 ∧ b.2.2 ≤ 89910 := by
  obtain ⟨a1, a2, a3, a4, a5⟩ := h.1 b hb
  have z := size_le h.1 hb
  have := h.2
  omega
/-- blocks in the midst of their making -/
theorem blocksOf_goodL {ps : List P2} (hp : ∀ p ∈ ps, Ok1 p) (hl : ps.length ≤ 10) : GoodL (blocksOf ps) := by
  obtain ⟨g1, g2⟩ := blocksOf_good hp
  exact ⟨g1, by omega⟩
theorem goodL_more {l : List P3} {p : P2} (h : GoodL l) (hs : sizes l ≤ 9) (hp : Ok1 p) : GoodL (l ++ [blockOf p]) := by
  refine ⟨fun b hb => ?_, ?_⟩
  · rcases List.mem_append.mp hb with hb | hb
    · exact h.1 b hb
    · rw [List.mem_singleton.mp hb]; exact good_blockOf hp
  · rw [sizes_append, sizes_cons, sizes_nil]
    show sizes l + (1 + 0) ≤ 10
    omega
theorem goodL_join {l : List P3} {x y : P3} (h : GoodL (l ++ [y, x])) : GoodL (l ++ [joined y x]) := by
  have hy := h.1 y (by simp)
  have hx := h.1 x (by simp)
  refine ⟨fun b hb => ?_, ?_⟩
  · rcases List.mem_append.mp hb with hb | hb
    · exact h.1 b (List.mem_append_left _ hb)
    · rw [List.mem_singleton.mp hb]; exact good_joined hy hx
  · have z := h.2
    rw [sizes_append, sizes_cons, sizes_cons, sizes_nil] at z
    rw [sizes_append, sizes_cons, sizes_nil]
    show sizes l + (y.1 + x.1 + 0) ≤ 10
    omega
theorem gcd_step {a b : Int} (ha : 0 ≤ a) (hb : 0 < b) : gcdI (b % a) a = gcdI a b := by
  unfold gcdI
  congr 1
  show Nat.gcd (b % a).natAbs a.natAbs = Nat.gcd a.natAbs b.natAbs
  have e : (b % a).natAbs = b.natAbs % a.natAbs := by
    have h1 : ((b.natAbs : Nat) : Int) = b := by omega
    have h2 : ((a.natAbs : Nat) : Int) = a := by omega
    have h3 : ((b.natAbs % a.natAbs : Nat) : Int) = b % a := by rw [Int.natCast_emod, h1, h2]
    omega
  rw [e]
  exact (Nat.gcd_rec _ _).symm
theorem gcd_end {b : Int} (hb : 0 < b) : gcdI 0 b = b := by
  unfold gcdI
  show ((Nat.gcd (0 : Int).natAbs b.natAbs : Nat) : Int) = b
  rw [show (0 : Int).natAbs = 0 from rfl, Nat.gcd_zero_left]
  omega
theorem gcdI_le {a b : Int} (hb : 0 < b) : gcdI a b ≤ b := by
  unfold gcdI
  have : Nat.gcd a.natAbs b.natAbs ≤ b.natAbs := Nat.gcd_le_right _ (by omega)
  show ((Nat.gcd a.natAbs b.natAbs : Nat) : Int) ≤ b
  omega
theorem reduced_bounds {p : P2} (h0 : 0 ≤ p.1) (h : 0 < p.2) : 0 ≤ (reduced p).1 ∧ (reduced p).1 ≤ p.1 ∧ 0 < (reduced p).2 ∧ (reduced p).2 ≤ p.2 := by
  have g := gcdI_pos (a := p.1) h
  refine ⟨Int.ediv_nonneg h0 (by omega), Int.ediv_le_self _ h0, reduced_pos h, Int.ediv_le_self _ (by omega)⟩
/-- how large the sums become: a crude bound -/
def big (k : Nat) : Int := ((2 ^ (40 * k + 1) : Nat) : Int)
theorem big_pos (k : Nat) : 0 < big k := by
  unfold big
  have := Nat.pow_pos (n := 40 * k + 1) (show 0 < 2 by decide)
  omega
theorem big_succ (k : Nat) : big (k + 1) = big k * 1099511627776 := by
  unfold big
  rw [show 40 * (k + 1) + 1 = (40 * k + 1) + 40 by omega, Nat.pow_add, Int.natCast_mul]
  rfl
/-- an error's bounds -/
def OkE (p : P2) : Prop := 0 ≤ p.1 ∧ p.1 ≤ 549755813888 ∧ 0 < p.2 ∧ p.2 ≤ 549755813888
theorem total_bounds : ∀ (l : List P2), (∀ p ∈ l, OkE p) → ∀ k, k ≤ l.length → 0 ≤ (totalOf (l.take k)).1 ∧ (totalOf (l.take k)).1 < big k ∧ 0 < (totalOf (l.take k)).2 ∧ (totalOf (l.take k)).2 < big k
  | l, h, 0, _ => by
    show 0 ≤ (0 : Int) ∧ (0 : Int) < big 0 ∧ (0 : Int) < 1 ∧ (1 : Int) < big 0
    decide
  | l, h, k + 1, hk => by
    obtain ⟨i1, i2, i3, i4⟩ := total_bounds l h k (by omega)
    have kl : k < l.length := by omega
    rw [take_snoc kl, totalOf_snoc]
    obtain ⟨x1, x2, x3, x4⟩ := h l[k] (List.getElem_mem kl)
    generalize totalOf (l.take k) = t at i1 i2 i3 i4 ⊢
    generalize l[k] = x at x1 x2 x3 x4 ⊢
    have b0 := big_pos k
    have m1 : 0 ≤ t.1 * x.2 := Int.mul_nonneg i1 (by omega)
    have m2 : 0 ≤ x.1 * t.2 := Int.mul_nonneg x1 (by omega)
    have m3 : t.1 * x.2 ≤ big k * 549755813888 := Int.mul_le_mul (by omega) x4 (by omega) (by omega)
    have m4 : x.1 * t.2 ≤ 549755813888 * big k := Int.mul_le_mul x2 (by omega) (by omega) (by omega)
    have m5 : 0 < t.2 * x.2 := Int.mul_pos i3 x3
    have m6 : t.2 * x.2 ≤ big k * 549755813888 := Int.mul_le_mul (by omega) x4 (by omega) (by omega)
    have m7 : t.1 * x.2 ≤ (big k - 1) * 549755813888 := Int.mul_le_mul (by omega) x4 (by omega) (by omega)
    have m8 : t.2 * x.2 ≤ (big k - 1) * 549755813888 := Int.mul_le_mul (by omega) x4 (by omega) (by omega)
    obtain ⟨r1, r2, r3, r4⟩ := reduced_bounds (p := added t x) (by show 0 ≤ t.1 * x.2 + x.1 * t.2; omega) m5
    have e1 : (added t x).1 = t.1 * x.2 + x.1 * t.2 := rfl
    have e2 : (added t x).2 = t.2 * x.2 := rfl
    rw [big_succ]
    omega
theorem error_ok {p e : P2} (hp : Ok1 p) (he : OkF e) : OkE (oneError p e) ∧ (0 ≤ p.1 * e.2 ∧ p.1 * e.2 ≤ 98901) ∧ (-98901 ≤ e.1 - p.1 * e.2 ∧ e.1 - p.1 * e.2 ≤ 99999) ∧ (-899991 ≤ p.2 * (e.1 - p.1 * e.2) ∧ p.2 * (e.1 - p.1 * e.2) ≤ 899991) := by
  obtain ⟨v, w⟩ := p
  obtain ⟨a, b⟩ := e
  obtain ⟨h1, h2, h3, h4⟩ := hp
  obtain ⟨g1, g2, g3, g4⟩ := he
  have h1 : 0 ≤ v := h1
  have h2 : v ≤ 999 := h2
  have h3 : 1 ≤ w := h3
  have h4 : w ≤ 9 := h4
  have g1 : 0 ≤ a := g1
  have g2 : a ≤ 99999 := g2
  have g3 : 1 ≤ b := g3
  have g4 : b ≤ 99 := g4
  have m1 : 0 ≤ v * b := Int.mul_nonneg h1 (by omega)
  have m2 : v * b ≤ 999 * 99 := Int.mul_le_mul h2 g4 (by omega) (by omega)
  have e1 : (oneError (v, w) (a, b)).1 = w * (a - v * b) * (a - v * b) := rfl
  have e2 : (oneError (v, w) (a, b)).2 = b * b := rfl
  show OkE _ ∧ (0 ≤ v * b ∧ v * b ≤ 98901) ∧ (-98901 ≤ a - v * b ∧ a - v * b ≤ 99999) ∧ (-899991 ≤ w * (a - v * b) ∧ w * (a - v * b) ≤ 899991)
  unfold OkE
  rw [e1, e2]
  generalize hd : a - v * b = d
  have d1 : -98901 ≤ d := by omega
  have d2 : d ≤ 99999 := by omega
  have p1 : w * d ≤ 9 * 99999 := by
    by_cases c : 0 ≤ d
    · exact Int.mul_le_mul h4 d2 c (by omega)
    · have := Int.mul_nonpos_of_nonneg_of_nonpos (show 0 ≤ w by omega) (show d ≤ 0 by omega)
      omega
  have p2 : -(9 * 99999) ≤ w * d := by
    by_cases c : 0 ≤ d
    · have := Int.mul_nonneg (show 0 ≤ w by omega) c
      omega
    · have := Int.mul_le_mul h4 (show -d ≤ 98901 by omega) (by omega) (by omega)
      rw [Int.mul_neg] at this
      omega
  have q1 : 0 ≤ w * d * d := by
    rw [Int.mul_assoc]
    refine Int.mul_nonneg (by omega) ?_
    by_cases c : 0 ≤ d
    · exact Int.mul_nonneg c c
    · exact Int.mul_nonneg_of_nonpos_of_nonpos (by omega) (by omega)
  have q2 : w * d * d ≤ 899991 * 99999 := by
    by_cases c : 0 ≤ d
    · exact Int.mul_le_mul p1 d2 c (by omega)
    · have := Int.mul_le_mul (show -(w * d) ≤ 899991 by omega) (show -d ≤ 99999 by omega) (by omega) (by omega)
      rw [Int.neg_mul_neg] at this
      omega
  have q3 : 0 < b * b := Int.mul_pos (by omega) (by omega)
  have q4 : b * b ≤ 99 * 99 := Int.mul_le_mul g4 g4 (by omega) (by omega)
  refine ⟨⟨q1, by omega, q3, by omega⟩, ⟨m1, by omega⟩, ⟨d1, d2⟩, ⟨by omega, by omega⟩⟩
theorem errors_ok {ps es : List P2} (hp : ∀ p ∈ ps, Ok1 p) (he : ∀ e ∈ es, OkF e) : ∀ x ∈ List.zipWith oneError ps es, OkE x := fun x hx => by
  obtain ⟨i, hi, rfl⟩ := List.getElem_of_mem hx
  rw [List.getElem_zipWith]
  exact (error_ok (hp _ (List.getElem_mem _)) (he _ (List.getElem_mem _))).1
end RF

/-! ### 3. The heap: lists of tuples -/
namespace RF
open PySem PySem.Spec PyProof.Rows L2
def e2 (p : P2) : List V := [.int p.1, .int p.2]
def e3 (b : P3) : List V := [.int b.1, .int b.2.1, .int b.2.2]
/-- each item is a tuple, as enc tells it -/
def Rows {α : Type} (enc : α → List V) (H : Hp) (vs : List V) (xs : List α) : Prop :=
  vs.length = xs.length ∧ ∀ (i : Nat) (x : α), xs[i]? = some x → ∃ a, vs[i]? = some (.ref a) ∧ H a = some (.tup (enc x))
/-- a list of such -/
def TL {α : Type} (enc : α → List V) (H : Hp) (a : Addr) (xs : List α) : Prop := ∃ vs, H a = some (.lst vs) ∧ Rows enc H vs xs
section
variable {α : Type} {enc : α → List V} {H H' : Hp} {vs ws : List V} {xs ys : List α}
theorem same_upd {p : Addr} {o : HO} (h : H p = none) : Same H (upd H p o) := fun b x e => by
  rw [upd_ne (ne_of_none e h)]
  exact e
theorem Rows.nil : Rows enc H [] [] := ⟨rfl, fun i x h => by simp at h⟩
theorem Rows.same (s : Same H H') (r : Rows enc H vs xs) : Rows enc H' vs xs := ⟨r.1, fun i x h => by
  obtain ⟨a, h1, h2⟩ := r.2 i x h
  exact ⟨a, h1, s _ _ h2⟩⟩
theorem Rows.put {D : Addr} {l l' : List V} (r : Rows enc H vs xs) (hD : H D = some (.lst l)) : Rows enc (upd H D (.lst l')) vs xs := ⟨r.1, fun i x h => by
  obtain ⟨a, h1, h2⟩ := r.2 i x h
  refine ⟨a, h1, ?_⟩
  rw [upd_ne (ne_of h2 hD (by intro z; cases z))]
  exact h2⟩
theorem Rows.one {a : Addr} {x : α} (h : H a = some (.tup (enc x))) : Rows enc H [.ref a] [x] := ⟨rfl, fun i y e => by
  cases i with
  | zero =>
    have e1 : x = y := Option.some.inj e
    subst e1
    exact ⟨a, rfl, h⟩
  | succ i => simp at e⟩
theorem Rows.append (r : Rows enc H vs xs) (q : Rows enc H ws ys) : Rows enc H (vs ++ ws) (xs ++ ys) := by
  refine ⟨by rw [List.length_append, List.length_append, r.1, q.1], fun i x h => ?_⟩
  by_cases c : i < xs.length
  · rw [List.getElem?_append_left c] at h
    rw [List.getElem?_append_left (by rw [r.1]; exact c)]
    exact r.2 i x h
  · rw [List.getElem?_append_right (by omega)] at h
    rw [List.getElem?_append_right (by rw [r.1]; omega), r.1]
    exact q.2 _ x h
theorem Rows.take (n : Nat) (r : Rows enc H vs xs) : Rows enc H (vs.take n) (xs.take n) := by
  refine ⟨by rw [List.length_take, List.length_take, r.1], fun i x h => ?_⟩
  have c : i < n := by
    have := (List.getElem?_eq_some_iff.mp h).1
    rw [List.length_take] at this
    omega
  rw [List.getElem?_take_of_lt c] at h ⊢
  exact r.2 i x h
theorem Rows.drop (n : Nat) (r : Rows enc H vs xs) : Rows enc H (vs.drop n) (xs.drop n) := by
  refine ⟨by rw [List.length_drop, List.length_drop, r.1], fun i x h => ?_⟩
  rw [List.getElem?_drop] at h ⊢
  exact r.2 _ x h
theorem Rows.rep {a : Addr} {x : α} (h : H a = some (.tup (enc x))) : ∀ n : Nat, Rows enc H (List.replicate n (.ref a)) (List.replicate n x) := fun n => by
  refine ⟨by rw [List.length_replicate, List.length_replicate], fun i y e => ?_⟩
  obtain ⟨c, e1⟩ := List.getElem?_eq_some_iff.mp e
  rw [List.length_replicate] at c
  rw [List.getElem_replicate] at e1
  subst e1
  refine ⟨a, ?_, h⟩
  rw [List.getElem?_replicate, if_pos c]
theorem Rows.get (r : Rows enc H vs xs) {i : Nat} (h : i < xs.length) : ∃ a, vs[i]? = some (.ref a) ∧ H a = some (.tup (enc xs[i])) := r.2 i _ (List.getElem?_eq_getElem h)
theorem Rows.len (r : Rows enc H vs xs) : vs.length = xs.length := r.1
/-- from an item of the list as it lies -/
theorem Rows.item (r : Rows enc H vs xs) {i : Nat} {v : V} (h : vs[i]? = some v) : ∃ (x : α) (a : Addr), xs[i]? = some x ∧ v = .ref a ∧ H a = some (.tup (enc x)) := by
  have c : i < vs.length := (List.getElem?_eq_some_iff.mp h).1
  have c2 : i < xs.length := by rw [← r.1]; exact c
  obtain ⟨a, h1, h2⟩ := r.get c2
  rw [h1] at h
  exact ⟨xs[i], a, List.getElem?_eq_getElem c2, (Option.some.inj h).symm, h2⟩
theorem TL.same {a : Addr} (s : Same H H') (t : TL enc H a xs) : TL enc H' a xs := by
  obtain ⟨vs, h, r⟩ := t
  exact ⟨vs, s _ _ h, r.same s⟩
theorem ite_l {c : Bool} {A B : Prop} (hc : c = true) (h : A) : if c = true then A else B := by
  rw [if_pos hc]
  exact h
theorem ite_r {c : Bool} {A B : Prop} (hc : ¬ c = true) (h : B) : if c = true then A else B := by
  rw [if_neg hc]
  exact h
theorem small {n : Nat} (h : n ≤ 1000) : n ≤ sizeLine := Nat.le_of_lt (small1000 h)
theorem get_map {β : Type} {f : α → β} {i : Nat} {y : β} (h : (xs.map f)[i]? = some y) : ∃ x, xs[i]? = some x ∧ y = f x := by
  rw [List.getElem?_map] at h
  cases e : xs[i]? with
  | none => rw [e] at h; cases h
  | some x => rw [e] at h; exact ⟨x, rfl, (Option.some.inj h).symm⟩
theorem bl_of {Q : VK} {a b : Bool} {H : Hp} (h : Q (.bl a) H) (e : a = b) : Q (.bl b) H := e ▸ h
end
/-- an index into a tuple -/
theorem at3_0 (b : P3) : atI (e3 b) 0 = some (.int b.1) := atI_nat (j := 0) rfl
theorem at3_1 (b : P3) : atI (e3 b) 1 = some (.int b.2.1) := atI_nat (j := 1) rfl
theorem at3_2 (b : P3) : atI (e3 b) 2 = some (.int b.2.2) := atI_nat (j := 2) rfl
theorem at2_0 (p : P2) : atI (e2 p) 0 = some (.int p.1) := atI_nat (j := 0) rfl
theorem at2_1 (p : P2) : atI (e2 p) 1 = some (.int p.2) := atI_nat (j := 1) rfl
/-! ### 4. The text -/
def topS (i : Nat) : Stmt := PySem.Challenge.pw_risingfits_s02_blocks.main.body.getD i (.Pass ⟨0, 0, 0, 0⟩)
section
variable {P : Program} {w : World} {K : PySem.W.Frag} {mg : Str → Option Value} {base : Heap}

/-! is_within -/
abbrev s_is_within : Stmt := topS 5
theorem sc_is_within : FnScope ["number", "low", "high"] ["number", "low", "high"] (defScope s_is_within) := ⟨rfl, rfl, rfl, by decide +kernel, rfl, by decide +kernel, by decide +kernel⟩
def sp_is_within : Sp := fun vs H Q _ => ∃ n lo hi : Int, vs = [.int n, .int lo, .int hi] ∧ Q (.bl (isWithin n lo hi)) H
theorem ok_is_within {f : Addr} {fd : FuncData} {k : Nat} (F : Fun K "is_within" "is_within" s_is_within f fd) : FnOk P w K mg base CX0 (k + 1) f fd ["number", "low", "high"] sp_is_within := by
  refine F.ok sc_is_within (fun vs H Q E h => ?_) (fun cdv A outer s H vs Q E hr h => ?_)
  · obtain ⟨n, lo, hi, rfl, _⟩ := h
    rfl
  obtain ⟨n, lo, hi, rfl, q⟩ := h
  refine ⟨_, pss_one (ps_ret (pe_and (pe_cmpR op_le (pv 1) (pv 0) (nomark _)) (pe_one (pe_cmpR op_le (pv 0) (pv 2) (nomark _))))), ?_⟩
  refine ⟨_, rfl, _, rfl, _, _, rfl, rfl, _, rfl, ?_⟩
  by_cases c : lo ≤ n
  · refine ite_l (decide_eq_true c) ?_
    refine ⟨_, rfl, _, rfl, _, _, rfl, rfl, bl_of q ?_⟩
    unfold isWithin
    rw [decide_eq_true c, Bool.true_and]
  · refine ite_r (by rw [decide_eq_false c]; decide) ?_
    refine bl_of q ?_
    unfold isWithin
    rw [decide_eq_false c, Bool.false_and]

/-! are_within -/
abbrev s_are_within : Stmt := topS 6
theorem sc_are_within : FnScope ["numbers", "low", "high", "number"] ["numbers", "low", "high"] (defScope s_are_within) := ⟨rfl, rfl, rfl, by decide +kernel, rfl, by decide +kernel, by decide +kernel⟩
def sp_are_within (K : PySem.W.Frag) : Sp := fun vs H Q _ => ∃ (a : Addr) (ns : List Int) (lo hi : Int), vs = [.ref a, .int lo, .int hi] ∧ SqL K H a (ns.map V.int) ∧ Q (.bl (areWithin ns lo hi)) H
theorem ok_are_within {f f1 : Addr} {fd fd1 : FuncData} {k : Nat} (F : Fun K "are_within" "are_within" s_are_within f fd)
    (G : FnOk P w K mg base CX0 k f1 fd1 ["number", "low", "high"] sp_is_within) (kG : PySem.W.keepIn K (.ref f1) = true) (bG : Binds K fd1 ["number", "low", "high"] []) (gG : mg "is_within" = some (.ref f1)) :
    FnOk P w K mg base CX0 (k + 1) f fd ["numbers", "low", "high"] (sp_are_within K) := by
  refine F.ok sc_are_within (fun vs H Q E h => ?_) (fun cdv A outer s H vs Q E hr h => ?_)
  · obtain ⟨a, ns, lo, hi, rfl, _⟩ := h
    rfl
  obtain ⟨a, ns, lo, hi, rfl, hS, q⟩ := h
  refine ⟨_, pss_cons (ps_for PassesOwn.never rfl (pi_list (pv 0)) (pg_name (i := 3) sc_are_within.nd rfl (Or.inl rfl))
      (pss_one (ps_if (pt_not (pt_val (pe_call G hr (by rfl) gG kG bG .nil pass0 (pa_cons (pv 3) (pa_cons (pv 1) (pa_cons (pv 2) pa_nil)))))) (pss_one (ps_ret pe_bl)) pss_nil)))
    (pss_one (ps_ret pe_bl)), ?_⟩
  refine ⟨_, rfl, a, rfl, ⟨_, hS⟩, for_list (K := K) (a := a) (xs := ns.map V.int) (fun i σ H' => ∃ v : Option V, σ = [some (.ref a), some (.int lo), some (.int hi), v] ∧ H' = H ∧ areWithin (ns.take i) lo hi = true)
    ⟨none, rfl, rfl, rfl⟩ (fun i σ H' _ ⟨_, _, e, _⟩ => by rw [e]; exact hS) ?_ ?_⟩
  · rintro i y σ H' hi' ⟨v, rfl, rfl, hw⟩
    obtain ⟨z, hz, rfl⟩ := get_map hi'
    have c : i < ns.length := (List.getElem?_eq_some_iff.mp hz).1
    have ez : ns[i] = z := (List.getElem?_eq_some_iff.mp hz).2
    refine ⟨_, rfl, _, rfl, _, rfl, z, lo, hi, rfl, _, rfl, ?_⟩
    by_cases d : isWithin z lo hi = true
    · rw [d]
      refine iteF ⟨some (.int z), rfl, rfl, ?_⟩
      rw [take_snoc c, ez]
      unfold areWithin at hw ⊢
      rw [List.all_append, hw, List.all_cons, d]
      rfl
    · refine ite_l (by rw [Bool.eq_false_iff.mpr d]; rfl) ?_
      refine bl_of q ?_
      unfold areWithin
      rw [List.all_eq_false]
      exact ⟨z, List.mem_of_getElem? hz, d⟩
  · rintro σ H' ⟨v, rfl, rfl, hw⟩
    refine bl_of q ?_
    rw [List.length_map, List.take_length] at hw
    exact hw

/-! values_of, weights_of, pairs_of -/
theorem rg_even : ∀ m, m ≤ 11 → RgC 0 ((2 * m : Nat) : Int) 2 m := by
  have q : ∀ m, m ≤ 11 → Builtin.Range.small 0 ((2 * m : Nat) : Int) 2 = true ∧ Builtin.Range.rangeSize 0 ((2 * m : Nat) : Int) 2 = (m : Int) := by decide +kernel
  exact fun m h => ⟨by decide, by decide, (q m h).1, (q m h).2⟩
theorem rg_odd : ∀ m, m ≤ 11 → RgC 1 ((2 * m : Nat) : Int) 2 m := by
  have q : ∀ m, m ≤ 11 → Builtin.Range.small 1 ((2 * m : Nat) : Int) 2 = true ∧ Builtin.Range.rangeSize 1 ((2 * m : Nat) : Int) 2 = (m : Int) := by decide +kernel
  exact fun m h => ⟨by decide, by decide, (q m h).1, (q m h).2⟩
abbrev s_values_of : Stmt := topS 7
theorem sc_values_of : FnScope ["measurements", "at"] ["measurements"] (defScope s_values_of) := ⟨rfl, rfl, rfl, by decide +kernel, rfl, by decide +kernel, by decide +kernel⟩
/-- every second of an even list, as g tells it of the pairs -/
def sp_every (K : PySem.W.Frag) (g : P2 → Int) : Sp := fun vs H Q _ => ∃ (a : Addr) (ns : List Int) (m : Nat), vs = [.ref a] ∧ SqL K H a (ns.map V.int) ∧ ns.length = 2 * m ∧ m ≤ 11 ∧
  ∀ (H' : Hp) (p : Addr), Same H H' → H' p = some (.lst (((unflat ns).map g).map V.int)) → Q (.ref p) H'
theorem ok_values_of {f : Addr} {fd : FuncData} {k : Nat} (F : Fun K "values_of" "values_of" s_values_of f fd) (mR : mg "range" = none) (mL : mg "len" = none) : FnOk P w K mg base CX0 (k + 1) f fd ["measurements"] (sp_every K (·.1)) := by
  refine F.ok sc_values_of (fun vs H Q E h => ?_) (fun cdv A outer s H vs Q E hr h => ?_)
  · obtain ⟨a, ns, m, rfl, _⟩ := h
    rfl
  obtain ⟨a, ns, m, rfl, hS, hm, hb, q⟩ := h
  refine ⟨_, pss_one (ps_ret (pe_lc (own := [("at", 1)]) (g := gName 1) (tt := tYes) rfl sc_values_of.nd
    (pi_range3 (by rfl) mR (pa_cons pe_int (pa_cons (pe_callB call_len_seq (by rfl) mL PySem.boot_len (pa_cons (pv 0) pa_nil)) (pa_cons pe_int pa_nil))))
    (blkOk_by (N := ["measurements", "at"]) (sc := defScope s_values_of) (by decide +kernel)) (fun _ _ _ _ _ => pg_name (i := 1) sc_values_of.nd rfl (Or.inl rfl)) (fun _ _ _ _ _ => pts_nil)
    (fun _ _ _ _ _ => pe_ix (r := rIxL K) ix_list (pv 0) (pv 1) (fun _ _ => rfl)))), ?_⟩
  have hl : (unflat ns).length = m := unflat_len hm
  have hl2 : (((ns.map V.int).length : Nat) : Int) = ((2 * m : Nat) : Int) := by rw [List.length_map, hm]
  refine ⟨_, rfl, a, _, rfl, .inl hS, 0, _, 2, m, rfl, by rw [hl2]; exact rg_even m hb, fun D hD => ?_⟩
  refine lc_it walk_rangeC (fun i H' => Same H H' ∧ H' D = some (.lst ((((unflat ns).map (·.1)).map V.int).take i))) ⟨same_upd hD, upd_same⟩ (fun _ _ _ _ => trivial) ?_ ?_
  · rintro i x H1 H2 hi ⟨s1, d1⟩ ⟨rfl, rfl⟩
    have hi' : i < (unflat ns).length := by omega
    have hk : i < (((unflat ns).map (·.1)).map V.int).length := by rw [List.length_map, List.length_map]; exact hi'
    have g1 := (unflat_get ns i hi').1
    refine ⟨rfl, ⟨_, rfl, _, rfl, a, _, _, .int ((unflat ns)[i]).1, rfl, rfl, s1.seq hS, at_of (j := 2 * i) (by omega) (by rw [List.getElem?_map, g1] <;> rfl), _, d1, ?_, ?_, ?_⟩⟩
    · rw [List.length_take]
      exact small1000 (by omega)
    · exact fun b o e => by
        rw [upd_ne (ne_of_none e hD)]
        exact s1 _ _ e
    · rw [upd_same, take_snoc hk, List.getElem_map, List.getElem_map]
  · rintro H1 ⟨s1, d1⟩
    refine q H1 D s1 ?_
    rw [d1, List.take_of_length_le (by rw [List.length_map, List.length_map]; omega)]

abbrev s_weights_of : Stmt := topS 8
theorem sc_weights_of : FnScope ["measurements", "at"] ["measurements"] (defScope s_weights_of) := ⟨rfl, rfl, rfl, by decide +kernel, rfl, by decide +kernel, by decide +kernel⟩
theorem ok_weights_of {f : Addr} {fd : FuncData} {k : Nat} (F : Fun K "weights_of" "weights_of" s_weights_of f fd) (mR : mg "range" = none) (mL : mg "len" = none) : FnOk P w K mg base CX0 (k + 1) f fd ["measurements"] (sp_every K (·.2)) := by
  refine F.ok sc_weights_of (fun vs H Q E h => ?_) (fun cdv A outer s H vs Q E hr h => ?_)
  · obtain ⟨a, ns, m, rfl, _⟩ := h
    rfl
  obtain ⟨a, ns, m, rfl, hS, hm, hb, q⟩ := h
  refine ⟨_, pss_one (ps_ret (pe_lc (own := [("at", 1)]) (g := gName 1) (tt := tYes) rfl sc_weights_of.nd
    (pi_range3 (by rfl) mR (pa_cons pe_int (pa_cons (pe_callB call_len_seq (by rfl) mL PySem.boot_len (pa_cons (pv 0) pa_nil)) (pa_cons pe_int pa_nil))))
    (blkOk_by (N := ["measurements", "at"]) (sc := defScope s_weights_of) (by decide +kernel)) (fun _ _ _ _ _ => pg_name (i := 1) sc_weights_of.nd rfl (Or.inl rfl)) (fun _ _ _ _ _ => pts_nil)
    (fun _ _ _ _ _ => pe_ix (r := rIxL K) ix_list (pv 0) (pv 1) (fun _ _ => rfl)))), ?_⟩
  have hl : (unflat ns).length = m := unflat_len hm
  have hl2 : (((ns.map V.int).length : Nat) : Int) = ((2 * m : Nat) : Int) := by rw [List.length_map, hm]
  refine ⟨_, rfl, a, _, rfl, .inl hS, 1, _, 2, m, rfl, by rw [hl2]; exact rg_odd m hb, fun D hD => ?_⟩
  refine lc_it walk_rangeC (fun i H' => Same H H' ∧ H' D = some (.lst ((((unflat ns).map (·.2)).map V.int).take i))) ⟨same_upd hD, upd_same⟩ (fun _ _ _ _ => trivial) ?_ ?_
  · rintro i x H1 H2 hi ⟨s1, d1⟩ ⟨rfl, rfl⟩
    have hi' : i < (unflat ns).length := by omega
    have hk : i < (((unflat ns).map (·.2)).map V.int).length := by rw [List.length_map, List.length_map]; exact hi'
    have g1 := (unflat_get ns i hi').2
    refine ⟨rfl, ⟨_, rfl, _, rfl, a, _, _, .int ((unflat ns)[i]).2, rfl, rfl, s1.seq hS, at_of (j := 2 * i + 1) (by omega) (by rw [List.getElem?_map, g1] <;> rfl), _, d1, ?_, ?_, ?_⟩⟩
    · rw [List.length_take]
      exact small1000 (by omega)
    · exact fun b o e => by
        rw [upd_ne (ne_of_none e hD)]
        exact s1 _ _ e
    · rw [upd_same, take_snoc hk, List.getElem_map, List.getElem_map]
  · rintro H1 ⟨s1, d1⟩
    refine q H1 D s1 ?_
    rw [d1, List.take_of_length_le (by rw [List.length_map, List.length_map]; omega)]

/-! are_measurements -/
abbrev s_are_measurements : Stmt := topS 9
theorem sc_are_measurements : FnScope ["measurements"] ["measurements"] (defScope s_are_measurements) := ⟨rfl, rfl, rfl, by decide +kernel, rfl, by decide +kernel, by decide +kernel⟩
def sp_are_measurements (K : PySem.W.Frag) : Sp := fun vs H Q _ => ∃ (a : Addr) (ns : List Int), vs = [.ref a] ∧ SqL K H a (ns.map V.int) ∧ ns.length ≤ 23 ∧ ∀ H', Same H H' → Q (.bl (okM ns)) H'
theorem ok_are_measurements {f f1 f2 f3 f4 : Addr} {fd fd1 fd2 fd3 fd4 : FuncData} {k : Nat} {t1 t2 t3 : Tok} (F : Fun K "are_measurements" "are_measurements" s_are_measurements f fd)
    (G1 : FnOk P w K mg base CX0 k f1 fd1 ["number", "low", "high"] sp_is_within) (k1 : PySem.W.keepIn K (.ref f1) = true) (b1 : Binds K fd1 ["number", "low", "high"] []) (g1 : mg "is_within" = some (.ref f1))
    (G2 : FnOk P w K mg base CX0 k f2 fd2 ["numbers", "low", "high"] (sp_are_within K)) (k2 : PySem.W.keepIn K (.ref f2) = true) (b2 : Binds K fd2 ["numbers", "low", "high"] []) (g2 : mg "are_within" = some (.ref f2))
    (G3 : FnOk P w K mg base CX0 k f3 fd3 ["measurements"] (sp_every K (·.1))) (k3 : PySem.W.keepIn K (.ref f3) = true) (b3 : Binds K fd3 ["measurements"] []) (g3 : mg "values_of" = some (.ref f3))
    (G4 : FnOk P w K mg base CX0 k f4 fd4 ["measurements"] (sp_every K (·.2))) (k4 : PySem.W.keepIn K (.ref f4) = true) (b4 : Binds K fd4 ["measurements"] []) (g4 : mg "weights_of" = some (.ref f4))
    (mL : mg "len" = none) (c1 : mg "MOST_MEASUREMENTS" = some (.int 10 t1)) (c2 : mg "MOST_VALUE" = some (.int 999 t2)) (c3 : mg "MOST_WEIGHT" = some (.int 9 t3)) :
    FnOk P w K mg base CX0 (k + 1) f fd ["measurements"] (sp_are_measurements K) := by
  refine F.ok sc_are_measurements (fun vs H Q E h => ?_) (fun cdv A outer s H vs Q E hr h => ?_)
  · obtain ⟨a, ns, rfl, _⟩ := h
    rfl
  obtain ⟨a, ns, rfl, hS, hb, q⟩ := h
  refine ⟨_, pss_cons (ps_if (pt_cmpR op_ne (pe_op op_mod (pe_callB call_len_seq (by rfl) mL PySem.boot_len (pa_cons (pv 0) pa_nil)) pe_int) pe_int (nomark _)) (pss_one (ps_ret pe_bl)) pss_nil)
    (pss_cons (ps_if (pt_not (pt_val (pe_call G1 hr (by rfl) g1 k1 b1 .nil pass0 (pa_cons (pe_op op_fdiv (pe_callB call_len_seq (by rfl) mL PySem.boot_len (pa_cons (pv 0) pa_nil)) pe_int) (pa_cons pe_int (pa_cons (pe_glob (v := .int 10) rfl c1 ⟨_, rfl⟩) pa_nil)))))) (pss_one (ps_ret pe_bl)) pss_nil)
    (pss_cons (ps_if (pt_not (pt_val (pe_call G2 hr (by rfl) g2 k2 b2 .nil pass0 (pa_cons (pe_call G3 hr (by rfl) g3 k3 b3 .nil pass0 (pa_cons (pv 0) pa_nil)) (pa_cons pe_int (pa_cons (pe_glob (v := .int 999) rfl c2 ⟨_, rfl⟩) pa_nil)))))) (pss_one (ps_ret pe_bl)) pss_nil)
    (pss_one (ps_ret (pe_call G2 hr (by rfl) g2 k2 b2 .nil pass0 (pa_cons (pe_call G4 hr (by rfl) g4 k4 b4 .nil pass0 (pa_cons (pv 0) pa_nil)) (pa_cons pe_int (pa_cons (pe_glob (v := .int 9) rfl c3 ⟨_, rfl⟩) pa_nil)))))))), ?_⟩
  have hl : (ns.map V.int).length = ns.length := List.length_map _
  refine ⟨_, rfl, a, _, rfl, .inl hS, _, _, rfl, rfl, (by show (0 : Int) < 2; decide), rfl, _, rfl, ?_⟩
  rw [hl]
  by_cases d0 : ns.length % 2 = 0
  case neg =>
    have e0 : ¬ V.int (((ns.length : Nat) : Int) % 2) = V.int 0 := fun z => by
      have := V.int.inj z
      omega
    refine ite_l (by rw [decide_eq_false e0]; rfl) (bl_of (q H (Same.refl H)) ?_)
    unfold okM
    rw [decide_eq_false d0]
    rfl
  have e0 : V.int (((ns.length : Nat) : Int) % 2) = V.int 0 := congrArg V.int (by omega)
  refine iteNS e0 ?_
  refine ⟨_, rfl, a, _, rfl, .inl hS, _, _, rfl, rfl, ⟨by decide, by decide⟩, _, 1, 10, rfl, _, rfl, ?_⟩
  rw [hl, show ((ns.length : Nat) : Int) / 2 = ((ns.length / 2 : Nat) : Int) by omega]
  by_cases d1 : isWithin ((ns.length / 2 : Nat) : Int) 1 10 = true
  case neg =>
    refine ite_l (by rw [Bool.eq_false_iff.mpr d1]; rfl) (bl_of (q H (Same.refl H)) ?_)
    unfold okM
    rw [Bool.eq_false_iff.mpr d1, Bool.and_false]
    rfl
  refine ite_r (by rw [d1]; decide) ?_
  have hm : ns.length = 2 * (ns.length / 2) := by omega
  have hm2 : ns.length / 2 ≤ 11 := by omega
  refine ⟨_, rfl, a, ns, _, rfl, hS, hm, hm2, fun H1 p1 s1 h1 => ?_⟩
  refine ⟨p1, (unflat ns).map (·.1), 0, 999, rfl, .of h1, _, rfl, ?_⟩
  by_cases d2 : areWithin ((unflat ns).map (·.1)) 0 999 = true
  case neg =>
    refine ite_l (by rw [Bool.eq_false_iff.mpr d2]; rfl) (bl_of (q H1 s1) ?_)
    unfold okM
    rw [Bool.eq_false_iff.mpr d2, Bool.and_false]
    rfl
  refine ite_r (by rw [d2]; decide) ?_
  refine ⟨_, rfl, a, ns, _, rfl, s1.seq hS, hm, hm2, fun H2 p2 s2 h2 => ?_⟩
  refine ⟨p2, (unflat ns).map (·.2), 1, 9, rfl, .of h2, bl_of (q H2 (s1.trans s2)) ?_⟩
  unfold okM
  rw [d1, d2, decide_eq_true d0]
  rfl

abbrev s_pairs_of : Stmt := topS 10
theorem sc_pairs_of : FnScope ["measurements", "at"] ["measurements"] (defScope s_pairs_of) := ⟨rfl, rfl, rfl, by decide +kernel, rfl, by decide +kernel, by decide +kernel⟩
def sp_pairs_of (K : PySem.W.Frag) : Sp := fun vs H Q _ => ∃ (a : Addr) (ns : List Int) (m : Nat), vs = [.ref a] ∧ SqL K H a (ns.map V.int) ∧ ns.length = 2 * m ∧ m ≤ 11 ∧
  ∀ (H' : Hp) (p : Addr), Same H H' → TL e2 H' p (unflat ns) → Q (.ref p) H'
theorem ok_pairs_of {f : Addr} {fd : FuncData} {k : Nat} (F : Fun K "pairs_of" "pairs_of" s_pairs_of f fd) (mR : mg "range" = none) (mL : mg "len" = none) : FnOk P w K mg base CX0 (k + 1) f fd ["measurements"] (sp_pairs_of K) := by
  refine F.ok sc_pairs_of (fun vs H Q E h => ?_) (fun cdv A outer s H vs Q E hr h => ?_)
  · obtain ⟨a, ns, m, rfl, _⟩ := h
    rfl
  obtain ⟨a, ns, m, rfl, hS, hm, hb, q⟩ := h
  refine ⟨_, pss_one (ps_ret (pe_lc (own := [("at", 1)]) (g := gName 1) (tt := tYes) rfl sc_pairs_of.nd
    (pi_range3 (by rfl) mR (pa_cons pe_int (pa_cons (pe_callB call_len_seq (by rfl) mL PySem.boot_len (pa_cons (pv 0) pa_nil)) (pa_cons pe_int pa_nil))))
    (blkOk_by (N := ["measurements", "at"]) (sc := defScope s_pairs_of) (by decide +kernel)) (fun _ _ _ _ _ => pg_name (i := 1) sc_pairs_of.nd rfl (Or.inl rfl)) (fun _ _ _ _ _ => pts_nil)
    (fun _ _ _ _ _ => pe_tup (pa_cons (pe_ix (r := rIxL K) ix_list (pv 0) (pv 1) (fun _ _ => rfl)) (pa_cons (pe_ix (r := rIxL K) ix_list (pv 0) (pe_op op_add (pv 1) pe_int) (fun _ _ => rfl)) pa_nil))))), ?_⟩
  have hl : (unflat ns).length = m := unflat_len hm
  have hl2 : (((ns.map V.int).length : Nat) : Int) = ((2 * m : Nat) : Int) := by rw [List.length_map, hm]
  refine ⟨_, rfl, a, _, rfl, .inl hS, 0, _, 2, m, rfl, by rw [hl2]; exact rg_even m hb, fun D hD => ?_⟩
  refine lc_it walk_rangeC (fun i H' => Same H H' ∧ ∃ acc, H' D = some (.lst acc) ∧ Rows e2 H' acc ((unflat ns).take i)) ⟨same_upd hD, _, upd_same, Rows.nil⟩ (fun _ _ _ _ => trivial) ?_ ?_
  · rintro i x H1 H2 hi ⟨s1, acc, d1, r1⟩ ⟨rfl, rfl⟩
    have hi' : i < (unflat ns).length := by omega
    obtain ⟨g1, g2⟩ := unflat_get ns i hi'
    refine ⟨rfl, ⟨_, rfl, _, rfl, a, _, _, .int ((unflat ns)[i]).1, rfl, rfl, s1.seq hS, at_of (j := 2 * i) (by omega) (by rw [List.getElem?_map, g1] <;> rfl),
      _, rfl, _, rfl, _, _, rfl, rfl, a, _, _, .int ((unflat ns)[i]).2, rfl, rfl, s1.seq hS, at_of (j := 2 * i + 1) (by omega) (by rw [List.getElem?_map, g2] <;> rfl),
      (by show 2 ≤ sizeLine; decide), fun p hp => ?_⟩⟩
    have s2 : Same H2 (upd H2 p (.tup (e2 (unflat ns)[i]))) := same_upd hp
    refine ⟨acc, s2 _ _ d1, ?_, ?_, _, upd_same, ?_⟩
    · rw [r1.len, List.length_take]
      exact small1000 (by omega)
    · exact fun b o e => by
        rw [upd_ne (ne_of_none e hD)]
        exact s2 _ _ (s1 _ _ e)
    · rw [take_snoc hi']
      exact ((r1.same s2).append (Rows.one upd_same)).put (s2 _ _ d1)
  · rintro H1 ⟨s1, acc, d1, r1⟩
    refine q H1 D s1 ⟨acc, d1, ?_⟩
    rw [← hl, List.take_length] at r1
    exact r1

/-! block_of, joined, mean_of, is_at_most -/
abbrev s_block_of : Stmt := topS 12
theorem sc_block_of : FnScope ["pair", "value", "weight"] ["pair"] (defScope s_block_of) := ⟨rfl, rfl, rfl, by decide +kernel, rfl, by decide +kernel, by decide +kernel⟩
def sp_block_of : Sp := fun vs H Q _ => ∃ (a : Addr) (p : P2), vs = [.ref a] ∧ H a = some (.tup (e2 p)) ∧ Ok1 p ∧ ∀ (H' : Hp) (q : Addr), Same H H' → H' q = some (.tup (e3 (blockOf p))) → Q (.ref q) H'
theorem ok_block_of {f : Addr} {fd : FuncData} {k : Nat} (F : Fun K "block_of" "block_of" s_block_of f fd) : FnOk P w K mg base CX0 (k + 1) f fd ["pair"] sp_block_of := by
  refine F.ok sc_block_of (fun vs H Q E h => ?_) (fun cdv A outer s H vs Q E hr h => ?_)
  · obtain ⟨a, p, rfl, _⟩ := h
    rfl
  obtain ⟨a, p, rfl, hp, ok, q⟩ := h
  refine ⟨_, pss_cons (ps_asg (pv 0) (pg_tup rfl (pgs_cons (pg_name (i := 1) sc_block_of.nd rfl (.inl rfl)) (pgs_cons (pg_name (i := 2) sc_block_of.nd rfl (.inl rfl)) pgs_nil))))
    (pss_one (ps_ret (pe_tup (pa_cons pe_int (pa_cons (pv 2) (pa_cons (pe_op op_mul (pv 2) (pv 1)) pa_nil)))))), ?_⟩
  obtain ⟨o1, o2, o3, o4⟩ := ok
  refine ⟨_, rfl, a, _, rfl, .of hp, rfl, .int p.1, [.int p.2], rfl, .int p.2, [], rfl, rfl, ?_⟩
  refine ⟨_, rfl, _, rfl, _, rfl, p.2, p.1, rfl, rfl, .inl ⟨by omega, by omega⟩, (by show 3 ≤ sizeLine; decide), fun r hr' => ?_⟩
  exact q _ r (same_upd hr') upd_same

abbrev s_joined : Stmt := topS 13
theorem sc_joined : FnScope ["one", "other"] ["one", "other"] (defScope s_joined) := ⟨rfl, rfl, rfl, by decide +kernel, rfl, by decide +kernel, by decide +kernel⟩
def sp_joined : Sp := fun vs H Q _ => ∃ (a b : Addr) (x y : P3), vs = [.ref a, .ref b] ∧ H a = some (.tup (e3 x)) ∧ H b = some (.tup (e3 y)) ∧ ∀ (H' : Hp) (q : Addr), Same H H' → H' q = some (.tup (e3 (joined x y))) → Q (.ref q) H'
theorem ok_joined {f : Addr} {fd : FuncData} {k : Nat} (F : Fun K "joined" "joined" s_joined f fd) : FnOk P w K mg base CX0 (k + 1) f fd ["one", "other"] sp_joined := by
  refine F.ok sc_joined (fun vs H Q E h => ?_) (fun cdv A outer s H vs Q E hr h => ?_)
  · obtain ⟨a, b, x, y, rfl, _⟩ := h
    rfl
  obtain ⟨a, b, x, y, rfl, hx, hy, q⟩ := h
  refine ⟨_, pss_one (ps_ret (pe_tup (pa_cons (pe_op op_add (pe_ix ix_tup (pv 0) pe_int (fun _ _ => rfl)) (pe_ix ix_tup (pv 1) pe_int (fun _ _ => rfl)))
    (pa_cons (pe_op op_add (pe_ix ix_tup (pv 0) pe_int (fun _ _ => rfl)) (pe_ix ix_tup (pv 1) pe_int (fun _ _ => rfl)))
    (pa_cons (pe_op op_add (pe_ix ix_tup (pv 0) pe_int (fun _ _ => rfl)) (pe_ix ix_tup (pv 1) pe_int (fun _ _ => rfl))) pa_nil))))), ?_⟩
  refine ⟨_, rfl, a, _, _, _, rfl, rfl, .of hx, at3_0 x, _, rfl, b, _, _, _, rfl, rfl, .of hy, at3_0 y, _, _, rfl, rfl, ?_⟩
  refine ⟨_, rfl, a, _, _, _, rfl, rfl, .of hx, at3_1 x, _, rfl, b, _, _, _, rfl, rfl, .of hy, at3_1 y, _, _, rfl, rfl, ?_⟩
  refine ⟨_, rfl, a, _, _, _, rfl, rfl, .of hx, at3_2 x, _, rfl, b, _, _, _, rfl, rfl, .of hy, at3_2 y, _, _, rfl, rfl, (by show 3 ≤ sizeLine; decide), fun r hr' => ?_⟩
  exact q _ r (same_upd hr') upd_same

abbrev s_is_at_most : Stmt := topS 14
theorem sc_is_at_most : FnScope ["one", "other"] ["one", "other"] (defScope s_is_at_most) := ⟨rfl, rfl, rfl, by decide +kernel, rfl, by decide +kernel, by decide +kernel⟩
def sp_is_at_most : Sp := fun vs H Q _ => ∃ (a b : Addr) (x y : P3), vs = [.ref a, .ref b] ∧ H a = some (.tup (e3 x)) ∧ H b = some (.tup (e3 y)) ∧ (0 ≤ x.2.2 ∧ x.2.2 ≤ 89910) ∧ (0 ≤ y.2.2 ∧ y.2.2 ≤ 89910) ∧ Q (.bl (isAtMost x y)) H
theorem ok_is_at_most {f : Addr} {fd : FuncData} {k : Nat} (F : Fun K "is_at_most" "is_at_most" s_is_at_most f fd) : FnOk P w K mg base CX0 (k + 1) f fd ["one", "other"] sp_is_at_most := by
  refine F.ok sc_is_at_most (fun vs H Q E h => ?_) (fun cdv A outer s H vs Q E hr h => ?_)
  · obtain ⟨a, b, x, y, rfl, _⟩ := h
    rfl
  obtain ⟨a, b, x, y, rfl, hx, hy, bx, bY, q⟩ := h
  refine ⟨_, pss_one (ps_ret (pe_cmpR op_le (pe_op op_mul (pe_ix ix_tup (pv 0) pe_int (fun _ _ => rfl)) (pe_ix ix_tup (pv 1) pe_int (fun _ _ => rfl)))
    (pe_op op_mul (pe_ix ix_tup (pv 1) pe_int (fun _ _ => rfl)) (pe_ix ix_tup (pv 0) pe_int (fun _ _ => rfl))) (nomark _))), ?_⟩
  refine ⟨_, rfl, a, _, _, _, rfl, rfl, .of hx, at3_2 x, _, rfl, b, _, _, _, rfl, rfl, .of hy, at3_1 y, _, _, rfl, rfl, .inl ⟨by omega, by omega⟩, ?_⟩
  refine ⟨_, rfl, b, _, _, _, rfl, rfl, .of hy, at3_2 y, _, rfl, a, _, _, _, rfl, rfl, .of hx, at3_1 x, _, _, rfl, rfl, .inl ⟨by omega, by omega⟩, ?_⟩
  exact ⟨_, _, rfl, rfl, q⟩

/-! merged -/
theorem atI_neg {α : Type} {xs : List α} {k : Nat} (h1 : 1 ≤ k) (h2 : k ≤ xs.length) : atI xs (-(k : Int)) = xs[xs.length - k]? := by
  unfold atI ixN
  rw [if_neg (by omega), if_pos (by omega)]
  show xs[(-(k : Int) + (xs.length : Int)).toNat]? = _
  congr 1
  omega
theorem cut_last2 {xs : List V} (h : 2 ≤ xs.length) : cutV xs none (some (-2)) = xs.take (xs.length - 2) := by
  unfold cutV
  rw [HT.sIx_none]
  show (xs.drop 0).take ((if (-2 : Int) < 0 then ((-2 : Int) + (xs.length : Int)).toNat else min (-2 : Int).toNat xs.length) - 0) = _
  rw [if_pos (by decide), List.drop_zero]
  congr 1
  omega
abbrev s_merged : Stmt := topS 15
theorem sc_merged : FnScope ["blocks", "found"] ["blocks"] (defScope s_merged) := ⟨rfl, rfl, rfl, by decide +kernel, rfl, by decide +kernel, by decide +kernel⟩
def sp_merged : Sp := fun vs H Q _ => ∃ (a : Addr) (bs : List P3), vs = [.ref a] ∧ TL e3 H a bs ∧ GoodL bs ∧ ∀ (H' : Hp) (p : Addr), Same H H' → TL e3 H' p (merged bs) → Q (.ref p) H'
theorem goodL_len {bs : List P3} (h : GoodL bs) : bs.length ≤ 10 := by
  have := sizes_ge h.1
  have := h.2
  omega
theorem ok_merged {f f1 f2 : Addr} {fd fd1 fd2 : FuncData} {k : Nat} (F : Fun K "merged" "merged" s_merged f fd)
    (G1 : FnOk P w K mg base CX0 k f1 fd1 ["one", "other"] sp_is_at_most) (k1 : PySem.W.keepIn K (.ref f1) = true) (b1 : Binds K fd1 ["one", "other"] []) (g1 : mg "is_at_most" = some (.ref f1))
    (G2 : FnOk P w K mg base CX0 k f2 fd2 ["one", "other"] sp_joined) (k2 : PySem.W.keepIn K (.ref f2) = true) (b2 : Binds K fd2 ["one", "other"] []) (g2 : mg "joined" = some (.ref f2))
    (mL : mg "len" = none) (mI : mg "list" = none) : FnOk P w K mg base CX0 (k + 1) f fd ["blocks"] sp_merged := by
  refine F.ok sc_merged (fun vs H Q E h => ?_) (fun cdv A outer s H vs Q E hr h => ?_)
  · obtain ⟨a, bs, rfl, _⟩ := h
    rfl
  obtain ⟨a, bs, rfl, ⟨vs, hv, hrow⟩, hg, q⟩ := h
  refine ⟨_, pss_cons (ps_set (i := 1) sc_merged.nd rfl (.inl rfl) (pe_callTy call_list_of (by rfl) mI (by decide +kernel) (pa_cons (pv 0) pa_nil)))
    (pss_cons (ps_while PassesOwn.never (PW.pt (pw_and (pt_cmpR op_gt (pe_callB call_len_seq (by rfl) mL PySem.boot_len (pa_cons (pv 1) pa_nil)) pe_int (nomark _))
        (pw_and1 (pt_val (pe_call G1 hr (by rfl) g1 k1 b1 .nil pass0 (pa_cons (pe_ix ix_list (pv 1) (pe_un un_neg pe_int) (fun _ _ => rfl)) (pa_cons (pe_ix ix_list (pv 1) (pe_un un_neg pe_int) (fun _ _ => rfl)) pa_nil)))))))
      (pss_one (ps_set (i := 1) sc_merged.nd rfl (.inl rfl) (pe_op op_cat (pe_slice sl_list (pv 1) po_none (po_some (pe_un un_neg pe_int)))
        (pe_lst (pa_cons (pe_call G2 hr (by rfl) g2 k2 b2 .nil pass0 (pa_cons (pe_ix ix_list (pv 1) (pe_un un_neg pe_int) (fun _ _ => rfl)) (pa_cons (pe_ix ix_list (pv 1) (pe_un un_neg pe_int) (fun _ _ => rfl)) pa_nil))) pa_nil))))))
    (pss_one (ps_ret (pv 1)))), ?_⟩
  -- found = list(blocks)
  refine ⟨_, rfl, a, vs, rfl, .inl (.of hv), fun l hl => ?_⟩
  refine ⟨fun m σ H' => ∃ (l : Addr) (cur : List P3), σ = [some (.ref a), some (.ref l)] ∧ m = cur.length ∧ Same H H' ∧ TL e3 H' l cur ∧ GoodL cur ∧ merged cur = merged bs,
    ⟨_, l, bs, rfl, rfl, same_upd hl, ⟨vs, upd_same, hrow.same (same_upd hl)⟩, hg, rfl⟩, ?_⟩
  rintro m σ H1 ⟨l1, cur, rfl, rfl, s1, ⟨ws, hw, rw1⟩, gc, em⟩
  have len10 := goodL_len gc
  have hlen : ws.length = cur.length := rw1.len
  refine ⟨_, rfl, l1, ws, rfl, .inl (.of hw), _, _, rfl, rfl, _, rfl, ?_⟩
  by_cases c2 : 1 < cur.length
  case neg =>
    refine ite_r (by rw [hlen, decide_eq_false (by omega)]; decide) ?_
    refine ite_r (by decide) ?_
    refine ⟨_, rfl, q H1 l1 s1 ⟨ws, hw, ?_⟩⟩
    rw [← em, merged_short (by omega)]
    exact rw1
  refine ite_l (by rw [hlen]; exact decide_eq_true (by omega)) ?_
  obtain ⟨ax, hx1, hx2⟩ := rw1.get (i := cur.length - 1) (by omega)
  obtain ⟨ay, hy1, hy2⟩ := rw1.get (i := cur.length - 2) (by omega)
  have i1 : atI ws (-1) = some (.ref ax) := (atI_neg (k := 1) (by omega) (by omega)).trans (by rw [hlen]; exact hx1)
  have i2 : atI ws (-2) = some (.ref ay) := (atI_neg (k := 2) (by omega) (by omega)).trans (by rw [hlen]; exact hy1)
  have split := last_two (l := cur) (by omega)
  generalize hX : cur[cur.length - 1] = X at hx2 split
  generalize hY : cur[cur.length - 2] = Y at hy2 split
  have mX : X ∈ cur := by rw [← hX]; exact List.getElem_mem _
  have mY : Y ∈ cur := by rw [← hY]; exact List.getElem_mem _
  have bX := goodL_block gc mX
  have bY := goodL_block gc mY
  refine ⟨_, rfl, _, rfl, l1, ws, _, _, rfl, rfl, .of hw, i1, _, rfl, _, rfl, l1, ws, _, _, rfl, rfl, .of hw, i2, ax, ay, X, Y, rfl, hx2, hy2, bX.2.2.2.2, bY.2.2.2.2, _, rfl, ?_⟩
  have gs := gc
  rw [split] at gs
  by_cases c3 : isAtMost X Y = true
  case neg =>
    refine ite_r c3 ?_
    refine ⟨_, rfl, q H1 l1 s1 ⟨ws, hw, ?_⟩⟩
    rw [← em]
    have e : merged cur = cur := by
      rw [split, merged_step, if_neg c3]
    rw [e]
    exact rw1
  refine ite_l c3 ?_
  refine ⟨fun σ' H' => ∃ (l : Addr), σ' = [some (.ref a), some (.ref l)] ∧ Same H H' ∧ TL e3 H' l (cur.take (cur.length - 2) ++ [joined Y X]), fun σ' H' ⟨l', e1, e2, e3'⟩ => ?_, ?_⟩
  · refine ⟨_, ?_, l', _, e1, rfl, e2, e3', goodL_join gs, ?_⟩
    · rw [List.length_append, List.length_take, List.length_singleton]
      omega
    · rw [← em]
      conv => rhs; rw [split]
      rw [merged_step, if_pos c3]
  -- found = found[:-2] + [joined(found[-2], found[-1])]
  refine ⟨_, rfl, _, rfl, _, rfl, l1, ws, rfl, .of hw, fun p hp => ?_⟩
  have t1 : Same H1 (upd H1 p (.lst (cutV ws none (some (-2))))) := same_upd hp
  have hw' := t1 _ _ hw
  refine ⟨_, rfl, _, rfl, l1, ws, _, _, rfl, rfl, .of hw', i2, _, rfl, _, rfl, l1, ws, _, _, rfl, rfl, .of hw', i1, ay, ax, Y, X, rfl, t1 _ _ hy2, t1 _ _ hx2, fun H2 r s2 h2 => ?_⟩
  refine ⟨(by show 1 ≤ sizeLine; decide), fun u hu => ?_⟩
  have t2 : Same H2 (upd H2 u (.lst [.ref r])) := same_upd hu
  refine ⟨p, u, _, _, rfl, rfl, t2 _ _ (s2 _ _ upd_same), upd_same, ?_, fun z hz => ?_⟩
  · have := cutV_length ws none (some (-2))
    rw [List.length_singleton]
    exact small (by omega)
  have t3 : Same (upd H2 u (.lst [.ref r])) (upd (upd H2 u (.lst [.ref r])) z (.lst (cutV ws none (some (-2)) ++ [.ref r]))) := same_upd hz
  have s3 := (t1.trans s2).trans (t2.trans t3)
  refine ⟨z, rfl, s1.trans s3, _, upd_same, ?_⟩
  have e := cut_last2 (xs := ws) (by omega)
  rw [hlen] at e
  have rr := ((rw1.take (cur.length - 2)).same s3).append (Rows.one ((t2.trans t3) _ _ h2))
  rw [← e] at rr
  exact rr

/-! blocks_of -/
abbrev s_blocks_of : Stmt := topS 16
theorem sc_blocks_of : FnScope ["pairs", "found", "pair"] ["pairs"] (defScope s_blocks_of) := ⟨rfl, rfl, rfl, by decide +kernel, rfl, by decide +kernel, by decide +kernel⟩
def sp_blocks_of : Sp := fun vs H Q _ => ∃ (a : Addr) (ps : List P2), vs = [.ref a] ∧ TL e2 H a ps ∧ (∀ p ∈ ps, Ok1 p) ∧ ps.length ≤ 10 ∧ ∀ (H' : Hp) (p : Addr), Same H H' → TL e3 H' p (blocksOf ps) → Q (.ref p) H'
theorem ok_blocks_of {f f1 f2 : Addr} {fd fd1 fd2 : FuncData} {k : Nat} (F : Fun K "blocks_of" "blocks_of" s_blocks_of f fd)
    (G1 : FnOk P w K mg base CX0 k f1 fd1 ["blocks"] sp_merged) (k1 : PySem.W.keepIn K (.ref f1) = true) (b1 : Binds K fd1 ["blocks"] []) (g1 : mg "merged" = some (.ref f1))
    (G2 : FnOk P w K mg base CX0 k f2 fd2 ["pair"] sp_block_of) (k2 : PySem.W.keepIn K (.ref f2) = true) (b2 : Binds K fd2 ["pair"] []) (g2 : mg "block_of" = some (.ref f2)) : FnOk P w K mg base CX0 (k + 1) f fd ["pairs"] sp_blocks_of := by
  refine F.ok sc_blocks_of (fun vs H Q E h => ?_) (fun cdv A outer s H vs Q E hr h => ?_)
  · obtain ⟨a, bs, rfl, _⟩ := h
    rfl
  obtain ⟨a, ps, rfl, ⟨vs, hv, hrow⟩, ok, hb, q⟩ := h
  refine ⟨_, pss_cons (ps_set (i := 1) sc_blocks_of.nd rfl (.inl rfl) (pe_lst pa_nil))
    (pss_cons (ps_for PassesOwn.never rfl (pi_list (pv 0)) (pg_name (i := 2) sc_blocks_of.nd rfl (Or.inl rfl))
      (pss_one (ps_set (i := 1) sc_blocks_of.nd rfl (.inl rfl) (pe_call G1 hr (by rfl) g1 k1 b1 .nil pass0 (pa_cons (pe_op op_cat (pv 1) (pe_lst (pa_cons (pe_call G2 hr (by rfl) g2 k2 b2 .nil pass0 (pa_cons (pv 2) pa_nil)) pa_nil))) pa_nil)))))
    (pss_one (ps_ret (pv 1)))), ?_⟩
  refine ⟨Nat.zero_le _, fun l hl => ?_⟩
  refine ⟨_, rfl, a, rfl, ⟨_, SqL.of (same_upd hl _ _ hv)⟩, for_list (K := K) (a := a) (xs := vs) (fun i σ H' => ∃ (l : Addr) (v : Option V), σ = [some (.ref a), some (.ref l), v] ∧ Same H H' ∧ TL e3 H' l (blocksOf (ps.take i)))
    ⟨l, none, rfl, same_upd hl, _, upd_same, Rows.nil⟩ (fun i σ H' _ ⟨_, _, _, s1, _⟩ => .of (s1 _ _ hv)) ?_ ?_⟩
  · rintro i y σ H1 hi ⟨l1, v, rfl, s1, ws, hw, rw1⟩
    obtain ⟨p, ap, hp, rfl, hap⟩ := hrow.item hi
    have c : i < ps.length := (List.getElem?_eq_some_iff.mp hp).1
    have ep : ps[i] = p := (List.getElem?_eq_some_iff.mp hp).2
    have okt : ∀ p ∈ ps.take i, Ok1 p := fun p hp => ok p (List.mem_of_mem_take hp)
    have okp : Ok1 p := ok p (List.mem_of_getElem? hp)
    have lt : (ps.take i).length = i := by rw [List.length_take]; omega
    have gL := blocksOf_goodL okt (by omega)
    have szs : sizes (blocksOf (ps.take i)) ≤ 9 := by rw [(blocksOf_good okt).2]; omega
    have gM := goodL_more gL szs okp
    have l10 := goodL_len gL
    refine ⟨_, rfl, _, rfl, ap, p, rfl, s1 _ _ hap, okp, fun H2 r s2 h2 => ?_⟩
    refine ⟨(by show 1 ≤ sizeLine; decide), fun u hu => ?_⟩
    have t2 : Same H2 (upd H2 u (.lst [.ref r])) := same_upd hu
    refine ⟨l1, u, _, _, rfl, rfl, t2 _ _ (s2 _ _ hw), upd_same, ?_, fun z hz => ?_⟩
    · rw [List.length_singleton, rw1.len]
      exact small (by omega)
    have t3 : Same (upd H2 u (.lst [.ref r])) (upd (upd H2 u (.lst [.ref r])) z (.lst (ws ++ [.ref r]))) := same_upd hz
    have s3 := s2.trans (t2.trans t3)
    refine ⟨z, _, rfl, ⟨_, upd_same, (rw1.same s3).append (Rows.one ((t2.trans t3) _ _ h2))⟩, gM, fun H3 m s4 hm => ?_⟩
    refine ⟨m, some (.ref ap), rfl, s1.trans (s3.trans s4), ?_⟩
    rw [take_snoc c, blocksOf_snoc, ep]
    exact hm
  · rintro σ H1 ⟨l1, v, rfl, s1, hT⟩
    refine ⟨_, rfl, q H1 l1 s1 ?_⟩
    rw [hrow.len, List.take_length] at hT
    exact hT

/-! descents_of -/
abbrev s_descents_of : Stmt := topS 18
theorem sc_descents_of : FnScope ["pairs", "many", "at"] ["pairs"] (defScope s_descents_of) := ⟨rfl, rfl, rfl, by decide +kernel, rfl, by decide +kernel, by decide +kernel⟩
def sp_descents_of : Sp := fun vs H Q _ => ∃ (a : Addr) (ps : List P2), vs = [.ref a] ∧ TL e2 H a ps ∧ ps.length ≤ 1000 ∧ Q (.int (descentsOf ps)) H
def isDesc (ps : List P2) (i : Nat) : Bool := decide ((ps.getD (i + 1) (0, 0)).1 < (ps.getD i (0, 0)).1)
def desc (ps : List P2) (n : Nat) : Int := (((List.range n).filter (isDesc ps)).length : Nat)
theorem desc_succ (ps : List P2) (n : Nat) : desc ps (n + 1) = if isDesc ps n = true then desc ps n + 1 else desc ps n := by
  unfold desc
  rw [List.range_succ, List.filter_append, List.length_append]
  by_cases c : isDesc ps n = true
  · rw [if_pos c, List.filter_cons_of_pos c]
    rfl
  · rw [if_neg c, List.filter_cons_of_neg c]
    rfl
theorem ok_descents_of {f : Addr} {fd : FuncData} {k : Nat} (F : Fun K "descents_of" "descents_of" s_descents_of f fd) (mR : mg "range" = none) (mL : mg "len" = none) : FnOk P w K mg base CX0 (k + 1) f fd ["pairs"] sp_descents_of := by
  refine F.ok sc_descents_of (fun vs H Q E h => ?_) (fun cdv A outer s H vs Q E hr h => ?_)
  · obtain ⟨a, ps, rfl, _⟩ := h
    rfl
  obtain ⟨a, ps, rfl, ⟨vs, hv, hrow⟩, hb, q⟩ := h
  have nd := sc_descents_of.nd
  refine ⟨_, pss_cons (ps_set (i := 1) nd rfl (.inl rfl) pe_int)
    (pss_cons (ps_for PassesOwn.never rfl (pi_range2 (by rfl) mR (pa_cons pe_int (pa_cons (pe_callB call_len_seq (by rfl) mL PySem.boot_len (pa_cons (pv 0) pa_nil)) pa_nil))) (pg_name (i := 2) nd rfl (Or.inl rfl))
      (pss_one (ps_if (pt_cmpR op_lt (pe_ix ix_tup (pe_ix ix_list (pv 0) (pv 2) (fun _ _ => rfl)) pe_int (fun _ _ => rfl)) (pe_ix ix_tup (pe_ix ix_list (pv 0) (pe_op op_sub (pv 2) pe_int) (fun _ _ => rfl)) pe_int (fun _ _ => rfl)) (nomark _))
        (pss_one (ps_aug (i := 1) nd rfl (.inl rfl) pe_int ip_add)) pss_nil)))
    (pss_one (ps_ret (pv 1)))), ?_⟩
  have hlm := hrow.len
  refine ⟨_, rfl, a, _, rfl, .inl (.of hv), 1, _, rfl, ⟨by omega, by omega, by omega, by omega⟩, ?_⟩
  refine for_range (lo := 1) (n := (((vs.length : Nat) : Int) - 1).toNat) (fun i σ H' => ∃ v : Option V, σ = [some (.ref a), some (.int (desc ps i)), v] ∧ H' = H) ⟨none, rfl, rfl⟩ ?_ ?_
  · rintro i σ H1 hi ⟨v, rfl, rfl⟩
    have c1 : i < ps.length := by omega
    have c2 : i + 1 < ps.length := by omega
    obtain ⟨x1, y1, z1⟩ := hrow.get c1
    obtain ⟨x2, y2, z2⟩ := hrow.get c2
    refine ⟨_, rfl, _, rfl, a, _, _, _, rfl, rfl, .of hv, at_of (j := i + 1) (by omega) y2, x2, _, _, _, rfl, rfl, .of z2, at2_0 _,
      _, rfl, _, rfl, _, _, rfl, rfl, a, _, _, _, rfl, rfl, .of hv, at_of (j := i) (by omega) y1, x1, _, _, _, rfl, rfl, .of z1, at2_0 _, _, _, rfl, rfl, _, rfl, ?_⟩
    have e : isDesc ps i = decide (ps[i + 1].1 < ps[i].1) := by
      unfold isDesc
      rw [List.getD_eq_getElem?_getD, List.getD_eq_getElem?_getD, List.getElem?_eq_getElem c1, List.getElem?_eq_getElem c2]
      rfl
    by_cases d : ps[i + 1].1 < ps[i].1
    · refine ite_l (decide_eq_true d) ⟨_, rfl, _, _, rfl, rfl, some (.int (1 + (i : Int))), ?_, rfl⟩
      rw [desc_succ, e, if_pos (decide_eq_true d)]
      rfl
    · refine ite_r (by rw [decide_eq_false d]; decide) ⟨some (.int (1 + (i : Int))), ?_, rfl⟩
      rw [desc_succ, e, if_neg (by rw [decide_eq_false d]; decide)]
      rfl
  · rintro σ H1 ⟨v, rfl, rfl⟩
    refine ⟨_, rfl, ?_⟩
    have e : descentsOf ps = desc ps (((vs.length : Nat) : Int) - 1).toNat := by
      show desc ps (ps.length - 1) = _
      congr 1
      omega
    rw [← e]
    exact q

/-! ### 5. blocks -/
theorem okM_even {ns : List Int} (h : okM ns = true) : ns.length = 2 * (ns.length / 2) ∧ ns.length / 2 ≤ 11 ∧ 1 ≤ (unflat ns).length ∧ (unflat ns).length ≤ 10 ∧ ∀ p ∈ unflat ns, Ok1 p := by
  obtain ⟨h1, h2, h3⟩ := okM_iff.mp h
  have := unflat_length ns
  exact ⟨by omega, by omega, h2.1, h2.2, h3⟩
abbrev s_blocks : Stmt := topS 20
theorem sc_blocks : FnScope ["measurements", "pairs", "found", "block"] ["measurements"] (defScope s_blocks) := ⟨rfl, rfl, rfl, by decide +kernel, rfl, by decide +kernel, by decide +kernel⟩
def sp_blocks (K : PySem.W.Frag) : Sp := fun vs H Q _ => ∃ (a : Addr) (ns : List Int), vs = [.ref a] ∧ SqL K H a (ns.map V.int) ∧ ns.length ≤ 23 ∧ (∀ n ∈ ns, 0 ≤ n) ∧
  ∀ (H' : Hp) (p : Addr), H' p = some (.lst ((PyKs607.blocks ns).map V.int)) → Q (.ref p) H'
theorem ok_blocks {f f1 f2 f3 f4 : Addr} {fd fd1 fd2 fd3 fd4 : FuncData} {k : Nat} {t1 : Tok} (F : Fun K "blocks" "blocks" s_blocks f fd)
    (G1 : FnOk P w K mg base CX0 k f1 fd1 ["measurements"] (sp_are_measurements K)) (k1 : PySem.W.keepIn K (.ref f1) = true) (b1 : Binds K fd1 ["measurements"] []) (g1 : mg "are_measurements" = some (.ref f1))
    (G2 : FnOk P w K mg base CX0 k f2 fd2 ["measurements"] (sp_pairs_of K)) (k2 : PySem.W.keepIn K (.ref f2) = true) (b2 : Binds K fd2 ["measurements"] []) (g2 : mg "pairs_of" = some (.ref f2))
    (G3 : FnOk P w K mg base CX0 k f3 fd3 ["pairs"] sp_blocks_of) (k3 : PySem.W.keepIn K (.ref f3) = true) (b3 : Binds K fd3 ["pairs"] []) (g3 : mg "blocks_of" = some (.ref f3))
    (G4 : FnOk P w K mg base CX0 k f4 fd4 ["pairs"] sp_descents_of) (k4 : PySem.W.keepIn K (.ref f4) = true) (b4 : Binds K fd4 ["pairs"] []) (g4 : mg "descents_of" = some (.ref f4))
    (mL : mg "len" = none) (c1 : mg "OUT_OF_LIMITS" = some (.int (-22) t1)) : FnOk P w K mg base CX0 (k + 1) f fd ["measurements"] (sp_blocks K) := by
  refine F.ok sc_blocks (fun vs H Q E h => ?_) (fun cdv A outer s H vs Q E hr h => ?_)
  · obtain ⟨a, ns, rfl, _⟩ := h
    rfl
  obtain ⟨a, ns, rfl, hS, hb, h0, q⟩ := h
  rw [spec_blocks h0] at q
  have nd := sc_blocks.nd
  refine ⟨_, pss_cons (ps_if (pt_not (pt_val (pe_call G1 hr (by rfl) g1 k1 b1 .nil pass0 (pa_cons (pv 0) pa_nil)))) (pss_one (ps_ret (pe_lst (pa_cons (pe_glob (v := .int (-22)) rfl c1 ⟨_, rfl⟩) pa_nil)))) pss_nil)
    (pss_cons (ps_set (i := 1) nd rfl (.inl rfl) (pe_call G2 hr (by rfl) g2 k2 b2 .nil pass0 (pa_cons (pv 0) pa_nil)))
    (pss_cons (ps_set (i := 2) nd rfl (.inl rfl) (pe_call G3 hr (by rfl) g3 k3 b3 .nil pass0 (pa_cons (pv 1) pa_nil)))
    (pss_one (ps_ret (pe_op op_cat (pe_op op_cat (pe_lst (pa_cons (pe_callB call_len_seq (by rfl) mL PySem.boot_len (pa_cons (pv 2) pa_nil)) pa_nil))
        (pe_lc (own := [("block", 3)]) (g := gName 3) (tt := tYes) rfl nd (pi_list (pv 2)) (blkOk_by (N := ["measurements", "pairs", "found", "block"]) (sc := defScope s_blocks) (by decide +kernel))
          (fun _ _ _ _ _ => pg_name (i := 3) nd rfl (Or.inl rfl)) (fun _ _ _ _ _ => pts_nil) (fun _ _ _ _ _ => pe_ix (r := rIxT K) ix_tup (pv 3) pe_int (fun _ _ => rfl))))
      (pe_lst (pa_cons (pe_call G4 hr (by rfl) g4 k4 b4 .nil pass0 (pa_cons (pv 1) pa_nil)) pa_nil))))))), ?_⟩
  refine ⟨_, rfl, a, ns, rfl, hS, hb, fun H1 s1 => ⟨_, rfl, ?_⟩⟩
  by_cases c : okM ns = true
  case neg =>
    refine ite_l (by rw [Bool.eq_false_iff.mpr c]; rfl) ⟨(by show 1 ≤ sizeLine; decide), fun p hp => q _ p ?_⟩
    unfold RF.blocks
    rw [if_neg c]
    exact upd_same
  refine ite_r (by rw [c]; decide) ?_
  obtain ⟨e1, e2', e3', e4, e5⟩ := okM_even c
  refine ⟨_, rfl, a, ns, _, rfl, s1.seq hS, e1, e2', fun H2 lp s2 hp => ?_⟩
  refine ⟨_, rfl, lp, _, rfl, hp, e5, e4, fun H3 lb s3 hbk => ?_⟩
  obtain ⟨bvs, hb1, hb2⟩ := hbk
  have hlb : bvs.length = (blocksOf (unflat ns)).length := hb2.len
  have gL := goodL_len (blocksOf_goodL e5 e4)
  refine ⟨_, rfl, lb, bvs, rfl, .inl (.of hb1), (by show 1 ≤ sizeLine; decide), fun u hu => ?_⟩
  have t1 := same_upd (o := .lst [.int ((bvs.length : Nat) : Int)]) hu
  refine ⟨_, rfl, lb, rfl, ⟨_, SqL.of (t1 _ _ hb1)⟩, fun D hD => ?_⟩
  have tD := same_upd (o := .lst []) hD
  refine lc_it (walk_list (xs := bvs)) (fun i H' => Same (upd H3 u (.lst [.int ((bvs.length : Nat) : Int)])) H' ∧ H' D = some (.lst ((((blocksOf (unflat ns)).map (·.1)).map V.int).take i))) ⟨tD, upd_same⟩ (fun i H' _ ⟨sx, _⟩ => .of (sx _ _ (t1 _ _ hb1))) ?_ ?_
  · rintro i x H4 H5 hi ⟨sx, dx⟩ ⟨rfl, hx⟩
    obtain ⟨b, ab, hbi, rfl, hab⟩ := hb2.item hx
    have hi' : i < (blocksOf (unflat ns)).length := by omega
    have hk : i < (((blocksOf (unflat ns)).map (·.1)).map V.int).length := by rw [List.length_map, List.length_map]; exact hi'
    refine ⟨rfl, ⟨_, rfl, ab, _, _, .int b.1, rfl, rfl, .of (sx _ _ (t1 _ _ hab)), at3_0 b, _, dx, ?_, ?_, ?_⟩⟩
    · rw [List.length_take]
      exact small1000 (by omega)
    · exact fun b o e => by
        rw [upd_ne (ne_of_none e hD)]
        exact sx _ _ e
    · rw [upd_same, take_snoc hk, List.getElem_map, List.getElem_map, (List.getElem?_eq_some_iff.mp hbi).2]
  · rintro H4 ⟨sx, dx⟩
    rw [List.take_of_length_le (by rw [List.length_map, List.length_map]; omega)] at dx
    refine ⟨u, D, _, _, rfl, rfl, sx _ _ upd_same, dx, ?_, fun y hy => ?_⟩
    · rw [List.length_singleton, List.length_map, List.length_map]
      exact small (by omega)
    have t2 := same_upd (o := .lst ([.int ((bvs.length : Nat) : Int)] ++ ((blocksOf (unflat ns)).map (·.1)).map V.int)) hy
    refine ⟨_, rfl, lp, _, rfl, hp.same (s3.trans (t1.trans (sx.trans t2))), by omega, (by show 1 ≤ sizeLine; decide), fun v hv => ?_⟩
    have t3 := same_upd (o := .lst [.int (descentsOf (unflat ns))]) hv
    refine ⟨y, v, _, _, rfl, rfl, t3 _ _ upd_same, upd_same, ?_, fun n hn => q _ n ?_⟩
    · rw [List.length_append, List.length_singleton, List.length_map, List.length_map, List.length_singleton]
      exact small (by omega)
    unfold RF.blocks
    rw [upd_same, if_pos c, hlb, List.map_append, List.map_append]
    rfl

end
/-! ### 6. What the top has written -/
theorem all_mk {P : Program} {w : World} {K : PySem.W.Frag} {h : Heap} {mg : Str → Option Value} {fa f1 f2 f3 f4 f5 f6 f7 f8 f9 f10 f11 f12 f13 : Addr} {tc0 tc1 tc2 tc3 : Tok} (X : K.In h) (G : h.Ns mainGlobals mg) (hfa : mg "blocks" = some (.ref fa))
    {od1 an1 od2 an2 od3 an3 od4 an4 od5 an5 od6 an6 od7 an7 od8 an8 od9 an9 od10 an10 od11 an11 od12 an12 od13 an13 : Option Addr} {sl1 sl2 sl3 sl4 sl5 sl6 sl7 sl8 sl9 sl10 sl11 sl12 sl13 : Array (Option Value)} {oc1 kV1 dc1 pm1 cd1 ct1 oc2 kV2 dc2 pm2 cd2 ct2 oc3 kV3 dc3 pm3 cd3 ct3 oc4 kV4 dc4 pm4 cd4 ct4 oc5 kV5 dc5 pm5 cd5 ct5 oc6 kV6 dc6 pm6 cd6 ct6 oc7 kV7 dc7 pm7 cd7 ct7 oc8 kV8 dc8 pm8 cd8 ct8 oc9 kV9 dc9 pm9 cd9 ct9 oc10 kV10 dc10 pm10 cd10 ct10 oc11 kV11 dc11 pm11 cd11 ct11 oc12 kV12 dc12 pm12 cd12 ct12 oc13 kV13 dc13 pm13 cd13 ct13 : Value}
    (a1 : PySem.W.nsIn K mainGlobals "is_within" = some (some (.ref f1))) (l1 : K.lookup f1 = some ⟨oc1, od1, .func (PySem.W.fnOf "is_within" "is_within" (defArgs s_is_within) (defBody s_is_within) (defScope s_is_within) .none kV1 dc1 pm1 an1 cd1 ct1), sl1⟩) (c1 : PySem.W.codeIn K cd1 "is_within" = true) (k1 : PySem.W.keepIn K (.ref f1) = true)
    (a2 : PySem.W.nsIn K mainGlobals "are_within" = some (some (.ref f2))) (l2 : K.lookup f2 = some ⟨oc2, od2, .func (PySem.W.fnOf "are_within" "are_within" (defArgs s_are_within) (defBody s_are_within) (defScope s_are_within) .none kV2 dc2 pm2 an2 cd2 ct2), sl2⟩) (c2 : PySem.W.codeIn K cd2 "are_within" = true) (k2 : PySem.W.keepIn K (.ref f2) = true)
    (a3 : PySem.W.nsIn K mainGlobals "values_of" = some (some (.ref f3))) (l3 : K.lookup f3 = some ⟨oc3, od3, .func (PySem.W.fnOf "values_of" "values_of" (defArgs s_values_of) (defBody s_values_of) (defScope s_values_of) .none kV3 dc3 pm3 an3 cd3 ct3), sl3⟩) (c3 : PySem.W.codeIn K cd3 "values_of" = true) (k3 : PySem.W.keepIn K (.ref f3) = true)
    (a4 : PySem.W.nsIn K mainGlobals "weights_of" = some (some (.ref f4))) (l4 : K.lookup f4 = some ⟨oc4, od4, .func (PySem.W.fnOf "weights_of" "weights_of" (defArgs s_weights_of) (defBody s_weights_of) (defScope s_weights_of) .none kV4 dc4 pm4 an4 cd4 ct4), sl4⟩) (c4 : PySem.W.codeIn K cd4 "weights_of" = true) (k4 : PySem.W.keepIn K (.ref f4) = true)
    (a5 : PySem.W.nsIn K mainGlobals "are_measurements" = some (some (.ref f5))) (l5 : K.lookup f5 = some ⟨oc5, od5, .func (PySem.W.fnOf "are_measurements" "are_measurements" (defArgs s_are_measurements) (defBody s_are_measurements) (defScope s_are_measurements) .none kV5 dc5 pm5 an5 cd5 ct5), sl5⟩) (c5 : PySem.W.codeIn K cd5 "are_measurements" = true) (k5 : PySem.W.keepIn K (.ref f5) = true)
    (a6 : PySem.W.nsIn K mainGlobals "pairs_of" = some (some (.ref f6))) (l6 : K.lookup f6 = some ⟨oc6, od6, .func (PySem.W.fnOf "pairs_of" "pairs_of" (defArgs s_pairs_of) (defBody s_pairs_of) (defScope s_pairs_of) .none kV6 dc6 pm6 an6 cd6 ct6), sl6⟩) (c6 : PySem.W.codeIn K cd6 "pairs_of" = true) (k6 : PySem.W.keepIn K (.ref f6) = true)
    (a7 : PySem.W.nsIn K mainGlobals "block_of" = some (some (.ref f7))) (l7 : K.lookup f7 = some ⟨oc7, od7, .func (PySem.W.fnOf "block_of" "block_of" (defArgs s_block_of) (defBody s_block_of) (defScope s_block_of) .none kV7 dc7 pm7 an7 cd7 ct7), sl7⟩) (c7 : PySem.W.codeIn K cd7 "block_of" = true) (k7 : PySem.W.keepIn K (.ref f7) = true)
    (a8 : PySem.W.nsIn K mainGlobals "joined" = some (some (.ref f8))) (l8 : K.lookup f8 = some ⟨oc8, od8, .func (PySem.W.fnOf "joined" "joined" (defArgs s_joined) (defBody s_joined) (defScope s_joined) .none kV8 dc8 pm8 an8 cd8 ct8), sl8⟩) (c8 : PySem.W.codeIn K cd8 "joined" = true) (k8 : PySem.W.keepIn K (.ref f8) = true)
    (a9 : PySem.W.nsIn K mainGlobals "is_at_most" = some (some (.ref f9))) (l9 : K.lookup f9 = some ⟨oc9, od9, .func (PySem.W.fnOf "is_at_most" "is_at_most" (defArgs s_is_at_most) (defBody s_is_at_most) (defScope s_is_at_most) .none kV9 dc9 pm9 an9 cd9 ct9), sl9⟩) (c9 : PySem.W.codeIn K cd9 "is_at_most" = true) (k9 : PySem.W.keepIn K (.ref f9) = true)
    (a10 : PySem.W.nsIn K mainGlobals "merged" = some (some (.ref f10))) (l10 : K.lookup f10 = some ⟨oc10, od10, .func (PySem.W.fnOf "merged" "merged" (defArgs s_merged) (defBody s_merged) (defScope s_merged) .none kV10 dc10 pm10 an10 cd10 ct10), sl10⟩) (c10 : PySem.W.codeIn K cd10 "merged" = true) (k10 : PySem.W.keepIn K (.ref f10) = true)
    (a11 : PySem.W.nsIn K mainGlobals "blocks_of" = some (some (.ref f11))) (l11 : K.lookup f11 = some ⟨oc11, od11, .func (PySem.W.fnOf "blocks_of" "blocks_of" (defArgs s_blocks_of) (defBody s_blocks_of) (defScope s_blocks_of) .none kV11 dc11 pm11 an11 cd11 ct11), sl11⟩) (c11 : PySem.W.codeIn K cd11 "blocks_of" = true) (k11 : PySem.W.keepIn K (.ref f11) = true)
    (a12 : PySem.W.nsIn K mainGlobals "descents_of" = some (some (.ref f12))) (l12 : K.lookup f12 = some ⟨oc12, od12, .func (PySem.W.fnOf "descents_of" "descents_of" (defArgs s_descents_of) (defBody s_descents_of) (defScope s_descents_of) .none kV12 dc12 pm12 an12 cd12 ct12), sl12⟩) (c12 : PySem.W.codeIn K cd12 "descents_of" = true) (k12 : PySem.W.keepIn K (.ref f12) = true)
    (a13 : PySem.W.nsIn K mainGlobals "blocks" = some (some (.ref f13))) (l13 : K.lookup f13 = some ⟨oc13, od13, .func (PySem.W.fnOf "blocks" "blocks" (defArgs s_blocks) (defBody s_blocks) (defScope s_blocks) .none kV13 dc13 pm13 an13 cd13 ct13), sl13⟩) (c13 : PySem.W.codeIn K cd13 "blocks" = true) (k13 : PySem.W.keepIn K (.ref f13) = true)
    (z0 : PySem.W.nsIn K mainGlobals "range" = some none)
    (z1 : PySem.W.nsIn K mainGlobals "len" = some none)
    (z2 : PySem.W.nsIn K mainGlobals "list" = some none)
    (q0 : PySem.W.nsIn K mainGlobals "MOST_MEASUREMENTS" = some (some (.int (10) tc0)))
    (q1 : PySem.W.nsIn K mainGlobals "MOST_VALUE" = some (some (.int (999) tc1)))
    (q2 : PySem.W.nsIn K mainGlobals "MOST_WEIGHT" = some (some (.int (9) tc2)))
    (q3 : PySem.W.nsIn K mainGlobals "OUT_OF_LIMITS" = some (some (.int (-22) tc3)))
    : ∃ fd : FuncData, (∀ (s : Shared) (us : List Value), us.length = (["measurements"] : List Str).length → BindsTo s fd ⟨us, []⟩ ((["measurements"] : List Str).zip us)) ∧ ∀ base : Heap, K.In base → base.Ns mainGlobals mg → FnOk P w K mg base CX0 4 fa fd ["measurements"] (sp_blocks K) := by
  have e := hfa.symm.trans (PySem.W.mg_of X G a13)
  cases e
  have F1 := fun_mk (st := s_is_within) l1 c1 k1
  have b1 := F1.binds (ps := ["number", "low", "high"]) fun _ _ _ _ _ _ us hl => match us, hl with | [_, _, _], _ => rfl
  have g1 := PySem.W.mg_of X G a1
  have F2 := fun_mk (st := s_are_within) l2 c2 k2
  have b2 := F2.binds (ps := ["numbers", "low", "high"]) fun _ _ _ _ _ _ us hl => match us, hl with | [_, _, _], _ => rfl
  have g2 := PySem.W.mg_of X G a2
  have F3 := fun_mk (st := s_values_of) l3 c3 k3
  have b3 := F3.binds (ps := ["measurements"]) fun _ _ _ _ _ _ us hl => match us, hl with | [_], _ => rfl
  have g3 := PySem.W.mg_of X G a3
  have F4 := fun_mk (st := s_weights_of) l4 c4 k4
  have b4 := F4.binds (ps := ["measurements"]) fun _ _ _ _ _ _ us hl => match us, hl with | [_], _ => rfl
  have g4 := PySem.W.mg_of X G a4
  have F5 := fun_mk (st := s_are_measurements) l5 c5 k5
  have b5 := F5.binds (ps := ["measurements"]) fun _ _ _ _ _ _ us hl => match us, hl with | [_], _ => rfl
  have g5 := PySem.W.mg_of X G a5
  have F6 := fun_mk (st := s_pairs_of) l6 c6 k6
  have b6 := F6.binds (ps := ["measurements"]) fun _ _ _ _ _ _ us hl => match us, hl with | [_], _ => rfl
  have g6 := PySem.W.mg_of X G a6
  have F7 := fun_mk (st := s_block_of) l7 c7 k7
  have b7 := F7.binds (ps := ["pair"]) fun _ _ _ _ _ _ us hl => match us, hl with | [_], _ => rfl
  have g7 := PySem.W.mg_of X G a7
  have F8 := fun_mk (st := s_joined) l8 c8 k8
  have b8 := F8.binds (ps := ["one", "other"]) fun _ _ _ _ _ _ us hl => match us, hl with | [_, _], _ => rfl
  have g8 := PySem.W.mg_of X G a8
  have F9 := fun_mk (st := s_is_at_most) l9 c9 k9
  have b9 := F9.binds (ps := ["one", "other"]) fun _ _ _ _ _ _ us hl => match us, hl with | [_, _], _ => rfl
  have g9 := PySem.W.mg_of X G a9
  have F10 := fun_mk (st := s_merged) l10 c10 k10
  have b10 := F10.binds (ps := ["blocks"]) fun _ _ _ _ _ _ us hl => match us, hl with | [_], _ => rfl
  have g10 := PySem.W.mg_of X G a10
  have F11 := fun_mk (st := s_blocks_of) l11 c11 k11
  have b11 := F11.binds (ps := ["pairs"]) fun _ _ _ _ _ _ us hl => match us, hl with | [_], _ => rfl
  have g11 := PySem.W.mg_of X G a11
  have F12 := fun_mk (st := s_descents_of) l12 c12 k12
  have b12 := F12.binds (ps := ["pairs"]) fun _ _ _ _ _ _ us hl => match us, hl with | [_], _ => rfl
  have g12 := PySem.W.mg_of X G a12
  have F13 := fun_mk (st := s_blocks) l13 c13 k13
  have m0 := PySem.W.mg_none_of X G z0
  have m1 := PySem.W.mg_none_of X G z1
  have m2 := PySem.W.mg_none_of X G z2
  have v0 := PySem.W.mg_of X G q0
  have v1 := PySem.W.mg_of X G q1
  have v2 := PySem.W.mg_of X G q2
  have v3 := PySem.W.mg_of X G q3
  refine ⟨PySem.W.fnOf "blocks" "blocks" (defArgs s_blocks) (defBody s_blocks) (defScope s_blocks) .none kV13 dc13 pm13 an13 cd13 ct13, fun s us hu => match us, hu with | [_], _ => .of_eq rfl, fun base _ _ => ?_⟩
  have G1 := ok_is_within (P := P) (w := w) (K := K) (mg := mg) (base := base) (k := 0) F1
  have G2 := ok_are_within (P := P) (w := w) (K := K) (mg := mg) (base := base) (k := 1) F2 (G1.mono (by decide)) k1 b1 g1
  have G3 := ok_values_of (P := P) (w := w) (K := K) (mg := mg) (base := base) (k := 0) F3 m0 m1
  have G4 := ok_weights_of (P := P) (w := w) (K := K) (mg := mg) (base := base) (k := 0) F4 m0 m1
  have G5 := ok_are_measurements (P := P) (w := w) (K := K) (mg := mg) (base := base) (k := 2) F5 (G1.mono (by decide)) k1 b1 g1 (G2.mono (by decide)) k2 b2 g2 (G3.mono (by decide)) k3 b3 g3 (G4.mono (by decide)) k4 b4 g4 m1 v0 v1 v2
  have G6 := ok_pairs_of (P := P) (w := w) (K := K) (mg := mg) (base := base) (k := 0) F6 m0 m1
  have G7 := ok_block_of (P := P) (w := w) (K := K) (mg := mg) (base := base) (k := 0) F7
  have G8 := ok_joined (P := P) (w := w) (K := K) (mg := mg) (base := base) (k := 0) F8
  have G9 := ok_is_at_most (P := P) (w := w) (K := K) (mg := mg) (base := base) (k := 0) F9
  have G10 := ok_merged (P := P) (w := w) (K := K) (mg := mg) (base := base) (k := 1) F10 (G9.mono (by decide)) k9 b9 g9 (G8.mono (by decide)) k8 b8 g8 m1 m2
  have G11 := ok_blocks_of (P := P) (w := w) (K := K) (mg := mg) (base := base) (k := 2) F11 (G10.mono (by decide)) k10 b10 g10 (G7.mono (by decide)) k7 b7 g7
  have G12 := ok_descents_of (P := P) (w := w) (K := K) (mg := mg) (base := base) (k := 0) F12 m0 m1
  exact ok_blocks (P := P) (w := w) (K := K) (mg := mg) (base := base) (k := 3) F13 (G5.mono (by decide)) k5 b5 g5 (G6.mono (by decide)) k6 b6 g6 (G11.mono (by decide)) k11 b11 g11 (G12.mono (by decide)) k12 b12 g12 m1 v3
end RF
open PySem PySem.W PyProof.Rows
set_option maxRecDepth 100000 in
set_option maxHeartbeats 8000000 in
theorem PySem.Challenge.cw_risingfits_s02_blocks_holds : PySem.Challenge.rw_risingfits_s02_blocks.Holds := by
  w_on; k_headS; (case hw => exact ⟨[.list []], by decide +kernel, by decide +kernel⟩)
  k_fillS
  refine L2.walk_specK (r := PySem.Challenge.rw_risingfits_s02_blocks) (k := 4) (CX := L2.CX0) (ps := ["measurements"]) (sp := fun K => RF.sp_blocks K) (by decide +kernel) rfl rfl ⟨rfl, by decide, by decide⟩ (fun w h Y => PySem.W.kIn_of Y) ?F ?S (fun _ _ _ _ z => z)
  case F =>
    intro w mg fa h Y KX G hmg
    refine' RF.all_mk KX G hmg ?a1 ?l1 ?c1 ?k1 ?a2 ?l2 ?c2 ?k2 ?a3 ?l3 ?c3 ?k3 ?a4 ?l4 ?c4 ?k4 ?a5 ?l5 ?c5 ?k5 ?a6 ?l6 ?c6 ?k6 ?a7 ?l7 ?c7 ?k7 ?a8 ?l8 ?c8 ?k8 ?a9 ?l9 ?c9 ?k9 ?a10 ?l10 ?c10 ?k10 ?a11 ?l11 ?c11 ?k11 ?a12 ?l12 ?c12 ?k12 ?a13 ?l13 ?c13 ?k13 ?z0 ?z1 ?z2 ?q0 ?q1 ?q2 ?q3
    (case a1 => k_is)
    (case l1 => k_is)
    (case c1 => k_is)
    (case k1 => k_is)
    (case a2 => k_is)
    (case l2 => k_is)
    (case c2 => k_is)
    (case k2 => k_is)
    (case a3 => k_is)
    (case l3 => k_is)
    (case c3 => k_is)
    (case k3 => k_is)
    (case a4 => k_is)
    (case l4 => k_is)
    (case c4 => k_is)
    (case k4 => k_is)
    (case a5 => k_is)
    (case l5 => k_is)
    (case c5 => k_is)
    (case k5 => k_is)
    (case a6 => k_is)
    (case l6 => k_is)
    (case c6 => k_is)
    (case k6 => k_is)
    (case a7 => k_is)
    (case l7 => k_is)
    (case c7 => k_is)
    (case k7 => k_is)
    (case a8 => k_is)
    (case l8 => k_is)
    (case c8 => k_is)
    (case k8 => k_is)
    (case a9 => k_is)
    (case l9 => k_is)
    (case c9 => k_is)
    (case k9 => k_is)
    (case a10 => k_is)
    (case l10 => k_is)
    (case c10 => k_is)
    (case k10 => k_is)
    (case a11 => k_is)
    (case l11 => k_is)
    (case c11 => k_is)
    (case k11 => k_is)
    (case a12 => k_is)
    (case l12 => k_is)
    (case c12 => k_is)
    (case k12 => k_is)
    (case a13 => k_is)
    (case l13 => k_is)
    (case c13 => k_is)
    (case k13 => k_is)
    (case z0 => k_is)
    (case z1 => k_is)
    (case z2 => k_is)
    (case q0 => k_is)
    (case q1 => k_is)
    (case q2 => k_is)
    (case q3 => k_is)
  case S =>
    intro K H xs a hO hwi hask hx
    cases hx with
    | cons y0 x0 =>
      cases x0
      cases y0 with
      | lst hs0 ha0 =>
        have e0 := L2.ints_dw a.1 _ ha0
        subst e0
        have q : ((Codec.inLen 0 23 a.1 && a.1.all (Codec.inInt 0 4294967295)) && true) = true := hwi
        simp only [Bool.and_eq_true] at q
        obtain ⟨⟨n0, i0⟩, _⟩ := q
        exact ⟨_, a.1, rfl, hs0, (Codec.inNat_iff.mp n0).2, fun n hn => (Codec.inInt_iff.mp (List.all_eq_true.mp i0 n hn)).1, fun H' p hp => .lst (L2.SqL.of hp) (L2.dw_ints _)⟩
#print axioms PySem.Challenge.cw_risingfits_s02_blocks_holds
