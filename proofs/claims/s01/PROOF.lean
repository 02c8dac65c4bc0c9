import PyProof.Rows.All
import Wide.All
import OpenK.AllK
import Wide.FinOn
import Open.SpecLaws
import KE.OsGo
import HandS.ForSpec
import HandS.Comp
import HandS.Iter
import HandS.Walk
import HandS.Style
import HandS.Wide
import PySem.Challenge.RW_regroundshots_s01_answers
set_option Elab.async false
set_option linter.all false
set_option maxRecDepth 100000
set_option maxHeartbeats 4000000
/-! Fractions: the specification's own against the rationals; sizes. Plain Lean, no program in sight. -/
namespace Rg
open SrFraction (Fraction)

/-- a rational as the specification writes it -/
def ofRat (q : Rat) : Fraction := ⟨q.num, q.den⟩

theorem mk_pos {n : Int} {d : Nat} (h : 0 < d) : SrFraction.mk n d = ⟨n / ((Nat.gcd n.natAbs d : Nat) : Int), d / Nat.gcd n.natAbs d⟩ := by
  have hg : 0 < Nat.gcd n.natAbs d := Nat.gcd_pos_of_pos_right _ h
  have hd : 0 < d / Nat.gcd n.natAbs d := Nat.div_pos (Nat.gcd_le_right _ h) hg
  unfold SrFraction.mk
  simp only
  rw [if_neg (Nat.ne_of_gt hg), if_neg (Nat.ne_of_gt hd)]

theorem mk_rat {n : Int} {d : Nat} (h : 0 < d) : SrFraction.mk n d = ofRat (mkRat n d) := by
  rw [mk_pos h]
  unfold ofRat
  rw [Rat.num_mkRat, Rat.den_mkRat, if_neg (Nat.ne_of_gt h), if_neg (Nat.ne_of_gt h), Nat.gcd_comm]

theorem add_rat (a b : Rat) : SrFraction.add (ofRat a) (ofRat b) = ofRat (a + b) := by
  rw [Rat.add_def']
  exact mk_rat (Nat.mul_pos a.den_pos b.den_pos)
theorem neg_rat (b : Rat) : (⟨-(ofRat b).num, (ofRat b).den⟩ : Fraction) = ofRat (-b) := rfl
theorem sub_rat (a b : Rat) : SrFraction.sub (ofRat a) (ofRat b) = ofRat (a - b) := by
  unfold SrFraction.sub
  rw [neg_rat, add_rat, Rat.sub_eq_add_neg]
theorem mul_rat (a b : Rat) : SrFraction.mul (ofRat a) (ofRat b) = ofRat (a * b) := by
  rw [Rat.mul_def']
  exact mk_rat (Nat.mul_pos a.den_pos b.den_pos)
theorem int_rat (n : Int) : SrFraction.ofInt n = ofRat (n : Rat) := rfl
theorem one_rat : SrFraction.ofInt 1 = ofRat 1 := rfl
theorem zero_rat : SrFraction.ofInt 0 = ofRat 0 := rfl
theorem div_rat (a b : Rat) (h : 0 < b) : SrFraction.div (ofRat a) (ofRat b) = ofRat (a / b) := by
  have hb : 0 < b.num := by
    have h1 := (Rat.lt_iff 0 b).mp h
    simpa using h1
  have hp : (0 : Int) < (a.den : Int) * b.num := Int.mul_pos (Int.ofNat_lt.mpr a.den_pos) hb
  unfold SrFraction.div
  show SrFraction.mk (a.num * (b.den : Int)) ((a.den : Int) * b.num).toNat = ofRat (a / b)
  rw [mk_rat (by omega)]
  congr 1
  rw [Rat.div_def, Rat.inv_def]
  have e : ((((a.den : Int) * b.num).toNat : Nat) : Int) = (a.den : Int) * b.num := by omega
  rw [← Rat.divInt_ofNat, e, ← Rat.divInt_mul_divInt, Rat.num_divInt_den]
theorem pow_rat (a : Rat) : ∀ n : Nat, SrFraction.pow (ofRat a) n = ofRat (a ^ n)
  | 0 => by rw [Rat.pow_zero]; rfl
  | n + 1 => by
    show SrFraction.mul (SrFraction.pow (ofRat a) n) (ofRat a) = _
    rw [pow_rat a n, mul_rat, Rat.pow_succ]

/-! ### what the program reckons -/
/-- the strength, from the oldest part on -/
def horner (t : Fraction) (l : List Fraction) : Fraction := l.reverse.foldl (fun found part => SrFraction.add part (SrFraction.mul t found)) (SrFraction.ofInt 0)
def meanOf (l : List Fraction) : Fraction := SrFraction.sum (l.zipIdx.map fun a => SrFraction.mul ⟨((a.2 : Nat) : Int), 1⟩ a.1)
def nextOf (l : List Fraction) (r : Fraction) : List Fraction := if l = [] then [SrFraction.ofInt 1] else SrFraction.sub (SrFraction.ofInt 1) r :: l.map (SrFraction.mul r)
def agesAfter (r : Fraction) : Nat → List Fraction
  | 0 => []
  | n + 1 => nextOf (agesAfter r n) r

theorem mul_comm' (a b : Fraction) : SrFraction.mul a b = SrFraction.mul b a := by
  unfold SrFraction.mul
  rw [Int.mul_comm, Nat.mul_comm]
theorem mean_eq (l : List Fraction) : meanOf l = SrFraction.sum (l.zipIdx.map fun a => SrFraction.mul a.1 (SrFraction.ofInt (a.2 : Nat))) := by
  unfold meanOf
  congr 1
  apply List.map_congr_left
  intro a _
  exact mul_comm' _ _

def hor (t : Rat) : List Rat → Rat
  | [] => 0
  | q :: r => q + t * hor t r
theorem horner_rat (t : Rat) (qs : List Rat) : horner (ofRat t) (qs.map ofRat) = ofRat (hor t qs) := by
  unfold horner
  rw [List.foldl_reverse]
  induction qs with
  | nil => rfl
  | cons q r ih =>
    rw [List.map_cons, List.foldr_cons, ih, mul_rat, add_rat]
    rfl
theorem powsum_rat (t : Rat) : ∀ (qs : List Rat) (k : Nat) (acc : Rat), (((qs.map ofRat).zipIdx k).map fun a => SrFraction.mul a.1 (SrFraction.pow (ofRat t) a.2)).foldl SrFraction.add (ofRat acc) = ofRat (acc + t ^ k * hor t qs)
  | [], k, acc => by
    show ofRat acc = _
    congr 1
    show acc = acc + t ^ k * 0
    grind
  | q :: r, k, acc => by
    rw [List.map_cons, List.zipIdx_cons, List.map_cons, List.foldl_cons]
    show List.foldl SrFraction.add (SrFraction.add (ofRat acc) (SrFraction.mul (ofRat q) (SrFraction.pow (ofRat t) k))) _ = _
    rw [pow_rat, mul_rat, add_rat, powsum_rat t r (k + 1) (acc + q * t ^ k)]
    congr 1
    show acc + q * t ^ k + t ^ (k + 1) * hor t r = acc + t ^ k * (q + t * hor t r)
    rw [Rat.pow_succ]
    grind
theorem strength_rat (t : Rat) (qs : List Rat) : SrFraction.sum ((qs.map ofRat).zipIdx.map fun a => SrFraction.mul a.1 (SrFraction.pow (ofRat t) a.2)) = horner (ofRat t) (qs.map ofRat) := by
  rw [horner_rat]
  unfold SrFraction.sum
  rw [zero_rat, powsum_rat t qs 0 0]
  congr 1
  rw [Rat.pow_zero]
  grind

/-! ### sizes -/
structure Fr (n : Nat) (f : Fraction) : Prop where
  q : ∃ q : Rat, f = ofRat q
  num : f.num.natAbs < 2 ^ n
  den : f.den < 2 ^ n
theorem Fr.pos {n : Nat} {f : Fraction} (h : Fr n f) : 0 < f.den := by
  obtain ⟨q, rfl⟩ := h.q
  exact q.den_pos
theorem Fr.mono {n m : Nat} {f : Fraction} (h : Fr n f) (l : n ≤ m) : Fr m f :=
  ⟨h.q, Nat.lt_of_lt_of_le h.num (Nat.pow_le_pow_right (by decide) l), Nat.lt_of_lt_of_le h.den (Nat.pow_le_pow_right (by decide) l)⟩
theorem fr_mk {n : Nat} {x : Int} {d : Nat} (hd : 0 < d) (hx : x.natAbs < 2 ^ n) (hn : d < 2 ^ n) : Fr n (SrFraction.mk x d) := by
  refine ⟨⟨_, mk_rat hd⟩, ?_, ?_⟩
  · rw [mk_pos hd]
    show (x / ((Nat.gcd x.natAbs d : Nat) : Int)).natAbs < 2 ^ n
    have e : x / ((Nat.gcd x.natAbs d : Nat) : Int) * ((Nat.gcd x.natAbs d : Nat) : Int) = x := Int.ediv_mul_cancel (Int.ofNat_dvd_left.mpr (Nat.gcd_dvd_left _ _))
    have hg : 0 < Nat.gcd x.natAbs d := Nat.gcd_pos_of_pos_right _ hd
    have e2 := congrArg Int.natAbs e
    rw [Int.natAbs_mul, Int.natAbs_natCast] at e2
    have : (x / ((Nat.gcd x.natAbs d : Nat) : Int)).natAbs ≤ x.natAbs := by
      have := Nat.le_mul_of_pos_right (x / ((Nat.gcd x.natAbs d : Nat) : Int)).natAbs hg
      omega
    omega
  · rw [mk_pos hd]
    exact Nat.lt_of_le_of_lt (Nat.div_le_self _ _) hn
theorem natAbs_mul_lt {a b : Int} {n m : Nat} (ha : a.natAbs < 2 ^ n) (hb : b.natAbs < 2 ^ m) : (a * b).natAbs < 2 ^ (n + m) := by
  rw [Int.natAbs_mul, Nat.pow_add]
  exact Nat.mul_lt_mul_of_lt_of_lt ha hb
theorem mul_lt {a b n m : Nat} (ha : a < 2 ^ n) (hb : b < 2 ^ m) : a * b < 2 ^ (n + m) := by
  rw [Nat.pow_add]
  exact Nat.mul_lt_mul_of_lt_of_lt ha hb
theorem nat_lt {a n : Nat} (h : a < 2 ^ n) : ((a : Nat) : Int).natAbs < 2 ^ n := by rw [Int.natAbs_natCast]; exact h
theorem fr_mul {n m : Nat} {a b : Fraction} (ha : Fr n a) (hb : Fr m b) : Fr (n + m) (SrFraction.mul a b) :=
  fr_mk (Nat.mul_pos ha.pos hb.pos) (natAbs_mul_lt ha.num hb.num) (mul_lt ha.den hb.den)
theorem add_lt {a b : Int} {n : Nat} (ha : a.natAbs < 2 ^ n) (hb : b.natAbs < 2 ^ n) : (a + b).natAbs < 2 ^ (n + 1) := by
  have h := Int.natAbs_add_le a b
  rw [Nat.pow_succ]
  omega
theorem sub_lt {a b : Int} {n : Nat} (ha : a.natAbs < 2 ^ n) (hb : b.natAbs < 2 ^ n) : (a - b).natAbs < 2 ^ (n + 1) := by
  have h := Int.natAbs_sub_le a b
  rw [Nat.pow_succ]
  omega
theorem fr_add {n m : Nat} {a b : Fraction} (ha : Fr n a) (hb : Fr m b) : Fr (n + m + 1) (SrFraction.add a b) := by
  refine fr_mk (Nat.mul_pos ha.pos hb.pos) (add_lt (natAbs_mul_lt ha.num (nat_lt hb.den)) ?_) (Nat.lt_of_lt_of_le (mul_lt ha.den hb.den) (Nat.pow_le_pow_right (by decide) (Nat.le_succ _)))
  rw [Nat.add_comm]
  exact natAbs_mul_lt hb.num (nat_lt ha.den)
/-- the program's own difference -/
theorem sub_eq (a b : Fraction) : SrFraction.sub a b = SrFraction.mk (a.num * (b.den : Int) - b.num * (a.den : Int)) (a.den * b.den) := by
  unfold SrFraction.sub SrFraction.add
  congr 1
  rw [Int.neg_mul, Int.sub_eq_add_neg]
theorem fr_sub {n m : Nat} {a b : Fraction} (ha : Fr n a) (hb : Fr m b) : Fr (n + m + 1) (SrFraction.sub a b) := by
  rw [sub_eq]
  refine fr_mk (Nat.mul_pos ha.pos hb.pos) (sub_lt (natAbs_mul_lt ha.num (nat_lt hb.den)) ?_) (Nat.lt_of_lt_of_le (mul_lt ha.den hb.den) (Nat.pow_le_pow_right (by decide) (Nat.le_succ _)))
  rw [Nat.add_comm]
  exact natAbs_mul_lt hb.num (nat_lt ha.den)
theorem fr_zero : Fr 1 (SrFraction.ofInt 0) := ⟨⟨0, rfl⟩, by decide, by decide⟩
theorem fr_one : Fr 1 (SrFraction.ofInt 1) := ⟨⟨1, rfl⟩, by decide, by decide⟩
theorem fr_nat {k n : Nat} (h : k < 2 ^ n) (h1 : 1 ≤ n) : Fr n ⟨((k : Nat) : Int), 1⟩ := ⟨⟨(k : Rat), rfl⟩, nat_lt h, Nat.lt_of_lt_of_le (by decide : 1 < 2 ^ 1) (Nat.pow_le_pow_right (by decide) h1)⟩
theorem rats {n : Nat} : ∀ {l : List Fraction}, (∀ f ∈ l, Fr n f) → ∃ qs : List Rat, l = qs.map ofRat
  | [], _ => ⟨[], rfl⟩
  | f :: r, h => by
    obtain ⟨q, e⟩ := (h f (List.mem_cons_self)).q
    obtain ⟨qs, e2⟩ := rats (fun g hg => h g (List.mem_cons_of_mem _ hg))
    exact ⟨q :: qs, by rw [List.map_cons, ← e, ← e2]⟩
theorem Fr.n0 {n : Nat} {f : Fraction} (h : Fr n f) : 0 < n := by
  cases n with
  | zero =>
    have h1 := h.pos
    have h2 := h.den
    omega
  | succ n => omega
theorem add_num {n m : Nat} {a b : Fraction} (ha : Fr n a) (hb : Fr m b) : (a.num * (b.den : Int) + b.num * (a.den : Int)).natAbs < 2 ^ (n + m + 1) := by
  refine add_lt (natAbs_mul_lt ha.num (nat_lt hb.den)) ?_
  rw [Nat.add_comm]
  exact natAbs_mul_lt hb.num (nat_lt ha.den)
theorem sub_num {n m : Nat} {a b : Fraction} (ha : Fr n a) (hb : Fr m b) : (a.num * (b.den : Int) - b.num * (a.den : Int)).natAbs < 2 ^ (n + m + 1) := by
  refine sub_lt (natAbs_mul_lt ha.num (nat_lt hb.den)) ?_
  rw [Nat.add_comm]
  exact natAbs_mul_lt hb.num (nat_lt ha.den)
theorem mul_num {n m : Nat} {a b : Fraction} (ha : Fr n a) (hb : Fr m b) : (a.num * b.num).natAbs < 2 ^ (n + m + 1) :=
  Nat.lt_of_lt_of_le (natAbs_mul_lt ha.num hb.num) (Nat.pow_le_pow_right (by decide) (Nat.le_succ _))
theorem den_lt {n m : Nat} {a b : Fraction} (ha : Fr n a) (hb : Fr m b) : a.den * b.den < 2 ^ (n + m + 1) :=
  Nat.lt_of_lt_of_le (mul_lt ha.den hb.den) (Nat.pow_le_pow_right (by decide) (Nat.le_succ _))
theorem sum_fr {A : Nat} {l : List Fraction} (h : ∀ f ∈ l, Fr A f) : ∀ {i : Nat}, i ≤ l.length → Fr (1 + i * (A + 1)) ((l.take i).foldl SrFraction.add (SrFraction.ofInt 0))
  | 0, _ => by
    rw [List.take_zero, Nat.zero_mul]
    exact fr_zero
  | i + 1, hi => by
    have ih := sum_fr h (i := i) (by omega)
    have hl : i < l.length := by omega
    rw [List.take_add_one, List.getElem?_eq_getElem hl, List.foldl_append]
    show Fr _ (SrFraction.add _ (l[i]))
    refine (fr_add ih (h _ (List.getElem_mem hl))).mono ?_
    rw [Nat.add_mul]
    omega
def meanParts (l : List Fraction) : List Fraction := l.zipIdx.map fun a => SrFraction.mul ⟨((a.2 : Nat) : Int), 1⟩ a.1
theorem mean_fr {A : Nat} {l : List Fraction} (h : ∀ f ∈ l, Fr A f) (hl : l.length ≤ 20) : ∀ f ∈ meanParts l, Fr (A + 5) f := by
  intro f hf
  obtain ⟨⟨g, i⟩, hm, rfl⟩ := List.mem_map.mp hf
  have hi := List.snd_lt_of_mem_zipIdx hm
  have hg : g ∈ l := List.fst_mem_of_mem_zipIdx hm
  rw [Nat.add_comm]
  exact fr_mul (fr_nat (by show i < 2 ^ 5; simp at hi; omega) (by decide)) (h g hg)
theorem mean_len (l : List Fraction) : (meanParts l).length = l.length := by
  unfold meanParts
  rw [List.length_map, List.length_zipIdx]
theorem mean_at {l : List Fraction} {i : Nat} {f : Fraction} (h : l[i]? = some f) : (meanParts l)[i]? = some (SrFraction.mul ⟨((i : Nat) : Int), 1⟩ f) := by
  unfold meanParts
  rw [List.getElem?_map, List.getElem?_zipIdx, h]
  show some (SrFraction.mul ⟨((0 + i : Nat) : Int), 1⟩ f) = _
  rw [Nat.zero_add]
theorem horner_fr {A : Nat} {t : Fraction} (ht : Fr 5 t) : ∀ {l : List Fraction} {i : Nat}, (∀ f ∈ l, Fr A f) → i ≤ l.length → Fr (1 + i * (A + 6)) (((l.reverse).take i).foldl (fun found part => SrFraction.add part (SrFraction.mul t found)) (SrFraction.ofInt 0))
  | l, 0, _, _ => by
    rw [List.take_zero, Nat.zero_mul]
    exact fr_zero
  | l, i + 1, h, hi => by
    have ih := horner_fr (A := A) ht (l := l) (i := i) h (by omega)
    have hl : i < l.reverse.length := by rw [List.length_reverse]; omega
    rw [List.take_add_one, List.getElem?_eq_getElem hl, List.foldl_append]
    show Fr _ (SrFraction.add (l.reverse[i]) (SrFraction.mul t _))
    have hm : l.reverse[i] ∈ l := List.mem_reverse.mp (List.getElem_mem hl)
    refine (fr_add (h _ hm) (fr_mul ht ih)).mono ?_
    rw [Nat.add_mul]
    omega
end Rg
/-! The process: what the program reckons is what the specification says. Plain Lean. -/
namespace Rg
open SrFraction (Fraction)
open Sr119 (Process)

/-- settings as they may be -/
structure SetOk (p : Process) : Prop where
  n1 : 1 ≤ p.parts
  n20 : p.parts ≤ 20
  r : p.regrind < p.parts
  k1 : 1 ≤ p.kept
  k : p.kept ≤ p.keptOf
  o20 : p.keptOf ≤ 20
theorem SetOk.o1 {p : Process} (h : SetOk p) : 1 ≤ p.keptOf := Nat.le_trans h.k1 h.k
structure Wf (p : Process) : Prop where
  s : SetOk p
  shots : p.shots ≤ 12
  len : p.ages.length ≤ p.shots
  nil : p.ages = [] ↔ p.shots = 0
  fr : ∀ f ∈ p.ages, Fr (7 + 5 * p.shots) f

theorem ratio_fr {p : Process} (h : SetOk p) : Fr 5 (Sr119.regrindRatio p) := fr_mk h.n1 (nat_lt (by have := h.r; have := h.n20; omega)) (by have := h.n20; omega)
theorem ret_fr {p : Process} (h : SetOk p) : Fr 5 (Sr119.retention p) := fr_mk h.o1 (nat_lt (by have := h.k; have := h.o20; omega)) (by have := h.o20; omega)

/-- the ratio, the retention as rationals -/
def rr (p : Process) : Rat := mkRat (p.regrind : Nat) p.parts
def rt (p : Process) : Rat := mkRat (p.kept : Nat) p.keptOf
theorem ratio_rat {p : Process} (h : SetOk p) : Sr119.regrindRatio p = ofRat (rr p) := mk_rat h.n1
theorem ret_rat {p : Process} (h : SetOk p) : Sr119.retention p = ofRat (rt p) := mk_rat h.o1
theorem parts_ne {p : Process} (h : SetOk p) : (p.parts : Rat) ≠ 0 := by
  have := h.n1
  intro e
  have e2 : ((p.parts : Nat) : Rat) = ((0 : Nat) : Rat) := e
  have := Rat.natCast_inj.mp e2
  omega
theorem of_ne {p : Process} (h : SetOk p) : (p.keptOf : Rat) ≠ 0 := by
  have := h.o1
  intro e
  have e2 : ((p.keptOf : Nat) : Rat) = ((0 : Nat) : Rat) := e
  have := Rat.natCast_inj.mp e2
  omega
theorem rr_eq (p : Process) : rr p = (p.regrind : Rat) / (p.parts : Rat) := by
  unfold rr
  rw [Rat.mkRat_eq_div]
  rfl
theorem rt_eq (p : Process) : rt p = (p.kept : Rat) / (p.keptOf : Rat) := by
  unfold rt
  rw [Rat.mkRat_eq_div]
  rfl
theorem virgin_rat {p : Process} (h : SetOk p) : Sr119.virginRatio p = ofRat (1 - rr p) := by
  unfold Sr119.virginRatio
  rw [mk_rat h.n1, rr_eq, Rat.mkRat_eq_div]
  congr 1
  have e : (((p.parts - p.regrind : Nat) : Int) : Rat) = (p.parts : Rat) - (p.regrind : Rat) := by
    have := h.r
    rw [show ((p.parts - p.regrind : Nat) : Int) = (p.parts : Int) - (p.regrind : Int) by omega, Rat.intCast_sub]
    rfl
  rw [e]
  have hn := parts_ne h
  grind
theorem virgin_eq {p : Process} (h : SetOk p) : Sr119.virginRatio p = SrFraction.sub (SrFraction.ofInt 1) (Sr119.regrindRatio p) := by
  rw [virgin_rat h, ratio_rat h, one_rat, sub_rat]
theorem next_eq {p : Process} (h : SetOk p) : Sr119.nextAges p = nextOf p.ages (Sr119.regrindRatio p) := by
  unfold Sr119.nextAges nextOf
  rw [virgin_eq h]
theorem next_fr {n : Nat} {r : Fraction} (hr : Fr 5 r) {l : List Fraction} (h : ∀ f ∈ l, Fr (7 + 5 * n) f) : ∀ f ∈ nextOf l r, Fr (7 + 5 * (n + 1)) f := by
  unfold nextOf
  split
  · intro f hf
    rw [List.mem_singleton] at hf
    subst hf
    exact fr_one.mono (by omega)
  · intro f hf
    rcases List.mem_cons.mp hf with e | e
    · subst e
      exact (fr_sub fr_one hr).mono (by omega)
    · obtain ⟨g, hg, rfl⟩ := List.mem_map.mp e
      exact (fr_mul hr (h g hg)).mono (by omega)
theorem next_len {l : List Fraction} {r : Fraction} : (nextOf l r).length = l.length + 1 := by
  unfold nextOf
  split
  · rename_i e
    subst e
    rfl
  · rw [List.length_cons, List.length_map]
theorem after_len {r : Fraction} : ∀ n, (agesAfter r n).length = n
  | 0 => rfl
  | n + 1 => by
    show (nextOf (agesAfter r n) r).length = n + 1
    rw [next_len, after_len n]
theorem after_fr {r : Fraction} (hr : Fr 5 r) : ∀ n, ∀ f ∈ agesAfter r n, Fr (7 + 5 * n) f
  | 0 => fun f hf => by cases hf
  | n + 1 => next_fr hr (after_fr hr n)
theorem strength_eq {p : Process} (h : SetOk p) {n : Nat} (hf : ∀ f ∈ p.ages, Fr n f) : Sr119.strength p = horner (Sr119.retention p) p.ages := by
  unfold Sr119.strength
  obtain ⟨qs, e⟩ := rats hf
  rw [ret_rat h, e, strength_rat]
theorem horner_fr' {A : Nat} {t : Fraction} (ht : Fr 5 t) {l : List Fraction} (h : ∀ f ∈ l, Fr A f) : Fr (1 + l.length * (A + 6)) (horner t l) := by
  have q := horner_fr ht (i := l.length) h (Nat.le_refl _)
  rw [← List.length_reverse, List.take_length, List.length_reverse] at q
  exact q
theorem makeShots_ages {p : Process} (h : SetOk p) : ∀ (n : Nat) (q : Process), q.regrind = p.regrind → q.parts = p.parts → q.kept = p.kept → q.keptOf = p.keptOf → ∀ m, q.ages = agesAfter (Sr119.regrindRatio p) m →
    (Sr119.makeShots q n).ages = agesAfter (Sr119.regrindRatio p) (m + n) ∧ (Sr119.makeShots q n).kept = p.kept ∧ (Sr119.makeShots q n).keptOf = p.keptOf ∧ (Sr119.makeShots q n).parts = p.parts ∧ (Sr119.makeShots q n).regrind = p.regrind
  | 0, q, h1, h2, h3, h4, m, e => ⟨e, h3, h4, h2, h1⟩
  | n + 1, q, h1, h2, h3, h4, m, e => by
    have hq : SetOk q := ⟨by rw [h2]; exact h.n1, by rw [h2]; exact h.n20, by rw [h1, h2]; exact h.r, by rw [h3]; exact h.k1, by rw [h3, h4]; exact h.k, by rw [h4]; exact h.o20⟩
    have er : Sr119.regrindRatio q = Sr119.regrindRatio p := by unfold Sr119.regrindRatio; rw [h1, h2]
    have e2 : (Sr119.makeShot q).ages = agesAfter (Sr119.regrindRatio p) (m + 1) := by
      show Sr119.nextAges q = nextOf (agesAfter (Sr119.regrindRatio p) m) (Sr119.regrindRatio p)
      rw [next_eq hq, er, e]
    have q2 := makeShots_ages h n (Sr119.makeShot q) h1 h2 h3 h4 (m + 1) e2
    rw [show m + 1 + n = m + (n + 1) by omega] at q2
    exact q2
theorem after_eq {p : Process} (h : SetOk p) (n : Nat) : Sr119.strength (Sr119.makeShots (Sr119.reset p) n) = horner (Sr119.retention p) (agesAfter (Sr119.regrindRatio p) n) := by
  obtain ⟨e1, e2, e3, e4, e5⟩ := makeShots_ages h n (Sr119.reset p) rfl rfl rfl rfl 0 rfl
  rw [Nat.zero_add] at e1
  have hs : SetOk (Sr119.makeShots (Sr119.reset p) n) := ⟨by rw [e4]; exact h.n1, by rw [e4]; exact h.n20, by rw [e4, e5]; exact h.r, by rw [e2]; exact h.k1, by rw [e2, e3]; exact h.k, by rw [e3]; exact h.o20⟩
  rw [strength_eq hs (n := 7 + 5 * n) (by rw [e1]; exact after_fr (ratio_fr h) n), e1]
  congr 1
  unfold Sr119.retention
  rw [e2, e3]
/-! ### the limits -/
def limOf (p : Process) : Fraction := SrFraction.mk (((p.parts : Int) - (p.regrind : Int)) * (p.keptOf : Int)) (p.parts * p.keptOf - p.regrind * p.kept)
def mlimOf (p : Process) : Fraction := SrFraction.mk (p.regrind : Int) (p.parts - p.regrind)
theorem lim_pos {p : Process} (h : SetOk p) : p.regrind * p.kept < p.parts * p.keptOf :=
  Nat.lt_of_le_of_lt (Nat.mul_le_mul_left _ h.k) (Nat.mul_lt_mul_of_pos_right h.r h.o1)
theorem cast_sub_nat {a b : Nat} (h : b ≤ a) : (((a - b : Nat) : Nat) : Rat) = (a : Rat) - (b : Rat) := by
  show (((a - b : Nat) : Int) : Rat) = _
  rw [show ((a - b : Nat) : Int) = (a : Int) - (b : Int) by omega, Rat.intCast_sub]
  rfl
theorem limit_eq {p : Process} (h : SetOk p) : Sr119.strengthLimit p = limOf p := by
  have hp := lim_pos h
  have hn := parts_ne h
  have ho := of_ne h
  have hd : ((p.parts : Rat) * (p.keptOf : Rat) - (p.regrind : Rat) * (p.kept : Rat)) ≠ 0 := by
    rw [← Rat.natCast_mul, ← Rat.natCast_mul, ← cast_sub_nat (Nat.le_of_lt hp)]
    intro e
    have := Rat.natCast_inj.mp (e.trans (show (0 : Rat) = ((0 : Nat) : Rat) from rfl))
    omega
  unfold Sr119.strengthLimit limOf
  rw [virgin_rat h, ratio_rat h, ret_rat h, one_rat, mul_rat, sub_rat, div_rat]
  · rw [mk_rat (by omega), Rat.mkRat_eq_div, cast_sub_nat (Nat.le_of_lt hp), Rat.natCast_mul, Rat.natCast_mul, Rat.intCast_mul, Rat.intCast_sub, rr_eq, rt_eq]
    congr 1
    show _ = ((p.parts : Rat) - (p.regrind : Rat)) * (p.keptOf : Rat) / _
    have hd2 : 1 - (p.regrind : Rat) / (p.parts : Rat) * ((p.kept : Rat) / (p.keptOf : Rat)) ≠ 0 := by grind
    grind
  · -- 0 < 1 - r t
    have h1 : 0 < ((p.parts : Rat) * (p.keptOf : Rat) - (p.regrind : Rat) * (p.kept : Rat)) := by
      rw [← Rat.natCast_mul, ← Rat.natCast_mul, ← cast_sub_nat (Nat.le_of_lt hp)]
      have : ((0 : Nat) : Rat) < ((p.parts * p.keptOf - p.regrind * p.kept : Nat) : Rat) := Rat.natCast_lt_natCast.mpr (by omega)
      exact this
    have h2 : (0 : Rat) < (p.parts : Rat) * (p.keptOf : Rat) := by
      rw [← Rat.natCast_mul]
      have : ((0 : Nat) : Rat) < ((p.parts * p.keptOf : Nat) : Rat) := Rat.natCast_lt_natCast.mpr (Nat.mul_pos h.n1 h.o1)
      exact this
    have e : 1 - rr p * rt p = ((p.parts : Rat) * (p.keptOf : Rat) - (p.regrind : Rat) * (p.kept : Rat)) * ((p.parts : Rat) * (p.keptOf : Rat))⁻¹ := by
      rw [rr_eq, rt_eq]
      grind
    rw [e]
    exact Rat.mul_pos h1 (Rat.inv_pos.mpr h2)
theorem mlimit_eq {p : Process} (h : SetOk p) : Sr119.meanAgeLimit p = mlimOf p := by
  have hp := h.r
  have hn := parts_ne h
  unfold Sr119.meanAgeLimit mlimOf
  have hd : ((p.parts : Rat) - (p.regrind : Rat)) ≠ 0 := by
    rw [← cast_sub_nat (Nat.le_of_lt hp)]
    intro e
    have := Rat.natCast_inj.mp (e.trans (show (0 : Rat) = ((0 : Nat) : Rat) from rfl))
    omega
  rw [ratio_rat h, virgin_rat h, div_rat]
  · rw [mk_rat (by omega), Rat.mkRat_eq_div, cast_sub_nat (Nat.le_of_lt hp), rr_eq]
    congr 1
    show _ = (p.regrind : Rat) / _
    have hd2 : 1 - (p.regrind : Rat) / (p.parts : Rat) ≠ 0 := by grind
    grind
  · have h1 : 0 < ((p.parts : Rat) - (p.regrind : Rat)) := by
      rw [← cast_sub_nat (Nat.le_of_lt hp)]
      have : ((0 : Nat) : Rat) < ((p.parts - p.regrind : Nat) : Rat) := Rat.natCast_lt_natCast.mpr (by omega)
      exact this
    have h2 : (0 : Rat) < (p.parts : Rat) := by
      have : ((0 : Nat) : Rat) < ((p.parts : Nat) : Rat) := Rat.natCast_lt_natCast.mpr h.n1
      exact this
    have e : 1 - rr p = ((p.parts : Rat) - (p.regrind : Rat)) * (p.parts : Rat)⁻¹ := by
      rw [rr_eq]
      grind
    rw [e]
    exact Rat.mul_pos h1 (Rat.inv_pos.mpr h2)
theorem lim_fr {p : Process} (h : SetOk p) : Fr 10 (limOf p) := by
  have hp := lim_pos h
  have h1 := h.n20
  have h2 := h.o20
  have h3 := h.r
  refine fr_mk (by omega) ?_ ?_
  · have := natAbs_mul_lt (a := (p.parts : Int) - (p.regrind : Int)) (b := (p.keptOf : Int)) (n := 5) (m := 5) (by omega) (by omega)
    exact this
  · have := mul_lt (a := p.parts) (b := p.keptOf) (n := 5) (m := 5) (by omega) (by omega)
    omega
theorem mlim_fr {p : Process} (h : SetOk p) : Fr 10 (mlimOf p) := by
  have h1 := h.n20
  have h3 := h.r
  exact fr_mk (by omega) (by omega) (by omega)
end Rg
/-! The calls: what each answers, in the program's own words. Plain Lean. -/
namespace Rg
open SrFraction (Fraction)
open Sr119 (Process)

/-! ### searches -/
def lastUp (c : Nat → Bool) : Nat → Option Nat
  | 0 => none
  | n + 1 => if c n = true then some n else lastUp c n
theorem lastUp_eq (c : Nat → Bool) : ∀ n, (List.range n).reverse.find? c = lastUp c n
  | 0 => rfl
  | n + 1 => by
    rw [List.range_succ, List.reverse_append]
    show List.find? c (n :: (List.range n).reverse) = _
    rw [List.find?_cons]
    unfold lastUp
    cases h : c n with
    | true => rfl
    | false =>
      rw [lastUp_eq c n]
      rfl
/-- the settings with another regrind -/
abbrev withR (p : Process) (r : Nat) : Process := { p with regrind := r }
def strongAt (p : Process) (t : Fraction) (r : Nat) : Bool := !SrFraction.lt (limOf (withR p r)) t
theorem find_congr {c d : Nat → Bool} : ∀ {l : List Nat}, (∀ x ∈ l, c x = d x) → l.find? c = l.find? d
  | [], _ => rfl
  | x :: r, h => by
    rw [List.find?_cons, List.find?_cons, h x (List.mem_cons_self), find_congr (fun y hy => h y (List.mem_cons_of_mem _ hy))]
theorem withR_ok {p : Process} (h : SetOk p) {r : Nat} (hr : r < p.parts) : SetOk (withR p r) := ⟨h.n1, h.n20, hr, h.k1, h.k, h.o20⟩
theorem maxRegrind_eq {p : Process} (h : SetOk p) (t : Fraction) : Sr119.maxRegrind p t = lastUp (strongAt p t) p.parts := by
  unfold Sr119.maxRegrind
  rw [← lastUp_eq]
  refine find_congr fun x hx => ?_
  have hx' : x < p.parts := List.mem_range.mp (List.mem_reverse.mp hx)
  unfold strongAt
  rw [← limit_eq (withR_ok h hx')]
def weakAt (p : Process) (t : Fraction) (n : Nat) : Bool := SrFraction.lt (horner (Sr119.retention p) (agesAfter (Sr119.regrindRatio p) n)) t
theorem firstWeak_eq {p : Process} (h : SetOk p) (t : Fraction) : Sr119.firstWeakShot p t = ((List.range 12).find? fun n => weakAt p t (n + 1)).map fun n => n + 1 := by
  unfold Sr119.firstWeakShot
  congr 1
  refine find_congr fun x _ => ?_
  unfold weakAt
  rw [after_eq h]
theorem firstWeak_some {p : Process} (h : SetOk p) {t : Fraction} {i : Nat} (hi : i < 12) (hc : weakAt p t (i + 1) = true) (hn : ∀ j, j < i → weakAt p t (j + 1) = false) : Sr119.firstWeakShot p t = some (i + 1) := by
  rw [firstWeak_eq h, List.find?_range_eq_some (p := fun n => weakAt p t (n + 1)) |>.mpr ⟨hc, List.mem_range.mpr hi, fun j hj => by rw [hn j hj]; rfl⟩]
  rfl
theorem firstWeak_none {p : Process} (h : SetOk p) {t : Fraction} (hn : ∀ j, j < 12 → weakAt p t (j + 1) = false) : Sr119.firstWeakShot p t = none := by
  rw [firstWeak_eq h, List.find?_range_eq_none (p := fun n => weakAt p t (n + 1)) |>.mpr (fun j hj => by rw [hn j hj]; rfl)]
  rfl

theorem enc_len : ∀ l : List Fraction, (l.flatMap SrFraction.encode).length = 2 * l.length
  | [] => rfl
  | f :: r => by
    rw [List.flatMap_cons, List.length_append, enc_len r, List.length_cons]
    show 2 + 2 * r.length = _
    omega
/-! ### the calls -/
def ansOf (o : Sr119.State × SrCommon.Result) : List Int := o.2.code :: o.2.values
def StWf : Sr119.State → Prop
  | none => True
  | some p => Wf p

def setsOk (a b c d : Int) : Bool := (decide (1 ≤ b) && decide (b ≤ 20)) && ((decide (0 ≤ a) && decide (a < b)) && ((decide (1 ≤ d) && decide (d ≤ 20)) && (decide (1 ≤ c) && decide (c ≤ d))))
theorem create_eq (st : Sr119.State) (a b c d : Int) : Sr119.step st (.create a b c d) = if setsOk a b c d = true then (some ⟨a.toNat, b.toNat, c.toNat, d.toNat, 0, []⟩, .ofCode 0) else (st, .ofCode (-22)) := by
  have e : (SrCommon.inRange b 1 20 = false ∨ Sr119.isRegrind b a = false ∨ Sr119.isRetention c d = false) ↔ ¬ setsOk a b c d = true := by
    unfold SrCommon.inRange Sr119.isRegrind Sr119.isRetention setsOk SrCommon.inRange
    simp only [Bool.and_eq_false_iff, Bool.and_eq_true, decide_eq_true_eq, decide_eq_false_iff_not]
    omega
  show (if SrCommon.inRange b 1 20 = false ∨ Sr119.isRegrind b a = false ∨ Sr119.isRetention c d = false then _ else _) = _
  by_cases hc : setsOk a b c d = true
  · rw [if_pos hc, if_neg (fun z => e.mp z hc)]
  · rw [if_neg hc, if_pos (e.mpr hc)]
    rfl
theorem create_wf {a b c d : Int} (h : setsOk a b c d = true) : Wf ⟨a.toNat, b.toNat, c.toNat, d.toNat, 0, []⟩ := by
  unfold setsOk at h
  simp only [Bool.and_eq_true, decide_eq_true_eq] at h
  refine ⟨⟨?_, ?_, ?_, ?_, ?_, ?_⟩, Nat.zero_le 12, Nat.zero_le 0, ⟨fun _ => rfl, fun _ => rfl⟩, fun f hf => by cases hf⟩
  all_goals (simp only; omega)
/-- the state of which a call has been answered without a change -/
theorem noMake (call : Sr119.Call) (h : ∀ a b c d, call ≠ .create a b c d) : Sr119.step none call = (none, .ofCode (-11)) := by
  cases call <;> first | rfl | exact absurd rfl (h _ _ _ _)

section
variable {p : Process}
theorem makeShot_full (h : p.shots = 12) : Sr119.step (some p) .makeShot = (some p, .ofCode (-28)) := by
  show (match Sr119.perform p .makeShot with | (some changed, result) => (some changed, result) | (none, result) => (some p, result)) = _
  unfold Sr119.perform
  simp only
  rw [if_pos (by show 12 ≤ p.shots; omega)]
  rfl
theorem makeShot_eq (w : Wf p) (h : p.shots ≠ 12) : Sr119.step (some p) .makeShot = (some { p with shots := p.shots + 1, ages := nextOf p.ages (Sr119.regrindRatio p) }, ⟨((p.shots + 1 : Nat) : Int), SrFraction.encode (horner (Sr119.retention p) (nextOf p.ages (Sr119.regrindRatio p)))⟩) := by
  have hs := w.shots
  have e1 : Sr119.makeShot p = { p with shots := p.shots + 1, ages := nextOf p.ages (Sr119.regrindRatio p) } := by
    unfold Sr119.makeShot
    rw [next_eq w.s]
  have e2 : Sr119.strength (Sr119.makeShot p) = horner (Sr119.retention p) (nextOf p.ages (Sr119.regrindRatio p)) := by
    rw [e1]
    exact strength_eq (p := { p with shots := p.shots + 1, ages := nextOf p.ages (Sr119.regrindRatio p) }) ⟨w.s.n1, w.s.n20, w.s.r, w.s.k1, w.s.k, w.s.o20⟩ (next_fr (ratio_fr w.s) w.fr)
  show (match Sr119.perform p .makeShot with | (some changed, result) => (some changed, result) | (none, result) => (some p, result)) = _
  unfold Sr119.perform
  simp only
  rw [if_neg (by show ¬ 12 ≤ p.shots; omega)]
  simp only
  rw [e2, e1]
theorem makeShot_wf (w : Wf p) (h : p.shots ≠ 12) : Wf { p with shots := p.shots + 1, ages := nextOf p.ages (Sr119.regrindRatio p) } := by
  have hs := w.shots
  refine ⟨⟨w.s.n1, w.s.n20, w.s.r, w.s.k1, w.s.k, w.s.o20⟩, by show p.shots + 1 ≤ 12; omega, ?_, ?_, next_fr (ratio_fr w.s) w.fr⟩
  · show (nextOf p.ages (Sr119.regrindRatio p)).length ≤ p.shots + 1
    rw [next_len]
    have := w.len
    omega
  · constructor
    · intro e
      have := congrArg List.length e
      rw [next_len] at this
      cases this
    · intro e
      cases e
theorem virgin_full (h : p.shots = 12) : Sr119.step (some p) .makeVirginShot = (some p, .ofCode (-28)) := by
  show (match Sr119.perform p .makeVirginShot with | (some changed, result) => (some changed, result) | (none, result) => (some p, result)) = _
  unfold Sr119.perform
  simp only
  rw [if_pos (by show 12 ≤ p.shots; omega)]
  rfl
theorem horner_whole {t : Fraction} {n : Nat} (ht : Fr n t) : horner t [SrFraction.ofInt 1] = SrFraction.ofInt 1 := by
  obtain ⟨q, e⟩ := ht.q
  have h1 := horner_rat q [1]
  rw [e]
  show horner (ofRat q) ([1].map ofRat) = _
  rw [h1]
  show ofRat (1 + q * 0) = ofRat 1
  congr 1
  grind
theorem virginShot_eq (w : Wf p) (h : p.shots ≠ 12) : Sr119.step (some p) .makeVirginShot = (some { p with shots := p.shots + 1, ages := [SrFraction.ofInt 1] }, ⟨((p.shots + 1 : Nat) : Int), SrFraction.encode (horner (Sr119.retention p) [SrFraction.ofInt 1])⟩) := by
  have hs := w.shots
  rw [horner_whole (ret_fr w.s)]
  show (match Sr119.perform p .makeVirginShot with | (some changed, result) => (some changed, result) | (none, result) => (some p, result)) = _
  unfold Sr119.perform
  simp only
  rw [if_neg (by show ¬ 12 ≤ p.shots; omega)]
  rfl
theorem virginShot_wf (w : Wf p) (h : p.shots ≠ 12) : Wf { p with shots := p.shots + 1, ages := [SrFraction.ofInt 1] } := by
  have hs := w.shots
  refine ⟨⟨w.s.n1, w.s.n20, w.s.r, w.s.k1, w.s.k, w.s.o20⟩, by show p.shots + 1 ≤ 12; omega, by show 1 ≤ p.shots + 1; omega, ⟨(fun e => nomatch e), (fun e => nomatch e)⟩, fun f hf => ?_⟩
  have e : f = SrFraction.ofInt 1 := List.mem_singleton.mp hf
  rw [e]
  exact fr_one.mono (by omega)
def regOk (r n : Int) : Bool := decide (0 ≤ r) && decide (r < n)
theorem isReg (r n : Int) : Sr119.isRegrind n r = regOk r n := by
  unfold Sr119.isRegrind SrCommon.inRange regOk
  congr 1
  rw [decide_eq_decide]
  omega
def retOk (c d : Int) : Bool := (decide (1 ≤ d) && decide (d ≤ 20)) && (decide (1 ≤ c) && decide (c ≤ d))
theorem isRet (c d : Int) : Sr119.isRetention c d = retOk c d := by
  unfold Sr119.isRetention retOk
  rw [Bool.eq_iff_iff]
  simp only [Bool.and_eq_true, decide_eq_true_eq]
  omega
theorem setRegrind_no {r : Int} (h : regOk r p.parts = false) : Sr119.step (some p) (.setRegrind r) = (some p, .ofCode (-22)) := by
  show (match Sr119.perform p (.setRegrind r) with | (some changed, result) => (some changed, result) | (none, result) => (some p, result)) = _
  unfold Sr119.perform
  simp only
  rw [isReg, if_pos h]
  rfl
theorem setRegrind_eq {r : Int} (h : regOk r p.parts = true) : Sr119.step (some p) (.setRegrind r) = (some (withR p r.toNat), ⟨(p.regrind : Int), []⟩) := by
  show (match Sr119.perform p (.setRegrind r) with | (some changed, result) => (some changed, result) | (none, result) => (some p, result)) = _
  unfold Sr119.perform
  simp only
  rw [isReg, if_neg (by rw [h]; decide)]
  rfl
theorem setRegrind_wf {r : Int} (w : Wf p) (h : regOk r p.parts = true) : Wf (withR p r.toNat) := by
  unfold regOk at h
  simp only [Bool.and_eq_true, decide_eq_true_eq] at h
  exact ⟨withR_ok w.s (by omega), w.shots, w.len, w.nil, w.fr⟩
theorem setRetention_no {c d : Int} (h : retOk c d = false) : Sr119.step (some p) (.setRetention c d) = (some p, .ofCode (-22)) := by
  show (match Sr119.perform p (.setRetention c d) with | (some changed, result) => (some changed, result) | (none, result) => (some p, result)) = _
  unfold Sr119.perform
  simp only
  rw [isRet, if_pos h]
  rfl
theorem setRetention_eq {c d : Int} (h : retOk c d = true) : Sr119.step (some p) (.setRetention c d) = (some { p with kept := c.toNat, keptOf := d.toNat }, ⟨0, [(p.kept : Int), (p.keptOf : Int)]⟩) := by
  show (match Sr119.perform p (.setRetention c d) with | (some changed, result) => (some changed, result) | (none, result) => (some p, result)) = _
  unfold Sr119.perform
  simp only
  rw [isRet, if_neg (by rw [h]; decide)]
theorem setRetention_wf {c d : Int} (w : Wf p) (h : retOk c d = true) : Wf { p with kept := c.toNat, keptOf := d.toNat } := by
  unfold retOk at h
  simp only [Bool.and_eq_true, decide_eq_true_eq] at h
  refine ⟨⟨w.s.n1, w.s.n20, w.s.r, ?_, ?_, ?_⟩, w.shots, w.len, w.nil, w.fr⟩
  all_goals (simp only; omega)
theorem reset_eq : Sr119.step (some p) .reset = (some { p with shots := 0, ages := [] }, ⟨(p.shots : Int), []⟩) := rfl
theorem reset_wf (w : Wf p) : Wf { p with shots := 0, ages := [] } := ⟨⟨w.s.n1, w.s.n20, w.s.r, w.s.k1, w.s.k, w.s.o20⟩, by show 0 ≤ 12; omega, by show 0 ≤ 0; omega, ⟨fun _ => rfl, fun _ => rfl⟩, fun f hf => by cases hf⟩
/-- a query leaves the state -/
def isQuery : Sr119.Call → Bool
  | .create _ _ _ _ => false
  | .makeShot => false
  | .makeVirginShot => false
  | .setRegrind _ => false
  | .setRetention _ _ => false
  | .reset => false
  | _ => true
theorem query_eq {call : Sr119.Call} (h : isQuery call = true) : Sr119.step (some p) call = (some p, (Sr119.perform p call).2) := by
  cases call <;> first | rfl | cases h
def qAns (p : Process) (call : Sr119.Call) : List Int := (Sr119.perform p call).2.code :: (Sr119.perform p call).2.values
theorem last_no (w : Wf p) (h : p.shots = 0) (f : Process → Fraction) : Sr119.ofLastShot p f = .ofCode (-6) := if_pos (w.nil.mpr h)
theorem last_eq (w : Wf p) (h : p.shots ≠ 0) (f : Process → Fraction) : Sr119.ofLastShot p f = ⟨0, [(f p).num, ((f p).den : Int)]⟩ := if_neg (fun e => h (w.nil.mp e))
theorem ageFraction_neg {k : Int} (h : k < 0) : qAns p (.ageFraction k) = [-22] := by
  unfold qAns Sr119.perform
  simp only [if_pos h]
  rfl
theorem ageFraction_no {k : Int} (w : Wf p) (h : ¬ k < 0) (h0 : p.shots = 0) : qAns p (.ageFraction k) = [-6] := by
  unfold qAns Sr119.perform
  simp only [if_neg h, last_no w h0]
  rfl
theorem ageFraction_eq {k : Int} (w : Wf p) (h : ¬ k < 0) (h0 : p.shots ≠ 0) : qAns p (.ageFraction k) = [0, (p.ages.getD k.toNat (SrFraction.ofInt 0)).num, ((p.ages.getD k.toNat (SrFraction.ofInt 0)).den : Int)] := by
  unfold qAns Sr119.perform
  simp only [if_neg h, last_eq w h0]
  rfl
theorem olderThan_neg {k : Int} (h : k < 0) : qAns p (.olderThan k) = [-22] := by
  unfold qAns Sr119.perform
  simp only [if_pos h]
  rfl
theorem olderThan_no {k : Int} (w : Wf p) (h : ¬ k < 0) (h0 : p.shots = 0) : qAns p (.olderThan k) = [-6] := by
  unfold qAns Sr119.perform
  simp only [if_neg h, last_no w h0]
  rfl
theorem olderThan_eq {k : Int} (w : Wf p) (h : ¬ k < 0) (h0 : p.shots ≠ 0) : qAns p (.olderThan k) = [0, (SrFraction.sum (p.ages.drop (k.toNat + 1))).num, ((SrFraction.sum (p.ages.drop (k.toNat + 1))).den : Int)] := by
  unfold qAns Sr119.perform
  simp only [if_neg h, last_eq w h0]
  rfl
theorem ageDistribution_eq : qAns p .ageDistribution = (p.ages.length : Int) :: p.ages.flatMap SrFraction.encode := rfl
theorem strength_no (w : Wf p) (h0 : p.shots = 0) : qAns p .strength = [-6] := by
  unfold qAns Sr119.perform
  simp only [last_no w h0]
  rfl
theorem strength_ans (w : Wf p) (h0 : p.shots ≠ 0) : qAns p .strength = [0, (horner (Sr119.retention p) p.ages).num, ((horner (Sr119.retention p) p.ages).den : Int)] := by
  unfold qAns Sr119.perform
  simp only [last_eq w h0, strength_eq w.s w.fr]
theorem meanAge_no (w : Wf p) (h0 : p.shots = 0) : qAns p .meanAge = [-6] := by
  unfold qAns Sr119.perform
  simp only [last_no w h0]
  rfl
theorem meanAge_eq (w : Wf p) (h0 : p.shots ≠ 0) : qAns p .meanAge = [0, (meanOf p.ages).num, ((meanOf p.ages).den : Int)] := by
  unfold qAns Sr119.perform
  simp only [last_eq w h0]
  rw [mean_eq]
  rfl
theorem limits_eq (w : Wf p) : qAns p .limits = [0, (limOf p).num, ((limOf p).den : Int), (mlimOf p).num, ((mlimOf p).den : Int)] := by
  unfold qAns Sr119.perform
  simp only [limit_eq w.s, mlimit_eq w.s]
  rfl
theorem aboveLimit_no (w : Wf p) (h0 : p.shots = 0) : qAns p .strengthAboveLimit = [-6] := by
  unfold qAns Sr119.perform
  simp only [last_no w h0]
  rfl
theorem aboveLimit_eq (w : Wf p) (h0 : p.shots ≠ 0) : qAns p .strengthAboveLimit = [0, (SrFraction.sub (horner (Sr119.retention p) p.ages) (limOf p)).num, ((SrFraction.sub (horner (Sr119.retention p) p.ages) (limOf p)).den : Int)] := by
  unfold qAns Sr119.perform
  simp only [last_eq w h0, strength_eq w.s w.fr, limit_eq w.s]
def countOk (n : Int) : Bool := decide (1 ≤ n) && decide (n ≤ 12)
theorem isCount (n : Int) : Sr119.isShotCount n = countOk n := rfl
theorem strengthAfter_no {n : Int} (h : countOk n = false) : qAns p (.strengthAfter n) = [-22] := by
  unfold qAns Sr119.perform
  simp only [isCount, h]
  rfl
theorem strengthAfter_eq {n : Int} (w : Wf p) (h : countOk n = true) : qAns p (.strengthAfter n) = [0, (horner (Sr119.retention p) (agesAfter (Sr119.regrindRatio p) n.toNat)).num, ((horner (Sr119.retention p) (agesAfter (Sr119.regrindRatio p) n.toNat)).den : Int)] := by
  unfold qAns Sr119.perform
  simp only [isCount, h]
  rw [if_neg (by decide)]
  show [0, (Sr119.strength (Sr119.makeShots (Sr119.reset p) n.toNat)).num, ((Sr119.strength (Sr119.makeShots (Sr119.reset p) n.toNat)).den : Int)] = _
  rw [after_eq w.s]
def thrOk (a b : Int) : Bool := decide (0 ≤ a) && (decide (1 ≤ b) && decide (b ≤ 1000))
theorem isThr (a b : Int) : Sr119.isThreshold a b = thrOk a b := rfl
theorem maxRegrind_no {a b : Int} (h : thrOk a b = false) : qAns p (.maxRegrind a b) = [-22] := by
  unfold qAns Sr119.perform
  simp only [isThr, h]
  rfl
theorem maxRegrind_ans {a b : Int} (w : Wf p) (h : thrOk a b = true) : qAns p (.maxRegrind a b) = match lastUp (strongAt p (SrFraction.mk a b.toNat)) p.parts with | none => [-33] | some r => [(r : Int)] := by
  unfold qAns Sr119.perform
  simp only [isThr, h]
  rw [if_neg (by decide), maxRegrind_eq w.s]
  cases lastUp (strongAt p (SrFraction.mk a b.toNat)) p.parts <;> rfl
theorem firstWeakShot_no {a b : Int} (h : thrOk a b = false) : qAns p (.firstWeakShot a b) = [-22] := by
  unfold qAns Sr119.perform
  simp only [isThr, h]
  rfl
theorem firstWeakShot_ans {a b : Int} (h : thrOk a b = true) : qAns p (.firstWeakShot a b) = match Sr119.firstWeakShot p (SrFraction.mk a b.toNat) with | none => [-33] | some r => [(r : Int)] := by
  unfold qAns Sr119.perform
  simp only [isThr, h]
  rw [if_neg (by decide)]
  cases Sr119.firstWeakShot p (SrFraction.mk a b.toNat) <;> rfl
theorem afterIf_no {r n : Int} (h : regOk r p.parts = false ∨ countOk n = false) : qAns p (.strengthAfterIf r n) = [-22] := by
  unfold qAns Sr119.perform
  simp only [isReg, isCount, if_pos h]
  rfl
theorem afterIf_eq {r n : Int} (w : Wf p) (h1 : regOk r p.parts = true) (h2 : countOk n = true) :
    qAns p (.strengthAfterIf r n) = [0, (horner (Sr119.retention p) (agesAfter (Sr119.regrindRatio (withR p r.toNat)) n.toNat)).num, ((horner (Sr119.retention p) (agesAfter (Sr119.regrindRatio (withR p r.toNat)) n.toNat)).den : Int)] := by
  unfold qAns Sr119.perform
  simp only [isReg, isCount, h1, h2]
  rw [if_neg (by decide)]
  have e := after_eq (setRegrind_wf w h1).s n.toNat
  show [0, (Sr119.strength (Sr119.makeShots (Sr119.reset (withR p r.toNat)) n.toNat)).num, ((Sr119.strength (Sr119.makeShots (Sr119.reset (withR p r.toNat)) n.toNat)).den : Int)] = _
  rw [e]
  rfl
theorem describe_eq : qAns p .describe = [(p.shots : Int), (p.regrind : Int), (p.parts : Int), (p.kept : Int), (p.keptOf : Int)] := rfl
end
end Rg
/-! The flat list of calls. Plain Lean. -/
namespace Rg
def manyT : List Int := [4, 0, 0, 1, 2, 0, 1, 1, 0, 0, 0, 0, 0, 1, 2, 2, 2, 0]
theorem shape_inv {z : Int} {s : Nat × Nat} (h : PySr119.shape z = some s) : ∃ n : Nat, s = (n, 0) ∧ 0 ≤ z ∧ z < 18 ∧ manyT[z.toNat]? = some (n : Int) := by
  by_cases hz : 0 ≤ z ∧ z < 18
  · obtain ⟨k, rfl⟩ : ∃ k : Nat, z = (k : Int) := ⟨z.toNat, by omega⟩
    have hk : k < 18 := by omega
    match k, hk with
    | 0, _ => cases (show some ((4 : Nat), (0 : Nat)) = some s from h); exact ⟨4, rfl, by decide, by decide, rfl⟩
    | 1, _ => cases (show some ((0 : Nat), (0 : Nat)) = some s from h); exact ⟨0, rfl, by decide, by decide, rfl⟩
    | 2, _ => cases (show some ((0 : Nat), (0 : Nat)) = some s from h); exact ⟨0, rfl, by decide, by decide, rfl⟩
    | 3, _ => cases (show some ((1 : Nat), (0 : Nat)) = some s from h); exact ⟨1, rfl, by decide, by decide, rfl⟩
    | 4, _ => cases (show some ((2 : Nat), (0 : Nat)) = some s from h); exact ⟨2, rfl, by decide, by decide, rfl⟩
    | 5, _ => cases (show some ((0 : Nat), (0 : Nat)) = some s from h); exact ⟨0, rfl, by decide, by decide, rfl⟩
    | 6, _ => cases (show some ((1 : Nat), (0 : Nat)) = some s from h); exact ⟨1, rfl, by decide, by decide, rfl⟩
    | 7, _ => cases (show some ((1 : Nat), (0 : Nat)) = some s from h); exact ⟨1, rfl, by decide, by decide, rfl⟩
    | 8, _ => cases (show some ((0 : Nat), (0 : Nat)) = some s from h); exact ⟨0, rfl, by decide, by decide, rfl⟩
    | 9, _ => cases (show some ((0 : Nat), (0 : Nat)) = some s from h); exact ⟨0, rfl, by decide, by decide, rfl⟩
    | 10, _ => cases (show some ((0 : Nat), (0 : Nat)) = some s from h); exact ⟨0, rfl, by decide, by decide, rfl⟩
    | 11, _ => cases (show some ((0 : Nat), (0 : Nat)) = some s from h); exact ⟨0, rfl, by decide, by decide, rfl⟩
    | 12, _ => cases (show some ((0 : Nat), (0 : Nat)) = some s from h); exact ⟨0, rfl, by decide, by decide, rfl⟩
    | 13, _ => cases (show some ((1 : Nat), (0 : Nat)) = some s from h); exact ⟨1, rfl, by decide, by decide, rfl⟩
    | 14, _ => cases (show some ((2 : Nat), (0 : Nat)) = some s from h); exact ⟨2, rfl, by decide, by decide, rfl⟩
    | 15, _ => cases (show some ((2 : Nat), (0 : Nat)) = some s from h); exact ⟨2, rfl, by decide, by decide, rfl⟩
    | 16, _ => cases (show some ((2 : Nat), (0 : Nat)) = some s from h); exact ⟨2, rfl, by decide, by decide, rfl⟩
    | 17, _ => cases (show some ((0 : Nat), (0 : Nat)) = some s from h); exact ⟨0, rfl, by decide, by decide, rfl⟩
  · unfold PySr119.shape at h
    rw [if_neg (show ¬ z = 0 by omega), if_neg (show ¬ z = 1 by omega), if_neg (show ¬ z = 2 by omega), if_neg (show ¬ z = 3 by omega), if_neg (show ¬ z = 4 by omega), if_neg (show ¬ z = 5 by omega), if_neg (show ¬ z = 6 by omega), if_neg (show ¬ z = 7 by omega), if_neg (show ¬ z = 8 by omega), if_neg (show ¬ z = 9 by omega), if_neg (show ¬ z = 10 by omega), if_neg (show ¬ z = 11 by omega), if_neg (show ¬ z = 12 by omega), if_neg (show ¬ z = 13 by omega), if_neg (show ¬ z = 14 by omega), if_neg (show ¬ z = 15 by omega), if_neg (show ¬ z = 16 by omega), if_neg (show ¬ z = 17 by omega)] at h
    cases h
theorem whole_id (c : List (List Int)) : PySr119.whole c = c := by
  unfold PySr119.whole
  split <;> rfl
theorem map_whole (cs : List (List (List Int))) : cs.map PySr119.whole = cs := by
  rw [show PySr119.whole = id from funext whole_id, List.map_id]
/-- behind i numbers of the list: what has been told, the state -/
def Told (ns : List Int) (i : Nat) (out : List Int) (st : Sr119.State) : Prop :=
  ∃ f cs, PyFlat.calls PySr119.shape f (ns.drop i) = some cs ∧ out ++ PyFlat.told (PyFlat.played Sr119Neutral.step st cs) = PySr119.answers ns
theorem told_start {ns : List Int} (h : PySr119.answers_asked ns = true) : Told ns 0 [] Sr119.start ∧ (PySr119.answers ns).length ≤ 10000000 := by
  unfold PySr119.answers_asked at h
  cases e : PyFlat.calls PySr119.shape ns.length ns with
  | none =>
    rw [e] at h
    cases h
  | some raw =>
    rw [e] at h
    simp only [Bool.and_eq_true] at h
    refine ⟨⟨ns.length, raw, by rw [List.drop_zero]; exact e, ?_⟩, ?_⟩
    · unfold PySr119.answers PySr119.calls
      rw [e]
      show [] ++ PyFlat.told (PyFlat.played Sr119Neutral.step Sr119.start raw) = PyFlat.told (PyFlat.played Sr119Neutral.step Sr119Neutral.start (raw.map PySr119.whole))
      rw [map_whole]
      rfl
    · have q := h.2
      unfold PyFlat.short at q
      exact of_decide_eq_true q
theorem call_inv {z : Int} {r : List Int} {c : List (List Int)} {t : List Int} (h : PyFlat.call PySr119.shape (z :: r) = some (c, t)) : ∃ n : Nat, 0 ≤ z ∧ z < 18 ∧ manyT[z.toNat]? = some (n : Int) ∧ n ≤ r.length ∧ c = [z :: r.take n] ∧ t = r.drop n := by
  have h : (match PySr119.shape z with
    | none => none
    | some (n, k) => if r.length < n then none else match PyFlat.rows k (r.drop n) with
      | none => none
      | some (xs, t) => some ((z :: r.take n) :: xs, t)) = some (c, t) := h
  cases e : PySr119.shape z with
  | none =>
    rw [e] at h
    cases h
  | some s =>
    obtain ⟨n, e2, h0, h1, h2⟩ := shape_inv e
    subst e2
    rw [e] at h
    simp only at h
    split at h
    · cases h
    · rename_i hl
      have h' : some ([z :: r.take n], r.drop n) = some (c, t) := h
      cases h'
      exact ⟨n, h0, h1, h2, by omega, rfl, rfl⟩
theorem told_turn {ns : List Int} {i : Nat} {out : List Int} {st : Sr119.State} (h : Told ns i out st) (hi : i < ns.length) :
    ∃ (z : Int) (n : Nat), ns[i]? = some z ∧ 0 ≤ z ∧ z < 18 ∧ manyT[z.toNat]? = some (n : Int) ∧ i + 1 + n ≤ ns.length ∧
      Told ns (i + 1 + n) (out ++ ((((Sr119Neutral.step st [z :: (ns.drop (i + 1)).take n]).2.length : Nat) : Int) :: (Sr119Neutral.step st [z :: (ns.drop (i + 1)).take n]).2)) (Sr119Neutral.step st [z :: (ns.drop (i + 1)).take n]).1 := by
  obtain ⟨f, cs, e, ho⟩ := h
  rw [List.drop_eq_getElem_cons hi] at e
  cases f with
  | zero => cases e
  | succ f =>
    have e' : (match PyFlat.call PySr119.shape (ns[i] :: ns.drop (i + 1)) with | none => none | some (c, t) => match PyFlat.calls PySr119.shape f t with | none => none | some ds => some (c :: ds)) = some cs := e
    cases e1 : PyFlat.call PySr119.shape (ns[i] :: ns.drop (i + 1)) with
    | none =>
      rw [e1] at e'
      cases e'
    | some ct =>
      obtain ⟨c, t⟩ := ct
      rw [e1] at e'
      simp only at e'
      obtain ⟨n, h0, h1, h2, h3, h4, h5⟩ := call_inv e1
      cases e2 : PyFlat.calls PySr119.shape f t with
      | none =>
        rw [e2] at e'
        cases e'
      | some ds =>
        rw [e2] at e'
        have e'' : some (c :: ds) = some cs := e'
        cases e''
        rw [List.length_drop] at h3
        refine ⟨ns[i], n, List.getElem?_eq_getElem hi, h0, h1, h2, by omega, f, ds, ?_, ?_⟩
        · rw [h5, List.drop_drop] at e2
          exact e2
        · rw [← ho, h4]
          show (out ++ _) ++ _ = out ++ ((((Sr119Neutral.step st [ns[i] :: (ns.drop (i + 1)).take n]).2.length : Nat) : Int) :: (Sr119Neutral.step st [ns[i] :: (ns.drop (i + 1)).take n]).2 ++ PyFlat.told (PyFlat.played Sr119Neutral.step (Sr119Neutral.step st [ns[i] :: (ns.drop (i + 1)).take n]).1 ds))
          rw [List.append_assoc]
theorem told_len {ns : List Int} {i : Nat} {out : List Int} {st : Sr119.State} (h : Told ns i out st) : out.length ≤ (PySr119.answers ns).length := by
  obtain ⟨f, cs, _, e⟩ := h
  rw [← e, List.length_append]
  omega
theorem told_end {ns : List Int} {i : Nat} {out : List Int} {st : Sr119.State} (h : Told ns i out st) (hi : ns.length ≤ i) : out = PySr119.answers ns := by
  obtain ⟨f, cs, e, ho⟩ := h
  rw [List.drop_eq_nil_of_le hi] at e
  have e2 : cs = [] := by
    cases f <;> (cases e; rfl)
  subst e2
  rw [← ho]
  show out = out ++ []
  rw [List.append_nil]
/-- a call by its number and its numbers -/
inductive Is : Int → List Int → Sr119.Call → Prop
  | c0 (a b c d : Int) : Is 0 [a, b, c, d] (.create a b c d)
  | c1 : Is 1 [] .makeShot
  | c2 : Is 2 [] .makeVirginShot
  | c3 (a : Int) : Is 3 [a] (.setRegrind a)
  | c4 (a b : Int) : Is 4 [a, b] (.setRetention a b)
  | c5 : Is 5 [] .reset
  | c6 (a : Int) : Is 6 [a] (.ageFraction a)
  | c7 (a : Int) : Is 7 [a] (.olderThan a)
  | c8 : Is 8 [] .ageDistribution
  | c9 : Is 9 [] .strength
  | c10 : Is 10 [] .meanAge
  | c11 : Is 11 [] .limits
  | c12 : Is 12 [] .strengthAboveLimit
  | c13 (a : Int) : Is 13 [a] (.strengthAfter a)
  | c14 (a b : Int) : Is 14 [a, b] (.maxRegrind a b)
  | c15 (a b : Int) : Is 15 [a, b] (.firstWeakShot a b)
  | c16 (a b : Int) : Is 16 [a, b] (.strengthAfterIf a b)
  | c17 : Is 17 [] .describe
theorem is_step {z : Int} {ns : List Int} {call : Sr119.Call} (h : Is z ns call) (st : Sr119.State) : Sr119Neutral.step st [z :: ns] = ((Sr119.step st call).1, ansOf (Sr119.step st call)) := by
  cases h <;> rfl
theorem len0 {α : Type} {l : List α} (h : l.length = 0) : l = [] := List.eq_nil_of_length_eq_zero h
theorem len1 {α : Type} {l : List α} (h : l.length = 1) : ∃ a, l = [a] := List.length_eq_one_iff.mp h
theorem len2 {α : Type} {l : List α} (h : l.length = 2) : ∃ a b, l = [a, b] := by
  match l, h with
  | [a, b], _ => exact ⟨a, b, rfl⟩
theorem len4 {α : Type} {l : List α} (h : l.length = 4) : ∃ a b c d, l = [a, b, c, d] := by
  match l, h with
  | [a, b, c, d], _ => exact ⟨a, b, c, d, rfl⟩
theorem is_of {z : Int} {ns : List Int} (h0 : 0 ≤ z) (h1 : z < 18) (hn : manyT[z.toNat]? = some ((ns.length : Nat) : Int)) : ∃ call, Is z ns call := by
  obtain ⟨k, rfl⟩ : ∃ k : Nat, z = (k : Int) := ⟨z.toNat, by omega⟩
  have hk : k < 18 := by omega
  have e : ∀ m : Int, manyT[(k : Int).toNat]? = some m → ((ns.length : Nat) : Int) = m := fun m hm => Option.some.inj (hn.symm.trans hm)
  match k, hk with
  | 0, _ => obtain ⟨a, b, c, d, rfl⟩ := len4 (l := ns) (by have := e 4 rfl; omega); exact ⟨_, .c0 a b c d⟩
  | 1, _ => obtain rfl := len0 (l := ns) (by have := e 0 rfl; omega); exact ⟨_, .c1⟩
  | 2, _ => obtain rfl := len0 (l := ns) (by have := e 0 rfl; omega); exact ⟨_, .c2⟩
  | 3, _ => obtain ⟨a, rfl⟩ := len1 (l := ns) (by have := e 1 rfl; omega); exact ⟨_, .c3 a⟩
  | 4, _ => obtain ⟨a, b, rfl⟩ := len2 (l := ns) (by have := e 2 rfl; omega); exact ⟨_, .c4 a b⟩
  | 5, _ => obtain rfl := len0 (l := ns) (by have := e 0 rfl; omega); exact ⟨_, .c5⟩
  | 6, _ => obtain ⟨a, rfl⟩ := len1 (l := ns) (by have := e 1 rfl; omega); exact ⟨_, .c6 a⟩
  | 7, _ => obtain ⟨a, rfl⟩ := len1 (l := ns) (by have := e 1 rfl; omega); exact ⟨_, .c7 a⟩
  | 8, _ => obtain rfl := len0 (l := ns) (by have := e 0 rfl; omega); exact ⟨_, .c8⟩
  | 9, _ => obtain rfl := len0 (l := ns) (by have := e 0 rfl; omega); exact ⟨_, .c9⟩
  | 10, _ => obtain rfl := len0 (l := ns) (by have := e 0 rfl; omega); exact ⟨_, .c10⟩
  | 11, _ => obtain rfl := len0 (l := ns) (by have := e 0 rfl; omega); exact ⟨_, .c11⟩
  | 12, _ => obtain rfl := len0 (l := ns) (by have := e 0 rfl; omega); exact ⟨_, .c12⟩
  | 13, _ => obtain ⟨a, rfl⟩ := len1 (l := ns) (by have := e 1 rfl; omega); exact ⟨_, .c13 a⟩
  | 14, _ => obtain ⟨a, b, rfl⟩ := len2 (l := ns) (by have := e 2 rfl; omega); exact ⟨_, .c14 a b⟩
  | 15, _ => obtain ⟨a, b, rfl⟩ := len2 (l := ns) (by have := e 2 rfl; omega); exact ⟨_, .c15 a b⟩
  | 16, _ => obtain ⟨a, b, rfl⟩ := len2 (l := ns) (by have := e 2 rfl; omega); exact ⟨_, .c16 a b⟩
  | 17, _ => obtain rfl := len0 (l := ns) (by have := e 0 rfl; omega); exact ⟨_, .c17⟩
end Rg
/-! What lies in the heap; a def that keeps its promise, as one fact; readings in short. -/
namespace Rg
open PySem PySem.Spec PyProof.Rows L2
open SrFraction (Fraction)
open Sr119 (Process)

def top (i : Nat) : Stmt := PySem.Challenge.pw_regroundshots_s01_answers.main.body.getD i (.Pass ⟨0, 0, 0, 0⟩)

/-! ### heaps -/
section
variable {K : PySem.W.Frag} {H H' : Hp} {a p : Addr} {xs : List V}
theorem tupE (e : Same H H') (h : SqT K H a xs) : SqT K H' a xs := by
  rcases h with (h | ⟨o, h⟩) | h
  · exact .inl (.inl (e _ _ h))
  · exact .inl (.inr ⟨o, e _ _ h⟩)
  · exact .inr h
theorem sNew {o : HO} (h : H p = none) : Same H (upd H p o) := fun b x e => by
  rw [upd_ne (ne_of_none e h)]
  exact e
/-- an object that H does not know may change -/
theorem sMut {o : HO} (e : Same H H') (h : H p = none) : Same H (upd H' p o) := fun b x q => by
  rw [upd_ne (ne_of_none q h)]
  exact e b x q
/-- all but what stands at x is as it was -/
def Kept (H H' : Hp) (x : Addr) : Prop := ∀ b o, H b = some o → b ≠ x → H' b = some o
theorem Kept.of (e : Same H H') (x : Addr) : Kept H H' x := fun b o q _ => e b o q
theorem Kept.trans {H1 H2 : Hp} {x : Addr} (a : Kept H H1 x) (b : Kept H1 H2 x) : Kept H H2 x := fun c o h n => b c o (a c o h n) n
theorem Kept.seq {x C dx : Addr} {fs : List (Str × V)} (k : Kept H H' x) (hx : H x = some (.ins C dx fs)) (h : SqL K H a xs) : SqL K H' a xs := by
  rcases h with (h | ⟨o, h⟩) | h
  · exact .inl (.inl (k _ _ h (ne_of h hx (fun z => nomatch z))))
  · exact .inl (.inr ⟨o, k _ _ h (ne_of h hx (fun z => nomatch z))⟩)
  · exact .inr h
theorem Kept.tup {x C dx : Addr} {fs : List (Str × V)} (k : Kept H H' x) (hx : H x = some (.ins C dx fs)) (h : SqT K H a xs) : SqT K H' a xs := by
  rcases h with (h | ⟨o, h⟩) | h
  · exact .inl (.inl (k _ _ h (ne_of h hx (fun z => nomatch z))))
  · exact .inl (.inr ⟨o, k _ _ h (ne_of h hx (fun z => nomatch z))⟩)
  · exact .inr h
/-- what is new behind was new ahead -/
theorem Kept.free {x C dx C' dx' : Addr} {fs fs' : List (Str × V)} (k : Kept H H' x) (hx' : H' x = some (.ins C' dx' fs')) (h : H' p = none) : H p = none := by
  cases q : H p with
  | none => rfl
  | some o =>
    by_cases e : p = x
    · subst e
      rw [hx'] at h
      cases h
    · rw [k p o q e] at h
      cases h
end

/-! ### fractions, lists of them, settings -/
def FrAt (K : PySem.W.Frag) (H : Hp) (v : V) (f : Fraction) : Prop := ∃ a, v = .ref a ∧ SqT K H a [.int f.num, .int ((f.den : Nat) : Int)]
theorem FrAt.mono {K : PySem.W.Frag} {H H' : Hp} {v : V} {f : Fraction} (e : Same H H') (h : FrAt K H v f) : FrAt K H' v f := by
  obtain ⟨a, e1, h⟩ := h
  exact ⟨a, e1, tupE e h⟩
theorem FrAt.kept {K : PySem.W.Frag} {H H' : Hp} {v : V} {f : Fraction} {x C dx : Addr} {fs : List (Str × V)} (k : Kept H H' x) (hx : H x = some (.ins C dx fs)) (h : FrAt K H v f) : FrAt K H' v f := by
  obtain ⟨a, e1, h⟩ := h
  exact ⟨a, e1, k.tup hx h⟩
inductive Fs (K : PySem.W.Frag) (H : Hp) : List V → List Fraction → Prop
  | nil : Fs K H [] []
  | cons {v : V} {f : Fraction} {vs : List V} {fs : List Fraction} : FrAt K H v f → Fs K H vs fs → Fs K H (v :: vs) (f :: fs)
section
variable {K : PySem.W.Frag} {H H' : Hp}
theorem Fs.mono (e : Same H H') : ∀ {vs : List V} {fs : List Fraction}, Fs K H vs fs → Fs K H' vs fs
  | _, _, .nil => .nil
  | _, _, .cons r t => .cons (r.mono e) (Fs.mono e t)
theorem Fs.kept {x C dx : Addr} {gs : List (Str × V)} (k : Kept H H' x) (hx : H x = some (.ins C dx gs)) : ∀ {vs : List V} {fs : List Fraction}, Fs K H vs fs → Fs K H' vs fs
  | _, _, .nil => .nil
  | _, _, .cons r t => .cons (r.kept k hx) (Fs.kept k hx t)
theorem Fs.len : ∀ {vs : List V} {fs : List Fraction}, Fs K H vs fs → vs.length = fs.length
  | _, _, .nil => rfl
  | _, _, .cons _ t => congrArg (· + 1) (Fs.len t)
theorem Fs.get : ∀ {vs : List V} {fs : List Fraction} {i : Nat} {v : V}, Fs K H vs fs → vs[i]? = some v → ∃ f, fs[i]? = some f ∧ FrAt K H v f
  | _, _, _, _, .nil, e => by simp at e
  | _, _, 0, v, .cons r _, e => by
    have e1 := Option.some.inj e
    subst e1
    exact ⟨_, rfl, r⟩
  | _, _, i + 1, v, .cons _ t, e => Fs.get (i := i) (v := v) t e
theorem Fs.got {vs : List V} {fs : List Fraction} {i : Nat} {f : Fraction} (h : Fs K H vs fs) (e : fs[i]? = some f) : ∃ v, vs[i]? = some v ∧ FrAt K H v f := by
  have hl : i < vs.length := by rw [h.len]; exact (List.getElem?_eq_some_iff.mp e).1
  obtain ⟨g, e2, r⟩ := h.get (List.getElem?_eq_getElem hl)
  rw [e] at e2
  cases e2
  exact ⟨_, List.getElem?_eq_getElem hl, r⟩
theorem Fs.append : ∀ {vs ws : List V} {fs gs : List Fraction}, Fs K H vs fs → Fs K H ws gs → Fs K H (vs ++ ws) (fs ++ gs)
  | _, _, _, _, .nil, s => s
  | _, _, _, _, .cons r t, s => .cons r (Fs.append t s)
theorem Fs.snoc {vs : List V} {fs : List Fraction} {v : V} {f : Fraction} (h : Fs K H vs fs) (r : FrAt K H v f) : Fs K H (vs ++ [v]) (fs ++ [f]) := h.append (.cons r .nil)
theorem Fs.rev : ∀ {vs : List V} {fs : List Fraction}, Fs K H vs fs → Fs K H vs.reverse fs.reverse
  | _, _, .nil => .nil
  | _, _, .cons r t => by
    rw [List.reverse_cons, List.reverse_cons]
    exact (Fs.rev t).snoc r
theorem Fs.drop : ∀ {vs : List V} {fs : List Fraction} (n : Nat), Fs K H vs fs → Fs K H (vs.drop n) (fs.drop n)
  | _, _, 0, h => h
  | _, _, n + 1, .nil => .nil
  | _, _, n + 1, .cons _ t => Fs.drop n t
theorem Fs.nil_iff {vs : List V} {fs : List Fraction} (h : Fs K H vs fs) : vs = [] ↔ fs = [] := by
  cases h <;> simp
end
/-- the list as data -/
def dF (f : Fraction) : PyData := .tuple [.int f.num, .int ((f.den : Nat) : Int)]
theorem FrAt.dp {K : PySem.W.Frag} {H : Hp} {v : V} {f : Fraction} (h : FrAt K H v f) : Dp K H v (dF f) := by
  obtain ⟨a, rfl, t⟩ := h
  exact .tup t (.cons (.int _) (.cons (.int _) .nil))
theorem Fs.dp {K : PySem.W.Frag} {H : Hp} : ∀ {vs : List V} {fs : List Fraction}, Fs K H vs fs → DpAll K H vs (fs.map dF)
  | _, _, .nil => .nil
  | _, _, .cons r t => .cons r.dp (Fs.dp t)
theorem lay_fs : ∀ fs : List Fraction, PyData.canLayAll0 (fs.map dF) = true
  | [] => by rw [List.map_nil, PyData.canLayAll0]
  | f :: r => by
    rw [List.map_cons, PyData.canLayAll0, lay_fs r]
    rfl
theorem depth_fs : ∀ fs : List Fraction, PyData.depthAll (fs.map dF) ≤ 5
  | [] => by
    rw [List.map_nil, PyData.depthAll]
    omega
  | f :: r => by
    rw [List.map_cons, PyData.depthAll]
    have h := depth_fs r
    have e : PyData.depth (dF f) ≤ 5 := by
      show PyData.depth (.tuple [.int f.num, .int ((f.den : Nat) : Int)]) ≤ 5
      simp [PyData.depth, PyData.depthAll]
    omega
theorem shaped_fs (fs : List Fraction) : SeqAt.shaped (.list (fs.map dF)) = true := by
  unfold SeqAt.shaped
  have h := depth_fs fs
  have e : PyData.depth (.list (fs.map dF)) ≤ 64 := by
    rw [PyData.depth]
    omega
  rw [PyData.canLay0, lay_fs, decide_eq_true e]
  rfl
theorem eqv_fs (fs : List Fraction) : PyData.eqv (.list (fs.map dF)) (.list []) = decide (fs = []) := by
  cases fs with
  | nil => rw [List.map_nil, PyData.eqv, PyData.eqvAll, decide_eq_true rfl]
  | cons f r => rw [List.map_cons, PyData.eqv, PyData.eqvAll, decide_eq_false (fun h => nomatch h)]
/-- a list that changes leaves the tuples -/
theorem tupL {K : PySem.W.Frag} {H : Hp} {a D : Addr} {xs ys zs : List V} (hD : H D = some (.lst ys)) (h : SqT K H a xs) : SqT K (upd H D (.lst zs)) a xs := by
  rcases h with (h | ⟨o, h⟩) | h
  · exact .inl (.inl (by rw [upd_ne (ne_of h hD (fun z => nomatch z))]; exact h))
  · exact .inl (.inr ⟨o, by rw [upd_ne (ne_of h hD (fun z => nomatch z))]; exact h⟩)
  · exact .inr h
theorem FrAt.lset {K : PySem.W.Frag} {H : Hp} {v : V} {f : Fraction} {D : Addr} {ys zs : List V} (hD : H D = some (.lst ys)) (h : FrAt K H v f) : FrAt K (upd H D (.lst zs)) v f := by
  obtain ⟨a, e1, h⟩ := h
  exact ⟨a, e1, tupL hD h⟩
theorem Fs.lset {K : PySem.W.Frag} {H : Hp} {D : Addr} {ys zs : List V} (hD : H D = some (.lst ys)) : ∀ {vs : List V} {fs : List Fraction}, Fs K H vs fs → Fs K (upd H D (.lst zs)) vs fs
  | _, _, .nil => .nil
  | _, _, .cons r t => .cons (r.lset hD) (Fs.lset hD t)
theorem small20 {n : Nat} (h : n ≤ 1000) : n ≤ sizeLine := Nat.le_of_lt (small1000 h)
theorem cut_from (xs : List V) (k : Nat) : cutV xs (some ((k : Nat) : Int)) none = xs.drop k := by
  unfold cutV
  rw [HT.sIx_nat, HT.sIx_none]
  by_cases h : k ≤ xs.length
  · rw [Nat.min_eq_left h, List.take_of_length_le (by rw [List.length_drop]; omega)]
  · rw [Nat.min_eq_right (by omega), List.drop_eq_nil_of_le (Nat.le_refl _), List.drop_eq_nil_of_le (by omega), List.take_nil]
theorem cut_to (xs : List V) (i n : Nat) (h : i + n ≤ xs.length) : cutV xs (some ((i : Nat) : Int)) (some ((i + n : Nat) : Int)) = (xs.drop i).take n := by
  unfold cutV
  rw [HT.sIx_nat, HT.sIx_nat, Nat.min_eq_left h, Nat.min_eq_left (show i ≤ xs.length by omega)]
  congr 1
  omega
def FsAt (K : PySem.W.Frag) (H : Hp) (v : V) (fs : List Fraction) : Prop := ∃ a xs, v = .ref a ∧ SqL K H a xs ∧ Fs K H xs fs
theorem FsAt.mono {K : PySem.W.Frag} {H H' : Hp} {v : V} {fs : List Fraction} (e : Same H H') (h : FsAt K H v fs) : FsAt K H' v fs := by
  obtain ⟨a, xs, e1, h1, h2⟩ := h
  exact ⟨a, xs, e1, e.seq h1, h2.mono e⟩
/-- settings by numbers -/
abbrev iv4 (a b c d : Int) : List V := [.int a, .int b, .int c, .int d]
abbrev setV (p : Process) : List V := iv4 (p.regrind : Int) (p.parts : Int) (p.kept : Int) (p.keptOf : Int)

def partsOk (b : Int) : Bool := decide (1 ≤ b) && decide (b ≤ 20)
theorem setsOk_eq (a b c d : Int) : setsOk a b c d = (partsOk b && (regOk a b && retOk c d)) := rfl
def optV : Option Nat → V
  | none => .non
  | some r => .int (r : Int)
/-! ### how a promise ends -/
def RetF (K : PySem.W.Frag) (f : Fraction) (H : Hp) (Q : VK) : Prop := ∀ v H', Same H H' → FrAt K H' v f → Q v H'
def RetL (ns : List Int) (H : Hp) (Q : VK) : Prop := ∀ p H', H p = none → Same H H' → H' p = some (.lst (ns.map V.int)) → Q (.ref p) H'
def RetFs (K : PySem.W.Frag) (fs : List Fraction) (H : Hp) (Q : VK) : Prop := ∀ p xs H', H p = none → Same H H' → H' p = some (.lst xs) → Fs K H' xs fs → Q (.ref p) H'
def RetT (vs : List V) (H : Hp) (Q : VK) : Prop := ∀ p H', H p = none → Same H H' → H' p = some (.tup vs) → Q (.ref p) H'
def RetV (v : V) (H : Hp) (Q : VK) : Prop := ∀ H', Same H H' → Q v H'
section
variable {K : PySem.W.Frag} {f : Fraction} {ns : List Int} {fs : List Fraction} {vs : List V} {v : V} {H H' : Hp} {Q : VK}
theorem RetF.at (k : RetF K f H Q) (e : Same H H') : RetF K f H' Q := fun v H2 e2 h => k v H2 (e.trans e2) h
theorem RetL.at (k : RetL ns H Q) (e : Same H H') : RetL ns H' Q := fun p H2 hp e2 h => k p H2 (e.free hp) (e.trans e2) h
theorem RetFs.at (k : RetFs K fs H Q) (e : Same H H') : RetFs K fs H' Q := fun p xs H2 hp e2 h h2 => k p xs H2 (e.free hp) (e.trans e2) h h2
theorem RetT.at (k : RetT vs H Q) (e : Same H H') : RetT vs H' Q := fun p H2 hp e2 h => k p H2 (e.free hp) (e.trans e2) h
theorem RetV.at (k : RetV v H Q) (e : Same H H') : RetV v H' Q := fun H2 e2 => k H2 (e.trans e2)
/-- a new list, a new tuple at p -/
theorem RetL.new (k : RetL ns H Q) {p : Addr} (hp : H p = none) : Q (.ref p) (upd H p (.lst (ns.map V.int))) := k p _ hp (sNew hp) upd_same
theorem RetT.new (k : RetT vs H Q) {p : Addr} (hp : H p = none) : Q (.ref p) (upd H p (.tup vs)) := k p _ hp (sNew hp) upd_same
theorem RetF.new (k : RetF K f H Q) {p : Addr} {x y : Int} (hp : H p = none) (ex : x = f.num) (ey : y = ((f.den : Nat) : Int)) : Q (.ref p) (upd H p (.tup [.int x, .int y])) := by
  subst ex ey
  exact k _ _ (sNew hp) ⟨p, rfl, SqT.of upd_same⟩
end

/-! ### a def that keeps its promise, as one fact -/
section
variable (P : Program) (w : World) (K : PySem.W.Frag) (mg : Str → Option Value) (base : Heap)
def Df (k : Nat) (x : Str) (ps : List Str) (sp : Sp) : Prop := ∃ (f : Addr) (fd : FuncData), FnOk P w K mg base CX0 k f fd ps sp ∧ mg x = some (.ref f) ∧ PySem.W.keepIn K (.ref f) = true ∧ Binds K fd ps []
def Mf (C : Addr) (k : Nat) (m : Str) (ps : List Str) (sp : Sp) : Prop := ∃ (f : Addr) (fd : FuncData), FnOk P w K mg base CX0 k f fd ps sp ∧ Meth K C m f ∧ Binds K fd ps []
end
section
variable {X : Cx} {x m : Str} {p pos apos : Pos} {e o : Expr} {es : List Expr} {ta : TE} {t : TA} {j k : Nat} {ps : List Str} {sp : Sp} {C : Addr}
theorem pe_df (D : Df X.prog X.w X.K X.mg X.base k x ps sp) (hr : Room j X.A) (hk : k ≤ j) (hg : Gl X x) (ha : PA X (e :: es) t) (hdb : (x == ("__debug__" : Str)) = false := by decide)
    (he : starEach (e :: es) X.env = (false, eval e X.env) :: starEach es X.env := by rfl) (hpl : (backTo pos (starEach es X.env)).any (·.1) = false := by rfl) :
    PE X (.Call (.Name x p) (e :: es) [] pos) (tCall sp [] E0 t) := by
  obtain ⟨f, fd, F, hm, hkp, hb⟩ := D
  exact pe_call F (hr.mono hk) hg hm hkp hb .nil pass0 ha hdb he hpl
theorem pe_mf {pl : Sem Bool} (he : PE X o ta) (c : Cls X.K C) (D : Mf X.prog X.w X.K X.mg X.base C k m ps sp) (hr : Room j X.A) (hk : k ≤ j) (ha : PA X (e :: es) t)
    (hst : starEach (e :: es) X.env = (false, eval e X.env) :: starEach es X.env := by rfl) (hpl : (backTo pos (starEach es X.env)).any (·.1) = false := by rfl)
    (ht : eval (.Call (.Attribute o m apos) (e :: es) [] pos) X.env = (do
      let ov ← eval o X.env
      standAt apos.atName
      let (f, first) ← holding [ov] (getMethod ov m pl)
      callWith pos f first (backTo pos (starEach (e :: es) X.env)) (backToKw pos (keywordEach [] X.env))) := by rfl) :
    PE X (.Call (.Attribute o m apos) (e :: es) [] pos) (tMeth C m sp [] E0 ta t) := by
  obtain ⟨f, fd, F, hm, hb⟩ := D
  exact pe_meth he c hm F (hr.mono hk) hb .nil pass0 ha hst hpl ht
theorem pe_mf0 {pl : Sem Bool} (he : PE X o ta) (c : Cls X.K C) (D : Mf X.prog X.w X.K X.mg X.base C k m ps sp) (hr : Room j X.A) (hk : k ≤ j)
    (ht : eval (.Call (.Attribute o m apos) [] [] pos) X.env = (do
      let ov ← eval o X.env
      standAt apos.atName
      let (f, first) ← holding [ov] (getMethod ov m pl)
      callWith pos f first (backTo pos (starEach [] X.env)) (backToKw pos (keywordEach [] X.env))) := by rfl) :
    PE X (.Call (.Attribute o m apos) [] [] pos) (tMeth C m sp [] E0 ta tNil) := by
  obtain ⟨f, fd, F, hm, hb⟩ := D
  exact pe_meth0 he c hm F (hr.mono hk) hb .nil pass0 ht
/-- a module's number -/
def GI (mg : Str → Option Value) (x : Str) (i : Int) : Prop := ∃ t, mg x = some (.int i t)
theorem pe_gi {i : Int} (h : GI X.mg x i) (hg : Gl X x) (hd : (x == ("__debug__" : Str)) = false := by decide) : PE X (.Name x pos) (tC (.int i)) := by
  obtain ⟨t, h⟩ := h
  exact pe_glob hg h ⟨t, rfl⟩ hd
/-- a module's tuple -/
def GT (K : PySem.W.Frag) (mg : Str → Option Value) (x : Str) (xs : List V) : Prop := ∃ a, mg x = some (.ref a) ∧ ∀ H, SqT K H a xs
def tGT (K : PySem.W.Frag) (xs : List V) : TE := fun _ H Q => ∀ a, SqT K H a xs → Q (.ref a) H
theorem pe_gt {xs : List V} (h : GT X.K X.mg x xs) (hg : Gl X x) (hd : (x == ("__debug__" : Str)) = false := by decide) : PE X (.Name x pos) (tGT X.K xs) := by
  obtain ⟨a, h, hs⟩ := h
  refine ⟨fun pins s σ H Q I q => ?_⟩
  exact (pe_glob (v := V.ref a) hg h rfl hd).run pins s σ H Q I (q a (hs H))
end
structure Txt (K : PySem.W.Frag) (mg : Str → Option Value) (C : Addr) : Prop where
  cl : Cls K C
  n1 : NoAttr K C "settings"
  n2 : NoAttr K C "shots"
  n3 : NoAttr K C "ages"
  gC : mg "Press" = some (.ref C)
  gN : GT K mg "NOTHING" [.int 0, .int 1]
  gW : GT K mg "WHOLE" [.int 1, .int 1]
  gM : GT K mg "MANY_NUMBERS" (manyT.map V.int)
  cParts : GI mg "MOST_PARTS" 20
  cKept : GI mg "MOST_KEPT_OF" 20
  cShots : GI mg "MOST_SHOTS" 12
  cDen : GI mg "MOST_DENOMINATOR" 1000
  cNoIn : GI mg "NO_INSTANCE" (-11)
  cOut : GI mg "OUT_OF_RANGE" (-22)
  cNoShot : GI mg "NO_SHOT" (-6)
  cFull : GI mg "FULL" (-28)
  cNoVal : GI mg "NO_VALUE" (-33)
  cCreate : GI mg "CREATE" 0
  bAbs : mg "abs" = none
  bRange : mg "range" = none
  bLen : mg "len" = none
  bEnum : mg "enumerate" = none
  bList : mg "list" = none

/-! ### the object -/
def prF (v : V) (n : Int) (l : Addr) : List (Str × V) := [("settings", v), ("shots", .int n), ("ages", .ref l)]
def PrAt (C : Addr) (H : Hp) (x : Addr) (v : V) (n : Int) (l : Addr) : Prop := ∃ dx, H x = some (.ins C dx (prF v n l))
theorem lk_here {k : Str} {v : V} {r : List (Str × V)} : List.lookup k ((k, v) :: r) = some v := by
  have e : (k == k) = true := beq_self_eq_true k
  simp only [List.lookup, e]
theorem lk_past {k g : Str} {v : V} {r : List (Str × V)} (h : (k == g) = false) : List.lookup k ((g, v) :: r) = List.lookup k r := by
  simp only [List.lookup, h]
theorem put_here {f : Str} {v x : V} {r : List (Str × V)} : putF f v ((f, x) :: r) = (f, v) :: r := if_pos rfl
theorem put_past {f g : Str} {v x : V} {r : List (Str × V)} (h : ¬ g = f) : putF f v ((g, x) :: r) = (g, x) :: putF f v r := if_neg h
section
variable {v w : V} {n m : Int} {l l' : Addr}
theorem prF_s : (prF v n l).lookup ("settings" : Str) = some v := lk_here
theorem prF_n : (prF v n l).lookup ("shots" : Str) = some (.int n) := (lk_past (by decide +kernel)).trans lk_here
theorem prF_a : (prF v n l).lookup ("ages" : Str) = some (.ref l) := (lk_past (by decide +kernel)).trans ((lk_past (by decide +kernel)).trans lk_here)
def NoF (f : Str) : Prop := (f == ("settings" : Str)) = false ∧ (f == ("shots" : Str)) = false ∧ (f == ("ages" : Str)) = false
instance (f : Str) : Decidable (NoF f) := inferInstanceAs (Decidable (_ ∧ _ ∧ _))
theorem prF_no {f : Str} (h : NoF f) : (prF v n l).lookup f = none := (lk_past h.1).trans ((lk_past h.2.1).trans ((lk_past h.2.2).trans rfl))
theorem prF_ps : putF "settings" w (prF v n l) = prF w n l := put_here
theorem prF_pn : putF "shots" (.int m) (prF v n l) = prF v m l := (put_past (by decide +kernel)).trans (congrArg _ put_here)
theorem prF_pa : putF "ages" (.ref l') (prF v n l) = prF v n l' := (put_past (by decide +kernel)).trans (congrArg _ ((put_past (by decide +kernel)).trans (congrArg _ put_here)))
theorem prF_new : putF "ages" (.ref l) (putF "shots" (.int m) (putF "settings" v [])) = prF v m l := by
  have e1 : putF "settings" v [] = ([("settings", v)] : List (Str × V)) := rfl
  have e2 : putF "shots" (.int m) ([("settings", v)] : List (Str × V)) = ([("settings", v), ("shots", .int m)] : List (Str × V)) := (put_past (by decide +kernel)).trans rfl
  rw [e1, e2]
  exact (put_past (by decide +kernel)).trans (congrArg _ ((put_past (by decide +kernel)).trans rfl))
end
theorem PrAt.mono {C : Addr} {H H' : Hp} {x : Addr} {v : V} {n : Int} {l : Addr} (e : Same H H') (h : PrAt C H x v n l) : PrAt C H' x v n l := by
  obtain ⟨dx, h⟩ := h
  exact ⟨dx, e _ _ h⟩
theorem PrAt.put {C : Addr} {H : Hp} {x dx : Addr} {fs : List (Str × V)} {v : V} {n : Int} {l : Addr} (e : fs = prF v n l) : PrAt C (upd H x (.ins C dx fs)) x v n l := by
  subst e
  exact ⟨dx, upd_same⟩
theorem Kept.upd {H : Hp} {x : Addr} {o : HO} : Kept H (upd H x o) x := fun b o e n => by
  rw [upd_ne n]
  exact e
theorem Kept.seqP {K : PySem.W.Frag} {C : Addr} {H H' : Hp} {x a : Addr} {v : V} {n : Int} {l : Addr} {xs : List V} (k : Kept H H' x) (hx : PrAt C H x v n l) (h : SqL K H a xs) : SqL K H' a xs := by
  obtain ⟨dx, hx⟩ := hx
  exact k.seq hx h
theorem Kept.tupP {K : PySem.W.Frag} {C : Addr} {H H' : Hp} {x a : Addr} {v : V} {n : Int} {l : Addr} {xs : List V} (k : Kept H H' x) (hx : PrAt C H x v n l) (h : SqT K H a xs) : SqT K H' a xs := by
  obtain ⟨dx, hx⟩ := hx
  exact k.tup hx h
theorem Kept.fsP {K : PySem.W.Frag} {C : Addr} {H H' : Hp} {x : Addr} {v : V} {n : Int} {l : Addr} {xs : List V} {fs : List Fraction} (k : Kept H H' x) (hx : PrAt C H x v n l) (h : Fs K H xs fs) : Fs K H' xs fs := by
  obtain ⟨dx, hx⟩ := hx
  exact h.kept k hx
theorem Kept.lstP {C : Addr} {H H' : Hp} {x a : Addr} {v : V} {n : Int} {l : Addr} {xs : List V} (k : Kept H H' x) (hx : PrAt C H x v n l) (h : H a = some (.lst xs)) : H' a = some (.lst xs) := by
  obtain ⟨dx, hx⟩ := hx
  exact k _ _ h (ne_of h hx (fun z => nomatch z))
theorem Kept.freeP {C : Addr} {H H' : Hp} {x a : Addr} {v : V} {n : Int} {l : Addr} (k : Kept H H' x) (hx : PrAt C H' x v n l) (h : H' a = none) : H a = none := by
  obtain ⟨dx, hx⟩ := hx
  exact k.free (x := x) (C := C) (dx := dx) (fs := []) hx h
/-- the object at x holds the state; its list of ages at l -/
def PsAt (K : PySem.W.Frag) (C : Addr) (H : Hp) (x l : Addr) : Sr119.State → Prop
  | none => PrAt C H x .non 0 l ∧ H l = some (.lst [])
  | some p => Wf p ∧ ∃ s xs, PrAt C H x (.ref s) ((p.shots : Nat) : Int) l ∧ SqT K H s (setV p) ∧ H l = some (.lst xs) ∧ Fs K H xs p.ages
theorem PsAt.mono {K : PySem.W.Frag} {C : Addr} {H H' : Hp} {x l : Addr} (e : Same H H') : ∀ {st : Sr119.State}, PsAt K C H x l st → PsAt K C H' x l st
  | none, ⟨h1, h2⟩ => ⟨h1.mono e, e _ _ h2⟩
  | some _, ⟨w, s, xs, h1, h2, h3, h4⟩ => ⟨w, s, xs, h1.mono e, tupE e h2, e _ _ h3, h4.mono e⟩
theorem PsAt.pr {K : PySem.W.Frag} {C : Addr} {H : Hp} {x l : Addr} : ∀ {st : Sr119.State}, PsAt K C H x l st → ∃ v n, PrAt C H x v n l ∧ (v = .non ↔ st = none)
  | none, ⟨h1, _⟩ => ⟨_, _, h1, ⟨fun _ => rfl, fun _ => rfl⟩⟩
  | some _, ⟨_, _, _, h1, _⟩ => ⟨_, _, h1, ⟨(fun z => nomatch z), (fun z => nomatch z)⟩⟩
theorem PsAt.at_l {K : PySem.W.Frag} {C : Addr} {H : Hp} {x l : Addr} : ∀ {st : Sr119.State}, PsAt K C H x l st → ∃ xs, H l = some (.lst xs)
  | none, ⟨_, h⟩ => ⟨_, h⟩
  | some _, ⟨_, _, xs, _, _, h, _⟩ => ⟨xs, h⟩
/-- another list changes -/
theorem PsAt.lset {K : PySem.W.Frag} {C : Addr} {H : Hp} {x l D : Addr} {ys zs : List V} (hD : H D = some (.lst ys)) (n : l ≠ D) : ∀ {st : Sr119.State}, PsAt K C H x l st → PsAt K C (upd H D (.lst zs)) x l st
  | none, ⟨⟨dx, h1⟩, h2⟩ => ⟨⟨dx, by rw [upd_ne (ne_of h1 hD (fun z => nomatch z))]; exact h1⟩, by rw [upd_ne n]; exact h2⟩
  | some _, ⟨w, s, xs, ⟨dx, h1⟩, h2, h3, h4⟩ => ⟨w, s, xs, ⟨dx, by rw [upd_ne (ne_of h1 hD (fun z => nomatch z))]; exact h1⟩, tupL hD h2, by rw [upd_ne n]; exact h3, h4.lset hD⟩
/-- a call that may change the object: the answer, a new list; the object's new state -/
def RetS (K : PySem.W.Frag) (C x l : Addr) (o : Sr119.State × List Int) (H : Hp) (Q : VK) : Prop :=
  ∀ a l' H', H a = none → H' a = some (.lst (o.2.map V.int)) → PsAt K C H' x l' o.1 → (l' = l ∨ H l' = none) → Kept H H' x → Q (.ref a) H'
def RetO (K : PySem.W.Frag) (C x l : Addr) (st : Sr119.State) (call : Sr119.Call) (H : Hp) (Q : VK) : Prop := RetS K C x l ((Sr119.step st call).1, ansOf (Sr119.step st call)) H Q
section
variable {K : PySem.W.Frag} {C x l : Addr} {o : Sr119.State × List Int} {H H' : Hp} {Q : VK}
theorem RetS.at (k : RetS K C x l o H Q) (e : Same H H') : RetS K C x l o H' Q := fun a l' H2 ha h p c kp => k a l' H2 (e.free ha) h p (c.imp id fun z => e.free z) ((Kept.of e x).trans kp)
/-- nothing has changed; the answer is new -/
theorem RetS.same {st : Sr119.State} {ns : List Int} (k : RetS K C x l (st, ns) H Q) (hp : PsAt K C H x l st) {p : Addr} (hn : H p = none) : Q (.ref p) (upd H p (.lst (ns.map V.int))) :=
  k p l _ hn upd_same (hp.mono (sNew hn)) (.inl rfl) (Kept.of (sNew hn) x)
theorem RetS.query {st : Sr119.State} {ns : List Int} (k : RetS K C x l (st, ns) H Q) (hp : PsAt K C H x l st) : RetL ns H Q := fun p H2 hn e h => k p l H2 hn h (hp.mono e) (.inl rfl) (Kept.of e x)
end

/-! ### readings in short, from the left -/
section
variable {K : PySem.W.Frag} {σ : L2.St} {H : Hp} {Q : VK} {v x y : V} {ta tb : TE} {a : Addr} {xs : List V} {i j : Int}
theorem rd_var {n : Nat} (h : σ[n]? = some (some v)) (q : Q v H) : tVar n σ H Q := ⟨v, h, q⟩
theorem rd_ix {n : Nat} (h : SqT K H a xs) (e : xs[n]? = some v) (q : Q v H) : rIxT K (.ref a) (.int (n : Nat)) H Q := ⟨a, xs, _, v, rfl, rfl, h, atI_nat e, q⟩
theorem rd_ix0 {r : List V} (h : SqT K H a (v :: r)) (q : Q v H) : rIxT K (.ref a) (.int 0) H Q := rd_ix (n := 0) h rfl q
theorem rd_ix1 {r : List V} {u : V} (h : SqT K H a (u :: v :: r)) (q : Q v H) : rIxT K (.ref a) (.int 1) H Q := rd_ix (n := 1) h rfl q
theorem rd_ix2 {r : List V} {u w : V} (h : SqT K H a (u :: w :: v :: r)) (q : Q v H) : rIxT K (.ref a) (.int 2) H Q := rd_ix (n := 2) h rfl q
theorem rd_ix3 {r : List V} {u w z : V} (h : SqT K H a (u :: w :: z :: v :: r)) (q : Q v H) : rIxT K (.ref a) (.int 3) H Q := rd_ix (n := 3) h rfl q
theorem rd_il {n : Nat} (h : SqL K H a xs) (e : xs[n]? = some v) (q : Q v H) : rIxL K (.ref a) (.int (n : Nat)) H Q := ⟨a, xs, _, v, rfl, rfl, h, atI_nat e, q⟩
theorem rd_il0 {r : List V} (h : SqL K H a (v :: r)) (q : Q v H) : rIxL K (.ref a) (.int 0) H Q := rd_il (n := 0) h rfl q
theorem rd_il1 {r : List V} {u : V} (h : SqL K H a (u :: v :: r)) (q : Q v H) : rIxL K (.ref a) (.int 1) H Q := rd_il (n := 1) h rfl q
theorem rd_il2 {r : List V} {u w : V} (h : SqL K H a (u :: w :: v :: r)) (q : Q v H) : rIxL K (.ref a) (.int 2) H Q := rd_il (n := 2) h rfl q
theorem rd_il3 {r : List V} {u w z : V} (h : SqL K H a (u :: w :: z :: v :: r)) (q : Q v H) : rIxL K (.ref a) (.int 3) H Q := rd_il (n := 3) h rfl q
theorem rd_i0 {g : Int → Int → V} (q : Q (g i j) H) : rI0 g (.int i) (.int j) H Q := ⟨i, j, rfl, rfl, q⟩
theorem rd_mul {n m : Nat} (ha : i.natAbs < 2 ^ n) (hb : j.natAbs < 2 ^ m) (h0 : 0 < n) (h1 : 0 < m) (h : n + m ≤ 1000000) (q : Q (.int (i * j)) H) : rI CMulW (fun i j => .int (i * j)) (.int i) (.int j) H Q := ⟨i, j, rfl, rfl, wide_mul ha hb h0 h1 h, q⟩
theorem rd_eqI (q : Q (.bl (decide (i = j))) H) : rEq (.int i) (.int j) H Q := ⟨rfl, by
  rw [show decide ((V.int i) = V.int j) = decide (i = j) from decide_eq_decide.mpr ⟨fun h => V.int.inj h, fun h => by rw [h]⟩]
  exact q⟩
theorem rd_neI (q : Q (.bl (!decide (i = j))) H) : rNe (.int i) (.int j) H Q := ⟨rfl, by
  rw [show decide ((V.int i) = V.int j) = decide (i = j) from decide_eq_decide.mpr ⟨fun h => V.int.inj h, fun h => by rw [h]⟩]
  exact q⟩
theorem rd_op {r : R2} (h : ta σ H fun x H1 => tb σ H1 fun y H2 => r x y H2 Q) : tOp r ta tb σ H Q := h
theorem rd_cons {tr : TA} {Q : List V → Hp → Prop} (h : ta σ H fun x H1 => tr σ H1 fun xs H2 => Q (x :: xs) H2) : tCons ta tr σ H Q := h
theorem rd_nil {Q : List V → Hp → Prop} (h : Q [] H) : tNil σ H Q := h
theorem rd_c (h : Q v H) : tC v σ H Q := h
theorem rd_call {sp : Sp} {E : XK} {t : TA} (h : t σ H fun vs H1 => sp (vs ++ []) H1 Q E) : tCall sp [] E t σ H Q := h
theorem rd_ret {D : Ends} (h : ta σ H D.rt) : tRet ta D σ H := h
theorem rd_seq {D : Ends} {t u : TS} (h : t { D with nx := u D } σ H) : tSeq t u D σ H := h
theorem rd_next {D : Ends} (h : D.nx σ H) : tNext D σ H := h
theorem rd_asg {D : Ends} {g : TG} (h : ta σ H fun x H1 => g x σ H1 D.nx) : tAsg ta g D σ H := h
theorem rd_name {n : Nat} {Q : L2.St → Hp → Prop} (h : Q (σ.set n (some v)) H) : gName n v σ H Q := h
theorem rd_drop {D : Ends} (h : ta σ H fun _ H1 => D.nx σ H1) : tDrop ta D σ H := h
theorem rd_ifs {D : Ends} {c : TT} {t u : TS} (h : c σ H fun b H1 => if b = true then t D σ H1 else u D σ H1) : tIfS c t u D σ H := h
theorem rd_if {c : TT} (h : c σ H fun b H1 => if b = true then ta σ H1 Q else tb σ H1 Q) : tIf c ta tb σ H Q := h
theorem rd_test {Q : Bool → Hp → Prop} (h : ta σ H fun x H' => ∃ k, x = .bl k ∧ Q k H') : tTest ta σ H Q := h
theorem rd_tb {Q : Bool → Hp → Prop} (h : ta σ H fun x H' => ∃ k, x = .bl k ∧ Q k H') : tB ta σ H Q := h
theorem rd_not {c : TT} {Q : Bool → Hp → Prop} (h : c σ H fun b H1 => Q (!b) H1) : tNot c σ H Q := h
theorem rd_chain {r r' : R2} {tc : TE} (h : ta σ H fun x H1 => tb σ H1 fun y H2 => r x y H2 fun z H3 => ∃ k, z = .bl k ∧ (if k = true then tc σ H3 fun w' H4 => r' y w' H4 Q else Q (.bl false) H3)) : tChain r r' ta tb tc σ H Q := h
theorem rd_bl {b : Bool} {A : Bool → Prop} (h : A b) : ∃ k, V.bl b = .bl k ∧ A k := ⟨b, rfl, h⟩
theorem rd_tup {t : TA} (h : t σ H fun xs H1 => xs.length ≤ sizeLine ∧ ∀ p, H1 p = none → Q (.ref p) (upd H1 p (.tup xs))) : tTup t σ H Q := h
theorem rd_lst {t : TA} (h : t σ H fun xs H1 => xs.length ≤ sizeLine ∧ ∀ p, H1 p = none → Q (.ref p) (upd H1 p (.lst xs))) : tLst t σ H Q := h
theorem rd_gt {ys : List V} (h : ∀ a, SqT K H a ys → Q (.ref a) H) : tGT K ys σ H Q := h
theorem rd_cb {r : List V → Hp → VK → Prop} {t : TA} (h : t σ H fun vs H1 => r vs H1 Q) : tCB r t σ H Q := h
theorem rd_andV (h : ta σ H fun x H1 => ∃ c, x = .bl c ∧ if c = true then tb σ H1 Q else Q (.bl false) H1) : tAndV ta tb σ H Q := h
theorem rd_and {t u : TT} {Q : Bool → Hp → Prop} (h : t σ H fun c H1 => if c = true then u σ H1 Q else Q false H1) : tAnd t u σ H Q := h
theorem rd_or {t u : TT} {Q : Bool → Hp → Prop} (h : t σ H fun c H1 => if c = true then Q true H1 else u σ H1 Q) : tOr t u σ H Q := h
theorem rd_isN (h : ta σ H fun x H1 => Q (.bl (decide (x = .non))) H1) : tIsN ta σ H Q := h
theorem rd_notN (h : ta σ H fun x H1 => Q (.bl (!decide (x = .non))) H1) : tNotN ta σ H Q := h
theorem rd_sl {r : V → Option Int → Option Int → Hp → VK → Prop} {tl th : TO} (h : ta σ H fun x H1 => tl σ H1 fun l H2 => th σ H2 fun u H3 => r x l u H3 Q) : tSl r ta tl th σ H Q := h
theorem rd_part {Q : Option Int → Hp → Prop} (h : ta σ H fun x H1 => ∃ i, x = .int i ∧ Q (some i) H1) : tPart ta σ H Q := h
theorem rd_parti {i : Int} {A : Int → Prop} (h : A i) : ∃ j, V.int i = .int j ∧ A j := ⟨i, rfl, h⟩
theorem rd_nopart {Q : Option Int → Hp → Prop} (h : Q none H) : tNoPart σ H Q := h
theorem rd_yes {A B : Hp → Prop} (h : A H) : tYes σ H (fun b H1 => if b = true then A H1 else B H1) := by
  show (if true = true then A H else B H)
  rw [if_pos rfl]
  exact h
theorem rd_tt {A B : Prop} (h : A) : if true = true then A else B := iteT h
theorem rd_ff {A B : Prop} (h : B) : if false = true then A else B := iteF h
theorem rd_tup4 {s : Addr} {w1 w2 w3 w4 : V} {n1 n2 n3 n4 : Nat} {Q : L2.St → Hp → Prop} (h : SqT K H s [w1, w2, w3, w4]) (q : Q ((((σ.set n1 (some w1)).set n2 (some w2)).set n3 (some w3)).set n4 (some w4)) H) :
    gTup K 4 (gCons (gName n1) (gCons (gName n2) (gCons (gName n3) (gCons (gName n4) gNil)))) (.ref s) σ H Q := ⟨s, _, rfl, h, rfl, _, _, rfl, _, _, rfl, _, _, rfl, _, _, rfl, rfl, q⟩
theorem rd_sfld {D : Ends} {f : Str} (h : tb σ H fun y H1 => ta σ H1 fun x H2 => ∃ a C dx fs, x = .ref a ∧ H2 a = some (.ins C dx fs) ∧ Cls K C ∧ NoAttr K C f ∧ fs.length < 1000 ∧ D.nx σ (upd H2 a (.ins C dx (putF f y fs)))) : sFld K ta tb f D σ H := h
section
variable {mg : Str → Option Value} {C z : Addr} {v : V} {n : Int} {l : Addr}
theorem rd_fs {i : Nat} (h1 : σ[i]? = some (some (.ref z))) (T : Txt K mg C) (h : PrAt C H z v n l) (q : Q v H) : tFld K (tVar i) "settings" σ H Q := by
  obtain ⟨dx, h⟩ := h
  exact ⟨_, h1, z, C, dx, _, _, rfl, h, T.cl, T.n1, prF_s, q⟩
theorem rd_fn {i : Nat} (h1 : σ[i]? = some (some (.ref z))) (T : Txt K mg C) (h : PrAt C H z v n l) (q : Q (.int n) H) : tFld K (tVar i) "shots" σ H Q := by
  obtain ⟨dx, h⟩ := h
  exact ⟨_, h1, z, C, dx, _, _, rfl, h, T.cl, T.n2, prF_n, q⟩
theorem rd_fa {i : Nat} (h1 : σ[i]? = some (some (.ref z))) (T : Txt K mg C) (h : PrAt C H z v n l) (q : Q (.ref l) H) : tFld K (tVar i) "ages" σ H Q := by
  obtain ⟨dx, h⟩ := h
  exact ⟨_, h1, z, C, dx, _, _, rfl, h, T.cl, T.n3, prF_a, q⟩
theorem rd_meth {i : Nat} {m : Str} {sp : Sp} {E : XK} {t : TA} (h1 : σ[i]? = some (some (.ref z))) (h : PrAt C H z v n l) (hm : NoF m) (q : t σ H fun vs H2 => sp (.ref z :: (vs ++ [])) H2 Q E) : tMeth C m sp [] E (tVar i) t σ H Q := by
  obtain ⟨dx, h⟩ := h
  exact ⟨_, h1, z, dx, _, rfl, h, prF_no hm, q⟩
end
theorem rd_cat {ns a b : List Int} {H0 : Hp} {q q2 : Addr} (k : RetL ns H0 Q) (e : Same H0 H) (h1 : H q = some (.lst (a.map V.int))) (h2 : H q2 = some (.lst (b.map V.int))) (en : ns = a ++ b) (hs : a.length + b.length ≤ 1000) : rCat (.ref q) (.ref q2) H Q := by
  subst en
  refine ⟨q, q2, _, _, rfl, rfl, h1, h2, small20 (by rw [List.length_map, List.length_map]; exact hs), fun p hp => ?_⟩
  rw [← List.map_append]
  exact k p _ (e.free hp) (e.trans (sNew hp)) upd_same
theorem if_t {b : Bool} {A B : Prop} (h : b = true) (a : A) : if b = true then A else B := by
  rw [if_pos h]
  exact a
theorem if_f {b : Bool} {A B : Prop} (h : b = false) (a : B) : if b = true then A else B := by
  rw [h]
  exact iteF a
/-- how many numbers are left, by the fourth slot -/
def slot3 (n : Nat) : L2.St → Hp → Nat := fun σ _ => match σ with
  | [_, _, _, some (.int z), _] => ((n : Int) - z).toNat
  | _ => 0
theorem rd_bm {T : String} {r : V → List V → Hp → VK → Prop} {t : TA} {i : Nat} {l : Addr} (h : σ[i]? = some (some (.ref l))) (ty : tyV K T (.ref l) H) (q : t σ H fun ys H2 => r (.ref l) ys H2 Q) : tBM K T r (tVar i) t σ H Q := ⟨_, h, ty, q⟩
theorem rd_par {D : Ends} {n m : Nat} {t : TA} (h : t σ H fun vs H1 => ∃ v w, vs = [v, w] ∧ D.nx ((σ.set n (some v)).set m (some w)) H1) : tPar n m t D σ H := h
/-- the second slot's number -/
def slot1 : L2.St → Hp → Nat := fun σ _ => match σ with
  | [_, some (.int z)] => z.toNat
  | _ => 0
theorem rd_eqB {b : Bool} {A B : Bool → Prop} (h1 : b = true → A b) (h2 : b = false → B b) : if b = true then A b else B b := by
  cases b with
  | true => exact h1 rfl
  | false => exact h2 rfl
theorem rd_cases {b : Bool} {A B : Prop} (h1 : b = true → A) (h2 : b = false → B) : if b = true then A else B := by
  cases b with
  | true => exact h1 rfl
  | false => exact h2 rfl
end
end Rg
namespace Rg
open PySem PySem.Spec PyProof.Rows L2
open SrFraction (Fraction)
open Sr119 (Process)
def sp_common_divisor (K : PySem.W.Frag) (C : Addr) : Sp := fun vs H Q _ => ∃ (a b : Nat), vs = [.int (a : Int), .int (b : Int)] ∧ Q (.int ((Nat.gcd a b : Nat) : Int)) H
def sp_reduced (K : PySem.W.Frag) (C : Addr) : Sp := fun vs H Q _ => ∃ (x : Int) (d n : Nat), vs = [.int x, .int (d : Int)] ∧ 0 < d ∧ x.natAbs < 2 ^ n ∧ d < 2 ^ n ∧ 0 < n ∧ n ≤ 4000 ∧ RetF K (SrFraction.mk x d) H Q
def sp_plus (K : PySem.W.Frag) (C : Addr) : Sp := fun vs H Q _ => ∃ (v1 v2 : V) (f1 f2 : Fraction) (n m : Nat), vs = [v1, v2] ∧ FrAt K H v1 f1 ∧ FrAt K H v2 f2 ∧ Fr n f1 ∧ Fr m f2 ∧ n + m ≤ 3900 ∧ RetF K (SrFraction.add f1 f2) H Q
def sp_minus (K : PySem.W.Frag) (C : Addr) : Sp := fun vs H Q _ => ∃ (v1 v2 : V) (f1 f2 : Fraction) (n m : Nat), vs = [v1, v2] ∧ FrAt K H v1 f1 ∧ FrAt K H v2 f2 ∧ Fr n f1 ∧ Fr m f2 ∧ n + m ≤ 3900 ∧ RetF K (SrFraction.sub f1 f2) H Q
def sp_times (K : PySem.W.Frag) (C : Addr) : Sp := fun vs H Q _ => ∃ (v1 v2 : V) (f1 f2 : Fraction) (n m : Nat), vs = [v1, v2] ∧ FrAt K H v1 f1 ∧ FrAt K H v2 f2 ∧ Fr n f1 ∧ Fr m f2 ∧ n + m ≤ 3900 ∧ RetF K (SrFraction.mul f1 f2) H Q
def sp_is_less (K : PySem.W.Frag) (C : Addr) : Sp := fun vs H Q _ => ∃ (v1 v2 : V) (f1 f2 : Fraction) (n m : Nat), vs = [v1, v2] ∧ FrAt K H v1 f1 ∧ FrAt K H v2 f2 ∧ Fr n f1 ∧ Fr m f2 ∧ n + m ≤ 3900 ∧ Q (.bl (SrFraction.lt f1 f2)) H
def sp_total (K : PySem.W.Frag) (C : Addr) : Sp := fun vs H Q _ => ∃ (v : V) (fs : List Fraction) (A : Nat), vs = [v] ∧ FsAt K H v fs ∧ (∀ f ∈ fs, Fr A f) ∧ fs.length ≤ 20 ∧ A ≤ 90 ∧ RetF K (SrFraction.sum fs) H Q
def sp_told (K : PySem.W.Frag) (C : Addr) : Sp := fun vs H Q _ => ∃ (v : V) (f1 : Fraction), vs = [v] ∧ FrAt K H v f1 ∧ RetL [f1.num, ((f1.den : Nat) : Int)] H Q
def sp_next_ages (K : PySem.W.Frag) (C : Addr) : Sp := fun vs H Q _ => ∃ (v1 v2 : V) (fs : List Fraction) (r : Fraction) (A : Nat), vs = [v1, v2] ∧ FsAt K H v1 fs ∧ FrAt K H v2 r ∧ Fr 5 r ∧ (∀ f ∈ fs, Fr A f) ∧ fs.length ≤ 20 ∧ A ≤ 90 ∧ RetFs K (nextOf fs r) H Q
def sp_ages_after (K : PySem.W.Frag) (C : Addr) : Sp := fun vs H Q _ => ∃ (v : V) (r : Fraction) (n : Nat), vs = [v, .int (n : Int)] ∧ FrAt K H v r ∧ Fr 5 r ∧ n ≤ 12 ∧ RetFs K (agesAfter r n) H Q
def sp_strength_of (K : PySem.W.Frag) (C : Addr) : Sp := fun vs H Q _ => ∃ (v1 v2 : V) (fs : List Fraction) (t : Fraction) (A : Nat), vs = [v1, v2] ∧ FsAt K H v1 fs ∧ FrAt K H v2 t ∧ Fr 5 t ∧ (∀ f ∈ fs, Fr A f) ∧ fs.length ≤ 20 ∧ A ≤ 90 ∧ RetF K (horner t fs) H Q
def sp_mean_age_of (K : PySem.W.Frag) (C : Addr) : Sp := fun vs H Q _ => ∃ (v : V) (fs : List Fraction) (A : Nat), vs = [v] ∧ FsAt K H v fs ∧ (∀ f ∈ fs, Fr A f) ∧ fs.length ≤ 20 ∧ A ≤ 85 ∧ RetF K (meanOf fs) H Q
def sp_part_of_age (K : PySem.W.Frag) (C : Addr) : Sp := fun vs H Q _ => ∃ (v : V) (fs : List Fraction) (n : Nat), vs = [v, .int (n : Int)] ∧ FsAt K H v fs ∧ fs.length ≤ 20 ∧ RetF K (fs.getD n (SrFraction.ofInt 0)) H Q
def sp_part_older_than (K : PySem.W.Frag) (C : Addr) : Sp := fun vs H Q _ => ∃ (v : V) (fs : List Fraction) (n A : Nat), vs = [v, .int (n : Int)] ∧ FsAt K H v fs ∧ (∀ f ∈ fs, Fr A f) ∧ fs.length ≤ 20 ∧ A ≤ 90 ∧ RetF K (SrFraction.sum (fs.drop (n + 1))) H Q
def sp_is_regrind (K : PySem.W.Frag) (C : Addr) : Sp := fun vs H Q _ => ∃ (r n : Int), vs = [.int r, .int n] ∧ Q (.bl (regOk r n)) H
def sp_is_parts (K : PySem.W.Frag) (C : Addr) : Sp := fun vs H Q _ => ∃ (b : Int), vs = [.int b] ∧ Q (.bl (partsOk b)) H
def sp_is_retention (K : PySem.W.Frag) (C : Addr) : Sp := fun vs H Q _ => ∃ (c d : Int), vs = [.int c, .int d] ∧ Q (.bl (retOk c d)) H
def sp_are_settings (K : PySem.W.Frag) (C : Addr) : Sp := fun vs H Q _ => ∃ (s : Addr) (a b c d : Int), vs = [.ref s] ∧ SqT K H s (iv4 a b c d) ∧ Q (.bl (setsOk a b c d)) H
def sp_with_regrind (K : PySem.W.Frag) (C : Addr) : Sp := fun vs H Q _ => ∃ (s : Addr) (a b c d r : Int), vs = [.ref s, .int r] ∧ SqT K H s (iv4 a b c d) ∧ RetT (iv4 r b c d) H Q
def sp_with_retention (K : PySem.W.Frag) (C : Addr) : Sp := fun vs H Q _ => ∃ (s : Addr) (a b c d c2 d2 : Int), vs = [.ref s, .int c2, .int d2] ∧ SqT K H s (iv4 a b c d) ∧ RetT (iv4 a b c2 d2) H Q
def sp_regrind_ratio (K : PySem.W.Frag) (C : Addr) : Sp := fun vs H Q _ => ∃ (s : Addr) (p : Process), vs = [.ref s] ∧ SqT K H s (setV p) ∧ SetOk p ∧ RetF K (Sr119.regrindRatio p) H Q
def sp_retention_of (K : PySem.W.Frag) (C : Addr) : Sp := fun vs H Q _ => ∃ (s : Addr) (p : Process), vs = [.ref s] ∧ SqT K H s (setV p) ∧ SetOk p ∧ RetF K (Sr119.retention p) H Q
def sp_strength_limit (K : PySem.W.Frag) (C : Addr) : Sp := fun vs H Q _ => ∃ (s : Addr) (p : Process), vs = [.ref s] ∧ SqT K H s (setV p) ∧ SetOk p ∧ RetF K (limOf p) H Q
def sp_mean_age_limit (K : PySem.W.Frag) (C : Addr) : Sp := fun vs H Q _ => ∃ (s : Addr) (p : Process), vs = [.ref s] ∧ SqT K H s (setV p) ∧ SetOk p ∧ RetF K (mlimOf p) H Q
def sp_is_number_of_shots (K : PySem.W.Frag) (C : Addr) : Sp := fun vs H Q _ => ∃ (n : Int), vs = [.int n] ∧ Q (.bl (countOk n)) H
def sp_is_threshold (K : PySem.W.Frag) (C : Addr) : Sp := fun vs H Q _ => ∃ (a b : Int), vs = [.int a, .int b] ∧ Q (.bl (thrOk a b)) H
def sp_strength_after_shots (K : PySem.W.Frag) (C : Addr) : Sp := fun vs H Q _ => ∃ (s : Addr) (p : Process) (n : Nat), vs = [.ref s, .int (n : Int)] ∧ SqT K H s (setV p) ∧ SetOk p ∧ n ≤ 12 ∧ RetF K (horner (Sr119.retention p) (agesAfter (Sr119.regrindRatio p) n)) H Q
def sp_greatest_regrind (K : PySem.W.Frag) (C : Addr) : Sp := fun vs H Q _ => ∃ (s : Addr) (p : Process) (v : V) (t : Fraction) (n : Nat), vs = [.ref s, v] ∧ SqT K H s (setV p) ∧ SetOk p ∧ FrAt K H v t ∧ Fr n t ∧ n ≤ 40 ∧ RetV (optV (lastUp (strongAt p t) p.parts)) H Q
def sp_first_weak (K : PySem.W.Frag) (C : Addr) : Sp := fun vs H Q _ => ∃ (s : Addr) (p : Process) (v : V) (t : Fraction) (n : Nat), vs = [.ref s, v] ∧ SqT K H s (setV p) ∧ SetOk p ∧ FrAt K H v t ∧ Fr n t ∧ n ≤ 40 ∧ RetV (optV (Sr119.firstWeakShot p t)) H Q
def sp_Press_init (K : PySem.W.Frag) (C : Addr) : Sp := fun vs H Q _ => ∃ (x dx : Addr), vs = [.ref x] ∧ H x = some (.ins C dx []) ∧ ∀ H1 l, PrAt C H1 x .non 0 l → H1 l = some (.lst []) → H l = none → Kept H H1 x → Q .non H1
def sp_Press_is_there (K : PySem.W.Frag) (C : Addr) : Sp := fun vs H Q _ => ∃ (x l : Addr) (v : V) (n : Int), vs = [.ref x] ∧ PrAt C H x v n l ∧ Q (.bl (!decide (v = .non))) H
def sp_Press_has_shot (K : PySem.W.Frag) (C : Addr) : Sp := fun vs H Q _ => ∃ (x l : Addr) (v : V) (n : Int), vs = [.ref x] ∧ PrAt C H x v n l ∧ Q (.bl (decide (0 < n))) H
def sp_Press_take_settings (K : PySem.W.Frag) (C : Addr) : Sp := fun vs H Q _ => ∃ (x l : Addr) (v : V) (n : Int) (u : V), vs = [.ref x, u] ∧ PrAt C H x v n l ∧ ∀ H1, PrAt C H1 x u n l → Kept H H1 x → Q .non H1
def sp_Press_take_shot (K : PySem.W.Frag) (C : Addr) : Sp := fun vs H Q _ => ∃ (x l : Addr) (v : V) (n : Int) (a : Addr) (xs : List V), vs = [.ref x, .ref a] ∧ PrAt C H x v n l ∧ SqL K H a xs ∧ ∀ H1 l1, PrAt C H1 x v (n + 1) l1 → H1 l1 = some (.lst xs) → H l1 = none → Kept H H1 x → Q .non H1
def sp_Press_clear_shots (K : PySem.W.Frag) (C : Addr) : Sp := fun vs H Q _ => ∃ (x l : Addr) (v : V) (n : Int), vs = [.ref x] ∧ PrAt C H x v n l ∧ ∀ H1 l1, PrAt C H1 x v 0 l1 → H1 l1 = some (.lst []) → H l1 = none → Kept H H1 x → Q .non H1
def sp_Press_last_strength (K : PySem.W.Frag) (C : Addr) : Sp := fun vs H Q _ => ∃ (x s l : Addr) (n : Int) (p : Process) (xs : List V) (fs : List Fraction) (A : Nat), vs = [.ref x] ∧ PrAt C H x (.ref s) n l ∧ SqT K H s (setV p) ∧ SetOk p ∧ H l = some (.lst xs) ∧ Fs K H xs fs ∧ (∀ f ∈ fs, Fr A f) ∧ fs.length ≤ 20 ∧ A ≤ 90 ∧ RetF K (horner (Sr119.retention p) fs) H Q
def sp_create (K : PySem.W.Frag) (C : Addr) : Sp := fun vs H Q _ => ∃ (x l bb : Addr) (st : Sr119.State) (a b c d : Int), vs = [.ref x, .ref bb] ∧ PsAt K C H x l st ∧ SqL K H bb (iv4 a b c d) ∧ RetO K C x l st (.create a b c d) H Q
def sp_shot_with (K : PySem.W.Frag) (C : Addr) : Sp := fun vs H Q _ => ∃ (x l a : Addr) (p : Process) (ys : List V) (fs : List Fraction), vs = [.ref x, .ref a] ∧ PsAt K C H x l (some p) ∧ SqL K H a ys ∧ Fs K H ys fs ∧ (∀ f ∈ fs, Fr 72 f) ∧ fs.length ≤ 20 ∧ (p.shots = 12 → RetS K C x l (some p, [-28]) H Q) ∧ (p.shots ≠ 12 → Wf { p with shots := p.shots + 1, ages := fs } ∧ RetS K C x l (some { p with shots := p.shots + 1, ages := fs }, [((p.shots + 1 : Nat) : Int), (horner (Sr119.retention p) fs).num, (((horner (Sr119.retention p) fs).den : Nat) : Int)]) H Q)
def sp_make_shot (K : PySem.W.Frag) (C : Addr) : Sp := fun vs H Q _ => ∃ (x l bb : Addr) (p : Process), vs = [.ref x, .ref bb] ∧ PsAt K C H x l (some p) ∧ RetO K C x l (some p) .makeShot H Q
def sp_make_virgin_shot (K : PySem.W.Frag) (C : Addr) : Sp := fun vs H Q _ => ∃ (x l bb : Addr) (p : Process), vs = [.ref x, .ref bb] ∧ PsAt K C H x l (some p) ∧ RetO K C x l (some p) .makeVirginShot H Q
def sp_set_regrind (K : PySem.W.Frag) (C : Addr) : Sp := fun vs H Q _ => ∃ (x l bb : Addr) (p : Process) (r : Int), vs = [.ref x, .ref bb] ∧ PsAt K C H x l (some p) ∧ SqL K H bb [.int r] ∧ RetO K C x l (some p) (.setRegrind r) H Q
def sp_set_retention (K : PySem.W.Frag) (C : Addr) : Sp := fun vs H Q _ => ∃ (x l bb : Addr) (p : Process) (c d : Int), vs = [.ref x, .ref bb] ∧ PsAt K C H x l (some p) ∧ SqL K H bb [.int c, .int d] ∧ RetO K C x l (some p) (.setRetention c d) H Q
def sp_reset (K : PySem.W.Frag) (C : Addr) : Sp := fun vs H Q _ => ∃ (x l bb : Addr) (p : Process), vs = [.ref x, .ref bb] ∧ PsAt K C H x l (some p) ∧ RetO K C x l (some p) .reset H Q
def sp_age_fraction (K : PySem.W.Frag) (C : Addr) : Sp := fun vs H Q _ => ∃ (x l bb : Addr) (p : Process) (m : Int), vs = [.ref x, .ref bb] ∧ PsAt K C H x l (some p) ∧ SqL K H bb [.int m] ∧ RetL (qAns p (.ageFraction m)) H Q
def sp_older_than (K : PySem.W.Frag) (C : Addr) : Sp := fun vs H Q _ => ∃ (x l bb : Addr) (p : Process) (m : Int), vs = [.ref x, .ref bb] ∧ PsAt K C H x l (some p) ∧ SqL K H bb [.int m] ∧ RetL (qAns p (.olderThan m)) H Q
def sp_age_distribution (K : PySem.W.Frag) (C : Addr) : Sp := fun vs H Q _ => ∃ (x l bb : Addr) (p : Process), vs = [.ref x, .ref bb] ∧ PsAt K C H x l (some p) ∧ RetL (qAns p .ageDistribution) H Q
def sp_strength (K : PySem.W.Frag) (C : Addr) : Sp := fun vs H Q _ => ∃ (x l bb : Addr) (p : Process), vs = [.ref x, .ref bb] ∧ PsAt K C H x l (some p) ∧ RetL (qAns p .strength) H Q
def sp_mean_age (K : PySem.W.Frag) (C : Addr) : Sp := fun vs H Q _ => ∃ (x l bb : Addr) (p : Process), vs = [.ref x, .ref bb] ∧ PsAt K C H x l (some p) ∧ RetL (qAns p .meanAge) H Q
def sp_limits (K : PySem.W.Frag) (C : Addr) : Sp := fun vs H Q _ => ∃ (x l bb : Addr) (p : Process), vs = [.ref x, .ref bb] ∧ PsAt K C H x l (some p) ∧ RetL (qAns p .limits) H Q
def sp_strength_above_limit (K : PySem.W.Frag) (C : Addr) : Sp := fun vs H Q _ => ∃ (x l bb : Addr) (p : Process), vs = [.ref x, .ref bb] ∧ PsAt K C H x l (some p) ∧ RetL (qAns p .strengthAboveLimit) H Q
def sp_strength_after (K : PySem.W.Frag) (C : Addr) : Sp := fun vs H Q _ => ∃ (x l bb : Addr) (p : Process) (m : Int), vs = [.ref x, .ref bb] ∧ PsAt K C H x l (some p) ∧ SqL K H bb [.int m] ∧ RetL (qAns p (.strengthAfter m)) H Q
def sp_max_regrind (K : PySem.W.Frag) (C : Addr) : Sp := fun vs H Q _ => ∃ (x l bb : Addr) (p : Process) (a b : Int), vs = [.ref x, .ref bb] ∧ PsAt K C H x l (some p) ∧ SqL K H bb [.int a, .int b] ∧ a ≤ 2147483647 ∧ RetL (qAns p (.maxRegrind a b)) H Q
def sp_first_weak_shot (K : PySem.W.Frag) (C : Addr) : Sp := fun vs H Q _ => ∃ (x l bb : Addr) (p : Process) (a b : Int), vs = [.ref x, .ref bb] ∧ PsAt K C H x l (some p) ∧ SqL K H bb [.int a, .int b] ∧ a ≤ 2147483647 ∧ RetL (qAns p (.firstWeakShot a b)) H Q
def sp_strength_after_if (K : PySem.W.Frag) (C : Addr) : Sp := fun vs H Q _ => ∃ (x l bb : Addr) (p : Process) (r m : Int), vs = [.ref x, .ref bb] ∧ PsAt K C H x l (some p) ∧ SqL K H bb [.int r, .int m] ∧ RetL (qAns p (.strengthAfterIf r m)) H Q
def sp_describe (K : PySem.W.Frag) (C : Addr) : Sp := fun vs H Q _ => ∃ (x l bb : Addr) (p : Process), vs = [.ref x, .ref bb] ∧ PsAt K C H x l (some p) ∧ RetL (qAns p .describe) H Q
def sp_end_of_call (K : PySem.W.Frag) (C : Addr) : Sp := fun vs H Q _ => ∃ (a : Addr) (ns : List Int) (i n : Nat) (z : Int), vs = [.ref a, .int (i : Int)] ∧ SqL K H a (ns.map V.int) ∧ ns[i]? = some z ∧ 0 ≤ z ∧ manyT[z.toNat]? = some (n : Int) ∧ Q (.int ((i + 1 + n : Nat) : Int)) H
def sp_numbers_of (K : PySem.W.Frag) (C : Addr) : Sp := fun vs H Q _ => ∃ (a : Addr) (ns : List Int) (i n : Nat) (z : Int), vs = [.ref a, .int (i : Int)] ∧ SqL K H a (ns.map V.int) ∧ ns[i]? = some z ∧ 0 ≤ z ∧ manyT[z.toNat]? = some (n : Int) ∧ i + 1 + n ≤ ns.length ∧ RetL ((ns.drop (i + 1)).take n) H Q
def sp_answer_to_change (K : PySem.W.Frag) (C : Addr) : Sp := fun vs H Q _ => ∃ (x l bb : Addr) (st : Sr119.State) (z : Int) (ns : List Int) (call : Sr119.Call), vs = [.ref x, .int z, .ref bb] ∧ PsAt K C H x l st ∧ SqL K H bb (ns.map V.int) ∧ Is z ns call ∧ z < 6 ∧ (z ≠ 0 → ∃ p, st = some p) ∧ RetO K C x l st call H Q
def sp_answer_to_query (K : PySem.W.Frag) (C : Addr) : Sp := fun vs H Q _ => ∃ (x l bb : Addr) (p : Process) (z : Int) (ns : List Int) (call : Sr119.Call), vs = [.ref x, .int z, .ref bb] ∧ PsAt K C H x l (some p) ∧ SqL K H bb (ns.map V.int) ∧ Is z ns call ∧ 6 ≤ z ∧ z < 12 ∧ RetL (qAns p call) H Q
def sp_answer_to_later_query (K : PySem.W.Frag) (C : Addr) : Sp := fun vs H Q _ => ∃ (x l bb : Addr) (p : Process) (z : Int) (ns : List Int) (call : Sr119.Call), vs = [.ref x, .int z, .ref bb] ∧ PsAt K C H x l (some p) ∧ SqL K H bb (ns.map V.int) ∧ Is z ns call ∧ 12 ≤ z ∧ (∀ m ∈ ns, m ≤ 2147483647) ∧ RetL (qAns p call) H Q
def sp_answer_to (K : PySem.W.Frag) (C : Addr) : Sp := fun vs H Q _ => ∃ (x l bb : Addr) (st : Sr119.State) (z : Int) (ns : List Int) (call : Sr119.Call), vs = [.ref x, .int z, .ref bb] ∧ PsAt K C H x l st ∧ SqL K H bb (ns.map V.int) ∧ Is z ns call ∧ (∀ m ∈ ns, m ≤ 2147483647) ∧ RetO K C x l st call H Q
def sp_answers (K : PySem.W.Frag) (C : Addr) : Sp := fun vs H Q _ => ∃ (a : Addr) (ns : List Int), vs = [.ref a] ∧ SqL K H a (ns.map V.int) ∧ (∀ m ∈ ns, m ≤ 2147483647) ∧ PySr119.answers_asked ns = true ∧ ∀ H1 q, H1 q = some (.lst ((PySr119.answers ns).map V.int)) → Q (.ref q) H1
local macro_rules | `(tactic| walk_at "rd1") => `(tactic| first | (with_reducible refine' rd_op ?_) | (with_reducible refine' rd_cons ?_) | (with_reducible refine' rd_nil ?_) | (with_reducible refine' rd_c ?_) | (with_reducible refine' rd_call ?_) | (with_reducible refine' rd_ret ?_) | (with_reducible refine' rd_seq ?_) | (with_reducible refine' rd_next ?_) | (with_reducible refine' rd_asg ?_) | (with_reducible refine' rd_name ?_) | (with_reducible refine' rd_drop ?_) | (with_reducible refine' rd_ifs ?_) | (with_reducible refine' rd_if ?_) | (with_reducible refine' rd_test ?_) | (with_reducible refine' rd_tb ?_) | (with_reducible refine' rd_not ?_) | (with_reducible refine' rd_chain ?_) | (with_reducible refine' rd_bl ?_) | (with_reducible refine' rd_tup ?_) | (with_reducible refine' rd_lst ?_) | (with_reducible refine' rd_gt ?_) | (with_reducible refine' rd_cb ?_) | (with_reducible refine' rd_andV ?_) | (with_reducible refine' rd_and ?_) | (with_reducible refine' rd_or ?_) | (with_reducible refine' rd_isN ?_) | (with_reducible refine' rd_notN ?_) | (with_reducible refine' rd_par ?_) | (with_reducible refine' rd_tt ?_) | (with_reducible refine' rd_ff ?_) | (with_reducible refine' rd_yes ?_) | (with_reducible refine' rd_sl ?_) | (with_reducible refine' rd_part ?_) | (with_reducible refine' rd_parti ?_) | (with_reducible refine' rd_nopart ?_) | ((with_reducible refine' rd_var ?h ?_); (case h => rfl)) | ((with_reducible refine' rd_ix0 ?h ?_); (case h => assumption)) | ((with_reducible refine' rd_ix1 ?h ?_); (case h => assumption)) | ((with_reducible refine' rd_ix2 ?h ?_); (case h => assumption)) | ((with_reducible refine' rd_ix3 ?h ?_); (case h => assumption)) | ((with_reducible refine' rd_il0 ?h ?_); (case h => assumption)) | ((with_reducible refine' rd_il1 ?h ?_); (case h => assumption)) | ((with_reducible refine' rd_il2 ?h ?_); (case h => assumption)) | ((with_reducible refine' rd_il3 ?h ?_); (case h => assumption)) | ((with_reducible refine' rd_fs ?h ?h2 ?h3 ?_); (case h => rfl); (case h2 => assumption); (case h3 => assumption)) | ((with_reducible refine' rd_fn ?h ?h2 ?h3 ?_); (case h => rfl); (case h2 => assumption); (case h3 => assumption)) | ((with_reducible refine' rd_fa ?h ?h2 ?h3 ?_); (case h => rfl); (case h2 => assumption); (case h3 => assumption)) | ((with_reducible refine' rd_meth ?h ?h2 ?h3 ?_); (case h => rfl); (case h2 => assumption); (case h3 => decide +kernel)) | (with_reducible refine' rd_sfld ?_) | (with_reducible refine' rd_i0 ?_) | (with_reducible refine' rd_eqI ?_) | (with_reducible refine' rd_neI ?_))
local macro_rules | `(tactic| walk_at "rds") => `(tactic| repeat walk_at "rd1")
local macro_rules | `(tactic| walk_at "rdz") => `(tactic| repeat first | walk_at "rd1" | ((with_reducible refine' if_t ?h ?_); (case h => decide)) | ((with_reducible refine' if_f ?h ?_); (case h => decide)))
section
variable {P : Program} {w : World} {K : PySem.W.Frag} {mg : Str → Option Value} {base : Heap} {C : Addr}
abbrev s_common_divisor : Stmt := top 3
theorem sc_common_divisor : FnScope ["one", "other"] ["one", "other"] (defScope s_common_divisor) := ⟨rfl, rfl, rfl, by decide +kernel, rfl, by decide +kernel, by decide +kernel⟩
theorem ok_common_divisor {f : Addr} {fd : FuncData} (F : Fun K "common_divisor" "common_divisor" s_common_divisor f fd) (T : Txt K mg C)  : FnOk P w K mg base CX0 1 f fd ["one", "other"] (sp_common_divisor K C) := by
  refine F.ok sc_common_divisor (fun vs H Q E h => ?_) (fun cdv A outer s H vs Q E hr h => ?_)
  · obtain ⟨_, _, rfl, _⟩ := h
    rfl
  · obtain ⟨a, b, rfl, h⟩ := h
    refine ⟨_, (pss_cons (ps_while PassesOwn.never (pt_cmpR op_gt (pv 1) pe_int (nomark _)) (pss_one (ps_par (i := 0) (j := 1) (by rfl) sc_common_divisor.nd rfl rfl (by decide) rfl rfl (pa_cons (pv 1) (pa_cons (pe_op op_mod (pv 0) (pv 1)) pa_nil)) (by rfl))))
      (pss_one (ps_ret (pv 0)))), ?_⟩
    refine rd_seq (while_by (fun σ' H' => ∃ a' b' : Nat, σ' = [some (.int (a' : Int)), some (.int (b' : Int))] ∧ Nat.gcd a' b' = Nat.gcd a b ∧ H' = H) slot1 ⟨a, b, rfl, rfl, rfl⟩ ?_ ?_)
    · rintro σ' H' ⟨a', b', rfl, hg, rfl⟩
      walk_at "rds"
      refine rd_cases (fun hc => ?_) (fun hc => ?_)
      · have hb : (0 : Int) < (b' : Int) := of_decide_eq_true hc
        walk_at "rds"
        refine ⟨_, _, rfl, rfl, hb, ?_⟩
        walk_at "rds"
        refine ⟨_, _, rfl, ⟨b', a' % b', rfl, ?_, rfl⟩, ?_⟩
        · rw [← hg, Nat.gcd_comm a' b', Nat.gcd_rec b' a', Nat.gcd_comm]
        · show (((a' : Int) % (b' : Int)).toNat) < ((b' : Int)).toNat
          have := Int.emod_lt_of_pos (a' : Int) hb
          have := Int.emod_nonneg (a' : Int) (show (b' : Int) ≠ 0 by omega)
          omega
      · have hb : ¬ (0 : Int) < (b' : Int) := of_decide_eq_false hc
        have e : b' = 0 := by omega
        subst e
        walk_at "rds"
        rw [Nat.gcd_zero_right] at hg
        rw [hg]
        exact h
    · rintro σ' H' Q1 Q2 m ⟨v, e, i, j, e1, e2, k, e3, q⟩
      exact ⟨v, e, i, j, e1, e2, k, e3, m _ _ q⟩
abbrev s_reduced : Stmt := top 4
theorem sc_reduced : FnScope ["top", "low", "divisor"] ["top", "low"] (defScope s_reduced) := ⟨rfl, rfl, rfl, by decide +kernel, rfl, by decide +kernel, by decide +kernel⟩
theorem ok_reduced {f : Addr} {fd : FuncData} (F : Fun K "reduced" "reduced" s_reduced f fd) (T : Txt K mg C) (D_common_divisor : Df P w K mg base 1 "common_divisor" ["one", "other"] (sp_common_divisor K C)) : FnOk P w K mg base CX0 2 f fd ["top", "low"] (sp_reduced K C) := by
  refine F.ok sc_reduced (fun vs H Q E h => ?_) (fun cdv A outer s H vs Q E hr h => ?_)
  · obtain ⟨_, _, _, rfl, _⟩ := h
    rfl
  · obtain ⟨x, d, n, rfl, h⟩ := h
    refine ⟨_, (pss_cons (ps_set (i := 2) sc_reduced.nd rfl (Or.inl rfl) (pe_df D_common_divisor hr (by decide) rfl (pa_cons (pe_callB call_abs (by rfl) T.bAbs (by decide +kernel) (pa_cons (pv 0) pa_nil)) (pa_cons (pv 1) pa_nil))))
      (pss_one (ps_ret (pe_tup (pa_cons (pe_op op_fdivW (pv 0) (pv 2)) (pa_cons (pe_op op_fdivW (pv 1) (pv 2)) pa_nil)))))), ?_⟩
    obtain ⟨hd, hx, hn, h0, h4, k⟩ := h
    have hg : 0 < Nat.gcd x.natAbs d := Nat.gcd_pos_of_pos_right _ hd
    have hg2 : ((Nat.gcd x.natAbs d : Nat) : Int).natAbs < 2 ^ n := by
      rw [Int.natAbs_natCast]
      exact Nat.lt_of_le_of_lt (Nat.gcd_le_right _ hd) hn
    walk_at "rds"
    refine ⟨x, rfl, ?_⟩
    walk_at "rds"
    refine ⟨x.natAbs, d, ?_, ?_⟩
    · rw [show (if x < 0 then -x else x) = ((x.natAbs : Nat) : Int) by split <;> omega]
      rfl
    walk_at "rds"
    refine ⟨_, _, rfl, rfl, wide_div (by omega) hg2 h0 (by omega), ?_⟩
    walk_at "rds"
    refine ⟨_, _, rfl, rfl, wide_div (by omega) hg2 h0 (by omega), ?_⟩
    walk_at "rds"
    refine ⟨(by show 2 ≤ sizeLine; decide), fun p hp => k.new hp ?_ ?_⟩
    · rw [mk_pos hd]
    · rw [mk_pos hd]
      rfl
abbrev s_plus : Stmt := top 5
theorem sc_plus : FnScope ["one", "other"] ["one", "other"] (defScope s_plus) := ⟨rfl, rfl, rfl, by decide +kernel, rfl, by decide +kernel, by decide +kernel⟩
theorem ok_plus {f : Addr} {fd : FuncData} (F : Fun K "plus" "plus" s_plus f fd) (T : Txt K mg C) (D_reduced : Df P w K mg base 2 "reduced" ["top", "low"] (sp_reduced K C)) : FnOk P w K mg base CX0 3 f fd ["one", "other"] (sp_plus K C) := by
  refine F.ok sc_plus (fun vs H Q E h => ?_) (fun cdv A outer s H vs Q E hr h => ?_)
  · obtain ⟨_, _, _, _, _, _, rfl, _⟩ := h
    rfl
  · obtain ⟨v1, v2, f1, f2, n, m, rfl, h⟩ := h
    refine ⟨_, (pss_one (ps_ret (pe_df D_reduced hr (by decide) rfl (pa_cons (pe_op op_add (pe_op op_mulW (pe_ix ix_tup (pv 0) pe_int (fun _ _ => rfl)) (pe_ix ix_tup (pv 1) pe_int (fun _ _ => rfl))) (pe_op op_mulW (pe_ix ix_tup (pv 1) pe_int (fun _ _ => rfl)) (pe_ix ix_tup (pv 0) pe_int (fun _ _ => rfl)))) (pa_cons (pe_op op_mulW (pe_ix ix_tup (pv 0) pe_int (fun _ _ => rfl)) (pe_ix ix_tup (pv 1) pe_int (fun _ _ => rfl))) pa_nil))))), ?_⟩
    obtain ⟨⟨a1, rfl, t1⟩, ⟨a2, rfl, t2⟩, hf, hg, hb, k⟩ := h
    have n0 := hf.n0
    have m0 := hg.n0
    walk_at "rds"
    refine rd_mul hf.num (nat_lt hg.den) n0 m0 (by omega) ?_
    walk_at "rds"
    refine rd_mul hg.num (nat_lt hf.den) m0 n0 (by omega) ?_
    walk_at "rds"
    
    refine rd_mul (nat_lt hf.den) (nat_lt hg.den) n0 m0 (by omega) ?_
    walk_at "rds"
    exact ⟨_, f1.den * f2.den, n + m + 1, rfl, Nat.mul_pos hf.pos hg.pos, add_num hf hg, den_lt hf hg, by omega, by omega, k⟩
abbrev s_minus : Stmt := top 6
theorem sc_minus : FnScope ["one", "other"] ["one", "other"] (defScope s_minus) := ⟨rfl, rfl, rfl, by decide +kernel, rfl, by decide +kernel, by decide +kernel⟩
theorem ok_minus {f : Addr} {fd : FuncData} (F : Fun K "minus" "minus" s_minus f fd) (T : Txt K mg C) (D_reduced : Df P w K mg base 2 "reduced" ["top", "low"] (sp_reduced K C)) : FnOk P w K mg base CX0 3 f fd ["one", "other"] (sp_minus K C) := by
  refine F.ok sc_minus (fun vs H Q E h => ?_) (fun cdv A outer s H vs Q E hr h => ?_)
  · obtain ⟨_, _, _, _, _, _, rfl, _⟩ := h
    rfl
  · obtain ⟨v1, v2, f1, f2, n, m, rfl, h⟩ := h
    refine ⟨_, (pss_one (ps_ret (pe_df D_reduced hr (by decide) rfl (pa_cons (pe_op op_sub (pe_op op_mulW (pe_ix ix_tup (pv 0) pe_int (fun _ _ => rfl)) (pe_ix ix_tup (pv 1) pe_int (fun _ _ => rfl))) (pe_op op_mulW (pe_ix ix_tup (pv 1) pe_int (fun _ _ => rfl)) (pe_ix ix_tup (pv 0) pe_int (fun _ _ => rfl)))) (pa_cons (pe_op op_mulW (pe_ix ix_tup (pv 0) pe_int (fun _ _ => rfl)) (pe_ix ix_tup (pv 1) pe_int (fun _ _ => rfl))) pa_nil))))), ?_⟩
    obtain ⟨⟨a1, rfl, t1⟩, ⟨a2, rfl, t2⟩, hf, hg, hb, k⟩ := h
    have n0 := hf.n0
    have m0 := hg.n0
    walk_at "rds"
    refine rd_mul hf.num (nat_lt hg.den) n0 m0 (by omega) ?_
    walk_at "rds"
    refine rd_mul hg.num (nat_lt hf.den) m0 n0 (by omega) ?_
    walk_at "rds"
    
    refine rd_mul (nat_lt hf.den) (nat_lt hg.den) n0 m0 (by omega) ?_
    walk_at "rds"
    refine ⟨_, f1.den * f2.den, n + m + 1, rfl, Nat.mul_pos hf.pos hg.pos, sub_num hf hg, den_lt hf hg, by omega, by omega, ?_⟩
    rw [← sub_eq]
    exact k
abbrev s_times : Stmt := top 7
theorem sc_times : FnScope ["one", "other"] ["one", "other"] (defScope s_times) := ⟨rfl, rfl, rfl, by decide +kernel, rfl, by decide +kernel, by decide +kernel⟩
theorem ok_times {f : Addr} {fd : FuncData} (F : Fun K "times" "times" s_times f fd) (T : Txt K mg C) (D_reduced : Df P w K mg base 2 "reduced" ["top", "low"] (sp_reduced K C)) : FnOk P w K mg base CX0 3 f fd ["one", "other"] (sp_times K C) := by
  refine F.ok sc_times (fun vs H Q E h => ?_) (fun cdv A outer s H vs Q E hr h => ?_)
  · obtain ⟨_, _, _, _, _, _, rfl, _⟩ := h
    rfl
  · obtain ⟨v1, v2, f1, f2, n, m, rfl, h⟩ := h
    refine ⟨_, (pss_one (ps_ret (pe_df D_reduced hr (by decide) rfl (pa_cons (pe_op op_mulW (pe_ix ix_tup (pv 0) pe_int (fun _ _ => rfl)) (pe_ix ix_tup (pv 1) pe_int (fun _ _ => rfl))) (pa_cons (pe_op op_mulW (pe_ix ix_tup (pv 0) pe_int (fun _ _ => rfl)) (pe_ix ix_tup (pv 1) pe_int (fun _ _ => rfl))) pa_nil))))), ?_⟩
    obtain ⟨⟨a1, rfl, t1⟩, ⟨a2, rfl, t2⟩, hf, hg, hb, k⟩ := h
    have n0 := hf.n0
    have m0 := hg.n0
    walk_at "rds"
    refine rd_mul hf.num hg.num n0 m0 (by omega) ?_
    walk_at "rds"
    refine rd_mul (nat_lt hf.den) (nat_lt hg.den) n0 m0 (by omega) ?_
    walk_at "rds"
    exact ⟨_, f1.den * f2.den, n + m + 1, rfl, Nat.mul_pos hf.pos hg.pos, mul_num hf hg, den_lt hf hg, by omega, by omega, k⟩
abbrev s_is_less : Stmt := top 8
theorem sc_is_less : FnScope ["one", "other"] ["one", "other"] (defScope s_is_less) := ⟨rfl, rfl, rfl, by decide +kernel, rfl, by decide +kernel, by decide +kernel⟩
theorem ok_is_less {f : Addr} {fd : FuncData} (F : Fun K "is_less" "is_less" s_is_less f fd) (T : Txt K mg C)  : FnOk P w K mg base CX0 1 f fd ["one", "other"] (sp_is_less K C) := by
  refine F.ok sc_is_less (fun vs H Q E h => ?_) (fun cdv A outer s H vs Q E hr h => ?_)
  · obtain ⟨_, _, _, _, _, _, rfl, _⟩ := h
    rfl
  · obtain ⟨v1, v2, f1, f2, n, m, rfl, h⟩ := h
    refine ⟨_, (pss_one (ps_ret (pe_cmpR op_lt (pe_op op_mulW (pe_ix ix_tup (pv 0) pe_int (fun _ _ => rfl)) (pe_ix ix_tup (pv 1) pe_int (fun _ _ => rfl))) (pe_op op_mulW (pe_ix ix_tup (pv 1) pe_int (fun _ _ => rfl)) (pe_ix ix_tup (pv 0) pe_int (fun _ _ => rfl))) (nomark _)))), ?_⟩
    obtain ⟨⟨a1, rfl, t1⟩, ⟨a2, rfl, t2⟩, hf, hg, hb, k⟩ := h
    have n0 := hf.n0
    have m0 := hg.n0
    walk_at "rds"
    refine rd_mul hf.num (nat_lt hg.den) n0 m0 (by omega) ?_
    walk_at "rds"
    refine rd_mul hg.num (nat_lt hf.den) m0 n0 (by omega) ?_
    walk_at "rds"
    
    exact k
abbrev s_total : Stmt := top 9
theorem sc_total : FnScope ["parts", "found", "part"] ["parts"] (defScope s_total) := ⟨rfl, rfl, rfl, by decide +kernel, rfl, by decide +kernel, by decide +kernel⟩
theorem ok_total {f : Addr} {fd : FuncData} (F : Fun K "total" "total" s_total f fd) (T : Txt K mg C) (D_plus : Df P w K mg base 3 "plus" ["one", "other"] (sp_plus K C)) : FnOk P w K mg base CX0 4 f fd ["parts"] (sp_total K C) := by
  refine F.ok sc_total (fun vs H Q E h => ?_) (fun cdv A outer s H vs Q E hr h => ?_)
  · obtain ⟨_, _, _, rfl, _⟩ := h
    rfl
  · obtain ⟨v, fs, A, rfl, h⟩ := h
    refine ⟨_, (pss_cons (ps_set (i := 1) sc_total.nd rfl (Or.inl rfl) (pe_gt T.gN rfl))
      (pss_cons (ps_for PassesOwn.never rfl (pi_list (pv 0)) (pg_name (i := 2) sc_total.nd rfl (Or.inl rfl)) (pss_one (ps_set (i := 1) sc_total.nd rfl (Or.inl rfl) (pe_df D_plus hr (by decide) rfl (pa_cons (pv 1) (pa_cons (pv 2) pa_nil))))))
      (pss_one (ps_ret (pv 1))))), ?_⟩
    obtain ⟨⟨a, xs, rfl, hs, hfs⟩, hfr, hlen, hA, k⟩ := h
    walk_at "rds"
    intro z hz
    walk_at "rds"
    refine ⟨_, rfl, a, rfl, ⟨_, hs⟩, for_list (K := K) (a := a) (xs := xs) (fun i σ' H' => ∃ vz part, σ' = [some (.ref a), some vz, part] ∧ Same H H' ∧ FrAt K H' vz ((fs.take i).foldl SrFraction.add (SrFraction.ofInt 0))) ⟨_, _, rfl, Same.refl H, z, rfl, hz⟩ (fun i σ' H' _ ⟨_, _, _, e, _⟩ => e.seq hs) ?_ ?_⟩
    · rintro i x σ' H' hi ⟨vz, part, rfl, e, hv⟩
      obtain ⟨f, hf, hx⟩ := (hfs.mono e).get hi
      have hil : i < fs.length := (List.getElem?_eq_some_iff.mp hf).1
      have hF := sum_fr (A := A) hfr (i := i) (by omega)
      have hfm : Fr A f := hfr f (List.mem_of_getElem? hf)
      have hb : i * (A + 1) ≤ 20 * 91 := Nat.mul_le_mul (by omega) (by omega)
      walk_at "rds"
      refine ⟨vz, x, _, f, _, A, rfl, hv, hx, hF, hfm, by omega, fun v2 H2 e2 hv2 => ?_⟩
      walk_at "rds"
      refine ⟨v2, some x, rfl, e.trans e2, ?_⟩
      rw [List.take_add_one, hf, List.foldl_append]
      exact hv2
    · rintro σ' H' ⟨vz, part, rfl, e, hv⟩
      rw [hfs.len, List.take_length] at hv
      walk_at "rds"
      exact k _ _ e hv
abbrev s_told : Stmt := top 10
theorem sc_told : FnScope ["part"] ["part"] (defScope s_told) := ⟨rfl, rfl, rfl, by decide +kernel, rfl, by decide +kernel, by decide +kernel⟩
theorem ok_told {f : Addr} {fd : FuncData} (F : Fun K "told" "told" s_told f fd) (T : Txt K mg C)  : FnOk P w K mg base CX0 1 f fd ["part"] (sp_told K C) := by
  refine F.ok sc_told (fun vs H Q E h => ?_) (fun cdv A outer s H vs Q E hr h => ?_)
  · obtain ⟨_, _, rfl, _⟩ := h
    rfl
  · obtain ⟨v, f1, rfl, h⟩ := h
    refine ⟨_, (pss_one (ps_ret (pe_lst (pa_cons (pe_ix ix_tup (pv 0) pe_int (fun _ _ => rfl)) (pa_cons (pe_ix ix_tup (pv 0) pe_int (fun _ _ => rfl)) pa_nil))))), ?_⟩
    obtain ⟨⟨a, rfl, t⟩, k⟩ := h
    walk_at "rds"
    exact ⟨(by show 2 ≤ sizeLine; decide), fun p hp => k.new hp⟩
abbrev s_next_ages : Stmt := top 12
theorem sc_next_ages : FnScope ["ages", "ratio", "part"] ["ages", "ratio"] (defScope s_next_ages) := ⟨rfl, rfl, rfl, by decide +kernel, rfl, by decide +kernel, by decide +kernel⟩
theorem ok_next_ages {f : Addr} {fd : FuncData} (F : Fun K "next_ages" "next_ages" s_next_ages f fd) (T : Txt K mg C) (D_minus : Df P w K mg base 3 "minus" ["one", "other"] (sp_minus K C)) (D_times : Df P w K mg base 3 "times" ["one", "other"] (sp_times K C)) : FnOk P w K mg base CX0 4 f fd ["ages", "ratio"] (sp_next_ages K C) := by
  refine F.ok sc_next_ages (fun vs H Q E h => ?_) (fun cdv A outer s H vs Q E hr h => ?_)
  · obtain ⟨_, _, _, _, _, rfl, _⟩ := h
    rfl
  · obtain ⟨v1, v2, fs, r, A, rfl, h⟩ := h
    refine ⟨_, (pss_cons (ps_if (pt_cmpR (op_eqD hr.units) (pv 0) (pe_lst pa_nil) (nomark _)) (pss_one (ps_ret (pe_lst (pa_cons (pe_gt T.gW rfl) pa_nil)))) pss_nil)
      (pss_one (ps_ret (pe_op op_cat (pe_lst (pa_cons (pe_df D_minus hr (by decide) rfl (pa_cons (pe_gt T.gW rfl) (pa_cons (pv 1) pa_nil))) pa_nil)) (pe_lc (own := [("part", 2)]) (g := gName 2) (tt := tYes) rfl sc_next_ages.nd (pi_list (pv 0)) (blkOk_by (N := ["ages", "ratio", "part"]) (sc := defScope s_next_ages) (by decide +kernel)) (fun _ _ _ _ _ => pg_name (i := 2) sc_next_ages.nd rfl (Or.inl rfl)) (fun _ _ _ _ _ => pts_nil) (fun _ _ _ _ _ => (pe_df D_times hr (by decide) rfl (pa_cons (pv 1) (pa_cons (pv 2) pa_nil))))))))), ?_⟩
    obtain ⟨⟨a, xs, rfl, hs, hfs⟩, ⟨b, rfl, tb⟩, h5, hfr, hlen, hA, k⟩ := h
    walk_at "rds"
    refine ⟨Nat.zero_le _, fun p hp => ?_⟩
    have e1 : Same H (upd H p (.lst [])) := sNew hp
    refine ⟨_, _, .lst (e1.seq hs) ((hfs.mono e1).dp), .lst (SqL.of upd_same) .nil, shaped_fs fs, shaped_fs [], ?_⟩
    rw [eqv_fs]
    walk_at "rds"
    refine rd_cases (fun hc => ?_) (fun hc => ?_)
    · have e : fs = [] := of_decide_eq_true hc
      subst e
      walk_at "rds"
      intro z hz
      walk_at "rds"
      refine ⟨(by show 1 ≤ sizeLine; decide), fun q hq => ?_⟩
      exact k q [.ref z] _ (e1.free hq) (e1.trans (sNew hq)) upd_same (.cons (FrAt.mono (sNew hq) ⟨z, rfl, hz⟩) .nil)
    · have e : fs ≠ [] := of_decide_eq_false hc
      walk_at "rds"
      intro z hz
      walk_at "rds"
      refine ⟨.ref z, .ref b, SrFraction.ofInt 1, r, 1, 5, rfl, ⟨z, rfl, hz⟩, ⟨b, rfl, tupE e1 tb⟩, fr_one, h5, by omega, fun v1 H1 e2 hv1 => ?_⟩
      walk_at "rds"
      refine ⟨(by show 1 ≤ sizeLine; decide), fun q hq => ?_⟩
      have e3 : Same H (upd H1 q (.lst [v1])) := (e1.trans e2).trans (sNew hq)
      have hv3 : FrAt K (upd H1 q (.lst [v1])) v1 (SrFraction.sub (SrFraction.ofInt 1) r) := hv1.mono (sNew hq)
      have hq3 : (upd H1 q (.lst [v1])) q = some (.lst [v1]) := upd_same
      refine ⟨_, rfl, a, rfl, ⟨_, e3.seq hs⟩, fun D hD => ?_⟩
      generalize upd H1 q (.lst [v1]) = H3 at e3 hv3 hq3 hD ⊢
      refine lc_list (K := K) (a := a) (xs := xs) (fun i H' => Same H3 H' ∧ ∃ acc, H' D = some (.lst acc) ∧ Fs K H' acc ((fs.take i).map (SrFraction.mul r))) ⟨sNew hD, [], upd_same, .nil⟩ (fun i H' _ q => (e3.trans q.1).seq hs) ?_ ?_
      · rintro i x H' hi ⟨e4, acc, ha, hacc⟩
        obtain ⟨f, hf, hx⟩ := (hfs.mono (e3.trans e4)).get hi
        have hil : i < fs.length := (List.getElem?_eq_some_iff.mp hf).1
        refine ⟨rfl, ?_⟩
        walk_at "rds"
        refine ⟨.ref b, x, r, f, 5, A, rfl, ⟨b, rfl, tupE (e3.trans e4) tb⟩, hx, h5, hfr f (List.mem_of_getElem? hf), by omega, fun v2 H4 e5 hv2 => ?_⟩
        refine ⟨acc, e5 _ _ ha, small1000 (by rw [hacc.len, List.length_map, List.length_take]; omega), sMut (e4.trans e5) hD, acc ++ [v2], upd_same, ?_⟩
        rw [List.take_add_one, hf, List.map_append]
        exact ((hacc.mono e5).lset (e5 _ _ ha)).snoc (hv2.lset (e5 _ _ ha))
      · rintro H' ⟨e4, acc, ha, hacc⟩
        rw [hfs.len, List.take_length] at hacc
        refine ⟨q, D, [v1], acc, rfl, rfl, e4 _ _ hq3, ha, small20 (by rw [hacc.len, List.length_map]; show 1 + fs.length ≤ 1000; omega), fun p2 hp2 => ?_⟩
        have e6 : Same H' (upd H' p2 (.lst ([v1] ++ acc))) := sNew hp2
        refine k p2 ([v1] ++ acc) _ ((e3.trans e4).free hp2) ((e3.trans e4).trans e6) upd_same ?_
        unfold nextOf
        rw [if_neg e]
        exact .cons (hv3.mono (e4.trans e6)) (hacc.mono e6)
abbrev s_ages_after : Stmt := top 13
theorem sc_ages_after : FnScope ["ratio", "many", "ages", "turn"] ["ratio", "many"] (defScope s_ages_after) := ⟨rfl, rfl, rfl, by decide +kernel, rfl, by decide +kernel, by decide +kernel⟩
theorem ok_ages_after {f : Addr} {fd : FuncData} (F : Fun K "ages_after" "ages_after" s_ages_after f fd) (T : Txt K mg C) (D_next_ages : Df P w K mg base 4 "next_ages" ["ages", "ratio"] (sp_next_ages K C)) : FnOk P w K mg base CX0 5 f fd ["ratio", "many"] (sp_ages_after K C) := by
  refine F.ok sc_ages_after (fun vs H Q E h => ?_) (fun cdv A outer s H vs Q E hr h => ?_)
  · obtain ⟨_, _, _, rfl, _⟩ := h
    rfl
  · obtain ⟨v, r, n, rfl, h⟩ := h
    refine ⟨_, (pss_cons (ps_set (i := 2) sc_ages_after.nd rfl (Or.inl rfl) (pe_lst pa_nil))
      (pss_cons (ps_for PassesOwn.never rfl (pi_range1 rfl T.bRange (pa_cons (pv 1) pa_nil)) (pg_name (i := 3) sc_ages_after.nd rfl (Or.inl rfl)) (pss_one (ps_set (i := 2) sc_ages_after.nd rfl (Or.inl rfl) (pe_df D_next_ages hr (by decide) rfl (pa_cons (pv 2) (pa_cons (pv 0) pa_nil))))))
      (pss_one (ps_ret (pv 2))))), ?_⟩
    obtain ⟨⟨b, rfl, tb⟩, h5, hn, k⟩ := h
    walk_at "rds"
    refine ⟨Nat.zero_le _, fun p hp => ?_⟩
    have e1 : Same H (upd H p (.lst [])) := sNew hp
    walk_at "rds"
    refine ⟨_, rfl, (n : Int), rfl, by omega, by omega, for_range (lo := 0) (n := n) (fun i σ' H' => ∃ q xs t, σ' = [some (.ref b), some (.int (n : Int)), some (.ref q), t] ∧ H q = none ∧ Same H H' ∧ H' q = some (.lst xs) ∧ Fs K H' xs (agesAfter r i)) ⟨p, [], _, rfl, hp, e1, upd_same, .nil⟩ ?_ ?_⟩
    · rintro i σ' H' hi ⟨q, xs, t, rfl, hq, e, hx, hfs⟩
      walk_at "rds"
      refine ⟨.ref q, .ref b, agesAfter r i, r, 7 + 5 * i, rfl, ⟨q, xs, rfl, SqL.of hx, hfs⟩, ⟨b, rfl, tupE e tb⟩, h5, after_fr h5 i, by rw [after_len]; omega, by omega, fun p2 xs2 H2 hp2 e2 h2 hf2 => ?_⟩
      walk_at "rds"
      exact ⟨p2, xs2, _, rfl, e.free hp2, e.trans e2, h2, hf2⟩
    · rintro σ' H' ⟨q, xs, t, rfl, hq, e, hx, hfs⟩
      walk_at "rds"
      exact k q xs _ hq e hx hfs
abbrev s_strength_of : Stmt := top 14
theorem sc_strength_of : FnScope ["ages", "retention", "found", "part"] ["ages", "retention"] (defScope s_strength_of) := ⟨rfl, rfl, rfl, by decide +kernel, rfl, by decide +kernel, by decide +kernel⟩
theorem ok_strength_of {f : Addr} {fd : FuncData} (F : Fun K "strength_of" "strength_of" s_strength_of f fd) (T : Txt K mg C) (D_plus : Df P w K mg base 3 "plus" ["one", "other"] (sp_plus K C)) (D_times : Df P w K mg base 3 "times" ["one", "other"] (sp_times K C)) : FnOk P w K mg base CX0 4 f fd ["ages", "retention"] (sp_strength_of K C) := by
  refine F.ok sc_strength_of (fun vs H Q E h => ?_) (fun cdv A outer s H vs Q E hr h => ?_)
  · obtain ⟨_, _, _, _, _, rfl, _⟩ := h
    rfl
  · obtain ⟨v1, v2, fs, t, A, rfl, h⟩ := h
    refine ⟨_, (pss_cons (ps_set (i := 2) sc_strength_of.nd rfl (Or.inl rfl) (pe_gt T.gN rfl))
      (pss_cons (ps_for PassesOwn.never rfl (pi_list (pe_revL (pv 0))) (pg_name (i := 3) sc_strength_of.nd rfl (Or.inl rfl)) (pss_one (ps_set (i := 2) sc_strength_of.nd rfl (Or.inl rfl) (pe_df D_plus hr (by decide) rfl (pa_cons (pv 3) (pa_cons (pe_df D_times hr (by decide) rfl (pa_cons (pv 1) (pa_cons (pv 2) pa_nil))) pa_nil))))))
      (pss_one (ps_ret (pv 2))))), ?_⟩
    obtain ⟨⟨a, xs, rfl, hs, hfs⟩, ⟨b, rfl, tb⟩, h5, hfr, hlen, hA, k⟩ := h
    walk_at "rds"
    intro z hz
    walk_at "rds"
    refine ⟨_, rfl, a, xs, rfl, hs, fun p hp => ⟨p, rfl, ⟨_, SqL.of upd_same⟩, ?_⟩⟩
    have e1 : Same H (upd H p (.lst xs.reverse)) := sNew hp
    have hp1 : (upd H p (.lst xs.reverse)) p = some (.lst xs.reverse) := upd_same
    have hz1 : SqT K (upd H p (.lst xs.reverse)) z [.int 0, .int 1] := tupE e1 hz
    generalize upd H p (.lst xs.reverse) = H1 at e1 hp1 hz1 ⊢
    refine for_list (K := K) (a := p) (xs := xs.reverse) (fun i σ' H' => ∃ vz part, σ' = [some (.ref a), some (.ref b), some vz, part] ∧ Same H1 H' ∧ FrAt K H' vz ((fs.reverse.take i).foldl (fun found part => SrFraction.add part (SrFraction.mul t found)) (SrFraction.ofInt 0))) ⟨_, _, rfl, Same.refl H1, z, rfl, hz1⟩ (fun i σ' H' _ ⟨_, _, _, e, _⟩ => SqL.of (e _ _ hp1)) ?_ ?_
    · rintro i x σ' H' hi ⟨vz, part, rfl, e, hv⟩
      obtain ⟨f, hf, hx⟩ := ((hfs.mono (e1.trans e)).rev).get hi
      have hil : i < fs.reverse.length := (List.getElem?_eq_some_iff.mp hf).1
      rw [List.length_reverse] at hil
      have hF := horner_fr (A := A) h5 (i := i) hfr (by omega)
      have hfm : Fr A f := hfr f (List.mem_reverse.mp (List.mem_of_getElem? hf))
      have hb : i * (A + 6) ≤ 20 * 96 := Nat.mul_le_mul (by omega) (by omega)
      walk_at "rds"
      refine ⟨.ref b, vz, t, _, 5, _, rfl, ⟨b, rfl, tupE (e1.trans e) tb⟩, hv, h5, hF, by omega, fun v1 H2 e2 hv1 => ?_⟩
      walk_at "rds"
      refine ⟨x, v1, f, _, A, _, rfl, hx.mono e2, hv1, hfm, fr_mul h5 hF, by omega, fun v2 H3 e3 hv2 => ?_⟩
      walk_at "rds"
      refine ⟨v2, some x, rfl, (e.trans e2).trans e3, ?_⟩
      rw [List.take_add_one, hf, List.foldl_append]
      exact hv2
    · rintro σ' H' ⟨vz, part, rfl, e, hv⟩
      rw [List.length_reverse, hfs.len, ← List.length_reverse (as := fs), List.take_length] at hv
      walk_at "rds"
      exact k _ _ (e1.trans e) hv
abbrev s_mean_age_of : Stmt := top 15
theorem sc_mean_age_of : FnScope ["ages", "age", "part"] ["ages"] (defScope s_mean_age_of) := ⟨rfl, rfl, rfl, by decide +kernel, rfl, by decide +kernel, by decide +kernel⟩
theorem ok_mean_age_of {f : Addr} {fd : FuncData} (F : Fun K "mean_age_of" "mean_age_of" s_mean_age_of f fd) (T : Txt K mg C) (D_times : Df P w K mg base 3 "times" ["one", "other"] (sp_times K C)) (D_total : Df P w K mg base 4 "total" ["parts"] (sp_total K C)) : FnOk P w K mg base CX0 5 f fd ["ages"] (sp_mean_age_of K C) := by
  refine F.ok sc_mean_age_of (fun vs H Q E h => ?_) (fun cdv A outer s H vs Q E hr h => ?_)
  · obtain ⟨_, _, _, rfl, _⟩ := h
    rfl
  · obtain ⟨v, fs, A, rfl, h⟩ := h
    refine ⟨_, (pss_one (ps_ret (pe_df D_total hr (by decide) rfl (pa_cons (pe_lc (own := [("age", 1), ("part", 2)]) (g := gTup K 2 (gCons (gName 1) (gCons (gName 2) gNil))) (tt := tYes) rfl sc_mean_age_of.nd (pi_enum (by rfl) T.bEnum (pa_cons (pv 0) pa_nil)) (blkOk_by (N := ["ages", "age", "part"]) (sc := defScope s_mean_age_of) (by decide +kernel)) (fun _ _ _ _ _ => by exact (pg_tup rfl (pgs_cons (pg_name (i := 1) sc_mean_age_of.nd rfl (Or.inl rfl)) (pgs_cons (pg_name (i := 2) sc_mean_age_of.nd rfl (Or.inl rfl)) pgs_nil)))) (fun _ _ _ _ _ => pts_nil) (fun _ _ _ _ _ => (pe_df D_times hr (by decide) rfl (pa_cons (pe_tup (pa_cons (pv 1) (pa_cons pe_int pa_nil))) (pa_cons (pv 2) pa_nil))))) pa_nil)))), ?_⟩
    obtain ⟨⟨a, xs, rfl, hs, hfs⟩, hfr, hlen, hA, k⟩ := h
    walk_at "rds"
    refine ⟨_, rfl, a, xs, rfl, hs, fun D hD => ?_⟩
    refine lc_it (walk_enum (K := K) (a := a) (xs := xs)) (fun i H' => Same H H' ∧ ∃ acc, H' D = some (.lst acc) ∧ Fs K H' acc ((meanParts fs).take i)) ⟨sNew hD, [], upd_same, .nil⟩ (fun i H' _ q => q.1.seq hs) ?_ ?_
    · rintro i x H' H1' hi ⟨e1, acc, ha, hacc⟩ ⟨T1, x1, x2, rfl, hT, rfl, ex1, ex2⟩
      obtain ⟨f, hf, hx⟩ := (hfs.mono e1).get ex2
      have ex1' : V.int ((i : Nat) : Int) = x1 := Option.some.inj ex1
      subst ex1'
      have hil : i < fs.length := (List.getElem?_eq_some_iff.mp hf).1
      have e2 : Same H' (upd H' T1 (.tup [.int ((i : Nat) : Int), x2])) := sNew hT
      refine ⟨T1, _, rfl, SqT.of upd_same, rfl, _, _, rfl, _, _, rfl, rfl, ⟨rfl, ?_⟩⟩
      walk_at "rds"
      refine ⟨(by show 2 ≤ sizeLine; decide), fun p hp => ?_⟩
      have e3 := e2.trans (sNew (o := .tup [.int ((i : Nat) : Int), .int 1]) hp)
      walk_at "rds"
      refine ⟨.ref p, x2, ⟨((i : Nat) : Int), 1⟩, f, 5, A, rfl, ⟨p, rfl, SqT.of upd_same⟩, hx.mono e3, fr_nat (show i < 2 ^ 5 by omega) (by decide), hfr f (List.mem_of_getElem? hf), by omega, fun v2 H4 e5 hv2 => ?_⟩
      have haD := e5 _ _ (e3 _ _ ha)
      refine ⟨acc, haD, small1000 (by rw [hacc.len, List.length_take, mean_len]; omega), sMut ((e1.trans e3).trans e5) hD, acc ++ [v2], upd_same, ?_⟩
      rw [List.take_add_one, mean_at hf]
      exact ((hacc.mono (e3.trans e5)).lset haD).snoc (hv2.lset haD)
    · rintro H' ⟨e1, acc, ha, hacc⟩
      rw [hfs.len, ← mean_len fs, List.take_length] at hacc
      walk_at "rds"
      exact ⟨.ref D, meanParts fs, A + 5, rfl, ⟨D, acc, rfl, SqL.of ha, hacc⟩, mean_fr hfr hlen, by rw [mean_len]; omega, by omega, k.at e1⟩
abbrev s_part_of_age : Stmt := top 16
theorem sc_part_of_age : FnScope ["ages", "age"] ["ages", "age"] (defScope s_part_of_age) := ⟨rfl, rfl, rfl, by decide +kernel, rfl, by decide +kernel, by decide +kernel⟩
theorem ok_part_of_age {f : Addr} {fd : FuncData} (F : Fun K "part_of_age" "part_of_age" s_part_of_age f fd) (T : Txt K mg C)  : FnOk P w K mg base CX0 1 f fd ["ages", "age"] (sp_part_of_age K C) := by
  refine F.ok sc_part_of_age (fun vs H Q E h => ?_) (fun cdv A outer s H vs Q E hr h => ?_)
  · obtain ⟨_, _, _, rfl, _⟩ := h
    rfl
  · obtain ⟨v, fs, n, rfl, h⟩ := h
    refine ⟨_, (pss_one (ps_ret (pe_ifExp (pt_cmpR op_lt (pv 1) (pe_callB call_len_seq (by rfl) T.bLen PySem.boot_len (pa_cons (pv 0) pa_nil)) (nomark _)) (pe_ix ix_list (pv 0) (pv 1) (fun _ _ => rfl)) (pe_gt T.gN rfl)))), ?_⟩
    obtain ⟨⟨a, xs, rfl, hs, hfs⟩, hlen, k⟩ := h
    walk_at "rds"
    refine ⟨a, xs, rfl, .inl hs, ?_⟩
    walk_at "rds"
    have el := hfs.len
    refine rd_cases (fun hc => ?_) (fun hc => ?_)
    · have hl : (n : Int) < ((xs.length : Nat) : Int) := of_decide_eq_true hc
      have hn : n < fs.length := by omega
      obtain ⟨v, hv, hx⟩ := hfs.got (List.getElem?_eq_getElem hn)
      walk_at "rds"
      refine rd_il hs hv ?_
      refine k _ _ (Same.refl H) ?_
      rw [List.getD_eq_getElem?_getD, List.getElem?_eq_getElem hn]
      exact hx
    · have hl : ¬ (n : Int) < ((xs.length : Nat) : Int) := of_decide_eq_false hc
      walk_at "rds"
      intro z hz
      refine k _ _ (Same.refl H) ?_
      rw [List.getD_eq_getElem?_getD, List.getElem?_eq_none (by omega)]
      exact ⟨z, rfl, hz⟩
abbrev s_part_older_than : Stmt := top 17
theorem sc_part_older_than : FnScope ["ages", "age"] ["ages", "age"] (defScope s_part_older_than) := ⟨rfl, rfl, rfl, by decide +kernel, rfl, by decide +kernel, by decide +kernel⟩
theorem ok_part_older_than {f : Addr} {fd : FuncData} (F : Fun K "part_older_than" "part_older_than" s_part_older_than f fd) (T : Txt K mg C) (D_total : Df P w K mg base 4 "total" ["parts"] (sp_total K C)) : FnOk P w K mg base CX0 5 f fd ["ages", "age"] (sp_part_older_than K C) := by
  refine F.ok sc_part_older_than (fun vs H Q E h => ?_) (fun cdv A outer s H vs Q E hr h => ?_)
  · obtain ⟨_, _, _, _, rfl, _⟩ := h
    rfl
  · obtain ⟨v, fs, n, A, rfl, h⟩ := h
    refine ⟨_, (pss_one (ps_ret (pe_df D_total hr (by decide) rfl (pa_cons (pe_slice sl_list (pv 0) (po_some (pe_op op_add (pv 1) pe_int)) po_none) pa_nil)))), ?_⟩
    obtain ⟨⟨a, xs, rfl, hs, hfs⟩, hfr, hlen, hA, k⟩ := h
    walk_at "rds"
    refine ⟨a, xs, rfl, hs, fun p hp => ?_⟩
    have ec : cutV xs (some ((n : Int) + 1)) none = xs.drop (n + 1) := cut_from xs (n + 1)
    rw [ec]
    have e1 : Same H (upd H p (.lst (xs.drop (n + 1)))) := sNew hp
    walk_at "rds"
    exact ⟨.ref p, fs.drop (n + 1), A, rfl, ⟨p, _, rfl, SqL.of upd_same, (hfs.mono e1).drop _⟩, fun f hf => hfr f (List.mem_of_mem_drop hf), by rw [List.length_drop]; omega, hA, k.at e1⟩
abbrev s_is_regrind : Stmt := top 21
theorem sc_is_regrind : FnScope ["regrind", "parts"] ["regrind", "parts"] (defScope s_is_regrind) := ⟨rfl, rfl, rfl, by decide +kernel, rfl, by decide +kernel, by decide +kernel⟩
theorem ok_is_regrind {f : Addr} {fd : FuncData} (F : Fun K "is_regrind" "is_regrind" s_is_regrind f fd) (T : Txt K mg C)  : FnOk P w K mg base CX0 1 f fd ["regrind", "parts"] (sp_is_regrind K C) := by
  refine F.ok sc_is_regrind (fun vs H Q E h => ?_) (fun cdv A outer s H vs Q E hr h => ?_)
  · obtain ⟨_, _, rfl, _⟩ := h
    rfl
  · obtain ⟨r, n, rfl, h⟩ := h
    refine ⟨_, (pss_one (ps_ret (pe_chain op_le op_lt pe_int (pv 0) (pv 1)))), ?_⟩
    unfold regOk at h
    walk_at "rds"
    refine rd_cases (fun hc => ?_) (fun hc => ?_)
    · walk_at "rds"
      rw [hc, Bool.true_and] at h
      exact h
    · walk_at "rds"
      rw [hc, Bool.false_and] at h
      exact h
abbrev s_is_parts : Stmt := top 22
theorem sc_is_parts : FnScope ["parts"] ["parts"] (defScope s_is_parts) := ⟨rfl, rfl, rfl, by decide +kernel, rfl, by decide +kernel, by decide +kernel⟩
theorem ok_is_parts {f : Addr} {fd : FuncData} (F : Fun K "is_parts" "is_parts" s_is_parts f fd) (T : Txt K mg C)  : FnOk P w K mg base CX0 1 f fd ["parts"] (sp_is_parts K C) := by
  refine F.ok sc_is_parts (fun vs H Q E h => ?_) (fun cdv A outer s H vs Q E hr h => ?_)
  · obtain ⟨_, rfl, _⟩ := h
    rfl
  · obtain ⟨b, rfl, h⟩ := h
    refine ⟨_, (pss_one (ps_ret (pe_chain op_le op_le pe_int (pv 0) (pe_gi T.cParts rfl)))), ?_⟩
    unfold partsOk at h
    walk_at "rds"
    refine rd_cases (fun hc => ?_) (fun hc => ?_)
    · walk_at "rds"
      rw [hc, Bool.true_and] at h
      exact h
    · walk_at "rds"
      rw [hc, Bool.false_and] at h
      exact h
abbrev s_is_retention : Stmt := top 23
theorem sc_is_retention : FnScope ["kept", "kept_of"] ["kept", "kept_of"] (defScope s_is_retention) := ⟨rfl, rfl, rfl, by decide +kernel, rfl, by decide +kernel, by decide +kernel⟩
theorem ok_is_retention {f : Addr} {fd : FuncData} (F : Fun K "is_retention" "is_retention" s_is_retention f fd) (T : Txt K mg C)  : FnOk P w K mg base CX0 1 f fd ["kept", "kept_of"] (sp_is_retention K C) := by
  refine F.ok sc_is_retention (fun vs H Q E h => ?_) (fun cdv A outer s H vs Q E hr h => ?_)
  · obtain ⟨_, _, rfl, _⟩ := h
    rfl
  · obtain ⟨c, d, rfl, h⟩ := h
    refine ⟨_, (pss_one (ps_ret (pe_and (pe_chain op_le op_le pe_int (pv 1) (pe_gi T.cKept rfl)) (pe_one (pe_chain op_le op_le pe_int (pv 0) (pv 1)))))), ?_⟩
    unfold retOk at h
    walk_at "rds"
    refine rd_cases (fun hc => ?_) (fun hc => ?_)
    · walk_at "rds"
      rw [hc, Bool.true_and] at h
      refine rd_cases (fun hd => ?_) (fun hd => ?_)
      · walk_at "rds"
        rw [hd, Bool.true_and] at h
        refine rd_cases (fun he => ?_) (fun he => ?_)
        · walk_at "rds"
          rw [he, Bool.true_and] at h
          exact h
        · walk_at "rds"
          rw [he, Bool.false_and] at h
          exact h
      · walk_at "rds"
        rw [hd, Bool.false_and] at h
        exact h
    · walk_at "rds"
      rw [hc, Bool.false_and, Bool.false_and] at h
      exact h
abbrev s_are_settings : Stmt := top 24
theorem sc_are_settings : FnScope ["settings", "regrind", "parts", "kept", "kept_of"] ["settings"] (defScope s_are_settings) := ⟨rfl, rfl, rfl, by decide +kernel, rfl, by decide +kernel, by decide +kernel⟩
theorem ok_are_settings {f : Addr} {fd : FuncData} (F : Fun K "are_settings" "are_settings" s_are_settings f fd) (T : Txt K mg C) (D_is_regrind : Df P w K mg base 1 "is_regrind" ["regrind", "parts"] (sp_is_regrind K C)) (D_is_parts : Df P w K mg base 1 "is_parts" ["parts"] (sp_is_parts K C)) (D_is_retention : Df P w K mg base 1 "is_retention" ["kept", "kept_of"] (sp_is_retention K C)) : FnOk P w K mg base CX0 2 f fd ["settings"] (sp_are_settings K C) := by
  refine F.ok sc_are_settings (fun vs H Q E h => ?_) (fun cdv A outer s H vs Q E hr h => ?_)
  · obtain ⟨_, _, _, _, _, rfl, _⟩ := h
    rfl
  · obtain ⟨s, a, b, c, d, rfl, h⟩ := h
    refine ⟨_, (pss_cons (ps_asg (pv 0) (pg_tup rfl (pgs_cons (pg_name (i := 1) sc_are_settings.nd rfl (Or.inl rfl)) (pgs_cons (pg_name (i := 2) sc_are_settings.nd rfl (Or.inl rfl)) (pgs_cons (pg_name (i := 3) sc_are_settings.nd rfl (Or.inl rfl)) (pgs_cons (pg_name (i := 4) sc_are_settings.nd rfl (Or.inl rfl)) pgs_nil))))))
      (pss_one (ps_ret (pe_and (pe_df D_is_parts hr (by decide) rfl (pa_cons (pv 2) pa_nil)) (pe_and (pe_df D_is_regrind hr (by decide) rfl (pa_cons (pv 1) (pa_cons (pv 2) pa_nil))) (pe_one (pe_df D_is_retention hr (by decide) rfl (pa_cons (pv 3) (pa_cons (pv 4) pa_nil))))))))), ?_⟩
    obtain ⟨hs, h⟩ := h
    rw [setsOk_eq] at h
    walk_at "rds"
    refine rd_tup4 hs ?_
    walk_at "rds"
    refine ⟨b, rfl, ?_⟩
    walk_at "rds"
    refine rd_cases (fun hc => ?_) (fun hc => ?_)
    · walk_at "rds"
      rw [hc, Bool.true_and] at h
      refine ⟨a, b, rfl, ?_⟩
      walk_at "rds"
      refine rd_cases (fun hd => ?_) (fun hd => ?_)
      · walk_at "rds"
        rw [hd, Bool.true_and] at h
        exact ⟨c, d, rfl, h⟩
      · walk_at "rds"
        rw [hd, Bool.false_and] at h
        exact h
    · walk_at "rds"
      rw [hc, Bool.false_and] at h
      exact h
abbrev s_with_regrind : Stmt := top 25
theorem sc_with_regrind : FnScope ["settings", "regrind"] ["settings", "regrind"] (defScope s_with_regrind) := ⟨rfl, rfl, rfl, by decide +kernel, rfl, by decide +kernel, by decide +kernel⟩
theorem ok_with_regrind {f : Addr} {fd : FuncData} (F : Fun K "with_regrind" "with_regrind" s_with_regrind f fd) (T : Txt K mg C)  : FnOk P w K mg base CX0 1 f fd ["settings", "regrind"] (sp_with_regrind K C) := by
  refine F.ok sc_with_regrind (fun vs H Q E h => ?_) (fun cdv A outer s H vs Q E hr h => ?_)
  · obtain ⟨_, _, _, _, _, _, rfl, _⟩ := h
    rfl
  · obtain ⟨s, a, b, c, d, r, rfl, h⟩ := h
    refine ⟨_, (pss_one (ps_ret (pe_tup (pa_cons (pv 1) (pa_cons (pe_ix ix_tup (pv 0) pe_int (fun _ _ => rfl)) (pa_cons (pe_ix ix_tup (pv 0) pe_int (fun _ _ => rfl)) (pa_cons (pe_ix ix_tup (pv 0) pe_int (fun _ _ => rfl)) pa_nil))))))), ?_⟩
    obtain ⟨hs, k⟩ := h
    walk_at "rds"
    exact ⟨(by show 4 ≤ sizeLine; decide), fun p hp => k.new hp⟩
abbrev s_with_retention : Stmt := top 26
theorem sc_with_retention : FnScope ["settings", "kept", "kept_of"] ["settings", "kept", "kept_of"] (defScope s_with_retention) := ⟨rfl, rfl, rfl, by decide +kernel, rfl, by decide +kernel, by decide +kernel⟩
theorem ok_with_retention {f : Addr} {fd : FuncData} (F : Fun K "with_retention" "with_retention" s_with_retention f fd) (T : Txt K mg C)  : FnOk P w K mg base CX0 1 f fd ["settings", "kept", "kept_of"] (sp_with_retention K C) := by
  refine F.ok sc_with_retention (fun vs H Q E h => ?_) (fun cdv A outer s H vs Q E hr h => ?_)
  · obtain ⟨_, _, _, _, _, _, _, rfl, _⟩ := h
    rfl
  · obtain ⟨s, a, b, c, d, c2, d2, rfl, h⟩ := h
    refine ⟨_, (pss_one (ps_ret (pe_tup (pa_cons (pe_ix ix_tup (pv 0) pe_int (fun _ _ => rfl)) (pa_cons (pe_ix ix_tup (pv 0) pe_int (fun _ _ => rfl)) (pa_cons (pv 1) (pa_cons (pv 2) pa_nil))))))), ?_⟩
    obtain ⟨hs, k⟩ := h
    walk_at "rds"
    exact ⟨(by show 4 ≤ sizeLine; decide), fun p hp => k.new hp⟩
abbrev s_regrind_ratio : Stmt := top 27
theorem sc_regrind_ratio : FnScope ["settings"] ["settings"] (defScope s_regrind_ratio) := ⟨rfl, rfl, rfl, by decide +kernel, rfl, by decide +kernel, by decide +kernel⟩
theorem ok_regrind_ratio {f : Addr} {fd : FuncData} (F : Fun K "regrind_ratio" "regrind_ratio" s_regrind_ratio f fd) (T : Txt K mg C) (D_reduced : Df P w K mg base 2 "reduced" ["top", "low"] (sp_reduced K C)) : FnOk P w K mg base CX0 3 f fd ["settings"] (sp_regrind_ratio K C) := by
  refine F.ok sc_regrind_ratio (fun vs H Q E h => ?_) (fun cdv A outer s H vs Q E hr h => ?_)
  · obtain ⟨_, _, rfl, _⟩ := h
    rfl
  · obtain ⟨s, p, rfl, h⟩ := h
    refine ⟨_, (pss_one (ps_ret (pe_df D_reduced hr (by decide) rfl (pa_cons (pe_ix ix_tup (pv 0) pe_int (fun _ _ => rfl)) (pa_cons (pe_ix ix_tup (pv 0) pe_int (fun _ _ => rfl)) pa_nil))))), ?_⟩
    obtain ⟨hs, ok, k⟩ := h
    have h1 := ok.r
    have h2 := ok.n20
    walk_at "rds"
    exact ⟨(p.regrind : Int), p.parts, 5, rfl, ok.n1, nat_lt (by omega), by omega, by omega, by omega, k⟩
abbrev s_retention_of : Stmt := top 28
theorem sc_retention_of : FnScope ["settings"] ["settings"] (defScope s_retention_of) := ⟨rfl, rfl, rfl, by decide +kernel, rfl, by decide +kernel, by decide +kernel⟩
theorem ok_retention_of {f : Addr} {fd : FuncData} (F : Fun K "retention_of" "retention_of" s_retention_of f fd) (T : Txt K mg C) (D_reduced : Df P w K mg base 2 "reduced" ["top", "low"] (sp_reduced K C)) : FnOk P w K mg base CX0 3 f fd ["settings"] (sp_retention_of K C) := by
  refine F.ok sc_retention_of (fun vs H Q E h => ?_) (fun cdv A outer s H vs Q E hr h => ?_)
  · obtain ⟨_, _, rfl, _⟩ := h
    rfl
  · obtain ⟨s, p, rfl, h⟩ := h
    refine ⟨_, (pss_one (ps_ret (pe_df D_reduced hr (by decide) rfl (pa_cons (pe_ix ix_tup (pv 0) pe_int (fun _ _ => rfl)) (pa_cons (pe_ix ix_tup (pv 0) pe_int (fun _ _ => rfl)) pa_nil))))), ?_⟩
    obtain ⟨hs, ok, k⟩ := h
    have h1 := ok.k
    have h2 := ok.o20
    walk_at "rds"
    exact ⟨(p.kept : Int), p.keptOf, 5, rfl, ok.o1, nat_lt (by omega), by omega, by omega, by omega, k⟩
abbrev s_strength_limit : Stmt := top 29
theorem sc_strength_limit : FnScope ["settings", "regrind", "parts", "kept", "kept_of"] ["settings"] (defScope s_strength_limit) := ⟨rfl, rfl, rfl, by decide +kernel, rfl, by decide +kernel, by decide +kernel⟩
theorem ok_strength_limit {f : Addr} {fd : FuncData} (F : Fun K "strength_limit" "strength_limit" s_strength_limit f fd) (T : Txt K mg C) (D_reduced : Df P w K mg base 2 "reduced" ["top", "low"] (sp_reduced K C)) : FnOk P w K mg base CX0 3 f fd ["settings"] (sp_strength_limit K C) := by
  refine F.ok sc_strength_limit (fun vs H Q E h => ?_) (fun cdv A outer s H vs Q E hr h => ?_)
  · obtain ⟨_, _, rfl, _⟩ := h
    rfl
  · obtain ⟨s, p, rfl, h⟩ := h
    refine ⟨_, (pss_cons (ps_asg (pv 0) (pg_tup rfl (pgs_cons (pg_name (i := 1) sc_strength_limit.nd rfl (Or.inl rfl)) (pgs_cons (pg_name (i := 2) sc_strength_limit.nd rfl (Or.inl rfl)) (pgs_cons (pg_name (i := 3) sc_strength_limit.nd rfl (Or.inl rfl)) (pgs_cons (pg_name (i := 4) sc_strength_limit.nd rfl (Or.inl rfl)) pgs_nil))))))
      (pss_one (ps_ret (pe_df D_reduced hr (by decide) rfl (pa_cons (pe_op op_mulW (pe_op op_sub (pv 2) (pv 1)) (pv 4)) (pa_cons (pe_op op_sub (pe_op op_mulW (pv 2) (pv 4)) (pe_op op_mulW (pv 1) (pv 3))) pa_nil)))))), ?_⟩
    obtain ⟨hs, ok, k⟩ := h
    have h1 := ok.r
    have h2 := ok.n20
    have h3 := ok.o20
    have h4 := ok.k
    have hp := lim_pos ok
    walk_at "rds"
    refine rd_tup4 hs ?_
    walk_at "rds"
    refine rd_mul (n := 5) (m := 5) (by omega) (by omega) (by omega) (by omega) (by omega) ?_
    walk_at "rds"
    refine rd_mul (n := 5) (m := 5) (by omega) (by omega) (by omega) (by omega) (by omega) ?_
    walk_at "rds"
    refine rd_mul (n := 5) (m := 5) (by omega) (by omega) (by omega) (by omega) (by omega) ?_
    walk_at "rds"
    refine ⟨((p.parts : Int) - (p.regrind : Int)) * (p.keptOf : Int), p.parts * p.keptOf - p.regrind * p.kept, 10, ?_, by omega, ?_, ?_, by omega, by omega, k⟩
    · rw [Int.natCast_sub (Nat.le_of_lt hp), Int.natCast_mul, Int.natCast_mul]
      rfl
    · exact natAbs_mul_lt (n := 5) (m := 5) (by omega) (by omega)
    · have := mul_lt (a := p.parts) (b := p.keptOf) (n := 5) (m := 5) (by omega) (by omega)
      omega
abbrev s_mean_age_limit : Stmt := top 30
theorem sc_mean_age_limit : FnScope ["settings", "regrind", "parts", "kept", "kept_of"] ["settings"] (defScope s_mean_age_limit) := ⟨rfl, rfl, rfl, by decide +kernel, rfl, by decide +kernel, by decide +kernel⟩
theorem ok_mean_age_limit {f : Addr} {fd : FuncData} (F : Fun K "mean_age_limit" "mean_age_limit" s_mean_age_limit f fd) (T : Txt K mg C) (D_reduced : Df P w K mg base 2 "reduced" ["top", "low"] (sp_reduced K C)) : FnOk P w K mg base CX0 3 f fd ["settings"] (sp_mean_age_limit K C) := by
  refine F.ok sc_mean_age_limit (fun vs H Q E h => ?_) (fun cdv A outer s H vs Q E hr h => ?_)
  · obtain ⟨_, _, rfl, _⟩ := h
    rfl
  · obtain ⟨s, p, rfl, h⟩ := h
    refine ⟨_, (pss_cons (ps_asg (pv 0) (pg_tup rfl (pgs_cons (pg_name (i := 1) sc_mean_age_limit.nd rfl (Or.inl rfl)) (pgs_cons (pg_name (i := 2) sc_mean_age_limit.nd rfl (Or.inl rfl)) (pgs_cons (pg_name (i := 3) sc_mean_age_limit.nd rfl (Or.inl rfl)) (pgs_cons (pg_name (i := 4) sc_mean_age_limit.nd rfl (Or.inl rfl)) pgs_nil))))))
      (pss_one (ps_ret (pe_df D_reduced hr (by decide) rfl (pa_cons (pv 1) (pa_cons (pe_op op_sub (pv 2) (pv 1)) pa_nil)))))), ?_⟩
    obtain ⟨hs, ok, k⟩ := h
    have h1 := ok.r
    have h2 := ok.n20
    walk_at "rds"
    refine rd_tup4 hs ?_
    walk_at "rds"
    refine ⟨(p.regrind : Int), p.parts - p.regrind, 10, ?_, by omega, by omega, by omega, by omega, by omega, k⟩
    rw [Int.natCast_sub (Nat.le_of_lt h1)]
    rfl
abbrev s_is_number_of_shots : Stmt := top 34
theorem sc_is_number_of_shots : FnScope ["number"] ["number"] (defScope s_is_number_of_shots) := ⟨rfl, rfl, rfl, by decide +kernel, rfl, by decide +kernel, by decide +kernel⟩
theorem ok_is_number_of_shots {f : Addr} {fd : FuncData} (F : Fun K "is_number_of_shots" "is_number_of_shots" s_is_number_of_shots f fd) (T : Txt K mg C)  : FnOk P w K mg base CX0 1 f fd ["number"] (sp_is_number_of_shots K C) := by
  refine F.ok sc_is_number_of_shots (fun vs H Q E h => ?_) (fun cdv A outer s H vs Q E hr h => ?_)
  · obtain ⟨_, rfl, _⟩ := h
    rfl
  · obtain ⟨n, rfl, h⟩ := h
    refine ⟨_, (pss_one (ps_ret (pe_chain op_le op_le pe_int (pv 0) (pe_gi T.cShots rfl)))), ?_⟩
    unfold countOk at h
    walk_at "rds"
    refine rd_cases (fun hc => ?_) (fun hc => ?_)
    · walk_at "rds"
      rw [hc, Bool.true_and] at h
      exact h
    · walk_at "rds"
      rw [hc, Bool.false_and] at h
      exact h
abbrev s_is_threshold : Stmt := top 35
theorem sc_is_threshold : FnScope ["num", "den"] ["num", "den"] (defScope s_is_threshold) := ⟨rfl, rfl, rfl, by decide +kernel, rfl, by decide +kernel, by decide +kernel⟩
theorem ok_is_threshold {f : Addr} {fd : FuncData} (F : Fun K "is_threshold" "is_threshold" s_is_threshold f fd) (T : Txt K mg C)  : FnOk P w K mg base CX0 1 f fd ["num", "den"] (sp_is_threshold K C) := by
  refine F.ok sc_is_threshold (fun vs H Q E h => ?_) (fun cdv A outer s H vs Q E hr h => ?_)
  · obtain ⟨_, _, rfl, _⟩ := h
    rfl
  · obtain ⟨a, b, rfl, h⟩ := h
    refine ⟨_, (pss_one (ps_ret (pe_and (pe_cmpR op_ge (pv 0) pe_int (nomark _)) (pe_one (pe_chain op_le op_le pe_int (pv 1) (pe_gi T.cDen rfl)))))), ?_⟩
    unfold thrOk at h
    walk_at "rds"
    refine rd_cases (fun hc => ?_) (fun hc => ?_)
    · walk_at "rds"
      rw [hc, Bool.true_and] at h
      refine rd_cases (fun hd => ?_) (fun hd => ?_)
      · walk_at "rds"
        rw [hd, Bool.true_and] at h
        exact h
      · walk_at "rds"
        rw [hd, Bool.false_and] at h
        exact h
    · walk_at "rds"
      rw [hc, Bool.false_and] at h
      exact h
abbrev s_strength_after_shots : Stmt := top 36
theorem sc_strength_after_shots : FnScope ["settings", "many"] ["settings", "many"] (defScope s_strength_after_shots) := ⟨rfl, rfl, rfl, by decide +kernel, rfl, by decide +kernel, by decide +kernel⟩
theorem ok_strength_after_shots {f : Addr} {fd : FuncData} (F : Fun K "strength_after_shots" "strength_after_shots" s_strength_after_shots f fd) (T : Txt K mg C) (D_ages_after : Df P w K mg base 5 "ages_after" ["ratio", "many"] (sp_ages_after K C)) (D_strength_of : Df P w K mg base 4 "strength_of" ["ages", "retention"] (sp_strength_of K C)) (D_regrind_ratio : Df P w K mg base 3 "regrind_ratio" ["settings"] (sp_regrind_ratio K C)) (D_retention_of : Df P w K mg base 3 "retention_of" ["settings"] (sp_retention_of K C)) : FnOk P w K mg base CX0 6 f fd ["settings", "many"] (sp_strength_after_shots K C) := by
  refine F.ok sc_strength_after_shots (fun vs H Q E h => ?_) (fun cdv A outer s H vs Q E hr h => ?_)
  · obtain ⟨_, _, _, rfl, _⟩ := h
    rfl
  · obtain ⟨s, p, n, rfl, h⟩ := h
    refine ⟨_, (pss_one (ps_ret (pe_df D_strength_of hr (by decide) rfl (pa_cons (pe_df D_ages_after hr (by decide) rfl (pa_cons (pe_df D_regrind_ratio hr (by decide) rfl (pa_cons (pv 0) pa_nil)) (pa_cons (pv 1) pa_nil))) (pa_cons (pe_df D_retention_of hr (by decide) rfl (pa_cons (pv 0) pa_nil)) pa_nil))))), ?_⟩
    obtain ⟨hs, ok, hn, k⟩ := h
    walk_at "rds"
    refine ⟨s, p, rfl, hs, ok, fun v1 H1 e1 hv1 => ?_⟩
    walk_at "rds"
    refine ⟨v1, Sr119.regrindRatio p, n, rfl, hv1, ratio_fr ok, hn, fun q xs H2 hq e2 h2 hf => ?_⟩
    walk_at "rds"
    refine ⟨s, p, rfl, tupE (e1.trans e2) hs, ok, fun v3 H3 e3 hv3 => ?_⟩
    walk_at "rds"
    exact ⟨.ref q, v3, agesAfter (Sr119.regrindRatio p) n, Sr119.retention p, 7 + 5 * n, rfl, ⟨q, xs, rfl, SqL.of (e3 _ _ h2), hf.mono e3⟩, hv3, ret_fr ok, after_fr (ratio_fr ok) n, by rw [after_len]; omega, by omega, k.at ((e1.trans e2).trans e3)⟩
abbrev s_greatest_regrind : Stmt := top 37
theorem sc_greatest_regrind : FnScope ["settings", "threshold", "found", "regrind"] ["settings", "threshold"] (defScope s_greatest_regrind) := ⟨rfl, rfl, rfl, by decide +kernel, rfl, by decide +kernel, by decide +kernel⟩
theorem ok_greatest_regrind {f : Addr} {fd : FuncData} (F : Fun K "greatest_regrind" "greatest_regrind" s_greatest_regrind f fd) (T : Txt K mg C) (D_is_less : Df P w K mg base 1 "is_less" ["one", "other"] (sp_is_less K C)) (D_with_regrind : Df P w K mg base 1 "with_regrind" ["settings", "regrind"] (sp_with_regrind K C)) (D_strength_limit : Df P w K mg base 3 "strength_limit" ["settings"] (sp_strength_limit K C)) : FnOk P w K mg base CX0 4 f fd ["settings", "threshold"] (sp_greatest_regrind K C) := by
  refine F.ok sc_greatest_regrind (fun vs H Q E h => ?_) (fun cdv A outer s H vs Q E hr h => ?_)
  · obtain ⟨_, _, _, _, _, rfl, _⟩ := h
    rfl
  · obtain ⟨s, p, v, t, n, rfl, h⟩ := h
    refine ⟨_, (pss_cons (ps_set (i := 2) sc_greatest_regrind.nd rfl (Or.inl rfl) pe_non)
      (pss_cons (ps_for PassesOwn.never rfl (pi_range1 rfl T.bRange (pa_cons (pe_ix ix_tup (pv 0) pe_int (fun _ _ => rfl)) pa_nil)) (pg_name (i := 3) sc_greatest_regrind.nd rfl (Or.inl rfl)) (pss_one (ps_if (pt_not (pt_val (pe_df D_is_less hr (by decide) rfl (pa_cons (pe_df D_strength_limit hr (by decide) rfl (pa_cons (pe_df D_with_regrind hr (by decide) rfl (pa_cons (pv 0) (pa_cons (pv 3) pa_nil))) pa_nil)) (pa_cons (pv 1) pa_nil))))) (pss_one (ps_set (i := 2) sc_greatest_regrind.nd rfl (Or.inl rfl) (pv 3))) pss_nil)))
      (pss_one (ps_ret (pv 2))))), ?_⟩
    obtain ⟨hs, ok, hv, ht, hn, k⟩ := h
    have h2 := ok.n20
    walk_at "rds"
    refine ⟨_, rfl, s, _, _, _, rfl, rfl, hs, atI_nat (j := 1) rfl, (p.parts : Int), rfl, by omega, by omega, for_range (lo := 0) (n := p.parts) (fun i σ' H' => ∃ u, σ' = [some (.ref s), some v, some (optV (lastUp (strongAt p t) i)), u] ∧ Same H H') ⟨_, rfl, Same.refl H⟩ ?_ ?_⟩
    · rintro i σ' H' hi ⟨u, rfl, e⟩
      rw [Int.zero_add]
      walk_at "rds"
      refine ⟨s, _, _, _, _, (i : Int), rfl, tupE e hs, fun q H2 hq e2 h2 => ?_⟩
      walk_at "rds"
      refine ⟨q, withR p i, rfl, SqT.of h2, withR_ok ok hi, fun v3 H3 e3 hv3 => ?_⟩
      walk_at "rds"
      refine ⟨v3, v, limOf (withR p i), t, 10, n, rfl, hv3, hv.mono ((e.trans e2).trans e3), lim_fr (withR_ok ok hi), ht, by omega, ?_⟩
      walk_at "rds"
      refine rd_cases (fun hc => ?_) (fun hc => ?_)
      · walk_at "rds"
        refine ⟨some (.int (i : Int)), ?_, (e.trans e2).trans e3⟩
        have e5 : lastUp (strongAt p t) (i + 1) = some i := if_pos hc
        rw [e5]
        rfl
      · walk_at "rds"
        refine ⟨some (.int (i : Int)), ?_, (e.trans e2).trans e3⟩
        have hc' : strongAt p t i = false := hc
        have e5 : lastUp (strongAt p t) (i + 1) = lastUp (strongAt p t) i := if_neg (by rw [hc']; exact Bool.false_ne_true)
        rw [e5]
        rfl
    · rintro σ' H' ⟨u, rfl, e⟩
      walk_at "rds"
      exact k _ e
abbrev s_first_weak : Stmt := top 38
theorem sc_first_weak : FnScope ["settings", "threshold", "many"] ["settings", "threshold"] (defScope s_first_weak) := ⟨rfl, rfl, rfl, by decide +kernel, rfl, by decide +kernel, by decide +kernel⟩
theorem ok_first_weak {f : Addr} {fd : FuncData} (F : Fun K "first_weak" "first_weak" s_first_weak f fd) (T : Txt K mg C) (D_is_less : Df P w K mg base 1 "is_less" ["one", "other"] (sp_is_less K C)) (D_strength_after_shots : Df P w K mg base 6 "strength_after_shots" ["settings", "many"] (sp_strength_after_shots K C)) : FnOk P w K mg base CX0 7 f fd ["settings", "threshold"] (sp_first_weak K C) := by
  refine F.ok sc_first_weak (fun vs H Q E h => ?_) (fun cdv A outer s H vs Q E hr h => ?_)
  · obtain ⟨_, _, _, _, _, rfl, _⟩ := h
    rfl
  · obtain ⟨s, p, v, t, n, rfl, h⟩ := h
    refine ⟨_, (pss_cons (ps_for PassesOwn.never rfl (pi_range2 rfl T.bRange (pa_cons pe_int (pa_cons (pe_op op_add (pe_gi T.cShots rfl) pe_int) pa_nil))) (pg_name (i := 2) sc_first_weak.nd rfl (Or.inl rfl)) (pss_one (ps_if (pt_val (pe_df D_is_less hr (by decide) rfl (pa_cons (pe_df D_strength_after_shots hr (by decide) rfl (pa_cons (pv 0) (pa_cons (pv 2) pa_nil))) (pa_cons (pv 1) pa_nil)))) (pss_one (ps_ret (pv 2))) pss_nil)))
      (pss_one (ps_ret pe_non))), ?_⟩
    obtain ⟨hs, ok, hv, ht, hn, k⟩ := h
    walk_at "rds"
    refine ⟨12, 1, rfl, rfl, 1, 13, rfl, ⟨by decide, by decide, by decide, by decide⟩, for_range (lo := 1) (n := 12) (fun i σ' H' => ∃ u, σ' = [some (.ref s), some v, u] ∧ Same H H' ∧ ∀ j, j < i → weakAt p t (j + 1) = false) ⟨_, rfl, Same.refl H, fun j hj => absurd hj (Nat.not_lt_zero _)⟩ ?_ ?_⟩
    · rintro i σ' H' hi ⟨u, rfl, e, hw⟩
      rw [show (1 : Int) + (i : Nat) = ((i + 1 : Nat) : Int) by omega]
      walk_at "rds"
      refine ⟨s, p, i + 1, rfl, tupE e hs, ok, by omega, fun v3 H3 e3 hv3 => ?_⟩
      have hb : (i + 1) * (7 + 5 * (i + 1) + 6) ≤ 12 * 73 := Nat.mul_le_mul (by omega) (by omega)
      have hF := horner_fr' (ret_fr ok) (after_fr (ratio_fr ok) (i + 1))
      rw [after_len] at hF
      walk_at "rds"
      refine ⟨v3, v, _, t, _, n, rfl, hv3, hv.mono (e.trans e3), hF, ht, by omega, ?_⟩
      walk_at "rds"
      refine rd_cases (fun hc => ?_) (fun hc => ?_)
      · walk_at "rds"
        have e5 := firstWeak_some ok hi hc hw
        rw [e5] at k
        exact k _ (e.trans e3)
      · walk_at "rds"
        refine ⟨some (.int ((i + 1 : Nat) : Int)), rfl, e.trans e3, fun j hj => ?_⟩
        by_cases hj2 : j = i
        · subst hj2
          exact hc
        · exact hw j (by omega)
    · rintro σ' H' ⟨u, rfl, e, hw⟩
      walk_at "rds"
      rw [firstWeak_none ok hw] at k
      exact k _ e
abbrev s_Press_init : Stmt := inClass (top 45) 0
theorem sc_Press_init : FnScope ["self"] ["self"] (defScope s_Press_init) := ⟨rfl, rfl, rfl, by decide +kernel, rfl, by decide +kernel, by decide +kernel⟩
theorem ok_Press_init {f : Addr} {fd : FuncData} (F : Fun K "__init__" "Press.__init__" s_Press_init f fd) (T : Txt K mg C)  : FnOk P w K mg base CX0 1 f fd ["self"] (sp_Press_init K C) := by
  refine F.ok sc_Press_init (fun vs H Q E h => ?_) (fun cdv A outer s H vs Q E hr h => ?_)
  · obtain ⟨_, _, rfl, _⟩ := h
    rfl
  · obtain ⟨x, dx, rfl, h⟩ := h
    refine ⟨_, (pss_cons (ps_fld (pv 0) pe_non rfl)
      (pss_cons (ps_fld (pv 0) pe_int rfl)
      (pss_one (ps_fld (pv 0) (pe_lst pa_nil) rfl)))), ?_⟩
    obtain ⟨hx, k⟩ := h
    walk_at "rds"
    refine ⟨x, C, dx, [], rfl, hx, T.cl, T.n1, (by show 0 < 1000; decide), ?_⟩
    walk_at "rds"
    refine ⟨x, C, dx, _, rfl, upd_same, T.cl, T.n2, (by show 1 < 1000; decide), ?_⟩
    rw [upd_upd]
    walk_at "rds"
    refine ⟨Nat.zero_le _, fun l hl => ?_⟩
    have hlx : x ≠ l := fun z => by
      subst z
      rw [upd_same] at hl
      cases hl
    rw [upd_ne (fun z => hlx z.symm)] at hl
    walk_at "rds"
    refine ⟨x, C, dx, _, rfl, (by rw [upd_ne hlx]; exact upd_same), T.cl, T.n3, (by show 2 < 1000; decide), ?_⟩
    refine k _ l (PrAt.put prF_new) (by rw [upd_ne (fun z => hlx z.symm)]; exact upd_same) hl fun b o e n => ?_
    rw [upd_ne n, upd_ne (ne_of_none e hl), upd_ne n]
    exact e
abbrev s_Press_is_there : Stmt := inClass (top 45) 1
theorem sc_Press_is_there : FnScope ["self"] ["self"] (defScope s_Press_is_there) := ⟨rfl, rfl, rfl, by decide +kernel, rfl, by decide +kernel, by decide +kernel⟩
theorem ok_Press_is_there {f : Addr} {fd : FuncData} (F : Fun K "is_there" "Press.is_there" s_Press_is_there f fd) (T : Txt K mg C)  : FnOk P w K mg base CX0 1 f fd ["self"] (sp_Press_is_there K C) := by
  refine F.ok sc_Press_is_there (fun vs H Q E h => ?_) (fun cdv A outer s H vs Q E hr h => ?_)
  · obtain ⟨_, _, _, _, rfl, _⟩ := h
    rfl
  · obtain ⟨x, l, v, n, rfl, h⟩ := h
    refine ⟨_, (pss_one (ps_ret (pe_cmp (pc_notN (pe_fld (pv 0) rfl))))), ?_⟩
    obtain ⟨pr, h⟩ := h
    walk_at "rds"
    exact h
abbrev s_Press_has_shot : Stmt := inClass (top 45) 2
theorem sc_Press_has_shot : FnScope ["self"] ["self"] (defScope s_Press_has_shot) := ⟨rfl, rfl, rfl, by decide +kernel, rfl, by decide +kernel, by decide +kernel⟩
theorem ok_Press_has_shot {f : Addr} {fd : FuncData} (F : Fun K "has_shot" "Press.has_shot" s_Press_has_shot f fd) (T : Txt K mg C)  : FnOk P w K mg base CX0 1 f fd ["self"] (sp_Press_has_shot K C) := by
  refine F.ok sc_Press_has_shot (fun vs H Q E h => ?_) (fun cdv A outer s H vs Q E hr h => ?_)
  · obtain ⟨_, _, _, _, rfl, _⟩ := h
    rfl
  · obtain ⟨x, l, v, n, rfl, h⟩ := h
    refine ⟨_, (pss_one (ps_ret (pe_cmpR op_gt (pe_fld (pv 0) rfl) pe_int (nomark _)))), ?_⟩
    obtain ⟨pr, h⟩ := h
    walk_at "rds"
    exact h
abbrev s_Press_take_settings : Stmt := inClass (top 45) 3
theorem sc_Press_take_settings : FnScope ["self", "settings"] ["self", "settings"] (defScope s_Press_take_settings) := ⟨rfl, rfl, rfl, by decide +kernel, rfl, by decide +kernel, by decide +kernel⟩
theorem ok_Press_take_settings {f : Addr} {fd : FuncData} (F : Fun K "take_settings" "Press.take_settings" s_Press_take_settings f fd) (T : Txt K mg C)  : FnOk P w K mg base CX0 1 f fd ["self", "settings"] (sp_Press_take_settings K C) := by
  refine F.ok sc_Press_take_settings (fun vs H Q E h => ?_) (fun cdv A outer s H vs Q E hr h => ?_)
  · obtain ⟨_, _, _, _, _, rfl, _⟩ := h
    rfl
  · obtain ⟨x, l, v, n, u, rfl, h⟩ := h
    refine ⟨_, (pss_one (ps_fld (pv 0) (pv 1) rfl)), ?_⟩
    obtain ⟨⟨dx, hx⟩, k⟩ := h
    walk_at "rds"
    refine ⟨x, C, dx, _, rfl, hx, T.cl, T.n1, (by show 3 < 1000; decide), ?_⟩
    exact k _ (PrAt.put prF_ps) Kept.upd
abbrev s_Press_take_shot : Stmt := inClass (top 45) 4
theorem sc_Press_take_shot : FnScope ["self", "ages"] ["self", "ages"] (defScope s_Press_take_shot) := ⟨rfl, rfl, rfl, by decide +kernel, rfl, by decide +kernel, by decide +kernel⟩
theorem ok_Press_take_shot {f : Addr} {fd : FuncData} (F : Fun K "take_shot" "Press.take_shot" s_Press_take_shot f fd) (T : Txt K mg C)  : FnOk P w K mg base CX0 1 f fd ["self", "ages"] (sp_Press_take_shot K C) := by
  refine F.ok sc_Press_take_shot (fun vs H Q E h => ?_) (fun cdv A outer s H vs Q E hr h => ?_)
  · obtain ⟨_, _, _, _, _, _, rfl, _⟩ := h
    rfl
  · obtain ⟨x, l, v, n, a, xs, rfl, h⟩ := h
    refine ⟨_, (pss_cons (ps_fld (pv 0) (pe_op op_add (pe_fld (pv 0) rfl) pe_int) rfl)
      (pss_one (ps_fld (pv 0) (pe_callTy call_list_of (by rfl) T.bList (by decide +kernel) (pa_cons (pv 1) pa_nil)) rfl))), ?_⟩
    obtain ⟨pr, hs, k⟩ := h
    walk_at "rds"
    obtain ⟨dx, hx⟩ := id pr
    refine ⟨x, C, dx, _, rfl, hx, T.cl, T.n2, (by show 3 < 1000; decide), ?_⟩
    rw [prF_pn]
    walk_at "rds"
    have k1 : Kept H (upd H x (.ins C dx (prF v (n + 1) l))) x := Kept.upd
    refine ⟨a, xs, rfl, .inl (k1.seqP pr hs), fun l1 hl1 => ?_⟩
    have hlx : x ≠ l1 := fun z => by
      subst z
      rw [upd_same] at hl1
      cases hl1
    rw [upd_ne (fun z => hlx z.symm)] at hl1
    walk_at "rds"
    refine ⟨x, C, dx, _, rfl, (by rw [upd_ne hlx]; exact upd_same), T.cl, T.n3, (by show 3 < 1000; decide), ?_⟩
    refine k _ l1 (PrAt.put prF_pa) (by rw [upd_ne (fun z => hlx z.symm)]; exact upd_same) hl1 fun b o e m => ?_
    rw [upd_ne m, upd_ne (ne_of_none e hl1), upd_ne m]
    exact e
abbrev s_Press_clear_shots : Stmt := inClass (top 45) 5
theorem sc_Press_clear_shots : FnScope ["self"] ["self"] (defScope s_Press_clear_shots) := ⟨rfl, rfl, rfl, by decide +kernel, rfl, by decide +kernel, by decide +kernel⟩
theorem ok_Press_clear_shots {f : Addr} {fd : FuncData} (F : Fun K "clear_shots" "Press.clear_shots" s_Press_clear_shots f fd) (T : Txt K mg C)  : FnOk P w K mg base CX0 1 f fd ["self"] (sp_Press_clear_shots K C) := by
  refine F.ok sc_Press_clear_shots (fun vs H Q E h => ?_) (fun cdv A outer s H vs Q E hr h => ?_)
  · obtain ⟨_, _, _, _, rfl, _⟩ := h
    rfl
  · obtain ⟨x, l, v, n, rfl, h⟩ := h
    refine ⟨_, (pss_cons (ps_fld (pv 0) pe_int rfl)
      (pss_one (ps_fld (pv 0) (pe_lst pa_nil) rfl))), ?_⟩
    obtain ⟨⟨dx, hx⟩, k⟩ := h
    walk_at "rds"
    refine ⟨x, C, dx, _, rfl, hx, T.cl, T.n2, (by show 3 < 1000; decide), ?_⟩
    rw [prF_pn]
    walk_at "rds"
    refine ⟨Nat.zero_le _, fun l1 hl1 => ?_⟩
    have hlx : x ≠ l1 := fun z => by
      subst z
      rw [upd_same] at hl1
      cases hl1
    rw [upd_ne (fun z => hlx z.symm)] at hl1
    walk_at "rds"
    refine ⟨x, C, dx, _, rfl, (by rw [upd_ne hlx]; exact upd_same), T.cl, T.n3, (by show 3 < 1000; decide), ?_⟩
    refine k _ l1 (PrAt.put prF_pa) (by rw [upd_ne (fun z => hlx z.symm)]; exact upd_same) hl1 fun b o e m => ?_
    rw [upd_ne m, upd_ne (ne_of_none e hl1), upd_ne m]
    exact e
abbrev s_Press_last_strength : Stmt := inClass (top 45) 6
theorem sc_Press_last_strength : FnScope ["self"] ["self"] (defScope s_Press_last_strength) := ⟨rfl, rfl, rfl, by decide +kernel, rfl, by decide +kernel, by decide +kernel⟩
theorem ok_Press_last_strength {f : Addr} {fd : FuncData} (F : Fun K "last_strength" "Press.last_strength" s_Press_last_strength f fd) (T : Txt K mg C) (D_strength_of : Df P w K mg base 4 "strength_of" ["ages", "retention"] (sp_strength_of K C)) (D_retention_of : Df P w K mg base 3 "retention_of" ["settings"] (sp_retention_of K C)) : FnOk P w K mg base CX0 5 f fd ["self"] (sp_Press_last_strength K C) := by
  refine F.ok sc_Press_last_strength (fun vs H Q E h => ?_) (fun cdv A outer s H vs Q E hr h => ?_)
  · obtain ⟨_, _, _, _, _, _, _, _, rfl, _⟩ := h
    rfl
  · obtain ⟨x, s, l, n, p, xs, fs, A, rfl, h⟩ := h
    refine ⟨_, (pss_one (ps_ret (pe_df D_strength_of hr (by decide) rfl (pa_cons (pe_fld (pv 0) rfl) (pa_cons (pe_df D_retention_of hr (by decide) rfl (pa_cons (pe_fld (pv 0) rfl) pa_nil)) pa_nil))))), ?_⟩
    obtain ⟨pr, hs, ok, hl, hf, hfr, hlen, hA, k⟩ := h
    walk_at "rds"
    refine ⟨s, p, rfl, hs, ok, fun v1 H1 e1 hv1 => ?_⟩
    walk_at "rds"
    exact ⟨.ref l, v1, fs, Sr119.retention p, A, rfl, ⟨l, xs, rfl, SqL.of (e1 _ _ hl), hf.mono e1⟩, hv1, ret_fr ok, hfr, hlen, hA, k.at e1⟩
abbrev s_create : Stmt := top 47
theorem sc_create : FnScope ["press", "numbers", "settings"] ["press", "numbers"] (defScope s_create) := ⟨rfl, rfl, rfl, by decide +kernel, rfl, by decide +kernel, by decide +kernel⟩
theorem ok_create {f : Addr} {fd : FuncData} (F : Fun K "create" "create" s_create f fd) (T : Txt K mg C) (D_are_settings : Df P w K mg base 2 "are_settings" ["settings"] (sp_are_settings K C)) (M_take_settings : Mf P w K mg base C 1 "take_settings" ["self", "settings"] (sp_Press_take_settings K C)) (M_clear_shots : Mf P w K mg base C 1 "clear_shots" ["self"] (sp_Press_clear_shots K C)) : FnOk P w K mg base CX0 3 f fd ["press", "numbers"] (sp_create K C) := by
  refine F.ok sc_create (fun vs H Q E h => ?_) (fun cdv A outer s H vs Q E hr h => ?_)
  · obtain ⟨_, _, _, _, _, _, _, _, rfl, _⟩ := h
    rfl
  · obtain ⟨x, l, bb, st, a, b, c, d, rfl, h⟩ := h
    refine ⟨_, (pss_cons (ps_set (i := 2) sc_create.nd rfl (Or.inl rfl) (pe_tup (pa_cons (pe_ix ix_list (pv 1) pe_int (fun _ _ => rfl)) (pa_cons (pe_ix ix_list (pv 1) pe_int (fun _ _ => rfl)) (pa_cons (pe_ix ix_list (pv 1) pe_int (fun _ _ => rfl)) (pa_cons (pe_ix ix_list (pv 1) pe_int (fun _ _ => rfl)) pa_nil))))))
      (pss_cons (ps_if (pt_not (pt_val (pe_df D_are_settings hr (by decide) rfl (pa_cons (pv 2) pa_nil)))) (pss_one (ps_ret (pe_lst (pa_cons (pe_gi T.cOut rfl) pa_nil)))) pss_nil)
      (pss_cons (ps_expr (pe_mf (pv 0) T.cl M_take_settings hr (by decide) (pa_cons (pv 2) pa_nil)))
      (pss_cons (ps_expr (pe_mf0 (pv 0) T.cl M_clear_shots hr (by decide)))
      (pss_one (ps_ret (pe_lst (pa_cons pe_int pa_nil)))))))), ?_⟩
    obtain ⟨ps, hb, k⟩ := h
    unfold RetO at k
    walk_at "rds"
    refine ⟨(by show 4 ≤ sizeLine; decide), fun q hq => ?_⟩
    have e1 : Same H (upd H q (.tup (iv4 a b c d))) := sNew hq
    have tq : SqT K (upd H q (.tup (iv4 a b c d))) q (iv4 a b c d) := SqT.of upd_same
    generalize upd H q (.tup (iv4 a b c d)) = H1 at e1 tq ⊢
    walk_at "rds"
    refine ⟨q, a, b, c, d, rfl, tq, ?_⟩
    walk_at "rds"
    refine rd_cases (fun hc => ?_) (fun hc => ?_)
    · have hs : setsOk a b c d = false := by
        cases z : setsOk a b c d with
        | false => rfl
        | true =>
          rw [z] at hc
          cases hc
      rw [create_eq, if_neg (by rw [hs]; exact Bool.false_ne_true)] at k
      walk_at "rds"
      exact ⟨(by show 1 ≤ sizeLine; decide), fun p hp => (k.at e1).same (ps.mono e1) hp⟩
    · have hs : setsOk a b c d = true := by
        cases z : setsOk a b c d with
        | true => rfl
        | false =>
          rw [z] at hc
          cases hc
      rw [create_eq, if_pos hs] at k
      have w := create_wf hs
      obtain ⟨v0, n0, pr0, _⟩ := (ps.mono e1).pr
      walk_at "rds"
      refine ⟨x, l, v0, n0, .ref q, rfl, pr0, fun H2 pr2 k2 => ?_⟩
      walk_at "rds"
      refine ⟨x, l, .ref q, n0, rfl, pr2, fun H3 l3 pr3 hl3 hn3 k3 => ?_⟩
      walk_at "rds"
      refine ⟨(by show 1 ≤ sizeLine; decide), fun p hp => ?_⟩
      have e4 : Same H3 (upd H3 p (.lst [.int 0])) := sNew hp
      have k13 : Kept H1 H3 x := k2.trans k3
      have hp1 : H p = none := e1.free (k13.freeP pr3 hp)
      have hl1 : H l3 = none := e1.free (k2.freeP pr2 hn3)
      refine k p l3 _ hp1 upd_same ⟨w, q, [], pr3.mono e4, ?_, e4 _ _ hl3, .nil⟩ (.inr hl1) ((Kept.of e1 x).trans (k13.trans (Kept.of e4 x)))
      have t3 := tupE e4 (k13.tupP pr0 tq)
      unfold setsOk at hs
      simp only [Bool.and_eq_true, decide_eq_true_eq] at hs
      have ea : ((a.toNat : Nat) : Int) = a := by omega
      have eb : ((b.toNat : Nat) : Int) = b := by omega
      have ec : ((c.toNat : Nat) : Int) = c := by omega
      have ed : ((d.toNat : Nat) : Int) = d := by omega
      show SqT K _ q (iv4 ((a.toNat : Nat) : Int) ((b.toNat : Nat) : Int) ((c.toNat : Nat) : Int) ((d.toNat : Nat) : Int))
      rw [ea, eb, ec, ed]
      exact t3
abbrev s_shot_with : Stmt := top 48
theorem sc_shot_with : FnScope ["press", "ages"] ["press", "ages"] (defScope s_shot_with) := ⟨rfl, rfl, rfl, by decide +kernel, rfl, by decide +kernel, by decide +kernel⟩
theorem ok_shot_with {f : Addr} {fd : FuncData} (F : Fun K "shot_with" "shot_with" s_shot_with f fd) (T : Txt K mg C) (D_told : Df P w K mg base 1 "told" ["part"] (sp_told K C)) (M_take_shot : Mf P w K mg base C 1 "take_shot" ["self", "ages"] (sp_Press_take_shot K C)) (M_last_strength : Mf P w K mg base C 5 "last_strength" ["self"] (sp_Press_last_strength K C)) : FnOk P w K mg base CX0 6 f fd ["press", "ages"] (sp_shot_with K C) := by
  refine F.ok sc_shot_with (fun vs H Q E h => ?_) (fun cdv A outer s H vs Q E hr h => ?_)
  · obtain ⟨_, _, _, _, _, _, rfl, _⟩ := h
    rfl
  · obtain ⟨x, l, a, p, ys, fs, rfl, h⟩ := h
    refine ⟨_, (pss_cons (ps_if (pt_cmpR op_eq (pe_fld (pv 0) rfl) (pe_gi T.cShots rfl) (nomark _)) (pss_one (ps_ret (pe_lst (pa_cons (pe_gi T.cFull rfl) pa_nil)))) pss_nil)
      (pss_cons (ps_expr (pe_mf (pv 0) T.cl M_take_shot hr (by decide) (pa_cons (pv 1) pa_nil)))
      (pss_one (ps_ret (pe_op op_cat (pe_lst (pa_cons (pe_fld (pv 0) rfl) pa_nil)) (pe_df D_told hr (by decide) rfl (pa_cons (pe_mf0 (pv 0) T.cl M_last_strength hr (by decide)) pa_nil))))))), ?_⟩
    obtain ⟨ps, ha, hfs, hfr, hlen, k1, k2⟩ := h
    obtain ⟨w, s, xs, pr, ts, hl, hx⟩ := id ps
    walk_at "rds"
    refine rd_cases (fun hc => ?_) (fun hc => ?_)
    · have h12 : ((p.shots : Nat) : Int) = 12 := of_decide_eq_true hc
      walk_at "rds"
      exact ⟨(by show 1 ≤ sizeLine; decide), fun q hq => (k1 (by omega)).same ps hq⟩
    · have h12 : ¬ ((p.shots : Nat) : Int) = 12 := of_decide_eq_false hc
      obtain ⟨w2, k⟩ := k2 (by omega)
      walk_at "rds"
      refine ⟨x, l, .ref s, _, a, ys, rfl, pr, ha, fun H1 l1 pr1 hl1 hn1 kp1 => ?_⟩
      walk_at "rds"
      refine ⟨(by show 1 ≤ sizeLine; decide), fun q hq => ?_⟩
      have e2 : Same H1 (upd H1 q (.lst [.int (((p.shots : Nat) : Int) + 1)])) := sNew hq
      have hq2 : (upd H1 q (.lst [.int (((p.shots : Nat) : Int) + 1)])) q = some (.lst [.int (((p.shots : Nat) : Int) + 1)]) := upd_same
      generalize upd H1 q (.lst [.int (((p.shots : Nat) : Int) + 1)]) = H2 at e2 hq2 ⊢
      have pr2 := pr1.mono e2
      have hf2 := (kp1.fsP pr hfs).mono e2
      have ts2 := tupE e2 (kp1.tupP pr ts)
      walk_at "rds"
      refine ⟨x, s, l1, _, p, ys, fs, 72, rfl, pr2, ts2, w.s, e2 _ _ hl1, hf2, hfr, hlen, by omega, fun v H3 e3 hv => ?_⟩
      walk_at "rds"
      refine ⟨v, horner (Sr119.retention p) fs, rfl, hv, fun q2 H4 hq4 e4 h4 => ?_⟩
      have e24 := e3.trans e4
      refine ⟨q, q2, _, _, rfl, rfl, e24 _ _ hq2, h4, (by show 1 + 2 ≤ sizeLine; decide), fun p5 hp5 => ?_⟩
      have e5 : Same H4 (upd H4 p5 (.lst ([.int (((p.shots : Nat) : Int) + 1)] ++ [(horner (Sr119.retention p) fs).num, (((horner (Sr119.retention p) fs).den : Nat) : Int)].map V.int))) := sNew hp5
      have e15 := (e2.trans e24).trans e5
      refine k p5 l1 _ (kp1.freeP pr1 ((e2.trans e24).free hp5)) upd_same ⟨w2, s, ys, pr1.mono e15, tupE (e24.trans e5) ts2, e15 _ _ hl1, hf2.mono (e24.trans e5)⟩ (.inr hn1) (kp1.trans (Kept.of e15 x))
abbrev s_make_shot : Stmt := top 49
theorem sc_make_shot : FnScope ["press", "numbers"] ["press", "numbers"] (defScope s_make_shot) := ⟨rfl, rfl, rfl, by decide +kernel, rfl, by decide +kernel, by decide +kernel⟩
theorem ok_make_shot {f : Addr} {fd : FuncData} (F : Fun K "make_shot" "make_shot" s_make_shot f fd) (T : Txt K mg C) (D_next_ages : Df P w K mg base 4 "next_ages" ["ages", "ratio"] (sp_next_ages K C)) (D_regrind_ratio : Df P w K mg base 3 "regrind_ratio" ["settings"] (sp_regrind_ratio K C)) (D_shot_with : Df P w K mg base 6 "shot_with" ["press", "ages"] (sp_shot_with K C)) : FnOk P w K mg base CX0 7 f fd ["press", "numbers"] (sp_make_shot K C) := by
  refine F.ok sc_make_shot (fun vs H Q E h => ?_) (fun cdv A outer s H vs Q E hr h => ?_)
  · obtain ⟨_, _, _, _, rfl, _⟩ := h
    rfl
  · obtain ⟨x, l, bb, p, rfl, h⟩ := h
    refine ⟨_, (pss_one (ps_ret (pe_df D_shot_with hr (by decide) rfl (pa_cons (pv 0) (pa_cons (pe_df D_next_ages hr (by decide) rfl (pa_cons (pe_fld (pv 0) rfl) (pa_cons (pe_df D_regrind_ratio hr (by decide) rfl (pa_cons (pe_fld (pv 0) rfl) pa_nil)) pa_nil))) pa_nil))))), ?_⟩
    obtain ⟨ps, k⟩ := h
    unfold RetO at k
    obtain ⟨w, s, xs, pr, ts, hl, hx⟩ := id ps
    have w1 := w.shots
    have w2 := w.len
    walk_at "rds"
    refine ⟨s, p, rfl, ts, w.s, fun v1 H1 e1 hv1 => ?_⟩
    walk_at "rds"
    refine ⟨.ref l, v1, p.ages, Sr119.regrindRatio p, 7 + 5 * p.shots, rfl, ⟨l, xs, rfl, SqL.of (e1 _ _ hl), hx.mono e1⟩, hv1, ratio_fr w.s, w.fr, by omega, by omega, fun q ys H2 hq e2 h2 hf2 => ?_⟩
    walk_at "rds"
    have e12 := e1.trans e2
    refine ⟨x, l, q, p, ys, nextOf p.ages (Sr119.regrindRatio p), rfl, ps.mono e12, SqL.of h2, hf2, fun f hf => (next_fr (ratio_fr w.s) w.fr f hf).mono (by omega), by rw [next_len]; omega, fun h12 => ?_, fun h12 => ⟨makeShot_wf w h12, ?_⟩⟩
    · rw [makeShot_full h12] at k
      exact k.at e12
    · rw [makeShot_eq w h12] at k
      exact k.at e12
abbrev s_make_virgin_shot : Stmt := top 50
theorem sc_make_virgin_shot : FnScope ["press", "numbers"] ["press", "numbers"] (defScope s_make_virgin_shot) := ⟨rfl, rfl, rfl, by decide +kernel, rfl, by decide +kernel, by decide +kernel⟩
theorem ok_make_virgin_shot {f : Addr} {fd : FuncData} (F : Fun K "make_virgin_shot" "make_virgin_shot" s_make_virgin_shot f fd) (T : Txt K mg C) (D_shot_with : Df P w K mg base 6 "shot_with" ["press", "ages"] (sp_shot_with K C)) : FnOk P w K mg base CX0 7 f fd ["press", "numbers"] (sp_make_virgin_shot K C) := by
  refine F.ok sc_make_virgin_shot (fun vs H Q E h => ?_) (fun cdv A outer s H vs Q E hr h => ?_)
  · obtain ⟨_, _, _, _, rfl, _⟩ := h
    rfl
  · obtain ⟨x, l, bb, p, rfl, h⟩ := h
    refine ⟨_, (pss_one (ps_ret (pe_df D_shot_with hr (by decide) rfl (pa_cons (pv 0) (pa_cons (pe_lst (pa_cons (pe_gt T.gW rfl) pa_nil)) pa_nil))))), ?_⟩
    obtain ⟨ps, k⟩ := h
    unfold RetO at k
    have w := ps.1
    walk_at "rds"
    intro z hz
    walk_at "rds"
    refine ⟨(by show 1 ≤ sizeLine; decide), fun q hq => ?_⟩
    have e1 : Same H (upd H q (.lst [.ref z])) := sNew hq
    walk_at "rds"
    refine ⟨x, l, q, p, [.ref z], [SrFraction.ofInt 1], rfl, ps.mono e1, SqL.of upd_same, .cons (FrAt.mono e1 ⟨z, rfl, hz⟩) .nil, fun f hf => ?_, by show 1 ≤ 20; omega, fun h12 => ?_, fun h12 => ⟨virginShot_wf w h12, ?_⟩⟩
    · rw [List.mem_singleton.mp hf]
      exact fr_one.mono (by omega)
    · rw [virgin_full h12] at k
      exact k.at e1
    · rw [virginShot_eq w h12] at k
      exact k.at e1
abbrev s_set_regrind : Stmt := top 51
theorem sc_set_regrind : FnScope ["press", "numbers", "old"] ["press", "numbers"] (defScope s_set_regrind) := ⟨rfl, rfl, rfl, by decide +kernel, rfl, by decide +kernel, by decide +kernel⟩
theorem ok_set_regrind {f : Addr} {fd : FuncData} (F : Fun K "set_regrind" "set_regrind" s_set_regrind f fd) (T : Txt K mg C) (D_is_regrind : Df P w K mg base 1 "is_regrind" ["regrind", "parts"] (sp_is_regrind K C)) (D_with_regrind : Df P w K mg base 1 "with_regrind" ["settings", "regrind"] (sp_with_regrind K C)) (M_take_settings : Mf P w K mg base C 1 "take_settings" ["self", "settings"] (sp_Press_take_settings K C)) : FnOk P w K mg base CX0 2 f fd ["press", "numbers"] (sp_set_regrind K C) := by
  refine F.ok sc_set_regrind (fun vs H Q E h => ?_) (fun cdv A outer s H vs Q E hr h => ?_)
  · obtain ⟨_, _, _, _, _, rfl, _⟩ := h
    rfl
  · obtain ⟨x, l, bb, p, r, rfl, h⟩ := h
    refine ⟨_, (pss_cons (ps_set (i := 2) sc_set_regrind.nd rfl (Or.inl rfl) (pe_fld (pv 0) rfl))
      (pss_cons (ps_if (pt_not (pt_val (pe_df D_is_regrind hr (by decide) rfl (pa_cons (pe_ix ix_list (pv 1) pe_int (fun _ _ => rfl)) (pa_cons (pe_ix ix_tup (pv 2) pe_int (fun _ _ => rfl)) pa_nil))))) (pss_one (ps_ret (pe_lst (pa_cons (pe_gi T.cOut rfl) pa_nil)))) pss_nil)
      (pss_cons (ps_expr (pe_mf (pv 0) T.cl M_take_settings hr (by decide) (pa_cons (pe_df D_with_regrind hr (by decide) rfl (pa_cons (pv 2) (pa_cons (pe_ix ix_list (pv 1) pe_int (fun _ _ => rfl)) pa_nil))) pa_nil)))
      (pss_one (ps_ret (pe_lst (pa_cons (pe_ix ix_tup (pv 2) pe_int (fun _ _ => rfl)) pa_nil))))))), ?_⟩
    obtain ⟨ps, hb, k⟩ := h
    unfold RetO at k
    obtain ⟨w, s, xs, pr, ts, hl, hx⟩ := id ps
    walk_at "rds"
    refine ⟨r, (p.parts : Int), rfl, ?_⟩
    walk_at "rds"
    cases hs : regOk r (p.parts : Int) with
    | false =>
      rw [setRegrind_no hs] at k
      refine iteT ?_
      walk_at "rds"
      exact ⟨(by show 1 ≤ sizeLine; decide), fun q hq => k.same ps hq⟩
    | true =>
      rw [setRegrind_eq hs] at k
      have w2 := setRegrind_wf w hs
      refine iteF ?_
      walk_at "rds"
      refine ⟨s, _, _, _, _, r, rfl, ts, fun q H1 hq e1 h1 => ?_⟩
      walk_at "rds"
      have pr1 := pr.mono e1
      refine ⟨x, l, .ref s, _, .ref q, rfl, pr1, fun H2 pr2 k2 => ?_⟩
      walk_at "rds"
      have ts2 := k2.tupP pr1 (tupE e1 ts)
      walk_at "rds"
      refine ⟨(by show 1 ≤ sizeLine; decide), fun p3 hp3 => ?_⟩
      have e3 : Same H2 (upd H2 p3 (.lst [.int (p.regrind : Int)])) := sNew hp3
      refine k p3 l _ (e1.free (k2.freeP pr2 hp3)) upd_same ⟨w2, q, xs, pr2.mono e3, ?_, e3 _ _ (k2.lstP pr1 (e1 _ _ hl)), (k2.fsP pr1 (hx.mono e1)).mono e3⟩ (.inl rfl) ((Kept.of e1 x).trans (k2.trans (Kept.of e3 x)))
      unfold regOk at hs
      simp only [Bool.and_eq_true, decide_eq_true_eq] at hs
      have er : ((r.toNat : Nat) : Int) = r := by omega
      show SqT K _ q (iv4 ((r.toNat : Nat) : Int) (p.parts : Int) (p.kept : Int) (p.keptOf : Int))
      rw [er]
      exact tupE e3 (k2.tupP pr1 (SqT.of h1))
abbrev s_set_retention : Stmt := top 52
theorem sc_set_retention : FnScope ["press", "numbers", "old"] ["press", "numbers"] (defScope s_set_retention) := ⟨rfl, rfl, rfl, by decide +kernel, rfl, by decide +kernel, by decide +kernel⟩
theorem ok_set_retention {f : Addr} {fd : FuncData} (F : Fun K "set_retention" "set_retention" s_set_retention f fd) (T : Txt K mg C) (D_is_retention : Df P w K mg base 1 "is_retention" ["kept", "kept_of"] (sp_is_retention K C)) (D_with_retention : Df P w K mg base 1 "with_retention" ["settings", "kept", "kept_of"] (sp_with_retention K C)) (M_take_settings : Mf P w K mg base C 1 "take_settings" ["self", "settings"] (sp_Press_take_settings K C)) : FnOk P w K mg base CX0 2 f fd ["press", "numbers"] (sp_set_retention K C) := by
  refine F.ok sc_set_retention (fun vs H Q E h => ?_) (fun cdv A outer s H vs Q E hr h => ?_)
  · obtain ⟨_, _, _, _, _, _, rfl, _⟩ := h
    rfl
  · obtain ⟨x, l, bb, p, c, d, rfl, h⟩ := h
    refine ⟨_, (pss_cons (ps_set (i := 2) sc_set_retention.nd rfl (Or.inl rfl) (pe_fld (pv 0) rfl))
      (pss_cons (ps_if (pt_not (pt_val (pe_df D_is_retention hr (by decide) rfl (pa_cons (pe_ix ix_list (pv 1) pe_int (fun _ _ => rfl)) (pa_cons (pe_ix ix_list (pv 1) pe_int (fun _ _ => rfl)) pa_nil))))) (pss_one (ps_ret (pe_lst (pa_cons (pe_gi T.cOut rfl) pa_nil)))) pss_nil)
      (pss_cons (ps_expr (pe_mf (pv 0) T.cl M_take_settings hr (by decide) (pa_cons (pe_df D_with_retention hr (by decide) rfl (pa_cons (pv 2) (pa_cons (pe_ix ix_list (pv 1) pe_int (fun _ _ => rfl)) (pa_cons (pe_ix ix_list (pv 1) pe_int (fun _ _ => rfl)) pa_nil)))) pa_nil)))
      (pss_one (ps_ret (pe_lst (pa_cons pe_int (pa_cons (pe_ix ix_tup (pv 2) pe_int (fun _ _ => rfl)) (pa_cons (pe_ix ix_tup (pv 2) pe_int (fun _ _ => rfl)) pa_nil))))))))), ?_⟩
    obtain ⟨ps, hb, k⟩ := h
    unfold RetO at k
    obtain ⟨w, s, xs, pr, ts, hl, hx⟩ := id ps
    walk_at "rds"
    refine ⟨c, d, rfl, ?_⟩
    walk_at "rds"
    cases hs : retOk c d with
    | false =>
      rw [setRetention_no hs] at k
      refine iteT ?_
      walk_at "rds"
      exact ⟨(by show 1 ≤ sizeLine; decide), fun q hq => k.same ps hq⟩
    | true =>
      rw [setRetention_eq hs] at k
      have w2 := setRetention_wf w hs
      refine iteF ?_
      walk_at "rds"
      refine ⟨s, _, _, _, _, c, d, rfl, ts, fun q H1 hq e1 h1 => ?_⟩
      walk_at "rds"
      have pr1 := pr.mono e1
      refine ⟨x, l, .ref s, _, .ref q, rfl, pr1, fun H2 pr2 k2 => ?_⟩
      walk_at "rds"
      have ts2 := k2.tupP pr1 (tupE e1 ts)
      walk_at "rds"
      refine ⟨(by show 3 ≤ sizeLine; decide), fun p3 hp3 => ?_⟩
      have e3 : Same H2 (upd H2 p3 (.lst [.int 0, .int (p.kept : Int), .int (p.keptOf : Int)])) := sNew hp3
      refine k p3 l _ (e1.free (k2.freeP pr2 hp3)) upd_same ⟨w2, q, xs, pr2.mono e3, ?_, e3 _ _ (k2.lstP pr1 (e1 _ _ hl)), (k2.fsP pr1 (hx.mono e1)).mono e3⟩ (.inl rfl) ((Kept.of e1 x).trans (k2.trans (Kept.of e3 x)))
      unfold retOk at hs
      simp only [Bool.and_eq_true, decide_eq_true_eq] at hs
      have ec : ((c.toNat : Nat) : Int) = c := by omega
      have ed : ((d.toNat : Nat) : Int) = d := by omega
      show SqT K _ q (iv4 (p.regrind : Int) (p.parts : Int) ((c.toNat : Nat) : Int) ((d.toNat : Nat) : Int))
      rw [ec, ed]
      exact tupE e3 (k2.tupP pr1 (SqT.of h1))
abbrev s_reset : Stmt := top 53
theorem sc_reset : FnScope ["press", "numbers", "old"] ["press", "numbers"] (defScope s_reset) := ⟨rfl, rfl, rfl, by decide +kernel, rfl, by decide +kernel, by decide +kernel⟩
theorem ok_reset {f : Addr} {fd : FuncData} (F : Fun K "reset" "reset" s_reset f fd) (T : Txt K mg C) (M_clear_shots : Mf P w K mg base C 1 "clear_shots" ["self"] (sp_Press_clear_shots K C)) : FnOk P w K mg base CX0 2 f fd ["press", "numbers"] (sp_reset K C) := by
  refine F.ok sc_reset (fun vs H Q E h => ?_) (fun cdv A outer s H vs Q E hr h => ?_)
  · obtain ⟨_, _, _, _, rfl, _⟩ := h
    rfl
  · obtain ⟨x, l, bb, p, rfl, h⟩ := h
    refine ⟨_, (pss_cons (ps_set (i := 2) sc_reset.nd rfl (Or.inl rfl) (pe_fld (pv 0) rfl))
      (pss_cons (ps_expr (pe_mf0 (pv 0) T.cl M_clear_shots hr (by decide)))
      (pss_one (ps_ret (pe_lst (pa_cons (pv 2) pa_nil)))))), ?_⟩
    obtain ⟨ps, k⟩ := h
    unfold RetO at k
    obtain ⟨w, s, xs, pr, ts, hl, hx⟩ := id ps
    rw [reset_eq] at k
    walk_at "rds"
    refine ⟨x, l, .ref s, _, rfl, pr, fun H1 l1 pr1 hl1 hn1 k1 => ?_⟩
    walk_at "rds"
    refine ⟨(by show 1 ≤ sizeLine; decide), fun q hq => ?_⟩
    have e2 : Same H1 (upd H1 q (.lst [.int (p.shots : Int)])) := sNew hq
    exact k q l1 _ (k1.freeP pr1 hq) upd_same ⟨reset_wf w, s, [], pr1.mono e2, tupE e2 (k1.tupP pr ts), e2 _ _ hl1, .nil⟩ (.inr hn1) (k1.trans (Kept.of e2 x))
abbrev s_age_fraction : Stmt := top 55
theorem sc_age_fraction : FnScope ["press", "numbers"] ["press", "numbers"] (defScope s_age_fraction) := ⟨rfl, rfl, rfl, by decide +kernel, rfl, by decide +kernel, by decide +kernel⟩
theorem ok_age_fraction {f : Addr} {fd : FuncData} (F : Fun K "age_fraction" "age_fraction" s_age_fraction f fd) (T : Txt K mg C) (D_told : Df P w K mg base 1 "told" ["part"] (sp_told K C)) (D_part_of_age : Df P w K mg base 1 "part_of_age" ["ages", "age"] (sp_part_of_age K C)) (M_has_shot : Mf P w K mg base C 1 "has_shot" ["self"] (sp_Press_has_shot K C)) : FnOk P w K mg base CX0 2 f fd ["press", "numbers"] (sp_age_fraction K C) := by
  refine F.ok sc_age_fraction (fun vs H Q E h => ?_) (fun cdv A outer s H vs Q E hr h => ?_)
  · obtain ⟨_, _, _, _, _, rfl, _⟩ := h
    rfl
  · obtain ⟨x, l, bb, p, m, rfl, h⟩ := h
    refine ⟨_, (pss_cons (ps_if (pt_cmpR op_lt (pe_ix ix_list (pv 1) pe_int (fun _ _ => rfl)) pe_int (nomark _)) (pss_one (ps_ret (pe_lst (pa_cons (pe_gi T.cOut rfl) pa_nil)))) pss_nil)
      (pss_cons (ps_if (pt_not (pt_val (pe_mf0 (pv 0) T.cl M_has_shot hr (by decide)))) (pss_one (ps_ret (pe_lst (pa_cons (pe_gi T.cNoShot rfl) pa_nil)))) pss_nil)
      (pss_one (ps_ret (pe_op op_cat (pe_lst (pa_cons pe_int pa_nil)) (pe_df D_told hr (by decide) rfl (pa_cons (pe_df D_part_of_age hr (by decide) rfl (pa_cons (pe_fld (pv 0) rfl) (pa_cons (pe_ix ix_list (pv 1) pe_int (fun _ _ => rfl)) pa_nil))) pa_nil))))))), ?_⟩
    obtain ⟨ps, hb, k⟩ := h
    obtain ⟨w, s, xs, pr, ts, hl, hx⟩ := id ps
    have w1 := w.shots
    have w2 := w.len
    walk_at "rds"
    refine rd_cases (fun hc => ?_) (fun hc => ?_)
    · have hm : m < 0 := of_decide_eq_true hc
      rw [ageFraction_neg hm] at k
      walk_at "rds"
      exact ⟨(by show 1 ≤ sizeLine; decide), fun q hq => k.new hq⟩
    · have hm : ¬ m < 0 := of_decide_eq_false hc
      walk_at "rds"
      refine ⟨x, l, .ref s, _, rfl, pr, ?_⟩
      walk_at "rds"
    
      refine rd_cases (fun hc => ?_) (fun hc => ?_)
      · have h0 : p.shots = 0 := by
          by_cases z : (0 : Int) < ((p.shots : Nat) : Int)
          · rw [decide_eq_true z] at hc
            cases hc
          · omega
        rw [ageFraction_no w hm h0] at k
        walk_at "rds"
        exact ⟨(by show 1 ≤ sizeLine; decide), fun q hq => k.new hq⟩
      · have h0 : p.shots ≠ 0 := by
          by_cases z : (0 : Int) < ((p.shots : Nat) : Int)
          · omega
          · rw [decide_eq_false z] at hc
            cases hc
        rw [ageFraction_eq w hm h0] at k
        walk_at "rds"
        refine ⟨(by show 1 ≤ sizeLine; decide), fun q hq => ?_⟩
        have e1 : Same H (upd H q (.lst [.int 0])) := sNew hq
        have hq1 : (upd H q (.lst [.int 0])) q = some (.lst ([0].map V.int)) := upd_same
        generalize upd H q (.lst [.int 0]) = H1 at e1 hq1 ⊢
        have pr1 := pr.mono e1
        try have hb1 := e1.seq hb
        walk_at "rds"
        refine ⟨.ref l, p.ages, m.toNat, ?_, ⟨l, xs, rfl, SqL.of (e1 _ _ hl), hx.mono e1⟩, by omega, fun v H3 e3 hv => ?_⟩
        · rw [show ((m.toNat : Nat) : Int) = m by omega]
          rfl
        walk_at "rds"
        refine ⟨v, _, rfl, hv, fun q2 H4 hq4 e4 h4 => ?_⟩
        exact rd_cat k ((e1.trans e3).trans e4) (e4 _ _ (e3 _ _ hq1)) h4 rfl (by simp)
abbrev s_older_than : Stmt := top 56
theorem sc_older_than : FnScope ["press", "numbers"] ["press", "numbers"] (defScope s_older_than) := ⟨rfl, rfl, rfl, by decide +kernel, rfl, by decide +kernel, by decide +kernel⟩
theorem ok_older_than {f : Addr} {fd : FuncData} (F : Fun K "older_than" "older_than" s_older_than f fd) (T : Txt K mg C) (D_told : Df P w K mg base 1 "told" ["part"] (sp_told K C)) (D_part_older_than : Df P w K mg base 5 "part_older_than" ["ages", "age"] (sp_part_older_than K C)) (M_has_shot : Mf P w K mg base C 1 "has_shot" ["self"] (sp_Press_has_shot K C)) : FnOk P w K mg base CX0 6 f fd ["press", "numbers"] (sp_older_than K C) := by
  refine F.ok sc_older_than (fun vs H Q E h => ?_) (fun cdv A outer s H vs Q E hr h => ?_)
  · obtain ⟨_, _, _, _, _, rfl, _⟩ := h
    rfl
  · obtain ⟨x, l, bb, p, m, rfl, h⟩ := h
    refine ⟨_, (pss_cons (ps_if (pt_cmpR op_lt (pe_ix ix_list (pv 1) pe_int (fun _ _ => rfl)) pe_int (nomark _)) (pss_one (ps_ret (pe_lst (pa_cons (pe_gi T.cOut rfl) pa_nil)))) pss_nil)
      (pss_cons (ps_if (pt_not (pt_val (pe_mf0 (pv 0) T.cl M_has_shot hr (by decide)))) (pss_one (ps_ret (pe_lst (pa_cons (pe_gi T.cNoShot rfl) pa_nil)))) pss_nil)
      (pss_one (ps_ret (pe_op op_cat (pe_lst (pa_cons pe_int pa_nil)) (pe_df D_told hr (by decide) rfl (pa_cons (pe_df D_part_older_than hr (by decide) rfl (pa_cons (pe_fld (pv 0) rfl) (pa_cons (pe_ix ix_list (pv 1) pe_int (fun _ _ => rfl)) pa_nil))) pa_nil))))))), ?_⟩
    obtain ⟨ps, hb, k⟩ := h
    obtain ⟨w, s, xs, pr, ts, hl, hx⟩ := id ps
    have w1 := w.shots
    have w2 := w.len
    walk_at "rds"
    refine rd_cases (fun hc => ?_) (fun hc => ?_)
    · have hm : m < 0 := of_decide_eq_true hc
      rw [olderThan_neg hm] at k
      walk_at "rds"
      exact ⟨(by show 1 ≤ sizeLine; decide), fun q hq => k.new hq⟩
    · have hm : ¬ m < 0 := of_decide_eq_false hc
      walk_at "rds"
      refine ⟨x, l, .ref s, _, rfl, pr, ?_⟩
      walk_at "rds"
    
      refine rd_cases (fun hc => ?_) (fun hc => ?_)
      · have h0 : p.shots = 0 := by
          by_cases z : (0 : Int) < ((p.shots : Nat) : Int)
          · rw [decide_eq_true z] at hc
            cases hc
          · omega
        rw [olderThan_no w hm h0] at k
        walk_at "rds"
        exact ⟨(by show 1 ≤ sizeLine; decide), fun q hq => k.new hq⟩
      · have h0 : p.shots ≠ 0 := by
          by_cases z : (0 : Int) < ((p.shots : Nat) : Int)
          · omega
          · rw [decide_eq_false z] at hc
            cases hc
        rw [olderThan_eq w hm h0] at k
        walk_at "rds"
        refine ⟨(by show 1 ≤ sizeLine; decide), fun q hq => ?_⟩
        have e1 : Same H (upd H q (.lst [.int 0])) := sNew hq
        have hq1 : (upd H q (.lst [.int 0])) q = some (.lst ([0].map V.int)) := upd_same
        generalize upd H q (.lst [.int 0]) = H1 at e1 hq1 ⊢
        have pr1 := pr.mono e1
        try have hb1 := e1.seq hb
        walk_at "rds"
        refine ⟨.ref l, p.ages, m.toNat, 7 + 5 * p.shots, ?_, ⟨l, xs, rfl, SqL.of (e1 _ _ hl), hx.mono e1⟩, w.fr, by omega, by omega, fun v H3 e3 hv => ?_⟩
        · rw [show ((m.toNat : Nat) : Int) = m by omega]
          rfl
        walk_at "rds"
        refine ⟨v, _, rfl, hv, fun q2 H4 hq4 e4 h4 => ?_⟩
        exact rd_cat k ((e1.trans e3).trans e4) (e4 _ _ (e3 _ _ hq1)) h4 rfl (by simp)
abbrev s_age_distribution : Stmt := top 57
theorem sc_age_distribution : FnScope ["press", "numbers", "found", "part"] ["press", "numbers"] (defScope s_age_distribution) := ⟨rfl, rfl, rfl, by decide +kernel, rfl, by decide +kernel, by decide +kernel⟩
theorem ok_age_distribution {f : Addr} {fd : FuncData} (F : Fun K "age_distribution" "age_distribution" s_age_distribution f fd) (T : Txt K mg C) (D_told : Df P w K mg base 1 "told" ["part"] (sp_told K C)) : FnOk P w K mg base CX0 2 f fd ["press", "numbers"] (sp_age_distribution K C) := by
  refine F.ok sc_age_distribution (fun vs H Q E h => ?_) (fun cdv A outer s H vs Q E hr h => ?_)
  · obtain ⟨_, _, _, _, rfl, _⟩ := h
    rfl
  · obtain ⟨x, l, bb, p, rfl, h⟩ := h
    refine ⟨_, (pss_cons (ps_set (i := 2) sc_age_distribution.nd rfl (Or.inl rfl) (pe_lst (pa_cons (pe_callB call_len_seq (by rfl) T.bLen PySem.boot_len (pa_cons (pe_fld (pv 0) rfl) pa_nil)) pa_nil)))
      (pss_cons (ps_for PassesOwn.never rfl (pi_list (pe_fld (pv 0) rfl)) (pg_name (i := 3) sc_age_distribution.nd rfl (Or.inl rfl)) (pss_one (ps_expr (pe_bm PySem.F.plainAttrs_list PySem.F.slot_list_extend PySem.F.type_list_extend mt_extend (pv 2) (pa_cons (pe_df D_told hr (by decide) rfl (pa_cons (pv 3) pa_nil)) pa_nil)))))
      (pss_one (ps_ret (pv 2))))), ?_⟩
    obtain ⟨ps, k⟩ := h
    obtain ⟨w, s, xs, pr, ts, hl, hx⟩ := id ps
    have w1 := w.shots
    have w2 := w.len
    rw [ageDistribution_eq] at k
    walk_at "rds"
    refine ⟨l, xs, rfl, .inl (SqL.of hl), ?_⟩
    walk_at "rds"
    refine ⟨(by show 1 ≤ sizeLine; decide), fun q hq => ?_⟩
    have e1 : Same H (upd H q (.lst [.int ((xs.length : Nat) : Int)])) := sNew hq
    have hq1 : (upd H q (.lst [.int ((xs.length : Nat) : Int)])) q = some (.lst [.int ((xs.length : Nat) : Int)]) := upd_same
    have pr1 := pr.mono e1
    walk_at "rds"
    obtain ⟨dx, hdx⟩ := id pr1
    refine ⟨_, rfl, x, C, dx, _, _, rfl, hdx, T.cl, T.n3, prF_a, l, rfl, ⟨_, SqL.of (e1 _ _ hl)⟩, for_list (K := K) (a := l) (xs := xs) (fun i σ' H' => ∃ u, σ' = [some (.ref x), some (.ref bb), some (.ref q), u] ∧ Same H H' ∧ H' q = some (.lst (((p.ages.length : Int) :: (p.ages.take i).flatMap SrFraction.encode).map V.int))) ⟨_, rfl, e1, ?_⟩ (fun i σ' H' _ ⟨_, _, e, _⟩ => SqL.of (e _ _ hl)) ?_ ?_⟩
    · rw [hq1, hx.len]
      rfl
    · rintro i y σ' H' hi ⟨u, rfl, e, hh⟩
      obtain ⟨f, hf, hy⟩ := (hx.mono e).get hi
      have hil : i < p.ages.length := (List.getElem?_eq_some_iff.mp hf).1
      walk_at "rds"
      refine ⟨_, rfl, .inl ⟨rfl, _, SqL.of hh⟩, ?_⟩
      walk_at "rds"
      refine ⟨y, f, rfl, hy, fun q2 H4 hq4 e4 h4 => ?_⟩
      refine ⟨q, q2, _, _, rfl, rfl, e4 _ _ hh, h4, ?_, ?_⟩
      · have := enc_len (p.ages.take i)
        rw [List.length_take] at this
        refine small20 ?_
        rw [List.length_map, List.length_map, List.length_cons]
        show (List.flatMap SrFraction.encode (List.take i p.ages)).length + 1 + 2 ≤ 1000
        omega
      · refine ⟨some y, rfl, sMut (e.trans e4) hq, ?_⟩
        rw [upd_same, ← List.map_append, List.take_add_one, hf, List.flatMap_append]
        rfl
    · rintro σ' H' ⟨u, rfl, e, hh⟩
      rw [hx.len, List.take_length] at hh
      walk_at "rds"
      exact k q _ hq e hh
abbrev s_strength : Stmt := top 58
theorem sc_strength : FnScope ["press", "numbers"] ["press", "numbers"] (defScope s_strength) := ⟨rfl, rfl, rfl, by decide +kernel, rfl, by decide +kernel, by decide +kernel⟩
theorem ok_strength {f : Addr} {fd : FuncData} (F : Fun K "strength" "strength" s_strength f fd) (T : Txt K mg C) (D_told : Df P w K mg base 1 "told" ["part"] (sp_told K C)) (M_has_shot : Mf P w K mg base C 1 "has_shot" ["self"] (sp_Press_has_shot K C)) (M_last_strength : Mf P w K mg base C 5 "last_strength" ["self"] (sp_Press_last_strength K C)) : FnOk P w K mg base CX0 6 f fd ["press", "numbers"] (sp_strength K C) := by
  refine F.ok sc_strength (fun vs H Q E h => ?_) (fun cdv A outer s H vs Q E hr h => ?_)
  · obtain ⟨_, _, _, _, rfl, _⟩ := h
    rfl
  · obtain ⟨x, l, bb, p, rfl, h⟩ := h
    refine ⟨_, (pss_one (ps_ret (pe_ifExp (pt_val (pe_mf0 (pv 0) T.cl M_has_shot hr (by decide))) (pe_op op_cat (pe_lst (pa_cons pe_int pa_nil)) (pe_df D_told hr (by decide) rfl (pa_cons (pe_mf0 (pv 0) T.cl M_last_strength hr (by decide)) pa_nil))) (pe_lst (pa_cons (pe_gi T.cNoShot rfl) pa_nil))))), ?_⟩
    obtain ⟨ps, k⟩ := h
    obtain ⟨w, s, xs, pr, ts, hl, hx⟩ := id ps
    have w1 := w.shots
    have w2 := w.len
    walk_at "rds"
    refine ⟨x, l, .ref s, _, rfl, pr, ?_⟩
    walk_at "rds"
    
    refine rd_cases (fun hc => ?_) (fun hc => ?_)
    · have h0 : p.shots ≠ 0 := by
        have z : (0 : Int) < ((p.shots : Nat) : Int) := of_decide_eq_true hc
        omega
      rw [strength_ans w h0] at k
      walk_at "rds"
      refine ⟨(by show 1 ≤ sizeLine; decide), fun q hq => ?_⟩
      have e1 : Same H (upd H q (.lst [.int 0])) := sNew hq
      have hq1 : (upd H q (.lst [.int 0])) q = some (.lst ([0].map V.int)) := upd_same
      generalize upd H q (.lst [.int 0]) = H1 at e1 hq1 ⊢
      have pr1 := pr.mono e1
      try have hb1 := e1.seq hb
      walk_at "rds"
      refine ⟨x, s, l, _, p, xs, p.ages, 7 + 5 * p.shots, rfl, pr1, tupE e1 ts, w.s, e1 _ _ hl, hx.mono e1, w.fr, by omega, by omega, fun v H3 e3 hv => ?_⟩
      walk_at "rds"
      refine ⟨v, _, rfl, hv, fun q2 H4 hq4 e4 h4 => ?_⟩
      exact rd_cat k ((e1.trans e3).trans e4) (e4 _ _ (e3 _ _ hq1)) h4 rfl (by simp)
    · have h0 : p.shots = 0 := by
        have z : ¬ (0 : Int) < ((p.shots : Nat) : Int) := of_decide_eq_false hc
        omega
      rw [strength_no w h0] at k
      walk_at "rds"
      exact ⟨(by show 1 ≤ sizeLine; decide), fun q hq => k.new hq⟩
abbrev s_mean_age : Stmt := top 59
theorem sc_mean_age : FnScope ["press", "numbers"] ["press", "numbers"] (defScope s_mean_age) := ⟨rfl, rfl, rfl, by decide +kernel, rfl, by decide +kernel, by decide +kernel⟩
theorem ok_mean_age {f : Addr} {fd : FuncData} (F : Fun K "mean_age" "mean_age" s_mean_age f fd) (T : Txt K mg C) (D_told : Df P w K mg base 1 "told" ["part"] (sp_told K C)) (D_mean_age_of : Df P w K mg base 5 "mean_age_of" ["ages"] (sp_mean_age_of K C)) (M_has_shot : Mf P w K mg base C 1 "has_shot" ["self"] (sp_Press_has_shot K C)) : FnOk P w K mg base CX0 6 f fd ["press", "numbers"] (sp_mean_age K C) := by
  refine F.ok sc_mean_age (fun vs H Q E h => ?_) (fun cdv A outer s H vs Q E hr h => ?_)
  · obtain ⟨_, _, _, _, rfl, _⟩ := h
    rfl
  · obtain ⟨x, l, bb, p, rfl, h⟩ := h
    refine ⟨_, (pss_one (ps_ret (pe_ifExp (pt_val (pe_mf0 (pv 0) T.cl M_has_shot hr (by decide))) (pe_op op_cat (pe_lst (pa_cons pe_int pa_nil)) (pe_df D_told hr (by decide) rfl (pa_cons (pe_df D_mean_age_of hr (by decide) rfl (pa_cons (pe_fld (pv 0) rfl) pa_nil)) pa_nil))) (pe_lst (pa_cons (pe_gi T.cNoShot rfl) pa_nil))))), ?_⟩
    obtain ⟨ps, k⟩ := h
    obtain ⟨w, s, xs, pr, ts, hl, hx⟩ := id ps
    have w1 := w.shots
    have w2 := w.len
    walk_at "rds"
    refine ⟨x, l, .ref s, _, rfl, pr, ?_⟩
    walk_at "rds"
    
    refine rd_cases (fun hc => ?_) (fun hc => ?_)
    · have h0 : p.shots ≠ 0 := by
        have z : (0 : Int) < ((p.shots : Nat) : Int) := of_decide_eq_true hc
        omega
      rw [meanAge_eq w h0] at k
      walk_at "rds"
      refine ⟨(by show 1 ≤ sizeLine; decide), fun q hq => ?_⟩
      have e1 : Same H (upd H q (.lst [.int 0])) := sNew hq
      have hq1 : (upd H q (.lst [.int 0])) q = some (.lst ([0].map V.int)) := upd_same
      generalize upd H q (.lst [.int 0]) = H1 at e1 hq1 ⊢
      have pr1 := pr.mono e1
      try have hb1 := e1.seq hb
      walk_at "rds"
      refine ⟨.ref l, p.ages, 7 + 5 * p.shots, rfl, ⟨l, xs, rfl, SqL.of (e1 _ _ hl), hx.mono e1⟩, w.fr, by omega, by omega, fun v H3 e3 hv => ?_⟩
      walk_at "rds"
      refine ⟨v, _, rfl, hv, fun q2 H4 hq4 e4 h4 => ?_⟩
      exact rd_cat k ((e1.trans e3).trans e4) (e4 _ _ (e3 _ _ hq1)) h4 rfl (by simp)
    · have h0 : p.shots = 0 := by
        have z : ¬ (0 : Int) < ((p.shots : Nat) : Int) := of_decide_eq_false hc
        omega
      rw [meanAge_no w h0] at k
      walk_at "rds"
      exact ⟨(by show 1 ≤ sizeLine; decide), fun q hq => k.new hq⟩
abbrev s_limits : Stmt := top 60
theorem sc_limits : FnScope ["press", "numbers"] ["press", "numbers"] (defScope s_limits) := ⟨rfl, rfl, rfl, by decide +kernel, rfl, by decide +kernel, by decide +kernel⟩
theorem ok_limits {f : Addr} {fd : FuncData} (F : Fun K "limits" "limits" s_limits f fd) (T : Txt K mg C) (D_told : Df P w K mg base 1 "told" ["part"] (sp_told K C)) (D_strength_limit : Df P w K mg base 3 "strength_limit" ["settings"] (sp_strength_limit K C)) (D_mean_age_limit : Df P w K mg base 3 "mean_age_limit" ["settings"] (sp_mean_age_limit K C)) : FnOk P w K mg base CX0 4 f fd ["press", "numbers"] (sp_limits K C) := by
  refine F.ok sc_limits (fun vs H Q E h => ?_) (fun cdv A outer s H vs Q E hr h => ?_)
  · obtain ⟨_, _, _, _, rfl, _⟩ := h
    rfl
  · obtain ⟨x, l, bb, p, rfl, h⟩ := h
    refine ⟨_, (pss_one (ps_ret (pe_op op_cat (pe_op op_cat (pe_lst (pa_cons pe_int pa_nil)) (pe_df D_told hr (by decide) rfl (pa_cons (pe_df D_strength_limit hr (by decide) rfl (pa_cons (pe_fld (pv 0) rfl) pa_nil)) pa_nil))) (pe_df D_told hr (by decide) rfl (pa_cons (pe_df D_mean_age_limit hr (by decide) rfl (pa_cons (pe_fld (pv 0) rfl) pa_nil)) pa_nil))))), ?_⟩
    obtain ⟨ps, k⟩ := h
    obtain ⟨w, s, xs, pr, ts, hl, hx⟩ := id ps
    have w1 := w.shots
    have w2 := w.len
    rw [limits_eq w] at k
    walk_at "rds"
    refine ⟨(by show 1 ≤ sizeLine; decide), fun q hq => ?_⟩
    have e1 : Same H (upd H q (.lst [.int 0])) := sNew hq
    have hq1 : (upd H q (.lst [.int 0])) q = some (.lst ([0].map V.int)) := upd_same
    generalize upd H q (.lst [.int 0]) = H1 at e1 hq1 ⊢
    have pr1 := pr.mono e1
    walk_at "rds"
    refine ⟨s, p, rfl, tupE e1 ts, w.s, fun v H3 e3 hv => ?_⟩
    walk_at "rds"
    refine ⟨v, _, rfl, hv, fun q2 H4 hq4 e4 h4 => ?_⟩
    have e14 := (e1.trans e3).trans e4
    refine rd_cat (ns := [0, (limOf p).num, ((limOf p).den : Int)]) (H0 := H4) (fun q5 H5 hq5 e5 h5 => ?_) (Same.refl H4) (e4 _ _ (e3 _ _ hq1)) h4 rfl (by simp)
    have pr5 := pr.mono (e14.trans e5)
    walk_at "rds"
    refine ⟨s, p, rfl, tupE (e14.trans e5) ts, w.s, fun v6 H6 e6 hv6 => ?_⟩
    walk_at "rds"
    refine ⟨v6, _, rfl, hv6, fun q7 H7 hq7 e7 h7 => ?_⟩
    exact rd_cat k (((e14.trans e5).trans e6).trans e7) (e7 _ _ (e6 _ _ h5)) h7 rfl (by simp)
abbrev s_strength_above_limit : Stmt := top 61
theorem sc_strength_above_limit : FnScope ["press", "numbers"] ["press", "numbers"] (defScope s_strength_above_limit) := ⟨rfl, rfl, rfl, by decide +kernel, rfl, by decide +kernel, by decide +kernel⟩
theorem ok_strength_above_limit {f : Addr} {fd : FuncData} (F : Fun K "strength_above_limit" "strength_above_limit" s_strength_above_limit f fd) (T : Txt K mg C) (D_minus : Df P w K mg base 3 "minus" ["one", "other"] (sp_minus K C)) (D_told : Df P w K mg base 1 "told" ["part"] (sp_told K C)) (D_strength_limit : Df P w K mg base 3 "strength_limit" ["settings"] (sp_strength_limit K C)) (M_has_shot : Mf P w K mg base C 1 "has_shot" ["self"] (sp_Press_has_shot K C)) (M_last_strength : Mf P w K mg base C 5 "last_strength" ["self"] (sp_Press_last_strength K C)) : FnOk P w K mg base CX0 6 f fd ["press", "numbers"] (sp_strength_above_limit K C) := by
  refine F.ok sc_strength_above_limit (fun vs H Q E h => ?_) (fun cdv A outer s H vs Q E hr h => ?_)
  · obtain ⟨_, _, _, _, rfl, _⟩ := h
    rfl
  · obtain ⟨x, l, bb, p, rfl, h⟩ := h
    refine ⟨_, (pss_cons (ps_if (pt_not (pt_val (pe_mf0 (pv 0) T.cl M_has_shot hr (by decide)))) (pss_one (ps_ret (pe_lst (pa_cons (pe_gi T.cNoShot rfl) pa_nil)))) pss_nil)
      (pss_one (ps_ret (pe_op op_cat (pe_lst (pa_cons pe_int pa_nil)) (pe_df D_told hr (by decide) rfl (pa_cons (pe_df D_minus hr (by decide) rfl (pa_cons (pe_mf0 (pv 0) T.cl M_last_strength hr (by decide)) (pa_cons (pe_df D_strength_limit hr (by decide) rfl (pa_cons (pe_fld (pv 0) rfl) pa_nil)) pa_nil))) pa_nil)))))), ?_⟩
    obtain ⟨ps, k⟩ := h
    obtain ⟨w, s, xs, pr, ts, hl, hx⟩ := id ps
    have w1 := w.shots
    have w2 := w.len
    walk_at "rds"
    refine ⟨x, l, .ref s, _, rfl, pr, ?_⟩
    walk_at "rds"
    
    refine rd_cases (fun hc => ?_) (fun hc => ?_)
    · have h0 : p.shots = 0 := by
        by_cases z : (0 : Int) < ((p.shots : Nat) : Int)
        · rw [decide_eq_true z] at hc
          cases hc
        · omega
      rw [aboveLimit_no w h0] at k
      walk_at "rds"
      exact ⟨(by show 1 ≤ sizeLine; decide), fun q hq => k.new hq⟩
    · have h0 : p.shots ≠ 0 := by
        by_cases z : (0 : Int) < ((p.shots : Nat) : Int)
        · omega
        · rw [decide_eq_false z] at hc
          cases hc
      rw [aboveLimit_eq w h0] at k
      walk_at "rds"
      refine ⟨(by show 1 ≤ sizeLine; decide), fun q hq => ?_⟩
      have e1 : Same H (upd H q (.lst [.int 0])) := sNew hq
      have hq1 : (upd H q (.lst [.int 0])) q = some (.lst ([0].map V.int)) := upd_same
      generalize upd H q (.lst [.int 0]) = H1 at e1 hq1 ⊢
      have pr1 := pr.mono e1
      try have hb1 := e1.seq hb
      walk_at "rds"
      have hb : p.ages.length * (7 + 5 * p.shots + 6) ≤ 12 * 73 := Nat.mul_le_mul (by omega) (by omega)
      refine ⟨x, s, l, _, p, xs, p.ages, 7 + 5 * p.shots, rfl, pr1, tupE e1 ts, w.s, e1 _ _ hl, hx.mono e1, w.fr, by omega, by omega, fun v5 H5 e5 hv5 => ?_⟩
      have pr5 := pr1.mono e5
      walk_at "rds"
      refine ⟨s, p, rfl, tupE (e1.trans e5) ts, w.s, fun v6 H6 e6 hv6 => ?_⟩
      walk_at "rds"
      refine ⟨v5, v6, _, limOf p, _, 10, rfl, hv5.mono e6, hv6, horner_fr' (ret_fr w.s) w.fr, lim_fr w.s, by omega, fun v H3 e7 hv => ?_⟩
      have e3 := (e5.trans e6).trans e7
      walk_at "rds"
      refine ⟨v, _, rfl, hv, fun q2 H4 hq4 e4 h4 => ?_⟩
      exact rd_cat k ((e1.trans e3).trans e4) (e4 _ _ (e3 _ _ hq1)) h4 rfl (by simp)
abbrev s_strength_after : Stmt := top 62
theorem sc_strength_after : FnScope ["press", "numbers"] ["press", "numbers"] (defScope s_strength_after) := ⟨rfl, rfl, rfl, by decide +kernel, rfl, by decide +kernel, by decide +kernel⟩
theorem ok_strength_after {f : Addr} {fd : FuncData} (F : Fun K "strength_after" "strength_after" s_strength_after f fd) (T : Txt K mg C) (D_told : Df P w K mg base 1 "told" ["part"] (sp_told K C)) (D_is_number_of_shots : Df P w K mg base 1 "is_number_of_shots" ["number"] (sp_is_number_of_shots K C)) (D_strength_after_shots : Df P w K mg base 6 "strength_after_shots" ["settings", "many"] (sp_strength_after_shots K C)) : FnOk P w K mg base CX0 7 f fd ["press", "numbers"] (sp_strength_after K C) := by
  refine F.ok sc_strength_after (fun vs H Q E h => ?_) (fun cdv A outer s H vs Q E hr h => ?_)
  · obtain ⟨_, _, _, _, _, rfl, _⟩ := h
    rfl
  · obtain ⟨x, l, bb, p, m, rfl, h⟩ := h
    refine ⟨_, (pss_cons (ps_if (pt_not (pt_val (pe_df D_is_number_of_shots hr (by decide) rfl (pa_cons (pe_ix ix_list (pv 1) pe_int (fun _ _ => rfl)) pa_nil)))) (pss_one (ps_ret (pe_lst (pa_cons (pe_gi T.cOut rfl) pa_nil)))) pss_nil)
      (pss_one (ps_ret (pe_op op_cat (pe_lst (pa_cons pe_int pa_nil)) (pe_df D_told hr (by decide) rfl (pa_cons (pe_df D_strength_after_shots hr (by decide) rfl (pa_cons (pe_fld (pv 0) rfl) (pa_cons (pe_ix ix_list (pv 1) pe_int (fun _ _ => rfl)) pa_nil))) pa_nil)))))), ?_⟩
    obtain ⟨ps, hb, k⟩ := h
    obtain ⟨w, s, xs, pr, ts, hl, hx⟩ := id ps
    have w1 := w.shots
    have w2 := w.len
    walk_at "rds"
    refine ⟨m, rfl, ?_⟩
    walk_at "rds"
    
    cases hs : countOk m with
    | false =>
      refine iteT ?_
      rw [strengthAfter_no hs] at k
      walk_at "rds"
      exact ⟨(by show 1 ≤ sizeLine; decide), fun q hq => k.new hq⟩
    | true =>
      refine iteF ?_
      have hm : 1 ≤ m ∧ m ≤ 12 := by
        unfold countOk at hs
        simp only [Bool.and_eq_true, decide_eq_true_eq] at hs
        exact hs
    
      rw [strengthAfter_eq w hs] at k
      walk_at "rds"
      refine ⟨(by show 1 ≤ sizeLine; decide), fun q hq => ?_⟩
      have e1 : Same H (upd H q (.lst [.int 0])) := sNew hq
      have hq1 : (upd H q (.lst [.int 0])) q = some (.lst ([0].map V.int)) := upd_same
      generalize upd H q (.lst [.int 0]) = H1 at e1 hq1 ⊢
      have pr1 := pr.mono e1
      try have hb1 := e1.seq hb
      walk_at "rds"
      refine ⟨s, p, m.toNat, ?_, tupE e1 ts, w.s, by omega, fun v H3 e3 hv => ?_⟩
      · rw [show ((m.toNat : Nat) : Int) = m by omega]
        rfl
      walk_at "rds"
      refine ⟨v, _, rfl, hv, fun q2 H4 hq4 e4 h4 => ?_⟩
      exact rd_cat k ((e1.trans e3).trans e4) (e4 _ _ (e3 _ _ hq1)) h4 rfl (by simp)
abbrev s_max_regrind : Stmt := top 63
theorem sc_max_regrind : FnScope ["press", "numbers", "found"] ["press", "numbers"] (defScope s_max_regrind) := ⟨rfl, rfl, rfl, by decide +kernel, rfl, by decide +kernel, by decide +kernel⟩
theorem ok_max_regrind {f : Addr} {fd : FuncData} (F : Fun K "max_regrind" "max_regrind" s_max_regrind f fd) (T : Txt K mg C) (D_reduced : Df P w K mg base 2 "reduced" ["top", "low"] (sp_reduced K C)) (D_is_threshold : Df P w K mg base 1 "is_threshold" ["num", "den"] (sp_is_threshold K C)) (D_greatest_regrind : Df P w K mg base 4 "greatest_regrind" ["settings", "threshold"] (sp_greatest_regrind K C)) : FnOk P w K mg base CX0 5 f fd ["press", "numbers"] (sp_max_regrind K C) := by
  refine F.ok sc_max_regrind (fun vs H Q E h => ?_) (fun cdv A outer s H vs Q E hr h => ?_)
  · obtain ⟨_, _, _, _, _, _, rfl, _⟩ := h
    rfl
  · obtain ⟨x, l, bb, p, a, b, rfl, h⟩ := h
    refine ⟨_, (pss_cons (ps_if (pt_not (pt_val (pe_df D_is_threshold hr (by decide) rfl (pa_cons (pe_ix ix_list (pv 1) pe_int (fun _ _ => rfl)) (pa_cons (pe_ix ix_list (pv 1) pe_int (fun _ _ => rfl)) pa_nil))))) (pss_one (ps_ret (pe_lst (pa_cons (pe_gi T.cOut rfl) pa_nil)))) pss_nil)
      (pss_cons (ps_set (i := 2) sc_max_regrind.nd rfl (Or.inl rfl) (pe_df D_greatest_regrind hr (by decide) rfl (pa_cons (pe_fld (pv 0) rfl) (pa_cons (pe_df D_reduced hr (by decide) rfl (pa_cons (pe_ix ix_list (pv 1) pe_int (fun _ _ => rfl)) (pa_cons (pe_ix ix_list (pv 1) pe_int (fun _ _ => rfl)) pa_nil))) pa_nil))))
      (pss_one (ps_ret (pe_ifExp (pt_cmp (pc_isN (pv 2))) (pe_lst (pa_cons (pe_gi T.cNoVal rfl) pa_nil)) (pe_lst (pa_cons (pv 2) pa_nil))))))), ?_⟩
    obtain ⟨ps, hb, ha, k⟩ := h
    obtain ⟨w, s, xs, pr, ts, hl, hx⟩ := id ps
    walk_at "rds"
    refine ⟨a, b, rfl, ?_⟩
    walk_at "rds"
    
    cases hs : thrOk a b with
    | false =>
      refine iteT ?_
      rw [maxRegrind_no hs] at k
      walk_at "rds"
      exact ⟨(by show 1 ≤ sizeLine; decide), fun q hq => k.new hq⟩
    | true =>
      refine iteF ?_
      have hm : 0 ≤ a ∧ 1 ≤ b ∧ b ≤ 1000 := by
        unfold thrOk at hs
        simp only [Bool.and_eq_true, decide_eq_true_eq] at hs
        exact hs
      rw [maxRegrind_ans w hs] at k
      walk_at "rds"
      refine ⟨a, b.toNat, 33, ?_, by omega, by omega, by omega, by omega, by omega, fun v H3 e3 hv => ?_⟩
      · rw [show ((b.toNat : Nat) : Int) = b by omega]
        rfl
      have ft : Fr 33 (SrFraction.mk a b.toNat) := fr_mk (by omega) (by omega) (by omega)
      walk_at "rds"
      refine ⟨s, p, v, SrFraction.mk a b.toNat, 33, rfl, tupE e3 ts, w.s, hv, ft, by omega, fun H4 e4 => ?_⟩
      have k4 := k.at (e3.trans e4)
      walk_at "rds"
      cases hz : lastUp (strongAt p (SrFraction.mk a b.toNat)) p.parts with
      | none =>
        rw [hz] at k4
        refine iteT ?_
        walk_at "rds"
        exact ⟨(by show 1 ≤ sizeLine; decide), fun q hq => k4.new hq⟩
      | some r =>
        rw [hz] at k4
        refine iteF ?_
        walk_at "rds"
        exact ⟨(by show 1 ≤ sizeLine; decide), fun q hq => k4.new hq⟩
abbrev s_first_weak_shot : Stmt := top 64
theorem sc_first_weak_shot : FnScope ["press", "numbers", "found"] ["press", "numbers"] (defScope s_first_weak_shot) := ⟨rfl, rfl, rfl, by decide +kernel, rfl, by decide +kernel, by decide +kernel⟩
theorem ok_first_weak_shot {f : Addr} {fd : FuncData} (F : Fun K "first_weak_shot" "first_weak_shot" s_first_weak_shot f fd) (T : Txt K mg C) (D_reduced : Df P w K mg base 2 "reduced" ["top", "low"] (sp_reduced K C)) (D_is_threshold : Df P w K mg base 1 "is_threshold" ["num", "den"] (sp_is_threshold K C)) (D_first_weak : Df P w K mg base 7 "first_weak" ["settings", "threshold"] (sp_first_weak K C)) : FnOk P w K mg base CX0 8 f fd ["press", "numbers"] (sp_first_weak_shot K C) := by
  refine F.ok sc_first_weak_shot (fun vs H Q E h => ?_) (fun cdv A outer s H vs Q E hr h => ?_)
  · obtain ⟨_, _, _, _, _, _, rfl, _⟩ := h
    rfl
  · obtain ⟨x, l, bb, p, a, b, rfl, h⟩ := h
    refine ⟨_, (pss_cons (ps_if (pt_not (pt_val (pe_df D_is_threshold hr (by decide) rfl (pa_cons (pe_ix ix_list (pv 1) pe_int (fun _ _ => rfl)) (pa_cons (pe_ix ix_list (pv 1) pe_int (fun _ _ => rfl)) pa_nil))))) (pss_one (ps_ret (pe_lst (pa_cons (pe_gi T.cOut rfl) pa_nil)))) pss_nil)
      (pss_cons (ps_set (i := 2) sc_first_weak_shot.nd rfl (Or.inl rfl) (pe_df D_first_weak hr (by decide) rfl (pa_cons (pe_fld (pv 0) rfl) (pa_cons (pe_df D_reduced hr (by decide) rfl (pa_cons (pe_ix ix_list (pv 1) pe_int (fun _ _ => rfl)) (pa_cons (pe_ix ix_list (pv 1) pe_int (fun _ _ => rfl)) pa_nil))) pa_nil))))
      (pss_one (ps_ret (pe_ifExp (pt_cmp (pc_isN (pv 2))) (pe_lst (pa_cons (pe_gi T.cNoVal rfl) pa_nil)) (pe_lst (pa_cons (pv 2) pa_nil))))))), ?_⟩
    obtain ⟨ps, hb, ha, k⟩ := h
    obtain ⟨w, s, xs, pr, ts, hl, hx⟩ := id ps
    walk_at "rds"
    refine ⟨a, b, rfl, ?_⟩
    walk_at "rds"
    
    cases hs : thrOk a b with
    | false =>
      refine iteT ?_
      rw [firstWeakShot_no hs] at k
      walk_at "rds"
      exact ⟨(by show 1 ≤ sizeLine; decide), fun q hq => k.new hq⟩
    | true =>
      refine iteF ?_
      have hm : 0 ≤ a ∧ 1 ≤ b ∧ b ≤ 1000 := by
        unfold thrOk at hs
        simp only [Bool.and_eq_true, decide_eq_true_eq] at hs
        exact hs
      rw [firstWeakShot_ans hs] at k
      walk_at "rds"
      refine ⟨a, b.toNat, 33, ?_, by omega, by omega, by omega, by omega, by omega, fun v H3 e3 hv => ?_⟩
      · rw [show ((b.toNat : Nat) : Int) = b by omega]
        rfl
      have ft : Fr 33 (SrFraction.mk a b.toNat) := fr_mk (by omega) (by omega) (by omega)
      walk_at "rds"
      refine ⟨s, p, v, SrFraction.mk a b.toNat, 33, rfl, tupE e3 ts, w.s, hv, ft, by omega, fun H4 e4 => ?_⟩
      have k4 := k.at (e3.trans e4)
      walk_at "rds"
      cases hz : Sr119.firstWeakShot p (SrFraction.mk a b.toNat) with
      | none =>
        rw [hz] at k4
        refine iteT ?_
        walk_at "rds"
        exact ⟨(by show 1 ≤ sizeLine; decide), fun q hq => k4.new hq⟩
      | some r =>
        rw [hz] at k4
        refine iteF ?_
        walk_at "rds"
        exact ⟨(by show 1 ≤ sizeLine; decide), fun q hq => k4.new hq⟩
abbrev s_strength_after_if : Stmt := top 65
theorem sc_strength_after_if : FnScope ["press", "numbers", "regrind", "many"] ["press", "numbers"] (defScope s_strength_after_if) := ⟨rfl, rfl, rfl, by decide +kernel, rfl, by decide +kernel, by decide +kernel⟩
theorem ok_strength_after_if {f : Addr} {fd : FuncData} (F : Fun K "strength_after_if" "strength_after_if" s_strength_after_if f fd) (T : Txt K mg C) (D_told : Df P w K mg base 1 "told" ["part"] (sp_told K C)) (D_is_regrind : Df P w K mg base 1 "is_regrind" ["regrind", "parts"] (sp_is_regrind K C)) (D_with_regrind : Df P w K mg base 1 "with_regrind" ["settings", "regrind"] (sp_with_regrind K C)) (D_is_number_of_shots : Df P w K mg base 1 "is_number_of_shots" ["number"] (sp_is_number_of_shots K C)) (D_strength_after_shots : Df P w K mg base 6 "strength_after_shots" ["settings", "many"] (sp_strength_after_shots K C)) : FnOk P w K mg base CX0 7 f fd ["press", "numbers"] (sp_strength_after_if K C) := by
  refine F.ok sc_strength_after_if (fun vs H Q E h => ?_) (fun cdv A outer s H vs Q E hr h => ?_)
  · obtain ⟨_, _, _, _, _, _, rfl, _⟩ := h
    rfl
  · obtain ⟨x, l, bb, p, r, m, rfl, h⟩ := h
    refine ⟨_, (pss_cons (ps_par (i := 2) (j := 3) (by rfl) sc_strength_after_if.nd rfl rfl (by decide) rfl rfl (pa_cons (pe_ix ix_list (pv 1) pe_int (fun _ _ => rfl)) (pa_cons (pe_ix ix_list (pv 1) pe_int (fun _ _ => rfl)) pa_nil)) (by rfl))
      (pss_cons (ps_if (PW.pt (pw_or (pt_not (pt_val (pe_df D_is_regrind hr (by decide) rfl (pa_cons (pv 2) (pa_cons (pe_ix ix_tup (pe_fld (pv 0) rfl) pe_int (fun _ _ => rfl)) pa_nil))))) (pw_or1 (pt_not (pt_val (pe_df D_is_number_of_shots hr (by decide) rfl (pa_cons (pv 3) pa_nil))))))) (pss_one (ps_ret (pe_lst (pa_cons (pe_gi T.cOut rfl) pa_nil)))) pss_nil)
      (pss_one (ps_ret (pe_op op_cat (pe_lst (pa_cons pe_int pa_nil)) (pe_df D_told hr (by decide) rfl (pa_cons (pe_df D_strength_after_shots hr (by decide) rfl (pa_cons (pe_df D_with_regrind hr (by decide) rfl (pa_cons (pe_fld (pv 0) rfl) (pa_cons (pv 2) pa_nil))) (pa_cons (pv 3) pa_nil))) pa_nil))))))), ?_⟩
    obtain ⟨ps, hb, k⟩ := h
    obtain ⟨w, s, xs, pr, ts, hl, hx⟩ := id ps
    have w1 := w.shots
    have w2 := w.len
    walk_at "rds"
    refine ⟨_, _, rfl, ?_⟩
    walk_at "rds"
    refine ⟨r, (p.parts : Int), rfl, ?_⟩
    walk_at "rds"
    cases hr1 : regOk r (p.parts : Int) with
    | false =>
      refine iteT ?_
      refine iteT ?_
      rw [afterIf_no (.inl hr1)] at k
      walk_at "rds"
      exact ⟨(by show 1 ≤ sizeLine; decide), fun q hq => k.new hq⟩
    | true =>
      refine iteF ?_
      walk_at "rds"
      refine ⟨m, rfl, ?_⟩
      walk_at "rds"
      cases hs : countOk m with
      | false =>
        refine iteT ?_
        rw [afterIf_no (.inr hs)] at k
        walk_at "rds"
        exact ⟨(by show 1 ≤ sizeLine; decide), fun q hq => k.new hq⟩
      | true =>
        refine iteF ?_
        have hm : 1 ≤ m ∧ m ≤ 12 := by
          unfold countOk at hs
          simp only [Bool.and_eq_true, decide_eq_true_eq] at hs
          exact hs
        have hn : 0 ≤ r ∧ r < (p.parts : Int) := by
          have z := hr1
          unfold regOk at z
          simp only [Bool.and_eq_true, decide_eq_true_eq] at z
          exact z
        have ok2 := (setRegrind_wf w hr1).s
    
        rw [afterIf_eq w hr1 hs] at k
        walk_at "rds"
        refine ⟨(by show 1 ≤ sizeLine; decide), fun q hq => ?_⟩
        have e1 : Same H (upd H q (.lst [.int 0])) := sNew hq
        have hq1 : (upd H q (.lst [.int 0])) q = some (.lst ([0].map V.int)) := upd_same
        generalize upd H q (.lst [.int 0]) = H1 at e1 hq1 ⊢
        have pr1 := pr.mono e1
        try have hb1 := e1.seq hb
        walk_at "rds"
        refine ⟨s, _, _, _, _, r, rfl, tupE e1 ts, fun q6 H6 hq6 e6 h6 => ?_⟩
        walk_at "rds"
        refine ⟨q6, withR p r.toNat, m.toNat, ?_, ?_, ok2, by omega, fun v H3 e7 hv => ?_⟩
        · rw [show ((m.toNat : Nat) : Int) = m by omega]
          rfl
        · show SqT K _ q6 (iv4 ((r.toNat : Nat) : Int) (p.parts : Int) (p.kept : Int) (p.keptOf : Int))
          rw [show ((r.toNat : Nat) : Int) = r by omega]
          exact SqT.of h6
        have e3 := e6.trans e7
        walk_at "rds"
        refine ⟨v, _, rfl, hv, fun q2 H4 hq4 e4 h4 => ?_⟩
        exact rd_cat k ((e1.trans e3).trans e4) (e4 _ _ (e3 _ _ hq1)) h4 rfl (by simp)
abbrev s_describe : Stmt := top 66
theorem sc_describe : FnScope ["press", "numbers"] ["press", "numbers"] (defScope s_describe) := ⟨rfl, rfl, rfl, by decide +kernel, rfl, by decide +kernel, by decide +kernel⟩
theorem ok_describe {f : Addr} {fd : FuncData} (F : Fun K "describe" "describe" s_describe f fd) (T : Txt K mg C)  : FnOk P w K mg base CX0 1 f fd ["press", "numbers"] (sp_describe K C) := by
  refine F.ok sc_describe (fun vs H Q E h => ?_) (fun cdv A outer s H vs Q E hr h => ?_)
  · obtain ⟨_, _, _, _, rfl, _⟩ := h
    rfl
  · obtain ⟨x, l, bb, p, rfl, h⟩ := h
    refine ⟨_, (pss_one (ps_ret (pe_op op_cat (pe_lst (pa_cons (pe_fld (pv 0) rfl) pa_nil)) (pe_callTy call_list_of (by rfl) T.bList (by decide +kernel) (pa_cons (pe_fld (pv 0) rfl) pa_nil))))), ?_⟩
    obtain ⟨ps, k⟩ := h
    obtain ⟨w, s, xs, pr, ts, hl, hx⟩ := id ps
    have w1 := w.shots
    have w2 := w.len
    rw [describe_eq] at k
    walk_at "rds"
    refine ⟨(by show 1 ≤ sizeLine; decide), fun q hq => ?_⟩
    have e1 : Same H (upd H q (.lst [.int ((p.shots : Nat) : Int)])) := sNew hq
    have hq1 : (upd H q (.lst [.int ((p.shots : Nat) : Int)])) q = some (.lst ([(p.shots : Int)].map V.int)) := upd_same
    generalize upd H q (.lst [.int ((p.shots : Nat) : Int)]) = H1 at e1 hq1 ⊢
    have pr1 := pr.mono e1
    walk_at "rds"
    refine ⟨s, _, rfl, .inr (tupE e1 ts), fun q2 hq2 => ?_⟩
    have e2 : Same H1 (upd H1 q2 (.lst (setV p))) := sNew hq2
    exact rd_cat (a := [(p.shots : Int)]) (b := [(p.regrind : Int), (p.parts : Int), (p.kept : Int), (p.keptOf : Int)]) k (e1.trans e2) (e2 _ _ hq1) upd_same rfl (by simp)
abbrev s_end_of_call : Stmt := top 69
theorem sc_end_of_call : FnScope ["calls", "at"] ["calls", "at"] (defScope s_end_of_call) := ⟨rfl, rfl, rfl, by decide +kernel, rfl, by decide +kernel, by decide +kernel⟩
theorem ok_end_of_call {f : Addr} {fd : FuncData} (F : Fun K "end_of_call" "end_of_call" s_end_of_call f fd) (T : Txt K mg C)  : FnOk P w K mg base CX0 1 f fd ["calls", "at"] (sp_end_of_call K C) := by
  refine F.ok sc_end_of_call (fun vs H Q E h => ?_) (fun cdv A outer s H vs Q E hr h => ?_)
  · obtain ⟨_, _, _, _, _, rfl, _⟩ := h
    rfl
  · obtain ⟨a, ns, i, n, z, rfl, h⟩ := h
    refine ⟨_, (pss_one (ps_ret (pe_op op_add (pe_op op_add (pv 1) pe_int) (pe_ix ix_tup (pe_gt T.gM rfl) (pe_ix ix_list (pv 0) (pv 1) (fun _ _ => rfl)) (fun _ _ => rfl))))), ?_⟩
    obtain ⟨hs, hz, h0, hm, k⟩ := h
    obtain ⟨zn, rfl⟩ : ∃ zn : Nat, z = (zn : Int) := ⟨z.toNat, by omega⟩
    rw [Int.toNat_natCast] at hm
    walk_at "rds"
    intro m tm
    walk_at "rds"
    refine rd_il hs (v := V.int (zn : Int)) (by rw [List.getElem?_map, hz]; rfl) ?_
    refine rd_ix tm (v := V.int (n : Int)) (by rw [List.getElem?_map, hm]; rfl) ?_
    walk_at "rds"
    exact k
abbrev s_numbers_of : Stmt := top 70
theorem sc_numbers_of : FnScope ["calls", "at"] ["calls", "at"] (defScope s_numbers_of) := ⟨rfl, rfl, rfl, by decide +kernel, rfl, by decide +kernel, by decide +kernel⟩
theorem ok_numbers_of {f : Addr} {fd : FuncData} (F : Fun K "numbers_of" "numbers_of" s_numbers_of f fd) (T : Txt K mg C) (D_end_of_call : Df P w K mg base 1 "end_of_call" ["calls", "at"] (sp_end_of_call K C)) : FnOk P w K mg base CX0 2 f fd ["calls", "at"] (sp_numbers_of K C) := by
  refine F.ok sc_numbers_of (fun vs H Q E h => ?_) (fun cdv A outer s H vs Q E hr h => ?_)
  · obtain ⟨_, _, _, _, _, rfl, _⟩ := h
    rfl
  · obtain ⟨a, ns, i, n, z, rfl, h⟩ := h
    refine ⟨_, (pss_one (ps_ret (pe_slice sl_list (pv 0) (po_some (pe_op op_add (pv 1) pe_int)) (po_some (pe_df D_end_of_call hr (by decide) rfl (pa_cons (pv 0) (pa_cons (pv 1) pa_nil))))))), ?_⟩
    obtain ⟨hs, hz, h0, hm, hle, k⟩ := h
    walk_at "rds"
    refine ⟨a, ns, i, n, z, rfl, hs, hz, h0, hm, ?_⟩
    walk_at "rds"
    refine ⟨a, _, rfl, hs, fun p hp => ?_⟩
    have ec : cutV (ns.map V.int) (some ((i : Int) + 1)) (some ((i + 1 + n : Nat) : Int)) = ((ns.drop (i + 1)).take n).map V.int := (cut_to (ns.map V.int) (i + 1) n (by rw [List.length_map]; exact hle)).trans (by rw [List.map_take, List.map_drop])
    rw [ec]
    exact k.new hp
abbrev s_answer_to_change : Stmt := top 73
theorem sc_answer_to_change : FnScope ["press", "number", "numbers"] ["press", "number", "numbers"] (defScope s_answer_to_change) := ⟨rfl, rfl, rfl, by decide +kernel, rfl, by decide +kernel, by decide +kernel⟩
theorem ok_answer_to_change {f : Addr} {fd : FuncData} (F : Fun K "answer_to_change" "answer_to_change" s_answer_to_change f fd) (T : Txt K mg C) (D_create : Df P w K mg base 3 "create" ["press", "numbers"] (sp_create K C)) (D_make_shot : Df P w K mg base 7 "make_shot" ["press", "numbers"] (sp_make_shot K C)) (D_make_virgin_shot : Df P w K mg base 7 "make_virgin_shot" ["press", "numbers"] (sp_make_virgin_shot K C)) (D_set_regrind : Df P w K mg base 2 "set_regrind" ["press", "numbers"] (sp_set_regrind K C)) (D_set_retention : Df P w K mg base 2 "set_retention" ["press", "numbers"] (sp_set_retention K C)) (D_reset : Df P w K mg base 2 "reset" ["press", "numbers"] (sp_reset K C)) : FnOk P w K mg base CX0 8 f fd ["press", "number", "numbers"] (sp_answer_to_change K C) := by
  refine F.ok sc_answer_to_change (fun vs H Q E h => ?_) (fun cdv A outer s H vs Q E hr h => ?_)
  · obtain ⟨_, _, _, _, _, _, _, rfl, _⟩ := h
    rfl
  · obtain ⟨x, l, bb, st, z, ns, call, rfl, h⟩ := h
    refine ⟨_, (pss_cons (ps_if (pt_cmpR op_eq (pv 1) (pe_gi T.cCreate rfl) (nomark _)) (pss_one (ps_ret (pe_df D_create hr (by decide) rfl (pa_cons (pv 0) (pa_cons (pv 2) pa_nil))))) pss_nil)
      (pss_cons (ps_if (pt_cmpR op_eq (pv 1) pe_int (nomark _)) (pss_one (ps_ret (pe_df D_make_shot hr (by decide) rfl (pa_cons (pv 0) (pa_cons (pv 2) pa_nil))))) pss_nil)
      (pss_cons (ps_if (pt_cmpR op_eq (pv 1) pe_int (nomark _)) (pss_one (ps_ret (pe_df D_make_virgin_shot hr (by decide) rfl (pa_cons (pv 0) (pa_cons (pv 2) pa_nil))))) pss_nil)
      (pss_cons (ps_if (pt_cmpR op_eq (pv 1) pe_int (nomark _)) (pss_one (ps_ret (pe_df D_set_regrind hr (by decide) rfl (pa_cons (pv 0) (pa_cons (pv 2) pa_nil))))) pss_nil)
      (pss_cons (ps_if (pt_cmpR op_eq (pv 1) pe_int (nomark _)) (pss_one (ps_ret (pe_df D_set_retention hr (by decide) rfl (pa_cons (pv 0) (pa_cons (pv 2) pa_nil))))) pss_nil)
      (pss_one (ps_ret (pe_df D_reset hr (by decide) rfl (pa_cons (pv 0) (pa_cons (pv 2) pa_nil)))))))))), ?_⟩
    obtain ⟨ps, hb, his, h6, hst, k⟩ := h
    cases his with
    | c0 a b c d =>
      walk_at "rdz"
      exact ⟨x, l, bb, st, a, b, c, d, rfl, ps, hb, k⟩
    | c1 =>
      obtain ⟨p, rfl⟩ := hst (by decide)
      walk_at "rdz"
      exact ⟨x, l, bb, p, rfl, ps, k⟩
    | c2 =>
      obtain ⟨p, rfl⟩ := hst (by decide)
      walk_at "rdz"
      exact ⟨x, l, bb, p, rfl, ps, k⟩
    | c3 a =>
      obtain ⟨p, rfl⟩ := hst (by decide)
      walk_at "rdz"
      exact ⟨x, l, bb, p, a, rfl, ps, hb, k⟩
    | c4 a b =>
      obtain ⟨p, rfl⟩ := hst (by decide)
      walk_at "rdz"
      exact ⟨x, l, bb, p, a, b, rfl, ps, hb, k⟩
    | c5 =>
      obtain ⟨p, rfl⟩ := hst (by decide)
      walk_at "rdz"
      exact ⟨x, l, bb, p, rfl, ps, k⟩
    | c6 _ => exact absurd h6 (by decide)
    | c7 _ => exact absurd h6 (by decide)
    | c8 => exact absurd h6 (by decide)
    | c9 => exact absurd h6 (by decide)
    | c10 => exact absurd h6 (by decide)
    | c11 => exact absurd h6 (by decide)
    | c12 => exact absurd h6 (by decide)
    | c13 _ => exact absurd h6 (by decide)
    | c14 _ _ => exact absurd h6 (by decide)
    | c15 _ _ => exact absurd h6 (by decide)
    | c16 _ _ => exact absurd h6 (by decide)
    | c17 => exact absurd h6 (by decide)
abbrev s_answer_to_query : Stmt := top 74
theorem sc_answer_to_query : FnScope ["press", "number", "numbers"] ["press", "number", "numbers"] (defScope s_answer_to_query) := ⟨rfl, rfl, rfl, by decide +kernel, rfl, by decide +kernel, by decide +kernel⟩
theorem ok_answer_to_query {f : Addr} {fd : FuncData} (F : Fun K "answer_to_query" "answer_to_query" s_answer_to_query f fd) (T : Txt K mg C) (D_age_fraction : Df P w K mg base 2 "age_fraction" ["press", "numbers"] (sp_age_fraction K C)) (D_older_than : Df P w K mg base 6 "older_than" ["press", "numbers"] (sp_older_than K C)) (D_age_distribution : Df P w K mg base 2 "age_distribution" ["press", "numbers"] (sp_age_distribution K C)) (D_strength : Df P w K mg base 6 "strength" ["press", "numbers"] (sp_strength K C)) (D_mean_age : Df P w K mg base 6 "mean_age" ["press", "numbers"] (sp_mean_age K C)) (D_limits : Df P w K mg base 4 "limits" ["press", "numbers"] (sp_limits K C)) : FnOk P w K mg base CX0 7 f fd ["press", "number", "numbers"] (sp_answer_to_query K C) := by
  refine F.ok sc_answer_to_query (fun vs H Q E h => ?_) (fun cdv A outer s H vs Q E hr h => ?_)
  · obtain ⟨_, _, _, _, _, _, _, rfl, _⟩ := h
    rfl
  · obtain ⟨x, l, bb, p, z, ns, call, rfl, h⟩ := h
    refine ⟨_, (pss_cons (ps_if (pt_cmpR op_eq (pv 1) pe_int (nomark _)) (pss_one (ps_ret (pe_df D_age_fraction hr (by decide) rfl (pa_cons (pv 0) (pa_cons (pv 2) pa_nil))))) pss_nil)
      (pss_cons (ps_if (pt_cmpR op_eq (pv 1) pe_int (nomark _)) (pss_one (ps_ret (pe_df D_older_than hr (by decide) rfl (pa_cons (pv 0) (pa_cons (pv 2) pa_nil))))) pss_nil)
      (pss_cons (ps_if (pt_cmpR op_eq (pv 1) pe_int (nomark _)) (pss_one (ps_ret (pe_df D_age_distribution hr (by decide) rfl (pa_cons (pv 0) (pa_cons (pv 2) pa_nil))))) pss_nil)
      (pss_cons (ps_if (pt_cmpR op_eq (pv 1) pe_int (nomark _)) (pss_one (ps_ret (pe_df D_strength hr (by decide) rfl (pa_cons (pv 0) (pa_cons (pv 2) pa_nil))))) pss_nil)
      (pss_cons (ps_if (pt_cmpR op_eq (pv 1) pe_int (nomark _)) (pss_one (ps_ret (pe_df D_mean_age hr (by decide) rfl (pa_cons (pv 0) (pa_cons (pv 2) pa_nil))))) pss_nil)
      (pss_one (ps_ret (pe_df D_limits hr (by decide) rfl (pa_cons (pv 0) (pa_cons (pv 2) pa_nil)))))))))), ?_⟩
    obtain ⟨ps, hb, his, h6, h12, k⟩ := h
    cases his with
    | c0 _ _ _ _ => exact absurd h6 (by decide)
    | c1 => exact absurd h6 (by decide)
    | c2 => exact absurd h6 (by decide)
    | c3 _ => exact absurd h6 (by decide)
    | c4 _ _ => exact absurd h6 (by decide)
    | c5 => exact absurd h6 (by decide)
    | c6 a =>
      walk_at "rdz"
      exact ⟨x, l, bb, p, a, rfl, ps, hb, k⟩
    | c7 a =>
      walk_at "rdz"
      exact ⟨x, l, bb, p, a, rfl, ps, hb, k⟩
    | c8 =>
      walk_at "rdz"
      exact ⟨x, l, bb, p, rfl, ps, k⟩
    | c9 =>
      walk_at "rdz"
      exact ⟨x, l, bb, p, rfl, ps, k⟩
    | c10 =>
      walk_at "rdz"
      exact ⟨x, l, bb, p, rfl, ps, k⟩
    | c11 =>
      walk_at "rdz"
      exact ⟨x, l, bb, p, rfl, ps, k⟩
    | c12 => exact absurd h12 (by decide)
    | c13 _ => exact absurd h12 (by decide)
    | c14 _ _ => exact absurd h12 (by decide)
    | c15 _ _ => exact absurd h12 (by decide)
    | c16 _ _ => exact absurd h12 (by decide)
    | c17 => exact absurd h12 (by decide)
abbrev s_answer_to_later_query : Stmt := top 75
theorem sc_answer_to_later_query : FnScope ["press", "number", "numbers"] ["press", "number", "numbers"] (defScope s_answer_to_later_query) := ⟨rfl, rfl, rfl, by decide +kernel, rfl, by decide +kernel, by decide +kernel⟩
theorem ok_answer_to_later_query {f : Addr} {fd : FuncData} (F : Fun K "answer_to_later_query" "answer_to_later_query" s_answer_to_later_query f fd) (T : Txt K mg C) (D_strength_above_limit : Df P w K mg base 6 "strength_above_limit" ["press", "numbers"] (sp_strength_above_limit K C)) (D_strength_after : Df P w K mg base 7 "strength_after" ["press", "numbers"] (sp_strength_after K C)) (D_max_regrind : Df P w K mg base 5 "max_regrind" ["press", "numbers"] (sp_max_regrind K C)) (D_first_weak_shot : Df P w K mg base 8 "first_weak_shot" ["press", "numbers"] (sp_first_weak_shot K C)) (D_strength_after_if : Df P w K mg base 7 "strength_after_if" ["press", "numbers"] (sp_strength_after_if K C)) (D_describe : Df P w K mg base 1 "describe" ["press", "numbers"] (sp_describe K C)) : FnOk P w K mg base CX0 9 f fd ["press", "number", "numbers"] (sp_answer_to_later_query K C) := by
  refine F.ok sc_answer_to_later_query (fun vs H Q E h => ?_) (fun cdv A outer s H vs Q E hr h => ?_)
  · obtain ⟨_, _, _, _, _, _, _, rfl, _⟩ := h
    rfl
  · obtain ⟨x, l, bb, p, z, ns, call, rfl, h⟩ := h
    refine ⟨_, (pss_cons (ps_if (pt_cmpR op_eq (pv 1) pe_int (nomark _)) (pss_one (ps_ret (pe_df D_strength_above_limit hr (by decide) rfl (pa_cons (pv 0) (pa_cons (pv 2) pa_nil))))) pss_nil)
      (pss_cons (ps_if (pt_cmpR op_eq (pv 1) pe_int (nomark _)) (pss_one (ps_ret (pe_df D_strength_after hr (by decide) rfl (pa_cons (pv 0) (pa_cons (pv 2) pa_nil))))) pss_nil)
      (pss_cons (ps_if (pt_cmpR op_eq (pv 1) pe_int (nomark _)) (pss_one (ps_ret (pe_df D_max_regrind hr (by decide) rfl (pa_cons (pv 0) (pa_cons (pv 2) pa_nil))))) pss_nil)
      (pss_cons (ps_if (pt_cmpR op_eq (pv 1) pe_int (nomark _)) (pss_one (ps_ret (pe_df D_first_weak_shot hr (by decide) rfl (pa_cons (pv 0) (pa_cons (pv 2) pa_nil))))) pss_nil)
      (pss_cons (ps_if (pt_cmpR op_eq (pv 1) pe_int (nomark _)) (pss_one (ps_ret (pe_df D_strength_after_if hr (by decide) rfl (pa_cons (pv 0) (pa_cons (pv 2) pa_nil))))) pss_nil)
      (pss_one (ps_ret (pe_df D_describe hr (by decide) rfl (pa_cons (pv 0) (pa_cons (pv 2) pa_nil)))))))))), ?_⟩
    obtain ⟨ps, hb, his, h12, hbd, k⟩ := h
    cases his with
    | c0 _ _ _ _ => exact absurd h12 (by decide)
    | c1 => exact absurd h12 (by decide)
    | c2 => exact absurd h12 (by decide)
    | c3 _ => exact absurd h12 (by decide)
    | c4 _ _ => exact absurd h12 (by decide)
    | c5 => exact absurd h12 (by decide)
    | c6 _ => exact absurd h12 (by decide)
    | c7 _ => exact absurd h12 (by decide)
    | c8 => exact absurd h12 (by decide)
    | c9 => exact absurd h12 (by decide)
    | c10 => exact absurd h12 (by decide)
    | c11 => exact absurd h12 (by decide)
    | c12 =>
      walk_at "rdz"
      exact ⟨x, l, bb, p, rfl, ps, k⟩
    | c13 a =>
      walk_at "rdz"
      exact ⟨x, l, bb, p, a, rfl, ps, hb, k⟩
    | c14 a b =>
      walk_at "rdz"
      exact ⟨x, l, bb, p, a, b, rfl, ps, hb, hbd a (List.mem_cons_self), k⟩
    | c15 a b =>
      walk_at "rdz"
      exact ⟨x, l, bb, p, a, b, rfl, ps, hb, hbd a (List.mem_cons_self), k⟩
    | c16 a b =>
      walk_at "rdz"
      exact ⟨x, l, bb, p, a, b, rfl, ps, hb, k⟩
    | c17 =>
      walk_at "rdz"
      exact ⟨x, l, bb, p, rfl, ps, k⟩
abbrev s_answer_to : Stmt := top 76
theorem sc_answer_to : FnScope ["press", "number", "numbers"] ["press", "number", "numbers"] (defScope s_answer_to) := ⟨rfl, rfl, rfl, by decide +kernel, rfl, by decide +kernel, by decide +kernel⟩
theorem ok_answer_to {f : Addr} {fd : FuncData} (F : Fun K "answer_to" "answer_to" s_answer_to f fd) (T : Txt K mg C) (D_answer_to_change : Df P w K mg base 8 "answer_to_change" ["press", "number", "numbers"] (sp_answer_to_change K C)) (D_answer_to_query : Df P w K mg base 7 "answer_to_query" ["press", "number", "numbers"] (sp_answer_to_query K C)) (D_answer_to_later_query : Df P w K mg base 9 "answer_to_later_query" ["press", "number", "numbers"] (sp_answer_to_later_query K C)) (M_is_there : Mf P w K mg base C 1 "is_there" ["self"] (sp_Press_is_there K C)) : FnOk P w K mg base CX0 10 f fd ["press", "number", "numbers"] (sp_answer_to K C) := by
  refine F.ok sc_answer_to (fun vs H Q E h => ?_) (fun cdv A outer s H vs Q E hr h => ?_)
  · obtain ⟨_, _, _, _, _, _, _, rfl, _⟩ := h
    rfl
  · obtain ⟨x, l, bb, st, z, ns, call, rfl, h⟩ := h
    refine ⟨_, (pss_cons (ps_if (PW.pt (pw_and (pt_cmpR op_ne (pv 1) (pe_gi T.cCreate rfl) (nomark _)) (pw_and1 (pt_not (pt_val (pe_mf0 (pv 0) T.cl M_is_there hr (by decide))))))) (pss_one (ps_ret (pe_lst (pa_cons (pe_gi T.cNoIn rfl) pa_nil)))) pss_nil)
      (pss_cons (ps_if (pt_cmpR op_lt (pv 1) pe_int (nomark _)) (pss_one (ps_ret (pe_df D_answer_to_change hr (by decide) rfl (pa_cons (pv 0) (pa_cons (pv 1) (pa_cons (pv 2) pa_nil)))))) pss_nil)
      (pss_cons (ps_if (pt_cmpR op_lt (pv 1) pe_int (nomark _)) (pss_one (ps_ret (pe_df D_answer_to_query hr (by decide) rfl (pa_cons (pv 0) (pa_cons (pv 1) (pa_cons (pv 2) pa_nil)))))) pss_nil)
      (pss_one (ps_ret (pe_df D_answer_to_later_query hr (by decide) rfl (pa_cons (pv 0) (pa_cons (pv 1) (pa_cons (pv 2) pa_nil))))))))), ?_⟩
    obtain ⟨ps, hb, his, hbd, k⟩ := h
    by_cases hz : z = 0
    · subst hz
      walk_at "rdz"
      exact ⟨x, l, bb, st, 0, ns, call, rfl, ps, hb, his, by decide, fun q => absurd rfl q, k⟩
    · obtain ⟨v, n, pr, hv⟩ := ps.pr
      walk_at "rds"
      refine if_t (by rw [decide_eq_false hz]; rfl) ?_
      walk_at "rds"
      refine ⟨x, l, v, n, rfl, pr, ?_⟩
      walk_at "rds"
      cases st with
      | none =>
        refine if_t (by rw [decide_eq_true (hv.mpr rfl)]; rfl) ?_
        have e : Sr119.step none call = (none, .ofCode (-11)) := noMake call fun a b c d q => by
          subst q
          cases his
          exact hz rfl
        unfold RetO at k
        rw [e] at k
        walk_at "rds"
        exact ⟨(by show 1 ≤ sizeLine; decide), fun q hq => k.same ps hq⟩
      | some p =>
        refine if_f (by rw [decide_eq_false (fun q => nomatch hv.mp q)]; rfl) ?_
        walk_at "rds"
        refine rd_cases (fun hc => ?_) (fun hc => ?_)
        · have h6 : z < 6 := of_decide_eq_true hc
          walk_at "rds"
          exact ⟨x, l, bb, some p, z, ns, call, rfl, ps, hb, his, h6, fun _ => ⟨p, rfl⟩, k⟩
        · have h6 : ¬ z < 6 := of_decide_eq_false hc
          have hq : isQuery call = true := by
            cases his <;> first | rfl | exact absurd (by decide) h6
          unfold RetO at k
          rw [query_eq hq] at k
          have k2 : RetL (qAns p call) H Q := k.query ps
          walk_at "rds"
          refine rd_cases (fun hd => ?_) (fun hd => ?_)
          · have h12 : z < 12 := of_decide_eq_true hd
            walk_at "rds"
            exact ⟨x, l, bb, p, z, ns, call, rfl, ps, hb, his, by omega, h12, k2⟩
          · have h12 : ¬ z < 12 := of_decide_eq_false hd
            walk_at "rds"
            exact ⟨x, l, bb, p, z, ns, call, rfl, ps, hb, his, by omega, hbd, k2⟩
abbrev s_answers : Stmt := top 77
theorem sc_answers : FnScope ["calls", "press", "found", "at", "told"] ["calls"] (defScope s_answers) := ⟨rfl, rfl, rfl, by decide +kernel, rfl, by decide +kernel, by decide +kernel⟩
theorem ok_answers {f : Addr} {fd : FuncData} (F : Fun K "answers" "answers" s_answers f fd) (T : Txt K mg C) {f_init : Addr} {fd_init : FuncData} (M : Mk K C f_init) (G_init : FnOk P w K mg base CX0 1 f_init fd_init ["self"] (sp_Press_init K C)) (b_init : Binds K fd_init ["self"] []) (D_end_of_call : Df P w K mg base 1 "end_of_call" ["calls", "at"] (sp_end_of_call K C)) (D_numbers_of : Df P w K mg base 2 "numbers_of" ["calls", "at"] (sp_numbers_of K C)) (D_answer_to : Df P w K mg base 10 "answer_to" ["press", "number", "numbers"] (sp_answer_to K C)) : FnOk P w K mg base CX0 11 f fd ["calls"] (sp_answers K C) := by
  refine F.ok sc_answers (fun vs H Q E h => ?_) (fun cdv A outer s H vs Q E hr h => ?_)
  · obtain ⟨_, _, rfl, _⟩ := h
    rfl
  · obtain ⟨a, ns, rfl, h⟩ := h
    refine ⟨_, (pss_cons (ps_set (i := 1) sc_answers.nd rfl (Or.inl rfl) (pe_make0 M G_init (hr.mono (by decide)) rfl T.gC b_init .nil pass0))
      (pss_cons (ps_set (i := 2) sc_answers.nd rfl (Or.inl rfl) (pe_lst pa_nil))
      (pss_cons (ps_set (i := 3) sc_answers.nd rfl (Or.inl rfl) pe_int)
      (pss_cons (ps_while PassesOwn.never (pt_cmpR op_lt (pv 3) (pe_callB call_len_seq (by rfl) T.bLen PySem.boot_len (pa_cons (pv 0) pa_nil)) (nomark _)) (pss_cons (ps_set (i := 4) sc_answers.nd rfl (Or.inl rfl) (pe_df D_answer_to hr (by decide) rfl (pa_cons (pv 1) (pa_cons (pe_ix ix_list (pv 0) (pv 3) (fun _ _ => rfl)) (pa_cons (pe_df D_numbers_of hr (by decide) rfl (pa_cons (pv 0) (pa_cons (pv 3) pa_nil))) pa_nil)))))
      (pss_cons (ps_expr (pe_bm PySem.F.plainAttrs_list PySem.F.slot_list_append PySem.F.type_list_append mt_append (pv 2) (pa_cons (pe_callB call_len_seq (by rfl) T.bLen PySem.boot_len (pa_cons (pv 4) pa_nil)) pa_nil)))
      (pss_cons (ps_expr (pe_bm PySem.F.plainAttrs_list PySem.F.slot_list_extend PySem.F.type_list_extend mt_extend (pv 2) (pa_cons (pv 4) pa_nil)))
      (pss_one (ps_set (i := 3) sc_answers.nd rfl (Or.inl rfl) (pe_df D_end_of_call hr (by decide) rfl (pa_cons (pv 0) (pa_cons (pv 3) pa_nil)))))))))
      (pss_one (ps_ret (pv 2))))))), ?_⟩
    obtain ⟨hs, hbd, hask, k⟩ := h
    obtain ⟨hT0, hTl⟩ := told_start hask
    walk_at "rds"
    intro x dx nx nd ne
    refine ⟨x, dx, rfl, upd_same, fun H1 l pr hl hn kp => ⟨rfl, ?_⟩⟩
    have e1 : Same H H1 := Same.made nx nd kp
    walk_at "rds"
    refine ⟨Nat.zero_le _, fun q hq => ?_⟩
    have e2 : Same H1 (upd H1 q (.lst [])) := sNew hq
    have hq0 : H q = none := e1.free hq
    have hlq : l ≠ q := ne_of_none hl hq
    walk_at "rds"
    refine while_by (fun σ' H' => ∃ (i : Nat) (out : List Int) (st : Sr119.State) (l' : Addr) (t : Option V), σ' = [some (.ref a), some (.ref x), some (.ref q), some (.int (i : Int)), t] ∧ Same H H' ∧ Told ns i out st ∧ PsAt K C H' x l' st ∧ l' ≠ q ∧ H' q = some (.lst (out.map V.int))) (slot3 ns.length) ⟨0, [], Sr119.start, l, none, rfl, e1.trans e2, hT0, ⟨pr.mono e2, e2 _ _ hl⟩, hlq, upd_same⟩ ?_ ?_
    · rintro σ' H' ⟨i, out, st, l', t0, rfl, e, hT, ps, hl', hq'⟩
      walk_at "rds"
      refine ⟨a, _, rfl, .inl (e.seq hs), ?_⟩
      rw [List.length_map]
      walk_at "rds"
      refine rd_cases (fun hc => ?_) (fun hc => ?_)
      · have hi : (i : Int) < ((ns.length : Nat) : Int) := of_decide_eq_true hc
        obtain ⟨z, n, hz, h0, h18, hm, hle, hT2⟩ := told_turn hT (by omega)
        have hlen : ((ns.drop (i + 1)).take n).length = n := by
          rw [List.length_take, List.length_drop]
          omega
        obtain ⟨call, his⟩ := is_of (ns := (ns.drop (i + 1)).take n) h0 h18 (by rw [hlen]; exact hm)
        rw [is_step his] at hT2
        have hlim := told_len hT2
        rw [List.length_append, List.length_cons] at hlim
        walk_at "rds"
        refine rd_il (e.seq hs) (v := V.int z) (by rw [List.getElem?_map, hz]; rfl) ?_
        walk_at "rds"
        refine ⟨a, ns, i, n, z, rfl, e.seq hs, hz, h0, hm, hle, fun bb H2 hbb e3 h2 => ?_⟩
        walk_at "rds"
        refine ⟨x, l', bb, st, z, (ns.drop (i + 1)).take n, call, rfl, ps.mono e3, SqL.of h2, his, fun m hm2 => hbd m (List.mem_of_mem_drop (List.mem_of_mem_take hm2)), fun t l2 H3 ht hlist ps3 hc3 k3 => ?_⟩
        obtain ⟨v2, n2, pr2, _⟩ := (ps.mono e3).pr
        have hq2 : H2 q = some (.lst (out.map V.int)) := e3 _ _ hq'
        have hq3 : H3 q = some (.lst (out.map V.int)) := k3.lstP pr2 hq2
        have htq : t ≠ q := fun z => by
          rw [z, hq2] at ht
          cases ht
        have hl2 : l2 ≠ q := by
          rcases hc3 with z | z
          · rw [z]
            exact hl'
          · intro y
            rw [y, hq2] at z
            cases z
        have es3 : Same H H3 := fun b o hb => k3 b o (e3 _ _ (e _ _ hb)) (ne_of_none hb nx)
        walk_at "rds"
        refine rd_bm rfl (.inl ⟨rfl, _, SqL.of hq3⟩) ?_
        walk_at "rds"
        refine ⟨t, _, rfl, .inl (SqL.of hlist), ?_⟩
        rw [List.length_map]
        walk_at "rds"
        have hz1 : sizeLine = 16777216 := by decide
        refine ⟨q, _, _, rfl, rfl, hq3, by rw [List.length_map, hz1]; omega, ?_⟩
        walk_at "rds"
        refine rd_bm rfl (.inl ⟨rfl, _, SqL.of upd_same⟩) ?_
        walk_at "rds"
        refine ⟨q, t, _, _, rfl, rfl, upd_same, by rw [upd_ne htq]; exact hlist, by rw [List.length_append, List.length_map, List.length_map, hz1]; show out.length + 1 + _ ≤ _; omega, ?_⟩
        rw [upd_upd]
        have eL : (out.map V.int ++ [V.int (((ansOf (Sr119.step st call)).length : Nat) : Int)]) ++ (ansOf (Sr119.step st call)).map V.int = (out ++ ((((ansOf (Sr119.step st call)).length : Nat) : Int) :: ansOf (Sr119.step st call))).map V.int := by
          rw [List.map_append, List.map_cons, List.append_assoc]
          rfl
        rw [eL]
        have e4 : Same H (upd H3 q (.lst ((out ++ ((((ansOf (Sr119.step st call)).length : Nat) : Int) :: ansOf (Sr119.step st call))).map V.int))) := sMut es3 hq0
        walk_at "rds"
        refine ⟨a, ns, i, n, z, rfl, e4.seq hs, hz, h0, hm, ?_⟩
        walk_at "rds"
        refine ⟨⟨i + 1 + n, _, _, l2, some (.ref t), rfl, e4, hT2, ps3.lset hq3 hl2, hl2, upd_same⟩, ?_⟩
        show ((ns.length : Int) - ((i + 1 + n : Nat) : Int)).toNat < ((ns.length : Int) - (i : Int)).toNat
        omega
      · have hi : ¬ (i : Int) < ((ns.length : Nat) : Int) := of_decide_eq_false hc
        rw [told_end hT (by omega)] at hq'
        walk_at "rds"
        exact k _ q hq'
    · rintro σ' H' Q1 Q2 m ⟨v, e, v2, e2, p, ys, e3, h4, i, j, e5, e6, c, e7, q⟩
      exact ⟨v, e, v2, e2, p, ys, e3, h4, i, j, e5, e6, c, e7, m _ _ q⟩
end

/-! ### what the top has written -/
/-- a def of the module: where it stands, what it is -/
def Fx (K : PySem.W.Frag) (mg : Str → Option Value) (x : Str) (st : Stmt) : Prop := ∃ (f : Addr) (fd : FuncData), Fun K x x st f fd ∧ mg x = some (.ref f)
def Mx (K : PySem.W.Frag) (C : Addr) (m qual : Str) (st : Stmt) : Prop := ∃ (f : Addr) (fd : FuncData), Fun K m qual st f fd ∧ Meth K C m f
theorem mk_fx {K : PySem.W.Frag} {h : Heap} {mg : Str → Option Value} {x : Str} {st : Stmt} {f : Addr} {oc : Value} {od an : Option Addr} {sl : Array (Option Value)} {kV doc pm cd ct : Value} (X : K.In h) (G : h.Ns mainGlobals mg)
    (a : PySem.W.nsIn K mainGlobals x = some (some (.ref f))) (l : K.lookup f = some ⟨oc, od, .func (PySem.W.fnOf x x (defArgs st) (defBody st) (defScope st) .none kV doc pm an cd ct), sl⟩) (c : PySem.W.codeIn K cd x = true) (k : PySem.W.keepIn K (.ref f) = true) : Fx K mg x st :=
  ⟨f, _, fun_mk (st := st) l c k, PySem.W.mg_of X G a⟩
theorem mk_mx {K : PySem.W.Frag} {C : Addr} {m qual : Str} {st : Stmt} {f : Addr} {oc : Value} {od an : Option Addr} {sl : Array (Option Value)} {kV doc pm cd ct : Value}
    (a : PySem.W.findIn K (.ref C) m = some (some (.ref f))) (i : PySem.W.isFn K (.ref f) = true) (l : K.lookup f = some ⟨oc, od, .func (PySem.W.fnOf m qual (defArgs st) (defBody st) (defScope st) .none kV doc pm an cd ct), sl⟩) (c : PySem.W.codeIn K cd qual = true) (k : PySem.W.keepIn K (.ref f) = true) : Mx K C m qual st :=
  ⟨f, _, fun_mk (st := st) l c k, ⟨a, i, k⟩⟩
theorem mk_gi {K : PySem.W.Frag} {h : Heap} {mg : Str → Option Value} {x : Str} {i : Int} {t : Tok} (X : K.In h) (G : h.Ns mainGlobals mg) (a : PySem.W.nsIn K mainGlobals x = some (some (.int i t))) : GI mg x i := ⟨t, PySem.W.mg_of X G a⟩
theorem ints_of {xs : List V} (h : xs.all (fun v => match v with | .int _ => true | _ => false) = true) : ∀ v ∈ xs, ∃ i, v = V.int i := fun v hv => by
  have q := List.all_eq_true.mp h v hv
  cases v <;> first | exact ⟨_, rfl⟩ | cases q
theorem mk_gt {K : PySem.W.Frag} {h : Heap} {mg : Str → Option Value} {x : Str} {f : Addr} {o : Obj} {its : Array Value} {n : Nat} {xs : List V} (X : K.In h) (G : h.Ns mainGlobals mg) (a : PySem.W.nsIn K mainGlobals x = some (some (.ref f))) (l : K.lookup f = some o)
    (hc : o.cls = .type "tuple") (hd : o.data = .seq its n) (hz : its.size ≤ sizeLine) (hv : its.toList.map absV = xs.map some) (hx : ∀ v ∈ xs, ∃ i, v = V.int i) : GT K mg x xs := by
  refine ⟨f, PySem.W.mg_of X G a, fun H => .inr ⟨o, its, n, l, hc, hd, hz, ?_⟩⟩
  generalize its.toList = us at hv
  induction xs generalizing us with
  | nil =>
    cases us with
    | nil => exact .nil
    | cons u r => cases hv
  | cons v r ih =>
    cases us with
    | nil => cases hv
    | cons u us =>
      rw [List.map_cons, List.map_cons] at hv
      injection hv with h1 h2
      refine .cons ?_ (ih (fun v hm => hx v (List.mem_cons_of_mem _ hm)) us h2)
      obtain ⟨i, rfl⟩ := hx v List.mem_cons_self
      cases u <;> simp only [absV, reduceCtorEq, Option.some.injEq, V.int.injEq] at h1
      subst h1
      exact ⟨_, rfl⟩
section
variable {P : Program} {w : World} {K : PySem.W.Frag} {mg : Str → Option Value} {base : Heap} {C : Addr}
theorem df_common_divisor (d : Fx K mg "common_divisor" s_common_divisor) (T : Txt K mg C)  : Df P w K mg base 1 "common_divisor" ["one", "other"] (sp_common_divisor K C) := by
  obtain ⟨f, fd, F, m⟩ := d
  exact ⟨f, fd, ok_common_divisor F T , m, F.kp, F.binds (ps := ["one", "other"]) fun _ _ _ _ _ _ us hl => match us, hl with | [_, _], _ => rfl⟩
theorem df_reduced (d : Fx K mg "reduced" s_reduced) (T : Txt K mg C) (D_common_divisor : Df P w K mg base 1 "common_divisor" ["one", "other"] (sp_common_divisor K C)) : Df P w K mg base 2 "reduced" ["top", "low"] (sp_reduced K C) := by
  obtain ⟨f, fd, F, m⟩ := d
  exact ⟨f, fd, ok_reduced F T D_common_divisor, m, F.kp, F.binds (ps := ["top", "low"]) fun _ _ _ _ _ _ us hl => match us, hl with | [_, _], _ => rfl⟩
theorem df_plus (d : Fx K mg "plus" s_plus) (T : Txt K mg C) (D_reduced : Df P w K mg base 2 "reduced" ["top", "low"] (sp_reduced K C)) : Df P w K mg base 3 "plus" ["one", "other"] (sp_plus K C) := by
  obtain ⟨f, fd, F, m⟩ := d
  exact ⟨f, fd, ok_plus F T D_reduced, m, F.kp, F.binds (ps := ["one", "other"]) fun _ _ _ _ _ _ us hl => match us, hl with | [_, _], _ => rfl⟩
theorem df_minus (d : Fx K mg "minus" s_minus) (T : Txt K mg C) (D_reduced : Df P w K mg base 2 "reduced" ["top", "low"] (sp_reduced K C)) : Df P w K mg base 3 "minus" ["one", "other"] (sp_minus K C) := by
  obtain ⟨f, fd, F, m⟩ := d
  exact ⟨f, fd, ok_minus F T D_reduced, m, F.kp, F.binds (ps := ["one", "other"]) fun _ _ _ _ _ _ us hl => match us, hl with | [_, _], _ => rfl⟩
theorem df_times (d : Fx K mg "times" s_times) (T : Txt K mg C) (D_reduced : Df P w K mg base 2 "reduced" ["top", "low"] (sp_reduced K C)) : Df P w K mg base 3 "times" ["one", "other"] (sp_times K C) := by
  obtain ⟨f, fd, F, m⟩ := d
  exact ⟨f, fd, ok_times F T D_reduced, m, F.kp, F.binds (ps := ["one", "other"]) fun _ _ _ _ _ _ us hl => match us, hl with | [_, _], _ => rfl⟩
theorem df_is_less (d : Fx K mg "is_less" s_is_less) (T : Txt K mg C)  : Df P w K mg base 1 "is_less" ["one", "other"] (sp_is_less K C) := by
  obtain ⟨f, fd, F, m⟩ := d
  exact ⟨f, fd, ok_is_less F T , m, F.kp, F.binds (ps := ["one", "other"]) fun _ _ _ _ _ _ us hl => match us, hl with | [_, _], _ => rfl⟩
theorem df_total (d : Fx K mg "total" s_total) (T : Txt K mg C) (D_plus : Df P w K mg base 3 "plus" ["one", "other"] (sp_plus K C)) : Df P w K mg base 4 "total" ["parts"] (sp_total K C) := by
  obtain ⟨f, fd, F, m⟩ := d
  exact ⟨f, fd, ok_total F T D_plus, m, F.kp, F.binds (ps := ["parts"]) fun _ _ _ _ _ _ us hl => match us, hl with | [_], _ => rfl⟩
theorem df_told (d : Fx K mg "told" s_told) (T : Txt K mg C)  : Df P w K mg base 1 "told" ["part"] (sp_told K C) := by
  obtain ⟨f, fd, F, m⟩ := d
  exact ⟨f, fd, ok_told F T , m, F.kp, F.binds (ps := ["part"]) fun _ _ _ _ _ _ us hl => match us, hl with | [_], _ => rfl⟩
theorem df_next_ages (d : Fx K mg "next_ages" s_next_ages) (T : Txt K mg C) (D_minus : Df P w K mg base 3 "minus" ["one", "other"] (sp_minus K C)) (D_times : Df P w K mg base 3 "times" ["one", "other"] (sp_times K C)) : Df P w K mg base 4 "next_ages" ["ages", "ratio"] (sp_next_ages K C) := by
  obtain ⟨f, fd, F, m⟩ := d
  exact ⟨f, fd, ok_next_ages F T D_minus D_times, m, F.kp, F.binds (ps := ["ages", "ratio"]) fun _ _ _ _ _ _ us hl => match us, hl with | [_, _], _ => rfl⟩
theorem df_ages_after (d : Fx K mg "ages_after" s_ages_after) (T : Txt K mg C) (D_next_ages : Df P w K mg base 4 "next_ages" ["ages", "ratio"] (sp_next_ages K C)) : Df P w K mg base 5 "ages_after" ["ratio", "many"] (sp_ages_after K C) := by
  obtain ⟨f, fd, F, m⟩ := d
  exact ⟨f, fd, ok_ages_after F T D_next_ages, m, F.kp, F.binds (ps := ["ratio", "many"]) fun _ _ _ _ _ _ us hl => match us, hl with | [_, _], _ => rfl⟩
theorem df_strength_of (d : Fx K mg "strength_of" s_strength_of) (T : Txt K mg C) (D_plus : Df P w K mg base 3 "plus" ["one", "other"] (sp_plus K C)) (D_times : Df P w K mg base 3 "times" ["one", "other"] (sp_times K C)) : Df P w K mg base 4 "strength_of" ["ages", "retention"] (sp_strength_of K C) := by
  obtain ⟨f, fd, F, m⟩ := d
  exact ⟨f, fd, ok_strength_of F T D_plus D_times, m, F.kp, F.binds (ps := ["ages", "retention"]) fun _ _ _ _ _ _ us hl => match us, hl with | [_, _], _ => rfl⟩
theorem df_mean_age_of (d : Fx K mg "mean_age_of" s_mean_age_of) (T : Txt K mg C) (D_times : Df P w K mg base 3 "times" ["one", "other"] (sp_times K C)) (D_total : Df P w K mg base 4 "total" ["parts"] (sp_total K C)) : Df P w K mg base 5 "mean_age_of" ["ages"] (sp_mean_age_of K C) := by
  obtain ⟨f, fd, F, m⟩ := d
  exact ⟨f, fd, ok_mean_age_of F T D_times D_total, m, F.kp, F.binds (ps := ["ages"]) fun _ _ _ _ _ _ us hl => match us, hl with | [_], _ => rfl⟩
theorem df_part_of_age (d : Fx K mg "part_of_age" s_part_of_age) (T : Txt K mg C)  : Df P w K mg base 1 "part_of_age" ["ages", "age"] (sp_part_of_age K C) := by
  obtain ⟨f, fd, F, m⟩ := d
  exact ⟨f, fd, ok_part_of_age F T , m, F.kp, F.binds (ps := ["ages", "age"]) fun _ _ _ _ _ _ us hl => match us, hl with | [_, _], _ => rfl⟩
theorem df_part_older_than (d : Fx K mg "part_older_than" s_part_older_than) (T : Txt K mg C) (D_total : Df P w K mg base 4 "total" ["parts"] (sp_total K C)) : Df P w K mg base 5 "part_older_than" ["ages", "age"] (sp_part_older_than K C) := by
  obtain ⟨f, fd, F, m⟩ := d
  exact ⟨f, fd, ok_part_older_than F T D_total, m, F.kp, F.binds (ps := ["ages", "age"]) fun _ _ _ _ _ _ us hl => match us, hl with | [_, _], _ => rfl⟩
theorem df_is_regrind (d : Fx K mg "is_regrind" s_is_regrind) (T : Txt K mg C)  : Df P w K mg base 1 "is_regrind" ["regrind", "parts"] (sp_is_regrind K C) := by
  obtain ⟨f, fd, F, m⟩ := d
  exact ⟨f, fd, ok_is_regrind F T , m, F.kp, F.binds (ps := ["regrind", "parts"]) fun _ _ _ _ _ _ us hl => match us, hl with | [_, _], _ => rfl⟩
theorem df_is_parts (d : Fx K mg "is_parts" s_is_parts) (T : Txt K mg C)  : Df P w K mg base 1 "is_parts" ["parts"] (sp_is_parts K C) := by
  obtain ⟨f, fd, F, m⟩ := d
  exact ⟨f, fd, ok_is_parts F T , m, F.kp, F.binds (ps := ["parts"]) fun _ _ _ _ _ _ us hl => match us, hl with | [_], _ => rfl⟩
theorem df_is_retention (d : Fx K mg "is_retention" s_is_retention) (T : Txt K mg C)  : Df P w K mg base 1 "is_retention" ["kept", "kept_of"] (sp_is_retention K C) := by
  obtain ⟨f, fd, F, m⟩ := d
  exact ⟨f, fd, ok_is_retention F T , m, F.kp, F.binds (ps := ["kept", "kept_of"]) fun _ _ _ _ _ _ us hl => match us, hl with | [_, _], _ => rfl⟩
theorem df_are_settings (d : Fx K mg "are_settings" s_are_settings) (T : Txt K mg C) (D_is_regrind : Df P w K mg base 1 "is_regrind" ["regrind", "parts"] (sp_is_regrind K C)) (D_is_parts : Df P w K mg base 1 "is_parts" ["parts"] (sp_is_parts K C)) (D_is_retention : Df P w K mg base 1 "is_retention" ["kept", "kept_of"] (sp_is_retention K C)) : Df P w K mg base 2 "are_settings" ["settings"] (sp_are_settings K C) := by
  obtain ⟨f, fd, F, m⟩ := d
  exact ⟨f, fd, ok_are_settings F T D_is_regrind D_is_parts D_is_retention, m, F.kp, F.binds (ps := ["settings"]) fun _ _ _ _ _ _ us hl => match us, hl with | [_], _ => rfl⟩
theorem df_with_regrind (d : Fx K mg "with_regrind" s_with_regrind) (T : Txt K mg C)  : Df P w K mg base 1 "with_regrind" ["settings", "regrind"] (sp_with_regrind K C) := by
  obtain ⟨f, fd, F, m⟩ := d
  exact ⟨f, fd, ok_with_regrind F T , m, F.kp, F.binds (ps := ["settings", "regrind"]) fun _ _ _ _ _ _ us hl => match us, hl with | [_, _], _ => rfl⟩
theorem df_with_retention (d : Fx K mg "with_retention" s_with_retention) (T : Txt K mg C)  : Df P w K mg base 1 "with_retention" ["settings", "kept", "kept_of"] (sp_with_retention K C) := by
  obtain ⟨f, fd, F, m⟩ := d
  exact ⟨f, fd, ok_with_retention F T , m, F.kp, F.binds (ps := ["settings", "kept", "kept_of"]) fun _ _ _ _ _ _ us hl => match us, hl with | [_, _, _], _ => rfl⟩
theorem df_regrind_ratio (d : Fx K mg "regrind_ratio" s_regrind_ratio) (T : Txt K mg C) (D_reduced : Df P w K mg base 2 "reduced" ["top", "low"] (sp_reduced K C)) : Df P w K mg base 3 "regrind_ratio" ["settings"] (sp_regrind_ratio K C) := by
  obtain ⟨f, fd, F, m⟩ := d
  exact ⟨f, fd, ok_regrind_ratio F T D_reduced, m, F.kp, F.binds (ps := ["settings"]) fun _ _ _ _ _ _ us hl => match us, hl with | [_], _ => rfl⟩
theorem df_retention_of (d : Fx K mg "retention_of" s_retention_of) (T : Txt K mg C) (D_reduced : Df P w K mg base 2 "reduced" ["top", "low"] (sp_reduced K C)) : Df P w K mg base 3 "retention_of" ["settings"] (sp_retention_of K C) := by
  obtain ⟨f, fd, F, m⟩ := d
  exact ⟨f, fd, ok_retention_of F T D_reduced, m, F.kp, F.binds (ps := ["settings"]) fun _ _ _ _ _ _ us hl => match us, hl with | [_], _ => rfl⟩
theorem df_strength_limit (d : Fx K mg "strength_limit" s_strength_limit) (T : Txt K mg C) (D_reduced : Df P w K mg base 2 "reduced" ["top", "low"] (sp_reduced K C)) : Df P w K mg base 3 "strength_limit" ["settings"] (sp_strength_limit K C) := by
  obtain ⟨f, fd, F, m⟩ := d
  exact ⟨f, fd, ok_strength_limit F T D_reduced, m, F.kp, F.binds (ps := ["settings"]) fun _ _ _ _ _ _ us hl => match us, hl with | [_], _ => rfl⟩
theorem df_mean_age_limit (d : Fx K mg "mean_age_limit" s_mean_age_limit) (T : Txt K mg C) (D_reduced : Df P w K mg base 2 "reduced" ["top", "low"] (sp_reduced K C)) : Df P w K mg base 3 "mean_age_limit" ["settings"] (sp_mean_age_limit K C) := by
  obtain ⟨f, fd, F, m⟩ := d
  exact ⟨f, fd, ok_mean_age_limit F T D_reduced, m, F.kp, F.binds (ps := ["settings"]) fun _ _ _ _ _ _ us hl => match us, hl with | [_], _ => rfl⟩
theorem df_is_number_of_shots (d : Fx K mg "is_number_of_shots" s_is_number_of_shots) (T : Txt K mg C)  : Df P w K mg base 1 "is_number_of_shots" ["number"] (sp_is_number_of_shots K C) := by
  obtain ⟨f, fd, F, m⟩ := d
  exact ⟨f, fd, ok_is_number_of_shots F T , m, F.kp, F.binds (ps := ["number"]) fun _ _ _ _ _ _ us hl => match us, hl with | [_], _ => rfl⟩
theorem df_is_threshold (d : Fx K mg "is_threshold" s_is_threshold) (T : Txt K mg C)  : Df P w K mg base 1 "is_threshold" ["num", "den"] (sp_is_threshold K C) := by
  obtain ⟨f, fd, F, m⟩ := d
  exact ⟨f, fd, ok_is_threshold F T , m, F.kp, F.binds (ps := ["num", "den"]) fun _ _ _ _ _ _ us hl => match us, hl with | [_, _], _ => rfl⟩
theorem df_strength_after_shots (d : Fx K mg "strength_after_shots" s_strength_after_shots) (T : Txt K mg C) (D_ages_after : Df P w K mg base 5 "ages_after" ["ratio", "many"] (sp_ages_after K C)) (D_strength_of : Df P w K mg base 4 "strength_of" ["ages", "retention"] (sp_strength_of K C)) (D_regrind_ratio : Df P w K mg base 3 "regrind_ratio" ["settings"] (sp_regrind_ratio K C)) (D_retention_of : Df P w K mg base 3 "retention_of" ["settings"] (sp_retention_of K C)) : Df P w K mg base 6 "strength_after_shots" ["settings", "many"] (sp_strength_after_shots K C) := by
  obtain ⟨f, fd, F, m⟩ := d
  exact ⟨f, fd, ok_strength_after_shots F T D_ages_after D_strength_of D_regrind_ratio D_retention_of, m, F.kp, F.binds (ps := ["settings", "many"]) fun _ _ _ _ _ _ us hl => match us, hl with | [_, _], _ => rfl⟩
theorem df_greatest_regrind (d : Fx K mg "greatest_regrind" s_greatest_regrind) (T : Txt K mg C) (D_is_less : Df P w K mg base 1 "is_less" ["one", "other"] (sp_is_less K C)) (D_with_regrind : Df P w K mg base 1 "with_regrind" ["settings", "regrind"] (sp_with_regrind K C)) (D_strength_limit : Df P w K mg base 3 "strength_limit" ["settings"] (sp_strength_limit K C)) : Df P w K mg base 4 "greatest_regrind" ["settings", "threshold"] (sp_greatest_regrind K C) := by
  obtain ⟨f, fd, F, m⟩ := d
  exact ⟨f, fd, ok_greatest_regrind F T D_is_less D_with_regrind D_strength_limit, m, F.kp, F.binds (ps := ["settings", "threshold"]) fun _ _ _ _ _ _ us hl => match us, hl with | [_, _], _ => rfl⟩
theorem df_first_weak (d : Fx K mg "first_weak" s_first_weak) (T : Txt K mg C) (D_is_less : Df P w K mg base 1 "is_less" ["one", "other"] (sp_is_less K C)) (D_strength_after_shots : Df P w K mg base 6 "strength_after_shots" ["settings", "many"] (sp_strength_after_shots K C)) : Df P w K mg base 7 "first_weak" ["settings", "threshold"] (sp_first_weak K C) := by
  obtain ⟨f, fd, F, m⟩ := d
  exact ⟨f, fd, ok_first_weak F T D_is_less D_strength_after_shots, m, F.kp, F.binds (ps := ["settings", "threshold"]) fun _ _ _ _ _ _ us hl => match us, hl with | [_, _], _ => rfl⟩
theorem mf_Press_is_there (d : Mx K C "is_there" "Press.is_there" s_Press_is_there) (T : Txt K mg C)  : Mf P w K mg base C 1 "is_there" ["self"] (sp_Press_is_there K C) := by
  obtain ⟨f, fd, F, m⟩ := d
  exact ⟨f, fd, ok_Press_is_there F T , m, F.binds (ps := ["self"]) fun _ _ _ _ _ _ us hl => match us, hl with | [_], _ => rfl⟩
theorem mf_Press_has_shot (d : Mx K C "has_shot" "Press.has_shot" s_Press_has_shot) (T : Txt K mg C)  : Mf P w K mg base C 1 "has_shot" ["self"] (sp_Press_has_shot K C) := by
  obtain ⟨f, fd, F, m⟩ := d
  exact ⟨f, fd, ok_Press_has_shot F T , m, F.binds (ps := ["self"]) fun _ _ _ _ _ _ us hl => match us, hl with | [_], _ => rfl⟩
theorem mf_Press_take_settings (d : Mx K C "take_settings" "Press.take_settings" s_Press_take_settings) (T : Txt K mg C)  : Mf P w K mg base C 1 "take_settings" ["self", "settings"] (sp_Press_take_settings K C) := by
  obtain ⟨f, fd, F, m⟩ := d
  exact ⟨f, fd, ok_Press_take_settings F T , m, F.binds (ps := ["self", "settings"]) fun _ _ _ _ _ _ us hl => match us, hl with | [_, _], _ => rfl⟩
theorem mf_Press_take_shot (d : Mx K C "take_shot" "Press.take_shot" s_Press_take_shot) (T : Txt K mg C)  : Mf P w K mg base C 1 "take_shot" ["self", "ages"] (sp_Press_take_shot K C) := by
  obtain ⟨f, fd, F, m⟩ := d
  exact ⟨f, fd, ok_Press_take_shot F T , m, F.binds (ps := ["self", "ages"]) fun _ _ _ _ _ _ us hl => match us, hl with | [_, _], _ => rfl⟩
theorem mf_Press_clear_shots (d : Mx K C "clear_shots" "Press.clear_shots" s_Press_clear_shots) (T : Txt K mg C)  : Mf P w K mg base C 1 "clear_shots" ["self"] (sp_Press_clear_shots K C) := by
  obtain ⟨f, fd, F, m⟩ := d
  exact ⟨f, fd, ok_Press_clear_shots F T , m, F.binds (ps := ["self"]) fun _ _ _ _ _ _ us hl => match us, hl with | [_], _ => rfl⟩
theorem mf_Press_last_strength (d : Mx K C "last_strength" "Press.last_strength" s_Press_last_strength) (T : Txt K mg C) (D_strength_of : Df P w K mg base 4 "strength_of" ["ages", "retention"] (sp_strength_of K C)) (D_retention_of : Df P w K mg base 3 "retention_of" ["settings"] (sp_retention_of K C)) : Mf P w K mg base C 5 "last_strength" ["self"] (sp_Press_last_strength K C) := by
  obtain ⟨f, fd, F, m⟩ := d
  exact ⟨f, fd, ok_Press_last_strength F T D_strength_of D_retention_of, m, F.binds (ps := ["self"]) fun _ _ _ _ _ _ us hl => match us, hl with | [_], _ => rfl⟩
theorem df_create (d : Fx K mg "create" s_create) (T : Txt K mg C) (D_are_settings : Df P w K mg base 2 "are_settings" ["settings"] (sp_are_settings K C)) (M_take_settings : Mf P w K mg base C 1 "take_settings" ["self", "settings"] (sp_Press_take_settings K C)) (M_clear_shots : Mf P w K mg base C 1 "clear_shots" ["self"] (sp_Press_clear_shots K C)) : Df P w K mg base 3 "create" ["press", "numbers"] (sp_create K C) := by
  obtain ⟨f, fd, F, m⟩ := d
  exact ⟨f, fd, ok_create F T D_are_settings M_take_settings M_clear_shots, m, F.kp, F.binds (ps := ["press", "numbers"]) fun _ _ _ _ _ _ us hl => match us, hl with | [_, _], _ => rfl⟩
theorem df_shot_with (d : Fx K mg "shot_with" s_shot_with) (T : Txt K mg C) (D_told : Df P w K mg base 1 "told" ["part"] (sp_told K C)) (M_take_shot : Mf P w K mg base C 1 "take_shot" ["self", "ages"] (sp_Press_take_shot K C)) (M_last_strength : Mf P w K mg base C 5 "last_strength" ["self"] (sp_Press_last_strength K C)) : Df P w K mg base 6 "shot_with" ["press", "ages"] (sp_shot_with K C) := by
  obtain ⟨f, fd, F, m⟩ := d
  exact ⟨f, fd, ok_shot_with F T D_told M_take_shot M_last_strength, m, F.kp, F.binds (ps := ["press", "ages"]) fun _ _ _ _ _ _ us hl => match us, hl with | [_, _], _ => rfl⟩
theorem df_make_shot (d : Fx K mg "make_shot" s_make_shot) (T : Txt K mg C) (D_next_ages : Df P w K mg base 4 "next_ages" ["ages", "ratio"] (sp_next_ages K C)) (D_regrind_ratio : Df P w K mg base 3 "regrind_ratio" ["settings"] (sp_regrind_ratio K C)) (D_shot_with : Df P w K mg base 6 "shot_with" ["press", "ages"] (sp_shot_with K C)) : Df P w K mg base 7 "make_shot" ["press", "numbers"] (sp_make_shot K C) := by
  obtain ⟨f, fd, F, m⟩ := d
  exact ⟨f, fd, ok_make_shot F T D_next_ages D_regrind_ratio D_shot_with, m, F.kp, F.binds (ps := ["press", "numbers"]) fun _ _ _ _ _ _ us hl => match us, hl with | [_, _], _ => rfl⟩
theorem df_make_virgin_shot (d : Fx K mg "make_virgin_shot" s_make_virgin_shot) (T : Txt K mg C) (D_shot_with : Df P w K mg base 6 "shot_with" ["press", "ages"] (sp_shot_with K C)) : Df P w K mg base 7 "make_virgin_shot" ["press", "numbers"] (sp_make_virgin_shot K C) := by
  obtain ⟨f, fd, F, m⟩ := d
  exact ⟨f, fd, ok_make_virgin_shot F T D_shot_with, m, F.kp, F.binds (ps := ["press", "numbers"]) fun _ _ _ _ _ _ us hl => match us, hl with | [_, _], _ => rfl⟩
theorem df_set_regrind (d : Fx K mg "set_regrind" s_set_regrind) (T : Txt K mg C) (D_is_regrind : Df P w K mg base 1 "is_regrind" ["regrind", "parts"] (sp_is_regrind K C)) (D_with_regrind : Df P w K mg base 1 "with_regrind" ["settings", "regrind"] (sp_with_regrind K C)) (M_take_settings : Mf P w K mg base C 1 "take_settings" ["self", "settings"] (sp_Press_take_settings K C)) : Df P w K mg base 2 "set_regrind" ["press", "numbers"] (sp_set_regrind K C) := by
  obtain ⟨f, fd, F, m⟩ := d
  exact ⟨f, fd, ok_set_regrind F T D_is_regrind D_with_regrind M_take_settings, m, F.kp, F.binds (ps := ["press", "numbers"]) fun _ _ _ _ _ _ us hl => match us, hl with | [_, _], _ => rfl⟩
theorem df_set_retention (d : Fx K mg "set_retention" s_set_retention) (T : Txt K mg C) (D_is_retention : Df P w K mg base 1 "is_retention" ["kept", "kept_of"] (sp_is_retention K C)) (D_with_retention : Df P w K mg base 1 "with_retention" ["settings", "kept", "kept_of"] (sp_with_retention K C)) (M_take_settings : Mf P w K mg base C 1 "take_settings" ["self", "settings"] (sp_Press_take_settings K C)) : Df P w K mg base 2 "set_retention" ["press", "numbers"] (sp_set_retention K C) := by
  obtain ⟨f, fd, F, m⟩ := d
  exact ⟨f, fd, ok_set_retention F T D_is_retention D_with_retention M_take_settings, m, F.kp, F.binds (ps := ["press", "numbers"]) fun _ _ _ _ _ _ us hl => match us, hl with | [_, _], _ => rfl⟩
theorem df_reset (d : Fx K mg "reset" s_reset) (T : Txt K mg C) (M_clear_shots : Mf P w K mg base C 1 "clear_shots" ["self"] (sp_Press_clear_shots K C)) : Df P w K mg base 2 "reset" ["press", "numbers"] (sp_reset K C) := by
  obtain ⟨f, fd, F, m⟩ := d
  exact ⟨f, fd, ok_reset F T M_clear_shots, m, F.kp, F.binds (ps := ["press", "numbers"]) fun _ _ _ _ _ _ us hl => match us, hl with | [_, _], _ => rfl⟩
theorem df_age_fraction (d : Fx K mg "age_fraction" s_age_fraction) (T : Txt K mg C) (D_told : Df P w K mg base 1 "told" ["part"] (sp_told K C)) (D_part_of_age : Df P w K mg base 1 "part_of_age" ["ages", "age"] (sp_part_of_age K C)) (M_has_shot : Mf P w K mg base C 1 "has_shot" ["self"] (sp_Press_has_shot K C)) : Df P w K mg base 2 "age_fraction" ["press", "numbers"] (sp_age_fraction K C) := by
  obtain ⟨f, fd, F, m⟩ := d
  exact ⟨f, fd, ok_age_fraction F T D_told D_part_of_age M_has_shot, m, F.kp, F.binds (ps := ["press", "numbers"]) fun _ _ _ _ _ _ us hl => match us, hl with | [_, _], _ => rfl⟩
theorem df_older_than (d : Fx K mg "older_than" s_older_than) (T : Txt K mg C) (D_told : Df P w K mg base 1 "told" ["part"] (sp_told K C)) (D_part_older_than : Df P w K mg base 5 "part_older_than" ["ages", "age"] (sp_part_older_than K C)) (M_has_shot : Mf P w K mg base C 1 "has_shot" ["self"] (sp_Press_has_shot K C)) : Df P w K mg base 6 "older_than" ["press", "numbers"] (sp_older_than K C) := by
  obtain ⟨f, fd, F, m⟩ := d
  exact ⟨f, fd, ok_older_than F T D_told D_part_older_than M_has_shot, m, F.kp, F.binds (ps := ["press", "numbers"]) fun _ _ _ _ _ _ us hl => match us, hl with | [_, _], _ => rfl⟩
theorem df_age_distribution (d : Fx K mg "age_distribution" s_age_distribution) (T : Txt K mg C) (D_told : Df P w K mg base 1 "told" ["part"] (sp_told K C)) : Df P w K mg base 2 "age_distribution" ["press", "numbers"] (sp_age_distribution K C) := by
  obtain ⟨f, fd, F, m⟩ := d
  exact ⟨f, fd, ok_age_distribution F T D_told, m, F.kp, F.binds (ps := ["press", "numbers"]) fun _ _ _ _ _ _ us hl => match us, hl with | [_, _], _ => rfl⟩
theorem df_strength (d : Fx K mg "strength" s_strength) (T : Txt K mg C) (D_told : Df P w K mg base 1 "told" ["part"] (sp_told K C)) (M_has_shot : Mf P w K mg base C 1 "has_shot" ["self"] (sp_Press_has_shot K C)) (M_last_strength : Mf P w K mg base C 5 "last_strength" ["self"] (sp_Press_last_strength K C)) : Df P w K mg base 6 "strength" ["press", "numbers"] (sp_strength K C) := by
  obtain ⟨f, fd, F, m⟩ := d
  exact ⟨f, fd, ok_strength F T D_told M_has_shot M_last_strength, m, F.kp, F.binds (ps := ["press", "numbers"]) fun _ _ _ _ _ _ us hl => match us, hl with | [_, _], _ => rfl⟩
theorem df_mean_age (d : Fx K mg "mean_age" s_mean_age) (T : Txt K mg C) (D_told : Df P w K mg base 1 "told" ["part"] (sp_told K C)) (D_mean_age_of : Df P w K mg base 5 "mean_age_of" ["ages"] (sp_mean_age_of K C)) (M_has_shot : Mf P w K mg base C 1 "has_shot" ["self"] (sp_Press_has_shot K C)) : Df P w K mg base 6 "mean_age" ["press", "numbers"] (sp_mean_age K C) := by
  obtain ⟨f, fd, F, m⟩ := d
  exact ⟨f, fd, ok_mean_age F T D_told D_mean_age_of M_has_shot, m, F.kp, F.binds (ps := ["press", "numbers"]) fun _ _ _ _ _ _ us hl => match us, hl with | [_, _], _ => rfl⟩
theorem df_limits (d : Fx K mg "limits" s_limits) (T : Txt K mg C) (D_told : Df P w K mg base 1 "told" ["part"] (sp_told K C)) (D_strength_limit : Df P w K mg base 3 "strength_limit" ["settings"] (sp_strength_limit K C)) (D_mean_age_limit : Df P w K mg base 3 "mean_age_limit" ["settings"] (sp_mean_age_limit K C)) : Df P w K mg base 4 "limits" ["press", "numbers"] (sp_limits K C) := by
  obtain ⟨f, fd, F, m⟩ := d
  exact ⟨f, fd, ok_limits F T D_told D_strength_limit D_mean_age_limit, m, F.kp, F.binds (ps := ["press", "numbers"]) fun _ _ _ _ _ _ us hl => match us, hl with | [_, _], _ => rfl⟩
theorem df_strength_above_limit (d : Fx K mg "strength_above_limit" s_strength_above_limit) (T : Txt K mg C) (D_minus : Df P w K mg base 3 "minus" ["one", "other"] (sp_minus K C)) (D_told : Df P w K mg base 1 "told" ["part"] (sp_told K C)) (D_strength_limit : Df P w K mg base 3 "strength_limit" ["settings"] (sp_strength_limit K C)) (M_has_shot : Mf P w K mg base C 1 "has_shot" ["self"] (sp_Press_has_shot K C)) (M_last_strength : Mf P w K mg base C 5 "last_strength" ["self"] (sp_Press_last_strength K C)) : Df P w K mg base 6 "strength_above_limit" ["press", "numbers"] (sp_strength_above_limit K C) := by
  obtain ⟨f, fd, F, m⟩ := d
  exact ⟨f, fd, ok_strength_above_limit F T D_minus D_told D_strength_limit M_has_shot M_last_strength, m, F.kp, F.binds (ps := ["press", "numbers"]) fun _ _ _ _ _ _ us hl => match us, hl with | [_, _], _ => rfl⟩
theorem df_strength_after (d : Fx K mg "strength_after" s_strength_after) (T : Txt K mg C) (D_told : Df P w K mg base 1 "told" ["part"] (sp_told K C)) (D_is_number_of_shots : Df P w K mg base 1 "is_number_of_shots" ["number"] (sp_is_number_of_shots K C)) (D_strength_after_shots : Df P w K mg base 6 "strength_after_shots" ["settings", "many"] (sp_strength_after_shots K C)) : Df P w K mg base 7 "strength_after" ["press", "numbers"] (sp_strength_after K C) := by
  obtain ⟨f, fd, F, m⟩ := d
  exact ⟨f, fd, ok_strength_after F T D_told D_is_number_of_shots D_strength_after_shots, m, F.kp, F.binds (ps := ["press", "numbers"]) fun _ _ _ _ _ _ us hl => match us, hl with | [_, _], _ => rfl⟩
theorem df_max_regrind (d : Fx K mg "max_regrind" s_max_regrind) (T : Txt K mg C) (D_reduced : Df P w K mg base 2 "reduced" ["top", "low"] (sp_reduced K C)) (D_is_threshold : Df P w K mg base 1 "is_threshold" ["num", "den"] (sp_is_threshold K C)) (D_greatest_regrind : Df P w K mg base 4 "greatest_regrind" ["settings", "threshold"] (sp_greatest_regrind K C)) : Df P w K mg base 5 "max_regrind" ["press", "numbers"] (sp_max_regrind K C) := by
  obtain ⟨f, fd, F, m⟩ := d
  exact ⟨f, fd, ok_max_regrind F T D_reduced D_is_threshold D_greatest_regrind, m, F.kp, F.binds (ps := ["press", "numbers"]) fun _ _ _ _ _ _ us hl => match us, hl with | [_, _], _ => rfl⟩
theorem df_first_weak_shot (d : Fx K mg "first_weak_shot" s_first_weak_shot) (T : Txt K mg C) (D_reduced : Df P w K mg base 2 "reduced" ["top", "low"] (sp_reduced K C)) (D_is_threshold : Df P w K mg base 1 "is_threshold" ["num", "den"] (sp_is_threshold K C)) (D_first_weak : Df P w K mg base 7 "first_weak" ["settings", "threshold"] (sp_first_weak K C)) : Df P w K mg base 8 "first_weak_shot" ["press", "numbers"] (sp_first_weak_shot K C) := by
  obtain ⟨f, fd, F, m⟩ := d
  exact ⟨f, fd, ok_first_weak_shot F T D_reduced D_is_threshold D_first_weak, m, F.kp, F.binds (ps := ["press", "numbers"]) fun _ _ _ _ _ _ us hl => match us, hl with | [_, _], _ => rfl⟩
theorem df_strength_after_if (d : Fx K mg "strength_after_if" s_strength_after_if) (T : Txt K mg C) (D_told : Df P w K mg base 1 "told" ["part"] (sp_told K C)) (D_is_regrind : Df P w K mg base 1 "is_regrind" ["regrind", "parts"] (sp_is_regrind K C)) (D_with_regrind : Df P w K mg base 1 "with_regrind" ["settings", "regrind"] (sp_with_regrind K C)) (D_is_number_of_shots : Df P w K mg base 1 "is_number_of_shots" ["number"] (sp_is_number_of_shots K C)) (D_strength_after_shots : Df P w K mg base 6 "strength_after_shots" ["settings", "many"] (sp_strength_after_shots K C)) : Df P w K mg base 7 "strength_after_if" ["press", "numbers"] (sp_strength_after_if K C) := by
  obtain ⟨f, fd, F, m⟩ := d
  exact ⟨f, fd, ok_strength_after_if F T D_told D_is_regrind D_with_regrind D_is_number_of_shots D_strength_after_shots, m, F.kp, F.binds (ps := ["press", "numbers"]) fun _ _ _ _ _ _ us hl => match us, hl with | [_, _], _ => rfl⟩
theorem df_describe (d : Fx K mg "describe" s_describe) (T : Txt K mg C)  : Df P w K mg base 1 "describe" ["press", "numbers"] (sp_describe K C) := by
  obtain ⟨f, fd, F, m⟩ := d
  exact ⟨f, fd, ok_describe F T , m, F.kp, F.binds (ps := ["press", "numbers"]) fun _ _ _ _ _ _ us hl => match us, hl with | [_, _], _ => rfl⟩
theorem df_end_of_call (d : Fx K mg "end_of_call" s_end_of_call) (T : Txt K mg C)  : Df P w K mg base 1 "end_of_call" ["calls", "at"] (sp_end_of_call K C) := by
  obtain ⟨f, fd, F, m⟩ := d
  exact ⟨f, fd, ok_end_of_call F T , m, F.kp, F.binds (ps := ["calls", "at"]) fun _ _ _ _ _ _ us hl => match us, hl with | [_, _], _ => rfl⟩
theorem df_numbers_of (d : Fx K mg "numbers_of" s_numbers_of) (T : Txt K mg C) (D_end_of_call : Df P w K mg base 1 "end_of_call" ["calls", "at"] (sp_end_of_call K C)) : Df P w K mg base 2 "numbers_of" ["calls", "at"] (sp_numbers_of K C) := by
  obtain ⟨f, fd, F, m⟩ := d
  exact ⟨f, fd, ok_numbers_of F T D_end_of_call, m, F.kp, F.binds (ps := ["calls", "at"]) fun _ _ _ _ _ _ us hl => match us, hl with | [_, _], _ => rfl⟩
theorem df_answer_to_change (d : Fx K mg "answer_to_change" s_answer_to_change) (T : Txt K mg C) (D_create : Df P w K mg base 3 "create" ["press", "numbers"] (sp_create K C)) (D_make_shot : Df P w K mg base 7 "make_shot" ["press", "numbers"] (sp_make_shot K C)) (D_make_virgin_shot : Df P w K mg base 7 "make_virgin_shot" ["press", "numbers"] (sp_make_virgin_shot K C)) (D_set_regrind : Df P w K mg base 2 "set_regrind" ["press", "numbers"] (sp_set_regrind K C)) (D_set_retention : Df P w K mg base 2 "set_retention" ["press", "numbers"] (sp_set_retention K C)) (D_reset : Df P w K mg base 2 "reset" ["press", "numbers"] (sp_reset K C)) : Df P w K mg base 8 "answer_to_change" ["press", "number", "numbers"] (sp_answer_to_change K C) := by
  obtain ⟨f, fd, F, m⟩ := d
  exact ⟨f, fd, ok_answer_to_change F T D_create D_make_shot D_make_virgin_shot D_set_regrind D_set_retention D_reset, m, F.kp, F.binds (ps := ["press", "number", "numbers"]) fun _ _ _ _ _ _ us hl => match us, hl with | [_, _, _], _ => rfl⟩
theorem df_answer_to_query (d : Fx K mg "answer_to_query" s_answer_to_query) (T : Txt K mg C) (D_age_fraction : Df P w K mg base 2 "age_fraction" ["press", "numbers"] (sp_age_fraction K C)) (D_older_than : Df P w K mg base 6 "older_than" ["press", "numbers"] (sp_older_than K C)) (D_age_distribution : Df P w K mg base 2 "age_distribution" ["press", "numbers"] (sp_age_distribution K C)) (D_strength : Df P w K mg base 6 "strength" ["press", "numbers"] (sp_strength K C)) (D_mean_age : Df P w K mg base 6 "mean_age" ["press", "numbers"] (sp_mean_age K C)) (D_limits : Df P w K mg base 4 "limits" ["press", "numbers"] (sp_limits K C)) : Df P w K mg base 7 "answer_to_query" ["press", "number", "numbers"] (sp_answer_to_query K C) := by
  obtain ⟨f, fd, F, m⟩ := d
  exact ⟨f, fd, ok_answer_to_query F T D_age_fraction D_older_than D_age_distribution D_strength D_mean_age D_limits, m, F.kp, F.binds (ps := ["press", "number", "numbers"]) fun _ _ _ _ _ _ us hl => match us, hl with | [_, _, _], _ => rfl⟩
theorem df_answer_to_later_query (d : Fx K mg "answer_to_later_query" s_answer_to_later_query) (T : Txt K mg C) (D_strength_above_limit : Df P w K mg base 6 "strength_above_limit" ["press", "numbers"] (sp_strength_above_limit K C)) (D_strength_after : Df P w K mg base 7 "strength_after" ["press", "numbers"] (sp_strength_after K C)) (D_max_regrind : Df P w K mg base 5 "max_regrind" ["press", "numbers"] (sp_max_regrind K C)) (D_first_weak_shot : Df P w K mg base 8 "first_weak_shot" ["press", "numbers"] (sp_first_weak_shot K C)) (D_strength_after_if : Df P w K mg base 7 "strength_after_if" ["press", "numbers"] (sp_strength_after_if K C)) (D_describe : Df P w K mg base 1 "describe" ["press", "numbers"] (sp_describe K C)) : Df P w K mg base 9 "answer_to_later_query" ["press", "number", "numbers"] (sp_answer_to_later_query K C) := by
  obtain ⟨f, fd, F, m⟩ := d
  exact ⟨f, fd, ok_answer_to_later_query F T D_strength_above_limit D_strength_after D_max_regrind D_first_weak_shot D_strength_after_if D_describe, m, F.kp, F.binds (ps := ["press", "number", "numbers"]) fun _ _ _ _ _ _ us hl => match us, hl with | [_, _, _], _ => rfl⟩
theorem df_answer_to (d : Fx K mg "answer_to" s_answer_to) (T : Txt K mg C) (D_answer_to_change : Df P w K mg base 8 "answer_to_change" ["press", "number", "numbers"] (sp_answer_to_change K C)) (D_answer_to_query : Df P w K mg base 7 "answer_to_query" ["press", "number", "numbers"] (sp_answer_to_query K C)) (D_answer_to_later_query : Df P w K mg base 9 "answer_to_later_query" ["press", "number", "numbers"] (sp_answer_to_later_query K C)) (M_is_there : Mf P w K mg base C 1 "is_there" ["self"] (sp_Press_is_there K C)) : Df P w K mg base 10 "answer_to" ["press", "number", "numbers"] (sp_answer_to K C) := by
  obtain ⟨f, fd, F, m⟩ := d
  exact ⟨f, fd, ok_answer_to F T D_answer_to_change D_answer_to_query D_answer_to_later_query M_is_there, m, F.kp, F.binds (ps := ["press", "number", "numbers"]) fun _ _ _ _ _ _ us hl => match us, hl with | [_, _, _], _ => rfl⟩
theorem all_mk {fa : Addr} (hfa : mg "answers" = some (.ref fa)) (T : Txt K mg C) (mk : PySem.W.makesIn K C = true) (kc : PySem.W.keepIn K (.ref C) = true)
    (x_common_divisor : Fx K mg "common_divisor" s_common_divisor)
    (x_reduced : Fx K mg "reduced" s_reduced)
    (x_plus : Fx K mg "plus" s_plus)
    (x_minus : Fx K mg "minus" s_minus)
    (x_times : Fx K mg "times" s_times)
    (x_is_less : Fx K mg "is_less" s_is_less)
    (x_total : Fx K mg "total" s_total)
    (x_told : Fx K mg "told" s_told)
    (x_next_ages : Fx K mg "next_ages" s_next_ages)
    (x_ages_after : Fx K mg "ages_after" s_ages_after)
    (x_strength_of : Fx K mg "strength_of" s_strength_of)
    (x_mean_age_of : Fx K mg "mean_age_of" s_mean_age_of)
    (x_part_of_age : Fx K mg "part_of_age" s_part_of_age)
    (x_part_older_than : Fx K mg "part_older_than" s_part_older_than)
    (x_is_regrind : Fx K mg "is_regrind" s_is_regrind)
    (x_is_parts : Fx K mg "is_parts" s_is_parts)
    (x_is_retention : Fx K mg "is_retention" s_is_retention)
    (x_are_settings : Fx K mg "are_settings" s_are_settings)
    (x_with_regrind : Fx K mg "with_regrind" s_with_regrind)
    (x_with_retention : Fx K mg "with_retention" s_with_retention)
    (x_regrind_ratio : Fx K mg "regrind_ratio" s_regrind_ratio)
    (x_retention_of : Fx K mg "retention_of" s_retention_of)
    (x_strength_limit : Fx K mg "strength_limit" s_strength_limit)
    (x_mean_age_limit : Fx K mg "mean_age_limit" s_mean_age_limit)
    (x_is_number_of_shots : Fx K mg "is_number_of_shots" s_is_number_of_shots)
    (x_is_threshold : Fx K mg "is_threshold" s_is_threshold)
    (x_strength_after_shots : Fx K mg "strength_after_shots" s_strength_after_shots)
    (x_greatest_regrind : Fx K mg "greatest_regrind" s_greatest_regrind)
    (x_first_weak : Fx K mg "first_weak" s_first_weak)
    (x_Press_init : Mx K C "__init__" "Press.__init__" s_Press_init)
    (x_Press_is_there : Mx K C "is_there" "Press.is_there" s_Press_is_there)
    (x_Press_has_shot : Mx K C "has_shot" "Press.has_shot" s_Press_has_shot)
    (x_Press_take_settings : Mx K C "take_settings" "Press.take_settings" s_Press_take_settings)
    (x_Press_take_shot : Mx K C "take_shot" "Press.take_shot" s_Press_take_shot)
    (x_Press_clear_shots : Mx K C "clear_shots" "Press.clear_shots" s_Press_clear_shots)
    (x_Press_last_strength : Mx K C "last_strength" "Press.last_strength" s_Press_last_strength)
    (x_create : Fx K mg "create" s_create)
    (x_shot_with : Fx K mg "shot_with" s_shot_with)
    (x_make_shot : Fx K mg "make_shot" s_make_shot)
    (x_make_virgin_shot : Fx K mg "make_virgin_shot" s_make_virgin_shot)
    (x_set_regrind : Fx K mg "set_regrind" s_set_regrind)
    (x_set_retention : Fx K mg "set_retention" s_set_retention)
    (x_reset : Fx K mg "reset" s_reset)
    (x_age_fraction : Fx K mg "age_fraction" s_age_fraction)
    (x_older_than : Fx K mg "older_than" s_older_than)
    (x_age_distribution : Fx K mg "age_distribution" s_age_distribution)
    (x_strength : Fx K mg "strength" s_strength)
    (x_mean_age : Fx K mg "mean_age" s_mean_age)
    (x_limits : Fx K mg "limits" s_limits)
    (x_strength_above_limit : Fx K mg "strength_above_limit" s_strength_above_limit)
    (x_strength_after : Fx K mg "strength_after" s_strength_after)
    (x_max_regrind : Fx K mg "max_regrind" s_max_regrind)
    (x_first_weak_shot : Fx K mg "first_weak_shot" s_first_weak_shot)
    (x_strength_after_if : Fx K mg "strength_after_if" s_strength_after_if)
    (x_describe : Fx K mg "describe" s_describe)
    (x_end_of_call : Fx K mg "end_of_call" s_end_of_call)
    (x_numbers_of : Fx K mg "numbers_of" s_numbers_of)
    (x_answer_to_change : Fx K mg "answer_to_change" s_answer_to_change)
    (x_answer_to_query : Fx K mg "answer_to_query" s_answer_to_query)
    (x_answer_to_later_query : Fx K mg "answer_to_later_query" s_answer_to_later_query)
    (x_answer_to : Fx K mg "answer_to" s_answer_to)
    (x_answers : Fx K mg "answers" s_answers) :
    ∃ fd : FuncData, (∀ (s : Shared) (us : List Value), us.length = (["calls"] : List Str).length → BindsTo s fd ⟨us, []⟩ ((["calls"] : List Str).zip us)) ∧ ∀ base : Heap, K.In base → base.Ns mainGlobals mg → FnOk P w K mg base CX0 11 fa fd ["calls"] (sp_answers K 0) := by
  obtain ⟨f, fd, F, m⟩ := x_answers
  have e := hfa.symm.trans m
  cases e
  have b := F.binds (ps := ["calls"]) fun _ _ _ _ _ _ us hl => match us, hl with | [_], _ => rfl
  obtain ⟨oc, od, kV, doc, pm, an, cdv, ct, osl, hfd, lk, hcd⟩ := id F.ex
  refine ⟨fd, fun s us hu => ?_, fun base _ _ => ?_⟩
  · subst hfd
    match us, hu with
    | [_], _ => exact .of_eq rfl
  · obtain ⟨f_init, fd_init, F_init, me_init⟩ := x_Press_init
    have b_init := F_init.binds (ps := ["self"]) fun _ _ _ _ _ _ us hl => match us, hl with | [_], _ => rfl
    have G_init : FnOk P w K mg base CX0 1 f_init fd_init ["self"] (sp_Press_init K C) := ok_Press_init F_init T
    have D_common_divisor : Df P w K mg base 1 "common_divisor" ["one", "other"] (sp_common_divisor K C) := df_common_divisor x_common_divisor T 
    have D_reduced : Df P w K mg base 2 "reduced" ["top", "low"] (sp_reduced K C) := df_reduced x_reduced T D_common_divisor
    have D_plus : Df P w K mg base 3 "plus" ["one", "other"] (sp_plus K C) := df_plus x_plus T D_reduced
    have D_minus : Df P w K mg base 3 "minus" ["one", "other"] (sp_minus K C) := df_minus x_minus T D_reduced
    have D_times : Df P w K mg base 3 "times" ["one", "other"] (sp_times K C) := df_times x_times T D_reduced
    have D_is_less : Df P w K mg base 1 "is_less" ["one", "other"] (sp_is_less K C) := df_is_less x_is_less T 
    have D_total : Df P w K mg base 4 "total" ["parts"] (sp_total K C) := df_total x_total T D_plus
    have D_told : Df P w K mg base 1 "told" ["part"] (sp_told K C) := df_told x_told T 
    have D_next_ages : Df P w K mg base 4 "next_ages" ["ages", "ratio"] (sp_next_ages K C) := df_next_ages x_next_ages T D_minus D_times
    have D_ages_after : Df P w K mg base 5 "ages_after" ["ratio", "many"] (sp_ages_after K C) := df_ages_after x_ages_after T D_next_ages
    have D_strength_of : Df P w K mg base 4 "strength_of" ["ages", "retention"] (sp_strength_of K C) := df_strength_of x_strength_of T D_plus D_times
    have D_mean_age_of : Df P w K mg base 5 "mean_age_of" ["ages"] (sp_mean_age_of K C) := df_mean_age_of x_mean_age_of T D_times D_total
    have D_part_of_age : Df P w K mg base 1 "part_of_age" ["ages", "age"] (sp_part_of_age K C) := df_part_of_age x_part_of_age T 
    have D_part_older_than : Df P w K mg base 5 "part_older_than" ["ages", "age"] (sp_part_older_than K C) := df_part_older_than x_part_older_than T D_total
    have D_is_regrind : Df P w K mg base 1 "is_regrind" ["regrind", "parts"] (sp_is_regrind K C) := df_is_regrind x_is_regrind T 
    have D_is_parts : Df P w K mg base 1 "is_parts" ["parts"] (sp_is_parts K C) := df_is_parts x_is_parts T 
    have D_is_retention : Df P w K mg base 1 "is_retention" ["kept", "kept_of"] (sp_is_retention K C) := df_is_retention x_is_retention T 
    have D_are_settings : Df P w K mg base 2 "are_settings" ["settings"] (sp_are_settings K C) := df_are_settings x_are_settings T D_is_regrind D_is_parts D_is_retention
    have D_with_regrind : Df P w K mg base 1 "with_regrind" ["settings", "regrind"] (sp_with_regrind K C) := df_with_regrind x_with_regrind T 
    have D_with_retention : Df P w K mg base 1 "with_retention" ["settings", "kept", "kept_of"] (sp_with_retention K C) := df_with_retention x_with_retention T 
    have D_regrind_ratio : Df P w K mg base 3 "regrind_ratio" ["settings"] (sp_regrind_ratio K C) := df_regrind_ratio x_regrind_ratio T D_reduced
    have D_retention_of : Df P w K mg base 3 "retention_of" ["settings"] (sp_retention_of K C) := df_retention_of x_retention_of T D_reduced
    have D_strength_limit : Df P w K mg base 3 "strength_limit" ["settings"] (sp_strength_limit K C) := df_strength_limit x_strength_limit T D_reduced
    have D_mean_age_limit : Df P w K mg base 3 "mean_age_limit" ["settings"] (sp_mean_age_limit K C) := df_mean_age_limit x_mean_age_limit T D_reduced
    have D_is_number_of_shots : Df P w K mg base 1 "is_number_of_shots" ["number"] (sp_is_number_of_shots K C) := df_is_number_of_shots x_is_number_of_shots T 
    have D_is_threshold : Df P w K mg base 1 "is_threshold" ["num", "den"] (sp_is_threshold K C) := df_is_threshold x_is_threshold T 
    have D_strength_after_shots : Df P w K mg base 6 "strength_after_shots" ["settings", "many"] (sp_strength_after_shots K C) := df_strength_after_shots x_strength_after_shots T D_ages_after D_strength_of D_regrind_ratio D_retention_of
    have D_greatest_regrind : Df P w K mg base 4 "greatest_regrind" ["settings", "threshold"] (sp_greatest_regrind K C) := df_greatest_regrind x_greatest_regrind T D_is_less D_with_regrind D_strength_limit
    have D_first_weak : Df P w K mg base 7 "first_weak" ["settings", "threshold"] (sp_first_weak K C) := df_first_weak x_first_weak T D_is_less D_strength_after_shots
    have M_is_there : Mf P w K mg base C 1 "is_there" ["self"] (sp_Press_is_there K C) := mf_Press_is_there x_Press_is_there T 
    have M_has_shot : Mf P w K mg base C 1 "has_shot" ["self"] (sp_Press_has_shot K C) := mf_Press_has_shot x_Press_has_shot T 
    have M_take_settings : Mf P w K mg base C 1 "take_settings" ["self", "settings"] (sp_Press_take_settings K C) := mf_Press_take_settings x_Press_take_settings T 
    have M_take_shot : Mf P w K mg base C 1 "take_shot" ["self", "ages"] (sp_Press_take_shot K C) := mf_Press_take_shot x_Press_take_shot T 
    have M_clear_shots : Mf P w K mg base C 1 "clear_shots" ["self"] (sp_Press_clear_shots K C) := mf_Press_clear_shots x_Press_clear_shots T 
    have M_last_strength : Mf P w K mg base C 5 "last_strength" ["self"] (sp_Press_last_strength K C) := mf_Press_last_strength x_Press_last_strength T D_strength_of D_retention_of
    have D_create : Df P w K mg base 3 "create" ["press", "numbers"] (sp_create K C) := df_create x_create T D_are_settings M_take_settings M_clear_shots
    have D_shot_with : Df P w K mg base 6 "shot_with" ["press", "ages"] (sp_shot_with K C) := df_shot_with x_shot_with T D_told M_take_shot M_last_strength
    have D_make_shot : Df P w K mg base 7 "make_shot" ["press", "numbers"] (sp_make_shot K C) := df_make_shot x_make_shot T D_next_ages D_regrind_ratio D_shot_with
    have D_make_virgin_shot : Df P w K mg base 7 "make_virgin_shot" ["press", "numbers"] (sp_make_virgin_shot K C) := df_make_virgin_shot x_make_virgin_shot T D_shot_with
    have D_set_regrind : Df P w K mg base 2 "set_regrind" ["press", "numbers"] (sp_set_regrind K C) := df_set_regrind x_set_regrind T D_is_regrind D_with_regrind M_take_settings
    have D_set_retention : Df P w K mg base 2 "set_retention" ["press", "numbers"] (sp_set_retention K C) := df_set_retention x_set_retention T D_is_retention D_with_retention M_take_settings
    have D_reset : Df P w K mg base 2 "reset" ["press", "numbers"] (sp_reset K C) := df_reset x_reset T M_clear_shots
    have D_age_fraction : Df P w K mg base 2 "age_fraction" ["press", "numbers"] (sp_age_fraction K C) := df_age_fraction x_age_fraction T D_told D_part_of_age M_has_shot
    have D_older_than : Df P w K mg base 6 "older_than" ["press", "numbers"] (sp_older_than K C) := df_older_than x_older_than T D_told D_part_older_than M_has_shot
    have D_age_distribution : Df P w K mg base 2 "age_distribution" ["press", "numbers"] (sp_age_distribution K C) := df_age_distribution x_age_distribution T D_told
    have D_strength : Df P w K mg base 6 "strength" ["press", "numbers"] (sp_strength K C) := df_strength x_strength T D_told M_has_shot M_last_strength
    have D_mean_age : Df P w K mg base 6 "mean_age" ["press", "numbers"] (sp_mean_age K C) := df_mean_age x_mean_age T D_told D_mean_age_of M_has_shot
    have D_limits : Df P w K mg base 4 "limits" ["press", "numbers"] (sp_limits K C) := df_limits x_limits T D_told D_strength_limit D_mean_age_limit
    have D_strength_above_limit : Df P w K mg base 6 "strength_above_limit" ["press", "numbers"] (sp_strength_above_limit K C) := df_strength_above_limit x_strength_above_limit T D_minus D_told D_strength_limit M_has_shot M_last_strength
    have D_strength_after : Df P w K mg base 7 "strength_after" ["press", "numbers"] (sp_strength_after K C) := df_strength_after x_strength_after T D_told D_is_number_of_shots D_strength_after_shots
    have D_max_regrind : Df P w K mg base 5 "max_regrind" ["press", "numbers"] (sp_max_regrind K C) := df_max_regrind x_max_regrind T D_reduced D_is_threshold D_greatest_regrind
    have D_first_weak_shot : Df P w K mg base 8 "first_weak_shot" ["press", "numbers"] (sp_first_weak_shot K C) := df_first_weak_shot x_first_weak_shot T D_reduced D_is_threshold D_first_weak
    have D_strength_after_if : Df P w K mg base 7 "strength_after_if" ["press", "numbers"] (sp_strength_after_if K C) := df_strength_after_if x_strength_after_if T D_told D_is_regrind D_with_regrind D_is_number_of_shots D_strength_after_shots
    have D_describe : Df P w K mg base 1 "describe" ["press", "numbers"] (sp_describe K C) := df_describe x_describe T 
    have D_end_of_call : Df P w K mg base 1 "end_of_call" ["calls", "at"] (sp_end_of_call K C) := df_end_of_call x_end_of_call T 
    have D_numbers_of : Df P w K mg base 2 "numbers_of" ["calls", "at"] (sp_numbers_of K C) := df_numbers_of x_numbers_of T D_end_of_call
    have D_answer_to_change : Df P w K mg base 8 "answer_to_change" ["press", "number", "numbers"] (sp_answer_to_change K C) := df_answer_to_change x_answer_to_change T D_create D_make_shot D_make_virgin_shot D_set_regrind D_set_retention D_reset
    have D_answer_to_query : Df P w K mg base 7 "answer_to_query" ["press", "number", "numbers"] (sp_answer_to_query K C) := df_answer_to_query x_answer_to_query T D_age_fraction D_older_than D_age_distribution D_strength D_mean_age D_limits
    have D_answer_to_later_query : Df P w K mg base 9 "answer_to_later_query" ["press", "number", "numbers"] (sp_answer_to_later_query K C) := df_answer_to_later_query x_answer_to_later_query T D_strength_above_limit D_strength_after D_max_regrind D_first_weak_shot D_strength_after_if D_describe
    have D_answer_to : Df P w K mg base 10 "answer_to" ["press", "number", "numbers"] (sp_answer_to K C) := df_answer_to x_answer_to T D_answer_to_change D_answer_to_query D_answer_to_later_query M_is_there
    exact ok_answers (C := C) F T ⟨mk, me_init.at_, me_init.fn, kc⟩ G_init b_init D_end_of_call D_numbers_of D_answer_to
end
theorem txt_mk {K : PySem.W.Frag} {h : Heap} {mg : Str → Option Value} {C : Addr} (X : K.In h) (G : h.Ns mainGlobals mg)
    (pg : PySem.W.plainGet K C Str.empty = true) (hd : PySem.W.hasDictIn K C = true) (po : PySem.W.plainOver K C = true) (sa : PySem.W.findIn K (.ref C) "__setattr__" = some (some (.builtin "object.__setattr__")))
    (n1 : PySem.W.findIn K (.ref C) "settings" = some none) (n2 : PySem.W.findIn K (.ref C) "shots" = some none) (n3 : PySem.W.findIn K (.ref C) "ages" = some none) (aC : PySem.W.nsIn K mainGlobals "Press" = some (some (.ref C)))
    (gN : GT K mg "NOTHING" [.int 0, .int 1]) (gW : GT K mg "WHOLE" [.int 1, .int 1]) (gM : GT K mg "MANY_NUMBERS" (manyT.map V.int))
    (cParts : GI mg "MOST_PARTS" (20)) (cKept : GI mg "MOST_KEPT_OF" (20)) (cShots : GI mg "MOST_SHOTS" (12)) (cDen : GI mg "MOST_DENOMINATOR" (1000)) (cNoIn : GI mg "NO_INSTANCE" (-11)) (cOut : GI mg "OUT_OF_RANGE" (-22)) (cNoShot : GI mg "NO_SHOT" (-6)) (cFull : GI mg "FULL" (-28)) (cNoVal : GI mg "NO_VALUE" (-33)) (cCreate : GI mg "CREATE" (0))
    (bAbs : PySem.W.nsIn K mainGlobals "abs" = some none) (bRange : PySem.W.nsIn K mainGlobals "range" = some none) (bLen : PySem.W.nsIn K mainGlobals "len" = some none) (bEnum : PySem.W.nsIn K mainGlobals "enumerate" = some none) (bList : PySem.W.nsIn K mainGlobals "list" = some none) : Txt K mg C :=
  ⟨⟨pg, hd, po, sa⟩, n1, n2, n3, PySem.W.mg_of X G aC, gN, gW, gM, cParts, cKept, cShots, cDen, cNoIn, cOut, cNoShot, cFull, cNoVal, cCreate, PySem.W.mg_none_of X G bAbs, PySem.W.mg_none_of X G bRange, PySem.W.mg_none_of X G bLen, PySem.W.mg_none_of X G bEnum, PySem.W.mg_none_of X G bList⟩
end Rg
open PySem PySem.W PyProof.Rows
set_option maxRecDepth 100000 in
set_option maxHeartbeats 0 in
theorem PySem.Challenge.cw_regroundshots_s01_answers_holds : PySem.Challenge.rw_regroundshots_s01_answers.Holds := by
  w_on; k_headS; (case hw => exact ⟨[.list [.int 17]], by decide +kernel, by decide +kernel⟩)
  k_fillS
  refine L2.walk_specK (r := PySem.Challenge.rw_regroundshots_s01_answers) (k := 11) (CX := L2.CX0) (ps := ["calls"]) (sp := fun K => Rg.sp_answers K 0) (by decide +kernel) rfl rfl ⟨rfl, by decide, by decide⟩ (fun w h Y => PySem.W.kIn_of Y) ?F ?S (fun _ _ _ _ z => z)
  case F =>
    intro w mg fa h Y KX G hmg
    refine' Rg.all_mk hmg ?T ?mk ?kc ?x_common_divisor ?x_reduced ?x_plus ?x_minus ?x_times ?x_is_less ?x_total ?x_told ?x_next_ages ?x_ages_after ?x_strength_of ?x_mean_age_of ?x_part_of_age ?x_part_older_than ?x_is_regrind ?x_is_parts ?x_is_retention ?x_are_settings ?x_with_regrind ?x_with_retention ?x_regrind_ratio ?x_retention_of ?x_strength_limit ?x_mean_age_limit ?x_is_number_of_shots ?x_is_threshold ?x_strength_after_shots ?x_greatest_regrind ?x_first_weak ?x_Press_init ?x_Press_is_there ?x_Press_has_shot ?x_Press_take_settings ?x_Press_take_shot ?x_Press_clear_shots ?x_Press_last_strength ?x_create ?x_shot_with ?x_make_shot ?x_make_virgin_shot ?x_set_regrind ?x_set_retention ?x_reset ?x_age_fraction ?x_older_than ?x_age_distribution ?x_strength ?x_mean_age ?x_limits ?x_strength_above_limit ?x_strength_after ?x_max_regrind ?x_first_weak_shot ?x_strength_after_if ?x_describe ?x_end_of_call ?x_numbers_of ?x_answer_to_change ?x_answer_to_query ?x_answer_to_later_query ?x_answer_to ?x_answers
    (case T =>
      refine' Rg.txt_mk KX G ?pg ?hd ?po ?sa ?n1 ?n2 ?n3 ?aC ?gN ?gW ?gM ?cParts ?cKept ?cShots ?cDen ?cNoIn ?cOut ?cNoShot ?cFull ?cNoVal ?cCreate ?bAbs ?bRange ?bLen ?bEnum ?bList
      (case aC => k_is)
      (case pg => k_is)
      (case hd => k_is)
      (case po => k_is)
      (case sa => k_is)
      (case n1 => k_is)
      (case n2 => k_is)
      (case n3 => k_is)
      (case gN => (refine' Rg.mk_gt KX G ?agN ?lgN ?qgN ?dgN ?zgN ?vgN ?ygN; (case agN => k_is); (case lgN => k_is); (case qgN => rfl); (case dgN => rfl); (case zgN => decide); (case vgN => rfl); (case ygN => exact Rg.ints_of (by decide))))
      (case gW => (refine' Rg.mk_gt KX G ?agW ?lgW ?qgW ?dgW ?zgW ?vgW ?ygW; (case agW => k_is); (case lgW => k_is); (case qgW => rfl); (case dgW => rfl); (case zgW => decide); (case vgW => rfl); (case ygW => exact Rg.ints_of (by decide))))
      (case gM => (refine' Rg.mk_gt KX G ?agM ?lgM ?qgM ?dgM ?zgM ?vgM ?ygM; (case agM => k_is); (case lgM => k_is); (case qgM => rfl); (case dgM => rfl); (case zgM => decide); (case vgM => rfl); (case ygM => exact Rg.ints_of (by decide))))
      (case cParts => (refine' Rg.mk_gi KX G ?acParts; (case acParts => k_is)))
      (case cKept => (refine' Rg.mk_gi KX G ?acKept; (case acKept => k_is)))
      (case cShots => (refine' Rg.mk_gi KX G ?acShots; (case acShots => k_is)))
      (case cDen => (refine' Rg.mk_gi KX G ?acDen; (case acDen => k_is)))
      (case cNoIn => (refine' Rg.mk_gi KX G ?acNoIn; (case acNoIn => k_is)))
      (case cOut => (refine' Rg.mk_gi KX G ?acOut; (case acOut => k_is)))
      (case cNoShot => (refine' Rg.mk_gi KX G ?acNoShot; (case acNoShot => k_is)))
      (case cFull => (refine' Rg.mk_gi KX G ?acFull; (case acFull => k_is)))
      (case cNoVal => (refine' Rg.mk_gi KX G ?acNoVal; (case acNoVal => k_is)))
      (case cCreate => (refine' Rg.mk_gi KX G ?acCreate; (case acCreate => k_is)))
      (case bAbs => k_is)
      (case bRange => k_is)
      (case bLen => k_is)
      (case bEnum => k_is)
      (case bList => k_is))
    (case mk => k_is); (case kc => k_is)
    (case x_common_divisor => (refine' Rg.mk_fx KX G ?a_common_divisor ?l_common_divisor ?c_common_divisor ?k_common_divisor; (case a_common_divisor => k_is); (case l_common_divisor => k_is); (case c_common_divisor => k_is); (case k_common_divisor => k_is)))
    (case x_reduced => (refine' Rg.mk_fx KX G ?a_reduced ?l_reduced ?c_reduced ?k_reduced; (case a_reduced => k_is); (case l_reduced => k_is); (case c_reduced => k_is); (case k_reduced => k_is)))
    (case x_plus => (refine' Rg.mk_fx KX G ?a_plus ?l_plus ?c_plus ?k_plus; (case a_plus => k_is); (case l_plus => k_is); (case c_plus => k_is); (case k_plus => k_is)))
    (case x_minus => (refine' Rg.mk_fx KX G ?a_minus ?l_minus ?c_minus ?k_minus; (case a_minus => k_is); (case l_minus => k_is); (case c_minus => k_is); (case k_minus => k_is)))
    (case x_times => (refine' Rg.mk_fx KX G ?a_times ?l_times ?c_times ?k_times; (case a_times => k_is); (case l_times => k_is); (case c_times => k_is); (case k_times => k_is)))
    (case x_is_less => (refine' Rg.mk_fx KX G ?a_is_less ?l_is_less ?c_is_less ?k_is_less; (case a_is_less => k_is); (case l_is_less => k_is); (case c_is_less => k_is); (case k_is_less => k_is)))
    (case x_total => (refine' Rg.mk_fx KX G ?a_total ?l_total ?c_total ?k_total; (case a_total => k_is); (case l_total => k_is); (case c_total => k_is); (case k_total => k_is)))
    (case x_told => (refine' Rg.mk_fx KX G ?a_told ?l_told ?c_told ?k_told; (case a_told => k_is); (case l_told => k_is); (case c_told => k_is); (case k_told => k_is)))
    (case x_next_ages => (refine' Rg.mk_fx KX G ?a_next_ages ?l_next_ages ?c_next_ages ?k_next_ages; (case a_next_ages => k_is); (case l_next_ages => k_is); (case c_next_ages => k_is); (case k_next_ages => k_is)))
    (case x_ages_after => (refine' Rg.mk_fx KX G ?a_ages_after ?l_ages_after ?c_ages_after ?k_ages_after; (case a_ages_after => k_is); (case l_ages_after => k_is); (case c_ages_after => k_is); (case k_ages_after => k_is)))
    (case x_strength_of => (refine' Rg.mk_fx KX G ?a_strength_of ?l_strength_of ?c_strength_of ?k_strength_of; (case a_strength_of => k_is); (case l_strength_of => k_is); (case c_strength_of => k_is); (case k_strength_of => k_is)))
    (case x_mean_age_of => (refine' Rg.mk_fx KX G ?a_mean_age_of ?l_mean_age_of ?c_mean_age_of ?k_mean_age_of; (case a_mean_age_of => k_is); (case l_mean_age_of => k_is); (case c_mean_age_of => k_is); (case k_mean_age_of => k_is)))
    (case x_part_of_age => (refine' Rg.mk_fx KX G ?a_part_of_age ?l_part_of_age ?c_part_of_age ?k_part_of_age; (case a_part_of_age => k_is); (case l_part_of_age => k_is); (case c_part_of_age => k_is); (case k_part_of_age => k_is)))
    (case x_part_older_than => (refine' Rg.mk_fx KX G ?a_part_older_than ?l_part_older_than ?c_part_older_than ?k_part_older_than; (case a_part_older_than => k_is); (case l_part_older_than => k_is); (case c_part_older_than => k_is); (case k_part_older_than => k_is)))
    (case x_is_regrind => (refine' Rg.mk_fx KX G ?a_is_regrind ?l_is_regrind ?c_is_regrind ?k_is_regrind; (case a_is_regrind => k_is); (case l_is_regrind => k_is); (case c_is_regrind => k_is); (case k_is_regrind => k_is)))
    (case x_is_parts => (refine' Rg.mk_fx KX G ?a_is_parts ?l_is_parts ?c_is_parts ?k_is_parts; (case a_is_parts => k_is); (case l_is_parts => k_is); (case c_is_parts => k_is); (case k_is_parts => k_is)))
    (case x_is_retention => (refine' Rg.mk_fx KX G ?a_is_retention ?l_is_retention ?c_is_retention ?k_is_retention; (case a_is_retention => k_is); (case l_is_retention => k_is); (case c_is_retention => k_is); (case k_is_retention => k_is)))
    (case x_are_settings => (refine' Rg.mk_fx KX G ?a_are_settings ?l_are_settings ?c_are_settings ?k_are_settings; (case a_are_settings => k_is); (case l_are_settings => k_is); (case c_are_settings => k_is); (case k_are_settings => k_is)))
    (case x_with_regrind => (refine' Rg.mk_fx KX G ?a_with_regrind ?l_with_regrind ?c_with_regrind ?k_with_regrind; (case a_with_regrind => k_is); (case l_with_regrind => k_is); (case c_with_regrind => k_is); (case k_with_regrind => k_is)))
    (case x_with_retention => (refine' Rg.mk_fx KX G ?a_with_retention ?l_with_retention ?c_with_retention ?k_with_retention; (case a_with_retention => k_is); (case l_with_retention => k_is); (case c_with_retention => k_is); (case k_with_retention => k_is)))
    (case x_regrind_ratio => (refine' Rg.mk_fx KX G ?a_regrind_ratio ?l_regrind_ratio ?c_regrind_ratio ?k_regrind_ratio; (case a_regrind_ratio => k_is); (case l_regrind_ratio => k_is); (case c_regrind_ratio => k_is); (case k_regrind_ratio => k_is)))
    (case x_retention_of => (refine' Rg.mk_fx KX G ?a_retention_of ?l_retention_of ?c_retention_of ?k_retention_of; (case a_retention_of => k_is); (case l_retention_of => k_is); (case c_retention_of => k_is); (case k_retention_of => k_is)))
    (case x_strength_limit => (refine' Rg.mk_fx KX G ?a_strength_limit ?l_strength_limit ?c_strength_limit ?k_strength_limit; (case a_strength_limit => k_is); (case l_strength_limit => k_is); (case c_strength_limit => k_is); (case k_strength_limit => k_is)))
    (case x_mean_age_limit => (refine' Rg.mk_fx KX G ?a_mean_age_limit ?l_mean_age_limit ?c_mean_age_limit ?k_mean_age_limit; (case a_mean_age_limit => k_is); (case l_mean_age_limit => k_is); (case c_mean_age_limit => k_is); (case k_mean_age_limit => k_is)))
    (case x_is_number_of_shots => (refine' Rg.mk_fx KX G ?a_is_number_of_shots ?l_is_number_of_shots ?c_is_number_of_shots ?k_is_number_of_shots; (case a_is_number_of_shots => k_is); (case l_is_number_of_shots => k_is); (case c_is_number_of_shots => k_is); (case k_is_number_of_shots => k_is)))
    (case x_is_threshold => (refine' Rg.mk_fx KX G ?a_is_threshold ?l_is_threshold ?c_is_threshold ?k_is_threshold; (case a_is_threshold => k_is); (case l_is_threshold => k_is); (case c_is_threshold => k_is); (case k_is_threshold => k_is)))
    (case x_strength_after_shots => (refine' Rg.mk_fx KX G ?a_strength_after_shots ?l_strength_after_shots ?c_strength_after_shots ?k_strength_after_shots; (case a_strength_after_shots => k_is); (case l_strength_after_shots => k_is); (case c_strength_after_shots => k_is); (case k_strength_after_shots => k_is)))
    (case x_greatest_regrind => (refine' Rg.mk_fx KX G ?a_greatest_regrind ?l_greatest_regrind ?c_greatest_regrind ?k_greatest_regrind; (case a_greatest_regrind => k_is); (case l_greatest_regrind => k_is); (case c_greatest_regrind => k_is); (case k_greatest_regrind => k_is)))
    (case x_first_weak => (refine' Rg.mk_fx KX G ?a_first_weak ?l_first_weak ?c_first_weak ?k_first_weak; (case a_first_weak => k_is); (case l_first_weak => k_is); (case c_first_weak => k_is); (case k_first_weak => k_is)))
    (case x_Press_init => (refine' Rg.mk_mx ?a_Press_init ?i_Press_init ?l_Press_init ?c_Press_init ?k_Press_init; (case a_Press_init => k_is); (case i_Press_init => k_is); (case l_Press_init => k_is); (case c_Press_init => k_is); (case k_Press_init => k_is)))
    (case x_Press_is_there => (refine' Rg.mk_mx ?a_Press_is_there ?i_Press_is_there ?l_Press_is_there ?c_Press_is_there ?k_Press_is_there; (case a_Press_is_there => k_is); (case i_Press_is_there => k_is); (case l_Press_is_there => k_is); (case c_Press_is_there => k_is); (case k_Press_is_there => k_is)))
    (case x_Press_has_shot => (refine' Rg.mk_mx ?a_Press_has_shot ?i_Press_has_shot ?l_Press_has_shot ?c_Press_has_shot ?k_Press_has_shot; (case a_Press_has_shot => k_is); (case i_Press_has_shot => k_is); (case l_Press_has_shot => k_is); (case c_Press_has_shot => k_is); (case k_Press_has_shot => k_is)))
    (case x_Press_take_settings => (refine' Rg.mk_mx ?a_Press_take_settings ?i_Press_take_settings ?l_Press_take_settings ?c_Press_take_settings ?k_Press_take_settings; (case a_Press_take_settings => k_is); (case i_Press_take_settings => k_is); (case l_Press_take_settings => k_is); (case c_Press_take_settings => k_is); (case k_Press_take_settings => k_is)))
    (case x_Press_take_shot => (refine' Rg.mk_mx ?a_Press_take_shot ?i_Press_take_shot ?l_Press_take_shot ?c_Press_take_shot ?k_Press_take_shot; (case a_Press_take_shot => k_is); (case i_Press_take_shot => k_is); (case l_Press_take_shot => k_is); (case c_Press_take_shot => k_is); (case k_Press_take_shot => k_is)))
    (case x_Press_clear_shots => (refine' Rg.mk_mx ?a_Press_clear_shots ?i_Press_clear_shots ?l_Press_clear_shots ?c_Press_clear_shots ?k_Press_clear_shots; (case a_Press_clear_shots => k_is); (case i_Press_clear_shots => k_is); (case l_Press_clear_shots => k_is); (case c_Press_clear_shots => k_is); (case k_Press_clear_shots => k_is)))
    (case x_Press_last_strength => (refine' Rg.mk_mx ?a_Press_last_strength ?i_Press_last_strength ?l_Press_last_strength ?c_Press_last_strength ?k_Press_last_strength; (case a_Press_last_strength => k_is); (case i_Press_last_strength => k_is); (case l_Press_last_strength => k_is); (case c_Press_last_strength => k_is); (case k_Press_last_strength => k_is)))
    (case x_create => (refine' Rg.mk_fx KX G ?a_create ?l_create ?c_create ?k_create; (case a_create => k_is); (case l_create => k_is); (case c_create => k_is); (case k_create => k_is)))
    (case x_shot_with => (refine' Rg.mk_fx KX G ?a_shot_with ?l_shot_with ?c_shot_with ?k_shot_with; (case a_shot_with => k_is); (case l_shot_with => k_is); (case c_shot_with => k_is); (case k_shot_with => k_is)))
    (case x_make_shot => (refine' Rg.mk_fx KX G ?a_make_shot ?l_make_shot ?c_make_shot ?k_make_shot; (case a_make_shot => k_is); (case l_make_shot => k_is); (case c_make_shot => k_is); (case k_make_shot => k_is)))
    (case x_make_virgin_shot => (refine' Rg.mk_fx KX G ?a_make_virgin_shot ?l_make_virgin_shot ?c_make_virgin_shot ?k_make_virgin_shot; (case a_make_virgin_shot => k_is); (case l_make_virgin_shot => k_is); (case c_make_virgin_shot => k_is); (case k_make_virgin_shot => k_is)))
    (case x_set_regrind => (refine' Rg.mk_fx KX G ?a_set_regrind ?l_set_regrind ?c_set_regrind ?k_set_regrind; (case a_set_regrind => k_is); (case l_set_regrind => k_is); (case c_set_regrind => k_is); (case k_set_regrind => k_is)))
    (case x_set_retention => (refine' Rg.mk_fx KX G ?a_set_retention ?l_set_retention ?c_set_retention ?k_set_retention; (case a_set_retention => k_is); (case l_set_retention => k_is); (case c_set_retention => k_is); (case k_set_retention => k_is)))
    (case x_reset => (refine' Rg.mk_fx KX G ?a_reset ?l_reset ?c_reset ?k_reset; (case a_reset => k_is); (case l_reset => k_is); (case c_reset => k_is); (case k_reset => k_is)))
    (case x_age_fraction => (refine' Rg.mk_fx KX G ?a_age_fraction ?l_age_fraction ?c_age_fraction ?k_age_fraction; (case a_age_fraction => k_is); (case l_age_fraction => k_is); (case c_age_fraction => k_is); (case k_age_fraction => k_is)))
    (case x_older_than => (refine' Rg.mk_fx KX G ?a_older_than ?l_older_than ?c_older_than ?k_older_than; (case a_older_than => k_is); (case l_older_than => k_is); (case c_older_than => k_is); (case k_older_than => k_is)))
    (case x_age_distribution => (refine' Rg.mk_fx KX G ?a_age_distribution ?l_age_distribution ?c_age_distribution ?k_age_distribution; (case a_age_distribution => k_is); (case l_age_distribution => k_is); (case c_age_distribution => k_is); (case k_age_distribution => k_is)))
    (case x_strength => (refine' Rg.mk_fx KX G ?a_strength ?l_strength ?c_strength ?k_strength; (case a_strength => k_is); (case l_strength => k_is); (case c_strength => k_is); (case k_strength => k_is)))
    (case x_mean_age => (refine' Rg.mk_fx KX G ?a_mean_age ?l_mean_age ?c_mean_age ?k_mean_age; (case a_mean_age => k_is); (case l_mean_age => k_is); (case c_mean_age => k_is); (case k_mean_age => k_is)))
    (case x_limits => (refine' Rg.mk_fx KX G ?a_limits ?l_limits ?c_limits ?k_limits; (case a_limits => k_is); (case l_limits => k_is); (case c_limits => k_is); (case k_limits => k_is)))
    (case x_strength_above_limit => (refine' Rg.mk_fx KX G ?a_strength_above_limit ?l_strength_above_limit ?c_strength_above_limit ?k_strength_above_limit; (case a_strength_above_limit => k_is); (case l_strength_above_limit => k_is); (case c_strength_above_limit => k_is); (case k_strength_above_limit => k_is)))
    (case x_strength_after => (refine' Rg.mk_fx KX G ?a_strength_after ?l_strength_after ?c_strength_after ?k_strength_after; (case a_strength_after => k_is); (case l_strength_after => k_is); (case c_strength_after => k_is); (case k_strength_after => k_is)))
    (case x_max_regrind => (refine' Rg.mk_fx KX G ?a_max_regrind ?l_max_regrind ?c_max_regrind ?k_max_regrind; (case a_max_regrind => k_is); (case l_max_regrind => k_is); (case c_max_regrind => k_is); (case k_max_regrind => k_is)))
    (case x_first_weak_shot => (refine' Rg.mk_fx KX G ?a_first_weak_shot ?l_first_weak_shot ?c_first_weak_shot ?k_first_weak_shot; (case a_first_weak_shot => k_is); (case l_first_weak_shot => k_is); (case c_first_weak_shot => k_is); (case k_first_weak_shot => k_is)))
    (case x_strength_after_if => (refine' Rg.mk_fx KX G ?a_strength_after_if ?l_strength_after_if ?c_strength_after_if ?k_strength_after_if; (case a_strength_after_if => k_is); (case l_strength_after_if => k_is); (case c_strength_after_if => k_is); (case k_strength_after_if => k_is)))
    (case x_describe => (refine' Rg.mk_fx KX G ?a_describe ?l_describe ?c_describe ?k_describe; (case a_describe => k_is); (case l_describe => k_is); (case c_describe => k_is); (case k_describe => k_is)))
    (case x_end_of_call => (refine' Rg.mk_fx KX G ?a_end_of_call ?l_end_of_call ?c_end_of_call ?k_end_of_call; (case a_end_of_call => k_is); (case l_end_of_call => k_is); (case c_end_of_call => k_is); (case k_end_of_call => k_is)))
    (case x_numbers_of => (refine' Rg.mk_fx KX G ?a_numbers_of ?l_numbers_of ?c_numbers_of ?k_numbers_of; (case a_numbers_of => k_is); (case l_numbers_of => k_is); (case c_numbers_of => k_is); (case k_numbers_of => k_is)))
    (case x_answer_to_change => (refine' Rg.mk_fx KX G ?a_answer_to_change ?l_answer_to_change ?c_answer_to_change ?k_answer_to_change; (case a_answer_to_change => k_is); (case l_answer_to_change => k_is); (case c_answer_to_change => k_is); (case k_answer_to_change => k_is)))
    (case x_answer_to_query => (refine' Rg.mk_fx KX G ?a_answer_to_query ?l_answer_to_query ?c_answer_to_query ?k_answer_to_query; (case a_answer_to_query => k_is); (case l_answer_to_query => k_is); (case c_answer_to_query => k_is); (case k_answer_to_query => k_is)))
    (case x_answer_to_later_query => (refine' Rg.mk_fx KX G ?a_answer_to_later_query ?l_answer_to_later_query ?c_answer_to_later_query ?k_answer_to_later_query; (case a_answer_to_later_query => k_is); (case l_answer_to_later_query => k_is); (case c_answer_to_later_query => k_is); (case k_answer_to_later_query => k_is)))
    (case x_answer_to => (refine' Rg.mk_fx KX G ?a_answer_to ?l_answer_to ?c_answer_to ?k_answer_to; (case a_answer_to => k_is); (case l_answer_to => k_is); (case c_answer_to => k_is); (case k_answer_to => k_is)))
    (case x_answers => (refine' Rg.mk_fx KX G ?a_answers ?l_answers ?c_answers ?k_answers; (case a_answers => k_is); (case l_answers => k_is); (case c_answers => k_is); (case k_answers => k_is)))
  case S =>
    intro K H xs a hO hwi hask hx
    cases hx with
    | cons h1 h2 =>
      cases h2
      cases h1 with
      | lst hs ha =>
        have e := L2.ints_dw a.1 _ ha
        subst e
        have q : ((Codec.inLen 0 400 a.1 && a.1.all (Codec.inInt (-2147483648) 2147483647)) && true) = true := hwi
        rw [Bool.and_eq_true, Bool.and_eq_true] at q
        refine ⟨_, a.1, rfl, hs, fun m hm => ?_, hask, fun H' p hp => .lst (L2.SqL.of hp) (L2.dw_ints _)⟩
        have z := List.all_eq_true.mp q.1.2 m hm
        exact (Codec.inInt_iff.mp z).2
#print axioms PySem.Challenge.cw_regroundshots_s01_answers_holds
