import PyProof.Rows.All
import Wide.All
import OpenK.AllK
import Wide.FinOn
import PyProof.EqAt
import PyProof.EqKinds
import PyProof.TupleCall
import HandS.ForMost
import HandS.Wide
import HandS.IsInst
import HandS.SortRule
import PySem.Challenge.RW_ringloads_k91_whole_sendings_rounded
import HandS.Exc
import KE.DataMinMax
import HandS.Conv
import PyProof.ReprReads
import PyProof.ReprLen
import PyProof.FitsInt
import PyProof.ReprRoads
import PyProof.Rows.NestShow
set_option Elab.async false
set_option linter.all false
/-! Plain: fractions as core's Rat. -/
namespace Rg
theorem gcd_step (a b : Int) : Int.gcd b (a % b) = Int.gcd a b := by
  rw [Int.gcd_comm a b]
  have h : a % b = a + b * (-(a / b)) := by
    have := Int.emod_add_mul_ediv a b
    rw [Int.mul_neg]
    omega
  rw [h, Int.gcd_add_mul_left_right]
/-- a fraction with a small bottom -/
def sm (q : Rat) : Prop := q.den ≤ 2 ^ 30
theorem mk_num (t : Int) {b : Nat} (hb : 0 < b) : (mkRat t b).num = t / (Int.gcd t b : Int) := by
  rw [Rat.num_mkRat, if_neg (Nat.ne_of_gt hb)]
  simp [Int.gcd, Nat.gcd_comm]
theorem mk_den (t : Int) {b : Nat} (hb : 0 < b) : ((mkRat t b).den : Int) = (b : Int) / (Int.gcd t b : Int) := by
  rw [Rat.den_mkRat, if_neg (Nat.ne_of_gt hb)]
  simp [Int.gcd, Nat.gcd_comm]
theorem gcd_pos {t : Int} {b : Nat} (hb : 0 < b) : 0 < (Int.gcd t b : Int) := by
  have : 0 < Int.gcd t b := Int.gcd_pos_of_ne_zero_right _ (by omega)
  omega
theorem gcd_le {t : Int} {b : Nat} (hb : 0 < b) : Int.gcd t b ≤ b := by
  have := Nat.gcd_le_right t.natAbs (n := b) hb
  simpa [Int.gcd] using this
end Rg

set_option Elab.async false
set_option linter.all false
/-! Plain: the mirror: asks, ties, loads. -/
namespace Rg
/-- a whole number of 665280ths; of 332640ths -/
def lo (q : Rat) : Prop := ∃ n : Int, q * 665280 = (n : Rat)
def fin (q : Rat) : Prop := ∃ n : Int, q * 332640 = (n : Rat)
theorem lo_sm {q : Rat} (h : lo q) : sm q := by
  obtain ⟨n, hn⟩ := h
  have e : q = mkRat n 665280 := by
    rw [Rat.mkRat_eq_div, ← hn]
    rw [show ((665280 : Nat) : Rat) = (665280 : Rat) from rfl, Rat.mul_div_cancel (by decide)]
  unfold sm
  rw [e, Rat.den_mkRat, if_neg (by decide)]
  exact Nat.le_trans (Nat.div_le_self _ _) (by decide)
theorem lo_add {a b : Rat} (ha : lo a) (hb : lo b) : lo (a + b) := by
  obtain ⟨m, hm⟩ := ha
  obtain ⟨n, hn⟩ := hb
  refine ⟨m + n, ?_⟩
  rw [Rat.add_mul, hm, hn, Rat.intCast_add]
theorem lo_neg {a : Rat} (ha : lo a) : lo (-a) := by
  obtain ⟨m, hm⟩ := ha
  refine ⟨-m, ?_⟩
  rw [Rat.neg_mul, hm, Rat.intCast_neg]
theorem lo_sub {a b : Rat} (ha : lo a) (hb : lo b) : lo (a - b) := by
  rw [Rat.sub_eq_add_neg]
  exact lo_add ha (lo_neg hb)
theorem fin_lo {q : Rat} (h : fin q) : lo q := by
  obtain ⟨n, hn⟩ := h
  refine ⟨2 * n, ?_⟩
  rw [Rat.intCast_mul, ← hn]
  have : ((2 : Int) : Rat) = 2 := rfl
  rw [this]
  grind
theorem fin_half {q : Rat} (h : fin q) : lo (q * (1 / 2)) := by
  obtain ⟨n, hn⟩ := h
  refine ⟨n, ?_⟩
  rw [← hn]
  grind
theorem fin_add {a b : Rat} (ha : fin a) (hb : fin b) : fin (a + b) := by
  obtain ⟨m, hm⟩ := ha
  obtain ⟨n, hn⟩ := hb
  refine ⟨m + n, ?_⟩
  rw [Rat.add_mul, hm, hn, Rat.intCast_add]
theorem fin_sub {a b : Rat} (ha : fin a) (hb : fin b) : fin (a - b) := by
  obtain ⟨m, hm⟩ := ha
  obtain ⟨n, hn⟩ := hb
  refine ⟨m - n, ?_⟩
  have e : (a - b) * 332640 = a * 332640 - b * 332640 := by grind
  rw [e, hm, hn, Rat.intCast_sub]
theorem lo_zero : lo 0 := ⟨0, by rw [Rat.zero_mul]; rfl⟩
theorem fin_zero : fin 0 := ⟨0, by rw [Rat.zero_mul]; rfl⟩

/-! ### asks -/
structure Ask where
  nm : Array Nat
  one : Nat
  other : Nat
  size : Rat
instance : Inhabited Ask := ⟨⟨#[], 0, 1, 0⟩⟩
def askAt (A : List Ask) (k : Nat) : Ask := A.getD k default
theorem askAt_get {A : List Ask} {k : Nat} (h : k < A.length) : A[k]? = some (askAt A k) := by
  unfold askAt
  rw [List.getD_eq_getElem?_getD, List.getElem?_eq_getElem h]
  rfl
theorem askAt_mem {A : List Ask} {k : Nat} (h : k < A.length) : askAt A k ∈ A := List.mem_of_getElem? (askAt_get h)
structure AOk (a : Ask) : Prop where
  o1 : a.one < 12
  o2 : a.other < 12
  ne : a.one ≠ a.other
  nn : 0 ≤ a.size
  fn : fin a.size
/-- a ring of the law's kind -/
structure Rok (A : List Ask) : Prop where
  len : A.length ≤ 20
  ask : ∀ a ∈ A, AOk a
theorem Rok.at {A : List Ask} (h : Rok A) {k : Nat} (hk : k < A.length) : AOk (askAt A k) := h.ask _ (askAt_mem hk)
def partAt (S : List Rat) (k : Nat) : Rat := S.getD k 0
theorem partAt_get {S : List Rat} {k : Nat} (h : k < S.length) : S[k]? = some (partAt S k) := by
  unfold partAt
  rw [List.getD_eq_getElem?_getD, List.getElem?_eq_getElem h]
  rfl
/-- parts for the ring's asks -/
structure Sok (A : List Ask) (S : List Rat) : Prop where
  len : S.length = A.length
  fn : ∀ k, k < A.length → fin (partAt S k)
/-- no part is below nought or above the size -/
structure Sv (A : List Ask) (S : List Rat) : Prop extends Sok A S where
  ge : ∀ k, k < A.length → 0 ≤ partAt S k
  le : ∀ k, k < A.length → partAt S k ≤ (askAt A k).size

/-! ### ties -/
def over (a : Ask) (t : Int) : Bool := decide ((t - (a.one : Int)) % 12 < ((a.other : Int) - (a.one : Int)) % 12)
def tiesL (a : Ask) (way : Bool) : List Int :=
  if way then (List.range (((a.other : Int) - (a.one : Int)) % 12).toNat).map fun (s : Nat) => ((a.one : Int) + (s : Int)) % 12
  else (List.range (((a.one : Int) - (a.other : Int)) % 12).toNat).map fun (s : Nat) => ((a.one : Int) - 1 - (s : Int)) % 12
theorem tiesL_on {a : Ask} (h : AOk a) (t : Int) : t ∈ tiesL a true ↔ 0 ≤ t ∧ t < 12 ∧ over a t = true := by
  have := h.o1
  have := h.o2
  have := h.ne
  unfold tiesL over
  rw [if_pos rfl, List.mem_map]
  simp only [List.mem_range, decide_eq_true_eq]
  constructor
  · rintro ⟨s, h1, h2⟩
    omega
  · rintro ⟨h1, h2, h3⟩
    exact ⟨((t - (a.one : Int)) % 12).toNat, by omega, by omega⟩
theorem tiesL_back {a : Ask} (h : AOk a) (t : Int) : t ∈ tiesL a false ↔ 0 ≤ t ∧ t < 12 ∧ over a t = false := by
  have := h.o1
  have := h.o2
  have := h.ne
  unfold tiesL over
  rw [if_neg Bool.false_ne_true, List.mem_map]
  simp only [List.mem_range, decide_eq_false_iff_not]
  constructor
  · rintro ⟨s, h1, h2⟩
    omega
  · rintro ⟨h1, h2, h3⟩
    exact ⟨(((a.one : Int) - 1 - t) % 12).toNat, by omega, by omega⟩
/-- no tie twice -/
theorem tiesL_nodup {a : Ask} (h : AOk a) (way : Bool) : (tiesL a way).Nodup := by
  have := h.o1
  have := h.o2
  cases way with
  | true =>
    unfold tiesL
    rw [if_pos rfl]
    refine List.Pairwise.map _ (fun x y (hxy : x < y ∧ y < (((a.other : Int) - (a.one : Int)) % 12).toNat) => by omega) ?_
    refine (List.pairwise_lt_range (n := (((a.other : Int) - (a.one : Int)) % 12).toNat)).imp_of_mem ?_
    intro x y hx hy hxy
    exact ⟨hxy, List.mem_range.mp hy⟩
  | false =>
    unfold tiesL
    rw [if_neg Bool.false_ne_true]
    refine List.Pairwise.map _ (fun x y (hxy : x < y ∧ y < (((a.one : Int) - (a.other : Int)) % 12).toNat) => by omega) ?_
    refine (List.pairwise_lt_range (n := (((a.one : Int) - (a.other : Int)) % 12).toNat)).imp_of_mem ?_
    intro x y hx hy hxy
    exact ⟨hxy, List.mem_range.mp hy⟩
def isOver (a : Ask) (way : Bool) (t : Int) : Bool := over a t == way
theorem tiesL_mem {a : Ask} (h : AOk a) (way : Bool) (t : Int) : t ∈ tiesL a way ↔ 0 ≤ t ∧ t < 12 ∧ isOver a way t = true := by
  cases way with
  | true => rw [tiesL_on h]; simp [isOver]
  | false => rw [tiesL_back h]; simp [isOver]

/-! ### crossing -/
def lowOf (a : Ask) : Nat := if a.other < a.one then a.other else a.one
def highOf (a : Ask) : Nat := if a.other > a.one then a.other else a.one
def crossB (a b : Ask) : Bool :=
  if a.one = b.one ∨ a.one = b.other ∨ a.other = b.one ∨ a.other = b.other then false
  else decide ((lowOf a < b.one ∧ b.one < highOf a) ↔ ¬ (lowOf a < b.other ∧ b.other < highOf a))
/-- parted asks -/
def partB (A : List Ask) (S : List Rat) (k : Nat) : Bool := decide (0 < partAt S k) && decide (partAt S k < (askAt A k).size)
def partedL (A : List Ask) (S : List Rat) : List Nat := (List.range A.length).filter (partB A S)
def allCross (A : List Ask) (some : List Nat) : Bool := some.all fun k => some.all fun l => !(decide (k < l) && !crossB (askAt A k) (askAt A l))
/-- what goes by a way -/
def gone (A : List Ask) (S : List Rat) (k : Nat) (way : Bool) : Rat := if way then partAt S k else (askAt A k).size - partAt S k
/-- a tie's load from the first m asks -/
def loadTo (A : List Ask) (S : List Rat) (t : Nat) : Nat → Rat
  | 0 => 0
  | m + 1 => loadTo A S t m + (if over (askAt A m) t then partAt S m else (askAt A m).size - partAt S m)
def load (A : List Ask) (S : List Rat) (t : Nat) : Rat := loadTo A S t A.length
theorem loadTo_lo {A : List Ask} {S : List Rat} (h : Rok A) (hs : Sok A S) (t : Nat) : ∀ m, m ≤ A.length → lo (loadTo A S t m)
  | 0, _ => lo_zero
  | m + 1, hm => by
    unfold loadTo
    refine lo_add (loadTo_lo h hs t m (by omega)) ?_
    split
    · exact fin_lo (hs.fn m hm)
    · exact fin_lo (fin_sub (h.at hm).fn (hs.fn m hm))
/-- the whole sending by ways -/
def sentBy (A : List Ask) (W : List Bool) : List Rat := (A.zip W).map fun p => if p.2 then p.1.size else 0
end Rg
namespace Rg
/-! ### slides -/
structure Slide where
  k : Nat
  way : Bool
  l : Nat
  other : Bool
  amt : Rat
def apart (a : Ask) (w : Bool) (b : Ask) (o : Bool) : Bool := ((tiesL a w).filter (fun t => decide (t ∈ tiesL b o))).isEmpty
def movedS (S : List Rat) (k : Nat) (way : Bool) (x : Rat) : List Rat := S.set k (if way then partAt S k + x else partAt S k - x)
def slidS (S : List Rat) (s : Slide) : List Rat := movedS (movedS S s.k s.way s.amt) s.l s.other s.amt
theorem movedS_len {S : List Rat} {k : Nat} {way : Bool} {x : Rat} : (movedS S k way x).length = S.length := List.length_set ..
theorem partAt_set {S : List Rat} {k j : Nat} {x : Rat} (hk : k < S.length) : partAt (S.set k x) j = if k = j then x else partAt S j := by
  unfold partAt
  rw [List.getD_eq_getElem?_getD, List.getD_eq_getElem?_getD, List.getElem?_set]
  by_cases e : k = j
  · subst e
    rw [if_pos rfl, if_pos hk, if_pos rfl]
    rfl
  · rw [if_neg e, if_neg e]
theorem movedS_fin {S : List Rat} {k : Nat} {way : Bool} {x : Rat} (hk : k < S.length) (h : ∀ j, j < S.length → fin (partAt S j)) (hx : fin x) : ∀ j, j < (movedS S k way x).length → fin (partAt (movedS S k way x) j) := fun j hj => by
  rw [movedS_len] at hj
  unfold movedS
  rw [partAt_set hk]
  split
  · split
    · exact fin_add (h k hk) hx
    · exact fin_sub (h k hk) hx
  · exact h j hj
/-- a slide of a sending -/
structure SlOk (A : List Ask) (S : List Rat) (s : Slide) : Prop where
  hk : s.k < A.length
  hl : s.l < A.length
  ne : s.k ≠ s.l
  fn : fin s.amt
  pos : 0 < s.amt
  a1 : s.amt ≤ gone A S s.k (!s.way)
  a2 : s.amt ≤ gone A S s.l (!s.other)
  ap : apart (askAt A s.k) s.way (askAt A s.l) s.other = true
theorem gone_fin {A : List Ask} {S : List Rat} {k : Nat} {w : Bool} (hA : Rok A) (hS : Sok A S) (hk : k < A.length) : fin (gone A S k w) := by
  unfold gone
  split
  · exact hS.fn k hk
  · exact fin_sub (hA.at hk).fn (hS.fn k hk)
end Rg

set_option Elab.async false
set_option linter.all false
/-! Plain: slides. -/
namespace Rg
/-! ### rising arcs -/
def rise (a : Ask) (t : Int) : Bool := decide ((lowOf a : Int) ≤ t) && decide (t < (highOf a : Int))
/-- the way that rises -/
def rwy (a : Ask) : Bool := decide (a.one < a.other)
theorem low_high {a : Ask} (h : AOk a) : lowOf a < highOf a ∧ highOf a < 12 := by
  have := h.o1
  have := h.o2
  have := h.ne
  unfold lowOf highOf
  split <;> split <;> omega
theorem isOver_rise {a : Ask} (h : AOk a) {t : Int} (h0 : 0 ≤ t) (h1 : t < 12) : isOver a (rwy a) t = rise a t := by
  have := h.o1
  have := h.o2
  have := h.ne
  unfold isOver over rise rwy lowOf highOf
  rw [Bool.eq_iff_iff]
  by_cases e : a.one < a.other
  · rw [decide_eq_true e, if_neg (by omega), if_pos (by omega)]
    simp only [beq_true, decide_eq_true_eq, Bool.and_eq_true]
    omega
  · rw [decide_eq_false e, if_pos (by omega), if_neg (by omega)]
    simp only [beq_false, Bool.not_eq_true', decide_eq_false_iff_not, decide_eq_true_eq, Bool.and_eq_true]
    omega
theorem isOver_not {a : Ask} {w : Bool} {t : Int} : isOver a (!w) t = !isOver a w t := by
  unfold isOver
  cases over a t <;> cases w <;> rfl
theorem isOver_fall {a : Ask} (h : AOk a) {t : Int} (h0 : 0 ≤ t) (h1 : t < 12) : isOver a (!rwy a) t = !rise a t := by
  rw [isOver_not, isOver_rise h h0 h1]
theorem apart_iff {a b : Ask} (ha : AOk a) (hb : AOk b) (w o : Bool) : apart a w b o = true ↔ ∀ t : Int, 0 ≤ t → t < 12 → ¬ (isOver a w t = true ∧ isOver b o t = true) := by
  unfold apart
  rw [List.isEmpty_iff, List.filter_eq_nil_iff]
  constructor
  · intro h t h0 h1 ⟨x, y⟩
    exact h t ((tiesL_mem ha w t).mpr ⟨h0, h1, x⟩) (decide_eq_true ((tiesL_mem hb o t).mpr ⟨h0, h1, y⟩))
  · intro h t ht hd
    obtain ⟨h0, h1, x⟩ := (tiesL_mem ha w t).mp ht
    obtain ⟨_, _, y⟩ := (tiesL_mem hb o t).mp (of_decide_eq_true hd)
    exact h t h0 h1 ⟨x, y⟩
/-- crossing, by the lesser and the greater places -/
theorem cross_iff {a b : Ask} (ha : AOk a) (hb : AOk b) : crossB a b = true ↔ (lowOf a < lowOf b ∧ lowOf b < highOf a ∧ highOf a < highOf b) ∨ (lowOf b < lowOf a ∧ lowOf a < highOf b ∧ highOf b < highOf a) := by
  have := ha.ne
  have := hb.ne
  unfold crossB
  by_cases h : a.one = b.one ∨ a.one = b.other ∨ a.other = b.one ∨ a.other = b.other
  · rw [if_pos h]
    constructor
    · intro z; cases z
    · intro z
      exfalso
      unfold lowOf highOf at z
      split at z <;> split at z <;> split at z <;> split at z <;> omega
  · rw [if_neg h, decide_eq_true_eq]
    unfold lowOf highOf
    split <;> split <;> split <;> split <;> omega
/-- asks that do not cross have ways that share no tie -/
theorem apart_some {a b : Ask} (ha : AOk a) (hb : AOk b) (h : crossB a b = false) : ∃ w o, apart a w b o = true := by
  have hn : ¬ ((lowOf a < lowOf b ∧ lowOf b < highOf a ∧ highOf a < highOf b) ∨ (lowOf b < lowOf a ∧ lowOf a < highOf b ∧ highOf b < highOf a)) := fun z => by
    rw [(cross_iff ha hb).mpr z] at h
    cases h
  have la := low_high ha
  have lb := low_high hb
  have rA : ∀ t : Int, rise a t = true ↔ (lowOf a : Int) ≤ t ∧ t < (highOf a : Int) := fun t => by unfold rise; simp
  have rB : ∀ t : Int, rise b t = true ↔ (lowOf b : Int) ≤ t ∧ t < (highOf b : Int) := fun t => by unfold rise; simp
  by_cases c1 : highOf a ≤ lowOf b ∨ highOf b ≤ lowOf a
  · refine ⟨rwy a, rwy b, (apart_iff ha hb _ _).mpr fun t h0 h1 ⟨x, y⟩ => ?_⟩
    rw [isOver_rise ha h0 h1, rA] at x
    rw [isOver_rise hb h0 h1, rB] at y
    omega
  · by_cases c2 : lowOf a ≤ lowOf b ∧ highOf b ≤ highOf a
    · refine ⟨!rwy a, rwy b, (apart_iff ha hb _ _).mpr fun t h0 h1 ⟨x, y⟩ => ?_⟩
      rw [isOver_fall ha h0 h1, Bool.not_eq_true', ← Bool.not_eq_true, rA] at x
      rw [isOver_rise hb h0 h1, rB] at y
      omega
    · refine ⟨rwy a, !rwy b, (apart_iff ha hb _ _).mpr fun t h0 h1 ⟨x, y⟩ => ?_⟩
      rw [isOver_rise ha h0 h1, rA] at x
      rw [isOver_fall hb h0 h1, Bool.not_eq_true', ← Bool.not_eq_true, rB] at y
      omega
def waysApart (a b : Ask) : Option (Bool × Bool) :=
  if apart a true b true then some (true, true) else if apart a true b false then some (true, false) else if apart a false b true then some (false, true) else if apart a false b false then some (false, false) else none
theorem waysApart_ok {a b : Ask} {p : Bool × Bool} (h : waysApart a b = some p) : apart a p.1 b p.2 = true := by
  unfold waysApart at h
  split at h
  · cases h; assumption
  · split at h
    · cases h; assumption
    · split at h
      · cases h; assumption
      · split at h
        · cases h; assumption
        · cases h
theorem waysApart_some {a b : Ask} (ha : AOk a) (hb : AOk b) (h : crossB a b = false) : ∃ p, waysApart a b = some p := by
  obtain ⟨w, o, z⟩ := apart_some ha hb h
  unfold waysApart
  split
  · exact ⟨_, rfl⟩
  · split
    · exact ⟨_, rfl⟩
    · split
      · exact ⟨_, rfl⟩
      · split
        · exact ⟨_, rfl⟩
        · cases w <;> cases o <;> contradiction
def lesserR (a b : Rat) : Rat := if b < a then b else a
def mkSlide (A : List Ask) (S : List Rat) (k l : Nat) : Slide :=
  let p := (waysApart (askAt A k) (askAt A l)).getD (true, true)
  ⟨k, p.1, l, p.2, lesserR (gone A S k (!p.1)) (gone A S l (!p.2))⟩
def sideB (A : List Ask) (k l : Nat) : Bool := decide (k < l) && !crossB (askAt A k) (askAt A l)
def nextIn (A : List Ask) (S : List Rat) (P : List Nat) (k : Nat) : Option Slide := P.findSome? fun l => if sideB A k l then some (mkSlide A S k l) else none
def nextSlide (A : List Ask) (S : List Rat) : Option Slide := (partedL A S).findSome? (nextIn A S (partedL A S))
theorem parted_mem {A : List Ask} {S : List Rat} {k : Nat} : k ∈ partedL A S ↔ k < A.length ∧ 0 < partAt S k ∧ partAt S k < (askAt A k).size := by
  unfold partedL partB
  rw [List.mem_filter, List.mem_range]
  simp
theorem nextSlide_some {A : List Ask} {S : List Rat} {s : Slide} (h : nextSlide A S = some s) : ∃ k l, k ∈ partedL A S ∧ l ∈ partedL A S ∧ k < l ∧ crossB (askAt A k) (askAt A l) = false ∧ s = mkSlide A S k l := by
  unfold nextSlide nextIn at h
  obtain ⟨k, hk, h⟩ := List.exists_of_findSome?_eq_some h
  obtain ⟨l, hl, h⟩ := List.exists_of_findSome?_eq_some h
  split at h
  · rename_i z
    cases h
    unfold sideB at z
    simp at z
    exact ⟨k, l, hk, hl, z.1, z.2, rfl⟩
  · cases h
theorem nextSlide_none {A : List Ask} {S : List Rat} (h : nextSlide A S = none) : allCross A (partedL A S) = true := by
  unfold nextSlide nextIn at h
  rw [List.findSome?_eq_none_iff] at h
  unfold allCross
  rw [List.all_eq_true]
  intro k hk
  rw [List.all_eq_true]
  intro l hl
  have := h k hk
  rw [List.findSome?_eq_none_iff] at this
  have := this l hl
  unfold sideB at this
  split at this
  · cases this
  · rename_i z
    simp at z ⊢
    by_cases q : k < l
    · exact .inr (z q)
    · exact .inl (by omega)
theorem lesserR_le1 (a b : Rat) : lesserR a b ≤ a := by unfold lesserR; split <;> grind
theorem lesserR_le2 (a b : Rat) : lesserR a b ≤ b := by unfold lesserR; split <;> grind
theorem lesserR_or (a b : Rat) : lesserR a b = a ∨ lesserR a b = b := by unfold lesserR; split <;> simp
/-- what the slide is -/
theorem mkSlide_ok {A : List Ask} {S : List Rat} (hA : Rok A) (hS : Sv A S) {k l : Nat} (hk : k ∈ partedL A S) (hl : l ∈ partedL A S) (hlt : k < l) (hc : crossB (askAt A k) (askAt A l) = false) : SlOk A S (mkSlide A S k l) := by
  obtain ⟨k1, k2, k3⟩ := parted_mem.mp hk
  obtain ⟨l1, l2, l3⟩ := parted_mem.mp hl
  obtain ⟨p, hp⟩ := waysApart_some (hA.at k1) (hA.at l1) hc
  have hap := waysApart_ok hp
  have f1 : fin (gone A S k (!p.1)) := gone_fin hA hS.toSok k1
  have f2 : fin (gone A S l (!p.2)) := gone_fin hA hS.toSok l1
  have p1 : 0 < gone A S k (!p.1) := by unfold gone; split <;> grind
  have p2 : 0 < gone A S l (!p.2) := by unfold gone; split <;> grind
  unfold mkSlide
  rw [hp]
  refine ⟨k1, l1, Nat.ne_of_lt hlt, ?_, ?_, lesserR_le1 _ _, lesserR_le2 _ _, hap⟩
  · show fin (lesserR _ _)
    rcases lesserR_or (gone A S k (!p.1)) (gone A S l (!p.2)) with e | e
    · show fin (lesserR (gone A S k (!p.1)) (gone A S l (!p.2)))
      rw [e]; exact f1
    · show fin (lesserR (gone A S k (!p.1)) (gone A S l (!p.2)))
      rw [e]; exact f2
  · show 0 < lesserR (gone A S k (!p.1)) (gone A S l (!p.2))
    rcases lesserR_or (gone A S k (!p.1)) (gone A S l (!p.2)) with e | e
    · rw [e]; exact p1
    · rw [e]; exact p2
theorem nextSlide_ok {A : List Ask} {S : List Rat} (hA : Rok A) (hS : Sv A S) {s : Slide} (h : nextSlide A S = some s) : SlOk A S s := by
  obtain ⟨k, l, hk, hl, hlt, hc, rfl⟩ := nextSlide_some h
  exact mkSlide_ok hA hS hk hl hlt hc
/-! ### behind a slide -/
theorem slidS_at {S : List Rat} {s : Slide} {n : Nat} (hn : S.length = n) (hk : s.k < n) (hl : s.l < n) (ne : s.k ≠ s.l) (j : Nat) :
    partAt (slidS S s) j = if j = s.k then (if s.way then partAt S s.k + s.amt else partAt S s.k - s.amt) else if j = s.l then (if s.other then partAt S s.l + s.amt else partAt S s.l - s.amt) else partAt S j := by
  unfold slidS
  have h1 : ∀ j, partAt (movedS S s.k s.way s.amt) j = if s.k = j then (if s.way then partAt S s.k + s.amt else partAt S s.k - s.amt) else partAt S j := fun j => partAt_set (by omega)
  have h2 := fun j => partAt_set (S := movedS S s.k s.way s.amt) (k := s.l) (j := j) (x := if s.other then partAt (movedS S s.k s.way s.amt) s.l + s.amt else partAt (movedS S s.k s.way s.amt) s.l - s.amt) (by rw [movedS_len]; omega)
  show partAt ((movedS S s.k s.way s.amt).set s.l _) j = _
  rw [h2 j, h1 s.l, if_neg ne, h1 j]
  by_cases e1 : s.l = j
  · subst e1
    rw [if_pos rfl, if_neg (Ne.symm ne), if_pos rfl]
  · rw [if_neg e1]
    by_cases e2 : s.k = j
    · subst e2
      rw [if_pos rfl, if_pos rfl]
    · rw [if_neg e2, if_neg (Ne.symm e2), if_neg (Ne.symm e1)]
theorem slidS_len {S : List Rat} {s : Slide} : (slidS S s).length = S.length := by
  unfold slidS
  rw [movedS_len, movedS_len]
theorem slidS_sok {A : List Ask} {S : List Rat} {s : Slide} (hS : Sok A S) (h : SlOk A S s) : Sok A (slidS S s) := by
  refine ⟨slidS_len.trans hS.len, fun k hk => ?_⟩
  rw [slidS_at hS.len h.hk h.hl h.ne]
  split
  · split
    · exact fin_add (hS.fn _ h.hk) h.fn
    · exact fin_sub (hS.fn _ h.hk) h.fn
  · split
    · split
      · exact fin_add (hS.fn _ h.hl) h.fn
      · exact fin_sub (hS.fn _ h.hl) h.fn
    · exact hS.fn k hk
theorem slidS_sv {A : List Ask} {S : List Rat} {s : Slide} (hS : Sv A S) (h : SlOk A S s) : Sv A (slidS S s) := by
  have a1 := h.a1
  have a2 := h.a2
  have hp := h.pos
  have g1 := hS.ge _ h.hk
  have g2 := hS.le _ h.hk
  have g3 := hS.ge _ h.hl
  have g4 := hS.le _ h.hl
  unfold gone at a1 a2
  have key : ∀ k, k < A.length → 0 ≤ partAt (slidS S s) k ∧ partAt (slidS S s) k ≤ (askAt A k).size := fun k hk => by
    rw [slidS_at hS.len h.hk h.hl h.ne]
    split
    · rename_i e
      subst e
      cases hw : s.way <;> rw [hw] at a1 <;> simp only [Bool.not_true, Bool.not_false, Bool.false_eq_true, if_true, if_false] at * <;> grind
    · split
      · rename_i e
        subst e
        cases hw : s.other <;> rw [hw] at a2 <;> simp only [Bool.not_true, Bool.not_false, Bool.false_eq_true, if_true, if_false] at * <;> grind
      · exact ⟨hS.ge k hk, hS.le k hk⟩
  exact ⟨slidS_sok hS.toSok h, fun k hk => (key k hk).1, fun k hk => (key k hk).2⟩
/-! ### loads behind a slide -/
def con (A : List Ask) (S : List Rat) (t : Int) (m : Nat) : Rat := if over (askAt A m) t then partAt S m else (askAt A m).size - partAt S m
def sumTo (f : Nat → Rat) : Nat → Rat
  | 0 => 0
  | n + 1 => sumTo f n + f n
theorem load_sum (A : List Ask) (S : List Rat) (t : Nat) : ∀ n, loadTo A S t n = sumTo (con A S t) n
  | 0 => rfl
  | n + 1 => by
    show loadTo A S t n + _ = sumTo (con A S t) n + _
    rw [load_sum A S t n]
    rfl
theorem sumTo_congr {f g : Nat → Rat} : ∀ {n : Nat}, (∀ j, j < n → f j = g j) → sumTo f n = sumTo g n
  | 0, _ => rfl
  | n + 1, h => by
    show sumTo f n + f n = sumTo g n + g n
    rw [sumTo_congr (fun j hj => h j (by omega)), h n (by omega)]
/-- one item changed -/
theorem sumTo_one {f g : Nat → Rat} {k : Nat} : ∀ {n : Nat}, k < n → (∀ j, j < n → j ≠ k → f j = g j) → sumTo f n = sumTo g n + (f k - g k)
  | 0, h, _ => by omega
  | n + 1, h, hf => by
    show sumTo f n + f n = sumTo g n + g n + (f k - g k)
    by_cases e : k = n
    · subst e
      rw [sumTo_congr (f := f) (g := g) (fun j hj => hf j (by omega) (by omega))]
      grind
    · rw [sumTo_one (n := n) (by omega) (fun j hj hn => hf j (by omega) hn), hf n (by omega) (Ne.symm e)]
      grind
theorem slide_load {A : List Ask} {S : List Rat} {s : Slide} (hA : Rok A) (hS : Sok A S) (h : SlOk A S s) (t : Nat) (ht : t < 12) : load A (slidS S s) t ≤ load A S t := by
  unfold load
  rw [load_sum, load_sum]
  have hap := (apart_iff (hA.at h.hk) (hA.at h.hl) s.way s.other).mp h.ap (t : Int) (by omega) (by omega)
  have hp := h.pos
  let m : Nat → Rat := fun j => if j = s.k then con A (slidS S s) t j else con A S t j
  have e1 : sumTo (con A (slidS S s) t) A.length = sumTo m A.length + (con A (slidS S s) t s.l - m s.l) := sumTo_one h.hl fun j hj hn => by
    show _ = if j = s.k then _ else _
    split
    · rfl
    · rename_i z
      unfold con
      rw [slidS_at hS.len h.hk h.hl h.ne, if_neg z, if_neg hn]
  have e2 : sumTo m A.length = sumTo (con A S t) A.length + (m s.k - con A S t s.k) := sumTo_one h.hk fun j hj hn => if_neg hn
  have e3 : m s.l = con A S t s.l := if_neg (Ne.symm h.ne)
  have e4 : m s.k = con A (slidS S s) t s.k := if_pos rfl
  have d1 : con A (slidS S s) t s.k - con A S t s.k = if isOver (askAt A s.k) s.way t then s.amt else -s.amt := by
    unfold con isOver
    rw [slidS_at hS.len h.hk h.hl h.ne, if_pos rfl]
    cases over (askAt A s.k) t <;> cases s.way <;> simp <;> grind
  have d2 : con A (slidS S s) t s.l - con A S t s.l = if isOver (askAt A s.l) s.other t then s.amt else -s.amt := by
    unfold con isOver
    rw [slidS_at hS.len h.hk h.hl h.ne, if_neg (Ne.symm h.ne), if_pos rfl]
    cases over (askAt A s.l) t <;> cases s.other <;> simp <;> grind
  rw [e1, e2, e3, e4, d1, d2]
  cases q1 : isOver (askAt A s.k) s.way t <;> cases q2 : isOver (askAt A s.l) s.other t
  · simp; grind
  · simp; grind
  · simp; grind
  · exact absurd ⟨q1, q2⟩ hap
/-! ### fewer parted asks -/
theorem filter_less {p q : Nat → Bool} {x : Nat} : ∀ {l : List Nat}, (∀ j ∈ l, q j = true → p j = true) → x ∈ l → p x = true → q x = false → (l.filter q).length < (l.filter p).length
  | [], _, h, _, _ => by cases h
  | y :: l, hi, hx, h1, h2 => by
    have hle : ∀ {l : List Nat}, (∀ j ∈ l, q j = true → p j = true) → (l.filter q).length ≤ (l.filter p).length := fun {l} h => by
      induction l with
      | nil => exact Nat.le_refl _
      | cons z l ih =>
        have ih := ih fun j hj => h j (List.mem_cons_of_mem _ hj)
        rw [List.filter_cons, List.filter_cons]
        cases hq : q z with
        | true =>
          rw [h z List.mem_cons_self hq]
          simpa using ih
        | false =>
          cases hp : p z with
          | true => simp; omega
          | false => simpa using ih
    have hr := hle (l := l) fun j hj => hi j (List.mem_cons_of_mem _ hj)
    rw [List.filter_cons, List.filter_cons]
    rcases List.mem_cons.mp hx with e | hx
    · subst e
      rw [h1, h2]
      simp
      omega
    · have ih := filter_less (l := l) (fun j hj => hi j (List.mem_cons_of_mem _ hj)) hx h1 h2
      cases hq : q y with
      | true =>
        rw [hi y List.mem_cons_self hq]
        simpa using ih
      | false =>
        cases hp : p y with
        | true => simp; omega
        | false => simpa using ih
def cnt (A : List Ask) (S : List Rat) : Nat := (partedL A S).length
theorem slide_less {A : List Ask} {S : List Rat} {s : Slide} (hA : Rok A) (hS : Sv A S) (h : nextSlide A S = some s) : cnt A (slidS S s) < cnt A S := by
  have ok := nextSlide_ok hA hS h
  obtain ⟨k, l, hk, hl, hlt, hc, rfl⟩ := nextSlide_some h
  obtain ⟨k1, k2, k3⟩ := parted_mem.mp hk
  obtain ⟨l1, l2, l3⟩ := parted_mem.mp hl
  have pk : partB A S k = true := by unfold partB; simp [k2, k3]
  have pl : partB A S l = true := by unfold partB; simp [l2, l3]
  have hat := slidS_at hS.len ok.hk ok.hl ok.ne
  have sub : ∀ j ∈ List.range A.length, partB A (slidS S (mkSlide A S k l)) j = true → partB A S j = true := fun j hj q => by
    by_cases e1 : j = k
    · subst e1; exact pk
    · by_cases e2 : j = l
      · subst e2; exact pl
      · unfold partB at q ⊢
        rw [hat, if_neg (show ¬ j = (mkSlide A S k l).k from e1), if_neg (show ¬ j = (mkSlide A S k l).l from e2)] at q
        exact q
  have am : (mkSlide A S k l).amt = gone A S k (!(mkSlide A S k l).way) ∨ (mkSlide A S k l).amt = gone A S l (!(mkSlide A S k l).other) := lesserR_or _ _
  unfold cnt partedL
  rcases am with e | e
  · refine filter_less sub (List.mem_range.mpr k1) pk ?_
    have h1 := hat k
    rw [if_pos (show k = (mkSlide A S k l).k from rfl), e] at h1
    have h1 : partAt (slidS S (mkSlide A S k l)) k = if (mkSlide A S k l).way = true then partAt S k + gone A S k (!(mkSlide A S k l).way) else partAt S k - gone A S k (!(mkSlide A S k l).way) := h1
    unfold partB
    rw [h1]
    unfold gone
    cases (mkSlide A S k l).way <;> simp <;> grind
  · refine filter_less sub (List.mem_range.mpr l1) pl ?_
    have h1 := hat l
    rw [if_neg (show ¬ l = (mkSlide A S k l).k from Nat.ne_of_gt hlt), if_pos (show l = (mkSlide A S k l).l from rfl), e] at h1
    have h1 : partAt (slidS S (mkSlide A S k l)) l = if (mkSlide A S k l).other = true then partAt S l + gone A S l (!(mkSlide A S k l).other) else partAt S l - gone A S l (!(mkSlide A S k l).other) := h1
    unfold partB
    rw [h1]
    unfold gone
    cases (mkSlide A S k l).other <;> simp <;> grind
/-! ### all slides -/
def slidesGo : Nat → List Ask → List Rat → List Slide
  | 0, _, _ => []
  | n + 1, A, S => match nextSlide A S with
    | none => []
    | some s => s :: slidesGo n A (slidS S s)
theorem slidesGo_fuel {A : List Ask} (hA : Rok A) : ∀ (n : Nat) {S : List Rat}, Sv A S → cnt A S ≤ n → ∀ m, n ≤ m → slidesGo m A S = slidesGo n A S
  | 0, S, hS, hc, m, hm => by
    have e : partedL A S = [] := List.eq_nil_of_length_eq_zero (by unfold cnt at hc; omega)
    cases m with
    | zero => rfl
    | succ m =>
      have : nextSlide A S = none := by unfold nextSlide; rw [e]; rfl
      show (match nextSlide A S with | none => [] | some s => s :: slidesGo m A (slidS S s)) = []
      rw [this]
  | n + 1, S, hS, hc, m, hm => by
    cases m with
    | zero => omega
    | succ m =>
      show (match nextSlide A S with | none => [] | some s => s :: slidesGo m A (slidS S s)) = (match nextSlide A S with | none => [] | some s => s :: slidesGo n A (slidS S s))
      cases h : nextSlide A S with
      | none => rfl
      | some s =>
        have h1 := slide_less hA hS h
        show s :: _ = s :: _
        rw [slidesGo_fuel hA n (slidS_sv hS (nextSlide_ok hA hS h)) (by omega) m (by omega)]
def slidesOf (A : List Ask) (S : List Rat) : List Slide := slidesGo (cnt A S) A S
theorem slidesOf_none {A : List Ask} {S : List Rat} (h : nextSlide A S = none) : slidesOf A S = [] := by
  unfold slidesOf
  cases cnt A S with
  | zero => rfl
  | succ n =>
    show (match nextSlide A S with | none => [] | some s => s :: slidesGo n A (slidS S s)) = []
    rw [h]
theorem slidesOf_some {A : List Ask} {S : List Rat} {s : Slide} (hA : Rok A) (hS : Sv A S) (h : nextSlide A S = some s) : slidesOf A S = s :: slidesOf A (slidS S s) := by
  have h1 := slide_less hA hS h
  unfold slidesOf
  cases e : cnt A S with
  | zero => omega
  | succ n =>
    show (match nextSlide A S with | none => [] | some s => s :: slidesGo n A (slidS S s)) = _
    rw [h]
    show s :: _ = s :: _
    rw [slidesGo_fuel hA (cnt A (slidS S s)) (slidS_sv hS (nextSlide_ok hA hS h)) (Nat.le_refl _) n (by omega)]
/-- a list of slides, one behind the other -/
def Chain (A : List Ask) : List Rat → List Slide → Prop
  | _, [] => True
  | S, s :: l => SlOk A S s ∧ Chain A (slidS S s) l
def slidAll (S : List Rat) (l : List Slide) : List Rat := l.foldl slidS S
theorem chain_sv {A : List Ask} : ∀ {l : List Slide} {S : List Rat}, Sv A S → Chain A S l → Sv A (slidAll S l)
  | [], _, h, _ => h
  | s :: l, S, h, hc => chain_sv (l := l) (slidS_sv h hc.1) hc.2
theorem chain_load {A : List Ask} (hA : Rok A) {t : Nat} (ht : t < 12) : ∀ {l : List Slide} {S : List Rat}, Sv A S → Chain A S l → load A (slidAll S l) t ≤ load A S t
  | [], S, _, _ => by show load A S t ≤ load A S t; grind
  | s :: l, S, h, hc => by
    have h1 := slide_load hA h.toSok hc.1 t ht
    have h2 := chain_load (l := l) hA ht (slidS_sv h hc.1) hc.2
    have h3 : slidAll S (s :: l) = slidAll (slidS S s) l := rfl
    rw [h3]
    grind
/-- the told slides -/
theorem slidesOf_ok {A : List Ask} (hA : Rok A) : ∀ (n : Nat) {S : List Rat}, Sv A S → cnt A S ≤ n → Chain A S (slidesOf A S) ∧ nextSlide A (slidAll S (slidesOf A S)) = none ∧ (slidesOf A S).length ≤ n
  | n, S, hS, hc => by
    cases h : nextSlide A S with
    | none =>
      rw [slidesOf_none h]
      exact ⟨trivial, h, Nat.zero_le _⟩
    | some s =>
      have h1 := slide_less hA hS h
      cases n with
      | zero => omega
      | succ n =>
        rw [slidesOf_some hA hS h]
        have ok := nextSlide_ok hA hS h
        obtain ⟨a, b, c⟩ := slidesOf_ok hA n (slidS_sv hS ok) (by omega)
        exact ⟨⟨ok, a⟩, b, by simp; omega⟩
def behind (A : List Ask) (S : List Rat) : List Rat := slidAll S (slidesOf A S)
theorem cnt_le (A : List Ask) (S : List Rat) : cnt A S ≤ A.length := by
  unfold cnt partedL
  have := List.length_filter_le (partB A S) (List.range A.length)
  rw [List.length_range] at this
  exact this
theorem behind_cross {A : List Ask} {S : List Rat} (hA : Rok A) (hS : Sv A S) : allCross A (partedL A (behind A S)) = true := nextSlide_none (slidesOf_ok hA _ hS (Nat.le_refl _)).2.1
theorem behind_sv {A : List Ask} {S : List Rat} (hA : Rok A) (hS : Sv A S) : Sv A (behind A S) := chain_sv hS (slidesOf_ok hA _ hS (Nat.le_refl _)).1
theorem behind_load {A : List Ask} {S : List Rat} (hA : Rok A) (hS : Sv A S) {t : Nat} (ht : t < 12) : load A (behind A S) t ≤ load A S t := chain_load hA ht hS (slidesOf_ok hA _ hS (Nat.le_refl _)).1
end Rg
namespace Rg
theorem chain_at {A : List Ask} : ∀ {l : List Slide} {S : List Rat} {i : Nat} {s : Slide}, Sok A S → Chain A S l → l[i]? = some s → SlOk A (slidAll S (l.take i)) s ∧ Sok A (slidAll S (l.take i))
  | [], _, _, _, _, _, h => by simp at h
  | x :: l, S, 0, s, hS, hc, h => by
    simp at h
    subst h
    exact ⟨hc.1, hS⟩
  | x :: l, S, i + 1, s, hS, hc, h => by
    simp at h
    exact chain_at (l := l) (slidS_sok hS hc.1) hc.2 h
theorem slidAll_more {S : List Rat} {l : List Slide} {i : Nat} {s : Slide} (h : l[i]? = some s) : slidAll S (l.take (i + 1)) = slidS (slidAll S (l.take i)) s := by
  rw [List.take_add_one, h]
  unfold slidAll
  rw [List.foldl_append]
  rfl
theorem findSome_at {α β : Type} {f : α → Option β} {l : List α} {i : Nat} {x : α} {y : β} (h : l[i]? = some x) (h0 : (l.take i).findSome? f = none) (h1 : f x = some y) : l.findSome? f = some y := by
  have e : l = l.take i ++ x :: l.drop (i + 1) := by
    obtain ⟨hi, hx⟩ := List.getElem?_eq_some_iff.mp h
    rw [← hx, List.getElem_cons_drop hi, List.take_append_drop]
  rw [e, List.findSome?_append, h0]
  show (x :: _).findSome? f = some y
  rw [List.findSome?_cons, h1]
theorem findSome_more {α β : Type} {f : α → Option β} {l : List α} {i : Nat} {x : α} (h : l[i]? = some x) (h0 : (l.take i).findSome? f = none) (h1 : f x = none) : (l.take (i + 1)).findSome? f = none := by
  rw [List.take_add_one, h, List.findSome?_append, h0]
  show (([x] : List α).findSome? f) = none
  rw [List.findSome?_cons, h1]
  rfl
end Rg

set_option Elab.async false
set_option linter.all false
/-! Plain: rounding; no tie gains more than three halves of the greatest parted size. -/
namespace Rg
def wayAt (W : List Bool) (k : Nat) : Bool := W.getD k true
theorem wayAt_get {W : List Bool} {k : Nat} (h : k < W.length) : W[k]? = some (wayAt W k) := by
  unfold wayAt
  rw [List.getD_eq_getElem?_getD, List.getElem?_eq_getElem h]
  rfl
theorem wayAt_set {W : List Bool} {k j : Nat} {x : Bool} (hk : k < W.length) : wayAt (W.set k x) j = if k = j then x else wayAt W j := by
  unfold wayAt
  rw [List.getD_eq_getElem?_getD, List.getD_eq_getElem?_getD, List.getElem?_set]
  by_cases e : k = j
  · subst e
    rw [if_pos rfl, if_pos hk, if_pos rfl]
    rfl
  · rw [if_neg e, if_neg e]
def gainBy (A : List Ask) (S : List Rat) (k : Nat) (w : Bool) : Rat :=
  if w = rwy (askAt A k) then (askAt A k).size - gone A S k (rwy (askAt A k)) else 0 - gone A S k (rwy (askAt A k))
def ordLe (A : List Ask) (a b : Nat) : Bool := decide (lowOf (askAt A a) < lowOf (askAt A b)) || (decide (lowOf (askAt A a) = lowOf (askAt A b)) && decide (a ≤ b))
def inOrder (A : List Ask) (l : List Nat) : List Nat := l.mergeSort (ordLe A)
def greatest (A : List Ask) (l : List Nat) : Rat := l.foldl (fun f k => if f < (askAt A k).size then (askAt A k).size else f) 0
def half (A : List Ask) (l : List Nat) : Rat := greatest A l * (1 / 2)
def goesWhole (A : List Ask) (S : List Rat) (k : Nat) (w : Bool) : Bool := decide (gone A S k w = (askAt A k).size)
def sumsOk (A : List Ask) (S : List Rat) (W : List Bool) (M : Rat) : Rat → List Nat → Bool
  | _, [] => true
  | tot, k :: l => if M < tot + gainBy A S k (wayAt W k) ∨ tot + gainBy A S k (wayAt W k) < 0 - M then false else sumsOk A S W M (tot + gainBy A S k (wayAt W k)) l
def firstOk (A : List Ask) (S : List Rat) (W : List Bool) (k : Nat) : Bool := decide (k ∈ partedL A S) || goesWhole A S k (wayAt W k)
def areRounded (A : List Ask) (S : List Rat) (W : List Bool) : Bool := (List.range A.length).all (firstOk A S W) && sumsOk A S W (half A (partedL A S)) 0 (inOrder A (partedL A S))
def baseWay (A : List Ask) (S : List Rat) (k : Nat) : Bool := !(!decide (k ∈ partedL A S) && !goesWhole A S k true)
def baseWays (A : List Ask) (S : List Rat) : List Bool := (List.range A.length).map (baseWay A S)
def pick (A : List Ask) (S : List Rat) (M tot : Rat) (k : Nat) : Bool := if M < tot + gainBy A S k (rwy (askAt A k)) then !rwy (askAt A k) else rwy (askAt A k)
def wwGo (A : List Ask) (S : List Rat) (M : Rat) : Rat → List Bool → List Nat → List Bool
  | _, W, [] => W
  | tot, W, k :: l => wwGo A S M (tot + gainBy A S k (pick A S M tot k)) (W.set k (pick A S M tot k)) l
def wholeWays (A : List Ask) (S : List Rat) : List Bool := wwGo A S (half A (partedL A S)) 0 (baseWays A S) (inOrder A (partedL A S))

/-! ### the order -/
theorem ordLe_trans (A : List Ask) (a b c : Nat) (h1 : ordLe A a b = true) (h2 : ordLe A b c = true) : ordLe A a c = true := by
  unfold ordLe at *
  simp at *
  omega
theorem ordLe_total (A : List Ask) (a b : Nat) : (ordLe A a b || ordLe A b a) = true := by
  unfold ordLe
  simp
  omega
theorem ordLe_anti (A : List Ask) {a b : Nat} (h1 : ordLe A a b = true) (h2 : ordLe A b a = true) : a = b := by
  unfold ordLe at *
  simp at *
  omega
theorem inOrder_perm (A : List Ask) (l : List Nat) : (inOrder A l).Perm l := List.mergeSort_perm l _
theorem inOrder_sorted (A : List Ask) (l : List Nat) : (inOrder A l).Pairwise fun a b => ordLe A a b = true := List.pairwise_mergeSort (ordLe_trans A) (ordLe_total A) l
/-- any sorted arrangement is this one -/
theorem inOrder_uniq {A : List Ask} {l m : List Nat} (hp : m.Perm l) (hs : m.Pairwise fun a b => ordLe A a b = true) : m = inOrder A l :=
  List.Perm.eq_of_pairwise (fun a b _ _ h1 h2 => ordLe_anti A h1 h2) hs (inOrder_sorted A l) (hp.trans (inOrder_perm A l).symm)
theorem inOrder_mem {A : List Ask} {l : List Nat} {k : Nat} : k ∈ inOrder A l ↔ k ∈ l := (inOrder_perm A l).mem_iff
theorem parted_nodup (A : List Ask) (S : List Rat) : (partedL A S).Nodup := List.nodup_range.filter _
theorem inOrder_nodup (A : List Ask) (S : List Rat) : (inOrder A (partedL A S)).Nodup := ((inOrder_perm A _).nodup_iff).mpr (parted_nodup A S)
/-! ### the greatest -/
theorem greatest_from (A : List Ask) : ∀ (l : List Nat) (x : Rat), x ≤ l.foldl (fun f k => if f < (askAt A k).size then (askAt A k).size else f) x ∧ ∀ k ∈ l, (askAt A k).size ≤ l.foldl (fun f k => if f < (askAt A k).size then (askAt A k).size else f) x
  | [], x => ⟨by show x ≤ x; grind, fun _ h => nomatch h⟩
  | k :: l, x => by
    obtain ⟨h1, h2⟩ := greatest_from A l (if x < (askAt A k).size then (askAt A k).size else x)
    rw [List.foldl_cons]
    have h3 : x ≤ (if x < (askAt A k).size then (askAt A k).size else x) ∧ (askAt A k).size ≤ (if x < (askAt A k).size then (askAt A k).size else x) := by split <;> grind
    refine ⟨by grind, fun j hj => ?_⟩
    rcases List.mem_cons.mp hj with e | hj
    · subst e; grind
    · exact h2 j hj
theorem greatest_ge (A : List Ask) {l : List Nat} {k : Nat} (h : k ∈ l) : (askAt A k).size ≤ greatest A l := (greatest_from A l 0).2 k h
theorem greatest_nn (A : List Ask) (l : List Nat) : 0 ≤ greatest A l := (greatest_from A l 0).1
theorem greatest_fin {A : List Ask} (hA : Rok A) : ∀ (l : List Nat) (x : Rat), fin x → (∀ k ∈ l, k < A.length) → fin (l.foldl (fun f k => if f < (askAt A k).size then (askAt A k).size else f) x)
  | [], x, hx, _ => hx
  | k :: l, x, hx, h => by
    rw [List.foldl_cons]
    refine greatest_fin hA l _ ?_ fun j hj => h j (List.mem_cons_of_mem _ hj)
    split
    · exact (hA.at (h k List.mem_cons_self)).fn
    · exact hx
/-! ### ways that keep the sums within -/
theorem gain_bounds {A : List Ask} {S : List Rat} {k : Nat} (hk : k ∈ partedL A S) : 0 < gone A S k (rwy (askAt A k)) ∧ gone A S k (rwy (askAt A k)) < (askAt A k).size := by
  obtain ⟨_, h1, h2⟩ := parted_mem.mp hk
  unfold gone
  split <;> constructor <;> grind
theorem pick_ok {A : List Ask} {S : List Rat} {M tot : Rat} {k : Nat} (hk : k ∈ partedL A S) (hM : (askAt A k).size ≤ 2 * M) (h1 : -M ≤ tot) (h2 : tot ≤ M) :
    -M ≤ tot + gainBy A S k (pick A S M tot k) ∧ tot + gainBy A S k (pick A S M tot k) ≤ M := by
  obtain ⟨g1, g2⟩ := gain_bounds hk
  have e1 : gainBy A S k (rwy (askAt A k)) = (askAt A k).size - gone A S k (rwy (askAt A k)) := if_pos rfl
  have e2 : gainBy A S k (!rwy (askAt A k)) = 0 - gone A S k (rwy (askAt A k)) := if_neg (by cases rwy (askAt A k) <;> decide)
  unfold pick
  split
  · rename_i h
    rw [e1] at h
    rw [e2]
    constructor <;> grind
  · rename_i h
    rw [e1] at h
    rw [e1]
    constructor <;> grind
theorem ww_ok {A : List Ask} {S : List Rat} {M : Rat} : ∀ {l : List Nat} {tot : Rat} {W : List Bool}, l.Nodup → (∀ k ∈ l, k < W.length ∧ k ∈ partedL A S ∧ (askAt A k).size ≤ 2 * M) → -M ≤ tot → tot ≤ M →
    (∀ j, j ∉ l → wayAt (wwGo A S M tot W l) j = wayAt W j) ∧ (wwGo A S M tot W l).length = W.length ∧ sumsOk A S (wwGo A S M tot W l) M tot l = true
  | [], _, _, _, _, _, _ => ⟨fun _ _ => rfl, rfl, rfl⟩
  | k :: l, tot, W, hn, h, h1, h2 => by
    obtain ⟨k1, k2, k3⟩ := h k List.mem_cons_self
    obtain ⟨b1, b2⟩ := pick_ok k2 k3 h1 h2
    obtain ⟨n1, n2⟩ := List.nodup_cons.mp hn
    obtain ⟨c1, c2, c3⟩ := ww_ok (l := l) (W := W.set k (pick A S M tot k)) n2 (fun j hj => by
      obtain ⟨a, b, c⟩ := h j (List.mem_cons_of_mem _ hj)
      exact ⟨by rw [List.length_set]; exact a, b, c⟩) b1 b2
    have ek : wayAt (wwGo A S M tot W (k :: l)) k = pick A S M tot k := by
      show wayAt (wwGo A S M _ _ l) k = _
      rw [c1 k n1, wayAt_set k1, if_pos rfl]
    refine ⟨fun j hj => ?_, ?_, ?_⟩
    · show wayAt (wwGo A S M _ _ l) j = _
      rw [c1 j (fun z => hj (List.mem_cons_of_mem _ z)), wayAt_set k1, if_neg (fun z => hj (by rw [← z]; exact List.mem_cons_self))]
    · show (wwGo A S M _ _ l).length = _
      rw [c2, List.length_set]
    · show (if M < tot + gainBy A S k (wayAt (wwGo A S M tot W (k :: l)) k) ∨ _ then false else _) = true
      rw [ek, if_neg (by rintro (z | z) <;> grind)]
      exact c3
theorem whole_or {A : List Ask} {S : List Rat} (hS : Sv A S) {k : Nat} (hk : k < A.length) (h : k ∉ partedL A S) : partAt S k = 0 ∨ partAt S k = (askAt A k).size := by
  have h1 := hS.ge k hk
  have h2 := hS.le k hk
  by_cases c : 0 < partAt S k
  · by_cases c2 : partAt S k < (askAt A k).size
    · exact absurd (parted_mem.mpr ⟨hk, c, c2⟩) h
    · right; grind
  · left; grind
theorem baseWay_ok {A : List Ask} {S : List Rat} (hS : Sv A S) {k : Nat} (hk : k < A.length) (h : k ∉ partedL A S) : goesWhole A S k (baseWay A S k) = true := by
  unfold baseWay
  rw [decide_eq_false h]
  cases c : goesWhole A S k true with
  | true => exact c
  | false =>
    have c' : ¬ partAt S k = (askAt A k).size := of_decide_eq_false c
    show goesWhole A S k false = true
    rcases whole_or hS hk h with e | e
    · refine decide_eq_true ?_
      show (askAt A k).size - partAt S k = _
      rw [e]; grind
    · exact absurd e c'
theorem baseWays_at {A : List Ask} {S : List Rat} {k : Nat} (hk : k < A.length) : wayAt (baseWays A S) k = baseWay A S k := by
  unfold wayAt baseWays
  rw [List.getD_eq_getElem?_getD, List.getElem?_map, List.getElem?_range hk]
  rfl
theorem baseWays_len {A : List Ask} {S : List Rat} : (baseWays A S).length = A.length := by
  unfold baseWays
  rw [List.length_map, List.length_range]
theorem wholeWays_all {A : List Ask} {S : List Rat} : (∀ j, j ∉ partedL A S → wayAt (wholeWays A S) j = wayAt (baseWays A S) j) ∧ (wholeWays A S).length = A.length ∧ sumsOk A S (wholeWays A S) (half A (partedL A S)) 0 (inOrder A (partedL A S)) = true := by
  have hn := greatest_nn A (partedL A S)
  obtain ⟨a, b, c⟩ := ww_ok (A := A) (S := S) (M := half A (partedL A S)) (l := inOrder A (partedL A S)) (tot := 0) (W := baseWays A S) (inOrder_nodup A S) (fun k hk => by
    have hk := inOrder_mem.mp hk
    refine ⟨by rw [baseWays_len]; exact (parted_mem.mp hk).1, hk, ?_⟩
    have := greatest_ge A hk
    unfold half
    grind) (by unfold half; grind) (by unfold half; grind)
  exact ⟨fun j hj => a j (fun z => hj (inOrder_mem.mp z)), b.trans baseWays_len, c⟩
theorem wholeWays_len {A : List Ask} {S : List Rat} : (wholeWays A S).length = A.length := wholeWays_all.2.1
/-- ways of what is whole go as it goes -/
theorem wholeWays_whole {A : List Ask} {S : List Rat} (hS : Sv A S) {k : Nat} (hk : k < A.length) (h : k ∉ partedL A S) : goesWhole A S k (wayAt (wholeWays A S) k) = true := by
  rw [wholeWays_all.1 k h, baseWays_at hk]
  exact baseWay_ok hS hk h
theorem wholeWays_ok {A : List Ask} {S : List Rat} (hS : Sv A S) : areRounded A S (wholeWays A S) = true := by
  unfold areRounded
  rw [wholeWays_all.2.2, Bool.and_true, List.all_eq_true]
  intro k hk
  unfold firstOk
  by_cases c : k ∈ partedL A S
  · rw [decide_eq_true c]; rfl
  · rw [decide_eq_false c, wholeWays_whole hS (List.mem_range.mp hk) c]; rfl
/-- .. but not with a whole ask turned -/
theorem turned_no {A : List Ask} {S : List Rat} (hS : Sv A S) {k : Nat} (hk : k < A.length) (h : k ∉ partedL A S) (hz : (askAt A k).size ≠ 0) : areRounded A S ((wholeWays A S).set k (!wayAt (wholeWays A S) k)) = false := by
  have e : firstOk A S ((wholeWays A S).set k (!wayAt (wholeWays A S) k)) k = false := by
    unfold firstOk
    rw [decide_eq_false h, wayAt_set (by rw [wholeWays_len]; exact hk), if_pos rfl, Bool.false_or]
    have h1 : gone A S k (wayAt (wholeWays A S) k) = (askAt A k).size := of_decide_eq_true (wholeWays_whole hS hk h)
    refine decide_eq_false fun z => hz ?_
    unfold gone at h1 z
    cases c : wayAt (wholeWays A S) k <;> rw [c] at h1 z <;> simp at h1 z <;> grind
  unfold areRounded
  rw [Bool.and_eq_false_iff]
  left
  rw [List.all_eq_false]
  exact ⟨k, List.mem_range.mpr hk, by rw [e]; exact Bool.false_ne_true⟩
/-! ### sums over lists -/
def sumL (f : Nat → Rat) : List Nat → Rat
  | [] => 0
  | k :: l => f k + sumL f l
theorem sumL_app (f : Nat → Rat) : ∀ l m : List Nat, sumL f (l ++ m) = sumL f l + sumL f m
  | [], m => by show _ = 0 + _; grind
  | k :: l, m => by
    show f k + sumL f (l ++ m) = f k + sumL f l + sumL f m
    rw [sumL_app f l m]; grind
theorem sumL_perm {f : Nat → Rat} {l m : List Nat} (h : l.Perm m) : sumL f l = sumL f m := by
  induction h with
  | nil => rfl
  | cons x _ ih => show f x + _ = f x + _; rw [ih]
  | swap x y l => show f y + (f x + sumL f l) = f x + (f y + sumL f l); grind
  | trans _ _ h1 h2 => exact h1.trans h2
theorem sumL_congr {f g : Nat → Rat} : ∀ {l : List Nat}, (∀ k ∈ l, f k = g k) → sumL f l = sumL g l
  | [], _ => rfl
  | k :: l, h => by
    show f k + _ = g k + _
    rw [h k List.mem_cons_self, sumL_congr (l := l) fun j hj => h j (List.mem_cons_of_mem _ hj)]
theorem sumL_filter {f : Nat → Rat} {p : Nat → Bool} : ∀ {l : List Nat}, (∀ k ∈ l, p k = false → f k = 0) → sumL f l = sumL f (l.filter p)
  | [], _ => rfl
  | k :: l, h => by
    have ih := sumL_filter (l := l) fun j hj => h j (List.mem_cons_of_mem _ hj)
    rw [List.filter_cons]
    cases c : p k with
    | true => show f k + _ = f k + _; rw [ih]
    | false =>
      have := h k List.mem_cons_self c
      show f k + sumL f l = sumL f (l.filter p)
      rw [this, ih]; grind
theorem sumTo_list (f : Nat → Rat) : ∀ n, sumTo f n = sumL f (List.range n)
  | 0 => rfl
  | n + 1 => by
    rw [List.range_succ, sumL_app, ← sumTo_list f n]
    show sumTo f n + f n = _ + (f n + 0)
    grind
theorem sums_pre {A : List Ask} {S : List Rat} {W : List Bool} {M : Rat} : ∀ {l : List Nat} {tot : Rat}, sumsOk A S W M tot l = true → -M ≤ tot → tot ≤ M → ∀ a, a ≤ l.length → -M ≤ tot + sumL (fun k => gainBy A S k (wayAt W k)) (l.take a) ∧ tot + sumL (fun k => gainBy A S k (wayAt W k)) (l.take a) ≤ M
  | [], tot, _, h1, h2, a, ha => by
    have : a = 0 := by simpa using ha
    subst this
    show -M ≤ tot + 0 ∧ tot + 0 ≤ M
    constructor <;> grind
  | k :: l, tot, h, h1, h2, 0, _ => by
    show -M ≤ tot + 0 ∧ tot + 0 ≤ M
    constructor <;> grind
  | k :: l, tot, h, h1, h2, a + 1, ha => by
    have h : (if M < tot + gainBy A S k (wayAt W k) ∨ tot + gainBy A S k (wayAt W k) < 0 - M then false else sumsOk A S W M (tot + gainBy A S k (wayAt W k)) l) = true := h
    by_cases c : M < tot + gainBy A S k (wayAt W k) ∨ tot + gainBy A S k (wayAt W k) < 0 - M
    · rw [if_pos c] at h; cases h
    · rw [if_neg c] at h
      obtain ⟨r1, r2⟩ := sums_pre (l := l) h (by grind) (by grind) a (by simpa using ha)
      show -M ≤ tot + (gainBy A S k (wayAt W k) + sumL _ (l.take a)) ∧ tot + (gainBy A S k (wayAt W k) + sumL _ (l.take a)) ≤ M
      constructor <;> grind
/-- what holds of a first part of a list: signs told by it -/
theorem pre_sum {p : Nat → Bool} {g : Nat → Rat} : ∀ {l : List Nat}, l.Pairwise (fun x y => p y = true → p x = true) → ∃ a, a ≤ l.length ∧ sumL (fun k => if p k then g k else - g k) l = 2 * sumL g (l.take a) - sumL g l
  | [], _ => ⟨0, Nat.le_refl _, by show (0 : Rat) = 2 * 0 - 0; grind⟩
  | k :: l, h => by
    obtain ⟨h1, h2⟩ := List.pairwise_cons.mp h
    cases c : p k with
    | true =>
      obtain ⟨a, ha, e⟩ := pre_sum (g := g) h2
      refine ⟨a + 1, by simpa using ha, ?_⟩
      show (if p k then g k else - g k) + sumL _ l = 2 * (g k + sumL g (l.take a)) - (g k + sumL g l)
      rw [c, if_pos rfl, e]; grind
    | false =>
      refine ⟨0, Nat.zero_le _, ?_⟩
      have e : sumL (fun k => if p k then g k else - g k) (k :: l) = sumL (fun k => - g k) (k :: l) := sumL_congr fun j hj => by
        rcases List.mem_cons.mp hj with q | hj
        · subst q
          show (if p j then _ else _) = _
          rw [c]; rfl
        · have : p j = false := by
            cases z : p j with
            | false => rfl
            | true => have := h1 j hj z; rw [c] at this; cases this
          show (if p j then _ else _) = _
          rw [this]; rfl
      have n : ∀ l : List Nat, sumL (fun k => - g k) l = - sumL g l := fun l => by
        induction l with
        | nil => show (0 : Rat) = -0; grind
        | cons x l ih => show - g x + _ = -(g x + _); rw [ih]; grind
      rw [e, n]
      show -(sumL g (k :: l)) = 2 * 0 - sumL g (k :: l)
      grind
/-! ### three halves -/
theorem cross_pair {A : List Ask} (hA : Rok A) {l : List Nat} (hl : ∀ k ∈ l, k < A.length) (hn : l.Nodup) (hs : l.Pairwise fun a b => ordLe A a b = true) (hc : allCross A l = true) :
    l.Pairwise fun x y => lowOf (askAt A x) < lowOf (askAt A y) ∧ lowOf (askAt A y) < highOf (askAt A x) ∧ highOf (askAt A x) < highOf (askAt A y) := by
  have cr : ∀ x ∈ l, ∀ y ∈ l, x ≠ y → crossB (askAt A x) (askAt A y) = true := fun x hx y hy hxy => by
    unfold allCross at hc
    rw [List.all_eq_true] at hc
    rcases Nat.lt_or_gt_of_ne hxy with h | h
    · have := List.all_eq_true.mp (hc x hx) y hy
      simp at this
      rcases this with z | z
      · omega
      · exact z
    · have := List.all_eq_true.mp (hc y hy) x hx
      simp at this
      have q : crossB (askAt A y) (askAt A x) = true := by
        rcases this with z | z
        · omega
        · exact z
      have := (cross_iff (hA.at (hl y hy)) (hA.at (hl x hx))).mp q
      exact (cross_iff (hA.at (hl x hx)) (hA.at (hl y hy))).mpr (by omega)
  refine List.Pairwise.imp_of_mem (R := fun x y => ordLe A x y = true ∧ x ≠ y) ?_ (List.pairwise_and_iff.mpr ⟨hs, hn⟩)
  intro x y hx hy hxy
  have := (cross_iff (hA.at (hl x hx)) (hA.at (hl y hy))).mp (cr x hx y hy hxy.2)
  have h1 := hxy.1
  unfold ordLe at h1
  simp at h1
  omega
theorem rise_iff (a : Ask) (t : Int) : rise a t = true ↔ (lowOf a : Int) ≤ t ∧ t < (highOf a : Int) := by unfold rise; simp
/-- the signs of an order of asks that all cross: two first sums -/
theorem rise_sum {A : List Ask} (hA : Rok A) {g : Nat → Rat} {M : Rat} {l : List Nat} (hl : ∀ k ∈ l, k < A.length) (hp : l.Pairwise fun x y => lowOf (askAt A x) < lowOf (askAt A y) ∧ lowOf (askAt A y) < highOf (askAt A x) ∧ highOf (askAt A x) < highOf (askAt A y))
    (hM : ∀ a, a ≤ l.length → -M ≤ sumL g (l.take a) ∧ sumL g (l.take a) ≤ M) (t : Nat) : sumL (fun k => if rise (askAt A k) t then g k else - g k) l ≤ 3 * M := by
  have hall := hM l.length (Nat.le_refl _)
  rw [List.take_length] at hall
  by_cases c : ∃ k ∈ l, highOf (askAt A k) ≤ t
  · obtain ⟨k, hk, ck⟩ := c
    have low : ∀ j ∈ l, lowOf (askAt A j) ≤ t := fun j hj => by
      by_cases e : j = k
      · subst e
        have := low_high (hA.at (hl j hj))
        omega
      · have h1 : ∀ x y, x ∈ l → y ∈ l → x ≠ y → lowOf (askAt A x) < highOf (askAt A y) := fun x y hx hy hxy => by
          have := List.pairwise_iff_getElem.mp hp
          obtain ⟨i, hi, rfl⟩ := List.getElem_of_mem hx
          obtain ⟨m, hm, rfl⟩ := List.getElem_of_mem hy
          have him : i ≠ m := fun z => hxy (by subst z; rfl)
          rcases Nat.lt_or_gt_of_ne him with h | h
          · have q := this i m hi hm h
            omega
          · have q := this m i hm hi h
            omega
        have := h1 j k hj hk e
        omega
    obtain ⟨a, ha, e⟩ := pre_sum (p := fun k => decide (highOf (askAt A k) ≤ t)) (g := g) (l := l) (hp.imp fun {x y} h z => decide_eq_true (by
      have := of_decide_eq_true z
      omega))
    have e2 : sumL (fun k => if rise (askAt A k) t then g k else - g k) l = sumL (fun k => - (if decide (highOf (askAt A k) ≤ t) then g k else - g k)) l := sumL_congr fun j hj => by
      have h1 := low j hj
      have h2 := rise_iff (askAt A j) t
      show (if rise (askAt A j) t then g j else - g j) = - (if decide (highOf (askAt A j) ≤ t) = true then g j else - g j)
      by_cases h3 : highOf (askAt A j) ≤ t
      · rw [decide_eq_true h3, if_pos rfl, if_neg (fun z => by have := h2.mp z; omega)]
      · rw [decide_eq_false h3, if_neg Bool.false_ne_true, if_pos (h2.mpr (by omega))]
        grind
    have n : ∀ (f : Nat → Rat) (l : List Nat), sumL (fun k => - f k) l = - sumL f l := fun f l => by
      induction l with
      | nil => show (0 : Rat) = -0; grind
      | cons x l ih => show - f x + _ = -(f x + _); rw [ih]; grind
    rw [e2, n, e]
    have := hM a ha
    grind
  · obtain ⟨a, ha, e⟩ := pre_sum (p := fun k => rise (askAt A k) t) (g := g) (l := l) (by
      refine List.Pairwise.imp_of_mem ?_ hp
      intro x y hx hy h z
      have h1 := (rise_iff _ _).mp z
      refine (rise_iff _ _).mpr ?_
      have : ¬ highOf (askAt A x) ≤ t := fun q => c ⟨x, hx, q⟩
      omega)
    rw [e]
    have := hM a ha
    grind
theorem sentBy_at {A : List Ask} {W : List Bool} (hl : W.length = A.length) {k : Nat} (hk : k < A.length) : partAt (sentBy A W) k = if wayAt W k then (askAt A k).size else 0 := by
  unfold partAt sentBy
  have e : (A.zip W)[k]? = some (askAt A k, wayAt W k) := List.getElem?_zip_eq_some.mpr ⟨askAt_get hk, wayAt_get (by omega)⟩
  rw [List.getD_eq_getElem?_getD, List.getElem?_map, e]
  rfl
theorem sentBy_len {A : List Ask} {W : List Bool} (hl : W.length = A.length) : (sentBy A W).length = A.length := by
  unfold sentBy
  rw [List.length_map, List.length_zip, hl, Nat.min_self]
theorem sentBy_sv {A : List Ask} {W : List Bool} (hA : Rok A) (hl : W.length = A.length) : Sv A (sentBy A W) := by
  have key : ∀ k, k < A.length → fin (partAt (sentBy A W) k) ∧ 0 ≤ partAt (sentBy A W) k ∧ partAt (sentBy A W) k ≤ (askAt A k).size := fun k hk => by
    have h := hA.at hk
    have hn := h.nn
    rw [sentBy_at hl hk]
    split
    · exact ⟨h.fn, h.nn, by grind⟩
    · exact ⟨fin_zero, by grind, h.nn⟩
  exact ⟨⟨sentBy_len hl, fun k hk => (key k hk).1⟩, fun k hk => (key k hk).2.1, fun k hk => (key k hk).2.2⟩
theorem sumTo_sub (f g : Nat → Rat) : ∀ n, sumTo f n - sumTo g n = sumTo (fun k => f k - g k) n
  | 0 => by show (0 : Rat) - 0 = 0; grind
  | n + 1 => by
    show (sumTo f n + f n) - (sumTo g n + g n) = sumTo _ n + (f n - g n)
    rw [← sumTo_sub f g n]; grind
/-- what a tie gains from one ask -/
theorem con_gain {A : List Ask} {B : List Rat} {W : List Bool} (hA : Rok A) (hl : W.length = A.length) {k t : Nat} (hk : k < A.length) (ht : t < 12) :
    con A (sentBy A W) t k - con A B t k = if rise (askAt A k) t then gainBy A B k (wayAt W k) else - gainBy A B k (wayAt W k) := by
  have h := isOver_rise (hA.at hk) (t := (t : Int)) (by omega) (by omega)
  unfold con
  rw [sentBy_at hl hk, ← h]
  unfold isOver gainBy gone
  cases over (askAt A k) t <;> cases rwy (askAt A k) <;> cases wayAt W k <;> simp <;> grind
theorem three_halves {A : List Ask} {B : List Rat} {W : List Bool} (hA : Rok A) (hS : Sv A B) (hl : W.length = A.length) (hc : allCross A (partedL A B) = true) (hr : areRounded A B W = true) {t : Nat} (ht : t < 12) :
    load A (sentBy A W) t - load A B t ≤ 3 * half A (partedL A B) := by
  unfold areRounded at hr
  rw [Bool.and_eq_true, List.all_eq_true] at hr
  obtain ⟨r1, r2⟩ := hr
  unfold load
  rw [load_sum, load_sum, sumTo_sub, sumTo_list, sumL_congr (g := fun k => if rise (askAt A k) t then gainBy A B k (wayAt W k) else - gainBy A B k (wayAt W k)) fun k hk => con_gain hA hl (List.mem_range.mp hk) ht]
  rw [sumL_filter (p := partB A B) fun k hk hp => ?_]
  · have hM := greatest_nn A (partedL A B)
    show sumL _ (partedL A B) ≤ _
    rw [← sumL_perm (inOrder_perm A (partedL A B))]
    have hm : ∀ k ∈ inOrder A (partedL A B), k < A.length := fun k hk => (parted_mem.mp (inOrder_mem.mp hk)).1
    have hc2 : allCross A (inOrder A (partedL A B)) = true := by
      unfold allCross at hc ⊢
      rw [List.all_eq_true] at hc ⊢
      intro k hk
      rw [List.all_eq_true]
      intro l hl
      exact List.all_eq_true.mp (hc k (inOrder_mem.mp hk)) l (inOrder_mem.mp hl)
    refine rise_sum hA hm (cross_pair hA hm (inOrder_nodup A B) (inOrder_sorted A _) hc2) (fun a ha => ?_) t
    have := sums_pre r2 (by unfold half; grind) (by unfold half; grind) a ha
    constructor <;> grind
  · have hk := List.mem_range.mp hk
    have hn : k ∉ partedL A B := fun z => by
      have := (List.mem_filter.mp z).2
      rw [hp] at this
      cases this
    have h1 := r1 k (List.mem_range.mpr hk)
    unfold firstOk at h1
    rw [decide_eq_false hn, Bool.false_or] at h1
    have h2 : gone A B k (wayAt W k) = (askAt A k).size := of_decide_eq_true h1
    have e : gainBy A B k (wayAt W k) = 0 := by
      unfold gainBy
      unfold gone at h2 ⊢
      cases c1 : rwy (askAt A k) <;> cases c2 : wayAt W k <;> rw [c2] at h2 <;> simp at h2 ⊢ <;> grind
    show (if rise (askAt A k) t then gainBy A B k (wayAt W k) else - gainBy A B k (wayAt W k)) = 0
    rw [e]
    split <;> grind
end Rg

set_option Elab.async false
set_option linter.all false
set_option maxRecDepth 100000
set_option maxHeartbeats 2000000
/-! A layer of our own over the readings: slots hold DATA (PyData), addresses are forgotten. A slot may hold a list that this frame alone owns. -/
namespace Rg
open PySem PySem.Spec PyProof.Rows L2

section
variable {K : PySem.W.Frag} {G H H' H1 H2 : Hp} {a p : Addr} {xs : List V} {o : HO}
theorem same_tup (e : Same H H') (h : SqT K H a xs) : SqT K H' a xs := by
  rcases h with (h | ⟨o, h⟩) | h
  · exact .inl (.inl (e _ _ h))
  · exact .inl (.inr ⟨o, e _ _ h⟩)
  · exact .inr h
theorem same_new (h : H p = none) : Same H (upd H p o) := fun b u e => by
  rw [upd_ne (ne_of_none e h)]
  exact e
mutual
theorem dp_up (e : Same H H') : ∀ {v : V} {d : PyData}, Dp K H v d → Dp K H' v d
  | _, _, .non => .non
  | _, _, .bl b => .bl b
  | _, _, .int i => .int i
  | _, _, .str x => .str x
  | _, _, .lst hs ha => .lst (e.seq hs) (dpA_up e ha)
  | _, _, .tup hs ha => .tup (same_tup e hs) (dpA_up e ha)
theorem dpA_up (e : Same H H') : ∀ {vs : List V} {ds : List PyData}, DpAll K H vs ds → DpAll K H' vs ds
  | _, _, .nil => .nil
  | _, _, .cons h t => .cons (dp_up e h) (dpA_up e t)
end
theorem dpA_len : ∀ {vs : List V} {ds : List PyData}, DpAll K H vs ds → vs.length = ds.length
  | _, _, .nil => rfl
  | _, _, .cons _ t => congrArg (· + 1) (dpA_len t)
theorem dpA_get : ∀ {vs : List V} {ds : List PyData} {j : Nat} {d : PyData}, DpAll K H vs ds → ds[j]? = some d → ∃ v, vs[j]? = some v ∧ Dp K H v d
  | _, _, _, _, .nil, h => by simp at h
  | _, _, 0, _, .cons h t, e => by
    simp at e
    subst e
    exact ⟨_, rfl, h⟩
  | _, _, j + 1, _, .cons h t, e => by
    simp at e
    obtain ⟨v, h1, h2⟩ := dpA_get (j := j) t e
    exact ⟨v, by simpa using h1, h2⟩
theorem dpA_getV : ∀ {vs : List V} {ds : List PyData} {j : Nat} {v : V}, DpAll K H vs ds → vs[j]? = some v → ∃ d, ds[j]? = some d ∧ Dp K H v d
  | _, _, _, _, .nil, h => by simp at h
  | _, _, 0, _, .cons h t, e => by
    simp at e
    subst e
    exact ⟨_, rfl, h⟩
  | _, _, j + 1, _, .cons h t, e => by
    simp at e
    obtain ⟨v, h1, h2⟩ := dpA_getV (j := j) t e
    exact ⟨v, by simpa using h1, h2⟩
theorem dpA_app : ∀ {vs ws : List V} {ds es : List PyData}, DpAll K H vs ds → DpAll K H ws es → DpAll K H (vs ++ ws) (ds ++ es)
  | _, _, _, _, .nil, h => h
  | _, _, _, _, .cons h t, h2 => .cons h (dpA_app t h2)
theorem dpA_one {v : V} {d : PyData} (h : Dp K H v d) : DpAll K H [v] [d] := .cons h .nil
theorem dpA_set : ∀ {vs : List V} {ds : List PyData} {v : V} {d : PyData} (j : Nat), DpAll K H vs ds → Dp K H v d → DpAll K H (vs.set j v) (ds.set j d)
  | _, _, _, _, _, .nil, _ => .nil
  | _, _, _, _, 0, .cons h t, hd => .cons hd t
  | _, _, _, _, j + 1, .cons h t, hd => .cons h (dpA_set j t hd)
theorem dpA_take : ∀ {vs : List V} {ds : List PyData} (n : Nat), DpAll K H vs ds → DpAll K H (vs.take n) (ds.take n)
  | _, _, 0, _ => by simpa using DpAll.nil
  | _, _, n + 1, .nil => .nil
  | _, _, n + 1, .cons h t => .cons h (dpA_take n t)
theorem dpA_drop : ∀ {vs : List V} {ds : List PyData} (n : Nat), DpAll K H vs ds → DpAll K H (vs.drop n) (ds.drop n)
  | _, _, 0, h => h
  | _, _, n + 1, .nil => .nil
  | _, _, n + 1, .cons h t => dpA_drop n t
theorem dpA_rep {v : V} {d : PyData} (h : Dp K H v d) : ∀ n : Nat, DpAll K H (List.replicate n v) (List.replicate n d)
  | 0 => .nil
  | n + 1 => .cons h (dpA_rep h n)
theorem dpA_ints : ∀ {ns : List Int} {vs : List V}, DpAll K H vs (ns.map PyData.int) → vs = ns.map V.int
  | [], _, .nil => rfl
  | n :: ns, _, .cons (.int _) t => by rw [dpA_ints t]; rfl
theorem dpA_intsI : ∀ (ns : List Int), DpAll K H (ns.map V.int) (ns.map PyData.int)
  | [] => .nil
  | n :: ns => .cons (.int n) (dpA_intsI ns)
theorem dpA_bls : ∀ {bs : List Bool} {vs : List V}, DpAll K H vs (bs.map PyData.bool) → vs = bs.map V.bl
  | [], _, .nil => rfl
  | n :: ns, _, .cons (.bl _) t => by rw [dpA_bls t]; rfl
theorem dpA_strs : ∀ {ws : List Str} {vs : List V}, DpAll K H vs (ws.map PyData.str) → vs = ws.map V.str
  | [], _, .nil => rfl
  | n :: ns, _, .cons (.str _) t => by rw [dpA_strs t]; rfl
end

/-! ### data without lists -/
mutual
def lf : PyData → Bool
  | .list _ => false
  | .dict _ => false
  | .tuple ds => lfA ds
  | .none => true
  | .bool _ => true
  | .int _ => true
  | .str _ => true
def lfA : List PyData → Bool
  | [] => true
  | d :: ds => lf d && lfA ds
end
theorem lfA_map {α : Type} {f : α → PyData} (h : ∀ x, lf (f x) = true) : ∀ l : List α, lfA (l.map f) = true
  | [] => by simp [lfA]
  | x :: l => by simp [lfA, h x, lfA_map h l]
theorem lfA_get : ∀ {ds : List PyData} {j : Nat} {d : PyData}, lfA ds = true → ds[j]? = some d → lf d = true
  | [], _, _, _, h => by simp at h
  | e :: ds, 0, d, h, e2 => by
    simp at e2
    subst e2
    simp [lfA] at h
    exact h.1
  | e :: ds, j + 1, d, h, e2 => by
    simp at e2
    simp [lfA] at h
    exact lfA_get h.2 e2
theorem lfA_set : ∀ {ds : List PyData} (j : Nat) {d : PyData}, lfA ds = true → lf d = true → lfA (ds.set j d) = true
  | [], _, _, h, _ => h
  | e :: ds, 0, d, h, h2 => by
    simp [lfA] at h
    simp [lfA, h2, h.2]
  | e :: ds, j + 1, d, h, h2 => by
    simp [lfA] at h
    simp [lfA, h.1, lfA_set j h.2 h2]
theorem lfA_app : ∀ {ds es : List PyData}, lfA ds = true → lfA es = true → lfA (ds ++ es) = true
  | [], _, _, h => h
  | e :: ds, es, h, h2 => by
    simp [lfA] at h
    simp [lfA, h.1, lfA_app h.2 h2]
theorem lfA_rep {d : PyData} (h : lf d = true) : ∀ n : Nat, lfA (List.replicate n d) = true
  | 0 => by simp [lfA]
  | n + 1 => by simp [List.replicate_succ, lfA, h, lfA_rep h n]

/-- H with G's lists alone -/
def nl (G H : Hp) : Hp := fun b => match H b with
  | some (.lst _) => G b
  | o => o
section
variable {K : PySem.W.Frag} {G H H' H1 H2 : Hp} {a p : Addr} {xs : List V} {o : HO}
theorem nl_lst (h : H a = some (.lst xs)) : nl G H a = G a := by simp [nl, h]
theorem nl_tup (h : H a = some (.tup xs)) : nl G H a = some (.tup xs) := by simp [nl, h]
theorem nl_frz {ob : Obj} (h : H a = some (.frz ob o)) : nl G H a = some (.frz ob o) := by simp [nl, h]
theorem nl_lo (e : Same G H) : Same G (nl G H) := fun b o h => by
  have h2 := e b o h
  cases o with
  | lst ys => rw [nl_lst h2]; exact h
  | _ => simp [nl, h2]
theorem nl_hi (e : Same G H) : Same (nl G H) H := fun b o h => by
  cases q : H b with
  | none => simp [nl, q] at h
  | some u =>
    cases u with
    | lst ys => rw [nl_lst q] at h; rw [← q]; exact e b o h
    | _ => simp [nl, q] at h; rw [← h]
mutual
theorem dp_nl : ∀ {v : V} {d : PyData}, lf d = true → Dp K H v d → Dp K (nl G H) v d
  | _, _, _, .non => .non
  | _, _, _, .bl b => .bl b
  | _, _, _, .int i => .int i
  | _, _, _, .str x => .str x
  | _, _, h, .lst hs ha => by simp [lf] at h
  | _, _, h, .tup hs ha => by
    refine .tup ?_ (dpA_nl (by simpa [lf] using h) ha)
    rcases hs with (q | ⟨o, q⟩) | q
    · exact .inl (.inl (nl_tup q))
    · exact .inl (.inr ⟨o, nl_frz q⟩)
    · exact .inr q
theorem dpA_nl : ∀ {vs : List V} {ds : List PyData}, lfA ds = true → DpAll K H vs ds → DpAll K (nl G H) vs ds
  | _, _, _, .nil => .nil
  | _, _, h, .cons hd t => by
    simp [lfA] at h
    exact .cons (dp_nl h.1 hd) (dpA_nl h.2 t)
end
end

/-! ### slots -/
inductive Sl where
  | no
  | val (d : PyData)
  | own (ds : List PyData)
def Sl.dat : Sl → Option PyData
  | .no => none
  | .val d => some d
  | .own ds => some (.list ds)
/-- at the heap H, behind the heap H0 of the entry (all kept): the slots hold what the list says; G: the heap without the lists that are owned -/
structure OkW (K : PySem.W.Frag) (H0 G H : Hp) (σ : L2.St) (g : List Sl) : Prop where
  lo : Same H0 G
  hi : Same G H
  val : ∀ (i : Nat) d, g[i]? = some (.val d) → ∃ v, σ[i]? = some (some v) ∧ Dp K G v d
  own : ∀ (i : Nat) ds, g[i]? = some (.own ds) → ∃ l xs, σ[i]? = some (some (.ref l)) ∧ H l = some (.lst xs) ∧ G l = none ∧ DpAll K G xs ds
  uni : ∀ (i j : Nat) ds es l, g[i]? = some (.own ds) → g[j]? = some (.own es) → σ[i]? = some (some (.ref l)) → σ[j]? = some (some (.ref l)) → i = j
  len : σ.length = g.length
def Ok (K : PySem.W.Frag) (H0 H : Hp) (σ : L2.St) (g : List Sl) : Prop := ∃ G, OkW K H0 G H σ g
section
variable {K : PySem.W.Frag} {H0 H00 G G' H H' : Hp} {σ : L2.St} {g : List Sl}
theorem OkW.grow (k : OkW K H0 G H σ g) (e1 : Same G G') (e2 : Same G' H') (e3 : Same H H') (n : ∀ l xs, H l = some (.lst xs) → G l = none → G' l = none) : OkW K H0 G' H' σ g where
  lo := k.lo.trans e1
  hi := e2
  val := fun i d h => by
    obtain ⟨v, h1, h2⟩ := k.val i d h
    exact ⟨v, h1, dp_up e1 h2⟩
  own := fun i ds h => by
    obtain ⟨l, xs, h1, h2, h3, h4⟩ := k.own i ds h
    exact ⟨l, xs, h1, e3 _ _ h2, n l xs h2 h3, dpA_up e1 h4⟩
  uni := k.uni
  len := k.len
theorem OkW.up (k : OkW K H0 G H σ g) (e : Same H H') : OkW K H0 G H' σ g := k.grow (Same.refl G) (k.hi.trans e) e fun _ _ _ h => h
theorem Ok.up (k : Ok K H0 H σ g) (e : Same H H') : Ok K H0 H' σ g := let ⟨G, k⟩ := k; ⟨G, k.up e⟩
theorem OkW.ok (k : OkW K H0 G H σ g) : Ok K H0 H σ g := ⟨G, k⟩
theorem OkW.rebase (k : OkW K H0 G H σ g) : OkW K G G H σ g := ⟨Same.refl G, k.hi, k.val, k.own, k.uni, k.len⟩
theorem OkW.base (e : Same H00 H0) (k : OkW K H0 G H σ g) : OkW K H00 G H σ g := ⟨e.trans k.lo, k.hi, k.val, k.own, k.uni, k.len⟩
theorem Ok.base (e : Same H00 H0) (k : Ok K H0 H σ g) : Ok K H00 H σ g := let ⟨G, k⟩ := k; ⟨G, k.base e⟩
theorem Ok.same (k : Ok K H0 H σ g) : Same H0 H := let ⟨_, k⟩ := k; k.lo.trans k.hi
/-- to the lists of G all else of H' is added -/
theorem OkW.nl (k : OkW K H0 G H σ g) (e : Same H H') : OkW K H0 (nl G H') H' σ g :=
  k.grow (nl_lo (k.hi.trans e)) (nl_hi (k.hi.trans e)) e fun l xs h1 h2 => by rw [nl_lst (e _ _ h1)]; exact h2
/-- .. and one new list -/
def wi (G H : Hp) (p : Addr) : Hp := fun b => if b = p then H b else nl G H b
theorem OkW.wi {p : Addr} (k : OkW K H0 G H σ g) (e : Same H H') (hp : H p = none) : OkW K H0 (wi G H' p) H' σ g :=
  k.grow (fun b o h => by
      have h2 := k.hi.trans e b o h
      by_cases hb : b = p
      · show (if b = p then H' b else Rg.nl G H' b) = some o
        rw [if_pos hb]; exact h2
      · show (if b = p then H' b else Rg.nl G H' b) = some o
        rw [if_neg hb]; exact nl_lo (k.hi.trans e) b o h)
    (fun b o h => by
      have h : (if b = p then H' b else Rg.nl G H' b) = some o := h
      by_cases hb : b = p
      · rw [if_pos hb] at h; exact h
      · rw [if_neg hb] at h; exact nl_hi (k.hi.trans e) b o h)
    e fun l xs h1 h2 => by
      have hl : l ≠ p := ne_of_none h1 hp
      show (if l = p then H' l else Rg.nl G H' l) = none
      rw [if_neg hl, nl_lst (e _ _ h1)]; exact h2
theorem wi_nl {p : Addr} (e : Same G H) : Same (nl G H) (Rg.wi G H p) := fun b o h => by
  show (if b = p then H b else Rg.nl G H b) = some o
  by_cases hb : b = p
  · rw [if_pos hb]; exact nl_hi e b o h
  · rw [if_neg hb]; exact h
theorem get_set {α : Type} {l : List α} {i j : Nat} {x y : α} (h : (l.set i x)[j]? = some y) : (i = j ∧ x = y ∧ j < l.length) ∨ (i ≠ j ∧ l[j]? = some y) := by
  rw [List.getElem?_set] at h
  by_cases e : i = j
  · rw [if_pos e] at h
    by_cases e2 : i < l.length
    · rw [if_pos e2] at h
      exact .inl ⟨e, Option.some.inj h, e ▸ e2⟩
    · rw [if_neg e2] at h; cases h
  · rw [if_neg e] at h
    exact .inr ⟨e, h⟩
theorem set_here {α : Type} {l : List α} {i : Nat} {x : α} (h : i < l.length) : (l.set i x)[i]? = some x := List.getElem?_set_self h
theorem set_else {α : Type} {l : List α} {i j : Nat} {x : α} (h : i ≠ j) : (l.set i x)[j]? = l[j]? := List.getElem?_set_ne h
theorem OkW.setV {v : V} {d : PyData} (k : OkW K H0 G H σ g) (i : Nat) (h : Dp K G v d) : OkW K H0 G H (σ.set i (some v)) (g.set i (.val d)) where
  lo := k.lo
  hi := k.hi
  val := fun j e hj => by
    rcases get_set hj with ⟨rfl, h1, h2⟩ | ⟨h1, h2⟩
    · cases h1
      exact ⟨v, set_here (by rw [k.len]; exact h2), h⟩
    · rw [set_else h1]; exact k.val j e h2
  own := fun j e hj => by
    rcases get_set hj with ⟨rfl, h1, h2⟩ | ⟨h1, h2⟩
    · cases h1
    · rw [set_else h1]; exact k.own j e h2
  uni := fun j m ds es l h1 h2 h3 h4 => by
    rcases get_set h1 with ⟨_, z, _⟩ | ⟨n1, h1⟩
    · cases z
    · rcases get_set h2 with ⟨_, z, _⟩ | ⟨n2, h2⟩
      · cases z
      · rw [set_else n1] at h3
        rw [set_else n2] at h4
        exact k.uni j m ds es l h1 h2 h3 h4
  len := by rw [List.length_set, List.length_set]; exact k.len
theorem OkW.setO {p : Addr} {xs : List V} {ds : List PyData} (k : OkW K H0 G H σ g) (i : Nat) (hp : H p = some (.lst xs)) (hG : G p = none) (h : DpAll K G xs ds) (hn : ∀ (j : Nat) es, g[j]? = some (.own es) → σ[j]? ≠ some (some (.ref p))) :
    OkW K H0 G H (σ.set i (some (.ref p))) (g.set i (.own ds)) where
  lo := k.lo
  hi := k.hi
  val := fun j e hj => by
    rcases get_set hj with ⟨rfl, h1, h2⟩ | ⟨h1, h2⟩
    · cases h1
    · rw [set_else h1]; exact k.val j e h2
  own := fun j e hj => by
    rcases get_set hj with ⟨rfl, h1, h2⟩ | ⟨h1, h2⟩
    · cases h1
      exact ⟨p, xs, set_here (by rw [k.len]; exact h2), hp, hG, h⟩
    · rw [set_else h1]; exact k.own j e h2
  uni := fun j m ds es l h1 h2 h3 h4 => by
    rcases get_set h1 with ⟨rfl, _, z1⟩ | ⟨n1, h1⟩
    · rcases get_set h2 with ⟨rfl, _, z2⟩ | ⟨n2, h2⟩
      · rfl
      · rw [set_here (by rw [k.len]; exact z1)] at h3
        rw [set_else n2] at h4
        cases h3
        exact absurd h4 (hn m es h2)
    · rcases get_set h2 with ⟨rfl, _, z2⟩ | ⟨n2, h2⟩
      · rw [set_here (by rw [k.len]; exact z2)] at h4
        rw [set_else n1] at h3
        cases h4
        exact absurd h3 (hn j ds h1)
      · rw [set_else n1] at h3
        rw [set_else n2] at h4
        exact k.uni j m ds es l h1 h2 h3 h4
  len := by rw [List.length_set, List.length_set]; exact k.len
theorem set_self_eq {α : Type} : ∀ {l : List α} {i : Nat} {x : α}, l[i]? = some x → l.set i x = l
  | [], _, _, h => by simp at h
  | y :: l, 0, x, h => by simp at h; subst h; rfl
  | y :: l, i + 1, x, h => by
    simp at h
    show y :: l.set i x = y :: l
    rw [set_self_eq h]
theorem OkW.updO {l : Addr} {xs' : List V} {ds ds' : List PyData} (k : OkW K H0 G H σ g) {i : Nat} (hi : g[i]? = some (.own ds)) (hl : σ[i]? = some (some (.ref l))) (h : DpAll K G xs' ds') :
    OkW K H0 G (upd H l (.lst xs')) σ (g.set i (.own ds')) := by
  obtain ⟨l', xs, e1, e2, e3, e4⟩ := k.own i ds hi
  rw [hl] at e1
  cases e1
  have hil : i < g.length := (List.getElem?_eq_some_iff.mp hi).1
  refine ⟨k.lo, fun b o q => ?_, fun j e hj => ?_, fun j e hj => ?_, fun j m ds1 es l1 h1 h2 h3 h4 => ?_, by rw [List.length_set]; exact k.len⟩
  · rw [upd_ne (ne_of_none q e3)]; exact k.hi b o q
  · rcases get_set hj with ⟨_, z, _⟩ | ⟨n, hj⟩
    · cases z
    · exact k.val j e hj
  · rcases get_set hj with ⟨rfl, z, _⟩ | ⟨n, hj⟩
    · cases z
      exact ⟨l, xs', hl, upd_same, e3, h⟩
    · obtain ⟨m, ys, q1, q2, q3, q4⟩ := k.own j e hj
      have hml : m ≠ l := fun z => n (k.uni i j ds e l hi hj hl (z ▸ q1))
      exact ⟨m, ys, q1, by rw [upd_ne hml]; exact q2, q3, q4⟩
  · have f : ∀ (j : Nat) es, (g.set i (.own ds'))[j]? = some (Sl.own es) → ∃ es', g[j]? = some (.own es') := fun j es q => by
      rcases get_set q with ⟨rfl, _, _⟩ | ⟨_, q⟩
      · exact ⟨_, hi⟩
      · exact ⟨_, q⟩
    obtain ⟨a, ha⟩ := f j ds1 h1
    obtain ⟨b, hb⟩ := f m es h2
    exact k.uni j m a b l1 ha hb h3 h4
/-- a slot read -/
theorem OkW.look (k : OkW K H0 G H σ g) {i : Nat} {d : PyData} (h : g[i]?.bind Sl.dat = some d) : ∃ v, σ[i]? = some (some v) ∧ Dp K H v d := by
  cases e : g[i]? with
  | none => rw [e] at h; cases h
  | some s =>
    rw [e] at h
    cases s with
    | no => cases h
    | val d' =>
      cases h
      obtain ⟨v, h1, h2⟩ := k.val i _ e
      exact ⟨v, h1, dp_up k.hi h2⟩
    | own ds =>
      cases h
      obtain ⟨l, xs, h1, h2, h3, h4⟩ := k.own i _ e
      exact ⟨_, h1, .lst (SqL.of h2) (dpA_up k.hi h4)⟩
theorem OkW.fresh_ne {p : Addr} (k : OkW K H0 G H σ g) (hp : H p = none) : ∀ (j : Nat) es, g[j]? = some (.own es) → σ[j]? ≠ some (some (.ref p)) := fun j es h z => by
  obtain ⟨l, xs, h1, h2, _⟩ := k.own j es h
  rw [z] at h1
  cases h1
  rw [hp] at h2
  cases h2
end
end Rg

set_option Elab.async false
set_option linter.all false
set_option maxRecDepth 100000
set_option maxHeartbeats 2000000
/-! What expressions evaluate to, as data. -/
namespace Rg
open PySem PySem.Spec PyProof.Rows L2

section
variable (K : PySem.W.Frag)
/-- e evaluates to d; the heap grows -/
def Ev (te : TE) (g : List Sl) (d : PyData) : Prop := ∀ (H0 H : Hp) (σ : L2.St), Ok K H0 H σ g → ∀ Q : VK, (∀ v H2, Same H H2 → Dp K H2 v d → Q v H2) → te σ H Q
/-- .. to a thing apart from the lists that are owned -/
def EvG (te : TE) (g : List Sl) (d : PyData) : Prop := ∀ (H0 G H : Hp) (σ : L2.St), OkW K H0 G H σ g → ∀ Q : VK, (∀ v G2 H2, Same H H2 → Same G G2 → OkW K H0 G2 H2 σ g → Dp K G2 v d → Q v H2) → te σ H Q
/-- .. to a thing whose address is new -/
def New (H0 H : Hp) (v : V) (d : PyData) : Prop := ∃ p xs es, v = .ref p ∧ H0 p = none ∧ H p = some (.lst xs) ∧ d = .list es ∧ DpAll K H xs es
def EvF (te : TE) (g : List Sl) (d : PyData) : Prop := ∀ (H0 H : Hp) (σ : L2.St), Ok K H0 H σ g → ∀ Q : VK, (∀ v H2, Same H H2 → New K H H2 v d → Q v H2) → te σ H Q
/-- .. to a new list that may be written -/
def EvN (te : TE) (g : List Sl) (ds : List PyData) : Prop := ∀ (H0 H : Hp) (σ : L2.St), Ok K H0 H σ g → ∀ Q : VK, (∀ p xs H2, Same H H2 → H p = none → H2 p = some (.lst xs) → DpAll K H2 xs ds → Q (.ref p) H2) → te σ H Q
def EvT (tt : TT) (g : List Sl) (b : Bool) : Prop := ∀ (H0 H : Hp) (σ : L2.St), Ok K H0 H σ g → ∀ Q : Bool → Hp → Prop, (∀ H2, Same H H2 → Q b H2) → tt σ H Q
def EvA (ta : TA) (g : List Sl) (ds : List PyData) : Prop := ∀ (H0 H : Hp) (σ : L2.St), Ok K H0 H σ g → ∀ Q : List V → Hp → Prop, (∀ vs H2, Same H H2 → DpAll K H2 vs ds → Q vs H2) → ta σ H Q
/-- operations on data -/
def RV (r : R2) (d1 d2 d : PyData) : Prop := ∀ (H : Hp) v1 v2, Dp K H v1 d1 → Dp K H v2 d2 → ∀ Q : VK, (∀ v H2, Same H H2 → Dp K H2 v d → Q v H2) → r v1 v2 H Q
def RC (r : List V → Hp → VK → Prop) (ds : List PyData) (d : PyData) : Prop := ∀ (H : Hp) vs, DpAll K H vs ds → ∀ Q : VK, (∀ v H2, Same H H2 → Dp K H2 v d → Q v H2) → r vs H Q
def RCN (r : List V → Hp → VK → Prop) (ds : List PyData) (es : List PyData) : Prop := ∀ (H : Hp) vs, DpAll K H vs ds → ∀ Q : VK, (∀ p xs H2, Same H H2 → H p = none → H2 p = some (.lst xs) → DpAll K H2 xs es → Q (.ref p) H2) → r vs H Q
end
def noOwn (g : List Sl) : Bool := g.all fun s => match s with
  | .own _ => false
  | _ => true
theorem noOwn_at {g : List Sl} (h : noOwn g = true) {i : Nat} {ds : List PyData} : g[i]? ≠ some (.own ds) := fun e => by
  have := List.all_eq_true.mp h _ (List.mem_of_getElem? e)
  cases this

section
variable {K : PySem.W.Frag} {g : List Sl} {ta tb te : TE} {t u : TT} {d d1 d2 : PyData} {ds es : List PyData} {r : R2}
theorem EvG.ev (h : EvG K te g d) : Ev K te g d := fun H0 H σ ok Q q => let ⟨G, k⟩ := ok; h H0 G H σ k Q fun v G2 H2 e1 _ k2 hd => q v H2 e1 (dp_up k2.hi hd)
theorem New.dp {H0 H : Hp} {v : V} {d : PyData} (h : New K H0 H v d) : Dp K H v d := by
  obtain ⟨p, xs, es, rfl, _, e, rfl, h⟩ := h
  exact .lst (SqL.of e) h
theorem New.base {H00 H0 H : Hp} {v : V} {d : PyData} (e : Same H00 H0) (h : New K H0 H v d) : New K H00 H v d := let ⟨p, xs, es, a, b, c⟩ := h; ⟨p, xs, es, a, e.free b, c⟩
theorem EvN.evf (h : EvN K te g ds) : EvF K te g (.list ds) := fun H0 H σ ok Q q => h H0 H σ ok Q fun p xs H2 e1 e2 e3 e4 => q _ H2 e1 ⟨p, xs, ds, rfl, e2, e3, rfl, e4⟩
theorem EvF.evn (h : EvF K te g (.list ds)) : EvN K te g ds := fun H0 H σ ok Q q => h H0 H σ ok Q fun v H2 e1 ⟨p, xs, es, a, b, c, e, f⟩ => by
  cases e
  subst a
  exact q p xs H2 e1 b c f
theorem EvF.ev (h : EvF K te g d) : Ev K te g d := fun H0 H σ ok Q q => h H0 H σ ok Q fun v H2 e1 e3 => q _ H2 e1 e3.dp
theorem EvN.ev (h : EvN K te g ds) : Ev K te g (.list ds) := h.evf.ev
theorem Ev.flat (h : Ev K te g d) (hl : lf d = true) : EvG K te g d := fun H0 G H σ k Q q => h H0 H σ k.ok Q fun v H2 e1 hd => q v _ H2 e1 (nl_lo (k.hi.trans e1)) (k.nl e1) (dp_nl hl hd)
theorem Ev.free (h : Ev K te g d) (hn : noOwn g = true) : EvG K te g d := fun H0 G H σ k Q q => h H0 H σ k.ok Q fun v H2 e1 hd =>
  q v H2 H2 e1 (k.hi.trans e1) ⟨k.lo.trans (k.hi.trans e1), Same.refl _, fun i d h => by obtain ⟨v, a, b⟩ := k.val i d h; exact ⟨v, a, dp_up (k.hi.trans e1) b⟩, fun i ds h => absurd h (noOwn_at hn), k.uni, k.len⟩ hd
theorem EvN.st (h : EvN K te g ds) (hl : lfA ds = true) : EvG K te g (.list ds) := fun H0 G H σ k Q q => h H0 H σ k.ok Q fun p xs H2 e1 e2 e3 ha => by
  have hw : wi G H2 p p = H2 p := by show (if p = p then H2 p else nl G H2 p) = _; rw [if_pos rfl]
  exact q (.ref p) (wi G H2 p) H2 e1 ((nl_lo (k.hi.trans e1)).trans (wi_nl (k.hi.trans e1))) (k.wi e1 e2) (.lst (SqL.of (hw.trans e3)) (dpA_up (wi_nl (k.hi.trans e1)) (dpA_nl hl ha)))
theorem EvF.st (h : EvF K te g (.list ds)) (hl : lfA ds = true) : EvG K te g (.list ds) := h.evn.st hl

theorem ev_is (h : Ev K te g d1) (e : d1 = d) : Ev K te g d := e ▸ h
theorem evg_is (h : EvG K te g d1) (e : d1 = d) : EvG K te g d := e ▸ h
theorem evn_is (h : EvN K te g ds) (e : ds = es) : EvN K te g es := e ▸ h
theorem evt_is {a b : Bool} (h : EvT K t g a) (e : a = b) : EvT K t g b := e ▸ h

/-! ### names, constants -/
theorem ev_var {i : Nat} (h : g[i]?.bind Sl.dat = some d) : Ev K (tVar i) g d := fun H0 H σ ok Q q => by
  obtain ⟨G, k⟩ := ok
  obtain ⟨v, h1, h2⟩ := k.look h
  exact ⟨v, h1, q v H (Same.refl H) h2⟩
theorem evg_var {i : Nat} (h : g[i]? = some (.val d)) : EvG K (tVar i) g d := fun H0 G H σ k Q q => by
  obtain ⟨v, h1, h2⟩ := k.val i d h
  exact ⟨v, h1, q v G H (Same.refl H) (Same.refl G) k h2⟩
theorem ev_int {i : Int} : Ev K (tC (.int i)) g (.int i) := fun H0 H σ _ Q q => q _ H (Same.refl H) (.int i)
theorem ev_bl {i : Bool} : Ev K (tC (.bl i)) g (.bool i) := fun H0 H σ _ Q q => q _ H (Same.refl H) (.bl i)
theorem ev_str {i : Str} : Ev K (tC (.str i)) g (.str i) := fun H0 H σ _ Q q => q _ H (Same.refl H) (.str i)
theorem ev_non : Ev K (tC .non) g .none := fun H0 H σ _ Q q => q _ H (Same.refl H) .non
/-- a constant of the written part -/
theorem ev_con {v : V} (h : ∀ H, Dp K H v d) : Ev K (tC v) g d := fun H0 H σ _ Q q => q v H (Same.refl H) (h H)
theorem evg_con {v : V} (h : ∀ H, Dp K H v d) : EvG K (tC v) g d := fun H0 G H σ k Q q => q v G H (Same.refl H) (Same.refl G) k (h G)

/-! ### operators -/
theorem ev_op (ha : Ev K ta g d1) (hb : Ev K tb g d2) (hr : RV K r d1 d2 d) : Ev K (tOp r ta tb) g d := fun H0 H σ ok Q q =>
  ha H0 H σ ok _ fun v1 H1 s1 h1 => hb H0 H1 σ (ok.up s1) _ fun v2 H2 s2 h2 => hr H2 v1 v2 (dp_up s2 h1) h2 Q fun v H3 s3 h3 => q v H3 (s1.trans (s2.trans s3)) h3
/-- an item of a thing apart stands apart -/
theorem evg_op (ha : EvG K ta g d1) (hb : EvG K tb g d2) (hr : ∀ (G H : Hp) v1 v2, Same G H → Dp K G v1 d1 → Dp K G v2 d2 → ∀ Q : VK, (∀ v, Dp K G v d → Q v H) → r v1 v2 H Q) : EvG K (tOp r ta tb) g d := fun H0 G H σ k Q q =>
  ha H0 G H σ k _ fun v1 G1 H1 s1 t1 k1 h1 => hb H0 G1 H1 σ k1 _ fun v2 G2 H2 s2 t2 k2 h2 => hr G2 H2 v1 v2 k2.hi (dp_up t2 h1) h2 Q fun v h3 => q v G2 H2 (s1.trans s2) (t1.trans t2) k2 h3
theorem ev_opN {r : R2} {xs zs : List PyData} (ha : EvN K ta g xs) (hb : ∀ (H0 H : Hp) (σ : L2.St), Ok K H0 H σ g → ∀ Q : VK, (∀ v H2, Same H H2 → Dp K H2 v d2 → Q v H2) → tb σ H Q)
    (hr : ∀ (H : Hp) p v2 vs, H p = some (.lst vs) → DpAll K H vs xs → Dp K H v2 d2 → ∀ Q : VK, (∀ q ws H2, Same H H2 → H q = none → H2 q = some (.lst ws) → DpAll K H2 ws zs → Q (.ref q) H2) → r (.ref p) v2 H Q) : EvN K (tOp r ta tb) g zs := fun H0 H σ ok Q q =>
  ha H0 H σ ok _ fun p vs H1 s1 n1 e1 h1 => hb H0 H1 σ (ok.up s1) _ fun v2 H2 s2 h2 => hr H2 p v2 vs (s2 _ _ e1) (dpA_up s2 h1) h2 Q fun p2 ws H3 s3 n3 e3 h3 => q p2 ws H3 (s1.trans (s2.trans s3)) ((s1.trans s2).free n3) e3 h3

theorem rv_int0 {f : Int → Int → Int} {i j : Int} : RV K (rI0 fun i j => .int (f i j)) (.int i) (.int j) (.int (f i j)) := fun H v1 v2 h1 h2 Q q => by
  cases h1; cases h2
  exact ⟨i, j, rfl, rfl, q _ H (Same.refl H) (.int _)⟩
theorem rv_bool0 {f : Int → Int → Bool} {i j : Int} : RV K (rI0 fun i j => .bl (f i j)) (.int i) (.int j) (.bool (f i j)) := fun H v1 v2 h1 h2 Q q => by
  cases h1; cases h2
  exact ⟨i, j, rfl, rfl, q _ H (Same.refl H) (.bl _)⟩
theorem rv_int {C : Int → Int → Prop} {f : Int → Int → Int} {i j : Int} (c : C i j) : RV K (rI C fun i j => .int (f i j)) (.int i) (.int j) (.int (f i j)) := fun H v1 v2 h1 h2 Q q => by
  cases h1; cases h2
  exact ⟨i, j, rfl, rfl, c, q _ H (Same.refl H) (.int _)⟩
theorem rv_eq (h1 : SeqAt.shaped d1 = true) (h2 : SeqAt.shaped d2 = true) : RV K (rEqD K) d1 d2 (.bool (PyData.eqv d1 d2)) := fun H v1 v2 e1 e2 Q q => ⟨d1, d2, e1, e2, h1, h2, q _ H (Same.refl H) (.bl _)⟩
theorem rv_ne (h1 : SeqAt.shaped d1 = true) (h2 : SeqAt.shaped d2 = true) : RV K (rNeD K) d1 d2 (.bool (!PyData.eqv d1 d2)) := fun H v1 v2 e1 e2 Q q => ⟨d1, d2, e1, e2, h1, h2, q _ H (Same.refl H) (.bl _)⟩
/-- an item by a number from 0 on -/
def ixD : PyData → PyData → Option PyData
  | .list ds, .int i => if 0 ≤ i then ds[i.toNat]? else none
  | .tuple ds, .int i => if 0 ≤ i then ds[i.toNat]? else none
  | _, _ => none
theorem atI_of {α : Type} {xs : List α} {i : Int} {v : α} (h0 : 0 ≤ i) (h : xs[i.toNat]? = some v) : atI xs i = some v := by
  have := atI_nat h
  rwa [Int.toNat_of_nonneg h0] at this
theorem ix_core (h : ixD d1 d2 = some d) (G H : Hp) (v1 v2 : V) (e : Same G H) (a : Dp K G v1 d1) (b : Dp K G v2 d2) (Q : VK) (q : ∀ v, Dp K G v d → Q v H) : rIx K v1 v2 H Q := by
  cases d2 with
  | int i =>
    cases b
    cases d1 with
    | list ds =>
      have h : (if 0 ≤ i then ds[i.toNat]? else none) = some d := h
      by_cases h0 : 0 ≤ i
      · rw [if_pos h0] at h
        cases a with
        | lst hs ha =>
          obtain ⟨v, h1, h2⟩ := dpA_get ha h
          exact .inl ⟨_, _, i, v, rfl, rfl, e.seq hs, atI_of h0 h1, q v h2⟩
      · rw [if_neg h0] at h; cases h
    | tuple ds =>
      have h : (if 0 ≤ i then ds[i.toNat]? else none) = some d := h
      by_cases h0 : 0 ≤ i
      · rw [if_pos h0] at h
        cases a with
        | tup hs ha =>
          obtain ⟨v, h1, h2⟩ := dpA_get ha h
          exact .inr (.inl ⟨_, _, i, v, rfl, rfl, same_tup e hs, atI_of h0 h1, q v h2⟩)
      · rw [if_neg h0] at h; cases h
    | _ => cases h
  | _ => cases d1 <;> cases h
theorem rv_ix (h : ixD d1 d2 = some d) : RV K (rIx K) d1 d2 d := fun H v1 v2 a b Q q => ix_core h H H v1 v2 (Same.refl H) a b Q fun v hv => q v H (Same.refl H) hv
theorem evg_ix (ha : EvG K ta g d1) (hb : EvG K tb g d2) (h : ixD d1 d2 = some d) : EvG K (tOp (rIx K) ta tb) g d := evg_op ha hb fun G H v1 v2 e a b Q q => ix_core h G H v1 v2 e a b Q q
theorem ev_ix (ha : Ev K ta g d1) (hb : Ev K tb g d2) (h : ixD d1 d2 = some d) : Ev K (tOp (rIx K) ta tb) g d := ev_op ha hb (rv_ix h)

/-! ### in, for ints and texts -/
theorem flat_ints (ns : List Int) : (ns.map V.int).all flatV = true := by
  induction ns with
  | nil => rfl
  | cons n ns ih => simp [flatV, ih]
theorem flat_strs (ns : List Str) : (ns.map V.str).all flatV = true := by
  induction ns with
  | nil => rfl
  | cons n ns ih => simp [flatV, ih]
theorem inV_ints (n : Int) (ns : List Int) : inV (.int n) (ns.map V.int) = decide (n ∈ ns) := by
  unfold inV
  induction ns with
  | nil => simp
  | cons m ns ih =>
    rw [List.map_cons, List.any_cons, ih]
    have e : eqV (.int m) (.int n) = decide (n = m) := by
      simp only [eqV]
      first
        | (by_cases h : m = n <;> simp [h, eq_comm]; done)
        | (rw [Bool.eq_iff_iff]; simp; exact eq_comm)
    rw [e]
    simp
theorem inV_strs (n : Str) (ns : List Str) : inV (.str n) (ns.map V.str) = decide (n ∈ ns) := by
  unfold inV
  induction ns with
  | nil => simp
  | cons m ns ih =>
    rw [List.map_cons, List.any_cons, ih]
    have e : eqV (.str m) (.str n) = decide (n = m) := by
      simp only [eqV]
      first
        | (by_cases h : m = n <;> simp [h, eq_comm]; done)
        | (rw [Bool.eq_iff_iff]; simp; exact eq_comm)
    rw [e]
    simp
theorem rv_inL {neg : Bool} {n : Int} {ns : List Int} : RV K (rIn K neg) (.int n) (.list (ns.map .int)) (.bool (if neg then !decide (n ∈ ns) else decide (n ∈ ns))) := fun H v1 v2 a b Q q => by
  cases a
  cases b with
  | lst hs ha =>
    have e := dpA_ints ha
    subst e
    refine ⟨_, _, rfl, .inl hs, rfl, flat_ints ns, ?_⟩
    rw [inV_ints]
    exact q _ H (Same.refl H) (.bl _)
theorem rv_inT {neg : Bool} {n : Int} {ns : List Int} : RV K (rIn K neg) (.int n) (.tuple (ns.map .int)) (.bool (if neg then !decide (n ∈ ns) else decide (n ∈ ns))) := fun H v1 v2 a b Q q => by
  cases a
  cases b with
  | tup hs ha =>
    have e := dpA_ints ha
    subst e
    refine ⟨_, _, rfl, .inr hs, rfl, flat_ints ns, ?_⟩
    rw [inV_ints]
    exact q _ H (Same.refl H) (.bl _)
theorem rv_inS {neg : Bool} {n : Str} {ns : List Str} : RV K (rIn K neg) (.str n) (.tuple (ns.map .str)) (.bool (if neg then !decide (n ∈ ns) else decide (n ∈ ns))) := fun H v1 v2 a b Q q => by
  cases a
  cases b with
  | tup hs ha =>
    have e := dpA_strs ha
    subst e
    refine ⟨_, _, rfl, .inr hs, rfl, flat_strs ns, ?_⟩
    rw [inV_strs]
    exact q _ H (Same.refl H) (.bl _)
def isNone : PyData → Bool
  | .none => true
  | _ => false
theorem rv_notN : RV K (fun x y H Q => y = .non ∧ Q (.bl (!decide (x = .non))) H) d .none (.bool (!isNone d)) := fun H v1 v2 a b Q q => by
  cases b
  refine ⟨rfl, ?_⟩
  have e : decide (v1 = V.non) = isNone d := by cases a <;> simp [isNone]
  rw [e]
  exact q _ H (Same.refl H) (.bl _)
theorem rv_isN : RV K (fun x y H Q => y = .non ∧ Q (.bl (decide (x = .non))) H) d .none (.bool (isNone d)) := fun H v1 v2 a b Q q => by
  cases b
  refine ⟨rfl, ?_⟩
  have e : decide (v1 = V.non) = isNone d := by cases a <;> simp [isNone]
  rw [e]
  exact q _ H (Same.refl H) (.bl _)

/-! ### tests, bools -/
theorem et_test {b : Bool} (h : Ev K te g (.bool b)) : EvT K (tTest te) g b := fun H0 H σ ok Q q => h H0 H σ ok _ fun v H2 e hd => by
  cases hd
  exact ⟨b, rfl, q H2 e⟩
theorem et_B {b : Bool} (h : Ev K te g (.bool b)) : EvT K (tB te) g b := fun H0 H σ ok Q q => h H0 H σ ok _ fun v H2 e hd => by
  cases hd
  exact ⟨b, rfl, q H2 e⟩
theorem et_and {a b : Bool} (h1 : EvT K t g a) (h2 : a = true → EvT K u g b) : EvT K (tAnd t u) g (a && b) := fun H0 H σ ok Q q => h1 H0 H σ ok _ fun H1 e1 => by
  cases a with
  | true =>
    rw [if_pos rfl]
    exact h2 rfl H0 H1 σ (ok.up e1) Q fun H2 e2 => q H2 (e1.trans e2)
  | false =>
    rw [if_neg Bool.false_ne_true]
    exact q H1 e1
theorem et_or {a b : Bool} (h1 : EvT K t g a) (h2 : a = false → EvT K u g b) : EvT K (tOr t u) g (a || b) := fun H0 H σ ok Q q => h1 H0 H σ ok _ fun H1 e1 => by
  cases a with
  | true =>
    rw [if_pos rfl]
    exact q H1 e1
  | false =>
    rw [if_neg Bool.false_ne_true]
    exact h2 rfl H0 H1 σ (ok.up e1) Q fun H2 e2 => q H2 (e1.trans e2)
theorem et_not {a : Bool} (h1 : EvT K t g a) : EvT K (tNot t) g (!a) := fun H0 H σ ok Q q => h1 H0 H σ ok _ fun H1 e1 => q H1 e1
theorem ev_andV {a : Bool} (h1 : Ev K ta g (.bool a)) (h2 : a = true → Ev K tb g d2) : Ev K (tAndV ta tb) g (if a then d2 else .bool false) := fun H0 H σ ok Q q => h1 H0 H σ ok _ fun v H1 e1 hd => by
  cases hd
  refine ⟨a, rfl, ?_⟩
  cases a with
  | true =>
    rw [if_pos rfl]
    exact h2 rfl H0 H1 σ (ok.up e1) Q fun v H2 e2 hd => q v H2 (e1.trans e2) hd
  | false =>
    rw [if_neg Bool.false_ne_true]
    exact q _ H1 e1 (.bl _)
theorem ev_andB {a b : Bool} (h1 : Ev K ta g (.bool a)) (h2 : a = true → Ev K tb g (.bool b)) : Ev K (tAndV ta tb) g (.bool (a && b)) := by
  refine ev_is (ev_andV h1 h2) ?_
  cases a <;> rfl
theorem ev_notV {a : Bool} (h1 : Ev K ta g (.bool a)) : Ev K (tNotV ta) g (.bool (!a)) := fun H0 H σ ok Q q => h1 H0 H σ ok _ fun v H1 e1 hd => by
  cases hd
  exact ⟨a, rfl, q _ H1 e1 (.bl _)⟩
theorem ev_if {b : Bool} (h : EvT K t g b) (h1 : b = true → Ev K ta g d) (h2 : b = false → Ev K tb g d) : Ev K (tIf t ta tb) g d := fun H0 H σ ok Q q => h H0 H σ ok _ fun H1 e1 => by
  cases b with
  | true =>
    rw [if_pos rfl]
    exact h1 rfl H0 H1 σ (ok.up e1) Q fun v H2 e2 hd => q v H2 (e1.trans e2) hd
  | false =>
    rw [if_neg Bool.false_ne_true]
    exact h2 rfl H0 H1 σ (ok.up e1) Q fun v H2 e2 hd => q v H2 (e1.trans e2) hd
/-- a < b < c -/
theorem ev_chain {r r' : R2} {tc : TE} {d3 : PyData} {a : Bool} (h1 : Ev K ta g d1) (h2 : Ev K tb g d2) (h3 : a = true → Ev K tc g d3) (hr : RV K r d1 d2 (.bool a)) (hr' : a = true → RV K r' d2 d3 (.bool b)) :
    Ev K (tChain r r' ta tb tc) g (.bool (a && b)) := fun H0 H σ ok Q q =>
  h1 H0 H σ ok _ fun v1 H1 s1 e1 => h2 H0 H1 σ (ok.up s1) _ fun v2 H2 s2 e2 => hr H2 v1 v2 (dp_up s2 e1) e2 _ fun v H3 s3 e3 => by
    cases e3
    refine ⟨a, rfl, ?_⟩
    cases a with
    | true =>
      rw [if_pos rfl]
      exact h3 rfl H0 H3 σ (ok.up (s1.trans (s2.trans s3))) _ fun v3 H4 s4 e4 => hr' rfl H4 v2 v3 (dp_up (s3.trans s4) e2) e4 Q fun v H5 s5 e5 => q v H5 (s1.trans (s2.trans (s3.trans (s4.trans s5)))) e5
    | false =>
      rw [if_neg Bool.false_ne_true]
      exact q _ H3 (s1.trans (s2.trans s3)) (.bl _)

/-! ### arguments, displays, calls -/
theorem ea_nil : EvA K tNil g [] := fun H0 H σ _ Q q => q [] H (Same.refl H) .nil
theorem ea_cons {tr : TA} (h : Ev K ta g d) (hr : EvA K tr g ds) : EvA K (tCons ta tr) g (d :: ds) := fun H0 H σ ok Q q =>
  h H0 H σ ok _ fun v H1 e1 h1 => hr H0 H1 σ (ok.up e1) _ fun vs H2 e2 h2 => q (v :: vs) H2 (e1.trans e2) (.cons (dp_up e2 h1) h2)
theorem ev_tup {tr : TA} (h : EvA K tr g ds) (hz : ds.length ≤ 100000 := by exact Nat.le_of_ble_eq_true rfl) : Ev K (tTup tr) g (.tuple ds) := fun H0 H σ ok Q q =>
  h H0 H σ ok _ fun vs H1 e1 h1 => ⟨by rw [dpA_len h1]; exact Nat.le_trans hz (by decide), fun p hp => q (.ref p) _ (e1.trans (same_new hp)) (.tup (SqT.of upd_same) (dpA_up (same_new hp) h1))⟩
theorem evn_lst {tr : TA} (h : EvA K tr g ds) (hz : ds.length ≤ 100000 := by exact Nat.le_of_ble_eq_true rfl) : EvN K (tLst tr) g ds := fun H0 H σ ok Q q =>
  h H0 H σ ok _ fun vs H1 e1 h1 => ⟨by rw [dpA_len h1]; exact Nat.le_trans hz (by decide), fun p hp => q p vs _ (e1.trans (same_new hp)) (e1.free hp) upd_same (dpA_up (same_new hp) h1)⟩
theorem ev_cb {r : List V → Hp → VK → Prop} {tr : TA} (ha : EvA K tr g ds) (hr : RC K r ds d) : Ev K (tCB r tr) g d := fun H0 H σ ok Q q =>
  ha H0 H σ ok _ fun vs H1 e1 h1 => hr H1 vs h1 Q fun v H2 e2 hd => q v H2 (e1.trans e2) hd
theorem evn_cb {r : List V → Hp → VK → Prop} {tr : TA} (ha : EvA K tr g ds) (hr : RCN K r ds es) : EvN K (tCB r tr) g es := fun H0 H σ ok Q q =>
  ha H0 H σ ok _ fun vs H1 e1 h1 => hr H1 vs h1 Q fun p xs H2 e2 n2 l2 hd => q p xs H2 (e1.trans e2) (e1.free n2) l2 hd
/-- what a def promises of data: R of the arguments and the answer; fr: the answer's address is new -/
def spD (K : PySem.W.Frag) (fr : Bool) (R : List PyData → PyData → Prop) : Sp := fun vs H Q _ => ∃ ds d, DpAll K H vs ds ∧ R ds d ∧ ∀ v H', Same H H' → Dp K H' v d → (fr = true → New K H H' v d) → Q v H'
theorem ev_call {fr : Bool} {R : List PyData → PyData → Prop} {E : XK} {tr : TA} (ha : EvA K tr g ds) (hr : R ds d) : Ev K (tCall (spD K fr R) [] E tr) g d := fun H0 H σ ok Q q =>
  ha H0 H σ ok _ fun vs H1 e1 h1 => ⟨ds, d, by rw [List.append_nil]; exact h1, hr, fun v H2 e2 hd _ => q v H2 (e1.trans e2) hd⟩
theorem evf_call {R : List PyData → PyData → Prop} {E : XK} {tr : TA} (ha : EvA K tr g ds) (hr : R ds d) : EvF K (tCall (spD K true R) [] E tr) g d := fun H0 H σ ok Q q =>
  ha H0 H σ ok _ fun vs H1 e1 h1 => ⟨ds, d, by rw [List.append_nil]; exact h1, hr, fun v H2 e2 hd f => q v H2 (e1.trans e2) ((f rfl).base e1)⟩

/-! ### built-ins -/
theorem rc_len : RC K (fun xs H Q => ∃ p ys, xs = [.ref p] ∧ (SqL K H p ys ∨ SqT K H p ys) ∧ Q (.int ys.length) H) [.list ds] (.int ds.length) := fun H vs h Q q => by
  cases h with
  | cons h t =>
    cases t
    cases h with
    | lst hs ha =>
      refine ⟨_, _, rfl, .inl hs, ?_⟩
      rw [dpA_len ha]
      exact q _ H (Same.refl H) (.int _)
theorem rc_lenT : RC K (fun xs H Q => ∃ p ys, xs = [.ref p] ∧ (SqL K H p ys ∨ SqT K H p ys) ∧ Q (.int ys.length) H) [.tuple ds] (.int ds.length) := fun H vs h Q q => by
  cases h with
  | cons h t =>
    cases t
    cases h with
    | tup hs ha =>
      refine ⟨_, _, rfl, .inr hs, ?_⟩
      rw [dpA_len ha]
      exact q _ H (Same.refl H) (.int _)
theorem rc_abs {i : Int} : RC K (fun xs H Q => ∃ i, xs = [.int i] ∧ Q (.int (if i < 0 then -i else i)) H) [.int i] (.int (if i < 0 then -i else i)) := fun H vs h Q q => by
  cases h with
  | cons h t => cases t; cases h; exact ⟨i, rfl, q _ H (Same.refl H) (.int _)⟩
theorem rc_int2 {f : Int → Int → Int} {i j : Int} : RC K (fun xs H Q => ∃ i j, xs = [.int i, .int j] ∧ Q (.int (f i j)) H) [.int i, .int j] (.int (f i j)) := fun H vs h Q q => by
  cases h with
  | cons h t => cases t with
    | cons h2 t => cases t; cases h; cases h2; exact ⟨i, j, rfl, q _ H (Same.refl H) (.int _)⟩
theorem rc_intB {b : Bool} : RC K (fun xs H Q => (∃ i, xs = [.int i] ∧ Q (.int i) H) ∨ ∃ k, xs = [.bl k] ∧ Q (.int (if k then 1 else 0)) H) [.bool b] (.int (if b then 1 else 0)) := fun H vs h Q q => by
  cases h with
  | cons h t => cases t; cases h; exact .inr ⟨b, rfl, q _ H (Same.refl H) (.int _)⟩
theorem rcn_list : RCN K (fun xs H Q => ∃ p ys, xs = [.ref p] ∧ (SqL K H p ys ∨ SqT K H p ys) ∧ ∀ l, H l = none → Q (.ref l) (upd H l (.lst ys))) [.list ds] ds := fun H vs h Q q => by
  cases h with
  | cons h t =>
    cases t
    cases h with
    | lst hs ha => exact ⟨_, _, rfl, .inl hs, fun l hl => q l _ _ (same_new hl) hl upd_same (dpA_up (same_new hl) ha)⟩
theorem rc_tuple : RC K (fun xs H Q => ∃ p ys, xs = [.ref p] ∧ ((SqL K H p ys ∧ ∀ l, H l = none → Q (.ref l) (upd H l (.tup ys))) ∨ (SqT K H p ys ∧ Q (.ref p) H))) [.list ds] (.tuple ds) := fun H vs h Q q => by
  cases h with
  | cons h t =>
    cases t
    cases h with
    | lst hs ha => exact ⟨_, _, rfl, .inl ⟨hs, fun l hl => q _ _ (same_new hl) (.tup (SqT.of upd_same) (dpA_up (same_new hl) ha))⟩⟩
theorem rc_all {bs : List Bool} : RC K (rAll K) [.list (bs.map .bool)] (.bool (bs.all id)) := fun H vs h Q q => by
  cases h with
  | cons h t =>
    cases t
    cases h with
    | lst hs ha =>
      have e := dpA_bls ha
      subst e
      exact ⟨_, bs, rfl, hs, q _ H (Same.refl H) (.bl _)⟩
/-- [x] * n -/
theorem evn_rep {n : Int} (ha : EvN K ta g ds) (hb : Ev K tb g (.int n)) (h0 : 0 ≤ n) (hn : ds.length * n.toNat ≤ 100000) (h1 : n ≤ 100000) : EvN K (tOp rRep ta tb) g (List.replicate n.toNat ds).flatten := by
  refine ev_opN ha (fun H0 H σ ok Q q => hb H0 H σ ok Q q) fun H p v2 vs e1 h2 h3 Q q => ?_
  cases h3
  have hr : ∀ (H : Hp) (m : Nat), DpAll K H vs ds → DpAll K H (List.replicate m vs).flatten (List.replicate m ds).flatten := fun H m hd => by
    induction m with
    | zero => exact .nil
    | succ m ih =>
      rw [List.replicate_succ, List.replicate_succ, List.flatten_cons, List.flatten_cons]
      exact dpA_app hd ih
  refine ⟨p, n, vs, rfl, rfl, e1, by omega, by omega, ?_, fun l hl => q l _ _ (same_new hl) hl upd_same (hr _ _ (dpA_up (same_new hl) h2))⟩
  rw [dpA_len h2]
  exact Nat.le_trans hn (by decide)
/-- xs + ys, both new -/
theorem evn_cat {xs ys : List PyData} (ha : EvN K ta g xs) (hb : EvN K tb g ys) (hz : xs.length + ys.length ≤ 100000) : EvN K (tOp rCat ta tb) g (xs ++ ys) := fun H0 H σ ok Q q =>
  ha H0 H σ ok _ fun p vs H1 s1 n1 e1 h1 => hb H0 H1 σ (ok.up s1) _ fun p2 ws H2 s2 n2 e2 h2 =>
    ⟨p, p2, vs, ws, rfl, rfl, s2 _ _ e1, e2, by rw [dpA_len h1, dpA_len h2]; exact Nat.le_trans hz (by decide), fun l hl => q l _ _ (s1.trans (s2.trans (same_new hl))) ((s1.trans s2).free hl) upd_same (dpA_up (same_new hl) (dpA_app (dpA_up s2 h1) h2))⟩
/-- slices -/
def EvO (K : PySem.W.Frag) (to : L2.St → Hp → (Option Int → Hp → Prop) → Prop) (g : List Sl) (o : Option Int) : Prop := ∀ (H0 H : Hp) (σ : L2.St), Ok K H0 H σ g → ∀ Q : Option Int → Hp → Prop, (∀ H2, Same H H2 → Q o H2) → to σ H Q
theorem eo_none : EvO K tNoPart g none := fun H0 H σ _ Q q => q H (Same.refl H)
theorem eo_some {i : Int} (h : Ev K te g (.int i)) : EvO K (tPart te) g (some i) := fun H0 H σ ok Q q => h H0 H σ ok _ fun v H2 e hd => by
  cases hd
  exact ⟨i, rfl, q H2 e⟩
def cutD (ds : List PyData) (lo hi : Option Int) : List PyData := (ds.drop (HT.sIx ds.length 0 lo)).take (HT.sIx ds.length ds.length hi - HT.sIx ds.length 0 lo)
theorem dpA_cut {H : Hp} {vs : List V} {lo hi : Option Int} (h : DpAll K H vs ds) : DpAll K H (cutV vs lo hi) (cutD ds lo hi) := by
  unfold cutV cutD
  rw [dpA_len h]
  exact dpA_take _ (dpA_drop _ h)
theorem evn_sl {tl th : L2.St → Hp → (Option Int → Hp → Prop) → Prop} {lo hi : Option Int} (h : Ev K te g (.list ds)) (hl : EvO K tl g lo) (hh : EvO K th g hi) : EvN K (tSl (rSlL K) te tl th) g (cutD ds lo hi) := fun H0 H σ ok Q q =>
  h H0 H σ ok _ fun v H1 s1 h1 => hl H0 H1 σ (ok.up s1) _ fun H2 s2 => hh H0 H2 σ (ok.up (s1.trans s2)) _ fun H3 s3 => by
    cases h1 with
    | lst hs ha => exact ⟨_, _, rfl, (s2.trans s3).seq hs, fun p hp => q p _ _ (s1.trans (s2.trans (s3.trans (same_new hp)))) ((s1.trans (s2.trans s3)).free hp) upd_same (dpA_up ((s2.trans s3).trans (same_new hp)) (dpA_cut ha))⟩
theorem ev_slT {tl th : L2.St → Hp → (Option Int → Hp → Prop) → Prop} {lo hi : Option Int} (h : Ev K te g (.tuple ds)) (hl : EvO K tl g lo) (hh : EvO K th g hi) (hn : ¬ (HT.sIx ds.length 0 lo = 0 ∧ HT.sIx ds.length ds.length hi = ds.length)) : Ev K (tSl (rSlT K) te tl th) g (.tuple (cutD ds lo hi)) := fun H0 H σ ok Q q =>
  h H0 H σ ok _ fun v H1 s1 h1 => hl H0 H1 σ (ok.up s1) _ fun H2 s2 => hh H0 H2 σ (ok.up (s1.trans s2)) _ fun H3 s3 => by
    cases h1 with
    | tup hs ha => exact ⟨_, _, rfl, same_tup (s2.trans s3) hs, by rw [dpA_len ha]; exact hn, fun p hp => q _ _ (s1.trans (s2.trans (s3.trans (same_new hp)))) (.tup (SqT.of upd_same) (dpA_up ((s2.trans s3).trans (same_new hp)) (dpA_cut ha)))⟩
/-- isinstance of a built-in class -/
def tyD : PyData → String
  | .none => "NoneType"
  | .bool _ => "bool"
  | .int _ => "int"
  | .str _ => "str"
  | .list _ => "list"
  | .tuple _ => "tuple"
  | .dict _ => "dict"
theorem ty_of {H : Hp} {v : V} (h : Dp K H v d) : TyX K H v (.type (tyD d)) := by
  cases h with
  | non => exact .base .non
  | bl b => exact .base (.bl b)
  | int i => exact .base (.int i)
  | str x => exact .base (.str x)
  | lst hs ha =>
    rcases hs with (e | ⟨o, e⟩) | ⟨o, its, n, e, c, _⟩
    · exact .base (.lst e)
    · exact .base (.frz e)
    · exact .kList e c
  | tup hs ha =>
    rcases hs with (e | ⟨o, e⟩) | ⟨o, its, n, e, c, _⟩
    · exact .base (.tup e)
    · exact .fTuple e
    · exact .kTuple e c
/-- isinstance(e, T), T a built-in class -/
theorem ev_isi {T : String} {b : Bool} (h : Ev K te g d) (hk : PySem.W.kitOne K (.type (tyD d)) (.type T) = some b) : Ev K (tCB (rIsi K) (tCons te (tCons (tC (.ty T)) tNil))) g (.bool b) := fun H0 H σ ok Q q =>
  h H0 H σ ok _ fun v H1 e1 h1 => ⟨v, .ty T, .type (tyD d), .type T, b, rfl, .ty T, ty_of h1, hk, q _ H1 e1 (.bl b)⟩
end
end Rg

set_option Elab.async false
set_option linter.all false
set_option maxRecDepth 100000
set_option maxHeartbeats 2000000
/-! What statements do, as data; loops; comprehensions; a def's promise. -/
namespace Rg
open PySem PySem.Spec PyProof.Rows L2

/-- what is wanted behind a statement, as data (rt: the answer, whether its address is new) -/
structure De where
  nx : List Sl → Prop
  rt : PyData → Bool → Prop
  bk : List Sl → Prop := fun _ => False
  ct : List Sl → Prop := fun _ => False
structure Fol (K : PySem.W.Frag) (H0 : Hp) (E : De) (D : Ends) : Prop where
  nx : ∀ σ H g, Ok K H0 H σ g → E.nx g → D.nx σ H
  rt : ∀ v H d fr, Same H0 H → Dp K H v d → (fr = true → New K H0 H v d) → E.rt d fr → D.rt v H
  bk : ∀ σ H g, Ok K H0 H σ g → E.bk g → D.bk σ H
  ct : ∀ σ H g, Ok K H0 H σ g → E.ct g → D.ct σ H
def Run (K : PySem.W.Frag) (ts : TS) (g : List Sl) (E : De) : Prop := ∀ (H0 H : Hp) (σ : L2.St) (D : Ends), Ok K H0 H σ g → Fol K H0 E D → ts D σ H
section
variable {K : PySem.W.Frag} {H0 H1 : Hp} {E : De} {D : Ends}
theorem Fol.base (f : Fol K H0 E D) (e : Same H0 H1) : Fol K H1 E D where
  nx := fun σ H g k => f.nx σ H g (k.base e)
  rt := fun v H d fr s h z => f.rt v H d fr (e.trans s) h fun q => (z q).base e
  bk := fun σ H g k => f.bk σ H g (k.base e)
  ct := fun σ H g k => f.ct σ H g (k.base e)
end

section
variable {K : PySem.W.Frag} {s : List Sl} {E : De} {ts us : TS} {te ta tb : TE} {tt : TT} {d : PyData} {ds es : List PyData}
theorem run_seq (h : Run K ts s { E with nx := fun s' => Run K us s' E }) : Run K (tSeq ts us) s E := fun H0 H σ D ok f =>
  h H0 H σ { D with nx := us D } ok ⟨fun σ' H' s' k q => q H0 H' σ' D k f, f.rt, f.bk, f.ct⟩
theorem run_next (h : E.nx s) : Run K tNext s E := fun H0 H σ D ok f => f.nx σ H s ok h
theorem run_brk (h : E.bk s) : Run K tBreak s E := fun H0 H σ D ok f => f.bk σ H s ok h
theorem run_cont (h : E.ct s) : Run K tCont s E := fun H0 H σ D ok f => f.ct σ H s ok h
theorem run_asg {i : Nat} (h : EvG K te s d) (q : E.nx (s.set i (.val d))) : Run K (tAsg te (gName i)) s E := fun H0 H σ D ok f => by
  obtain ⟨G, k⟩ := ok
  refine h H0 G H σ k _ fun v G2 H2 e1 e2 k2 hd => ?_
  exact f.nx _ H2 _ (k2.setV i hd).ok q
theorem run_asgN {i : Nat} (h : EvN K te s ds) (hl : lfA ds = true) (q : E.nx (s.set i (.own ds))) : Run K (tAsg te (gName i)) s E := fun H0 H σ D ok f => by
  obtain ⟨G, k⟩ := id ok
  refine h H0 H σ ok _ fun p xs H2 e1 n1 l1 hd => ?_
  refine f.nx _ H2 _ ((k.nl e1).setO (ds := ds) (xs := xs) i l1 ?_ (dpA_nl hl hd) ?_).ok q
  · rw [nl_lst l1]
    cases z : G p with
    | none => rfl
    | some o => rw [k.hi p o z] at n1; cases n1
  · exact k.fresh_ne n1
theorem run_drop (h : Ev K te s d) (q : E.nx s) : Run K (tDrop te) s E := fun H0 H σ D ok f => h H0 H σ ok _ fun v H2 e1 _ => f.nx σ H2 s (ok.up e1) q
theorem run_ret (h : Ev K te s d) (q : E.rt d false) : Run K (tRet te) s E := fun H0 H σ D ok f => h H0 H σ ok _ fun v H2 e1 hd => f.rt v H2 d false (ok.same.trans e1) hd (fun z => nomatch z) q
theorem run_retF (h : EvF K te s d) (q : E.rt d true) : Run K (tRet te) s E := fun H0 H σ D ok f => h H0 H σ ok _ fun v H2 e1 hd => f.rt _ H2 d true (ok.same.trans e1) hd.dp (fun _ => hd.base ok.same) q
/-- the list that is owned, handed back -/
theorem run_retO {i : Nat} (h : s[i]? = some (.own ds)) (q : E.rt (.list ds) true) : Run K (tRet (tVar i)) s E := fun H0 H σ D ok f => by
  obtain ⟨G, k⟩ := id ok
  obtain ⟨l, xs, h1, h2, h3, h4⟩ := k.own i ds h
  exact ⟨_, h1, f.rt _ H _ true ok.same (.lst (SqL.of h2) (dpA_up k.hi h4)) (fun _ => ⟨l, xs, ds, rfl, k.lo.free h3, h2, rfl, dpA_up k.hi h4⟩) q⟩
theorem run_if {b : Bool} (h : EvT K tt s b) (h1 : b = true → Run K ts s E) (h2 : b = false → Run K us s E) : Run K (tIfS tt ts us) s E := fun H0 H σ D ok f => h H0 H σ ok _ fun H2 e1 => by
  cases b with
  | true =>
    rw [if_pos rfl]
    exact h1 rfl H0 H2 σ D (ok.up e1) f
  | false =>
    rw [if_neg Bool.false_ne_true]
    exact h2 rfl H0 H2 σ D (ok.up e1) f
theorem ok_par {i j : Nat} {H0 H : Hp} {σ : L2.St} {v w : V} {d1 d2 : PyData} (k : Ok K H0 H σ s) (h1 : Dp K H v d1) (h2 : Dp K H w d2) (l1 : lf d1 = true) (l2 : lf d2 = true) : Ok K H0 H ((σ.set i (some v)).set j (some w)) ((s.set i (.val d1)).set j (.val d2)) := by
  obtain ⟨G, k⟩ := k
  exact (((k.nl (Same.refl H)).setV i (dp_nl l1 h1)).setV j (dp_nl l2 h2)).ok
theorem run_par {i j : Nat} {tr : TA} {d1 d2 : PyData} (h : EvA K tr s [d1, d2]) (l1 : lf d1 = true) (l2 : lf d2 = true) (q : E.nx ((s.set i (.val d1)).set j (.val d2))) : Run K (tPar i j tr) s E := fun H0 H σ D ok f =>
  h H0 H σ ok _ fun vs H2 e1 hd => by
    cases hd with
    | cons a t => cases t with
      | cons b t =>
        cases t
        exact ⟨_, _, rfl, f.nx _ H2 _ (ok_par (ok.up e1) a b l1 l2) q⟩
/-- xs[k] = e, xs owned -/
theorem run_setL {i : Nat} {k : Int} (h : Ev K te s d) (hl : lf d = true) (hi : s[i]? = some (.own ds)) (hk : Ev K tb s (.int k)) (h0 : 0 ≤ k) (hz : k.toNat < ds.length) (q : E.nx (s.set i (.own (ds.set k.toNat d)))) : Run K (tAsg te (gSub (tVar i) tb rSetL)) s E := fun H0 H σ D ok f => by
  refine h H0 H σ ok _ fun v H1 e1 hd => ?_
  obtain ⟨G, k1⟩ := ok.up e1
  obtain ⟨l, xs, a1, a2, a3, a4⟩ := k1.own i ds hi
  refine ⟨.ref l, a1, hk H0 H1 σ k1.ok _ fun w H2 e2 hw => ?_⟩
  cases hw
  have k2 := k1.nl e2
  have hlen := dpA_len a4
  refine ⟨l, xs, k, k.toNat, rfl, rfl, e2 _ _ a2, ?_, f.nx σ _ _ (k2.updO (ds' := ds.set k.toNat d) hi a1 (dpA_set _ (dpA_up (nl_lo (k1.hi.trans e2)) a4) (dp_nl hl (dp_up e2 hd)))).ok q⟩
  unfold ixN
  rw [if_pos h0, if_pos (by rw [hlen]; omega)]
/-- xs.append(e), xs owned -/
theorem run_app {i : Nat} (h : Ev K te s d) (hl : lf d = true) (hi : s[i]? = some (.own ds)) (hz : ds.length < 100000) (q : E.nx (s.set i (.own (ds ++ [d])))) : Run K (tDrop (tBM K "list" rAppend (tVar i) (tCons te tNil))) s E := fun H0 H σ D ok f => by
  obtain ⟨G, k1⟩ := id ok
  obtain ⟨l, xs, a1, a2, a3, a4⟩ := k1.own i ds hi
  refine ⟨.ref l, a1, .inl ⟨rfl, _, SqL.of a2⟩, h H0 H σ ok _ fun v H2 e2 hd => ?_⟩
  have k2 := k1.nl e2
  refine ⟨l, xs, v, rfl, rfl, e2 _ _ a2, ?_, f.nx σ _ _ (k2.updO (ds' := ds ++ [d]) hi a1 (dpA_app (dpA_up (nl_lo (k1.hi.trans e2)) a4) (dpA_one (dp_nl hl hd)))).ok q⟩
  rw [dpA_len a4]
  exact Nat.lt_of_lt_of_le hz (by decide)
theorem run_is {E' : De} (h : Run K ts s E') (hn : ∀ s, E'.nx s → E.nx s) (hr : ∀ d fr, E'.rt d fr → E.rt d fr) (hb : ∀ s, E'.bk s → E.bk s) (hc : ∀ s, E'.ct s → E.ct s) : Run K ts s E := fun H0 H σ D ok f =>
  h H0 H σ D ok ⟨fun σ H g k q => f.nx σ H g k (hn g q), fun v H d fr a b c q => f.rt v H d fr a b c (hr d fr q), fun σ H g k q => f.bk σ H g k (hb g q), fun σ H g k q => f.ct σ H g k (hc g q)⟩
end

/-! ### targets -/
def gNames : List Nat → TGs
  | [] => gNil
  | i :: is => gCons (gName i) (gNames is)
def setAll : List Sl → List Nat → List PyData → List Sl
  | s, i :: is, d :: ds => setAll (s.set i (.val d)) is ds
  | s, _, _ => s
/-- a thing apart goes to a target -/
def Tg (K : PySem.W.Frag) (t : TG) (d : PyData) (s s' : List Sl) (js : List Nat) : Prop := ∀ (H0 G H : Hp) (σ : L2.St) v, OkW K H0 G H σ s → Dp K G v d → ∀ Q : L2.St → Hp → Prop,
  (∀ σ', OkW K H0 G H σ' s' → (∀ i, i ∉ js → σ'[i]? = σ[i]?) → σ'.length = σ.length → Q σ' H) → t v σ H Q
section
variable {K : PySem.W.Frag} {s : List Sl} {d : PyData} {ds : List PyData}
theorem tg_name {j : Nat} : Tg K (gName j) d s (s.set j (.val d)) [j] := fun H0 G H σ v k hd Q q =>
  q _ (k.setV j hd) (fun i hi => set_else (fun e => hi (by simp [e]))) (List.length_set ..)
theorem tgs_all : ∀ {is : List Nat} {ds : List PyData} {s : List Sl} {H0 G H : Hp} {σ : L2.St} {vs : List V}, is.length = ds.length → OkW K H0 G H σ s → DpAll K G vs ds → ∀ Q : L2.St → Hp → Prop,
    (∀ σ', OkW K H0 G H σ' (setAll s is ds) → (∀ i, i ∉ is → σ'[i]? = σ[i]?) → σ'.length = σ.length → Q σ' H) → gNames is vs σ H Q
  | [], [], s, H0, G, H, σ, _, _, k, .nil, Q, q => ⟨rfl, q σ k (fun _ _ => rfl) rfl⟩
  | i :: is, d :: ds, s, H0, G, H, σ, _, e, k, .cons h t, Q, q => ⟨_, _, rfl, tgs_all (is := is) (ds := ds) (by simpa using e) (k.setV i h) t Q fun σ' k' h1 h2 =>
      q σ' k' (fun j hj => by
        rw [h1 j (fun z => hj (List.mem_cons_of_mem _ z))]
        exact set_else (fun z => hj (by simp [z]))) (h2.trans (List.length_set ..))⟩
theorem tg_tup {is : List Nat} {n : Nat} (hl : is.length = ds.length) (hn : ds.length = n) : Tg K (gTup K n (gNames is)) (.tuple ds) s (setAll s is ds) is := fun H0 G H σ v k hd Q q => by
  cases hd with
  | tup hs ha => exact ⟨_, _, rfl, same_tup k.hi hs, by rw [dpA_len ha]; exact hn, tgs_all hl k ha Q q⟩
theorem run_unpack {te : TE} {E : De} {t : TG} {s' : List Sl} {js : List Nat} (h : EvG K te s d) (ht : Tg K t d s s' js) (q : E.nx s') : Run K (tAsg te t) s E := fun H0 H σ D ok f => by
  obtain ⟨G, k⟩ := ok
  refine h H0 G H σ k _ fun v G2 H2 e1 e2 k2 hd => ?_
  exact ht H0 G2 H2 σ v k2 hd _ fun σ' k3 _ _ => f.nx σ' H2 s' k3.ok q
end

/-! ### what is walked -/
structure Walks (K : PySem.W.Frag) (J : It) (G : Hp) (ds : List PyData) : Prop where
  go : ∀ (i : Nat) H, Same G H → i < ds.length → J.go i H
  stop : ∀ (i : Nat) H, Same G H → ds.length ≤ i → J.stop i H
  yld : ∀ (i : Nat) H x H', Same G H → i < ds.length → J.yld i H x H' → ∃ d, ds[i]? = some d ∧ ((H' = H ∧ Dp K G x d) ∨ ∃ T xs es, x = .ref T ∧ H T = none ∧ H' = upd H T (.tup xs) ∧ d = .tuple es ∧ DpAll K G xs es)
def Src (K : PySem.W.Frag) (wi : TI) (s : List Sl) (ds : List PyData) : Prop := ∀ (H0 G H : Hp) (σ : L2.St), OkW K H0 G H σ s → ∀ R : It → Hp → Prop,
  (∀ J G1 H1, Same H H1 → Same G G1 → OkW K H0 G1 H1 σ s → Walks K J G1 ds → R J H1) → wi σ H R
section
variable {K : PySem.W.Frag} {s : List Sl} {te : TE} {d : PyData} {ds es : List PyData}
theorem sq_inj {H : Hp} {a : Addr} {xs : List V} {v : V} {i : Nat} (h : SqL K H a xs) (q : ∀ ys, SqL K H a ys → ys[i]? = some v) : xs[i]? = some v := q xs h
theorem src_list (h : EvG K te s (.list ds)) : Src K (iList K te) s ds := fun H0 G H σ k R q => h H0 G H σ k _ fun v G2 H2 e1 e2 k2 hd => by
  cases hd with
  | lst hs ha =>
    rename_i a xs
    have hl := dpA_len ha
    refine ⟨a, rfl, ⟨xs, k2.hi.seq hs⟩, q _ G2 H2 e1 e2 k2 ⟨fun i H e hi => ?_, fun i H e hi => ?_, fun i H x H' e hi y => ?_⟩⟩
    · exact ⟨xs, xs[i]'(by omega), e.seq hs, List.getElem?_eq_getElem (by omega)⟩
    · exact ⟨xs, e.seq hs, by omega⟩
    · obtain ⟨y1, y2⟩ := y
      obtain ⟨d, h1, h2⟩ := dpA_getV ha (y2 xs (e.seq hs))
      exact ⟨d, h1, .inl ⟨y1, h2⟩⟩
theorem src_tup (h : EvG K te s (.tuple ds)) : Src K (iTup K te) s ds := fun H0 G H σ k R q => h H0 G H σ k _ fun v G2 H2 e1 e2 k2 hd => by
  cases hd with
  | tup hs ha =>
    rename_i a xs
    have hl := dpA_len ha
    refine ⟨a, rfl, ⟨xs, same_tup k2.hi hs⟩, q _ G2 H2 e1 e2 k2 ⟨fun i H e hi => ?_, fun i H e hi => ?_, fun i H x H' e hi y => ?_⟩⟩
    · exact ⟨xs, xs[i]'(by omega), same_tup e hs, List.getElem?_eq_getElem (by omega)⟩
    · exact ⟨xs, same_tup e hs, by omega⟩
    · obtain ⟨y1, y2⟩ := y
      obtain ⟨d, h1, h2⟩ := dpA_getV ha (y2 xs (same_tup e hs))
      exact ⟨d, h1, .inl ⟨y1, h2⟩⟩
/-- lo, lo + 1, .. -/
def rngD (lo : Int) (n : Nat) : List PyData := (List.range n).map fun i => .int (lo + (i : Nat))
theorem rngD_get {lo : Int} {n i : Nat} (h : i < n) : (rngD lo n)[i]? = some (.int (lo + (i : Nat))) := by
  unfold rngD
  rw [List.getElem?_map, List.getElem?_range h]
  rfl
theorem rngD_len {lo : Int} {n : Nat} : (rngD lo n).length = n := by unfold rngD; rw [List.length_map, List.length_range]
theorem walks_range {lo : Int} {n : Nat} {G : Hp} : Walks K (Itr lo n) G (rngD lo n) := by
  refine ⟨fun i H e hi => by rw [rngD_len] at hi; exact hi, fun i H e hi => by rw [rngD_len] at hi; exact hi, fun i H x H' e hi y => ?_⟩
  rw [rngD_len] at hi
  obtain ⟨y1, y2⟩ := y
  subst y2
  exact ⟨_, rngD_get hi, .inl ⟨y1, .int _⟩⟩
theorem src_rng1 {tr : TA} {n : Int} (h : EvA K tr s [.int n]) (h0 : n ≤ 100000) (h1 : -100000 ≤ n) : Src K (iRng1 tr) s (rngD 0 n.toNat) := fun H0 G H σ k R q => h H0 H σ k.ok _ fun vs H2 e1 hd => by
  cases hd with
  | cons a t =>
    cases t
    cases a
    exact ⟨n, rfl, by omega, by omega, q _ _ H2 e1 (nl_lo (k.hi.trans e1)) (k.nl e1) walks_range⟩
theorem src_rng2 {tr : TA} {m n : Int} (h : EvA K tr s [.int m, .int n]) (h0 : m ≤ 100000) (h1 : -100000 ≤ m) (h2 : n ≤ 100000) (h3 : -100000 ≤ n) : Src K (iRng2 tr) s (rngD m (n - m).toNat) := fun H0 G H σ k R q => h H0 H σ k.ok _ fun vs H2 e1 hd => by
  cases hd with
  | cons a t => cases t with
    | cons b t =>
      cases t
      cases a
      cases b
      exact ⟨m, n, rfl, ⟨by omega, by omega, by omega, by omega⟩, q _ _ H2 e1 (nl_lo (k.hi.trans e1)) (k.nl e1) walks_range⟩
def enuD (ds : List PyData) : List PyData := ds.mapIdx fun i d => .tuple [.int (i : Nat), d]
theorem src_enum (h : EvG K te s (.list ds)) : Src K (iEnum K (tCons te tNil)) s (enuD ds) := fun H0 G H σ k R q => h H0 G H σ k _ fun v G2 H2 e1 e2 k2 hd => by
  cases hd with
  | lst hs ha =>
    rename_i a xs
    have hl := dpA_len ha
    have hl2 : (enuD ds).length = ds.length := by simp [enuD]
    refine ⟨a, xs, rfl, k2.hi.seq hs, q _ G2 H2 e1 e2 k2 ⟨fun i H e hi => ?_, fun i H e hi => ?_, fun i H x H' e hi y => ?_⟩⟩
    · exact ⟨xs, xs[i]'(by omega), e.seq hs, List.getElem?_eq_getElem (by omega)⟩
    · exact ⟨xs, e.seq hs, by omega⟩
    · obtain ⟨T, z, y1, y2, y3, y4⟩ := y
      obtain ⟨d, h1, h2⟩ := dpA_getV ha (y4 xs (e.seq hs))
      exact ⟨.tuple [.int (i : Nat), d], by simp [enuD, h1], .inr ⟨T, _, _, y1, y2, y3, rfl, .cons (.int _) (.cons h2 .nil)⟩⟩
def zipD (ds es : List PyData) : List PyData := (ds.zip es).map fun p => .tuple [p.1, p.2]
theorem src_zip {tf : TE} (h : EvG K te s (.list ds)) (h' : EvG K tf s (.list es)) (hl : ds.length = es.length) : Src K (iZip K (tCons te (tCons tf tNil))) s (zipD ds es) := fun H0 G H σ k R q =>
  h H0 G H σ k _ fun v G1 H1 e1 f1 k1 hd => h' H0 G1 H1 σ k1 _ fun v2 G2 H2 e2 f2 k2 hd2 => by
    have hd := dp_up f2 hd
    cases hd with
    | lst hs ha => cases hd2 with
      | lst hs2 ha2 =>
        rename_i a xs b ys
        have l1 := dpA_len ha
        have l2 := dpA_len ha2
        have l3 : (zipD ds es).length = ds.length := by simp [zipD, hl]
        refine ⟨a, b, xs, ys, rfl, k2.hi.seq hs, k2.hi.seq hs2, q _ G2 H2 (e1.trans e2) (f1.trans f2) k2 ⟨fun i H e hi => ?_, fun i H e hi => ?_, fun i H x H' e hi y => ?_⟩⟩
        · exact ⟨xs, ys, xs[i]'(by omega), ys[i]'(by omega), e.seq hs, e.seq hs2, List.getElem?_eq_getElem (by omega), List.getElem?_eq_getElem (by omega)⟩
        · exact ⟨xs, ys, e.seq hs, e.seq hs2, .inl (by omega)⟩
        · obtain ⟨T, z, z2, y1, y2, y3, y4, y5⟩ := y
          obtain ⟨d, h1, h2⟩ := dpA_getV ha (y4 xs (e.seq hs))
          obtain ⟨d2, h3, h4⟩ := dpA_getV ha2 (y5 ys (e.seq hs2))
          refine ⟨.tuple [d, d2], ?_, .inr ⟨T, _, _, y1, y2, y3, rfl, .cons h2 (.cons h4 .nil)⟩⟩
          unfold zipD
          have e3 : (ds.zip es)[i]? = some (d, d2) := List.getElem?_zip_eq_some.mpr ⟨h1, h3⟩
          rw [List.getElem?_map, e3]
          rfl
end

/-! ### for -/
section
variable {K : PySem.W.Frag} {s : List Sl} {E : De} {tb : TS} {wi : TI} {t : TG} {ds : List PyData}
/-- an item, as a thing apart -/
theorem yield_ok {H0 G H H' : Hp} {σ : L2.St} {x : V} {d : PyData} (k : OkW K H0 G H σ s) (h : (H' = H ∧ Dp K G x d) ∨ ∃ T xs es, x = .ref T ∧ H T = none ∧ H' = upd H T (.tup xs) ∧ d = .tuple es ∧ DpAll K G xs es) :
    ∃ G', Same G G' ∧ Same H H' ∧ OkW K H0 G' H' σ s ∧ Dp K G' x d ∧ ∀ l ys, H l = some (.lst ys) → G l = none → G' l = none := by
  rcases h with ⟨rfl, h⟩ | ⟨T, xs, es, rfl, hT, rfl, rfl, h⟩
  · exact ⟨G, Same.refl G, Same.refl _, k, h, fun _ _ _ z => z⟩
  · have hG : G T = none := k.hi.free hT
    refine ⟨upd G T (.tup xs), same_new hG, same_new hT, k.grow (same_new hG) (fun b o e => ?_) (same_new hT) (fun l ys h1 h2 => ?_), .tup (SqT.of upd_same) (dpA_up (same_new hG) h), fun l ys h1 h2 => ?_⟩
    · by_cases hb : b = T
      · subst hb
        rw [upd_same] at e ⊢
        exact e
      · rw [upd_ne hb] at e ⊢
        exact k.hi b o e
    · rw [upd_ne (ne_of_none h1 hT)]
      exact h2
    · rw [upd_ne (ne_of_none h1 hT)]
      exact h2
theorem run_for (hs : Src K wi s ds) (I : Nat → List Sl → Prop) (h0 : I 0 s)
    (turn : ∀ (i : Nat) d s', ds[i]? = some d → I i s' → ∃ s2 js, Tg K t d s' s2 js ∧ Run K tb s2 { E with nx := I (i + 1), ct := I (i + 1), bk := E.nx }) (done : ∀ s', I ds.length s' → E.nx s') : Run K (tFor wi t tb) s E := by
  intro H0 H σ D ok f
  obtain ⟨G, k⟩ := ok
  refine hs H0 G H σ k _ fun J G1 H1 e1 f1 k1 w => ?_
  have fb : Fol K G1 E D := f.base k1.lo
  refine ⟨fun i m σ' H' => m = ds.length - i ∧ i ≤ ds.length ∧ ∃ s', Ok K G1 H' σ' s' ∧ I i s', ⟨_, rfl, Nat.zero_le _, s, k1.rebase.ok, h0⟩, ?_⟩
  rintro i m σ' H' ⟨rfl, hi, s', ok', hI⟩
  by_cases hlt : i < ds.length
  · refine .inr ⟨w.go i H' ok'.same hlt, fun σ2 H2 => ∃ s2, Ok K G1 H2 σ2 s2 ∧ I (i + 1) s2, fun σ2 H2 h2 => ⟨ds.length - (i + 1), by omega, rfl, hlt, h2⟩, fun x H2 y => ?_⟩
    obtain ⟨d, hd, hy⟩ := w.yld i H' x H2 ok'.same hlt y
    obtain ⟨s2, js, ht, hr⟩ := turn i d s' hd hI
    obtain ⟨G', k'⟩ := ok'
    have hy' : (H2 = H' ∧ Dp K G' x d) ∨ ∃ T xs es, x = .ref T ∧ H' T = none ∧ H2 = upd H' T (.tup xs) ∧ d = .tuple es ∧ DpAll K G' xs es := by
      rcases hy with ⟨a, b⟩ | ⟨T, xs, es, a, b, c, e, h⟩
      · exact .inl ⟨a, dp_up k'.lo b⟩
      · exact .inr ⟨T, xs, es, a, b, c, e, dpA_up k'.lo h⟩
    obtain ⟨G2, e2, e3, k2, hx, _⟩ := yield_ok k' hy'
    refine ht G1 G2 H2 σ' x k2 hx _ fun σ3 k3 _ _ => ?_
    refine hr G1 H2 σ3 _ k3.ok ⟨fun σ4 H4 s4 k4 q => ⟨s4, k4, q⟩, fb.rt, fun σ4 H4 s4 k4 q => fb.nx σ4 H4 s4 k4 q, fun σ4 H4 s4 k4 q => ⟨s4, k4, q⟩⟩
  · have e : i = ds.length := by omega
    subst e
    exact .inl ⟨w.stop _ H' ok'.same (Nat.le_refl _), fb.nx σ' H' s' ok' (done s' hI)⟩
theorem run_while {tt : TT} (I : Nat → List Sl → Prop) (m0 : Nat) (h0 : I m0 s)
    (hs : ∀ m s', I m s' → ∃ b, EvT K tt s' b ∧ (b = true → Run K tb s' { E with nx := fun s2 => ∃ m', m' < m ∧ I m' s2, ct := fun s2 => ∃ m', m' < m ∧ I m' s2, bk := E.nx }) ∧ (b = false → E.nx s')) : Run K (tWhile tt tb) s E := by
  intro H0 H σ D ok f
  refine ⟨fun m σ' H' => ∃ s', Ok K H0 H' σ' s' ∧ I m s', ⟨m0, s, ok, h0⟩, ?_⟩
  rintro m σ' H' ⟨s', ok', hI⟩
  obtain ⟨b, hb, h1, h2⟩ := hs m s' hI
  refine hb H0 H' σ' ok' _ fun H2 e2 => ?_
  cases b with
  | true =>
    rw [if_pos rfl]
    refine ⟨fun σ3 H3 => ∃ m', m' < m ∧ ∃ s3, Ok K H0 H3 σ3 s3 ∧ I m' s3, fun σ3 H3 h => h, h1 rfl H0 H2 σ' _ (ok'.up e2) ⟨fun σ4 H4 s4 k4 ⟨m', a, b⟩ => ⟨m', a, s4, k4, b⟩, f.rt, f.nx, fun σ4 H4 s4 k4 ⟨m', a, b⟩ => ⟨m', a, s4, k4, b⟩⟩⟩
  | false =>
    rw [if_neg Bool.false_ne_true]
    exact f.nx σ' H2 s' (ok'.up e2) (h2 rfl)
end

/-! ### comprehensions -/
def wipeG (s : List Sl) : List Nat → List Sl
  | [] => s
  | v :: vs => (wipeG s vs).set v .no
theorem wipe_get : ∀ {σ : L2.St} {vs : List Nat} {i : Nat}, (wipe σ vs)[i]? = if i ∈ vs then (if i < σ.length then some none else none) else σ[i]?
  | σ, [], i => by simp [wipe]
  | σ, v :: vs, i => by
    show ((wipe σ vs).set v none)[i]? = _
    rw [List.getElem?_set]
    by_cases h : v = i
    · subst h
      rw [if_pos rfl, wipe_length]
      simp
    · rw [if_neg h, wipe_get]
      have : i ∈ v :: vs ↔ i ∈ vs := by simp [Ne.symm h]
      by_cases h2 : i ∈ vs
      · rw [if_pos h2, if_pos (this.mpr h2)]
      · rw [if_neg h2, if_neg (fun z => h2 (this.mp z))]
theorem wipeG_get : ∀ {s : List Sl} {vs : List Nat} {i : Nat}, (wipeG s vs)[i]? = if i ∈ vs then (if i < s.length then some .no else none) else s[i]?
  | s, [], i => by simp [wipeG]
  | s, v :: vs, i => by
    show ((wipeG s vs).set v .no)[i]? = _
    have hl : ∀ (vs : List Nat), (wipeG s vs).length = s.length := fun vs => by
      induction vs with
      | nil => rfl
      | cons v vs ih => show ((wipeG s vs).set v .no).length = _; rw [List.length_set]; exact ih
    rw [List.getElem?_set]
    by_cases h : v = i
    · subst h
      rw [if_pos rfl, hl]
      simp
    · rw [if_neg h, wipeG_get]
      have : i ∈ v :: vs ↔ i ∈ vs := by simp [Ne.symm h]
      by_cases h2 : i ∈ vs
      · rw [if_pos h2, if_pos (this.mpr h2)]
      · rw [if_neg h2, if_neg (fun z => h2 (this.mp z))]
theorem wipeG_len {s : List Sl} : ∀ (vs : List Nat), (wipeG s vs).length = s.length := fun vs => by
  induction vs with
  | nil => rfl
  | cons v vs ih => show ((wipeG s vs).set v .no).length = _; rw [List.length_set]; exact ih
theorem wipe_eq {σ σ' : L2.St} {vs js : List Nat} (hj : ∀ j ∈ js, j ∈ vs) (h : ∀ i, i ∉ js → σ'[i]? = (wipe σ vs)[i]?) (hl : σ'.length = (wipe σ vs).length) : wipe σ' vs = wipe σ vs := by
  refine List.ext_getElem? fun i => ?_
  rw [wipe_get, wipe_get]
  by_cases hi : i ∈ vs
  · rw [if_pos hi, if_pos hi, hl, wipe_length]
  · rw [if_neg hi, if_neg hi, h i (fun z => hi (hj i z)), wipe_get, if_neg hi]
section
variable {K : PySem.W.Frag} {s : List Sl} {wi : TI} {t : TG} {tt : TT} {te : TE}
theorem OkW.wipe {H0 G H : Hp} {σ : L2.St} (k : OkW K H0 G H σ s) (vs : List Nat) : OkW K H0 G H (wipe σ vs) (wipeG s vs) where
  lo := k.lo
  hi := k.hi
  val := fun i d h => by
    rw [wipeG_get] at h
    by_cases hi : i ∈ vs
    · rw [if_pos hi] at h
      split at h <;> cases h
    · rw [if_neg hi] at h
      rw [wipe_get, if_neg hi]
      exact k.val i d h
  own := fun i d h => by
    rw [wipeG_get] at h
    by_cases hi : i ∈ vs
    · rw [if_pos hi] at h
      split at h <;> cases h
    · rw [if_neg hi] at h
      rw [wipe_get, if_neg hi]
      exact k.own i d h
  uni := fun i j ds es l h1 h2 h3 h4 => by
    rw [wipeG_get] at h1 h2
    rw [wipe_get] at h3 h4
    by_cases hi : i ∈ vs
    · rw [if_pos hi] at h1
      split at h1 <;> cases h1
    · by_cases hj : j ∈ vs
      · rw [if_pos hj] at h2
        split at h2 <;> cases h2
      · rw [if_neg hi] at h1 h3
        rw [if_neg hj] at h2 h4
        exact k.uni i j ds es l h1 h2 h3 h4
  len := by rw [wipe_length, wipeG_len]; exact k.len
/-- a tuple that stands in H by itself -/
def Trk (K : PySem.W.Frag) (H : Hp) (v : V) (d : PyData) : Prop := ∃ t xs es, v = .ref t ∧ H t = some (.tup xs) ∧ d = .tuple es ∧ DpAll K H xs es
theorem Trk.up {K : PySem.W.Frag} {H H' : Hp} {v : V} {d : PyData} (e : Same H H') (h : Trk K H v d) : Trk K H' v d := let ⟨t, xs, es, a, b, c, f⟩ := h; ⟨t, xs, es, a, e _ _ b, c, dpA_up e f⟩
def TrkA (K : PySem.W.Frag) (H : Hp) (vs : List V) (ds : List PyData) : Prop := ∀ (i : Nat) v d, vs[i]? = some v → ds[i]? = some d → Trk K H v d
theorem TrkA.up {K : PySem.W.Frag} {H H' : Hp} {vs : List V} {ds : List PyData} (e : Same H H') (h : TrkA K H vs ds) : TrkA K H' vs ds := fun i v d a b => (h i v d a b).up e
theorem TrkA.more {K : PySem.W.Frag} {H : Hp} {vs : List V} {ds : List PyData} {v : V} {d : PyData} (h : TrkA K H vs ds) (hl : vs.length = ds.length) (hv : Trk K H v d) : TrkA K H (vs ++ [v]) (ds ++ [d]) := fun i x y a b => by
  by_cases hi : i < vs.length
  · rw [List.getElem?_append_left hi] at a
    rw [List.getElem?_append_left (by omega)] at b
    exact h i x y a b
  · rw [List.getElem?_append_right (by omega)] at a b
    rw [hl] at a
    cases z : i - ds.length with
    | zero =>
      rw [z] at a b
      cases a
      cases b
      exact hv
    | succ m =>
      rw [z] at a
      simp at a
def EvP (K : PySem.W.Frag) (tr : Bool) (te : TE) (g : List Sl) (d : PyData) : Prop := ∀ (H0 H : Hp) (σ : L2.St), Ok K H0 H σ g → ∀ Q : VK, (∀ v H2, Same H H2 → Dp K H2 v d → (tr = true → Trk K H2 v d) → Q v H2) → te σ H Q
theorem evn_lcT {α : Type} {tr : Bool} {vs : List Nat} {ds : List PyData} (l : List α) (enc : α → PyData) (p : α → Bool) (f : α → PyData) (hs : Src K wi s ds) (hd : ds = l.map enc) (hz : l.length ≤ 100000)
    (turn : ∀ x, x ∈ l → ∃ s2 js, Tg K t (enc x) (wipeG s vs) s2 js ∧ (∀ j ∈ js, j ∈ vs) ∧ EvT K tt s2 (p x) ∧ (p x = true → EvP K tr te s2 (f x) ∧ lf (f x) = true)) :
    ∀ (H0 H : Hp) (σ : L2.St), Ok K H0 H σ s → ∀ Q : VK, (∀ p' xs H2, Same H H2 → H p' = none → H2 p' = some (.lst xs) → DpAll K H2 xs ((l.filter p).map f) → (tr = true → TrkA K H2 xs ((l.filter p).map f)) → Q (.ref p') H2) → tLc wi t tt te vs σ H Q := by
  subst hd
  intro H0 H σ ok Q q
  obtain ⟨G, k⟩ := ok
  refine hs H0 G H σ k _ fun J G1 H1 e1 f1 k1 w D hD => ?_
  have hlen : (l.map enc).length = l.length := List.length_map ..
  -- behind i items: the heap H', its part G' without D
  refine ⟨fun i m H' => m = l.length - i ∧ i ≤ l.length ∧ ∃ G' acc, Same G1 G' ∧ Same G' H' ∧ Same H1 H' ∧ (∀ o ys, H1 o = some (.lst ys) → G1 o = none → G' o = none) ∧ G' D = none ∧ H' D = some (.lst acc) ∧ DpAll K G' acc (((l.take i).filter p).map f) ∧ (tr = true → TrkA K G' acc (((l.take i).filter p).map f)),
    ⟨l.length, by simp, Nat.zero_le _, G1, [], Same.refl _, k1.hi.trans (same_new hD), same_new hD, fun _ _ _ z => z, k1.hi.free hD, upd_same, .nil, fun _ i v d h => by simp at h⟩, ?_⟩
  rintro i m H' ⟨rfl, hi, G', acc, a1, a2, a3, a7, a4, a5, a6, a8⟩
  by_cases hlt : i < l.length
  · refine .inr ⟨w.go i H' (a1.trans a2) (by rw [hlen]; exact hlt), fun H2 => ∃ G' acc, Same G1 G' ∧ Same G' H2 ∧ Same H1 H2 ∧ (∀ o ys, H1 o = some (.lst ys) → G1 o = none → G' o = none) ∧ G' D = none ∧ H2 D = some (.lst acc) ∧ DpAll K G' acc (((l.take (i + 1)).filter p).map f) ∧ (tr = true → TrkA K G' acc (((l.take (i + 1)).filter p).map f)), fun H2 h => ⟨l.length - (i + 1), by omega, rfl, hlt, h⟩, fun x H2 y => ?_⟩
    obtain ⟨d, hd, hy⟩ := w.yld i H' x H2 (a1.trans a2) (by rw [hlen]; exact hlt) y
    have hx : l[i]? = some l[i] := List.getElem?_eq_getElem hlt
    rw [List.getElem?_map, hx] at hd
    have hd : enc l[i] = d := Option.some.inj hd
    subst hd
    obtain ⟨s2, js, t1, t2, t3, t4⟩ := turn l[i] (List.getElem_mem hlt)
    have kk : OkW K H0 G' H' (L2.wipe σ vs) (wipeG s vs) := by
      have k2 := k1.wipe vs
      refine ⟨k2.lo.trans a1, a2, fun i d h => ?_, fun i d h => ?_, k2.uni, k2.len⟩
      · obtain ⟨v, b1, b2⟩ := k2.val i d h
        exact ⟨v, b1, dp_up a1 b2⟩
      · obtain ⟨lo, xs, b1, b2, b3, b4⟩ := k2.own i d h
        exact ⟨lo, xs, b1, a3 _ _ b2, a7 lo xs b2 b3, dpA_up a1 b4⟩
    have hy' : (H2 = H' ∧ Dp K G' x (enc l[i])) ∨ ∃ T xs es, x = .ref T ∧ H' T = none ∧ H2 = upd H' T (.tup xs) ∧ enc l[i] = .tuple es ∧ DpAll K G' xs es := by
      rcases hy with ⟨a, b⟩ | ⟨T, xs, es, a, b, c, e, h⟩
      · exact .inl ⟨a, dp_up a1 b⟩
      · exact .inr ⟨T, xs, es, a, b, c, e, dpA_up a1 h⟩
    obtain ⟨G2, b1, b2, k2, hx2, b3⟩ := yield_ok kk hy'
    refine t1 H0 G2 H2 _ x k2 hx2 _ fun σ3 k3 c1 c2 => ?_
    refine ⟨wipe_eq t2 c1 c2, t3 H0 H2 σ3 k3.ok _ fun H3 e3 => ?_⟩
    have step : (l.take (i + 1)).filter p = (l.take i).filter p ++ [l[i]].filter p := by
      rw [← List.filter_append, List.take_add_one, hx]
      rfl
    have hD3 : H3 D = some (.lst acc) := e3 _ _ (b2 _ _ a5)
    have hG2 : ∀ o ys, H1 o = some (.lst ys) → G1 o = none → G2 o = none := fun o ys h1 h2 => b3 o ys (a3 _ _ h1) (a7 o ys h1 h2)
    cases hp : p l[i] with
    | true =>
      rw [if_pos rfl]
      obtain ⟨t5, t6⟩ := t4 hp
      refine t5 H0 H3 σ3 (k3.up e3).ok _ fun y H4 e4 hy4 hy5 => ?_
      have hD4 := e4 _ _ hD3
      have hs4 : Same G2 H4 := k2.hi.trans (e3.trans e4)
      have hn : nl G2 H4 D = none := by
        rw [nl_lst hD4]
        exact b3 _ _ a5 a4
      refine ⟨acc, hD4, ?_, nl G2 H4, acc ++ [y], (a1.trans b1).trans (nl_lo hs4), fun b o q => ?_, fun b o q => ?_, fun o ys h1 h2 => ?_, hn, upd_same, ?_, fun z => ?_⟩
      · rw [dpA_len a6, List.length_map]
        have := List.length_filter_le p (l.take i)
        rw [List.length_take] at this
        exact Nat.lt_of_lt_of_le (show _ < 100001 by omega) (by decide)
      · rw [upd_ne (ne_of_none q hn)]
        exact nl_hi hs4 b o q
      · rw [upd_ne (ne_of_none q hD)]
        exact e4 _ _ (e3 _ _ (b2 _ _ (a3 _ _ q)))
      · rw [nl_lst (e4 _ _ (e3 _ _ (b2 _ _ (a3 _ _ h1))))]
        exact hG2 o ys h1 h2
      · rw [step, List.filter_cons_of_pos hp, List.filter_nil, List.map_append]
        exact dpA_app (dpA_up (b1.trans (nl_lo hs4)) a6) (dpA_one (dp_nl t6 hy4))
      · rw [step, List.filter_cons_of_pos hp, List.filter_nil, List.map_append]
        refine ((a8 z).up (b1.trans (nl_lo hs4))).more (dpA_len a6) ?_
        obtain ⟨t, xs, es, q1, q2, q3, q4⟩ := hy5 z
        refine ⟨t, xs, es, q1, nl_tup q2, q3, dpA_nl ?_ q4⟩
        rw [q3] at t6
        simpa [lf] using t6
    | false =>
      rw [if_neg Bool.false_ne_true]
      refine ⟨G2, acc, a1.trans b1, k2.hi.trans e3, fun b o q => e3 _ _ (b2 _ _ (a3 _ _ q)), hG2, b3 _ _ a5 a4, hD3, ?_, fun z => ?_⟩
      · rw [step, List.filter_cons_of_neg (by rw [hp]; exact Bool.false_ne_true), List.filter_nil, List.append_nil]
        exact dpA_up b1 a6
      · rw [step, List.filter_cons_of_neg (by rw [hp]; exact Bool.false_ne_true), List.filter_nil, List.append_nil]
        exact (a8 z).up b1
  · have e : i = l.length := by omega
    subst e
    rw [List.take_length] at a6
    exact .inl ⟨w.stop _ H' (a1.trans a2) (by rw [hlen]; exact Nat.le_refl _), q D acc H' (e1.trans a3) (e1.free hD) a5 (dpA_up a2 a6) fun z => by have h := a8 z; rw [List.take_length] at h; exact h.up a2⟩
theorem evn_lc {α : Type} {vs : List Nat} {ds : List PyData} (l : List α) (enc : α → PyData) (p : α → Bool) (f : α → PyData) (hs : Src K wi s ds) (hd : ds = l.map enc) (hz : l.length ≤ 100000)
    (turn : ∀ x, x ∈ l → ∃ s2 js, Tg K t (enc x) (wipeG s vs) s2 js ∧ (∀ j ∈ js, j ∈ vs) ∧ EvT K tt s2 (p x) ∧ (p x = true → Ev K te s2 (f x) ∧ lf (f x) = true)) : EvN K (tLc wi t tt te vs) s ((l.filter p).map f) := fun H0 H σ ok Q q =>
  evn_lcT (tr := false) l enc p f hs hd hz (fun x hx => by
    obtain ⟨s2, js, h1, h2, h3, h4⟩ := turn x hx
    exact ⟨s2, js, h1, h2, h3, fun z => ⟨fun H0 H σ ok Q q => (h4 z).1 H0 H σ ok Q fun v H2 a b => q v H2 a b fun z => (nomatch z), (h4 z).2⟩⟩) H0 H σ ok Q fun p' xs H2 a b c d _ => q p' xs H2 a b c d
end

/-! ### a def's promise from its body -/
def startG (N : List Str) (ds : List PyData) : List Sl := ds.map .val ++ List.replicate (N.length - ds.length) .no
theorem ok_start {K : PySem.W.Frag} {N : List Str} {vs : List V} {ds : List PyData} {H : Hp} (h : DpAll K H vs ds) : Ok K H H (L2.start N vs) (startG N ds) := by
  have hl := dpA_len h
  refine ⟨H, Same.refl H, Same.refl H, fun i d e => ?_, fun i es e => ?_, fun i j es es2 l e => ?_, ?_⟩
  · unfold startG at e
    unfold L2.start
    by_cases hi : i < ds.length
    · rw [List.getElem?_append_left (by rw [List.length_map]; exact hi), List.getElem?_map] at e
      rw [List.getElem?_append_left (by rw [List.length_map, hl]; exact hi), List.getElem?_map]
      cases q : ds[i]? with
      | none => rw [q] at e; cases e
      | some d' =>
        rw [q] at e
        cases e
        obtain ⟨v, h1, h2⟩ := dpA_get h q
        exact ⟨v, by rw [h1]; rfl, h2⟩
    · rw [List.getElem?_append_right (by rw [List.length_map]; omega), List.getElem?_replicate] at e
      split at e <;> cases e
  · exfalso
    unfold startG at e
    by_cases hi : i < ds.length
    · rw [List.getElem?_append_left (by rw [List.length_map]; exact hi), List.getElem?_map] at e
      cases q : ds[i]? with
      | none => rw [q] at e; cases e
      | some d' => rw [q] at e; cases e
    · rw [List.getElem?_append_right (by rw [List.length_map]; omega), List.getElem?_replicate] at e
      split at e <;> cases e
  · exfalso
    unfold startG at e
    by_cases hi : i < ds.length
    · rw [List.getElem?_append_left (by rw [List.length_map]; exact hi), List.getElem?_map] at e
      cases q : ds[i]? with
      | none => rw [q] at e; cases e
      | some d' => rw [q] at e; cases e
    · rw [List.getElem?_append_right (by rw [List.length_map]; omega), List.getElem?_replicate] at e
      split at e <;> cases e
  · unfold L2.start startG
    rw [List.length_append, List.length_append, List.length_map, List.length_map, List.length_replicate, List.length_replicate, hl]
section
variable {P : Program} {w : World} {K : PySem.W.Frag} {mg : Str → Option Value} {base : Heap}
/-- a def as the top has left it -/
structure Df (K : PySem.W.Frag) (mg : Str → Option Value) (x : Str) (st : Stmt) (ps : List Str) (f : Addr) (fd : FuncData) : Prop where
  fn : Fun K x x st f fd
  gl : mg x = some (.ref f)
  bi : Binds K fd ps []
/-- a def that may be called -/
def Cal (P : Program) (w : World) (K : PySem.W.Frag) (mg : Str → Option Value) (base : Heap) (k : Nat) (x : Str) (ps : List Str) (sp : Sp) : Prop :=
  ∃ f fd, FnOk P w K mg base CX0 k f fd ps sp ∧ mg x = some (.ref f) ∧ PySem.W.keepIn K (.ref f) = true ∧ Binds K fd ps []
theorem Df.cal {x : Str} {st : Stmt} {ps N : List Str} {f : Addr} {fd : FuncData} {k : Nat} {fr : Bool} {R : List PyData → PyData → Prop} (F : Df K mg x st ps f fd) (S : FnScope N ps (defScope st)) (hl : ∀ ds d, R ds d → ds.length = ps.length)
    (hb : ∀ (cdv : Value) (A : Around) (outer : List Env) (s : Shared) (H : Hp) (E : XK), Room k (A.deeper (envOfC x (defScope st) s.heap.objs.size f cdv)) →
      ∃ t, PSs (cxOf CX0 P w K mg base N x (defScope st) f cdv A outer s H E).nox (defBody st) t ∧ ∀ ds d, R ds d → Run K t (startG N ds) { nx := fun _ => d = .none ∧ fr = false, rt := fun d' fr' => d' = d ∧ (fr = true → fr' = true) }) :
    Cal P w K mg base (k + 1) x ps (spD K fr R) := by
  refine ⟨f, fd, F.fn.ok S (fun vs H Q E h => ?_) (fun cdv A outer s H vs Q E hr h => ?_), F.gl, F.fn.kp, F.bi⟩
  · obtain ⟨ds, d, h1, h2, _⟩ := h
    rw [dpA_len h1]
    exact hl ds d h2
  · obtain ⟨ds, d, h1, h2, q⟩ := h
    obtain ⟨t, h3, h4⟩ := hb cdv A outer s H E hr
    refine ⟨t, h3, h4 ds d h2 H H _ _ (ok_start h1) ⟨fun σ H' g k e => ?_, fun v H' d' fr' e1 e2 e3 e4 => ?_, fun _ _ _ _ z => z.elim, fun _ _ _ _ z => z.elim⟩⟩
    · obtain ⟨rfl, rfl⟩ := e
      exact q _ H' k.same .non (fun z => nomatch z)
    · obtain ⟨rfl, e4⟩ := e4
      exact q v H' e1 e2 (fun z => e3 (e4 z))
end
section
variable {X : Cx}
/-- f(e, ..), f a def of the text -/
theorem pe_cal {k : Nat} {x : Str} {ps : List Str} {sp : Sp} {p pos : Pos} {e : Expr} {es : List Expr} {t : TA} (C : Cal X.prog X.w X.K X.mg X.base k x ps sp) (hr : Room k X.A) (hg : Gl X x)
    (ha : PA X (e :: es) t) (hdb : (x == ("__debug__" : Str)) = false := by decide) (he : starEach (e :: es) X.env = (false, eval e X.env) :: starEach es X.env := by rfl) (hpl : (backTo pos (starEach es X.env)).any (·.1) = false := by rfl) :
    PE X (.Call (.Name x p) (e :: es) [] pos) (tCall sp [] E0 t) := by
  obtain ⟨f, fd, F, hm, hk, hb⟩ := C
  exact pe_call F hr hg hm hk hb .nil pass0 ha hdb he hpl
end
end Rg

set_option Elab.async false
set_option linter.all false
set_option maxRecDepth 100000
set_option maxHeartbeats 4000000
/-! Fractions. -/
namespace Rg
open PySem PySem.Spec PyProof.Rows L2
def topS (i : Nat) : Stmt := PySem.Challenge.pw_ringloads_k91_whole_sendings_rounded.main.body.getD i (.Pass ⟨0, 0, 0, 0⟩)
/-- a module's constant -/
def GC (mg : Str → Option Value) (x : Str) (v : V) : Prop := ∃ u, mg x = some u ∧ RelV v u
theorem pe_gc {X : Cx} {x : Str} {v : V} {pos : Pos} (hg : Gl X x) (h : GC X.mg x v) (hd : (x == ("__debug__" : Str)) = false := by decide) : PE X (.Name x pos) (tC v) := by
  obtain ⟨u, h1, h2⟩ := h
  exact pe_glob hg h1 h2 hd
structure Txt (K : PySem.W.Frag) (mg : Str → Option Value) (aN aB : Addr) : Prop where
  hON : GC mg "ON" (.str "on")
  hBACK : GC mg "BACK" (.str "back")
  hNOUGHT : GC mg "NOUGHT" (.ref aN)
  hBOTH : GC mg "BOTH" (.ref aB)
  nN : ∀ H, SqT K H aN [.int 0, .int 1]
  nB : ∀ H, SqT K H aB [.str "on", .str "back"]
  b_len : mg "len" = none
  b_abs : mg "abs" = none
  b_min : mg "min" = none
  b_max : mg "max" = none
  b_range : mg "range" = none
  b_enumerate : mg "enumerate" = none
  b_zip : mg "zip" = none
  b_isinstance : mg "isinstance" = none
  b_int : mg "int" = none
  b_bool : mg "bool" = none
  b_str : mg "str" = none
  b_list : mg "list" = none
  b_tuple : mg "tuple" = none
  b_all : mg "all" = none
  b_sorted : mg "sorted" = none
  b_repr : mg "repr" = none
/-- a fraction -/
def dR (q : Rat) : PyData := .tuple [.int q.num, .int q.den]
theorem dp_nought {K : PySem.W.Frag} {mg : Str → Option Value} {aN aB : Addr} (T : Txt K mg aN aB) (H : Hp) : Dp K H (.ref aN) (dR 0) := .tup (T.nN H) (.cons (.int 0) (.cons (.int 1) .nil))
theorem lf_dR (q : Rat) : lf (dR q) = true := rfl
section
variable {P : Program} {w : World} {K : PySem.W.Frag} {mg : Str → Option Value} {base : Heap} {aN aB : Addr}

abbrev s_common : Stmt := topS 5
theorem sc_common : FnScope ["one", "other"] ["one", "other"] (defScope s_common) := ⟨rfl, rfl, rfl, by decide +kernel, rfl, by decide +kernel, by decide +kernel⟩
def R_common (ds : List PyData) (d : PyData) : Prop := ∃ (a b : Int), 0 ≤ b ∧ ds = [.int a, .int b] ∧ d = .int (Int.gcd a b)
abbrev sp_common (K : PySem.W.Frag) : Sp := spD K false R_common
theorem ok_common (T : Txt K mg aN aB) {f : Addr} {fd : FuncData} (F : Df K mg "common" s_common ["one", "other"] f fd) : Cal P w K mg base 1 "common" ["one", "other"] (sp_common K) := by
  refine F.cal (k := 0) sc_common (fun ds d h => by obtain ⟨a, b, h0, rfl, rfl⟩ := h <;> rfl) (fun cdv A outer s H E hr => ⟨_, (pss_cons (ps_while PassesOwn.never (pt_cmpR (op_neD hr.units) (pv 1) pe_int (nomark _)) (pss_one (ps_par (i := 0) (j := 1) (by rfl) sc_common.nd rfl rfl (by decide) rfl rfl (pa_cons (pv 1) (pa_cons (pe_op op_mod (pv 0) (pv 1)) pa_nil)) (by rfl))))
    (pss_one (ps_ret (pe_callB call_abs (by rfl) T.b_abs (by decide +kernel) (pa_cons (pv 0) pa_nil))))), fun ds d h => ?_⟩)
  obtain ⟨a, b, h0, rfl, rfl⟩ := h
  refine run_seq (run_while (fun m s => ∃ x y : Int, s = [.val (.int x), .val (.int y)] ∧ 0 ≤ y ∧ m = y.toNat ∧ Int.gcd x y = Int.gcd a b) b.toNat ⟨a, b, rfl, h0, rfl, rfl⟩ fun m s ⟨x, y, hs, h1, h2, h3⟩ => ?_)
  subst hs
  refine ⟨!PyData.eqv (.int y) (.int 0), et_test (ev_op (ev_var rfl) ev_int (rv_ne rfl rfl)), fun hb => ?_, fun hb => ?_⟩
  · have hy : y ≠ 0 := fun z => by subst z; exact absurd hb (by decide)
    refine run_par (ea_cons (ev_var rfl) (ea_cons (ev_op (ev_var rfl) (ev_var rfl) (rv_int (by omega))) ea_nil)) rfl rfl ?_
    refine ⟨(x % y).toNat, ?_, y, x % y, rfl, Int.emod_nonneg _ hy, rfl, (gcd_step x y).trans h3⟩
    have := Int.emod_lt_of_pos x (show 0 < y by omega)
    have := Int.emod_nonneg x hy
    omega
  · have hy : y = 0 := by
      have : (y == 0) = true := by simpa [PyData.eqv] using hb
      exact eq_of_beq this
    subst hy
    refine run_ret (ev_cb (ea_cons (ev_var rfl) ea_nil) rc_abs) ⟨?_, fun z => nomatch z⟩
    have e : Int.gcd x 0 = x.natAbs := Int.gcd_zero_right x
    rw [← h3, e]
    congr 1
    split <;> omega

abbrev s_lowered : Stmt := topS 9
theorem sc_lowered : FnScope ["top", "bottom", "share"] ["top", "bottom"] (defScope s_lowered) := ⟨rfl, rfl, rfl, by decide +kernel, rfl, by decide +kernel, by decide +kernel⟩
def R_lowered (ds : List PyData) (d : PyData) : Prop := ∃ (t : Int) (b : Nat), 0 < b ∧ b < 2 ^ 200 ∧ ds = [.int t, .int b] ∧ d = dR (mkRat t b)
abbrev sp_lowered (K : PySem.W.Frag) : Sp := spD K false R_lowered
theorem ok_lowered (T : Txt K mg aN aB) {f : Addr} {fd : FuncData} (F : Df K mg "lowered" s_lowered ["top", "bottom"] f fd) (c_common : Cal P w K mg base 1 "common" ["one", "other"] (sp_common K)) : Cal P w K mg base 2 "lowered" ["top", "bottom"] (sp_lowered K) := by
  refine F.cal (k := 1) sc_lowered (fun ds d h => by obtain ⟨t, b, h0, h1, rfl, rfl⟩ := h <;> rfl) (fun cdv A outer s H E hr => ⟨_, (pss_cons (ps_set (i := 2) sc_lowered.nd rfl (Or.inl rfl) (pe_cal c_common (hr.mono (by decide)) (by rfl) (pa_cons (pv 0) (pa_cons (pv 1) pa_nil))))
    (pss_cons (ps_if (pt_cmpR op_lt (pv 1) pe_int (nomark _)) (pss_one (ps_set (i := 2) sc_lowered.nd rfl (Or.inl rfl) (pe_op op_sub pe_int (pv 2)))) pss_nil)
    (pss_one (ps_ret (pe_tup (pa_cons (pe_op op_fdivW (pv 0) (pv 2)) (pa_cons (pe_op op_fdivW (pv 1) (pv 2)) pa_nil))))))), fun ds d h => ?_⟩)
  obtain ⟨t, b, h0, h1, rfl, rfl⟩ := h
  refine run_seq (run_asg ((ev_call (ea_cons (ev_var rfl) (ea_cons (ev_var rfl) ea_nil)) ⟨t, b, by omega, rfl, rfl⟩).flat rfl) ?_)
  refine run_seq (run_if (et_test (ev_op (ev_var rfl) ev_int rv_bool0)) (fun z => ?_) fun z => run_next ?_)
  · exact absurd z (by simp)
  · have hg := gcd_pos (t := t) h0
    have hg2 := gcd_le (t := t) h0
    have c : ∀ i : Int, CDivW i (Int.gcd t b : Int) := fun i => wide_div hg (b := 200) (by omega) (by decide) (by decide)
    refine run_ret (ev_tup (ea_cons (ev_op (ev_var rfl) (ev_var rfl) (rv_int (c _))) (ea_cons (ev_op (ev_var rfl) (ev_var rfl) (rv_int (c _))) ea_nil))) ⟨?_, fun z => nomatch z⟩
    unfold dR
    rw [mk_num t h0, mk_den t h0]

theorem cm_right {i : Int} {n : Nat} (h : n ≤ 2 ^ 30) : CMul i (n : Int) := .inr ⟨by omega, by omega⟩
theorem two_sm {m n : Nat} (h : m ≤ 2 ^ 30) (h2 : n ≤ 2 ^ 30) : m * n < 2 ^ 200 := Nat.lt_of_le_of_lt (Nat.mul_le_mul h h2) (by decide)
theorem k_ty (a b : String) (r : Bool) (h : kitB a b = some r := by decide +kernel) : PySem.W.kitOne K (.type a) (.type b) = some r := kit_ty h
/-- an item of a fraction -/
theorem ev_num {te : TE} {g : List Sl} {q : Rat} (h : Ev K te g (dR q)) : Ev K (tOp (rIx K) te (tC (.int 0))) g (.int q.num) := ev_ix h ev_int rfl
theorem ev_den {te : TE} {g : List Sl} {q : Rat} (h : Ev K te g (dR q)) : Ev K (tOp (rIx K) te (tC (.int 1))) g (.int q.den) := ev_ix h ev_int rfl
abbrev s_plus : Stmt := topS 10
theorem sc_plus : FnScope ["one", "other"] ["one", "other"] (defScope s_plus) := ⟨rfl, rfl, rfl, by decide +kernel, rfl, by decide +kernel, by decide +kernel⟩
def R_plus (ds : List PyData) (d : PyData) : Prop := ∃ a b : Rat, sm a ∧ sm b ∧ ds = [dR a, dR b] ∧ d = dR (a + b)
abbrev sp_plus (K : PySem.W.Frag) : Sp := spD K false R_plus
theorem ok_plus (T : Txt K mg aN aB) {f : Addr} {fd : FuncData} (F : Df K mg "plus" s_plus ["one", "other"] f fd) (c_lowered : Cal P w K mg base 2 "lowered" ["top", "bottom"] (sp_lowered K)) : Cal P w K mg base 3 "plus" ["one", "other"] (sp_plus K) := by
  refine F.cal (k := 2) sc_plus (fun ds d h => by obtain ⟨a, b, ha, hb, rfl, rfl⟩ := h <;> rfl) (fun cdv A outer s H E hr => ⟨_, (pss_one (ps_ret (pe_cal c_lowered (hr.mono (by decide)) (by rfl) (pa_cons (pe_op op_add (pe_op op_mul (pe_ix ix_seq (pv 0) pe_int (fun _ _ => rfl)) (pe_ix ix_seq (pv 1) pe_int (fun _ _ => rfl))) (pe_op op_mul (pe_ix ix_seq (pv 1) pe_int (fun _ _ => rfl)) (pe_ix ix_seq (pv 0) pe_int (fun _ _ => rfl)))) (pa_cons (pe_op op_mul (pe_ix ix_seq (pv 0) pe_int (fun _ _ => rfl)) (pe_ix ix_seq (pv 1) pe_int (fun _ _ => rfl))) pa_nil))))), fun ds d h => ?_⟩)
  obtain ⟨a, b, ha, hb, rfl, rfl⟩ := h
  refine run_ret (ev_call (ea_cons (ev_op (ev_op (ev_num (ev_var rfl)) (ev_den (ev_var rfl)) (rv_int (cm_right hb))) (ev_op (ev_num (ev_var rfl)) (ev_den (ev_var rfl)) (rv_int (cm_right ha))) rv_int0) (ea_cons (ev_op (ev_den (ev_var rfl)) (ev_den (ev_var rfl)) (rv_int (cm_right hb))) ea_nil))
    ⟨_, a.den * b.den, Nat.mul_pos a.den_pos b.den_pos, two_sm ha hb, by rw [Int.natCast_mul], rfl⟩) ⟨by rw [Rat.add_def'], fun z => nomatch z⟩
abbrev s_minus : Stmt := topS 11
theorem sc_minus : FnScope ["one", "other"] ["one", "other"] (defScope s_minus) := ⟨rfl, rfl, rfl, by decide +kernel, rfl, by decide +kernel, by decide +kernel⟩
def R_minus (ds : List PyData) (d : PyData) : Prop := ∃ a b : Rat, sm a ∧ sm b ∧ ds = [dR a, dR b] ∧ d = dR (a - b)
abbrev sp_minus (K : PySem.W.Frag) : Sp := spD K false R_minus
theorem ok_minus (T : Txt K mg aN aB) {f : Addr} {fd : FuncData} (F : Df K mg "minus" s_minus ["one", "other"] f fd) (c_lowered : Cal P w K mg base 2 "lowered" ["top", "bottom"] (sp_lowered K)) : Cal P w K mg base 3 "minus" ["one", "other"] (sp_minus K) := by
  refine F.cal (k := 2) sc_minus (fun ds d h => by obtain ⟨a, b, ha, hb, rfl, rfl⟩ := h <;> rfl) (fun cdv A outer s H E hr => ⟨_, (pss_one (ps_ret (pe_cal c_lowered (hr.mono (by decide)) (by rfl) (pa_cons (pe_op op_sub (pe_op op_mul (pe_ix ix_seq (pv 0) pe_int (fun _ _ => rfl)) (pe_ix ix_seq (pv 1) pe_int (fun _ _ => rfl))) (pe_op op_mul (pe_ix ix_seq (pv 1) pe_int (fun _ _ => rfl)) (pe_ix ix_seq (pv 0) pe_int (fun _ _ => rfl)))) (pa_cons (pe_op op_mul (pe_ix ix_seq (pv 0) pe_int (fun _ _ => rfl)) (pe_ix ix_seq (pv 1) pe_int (fun _ _ => rfl))) pa_nil))))), fun ds d h => ?_⟩)
  obtain ⟨a, b, ha, hb, rfl, rfl⟩ := h
  refine run_ret (ev_call (ea_cons (ev_op (ev_op (ev_num (ev_var rfl)) (ev_den (ev_var rfl)) (rv_int (cm_right hb))) (ev_op (ev_num (ev_var rfl)) (ev_den (ev_var rfl)) (rv_int (cm_right ha))) rv_int0) (ea_cons (ev_op (ev_den (ev_var rfl)) (ev_den (ev_var rfl)) (rv_int (cm_right hb))) ea_nil))
    ⟨_, a.den * b.den, Nat.mul_pos a.den_pos b.den_pos, two_sm ha hb, by rw [Int.natCast_mul], rfl⟩) ⟨by rw [Rat.sub_def'], fun z => nomatch z⟩
abbrev s_times : Stmt := topS 12
theorem sc_times : FnScope ["one", "other"] ["one", "other"] (defScope s_times) := ⟨rfl, rfl, rfl, by decide +kernel, rfl, by decide +kernel, by decide +kernel⟩
def R_times (ds : List PyData) (d : PyData) : Prop := ∃ a b : Rat, sm a ∧ sm b ∧ b.num.natAbs < 2 ^ 30 ∧ ds = [dR a, dR b] ∧ d = dR (a * b)
abbrev sp_times (K : PySem.W.Frag) : Sp := spD K false R_times
theorem ok_times (T : Txt K mg aN aB) {f : Addr} {fd : FuncData} (F : Df K mg "times" s_times ["one", "other"] f fd) (c_lowered : Cal P w K mg base 2 "lowered" ["top", "bottom"] (sp_lowered K)) : Cal P w K mg base 3 "times" ["one", "other"] (sp_times K) := by
  refine F.cal (k := 2) sc_times (fun ds d h => by obtain ⟨a, b, ha, hb, hn, rfl, rfl⟩ := h <;> rfl) (fun cdv A outer s H E hr => ⟨_, (pss_one (ps_ret (pe_cal c_lowered (hr.mono (by decide)) (by rfl) (pa_cons (pe_op op_mul (pe_ix ix_seq (pv 0) pe_int (fun _ _ => rfl)) (pe_ix ix_seq (pv 1) pe_int (fun _ _ => rfl))) (pa_cons (pe_op op_mul (pe_ix ix_seq (pv 0) pe_int (fun _ _ => rfl)) (pe_ix ix_seq (pv 1) pe_int (fun _ _ => rfl))) pa_nil))))), fun ds d h => ?_⟩)
  obtain ⟨a, b, ha, hb, hn, rfl, rfl⟩ := h
  refine run_ret (ev_call (ea_cons (ev_op (ev_num (ev_var rfl)) (ev_num (ev_var rfl)) (rv_int (.inr ⟨by omega, by omega⟩))) (ea_cons (ev_op (ev_den (ev_var rfl)) (ev_den (ev_var rfl)) (rv_int (cm_right hb))) ea_nil))
    ⟨_, a.den * b.den, Nat.mul_pos a.den_pos b.den_pos, two_sm ha hb, by rw [Int.natCast_mul], rfl⟩) ⟨by rw [Rat.mul_def'], fun z => nomatch z⟩
abbrev s_under : Stmt := topS 13
theorem sc_under : FnScope ["one", "other"] ["one", "other"] (defScope s_under) := ⟨rfl, rfl, rfl, by decide +kernel, rfl, by decide +kernel, by decide +kernel⟩
def R_under (ds : List PyData) (d : PyData) : Prop := ∃ a b : Rat, sm a ∧ sm b ∧ ds = [dR a, dR b] ∧ d = .bool (decide (a < b))
abbrev sp_under (K : PySem.W.Frag) : Sp := spD K false R_under
theorem ok_under (T : Txt K mg aN aB) {f : Addr} {fd : FuncData} (F : Df K mg "under" s_under ["one", "other"] f fd) : Cal P w K mg base 1 "under" ["one", "other"] (sp_under K) := by
  refine F.cal (k := 0) sc_under (fun ds d h => by obtain ⟨a, b, ha, hb, rfl, rfl⟩ := h <;> rfl) (fun cdv A outer s H E hr => ⟨_, (pss_one (ps_ret (pe_cmpR op_lt (pe_op op_mul (pe_ix ix_seq (pv 0) pe_int (fun _ _ => rfl)) (pe_ix ix_seq (pv 1) pe_int (fun _ _ => rfl))) (pe_op op_mul (pe_ix ix_seq (pv 1) pe_int (fun _ _ => rfl)) (pe_ix ix_seq (pv 0) pe_int (fun _ _ => rfl))) (nomark _)))), fun ds d h => ?_⟩)
  obtain ⟨a, b, ha, hb, rfl, rfl⟩ := h
  refine run_ret (ev_op (ev_op (ev_num (ev_var rfl)) (ev_den (ev_var rfl)) (rv_int (cm_right hb))) (ev_op (ev_num (ev_var rfl)) (ev_den (ev_var rfl)) (rv_int (cm_right ha))) rv_bool0) ⟨?_, fun z => nomatch z⟩
  congr 1
  exact decide_eq_decide.mpr (Rat.lt_iff a b).symm
abbrev s_greater : Stmt := topS 14
theorem sc_greater : FnScope ["one", "other"] ["one", "other"] (defScope s_greater) := ⟨rfl, rfl, rfl, by decide +kernel, rfl, by decide +kernel, by decide +kernel⟩
def R_greater (ds : List PyData) (d : PyData) : Prop := ∃ a b : Rat, sm a ∧ sm b ∧ ds = [dR a, dR b] ∧ d = dR (if a < b then b else a)
abbrev sp_greater (K : PySem.W.Frag) : Sp := spD K false R_greater
theorem ok_greater (T : Txt K mg aN aB) {f : Addr} {fd : FuncData} (F : Df K mg "greater" s_greater ["one", "other"] f fd) (c_under : Cal P w K mg base 1 "under" ["one", "other"] (sp_under K)) : Cal P w K mg base 2 "greater" ["one", "other"] (sp_greater K) := by
  refine F.cal (k := 1) sc_greater (fun ds d h => by obtain ⟨a, b, ha, hb, rfl, rfl⟩ := h <;> rfl) (fun cdv A outer s H E hr => ⟨_, (pss_one (ps_ret (pe_ifExp (pt_val (pe_cal c_under (hr.mono (by decide)) (by rfl) (pa_cons (pv 0) (pa_cons (pv 1) pa_nil)))) (pv 1) (pv 0)))), fun ds d h => ?_⟩)
  obtain ⟨a, b, ha, hb, rfl, rfl⟩ := h
  refine run_ret (ev_if (et_B (ev_call (ea_cons (ev_var rfl) (ea_cons (ev_var rfl) ea_nil)) ⟨a, b, ha, hb, rfl, rfl⟩)) (fun h => ?_) (fun h => ?_)) ⟨rfl, fun z => nomatch z⟩
  · rw [if_pos (of_decide_eq_true h)]
    exact ev_var rfl
  · rw [if_neg (of_decide_eq_false h)]
    exact ev_var rfl
abbrev s_lesser : Stmt := topS 15
theorem sc_lesser : FnScope ["one", "other"] ["one", "other"] (defScope s_lesser) := ⟨rfl, rfl, rfl, by decide +kernel, rfl, by decide +kernel, by decide +kernel⟩
def R_lesser (ds : List PyData) (d : PyData) : Prop := ∃ a b : Rat, sm a ∧ sm b ∧ ds = [dR a, dR b] ∧ d = dR (if b < a then b else a)
abbrev sp_lesser (K : PySem.W.Frag) : Sp := spD K false R_lesser
theorem ok_lesser (T : Txt K mg aN aB) {f : Addr} {fd : FuncData} (F : Df K mg "lesser" s_lesser ["one", "other"] f fd) (c_under : Cal P w K mg base 1 "under" ["one", "other"] (sp_under K)) : Cal P w K mg base 2 "lesser" ["one", "other"] (sp_lesser K) := by
  refine F.cal (k := 1) sc_lesser (fun ds d h => by obtain ⟨a, b, ha, hb, rfl, rfl⟩ := h <;> rfl) (fun cdv A outer s H E hr => ⟨_, (pss_one (ps_ret (pe_ifExp (pt_val (pe_cal c_under (hr.mono (by decide)) (by rfl) (pa_cons (pv 1) (pa_cons (pv 0) pa_nil)))) (pv 1) (pv 0)))), fun ds d h => ?_⟩)
  obtain ⟨a, b, ha, hb, rfl, rfl⟩ := h
  refine run_ret (ev_if (et_B (ev_call (ea_cons (ev_var rfl) (ea_cons (ev_var rfl) ea_nil)) ⟨b, a, hb, ha, rfl, rfl⟩)) (fun h => ?_) (fun h => ?_)) ⟨rfl, fun z => nomatch z⟩
  · rw [if_pos (of_decide_eq_true h)]
    exact ev_var rfl
  · rw [if_neg (of_decide_eq_false h)]
    exact ev_var rfl
abbrev s_is_whole : Stmt := topS 4
theorem sc_is_whole : FnScope ["thing"] ["thing"] (defScope s_is_whole) := ⟨rfl, rfl, rfl, by decide +kernel, rfl, by decide +kernel, by decide +kernel⟩
def R_is_whole (ds : List PyData) (d : PyData) : Prop := ∃ i : Int, ds = [.int i] ∧ d = .bool true
abbrev sp_is_whole (K : PySem.W.Frag) : Sp := spD K false R_is_whole
theorem ok_is_whole (T : Txt K mg aN aB) {f : Addr} {fd : FuncData} (F : Df K mg "is_whole" s_is_whole ["thing"] f fd) : Cal P w K mg base 1 "is_whole" ["thing"] (sp_is_whole K) := by
  refine F.cal (k := 0) sc_is_whole (fun ds d h => by obtain ⟨i, rfl, rfl⟩ := h <;> rfl) (fun cdv A outer s H E hr => ⟨_, (pss_one (ps_ret (pe_and (pe_callB call_isi (by rfl) T.b_isinstance (by decide +kernel) (pa_cons (pv 0) (pa_cons (pe_bltn (v := .ty "int") (by rfl) T.b_int (by decide +kernel) rfl) pa_nil))) (pe_one (pe_not (pe_callB call_isi (by rfl) T.b_isinstance (by decide +kernel) (pa_cons (pv 0) (pa_cons (pe_bltn (v := .ty "bool") (by rfl) T.b_bool (by decide +kernel) rfl) pa_nil)))))))), fun ds d h => ?_⟩)
  obtain ⟨i, rfl, rfl⟩ := h
  exact run_ret (ev_is (ev_andB (ev_isi (b := true) (ev_var rfl) (k_ty "int" "int" true)) fun _ => ev_notV (ev_isi (b := false) (ev_var rfl) (k_ty "int" "bool" false))) rfl) ⟨rfl, fun z => nomatch z⟩
abbrev s_is_ratio : Stmt := topS 6
theorem sc_is_ratio : FnScope ["thing"] ["thing"] (defScope s_is_ratio) := ⟨rfl, rfl, rfl, by decide +kernel, rfl, by decide +kernel, by decide +kernel⟩
def R_is_ratio (ds : List PyData) (d : PyData) : Prop := ∃ q : Rat, ds = [dR q] ∧ d = .bool true
abbrev sp_is_ratio (K : PySem.W.Frag) : Sp := spD K false R_is_ratio
theorem ok_is_ratio (T : Txt K mg aN aB) {f : Addr} {fd : FuncData} (F : Df K mg "is_ratio" s_is_ratio ["thing"] f fd) (c_is_whole : Cal P w K mg base 1 "is_whole" ["thing"] (sp_is_whole K)) (c_common : Cal P w K mg base 1 "common" ["one", "other"] (sp_common K)) : Cal P w K mg base 2 "is_ratio" ["thing"] (sp_is_ratio K) := by
  refine F.cal (k := 1) sc_is_ratio (fun ds d h => by obtain ⟨q, rfl, rfl⟩ := h <;> rfl) (fun cdv A outer s H E hr => ⟨_, (pss_cons (ps_if (PW.pt (pw_or (pt_not (pt_val (pe_callB call_isi (by rfl) T.b_isinstance (by decide +kernel) (pa_cons (pv 0) (pa_cons (pe_bltn (v := .ty "tuple") (by rfl) T.b_tuple (by decide +kernel) rfl) pa_nil))))) (pw_or1 (pt_cmpR (op_neD hr.units) (pe_callB call_len_seq (by rfl) T.b_len (by decide +kernel) (pa_cons (pv 0) pa_nil)) pe_int (nomark _))))) (pss_one (ps_ret pe_bl)) pss_nil)
    (pss_cons (ps_if (PW.pt (pw_or (pt_not (pt_val (pe_cal c_is_whole (hr.mono (by decide)) (by rfl) (pa_cons (pe_ix ix_seq (pv 0) pe_int (fun _ _ => rfl)) pa_nil)))) (pw_or1 (pt_not (pt_val (pe_cal c_is_whole (hr.mono (by decide)) (by rfl) (pa_cons (pe_ix ix_seq (pv 0) pe_int (fun _ _ => rfl)) pa_nil))))))) (pss_one (ps_ret pe_bl)) pss_nil)
    (pss_one (ps_ret (pe_and (pe_cmpR op_ge (pe_ix ix_seq (pv 0) pe_int (fun _ _ => rfl)) pe_int (nomark _)) (pe_one (pe_cmpR (op_eqD hr.units) (pe_cal c_common (hr.mono (by decide)) (by rfl) (pa_cons (pe_ix ix_seq (pv 0) pe_int (fun _ _ => rfl)) (pa_cons (pe_ix ix_seq (pv 0) pe_int (fun _ _ => rfl)) pa_nil))) pe_int (nomark _)))))))), fun ds d h => ?_⟩)
  obtain ⟨q, rfl, rfl⟩ := h
  refine run_seq (run_if (b := false) (evt_is (et_or (et_not (et_B (ev_isi (b := true) (ev_var rfl) (k_ty "tuple" "tuple" true)))) fun _ => et_test (ev_op (ev_cb (ea_cons (ev_var rfl) ea_nil) rc_lenT) ev_int (rv_ne rfl rfl))) rfl) (fun z => nomatch z) fun _ => run_next ?_)
  refine run_seq (run_if (b := false) (evt_is (et_or (et_not (et_B (ev_call (ea_cons (ev_num (ev_var rfl)) ea_nil) ⟨q.num, rfl, rfl⟩))) fun _ => et_not (et_B (ev_call (ea_cons (ev_den (ev_var rfl)) ea_nil) ⟨q.den, rfl, rfl⟩))) rfl) (fun z => nomatch z) fun _ => run_next ?_)
  refine run_ret (ev_is (ev_andB (a := true) (b := true) (ev_is (ev_op (ev_den (ev_var rfl)) ev_int rv_bool0) ?_) fun _ => ev_is (ev_op (ev_call (ea_cons (ev_num (ev_var rfl)) (ea_cons (ev_den (ev_var rfl)) ea_nil)) ⟨q.num, q.den, by omega, rfl, rfl⟩) ev_int (rv_eq rfl rfl)) ?_) rfl) ⟨rfl, fun z => nomatch z⟩
  · congr 1
    have := q.den_pos
    exact decide_eq_true (by omega)
  · congr 1
    have e : Int.gcd q.num q.den = 1 := by
      have := q.reduced
      simpa [Int.gcd, Nat.Coprime] using this
    rw [e]
    rfl
end
end Rg

set_option Elab.async false
set_option linter.all false
set_option maxRecDepth 100000
set_option maxHeartbeats 4000000
/-! Crossing, ties, loads. -/
namespace Rg
open PySem PySem.Spec PyProof.Rows L2
/-! ### data -/
def dA (a : Ask) : PyData := .tuple [.str ⟨a.nm⟩, .int a.one, .int a.other, dR a.size]
def dG (A : List Ask) : PyData := .tuple [.list (List.replicate 12 (dR 1)), .list (A.map dA)]
def dS (S : List Rat) : PyData := .list (S.map dR)
def wS (w : Bool) : Str := if w then "on" else "back"
def dW (w : Bool) : PyData := .str (wS w)
def dWs (W : List Bool) : PyData := .list (W.map dW)
def dN (n : Nat) : PyData := .int n
def dNs (l : List Nat) : PyData := .list (l.map dN)
theorem lf_dA (a : Ask) : lf (dA a) = true := rfl
theorem lfA_dR (S : List Rat) : lfA (S.map dR) = true := lfA_map lf_dR S
theorem lfA_dN (l : List Nat) : lfA (l.map dN) = true := lfA_map (fun _ => rfl) l
theorem lfA_dW (l : List Bool) : lfA (l.map dW) = true := lfA_map (fun _ => rfl) l
theorem lfA_int (l : List Int) : lfA (l.map PyData.int) = true := lfA_map (fun _ => rfl) l
theorem ixD_nat {ds : List PyData} {k : Nat} {d : PyData} (h : ds[k]? = some d) : ixD (.list ds) (.int k) = some d := by
  show (if (0 : Int) ≤ (k : Int) then ds[((k : Int)).toNat]? else none) = some d
  rw [if_pos (by omega), Int.toNat_natCast, h]
section
variable {K : PySem.W.Frag} {g : List Sl} {te tk : TE} {A : List Ask} {S : List Rat} {k : Nat}
theorem ev_asks (h : Ev K te g (dG A)) : Ev K (tOp (rIx K) te (tC (.int 1))) g (.list (A.map dA)) := ev_ix h ev_int rfl
theorem evg_asks (h : EvG K te g (dG A)) : EvG K (tOp (rIx K) te (tC (.int 1))) g (.list (A.map dA)) := evg_ix h (ev_int.flat rfl) rfl
theorem ev_ask (h : Ev K te g (dG A)) (h2 : Ev K tk g (dN k)) (hk : k < A.length) : Ev K (tOp (rIx K) (tOp (rIx K) te (tC (.int 1))) tk) g (dA (askAt A k)) :=
  ev_ix (ev_asks h) h2 (ixD_nat (by rw [List.getElem?_map, askAt_get hk]; rfl))
theorem ev_size (h : Ev K te g (dG A)) (h2 : Ev K tk g (dN k)) (hk : k < A.length) : Ev K (tOp (rIx K) (tOp (rIx K) (tOp (rIx K) te (tC (.int 1))) tk) (tC (.int 3))) g (dR (askAt A k).size) := ev_ix (ev_ask h h2 hk) ev_int rfl
theorem ev_part (h : Ev K te g (dS S)) (h2 : Ev K tk g (dN k)) (hk : k < S.length) : Ev K (tOp (rIx K) te tk) g (dR (partAt S k)) :=
  ev_ix h h2 (ixD_nat (by rw [List.getElem?_map, partAt_get hk]; rfl))
theorem ev_askN (h : Ev K te g (dG A)) : Ev K (tCB (fun xs H Q => ∃ p ys, xs = [.ref p] ∧ (SqL K H p ys ∨ SqT K H p ys) ∧ Q (.int ys.length) H) (tCons (tOp (rIx K) te (tC (.int 1))) tNil)) g (.int A.length) :=
  ev_is (ev_cb (ea_cons (ev_asks h) ea_nil) rc_len) (by rw [List.length_map])
theorem ev_many (h : Ev K te g (dG A)) : Ev K (tCB (fun xs H Q => ∃ p ys, xs = [.ref p] ∧ (SqL K H p ys ∨ SqT K H p ys) ∧ Q (.int ys.length) H) (tCons (tOp (rIx K) te (tC (.int 0))) tNil)) g (.int 12) :=
  ev_is (ev_cb (ea_cons (ev_ix (d := .list (List.replicate 12 (dR 1))) h ev_int rfl) ea_nil) rc_len) rfl
theorem eqv_int (i j : Int) : PyData.eqv (.int i) (.int j) = decide (i = j) := by
  show (i == j) = _
  rw [Bool.beq_eq_decide_eq]
theorem eqv_way (a b : Bool) : PyData.eqv (dW a) (dW b) = (a == b) := by cases a <;> cases b <;> decide +kernel
theorem eqv_bool (a b : Bool) : PyData.eqv (.bool a) (.bool b) = (a == b) := rfl
theorem eqv_dR (a b : Rat) : PyData.eqv (dR a) (dR b) = decide (a = b) := by
  have h : PyData.eqv (dR a) (dR b) = ((a.num == b.num) && ((((a.den : Int) == (b.den : Int))) && true)) := by
    simp [dR, PyData.eqv, PyData.eqvAll]
  rw [h, Bool.eq_iff_iff]
  simp only [Bool.and_eq_true, beq_iff_eq, decide_eq_true_eq, and_true]
  constructor
  · rintro ⟨h1, h2⟩
    exact Rat.ext h1 (by omega)
  · rintro rfl
    exact ⟨rfl, rfl⟩
theorem sh_dR (a : Rat) : SeqAt.shaped (dR a) = true := rfl
theorem sh_dW (a : Bool) : SeqAt.shaped (dW a) = true := by cases a <;> decide +kernel
end
theorem pair_filter (a b : Int) (p : Int → Bool) : (decide (([a, b].filter p).length = 1)) = decide (p a = true ↔ ¬ p b = true) := by
  cases ha : p a <;> cases hb : p b <;> simp [List.filter, ha, hb]
section
variable {P : Program} {w : World} {K : PySem.W.Frag} {mg : Str → Option Value} {base : Heap} {aN aB : Addr}

abbrev s_do_cross : Stmt := topS 17
theorem sc_do_cross : FnScope ["ring", "k", "l", "name", "one", "other", "size", "places", "low", "high", "place"] ["ring", "k", "l"] (defScope s_do_cross) := ⟨rfl, rfl, rfl, by decide +kernel, rfl, by decide +kernel, by decide +kernel⟩
def R_do_cross (ds : List PyData) (d : PyData) : Prop := ∃ (A : List Ask) (k l : Nat), k < A.length ∧ l < A.length ∧ ds = [dG A, dN k, dN l] ∧ d = .bool (crossB (askAt A k) (askAt A l))
abbrev sp_do_cross (K : PySem.W.Frag) : Sp := spD K false R_do_cross
theorem ok_do_cross (T : Txt K mg aN aB) {f : Addr} {fd : FuncData} (F : Df K mg "do_cross" s_do_cross ["ring", "k", "l"] f fd) : Cal P w K mg base 1 "do_cross" ["ring", "k", "l"] (sp_do_cross K) := by
  refine F.cal (k := 0) sc_do_cross (fun ds d h => by obtain ⟨A, k, l, hk, hl, rfl, rfl⟩ := h <;> rfl) (fun cdv A outer s H E hr => ⟨_, (pss_cons (ps_asg (pe_ix ix_seq (pe_ix ix_seq (pv 0) pe_int (fun _ _ => rfl)) (pv 1) (fun _ _ => rfl)) (pg_tup rfl (pgs_cons (pg_name (i := 3) sc_do_cross.nd rfl (Or.inl rfl)) (pgs_cons (pg_name (i := 4) sc_do_cross.nd rfl (Or.inl rfl)) (pgs_cons (pg_name (i := 5) sc_do_cross.nd rfl (Or.inl rfl)) (pgs_cons (pg_name (i := 6) sc_do_cross.nd rfl (Or.inl rfl)) pgs_nil))))))
    (pss_cons (ps_set (i := 7) sc_do_cross.nd rfl (Or.inl rfl) (pe_slice sl_tup (pe_ix ix_seq (pe_ix ix_seq (pv 0) pe_int (fun _ _ => rfl)) (pv 2) (fun _ _ => rfl)) (po_some pe_int) (po_some pe_int)))
    (pss_cons (ps_if (PW.pt (pw_or (pt_cmpR op_in_seq (pv 4) (pv 7) (by rfl)) (pw_or1 (pt_cmpR op_in_seq (pv 5) (pv 7) (by rfl))))) (pss_one (ps_ret pe_bl)) pss_nil)
    (pss_cons (ps_set (i := 8) sc_do_cross.nd rfl (Or.inr rfl) (pe_callB (call_min2 rfl) (by rfl) T.b_min (by decide +kernel) (pa_cons (pv 4) (pa_cons (pv 5) pa_nil))))
    (pss_cons (ps_set (i := 9) sc_do_cross.nd rfl (Or.inr rfl) (pe_callB (call_max2 rfl) (by rfl) T.b_max (by decide +kernel) (pa_cons (pv 4) (pa_cons (pv 5) pa_nil))))
    (pss_one (ps_ret (pe_cmpR (op_eqD hr.units) (pe_callB call_len_seq (by rfl) T.b_len (by decide +kernel) (pa_cons (pe_lc (own := [("place", 10)]) (by rfl) sc_do_cross.nd (pi_tup (pv 7)) (blkOk_by (own := [("place", 10)]) (N := ["ring", "k", "l", "name", "one", "other", "size", "places", "low", "high", "place"]) (sc := defScope s_do_cross) (by decide +kernel)) (fun _ _ _ _ _ => (pg_name (i := 10) sc_do_cross.nd rfl (Or.inl rfl))) (fun _ _ _ _ _ => (pts_one (pt_chain op_lt op_lt (pv 8) (pv 10) (pv 9)))) (fun _ _ _ _ _ => (pv 10))) pa_nil)) pe_int (nomark _))))))))), fun ds d h => ?_⟩)
  obtain ⟨A, k, l, hk, hl, rfl, rfl⟩ := h
  generalize ea : askAt A k = a
  generalize eb : askAt A l = b
  refine run_seq (run_unpack ((ev_ask (ev_var rfl) (ev_var rfl) hk).flat rfl) (tg_tup (is := [3, 4, 5, 6]) rfl rfl) ?_)
  refine run_seq (run_asg (i := 7) ((ev_slT (ev_ask (ev_var rfl) (ev_var rfl) hl) (eo_some ev_int) (eo_some ev_int) (show ¬ (HT.sIx 4 0 (some 1) = 0 ∧ HT.sIx 4 4 (some 3) = 4) by decide)).flat rfl) ?_)
  rw [ea, eb]
  let s0 : List Sl := [.val (dG A), .val (dN k), .val (dN l), .val (.str ⟨a.nm⟩), .val (.int a.one), .val (.int a.other), .val (dR a.size), .val (.tuple (([b.one, b.other] : List Int).map .int)), .no, .no, .no]
  show Run _ _ s0 _
  refine run_seq (run_if (b := decide ((a.one : Int) ∈ ([b.one, b.other] : List Int)) || decide ((a.other : Int) ∈ ([b.one, b.other] : List Int)))
    (et_or (et_test (ev_op (ev_var (d := .int a.one) rfl) (ev_var (d := .tuple (([b.one, b.other] : List Int).map .int)) rfl) rv_inT)) fun _ => et_test (ev_op (ev_var (d := .int a.other) rfl) (ev_var (d := .tuple (([b.one, b.other] : List Int).map .int)) rfl) rv_inT)) (fun h => ?_) fun h => run_next ?_)
  · refine run_ret ev_bl ⟨?_, fun z => nomatch z⟩
    unfold crossB
    rw [if_pos]
    simp at h
    omega
  · refine run_seq (run_asg ((ev_cb (ea_cons (ev_var (d := .int a.one) rfl) (ea_cons (ev_var (d := .int a.other) rfl) ea_nil)) rc_int2).flat rfl) ?_)
    refine run_seq (run_asg ((ev_cb (ea_cons (ev_var (d := .int a.one) rfl) (ea_cons (ev_var (d := .int a.other) rfl) ea_nil)) rc_int2).flat rfl) ?_)
    have el : (if (a.other : Int) < (a.one : Int) then (a.other : Int) else (a.one : Int)) = (lowOf a : Int) := by unfold lowOf; split <;> split <;> omega
    have eh : (if (a.other : Int) > (a.one : Int) then (a.other : Int) else (a.one : Int)) = (highOf a : Int) := by unfold highOf; split <;> split <;> omega
    rw [el, eh]
    refine run_ret (d := .bool (crossB a b)) (ev_is (ev_op (ev_cb (ea_cons (evn_lc (K := K) ([b.one, b.other] : List Int) .int (fun v => decide ((lowOf a : Int) < v) && decide (v < (highOf a : Int))) .int (src_tup (evg_var rfl)) rfl (Nat.le_of_ble_eq_true rfl) (fun x hx => ?_)).ev ea_nil) rc_len) ev_int (rv_eq rfl rfl)) ?_) ⟨rfl, fun z => nomatch z⟩
    · exact ⟨_, _, tg_name, by decide, et_test (ev_chain (ev_var rfl) (ev_var rfl) (fun _ => ev_var rfl) rv_bool0 fun _ => rv_bool0), fun _ => ⟨ev_var rfl, rfl⟩⟩
    · rw [eqv_int, List.length_map]
      unfold crossB
      rw [if_neg (by simp at h; omega)]
      have := pair_filter (b.one : Int) (b.other : Int) (fun v => decide ((lowOf a : Int) < v) && decide (v < (highOf a : Int)))
      congr 1
      rw [show (1 : Int) = ((1 : Nat) : Int) from rfl]
      simp only [Int.natCast_inj]
      rw [this]
      simp
end
end Rg

set_option Elab.async false
set_option linter.all false
set_option maxRecDepth 100000
set_option maxHeartbeats 4000000
/-! Parted asks, ways, ties. -/
namespace Rg
open PySem PySem.Spec PyProof.Rows L2
theorem map_get {α : Type} {f : α → PyData} {l : List α} {i : Nat} {d : PyData} (h : (l.map f)[i]? = some d) : ∃ x, l[i]? = some x ∧ d = f x := by
  rw [List.getElem?_map] at h
  cases e : l[i]? with
  | none => rw [e] at h; cases h
  | some x => rw [e] at h; cases h; exact ⟨x, rfl, rfl⟩
theorem all_more {α : Type} {p : α → Bool} {l : List α} {i : Nat} {x : α} (h : l[i]? = some x) : (l.take (i + 1)).all p = ((l.take i).all p && p x) := by
  rw [List.take_add_one, h]
  simp
theorem all_no {α : Type} {p : α → Bool} {l : List α} {i : Nat} {x : α} (h : l[i]? = some x) (hp : p x = false) : l.all p = false := by
  rw [List.all_eq_false]
  exact ⟨x, List.mem_of_getElem? h, by rw [hp]; exact Bool.false_ne_true⟩
theorem filter_all {α : Type} (l : List α) : l.filter (fun _ => true) = l := List.filter_eq_self.mpr fun _ _ => rfl
theorem rngD0 (n : Nat) : rngD 0 n = (List.range n).map dN := by
  unfold rngD dN
  refine List.map_congr_left fun i _ => ?_
  rw [Int.zero_add]
theorem set_map {n j : Nat} {f h : Nat → PyData} {y : PyData} (hj : j < n) (h1 : h j = y) (h2 : ∀ t, t ≠ j → h t = f t) : ((List.range n).map f).set j y = (List.range n).map h := by
  refine List.ext_getElem? fun i => ?_
  rw [List.getElem?_set, List.getElem?_map, List.getElem?_map, List.length_map, List.length_range]
  by_cases hi : i < n
  · rw [List.getElem?_range hi]
    by_cases e : j = i
    · subst e
      rw [if_pos rfl, if_pos hj]
      show some y = some (h j)
      rw [h1]
    · rw [if_neg e]
      show some (f i) = some (h i)
      rw [h2 i (Ne.symm e)]
  · have : (List.range n)[i]? = none := List.getElem?_eq_none (by rw [List.length_range]; omega)
    rw [this]
    by_cases e : j = i
    · omega
    · rw [if_neg e]
      rfl
theorem sh_map {α : Type} {f : α → PyData} (l : List α) (h : ∀ x, (f x).canLay0 = true) (h2 : ∀ x, (f x).depth ≤ 60) : SeqAt.shaped (.list (l.map f)) = true := by
  have a : PyData.canLayAll0 (l.map f) = true := by
    induction l with
    | nil => rfl
    | cons x l ih => simp [PyData.canLayAll0, h x, ih]
  have b : PyData.depthAll (l.map f) ≤ 60 := by
    induction l with
    | nil => simp [PyData.depthAll]
    | cons x l ih =>
      have := ih (by simpa [PyData.canLayAll0, h x] using a)
      have := h2 x
      simp only [List.map_cons, PyData.depthAll]
      omega
  have c : (PyData.list (l.map f)).canLay0 = true := by simpa [PyData.canLay0] using a
  have e : (PyData.list (l.map f)).depth ≤ 64 := by
    simp only [PyData.depth]
    omega
  unfold SeqAt.shaped
  rw [c, decide_eq_true e]
  rfl
theorem sh_nil : SeqAt.shaped (.list []) = true := by decide +kernel
theorem eqv_nil (l : List PyData) : PyData.eqv (.list l) (.list []) = l.isEmpty := by
  cases l <;> rfl
theorem dec_lt (k m : Nat) : decide ((k : Int) < (m : Int)) = decide (k < m) := decide_eq_decide.mpr Int.ofNat_lt
section
variable {P : Program} {w : World} {K : PySem.W.Frag} {mg : Str → Option Value} {base : Heap} {aN aB : Addr}
abbrev s_is_parted : Stmt := topS 18
theorem sc_is_parted : FnScope ["ring", "sending", "k"] ["ring", "sending", "k"] (defScope s_is_parted) := ⟨rfl, rfl, rfl, by decide +kernel, rfl, by decide +kernel, by decide +kernel⟩
def R_is_parted (ds : List PyData) (d : PyData) : Prop := ∃ (A : List Ask) (S : List Rat) (k : Nat), Rok A ∧ Sok A S ∧ k < A.length ∧ ds = [dG A, dS S, dN k] ∧ d = .bool (partB A S k)
abbrev sp_is_parted (K : PySem.W.Frag) : Sp := spD K false R_is_parted
theorem ok_is_parted (T : Txt K mg aN aB) {f : Addr} {fd : FuncData} (F : Df K mg "is_parted" s_is_parted ["ring", "sending", "k"] f fd) (c_under : Cal P w K mg base 1 "under" ["one", "other"] (sp_under K)) : Cal P w K mg base 2 "is_parted" ["ring", "sending", "k"] (sp_is_parted K) := by
  refine F.cal (k := 1) sc_is_parted (fun ds d h => by obtain ⟨A, S, k, hA, hS, hk, rfl, rfl⟩ := h <;> rfl) (fun cdv A outer s H E hr => ⟨_, (pss_one (ps_ret (pe_and (pe_cal c_under (hr.mono (by decide)) (by rfl) (pa_cons (pe_gc (by rfl) T.hNOUGHT) (pa_cons (pe_ix ix_seq (pv 1) (pv 2) (fun _ _ => rfl)) pa_nil))) (pe_one (pe_cal c_under (hr.mono (by decide)) (by rfl) (pa_cons (pe_ix ix_seq (pv 1) (pv 2) (fun _ _ => rfl)) (pa_cons (pe_ix ix_seq (pe_ix ix_seq (pe_ix ix_seq (pv 0) pe_int (fun _ _ => rfl)) (pv 2) (fun _ _ => rfl)) pe_int (fun _ _ => rfl)) pa_nil))))))), fun ds d h => ?_⟩)
  obtain ⟨A, S, k, hA, hS, hk, rfl, rfl⟩ := h
  have h1 := lo_sm (fin_lo (hS.fn k hk))
  have h2 := lo_sm (fin_lo (hA.at hk).fn)
  exact run_ret (ev_andB (ev_call (ea_cons (ev_con (dp_nought T)) (ea_cons (ev_part (ev_var rfl) (ev_var rfl) (by rw [hS.len]; exact hk)) ea_nil)) ⟨0, partAt S k, lo_sm lo_zero, h1, rfl, rfl⟩)
    fun _ => ev_call (ea_cons (ev_part (ev_var rfl) (ev_var rfl) (by rw [hS.len]; exact hk)) (ea_cons (ev_size (ev_var rfl) (ev_var rfl) hk) ea_nil)) ⟨partAt S k, (askAt A k).size, h1, h2, rfl, rfl⟩) ⟨rfl, fun z => nomatch z⟩
abbrev s_parted_in : Stmt := topS 19
theorem sc_parted_in : FnScope ["ring", "sending", "k"] ["ring", "sending"] (defScope s_parted_in) := ⟨rfl, rfl, rfl, by decide +kernel, rfl, by decide +kernel, by decide +kernel⟩
def R_parted_in (ds : List PyData) (d : PyData) : Prop := ∃ (A : List Ask) (S : List Rat), Rok A ∧ Sok A S ∧ ds = [dG A, dS S] ∧ d = dNs (partedL A S)
abbrev sp_parted_in (K : PySem.W.Frag) : Sp := spD K true R_parted_in
theorem ok_parted_in (T : Txt K mg aN aB) {f : Addr} {fd : FuncData} (F : Df K mg "parted_in" s_parted_in ["ring", "sending"] f fd) (c_is_parted : Cal P w K mg base 2 "is_parted" ["ring", "sending", "k"] (sp_is_parted K)) : Cal P w K mg base 3 "parted_in" ["ring", "sending"] (sp_parted_in K) := by
  refine F.cal (k := 2) sc_parted_in (fun ds d h => by obtain ⟨A, S, hA, hS, rfl, rfl⟩ := h <;> rfl) (fun cdv A outer s H E hr => ⟨_, (pss_one (ps_ret (pe_lc (own := [("k", 2)]) (by rfl) sc_parted_in.nd (pi_range1 (by rfl) T.b_range (pa_cons (pe_callB call_len_seq (by rfl) T.b_len (by decide +kernel) (pa_cons (pe_ix ix_seq (pv 0) pe_int (fun _ _ => rfl)) pa_nil)) pa_nil)) (blkOk_by (own := [("k", 2)]) (N := ["ring", "sending", "k"]) (sc := defScope s_parted_in) (by decide +kernel)) (fun _ _ _ _ _ => (pg_name (i := 2) sc_parted_in.nd rfl (Or.inl rfl))) (fun _ _ _ _ _ => (pts_one (pt_val (pe_cal c_is_parted (hr.mono (by decide)) (by rfl) (pa_cons (pv 0) (pa_cons (pv 1) (pa_cons (pv 2) pa_nil))))))) (fun _ _ _ _ _ => (pv 2))))), fun ds d h => ?_⟩)
  obtain ⟨A, S, hA, hS, rfl, rfl⟩ := h
  refine run_retF (evn_lc (List.range A.length) dN (partB A S) dN (src_rng1 (ea_cons (ev_askN (ev_var rfl)) ea_nil) (by have := hA.len; omega) (by omega)) (by rw [Int.toNat_natCast, rngD0]) (by have := hA.len; rw [List.length_range]; omega) (fun k hk => ?_)).evf ⟨rfl, fun _ => rfl⟩
  have hk := List.mem_range.mp hk
  exact ⟨_, _, tg_name, by decide, et_B (ev_call (ea_cons (ev_var rfl) (ea_cons (ev_var rfl) (ea_cons (ev_var rfl) ea_nil))) ⟨A, S, k, hA, hS, hk, rfl, rfl⟩), fun _ => ⟨ev_var rfl, rfl⟩⟩
abbrev s_all_cross : Stmt := topS 20
theorem sc_all_cross : FnScope ["ring", "some", "k", "l"] ["ring", "some"] (defScope s_all_cross) := ⟨rfl, rfl, rfl, by decide +kernel, rfl, by decide +kernel, by decide +kernel⟩
def R_all_cross (ds : List PyData) (d : PyData) : Prop := ∃ (A : List Ask) (l : List Nat), (∀ k ∈ l, k < A.length) ∧ ds = [dG A, dNs l] ∧ d = .bool (allCross A l)
abbrev sp_all_cross (K : PySem.W.Frag) : Sp := spD K false R_all_cross
theorem ok_all_cross (T : Txt K mg aN aB) {f : Addr} {fd : FuncData} (F : Df K mg "all_cross" s_all_cross ["ring", "some"] f fd) (c_do_cross : Cal P w K mg base 1 "do_cross" ["ring", "k", "l"] (sp_do_cross K)) : Cal P w K mg base 2 "all_cross" ["ring", "some"] (sp_all_cross K) := by
  refine F.cal (k := 1) sc_all_cross (fun ds d h => by obtain ⟨A, l, hl, rfl, rfl⟩ := h <;> rfl) (fun cdv A outer s H E hr => ⟨_, (pss_cons (ps_for PassesOwn.never rfl (pi_list (pv 1)) (pg_name (i := 2) sc_all_cross.nd rfl (Or.inl rfl)) (pss_one (ps_for PassesOwn.never rfl (pi_list (pv 1)) (pg_name (i := 3) sc_all_cross.nd rfl (Or.inl rfl)) (pss_one (ps_if (PW.pt (pw_and (pt_cmpR op_lt (pv 2) (pv 3) (nomark _)) (pw_and1 (pt_not (pt_val (pe_cal c_do_cross (hr.mono (by decide)) (by rfl) (pa_cons (pv 0) (pa_cons (pv 2) (pa_cons (pv 3) pa_nil))))))))) (pss_one (ps_ret pe_bl)) pss_nil)))))
    (pss_one (ps_ret pe_bl))), fun ds d h => ?_⟩)
  obtain ⟨A, l, hl, rfl, rfl⟩ := h
  let q : Nat → Nat → Bool := fun k m => !(decide (k < m) && !crossB (askAt A k) (askAt A m))
  have hq : allCross A l = l.all fun k => l.all (q k) := rfl
  refine run_seq (run_for (src_list (evg_var (d := .list (l.map dN)) rfl)) (fun i s => (∃ x y, s = [.val (dG A), .val (dNs l), x, y]) ∧ (l.take i).all (fun k => l.all (q k)) = true) ⟨⟨_, _, rfl⟩, by simp⟩ (fun i d s' hd hI => ?_) fun s' hI => ?_)
  · obtain ⟨⟨x, y, rfl⟩, h1⟩ := hI
    obtain ⟨k, hk, rfl⟩ := map_get hd
    refine ⟨_, _, tg_name, run_for (src_list (evg_var (d := .list (l.map dN)) rfl)) (fun j s => (∃ y, s = [.val (dG A), .val (dNs l), .val (dN k), y]) ∧ (l.take j).all (q k) = true) ⟨⟨_, rfl⟩, by simp⟩ (fun j d s' hd hI => ?_) fun s' hI => ?_⟩
    · obtain ⟨⟨y, rfl⟩, h2⟩ := hI
      obtain ⟨m, hm, rfl⟩ := map_get hd
      refine ⟨_, _, tg_name, run_if (b := decide ((k : Int) < (m : Int)) && !crossB (askAt A k) (askAt A m)) (et_and (et_test (ev_op (ev_var (d := .int k) rfl) (ev_var (d := .int m) rfl) rv_bool0)) fun _ => et_not (et_B (ev_call (ea_cons (ev_var rfl) (ea_cons (ev_var rfl) (ea_cons (ev_var rfl) ea_nil))) ⟨A, k, m, hl k (List.mem_of_getElem? hk), hl m (List.mem_of_getElem? hm), rfl, rfl⟩))) (fun h => ?_) fun h => run_next ?_⟩
      · refine run_ret ev_bl ⟨?_, fun z => nomatch z⟩
        congr 1
        rw [hq]
        refine (all_no hk (all_no hm ?_)).symm
        show (!(decide (k < m) && !crossB (askAt A k) (askAt A m))) = false
        rw [dec_lt] at h
        rw [h]
        rfl
      · refine ⟨⟨_, rfl⟩, ?_⟩
        rw [all_more hm, h2]
        show (true && !(decide (k < m) && !crossB (askAt A k) (askAt A m))) = true
        rw [dec_lt] at h
        rw [h]
        rfl
    · obtain ⟨⟨y, rfl⟩, h2⟩ := hI
      refine ⟨⟨_, _, rfl⟩, ?_⟩
      rw [all_more hk, h1]
      rw [List.length_map, List.take_length] at h2
      exact h2
  · obtain ⟨⟨x, y, rfl⟩, h1⟩ := hI
    refine run_ret ev_bl ⟨?_, fun z => nomatch z⟩
    rw [List.length_map, List.take_length] at h1
    rw [hq, h1]
abbrev s_other_way : Stmt := topS 24
theorem sc_other_way : FnScope ["way"] ["way"] (defScope s_other_way) := ⟨rfl, rfl, rfl, by decide +kernel, rfl, by decide +kernel, by decide +kernel⟩
def R_other_way (ds : List PyData) (d : PyData) : Prop := ∃ w : Bool, ds = [dW w] ∧ d = dW (!w)
abbrev sp_other_way (K : PySem.W.Frag) : Sp := spD K false R_other_way
theorem ok_other_way (T : Txt K mg aN aB) {f : Addr} {fd : FuncData} (F : Df K mg "other_way" s_other_way ["way"] f fd) : Cal P w K mg base 1 "other_way" ["way"] (sp_other_way K) := by
  refine F.cal (k := 0) sc_other_way (fun ds d h => by obtain ⟨w, rfl, rfl⟩ := h <;> rfl) (fun cdv A outer s H E hr => ⟨_, (pss_one (ps_ret (pe_ifExp (pt_cmpR (op_eqD hr.units) (pv 0) (pe_gc (by rfl) T.hON) (nomark _)) (pe_gc (by rfl) T.hBACK) (pe_gc (by rfl) T.hON)))), fun ds d h => ?_⟩)
  obtain ⟨w, rfl, rfl⟩ := h
  refine run_ret (ev_if (b := w) (evt_is (et_test (ev_op (ev_var rfl) (ev_str (i := "on")) (rv_eq (sh_dW w) (sh_dW true)))) ?_) (fun h => ?_) fun h => ?_) ⟨rfl, fun z => nomatch z⟩
  · exact (eqv_way w true).trans (by cases w <;> rfl)
  · subst h
    exact ev_str
  · subst h
    exact ev_str
abbrev s_ties_of : Stmt := topS 25
theorem sc_ties_of : FnScope ["ring", "k", "way", "name", "one", "other", "size", "many", "step"] ["ring", "k", "way"] (defScope s_ties_of) := ⟨rfl, rfl, rfl, by decide +kernel, rfl, by decide +kernel, by decide +kernel⟩
def R_ties_of (ds : List PyData) (d : PyData) : Prop := ∃ (A : List Ask) (k : Nat) (w : Bool), Rok A ∧ k < A.length ∧ ds = [dG A, dN k, dW w] ∧ d = .list ((tiesL (askAt A k) w).map .int)
abbrev sp_ties_of (K : PySem.W.Frag) : Sp := spD K true R_ties_of
theorem ok_ties_of (T : Txt K mg aN aB) {f : Addr} {fd : FuncData} (F : Df K mg "ties_of" s_ties_of ["ring", "k", "way"] f fd) : Cal P w K mg base 1 "ties_of" ["ring", "k", "way"] (sp_ties_of K) := by
  refine F.cal (k := 0) sc_ties_of (fun ds d h => by obtain ⟨A, k, w, hA, hk, rfl, rfl⟩ := h <;> rfl) (fun cdv A outer s H E hr => ⟨_, (pss_cons (ps_asg (pe_ix ix_seq (pe_ix ix_seq (pv 0) pe_int (fun _ _ => rfl)) (pv 1) (fun _ _ => rfl)) (pg_tup rfl (pgs_cons (pg_name (i := 3) sc_ties_of.nd rfl (Or.inl rfl)) (pgs_cons (pg_name (i := 4) sc_ties_of.nd rfl (Or.inr rfl)) (pgs_cons (pg_name (i := 5) sc_ties_of.nd rfl (Or.inl rfl)) (pgs_cons (pg_name (i := 6) sc_ties_of.nd rfl (Or.inl rfl)) pgs_nil))))))
    (pss_cons (ps_set (i := 7) sc_ties_of.nd rfl (Or.inr rfl) (pe_callB call_len_seq (by rfl) T.b_len (by decide +kernel) (pa_cons (pe_ix ix_seq (pv 0) pe_int (fun _ _ => rfl)) pa_nil)))
    (pss_cons (ps_if (pt_cmpR (op_eqD hr.units) (pv 2) (pe_gc (by rfl) T.hON) (nomark _)) (pss_one (ps_ret (pe_lc (own := [("step", 8)]) (by rfl) sc_ties_of.nd (pi_range1 (by rfl) T.b_range (pa_cons (pe_op op_mod (pe_op op_sub (pv 5) (pv 4)) (pv 7)) pa_nil)) (blkOk_by (own := [("step", 8)]) (N := ["ring", "k", "way", "name", "one", "other", "size", "many", "step"]) (sc := defScope s_ties_of) (by decide +kernel)) (fun _ _ _ _ _ => (pg_name (i := 8) sc_ties_of.nd rfl (Or.inl rfl))) (fun _ _ _ _ _ => pts_nil) (fun _ _ _ _ _ => (pe_op op_mod (pe_op op_add (pv 4) (pv 8)) (pv 7)))))) pss_nil)
    (pss_one (ps_ret (pe_lc (own := [("step", 8)]) (by rfl) sc_ties_of.nd (pi_range1 (by rfl) T.b_range (pa_cons (pe_op op_mod (pe_op op_sub (pv 4) (pv 5)) (pv 7)) pa_nil)) (blkOk_by (own := [("step", 8)]) (N := ["ring", "k", "way", "name", "one", "other", "size", "many", "step"]) (sc := defScope s_ties_of) (by decide +kernel)) (fun _ _ _ _ _ => (pg_name (i := 8) sc_ties_of.nd rfl (Or.inl rfl))) (fun _ _ _ _ _ => pts_nil) (fun _ _ _ _ _ => (pe_op op_mod (pe_op op_sub (pe_op op_sub (pv 4) pe_int) (pv 8)) (pv 7))))))))), fun ds d h => ?_⟩)
  obtain ⟨A, k, w, hA, hk, rfl, rfl⟩ := h
  have ha := hA.at hk
  refine run_seq (run_unpack ((ev_ask (ev_var rfl) (ev_var rfl) hk).flat rfl) (tg_tup (is := [3, 4, 5, 6]) rfl rfl) ?_)
  generalize ea : askAt A k = a
  rw [ea] at ha
  refine run_seq (run_asg ((ev_many (A := A) (ev_var rfl)).flat rfl) ?_)
  have tw : EvT K (tTest (tOp (rEqD K) (tVar 2) (tC (.str "on")))) [.val (dG A), .val (dN k), .val (dW w), .val (.str ⟨a.nm⟩), .val (.int a.one), .val (.int a.other), .val (dR a.size), .val (.int 12), .no] w :=
    evt_is (et_test (ev_op (ev_var rfl) (ev_str (i := "on")) (rv_eq (sh_dW w) (sh_dW true)))) ((eqv_way w true).trans (by cases w <;> rfl))
  refine run_seq (run_if tw (fun h => ?_) fun h => run_next ?_)
  · subst h
    have e1 : (((a.other : Int) - (a.one : Int)) % 12) < 12 := by omega
    have e2 : 0 ≤ (((a.other : Int) - (a.one : Int)) % 12) := by omega
    refine run_retF (d := .list ((tiesL a true).map .int)) (evn_is (evn_lc (List.range (((a.other : Int) - (a.one : Int)) % 12).toNat) dN (fun _ => true) (fun s => .int (((a.one : Int) + (s : Int)) % 12)) (src_rng1 (ea_cons (ev_op (ev_op (ev_var rfl) (ev_var rfl) rv_int0) (ev_var rfl) (rv_int (by decide))) ea_nil) (by omega) (by omega)) (rngD0 _) (by rw [List.length_range]; omega) (fun s hs => ?_)) ?_).evf ⟨rfl, fun _ => rfl⟩
    · exact ⟨_, _, tg_name, by decide, fun H0 H σ ok Q q => q H (Same.refl H), fun _ => ⟨ev_op (ev_op (ev_var rfl) (ev_var rfl) rv_int0) (ev_var rfl) (rv_int (by decide)), rfl⟩⟩
    · rw [filter_all]
      unfold tiesL
      rw [if_pos rfl, List.map_map]
      rfl
  · subst h
    have e1 : (((a.one : Int) - (a.other : Int)) % 12) < 12 := by omega
    have e2 : 0 ≤ (((a.one : Int) - (a.other : Int)) % 12) := by omega
    refine run_retF (d := .list ((tiesL a false).map .int)) (evn_is (evn_lc (List.range (((a.one : Int) - (a.other : Int)) % 12).toNat) dN (fun _ => true) (fun s => .int (((a.one : Int) - 1 - (s : Int)) % 12)) (src_rng1 (ea_cons (ev_op (ev_op (ev_var rfl) (ev_var rfl) rv_int0) (ev_var rfl) (rv_int (by decide))) ea_nil) (by omega) (by omega)) (rngD0 _) (by rw [List.length_range]; omega) (fun s hs => ?_)) ?_).evf ⟨rfl, fun _ => rfl⟩
    · exact ⟨_, _, tg_name, by decide, fun H0 H σ ok Q q => q H (Same.refl H), fun _ => ⟨ev_op (ev_op (ev_op (ev_var rfl) ev_int rv_int0) (ev_var rfl) rv_int0) (ev_var rfl) (rv_int (by decide)), rfl⟩⟩
    · rw [filter_all]
      unfold tiesL
      rw [if_neg Bool.false_ne_true, List.map_map]
      rfl
abbrev s_is_over : Stmt := topS 26
theorem sc_is_over : FnScope ["ring", "k", "way", "tie", "name", "one", "other", "size", "many", "goes_on"] ["ring", "k", "way", "tie"] (defScope s_is_over) := ⟨rfl, rfl, rfl, by decide +kernel, rfl, by decide +kernel, by decide +kernel⟩
def R_is_over (ds : List PyData) (d : PyData) : Prop := ∃ (A : List Ask) (k : Nat) (w : Bool) (t : Int), k < A.length ∧ ds = [dG A, dN k, dW w, .int t] ∧ d = .bool (isOver (askAt A k) w t)
abbrev sp_is_over (K : PySem.W.Frag) : Sp := spD K false R_is_over
theorem ok_is_over (T : Txt K mg aN aB) {f : Addr} {fd : FuncData} (F : Df K mg "is_over" s_is_over ["ring", "k", "way", "tie"] f fd) : Cal P w K mg base 1 "is_over" ["ring", "k", "way", "tie"] (sp_is_over K) := by
  refine F.cal (k := 0) sc_is_over (fun ds d h => by obtain ⟨A, k, w, t, hk, rfl, rfl⟩ := h <;> rfl) (fun cdv A outer s H E hr => ⟨_, (pss_cons (ps_asg (pe_ix ix_seq (pe_ix ix_seq (pv 0) pe_int (fun _ _ => rfl)) (pv 1) (fun _ _ => rfl)) (pg_tup rfl (pgs_cons (pg_name (i := 4) sc_is_over.nd rfl (Or.inl rfl)) (pgs_cons (pg_name (i := 5) sc_is_over.nd rfl (Or.inl rfl)) (pgs_cons (pg_name (i := 6) sc_is_over.nd rfl (Or.inl rfl)) (pgs_cons (pg_name (i := 7) sc_is_over.nd rfl (Or.inl rfl)) pgs_nil))))))
    (pss_cons (ps_set (i := 8) sc_is_over.nd rfl (Or.inl rfl) (pe_callB call_len_seq (by rfl) T.b_len (by decide +kernel) (pa_cons (pe_ix ix_seq (pv 0) pe_int (fun _ _ => rfl)) pa_nil)))
    (pss_cons (ps_set (i := 9) sc_is_over.nd rfl (Or.inl rfl) (pe_cmpR op_lt (pe_op op_mod (pe_op op_sub (pv 3) (pv 5)) (pv 8)) (pe_op op_mod (pe_op op_sub (pv 6) (pv 5)) (pv 8)) (nomark _)))
    (pss_one (ps_ret (pe_cmpR (op_eqD hr.units) (pv 9) (pe_cmpR (op_eqD hr.units) (pv 2) (pe_gc (by rfl) T.hON) (nomark _)) (nomark _))))))), fun ds d h => ?_⟩)
  obtain ⟨A, k, w, t, hk, rfl, rfl⟩ := h
  refine run_seq (run_unpack ((ev_ask (ev_var rfl) (ev_var rfl) hk).flat rfl) (tg_tup (is := [4, 5, 6, 7]) rfl rfl) ?_)
  generalize ea : askAt A k = a
  refine run_seq (run_asg ((ev_many (A := A) (ev_var rfl)).flat rfl) ?_)
  refine run_seq (run_asg (d := .bool (over a t)) ((ev_op (ev_op (ev_op (ev_var rfl) (ev_var rfl) rv_int0) (ev_var rfl) (rv_int (by decide))) (ev_op (ev_op (ev_var rfl) (ev_var rfl) rv_int0) (ev_var rfl) (rv_int (by decide))) rv_bool0).flat rfl) ?_)
  refine run_ret (ev_op (ev_var rfl) (ev_op (ev_var rfl) (ev_str (i := "on")) (rv_eq (sh_dW w) (sh_dW true))) (rv_eq rfl rfl)) ⟨?_, fun z => nomatch z⟩
  have e : PyData.eqv (dW w) (.str "on") = w := (eqv_way w true).trans (by cases w <;> rfl)
  rw [e]
  rfl
end
end Rg

set_option Elab.async false
set_option linter.all false
set_option maxRecDepth 100000
set_option maxHeartbeats 4000000
/-! Loads, ways, slides. -/
namespace Rg
open PySem PySem.Spec PyProof.Rows L2
def dL (s : Slide) : PyData := .tuple [dN s.k, dW s.way, dN s.l, dW s.other, dR s.amt]
def dLs (l : List Slide) : PyData := .list (l.map dL)
theorem lfA_dL (l : List Slide) : lfA (l.map dL) = true := lfA_map (fun _ => rfl) l
theorem dp_both {K : PySem.W.Frag} {mg : Str → Option Value} {aN aB : Addr} (T : Txt K mg aN aB) (H : Hp) : Dp K H (.ref aB) (.tuple (([wS true, wS false] : List Str).map .str)) := .tup (T.nB H) (.cons (.str _) (.cons (.str _) .nil))
theorem et_yes {K : PySem.W.Frag} {g : List Sl} : EvT K tYes g true := fun H0 H σ ok Q q => q H (Same.refl H)
theorem in_both (w : Bool) : decide (wS w ∈ [wS true, wS false]) = true := by cases w <;> simp
section
variable {P : Program} {w : World} {K : PySem.W.Frag} {mg : Str → Option Value} {base : Heap} {aN aB : Addr}
/-- loads behind m asks, and of the next one the first j ties -/
def loadsM (A : List Ask) (S : List Rat) (m j : Nat) (t : Nat) : PyData := dR (if t < j then loadTo A S t (m + 1) else loadTo A S t m)
abbrev s_loads_of : Stmt := topS 28
theorem sc_loads_of : FnScope ["ring", "sending", "loads", "k", "part", "rest", "tie"] ["ring", "sending"] (defScope s_loads_of) := ⟨rfl, rfl, rfl, by decide +kernel, rfl, by decide +kernel, by decide +kernel⟩
def R_loads_of (ds : List PyData) (d : PyData) : Prop := ∃ (A : List Ask) (S : List Rat), Rok A ∧ Sok A S ∧ ds = [dG A, dS S] ∧ d = .list ((List.range 12).map fun t => dR (load A S t))
abbrev sp_loads_of (K : PySem.W.Frag) : Sp := spD K true R_loads_of
theorem ok_loads_of (T : Txt K mg aN aB) {f : Addr} {fd : FuncData} (F : Df K mg "loads_of" s_loads_of ["ring", "sending"] f fd) (c_minus : Cal P w K mg base 3 "minus" ["one", "other"] (sp_minus K)) (c_plus : Cal P w K mg base 3 "plus" ["one", "other"] (sp_plus K)) (c_is_over : Cal P w K mg base 1 "is_over" ["ring", "k", "way", "tie"] (sp_is_over K)) : Cal P w K mg base 4 "loads_of" ["ring", "sending"] (sp_loads_of K) := by
  refine F.cal (k := 3) sc_loads_of (fun ds d h => by obtain ⟨A, S, hA, hS, rfl, rfl⟩ := h <;> rfl) (fun cdv A outer s H E hr => ⟨_, (pss_cons (ps_set (i := 2) sc_loads_of.nd rfl (Or.inl rfl) (pe_op op_rep (pe_lst (pa_cons (pe_gc (by rfl) T.hNOUGHT) pa_nil)) (pe_callB call_len_seq (by rfl) T.b_len (by decide +kernel) (pa_cons (pe_ix ix_seq (pv 0) pe_int (fun _ _ => rfl)) pa_nil))))
    (pss_cons (ps_for PassesOwn.never rfl (pi_enum (by rfl) T.b_enumerate (pa_cons (pv 1) pa_nil)) (pg_tup rfl (pgs_cons (pg_name (i := 3) sc_loads_of.nd rfl (Or.inl rfl)) (pgs_cons (pg_name (i := 4) sc_loads_of.nd rfl (Or.inl rfl)) pgs_nil))) (pss_cons (ps_set (i := 5) sc_loads_of.nd rfl (Or.inl rfl) (pe_cal c_minus (hr.mono (by decide)) (by rfl) (pa_cons (pe_ix ix_seq (pe_ix ix_seq (pe_ix ix_seq (pv 0) pe_int (fun _ _ => rfl)) (pv 3) (fun _ _ => rfl)) pe_int (fun _ _ => rfl)) (pa_cons (pv 4) pa_nil))))
    (pss_one (ps_for PassesOwn.never rfl (pi_range1 (by rfl) T.b_range (pa_cons (pe_callB call_len_seq (by rfl) T.b_len (by decide +kernel) (pa_cons (pv 2) pa_nil)) pa_nil)) (pg_name (i := 6) sc_loads_of.nd rfl (Or.inl rfl)) (pss_one (ps_asg (pe_cal c_plus (hr.mono (by decide)) (by rfl) (pa_cons (pe_ix ix_seq (pv 2) (pv 6) (fun _ _ => rfl)) (pa_cons (pe_ifExp (pt_val (pe_cal c_is_over (hr.mono (by decide)) (by rfl) (pa_cons (pv 0) (pa_cons (pv 3) (pa_cons (pe_gc (by rfl) T.hON) (pa_cons (pv 6) pa_nil)))))) (pv 4) (pv 5)) pa_nil))) (pg_sub (pv 2) (pv 6) set_list)))))))
    (pss_one (ps_ret (pv 2))))), fun ds d h => ?_⟩)
  obtain ⟨A, S, hA, hS, rfl, rfl⟩ := h
  refine run_seq (run_asgN (ds := (List.range 12).map (loadsM A S 0 0)) (evn_is (evn_rep (evn_lst (ea_cons (ev_con (dp_nought T)) ea_nil)) (ev_many (A := A) (ev_var rfl)) (by decide) (Nat.le_of_ble_eq_true rfl) (by decide)) rfl) (lfA_map (fun _ => rfl) _) ?_)
  refine run_seq (run_for (src_enum (evg_var (d := .list (S.map dR)) rfl)) (fun m s => ∃ x3 x4 x5 x6, s = [.val (dG A), .val (dS S), .own ((List.range 12).map (loadsM A S m 0)), x3, x4, x5, x6]) ⟨_, _, _, _, rfl⟩ (fun m d s' hd hI => ?_) fun s' hI => ?_)
  · obtain ⟨x3, x4, x5, x6, rfl⟩ := hI
    have hm : m < A.length := by
      have := (List.getElem?_eq_some_iff.mp hd).1
      simp [enuD] at this
      rw [hS.len] at this
      exact this
    have e : d = .tuple [dN m, dR (partAt S m)] := by
      have h2 := partAt_get (S := S) (k := m) (by rw [hS.len]; exact hm)
      simp [enuD, h2] at hd
      exact hd.symm
    subst e
    have l1 := lo_sm (fin_lo (hA.at hm).fn)
    have l2 := lo_sm (fin_lo (hS.fn m hm))
    have l3 := fin_sub (hA.at hm).fn (hS.fn m hm)
    refine ⟨_, _, tg_tup (is := [3, 4]) rfl rfl, ?_⟩
    refine run_seq (run_asg ((ev_call (ea_cons (ev_size (ev_var rfl) (ev_var rfl) hm) (ea_cons (ev_var rfl) ea_nil)) ⟨_, _, l1, l2, rfl, rfl⟩).flat rfl) ?_)
    refine run_for (src_rng1 (n := 12) (ea_cons (ev_is (ev_cb (ea_cons (ev_var (d := .list ((List.range 12).map (loadsM A S m 0))) rfl) ea_nil) rc_len) rfl) ea_nil) (by decide) (by decide))
      (fun j s => ∃ x6, s = [.val (dG A), .val (dS S), .own ((List.range 12).map (loadsM A S m j)), .val (dN m), .val (dR (partAt S m)), .val (dR ((askAt A m).size - partAt S m)), x6]) ⟨_, rfl⟩ (fun j d s' hd hI => ?_) fun s' hI => ?_
    · obtain ⟨x6, rfl⟩ := hI
      have hj : j < 12 := by
        have := (List.getElem?_eq_some_iff.mp hd).1
        rw [rngD_len] at this
        exact this
      have hd : (rngD 0 12)[j]? = some d := hd
      rw [rngD_get hj, Int.zero_add] at hd
      cases hd
      have hv : Ev K (tIf (tB (tCall (sp_is_over K) [] E0 (tCons (tVar 0) (tCons (tVar 3) (tCons (tC (.str "on")) (tCons (tVar 6) tNil)))))) (tVar 4) (tVar 5)) [.val (dG A), .val (dS S), .own ((List.range 12).map (loadsM A S m j)), .val (dN m), .val (dR (partAt S m)), .val (dR ((askAt A m).size - partAt S m)), .val (.int j)]
          (dR (if over (askAt A m) j then partAt S m else (askAt A m).size - partAt S m)) := by
        refine ev_if (et_B (ev_call (ea_cons (ev_var rfl) (ea_cons (ev_var rfl) (ea_cons (ev_str (i := "on")) (ea_cons (ev_var rfl) ea_nil)))) ⟨A, m, true, j, hm, rfl, rfl⟩)) (fun h => ?_) (fun h => ?_)
        · have h' : over (askAt A m) j = true := by simpa [isOver] using h
          rw [if_pos h']
          exact ev_var rfl
        · have h' : ¬ over (askAt A m) j = true := by simpa [isOver] using h
          rw [if_neg h']
          exact ev_var rfl
      have hl : (.list ((List.range 12).map (loadsM A S m j)) : PyData) = .list ((List.range 12).map (loadsM A S m j)) := rfl
      have g1 : ixD (.list ((List.range 12).map (loadsM A S m j))) (.int (j : Int)) = some (dR (loadTo A S j m)) := by
        refine ixD_nat ?_
        rw [List.getElem?_map, List.getElem?_range hj]
        show some (loadsM A S m j j) = _
        unfold loadsM
        rw [if_neg (Nat.lt_irrefl j)]
      have l4 : sm (if over (askAt A m) j then partAt S m else (askAt A m).size - partAt S m) := by
        split
        · exact l2
        · exact lo_sm (fin_lo l3)
      refine ⟨_, _, tg_name, run_setL (ds := (List.range 12).map (loadsM A S m j)) (d := dR (loadTo A S j (m + 1))) (k := (j : Int)) (ev_call (ea_cons (ev_ix (ev_var (d := .list ((List.range 12).map (loadsM A S m j))) rfl) (ev_var (d := .int j) rfl) g1) (ea_cons hv ea_nil)) ⟨_, _, lo_sm (loadTo_lo hA hS j m (by omega)), l4, rfl, rfl⟩) rfl rfl (ev_var rfl) (by omega) (by rw [Int.toNat_natCast, List.length_map, List.length_range]; exact hj) ?_⟩
      refine ⟨.val (.int j), ?_⟩
      rw [Int.toNat_natCast, set_map (h := loadsM A S m (j + 1)) hj (by unfold loadsM; rw [if_pos (by omega)]) (fun t ht => by
        unfold loadsM
        by_cases h : t < j
        · rw [if_pos h, if_pos (by omega)]
        · rw [if_neg h, if_neg (by omega)])]
      rfl
    · obtain ⟨x6, rfl⟩ := hI
      have e : (List.range 12).map (loadsM A S m (rngD 0 (Int.toNat 12)).length) = (List.range 12).map (loadsM A S (m + 1) 0) := by
        rw [rngD_len]
        refine List.map_congr_left fun t ht => ?_
        have := List.mem_range.mp ht
        unfold loadsM
        rw [if_pos (show t < (12 : Int).toNat from this), if_neg (by omega)]
      rw [e]
      exact ⟨_, _, _, _, rfl⟩
  · obtain ⟨x3, x4, x5, x6, rfl⟩ := hI
    refine run_retO rfl ⟨?_, fun _ => rfl⟩
    have e : (enuD (S.map dR)).length = A.length := by simp [enuD, hS.len]
    rw [e]
    rfl
abbrev s_are_ways : Stmt := topS 30
theorem sc_are_ways : FnScope ["ring", "thing", "way"] ["ring", "thing"] (defScope s_are_ways) := ⟨rfl, rfl, rfl, by decide +kernel, rfl, by decide +kernel, by decide +kernel⟩
def R_are_ways (ds : List PyData) (d : PyData) : Prop := (∃ (A : List Ask) (W : List Bool), W.length = A.length ∧ A.length ≤ 20 ∧ ds = [dG A, dWs W] ∧ d = .bool true) ∨ ∃ (A : List Ask) (l : List PyData), ds = [dG A, .tuple l] ∧ d = .bool false
abbrev sp_are_ways (K : PySem.W.Frag) : Sp := spD K false R_are_ways
theorem ok_are_ways (T : Txt K mg aN aB) {f : Addr} {fd : FuncData} (F : Df K mg "are_ways" s_are_ways ["ring", "thing"] f fd) : Cal P w K mg base 1 "are_ways" ["ring", "thing"] (sp_are_ways K) := by
  refine F.cal (k := 0) sc_are_ways (fun ds d h => by obtain ⟨A, W, hl, hz, rfl, rfl⟩ | ⟨A, l, rfl, rfl⟩ := h <;> rfl) (fun cdv A outer s H E hr => ⟨_, (pss_cons (ps_if (PW.pt (pw_or (pt_not (pt_val (pe_callB call_isi (by rfl) T.b_isinstance (by decide +kernel) (pa_cons (pv 1) (pa_cons (pe_bltn (v := .ty "list") (by rfl) T.b_list (by decide +kernel) rfl) pa_nil))))) (pw_or1 (pt_cmpR (op_neD hr.units) (pe_callB call_len_seq (by rfl) T.b_len (by decide +kernel) (pa_cons (pv 1) pa_nil)) (pe_callB call_len_seq (by rfl) T.b_len (by decide +kernel) (pa_cons (pe_ix ix_seq (pv 0) pe_int (fun _ _ => rfl)) pa_nil)) (nomark _))))) (pss_one (ps_ret pe_bl)) pss_nil)
    (pss_one (ps_ret (pe_callB (cr_all rfl) (by rfl) T.b_all (by decide +kernel) (pa_cons (pe_lc (own := [("way", 2)]) (by rfl) sc_are_ways.nd (pi_list (pv 1)) (blkOk_by (own := [("way", 2)]) (N := ["ring", "thing", "way"]) (sc := defScope s_are_ways) (by decide +kernel)) (fun _ _ _ _ _ => (pg_name (i := 2) sc_are_ways.nd rfl (Or.inl rfl))) (fun _ _ _ _ _ => pts_nil) (fun _ _ _ _ _ => (pe_and (pe_callB (show CallR _ (.builtin "isinstance") (rIsi K) from call_isi) (by rfl) T.b_isinstance (by decide +kernel) (pa_cons (pv 2) (pa_cons (pe_bltn (v := .ty "str") (by rfl) T.b_str (by decide +kernel) rfl) pa_nil))) (pe_one (pe_cmpR (show OpR _ (compareOp .In) (rIn K false) from op_in_seq) (pv 2) (pe_tup (pa_cons (pe_gc (by rfl) T.hON) (pa_cons (pe_gc (by rfl) T.hBACK) pa_nil))) (by rfl)))))) pa_nil))))), fun ds d h => ?_⟩)
  obtain ⟨A, W, hl, hz, rfl, rfl⟩ | ⟨A, l, rfl, rfl⟩ := h
  · refine run_seq (run_if (b := false) (evt_is (et_or (et_not (et_B (ev_isi (b := true) (ev_var rfl) (k_ty "list" "list" true)))) fun _ => et_test (ev_op (ev_cb (ea_cons (ev_var rfl) ea_nil) rc_len) (ev_askN (A := A) (ev_var rfl)) (rv_ne rfl rfl))) ?_) (fun z => nomatch z) fun _ => run_next ?_)
    · rw [eqv_int, List.length_map, hl]
      simp
    · refine run_ret (ev_is (ev_cb (ea_cons (evn_is (evn_lc (K := K) W dW (fun _ => true) (fun _ => .bool true) (src_list (evg_var (d := dWs W) rfl)) rfl (by omega) (fun x hx => ?_)) (es := (W.map fun _ => true).map .bool) ?_).ev ea_nil) rc_all) ?_) ⟨rfl, fun z => nomatch z⟩
      · refine ⟨_, _, tg_name, by decide, et_yes, fun _ => ⟨ev_is (ev_andB (b := true) (ev_isi (b := true) (ev_var (d := dW x) rfl) (k_ty "str" "str" true)) fun _ => ev_is (ev_op (ev_var (d := dW x) rfl) (ev_tup (ds := ([wS true, wS false] : List Str).map .str) (ea_cons (ev_str (i := "on")) (ea_cons (ev_str (i := "back")) ea_nil))) rv_inS) ?_) rfl, rfl⟩⟩
        rw [if_neg Bool.false_ne_true, in_both]
      · rw [filter_all, List.map_map]
        rfl
      · simp
  · exact run_seq (run_if (b := true) (evt_is (et_or (b := true) (et_not (et_B (ev_isi (b := false) (ev_var rfl) (k_ty "tuple" "list" false)))) fun h => nomatch h) rfl) (fun _ => run_ret ev_bl ⟨rfl, fun z => nomatch z⟩) fun z => nomatch z)
abbrev s_sent_by : Stmt := topS 31
theorem sc_sent_by : FnScope ["ring", "ways", "ask", "way"] ["ring", "ways"] (defScope s_sent_by) := ⟨rfl, rfl, rfl, by decide +kernel, rfl, by decide +kernel, by decide +kernel⟩
def R_sent_by (ds : List PyData) (d : PyData) : Prop := ∃ (A : List Ask) (W : List Bool), W.length = A.length ∧ A.length ≤ 20 ∧ ds = [dG A, dWs W] ∧ d = dS (sentBy A W)
abbrev sp_sent_by (K : PySem.W.Frag) : Sp := spD K true R_sent_by
theorem ok_sent_by (T : Txt K mg aN aB) {f : Addr} {fd : FuncData} (F : Df K mg "sent_by" s_sent_by ["ring", "ways"] f fd) : Cal P w K mg base 1 "sent_by" ["ring", "ways"] (sp_sent_by K) := by
  refine F.cal (k := 0) sc_sent_by (fun ds d h => by obtain ⟨A, W, hl, hz, rfl, rfl⟩ := h <;> rfl) (fun cdv A outer s H E hr => ⟨_, (pss_one (ps_ret (pe_lc (own := [("ask", 2), ("way", 3)]) (by rfl) sc_sent_by.nd (pi_zip (by rfl) T.b_zip (pa_cons (pe_ix ix_seq (pv 0) pe_int (fun _ _ => rfl)) (pa_cons (pv 1) pa_nil))) (blkOk_by (own := [("ask", 2), ("way", 3)]) (N := ["ring", "ways", "ask", "way"]) (sc := defScope s_sent_by) (by decide +kernel)) (fun _ _ _ _ _ => (show PG _ _ (gTup K 2 (gNames [2, 3])) from pg_tup rfl (pgs_cons (pg_name (i := 2) sc_sent_by.nd rfl (Or.inl rfl)) (pgs_cons (pg_name (i := 3) sc_sent_by.nd rfl (Or.inl rfl)) pgs_nil)))) (fun _ _ _ _ _ => pts_nil) (fun _ _ _ _ _ => (pe_ifExp (pt_cmpR (show OpR _ (compareOp .Eq) (rEqD K) from op_eqD hr.units) (pv 3) (pe_gc (by rfl) T.hON) (nomark _)) (pe_ix (show IxR _ (rIx K) from ix_seq) (pv 2) pe_int (fun _ _ => rfl)) (pe_gc (by rfl) T.hNOUGHT)))))), fun ds d h => ?_⟩)
  obtain ⟨A, W, hl, hz, rfl, rfl⟩ := h
  refine run_retF (d := dS (sentBy A W)) (evn_is (evn_lc (K := K) (A.zip W) (fun p => .tuple [dA p.1, dW p.2]) (fun _ => true) (fun p => dR (if p.2 then p.1.size else 0)) (src_zip (evg_asks (evg_var rfl)) (evg_var (d := dWs W) rfl) (by rw [List.length_map, List.length_map, hl])) ?_ (by rw [List.length_zip]; omega) (fun p hp => ?_)) ?_).evf ⟨rfl, fun _ => rfl⟩
  · unfold zipD
    rw [List.zip_map, List.map_map]
    rfl
  · refine ⟨_, _, tg_tup (is := [2, 3]) rfl rfl, by decide, et_yes, fun _ => ⟨ev_if (b := p.2) (evt_is (et_test (ev_op (ev_var (d := dW p.2) rfl) (ev_str (i := "on")) (rv_eq (sh_dW _) (sh_dW true)))) ((eqv_way p.2 true).trans (by cases p.2 <;> rfl))) (fun h => ?_) (fun h => ?_), rfl⟩⟩
    · rw [h, if_pos rfl]
      exact ev_ix (ev_var (d := dA p.1) rfl) ev_int rfl
    · rw [h, if_neg Bool.false_ne_true]
      exact ev_con (dp_nought T)
  · rw [filter_all]
    unfold sentBy
    rw [List.map_map]
    rfl
abbrev s_is_number : Stmt := topS 33
theorem sc_is_number : FnScope ["thing", "many"] ["thing", "many"] (defScope s_is_number) := ⟨rfl, rfl, rfl, by decide +kernel, rfl, by decide +kernel, by decide +kernel⟩
def R_is_number (ds : List PyData) (d : PyData) : Prop := ∃ i m : Int, ds = [.int i, .int m] ∧ d = .bool (decide (0 ≤ i) && decide (i < m))
abbrev sp_is_number (K : PySem.W.Frag) : Sp := spD K false R_is_number
theorem ok_is_number (T : Txt K mg aN aB) {f : Addr} {fd : FuncData} (F : Df K mg "is_number" s_is_number ["thing", "many"] f fd) (c_is_whole : Cal P w K mg base 1 "is_whole" ["thing"] (sp_is_whole K)) : Cal P w K mg base 2 "is_number" ["thing", "many"] (sp_is_number K) := by
  refine F.cal (k := 1) sc_is_number (fun ds d h => by obtain ⟨i, m, rfl, rfl⟩ := h <;> rfl) (fun cdv A outer s H E hr => ⟨_, (pss_one (ps_ret (pe_and (pe_cal c_is_whole (hr.mono (by decide)) (by rfl) (pa_cons (pv 0) pa_nil)) (pe_one (pe_chain op_le op_lt pe_int (pv 0) (pv 1)))))), fun ds d h => ?_⟩)
  obtain ⟨i, m, rfl, rfl⟩ := h
  exact run_ret (ev_is (ev_andB (a := true) (ev_call (ea_cons (ev_var rfl) ea_nil) ⟨i, rfl, rfl⟩) fun _ => ev_chain ev_int (ev_var rfl) (fun _ => ev_var rfl) rv_bool0 fun _ => rv_bool0) rfl) ⟨rfl, fun z => nomatch z⟩
abbrev s_gone_by : Stmt := topS 36
theorem sc_gone_by : FnScope ["ring", "sending", "k", "way"] ["ring", "sending", "k", "way"] (defScope s_gone_by) := ⟨rfl, rfl, rfl, by decide +kernel, rfl, by decide +kernel, by decide +kernel⟩
def R_gone_by (ds : List PyData) (d : PyData) : Prop := ∃ (A : List Ask) (S : List Rat) (k : Nat) (w : Bool), Rok A ∧ Sok A S ∧ k < A.length ∧ ds = [dG A, dS S, dN k, dW w] ∧ d = dR (gone A S k w)
abbrev sp_gone_by (K : PySem.W.Frag) : Sp := spD K false R_gone_by
theorem ok_gone_by (T : Txt K mg aN aB) {f : Addr} {fd : FuncData} (F : Df K mg "gone_by" s_gone_by ["ring", "sending", "k", "way"] f fd) (c_minus : Cal P w K mg base 3 "minus" ["one", "other"] (sp_minus K)) : Cal P w K mg base 4 "gone_by" ["ring", "sending", "k", "way"] (sp_gone_by K) := by
  refine F.cal (k := 3) sc_gone_by (fun ds d h => by obtain ⟨A, S, k, w, hA, hS, hk, rfl, rfl⟩ := h <;> rfl) (fun cdv A outer s H E hr => ⟨_, (pss_cons (ps_if (pt_cmpR (op_eqD hr.units) (pv 3) (pe_gc (by rfl) T.hON) (nomark _)) (pss_one (ps_ret (pe_ix ix_seq (pv 1) (pv 2) (fun _ _ => rfl)))) pss_nil)
    (pss_one (ps_ret (pe_cal c_minus (hr.mono (by decide)) (by rfl) (pa_cons (pe_ix ix_seq (pe_ix ix_seq (pe_ix ix_seq (pv 0) pe_int (fun _ _ => rfl)) (pv 2) (fun _ _ => rfl)) pe_int (fun _ _ => rfl)) (pa_cons (pe_ix ix_seq (pv 1) (pv 2) (fun _ _ => rfl)) pa_nil)))))), fun ds d h => ?_⟩)
  obtain ⟨A, S, k, w, hA, hS, hk, rfl, rfl⟩ := h
  refine run_seq (run_if (b := w) (evt_is (et_test (ev_op (ev_var (d := dW w) rfl) (ev_str (i := "on")) (rv_eq (sh_dW _) (sh_dW true)))) ((eqv_way w true).trans (by cases w <;> rfl))) (fun h => ?_) fun h => run_next ?_)
  · subst h
    exact run_ret (ev_part (ev_var rfl) (ev_var rfl) (by rw [hS.len]; exact hk)) ⟨rfl, fun z => nomatch z⟩
  · subst h
    exact run_ret (ev_call (ea_cons (ev_size (ev_var rfl) (ev_var rfl) hk) (ea_cons (ev_part (ev_var rfl) (ev_var rfl) (by rw [hS.len]; exact hk)) ea_nil)) ⟨_, _, lo_sm (fin_lo (hA.at hk).fn), lo_sm (fin_lo (hS.fn k hk)), rfl, rfl⟩) ⟨rfl, fun z => nomatch z⟩
abbrev s_are_apart : Stmt := topS 37
theorem sc_are_apart : FnScope ["ring", "k", "way", "l", "other", "ties", "tie"] ["ring", "k", "way", "l", "other"] (defScope s_are_apart) := ⟨rfl, rfl, rfl, by decide +kernel, rfl, by decide +kernel, by decide +kernel⟩
def R_are_apart (ds : List PyData) (d : PyData) : Prop := ∃ (A : List Ask) (k : Nat) (v : Bool) (l : Nat) (o : Bool), Rok A ∧ k < A.length ∧ l < A.length ∧ ds = [dG A, dN k, dW v, dN l, dW o] ∧ d = .bool (apart (askAt A k) v (askAt A l) o)
abbrev sp_are_apart (K : PySem.W.Frag) : Sp := spD K false R_are_apart
theorem ok_are_apart (T : Txt K mg aN aB) {f : Addr} {fd : FuncData} (F : Df K mg "are_apart" s_are_apart ["ring", "k", "way", "l", "other"] f fd) (c_ties_of : Cal P w K mg base 1 "ties_of" ["ring", "k", "way"] (sp_ties_of K)) : Cal P w K mg base 2 "are_apart" ["ring", "k", "way", "l", "other"] (sp_are_apart K) := by
  refine F.cal (k := 1) sc_are_apart (fun ds d h => by obtain ⟨A, k, v, l, o, hA, hk, hl, rfl, rfl⟩ := h <;> rfl) (fun cdv A outer s H E hr => ⟨_, (pss_cons (ps_set (i := 5) sc_are_apart.nd rfl (Or.inr rfl) (pe_cal c_ties_of (hr.mono (by decide)) (by rfl) (pa_cons (pv 0) (pa_cons (pv 3) (pa_cons (pv 4) pa_nil)))))
    (pss_one (ps_ret (pe_cmpR (op_eqD hr.units) (pe_lc (own := [("tie", 6)]) (by rfl) sc_are_apart.nd (pi_list (pe_cal c_ties_of (hr.mono (by decide)) (by rfl) (pa_cons (pv 0) (pa_cons (pv 1) (pa_cons (pv 2) pa_nil))))) (blkOk_by (own := [("tie", 6)]) (N := ["ring", "k", "way", "l", "other", "ties", "tie"]) (sc := defScope s_are_apart) (by decide +kernel)) (fun _ _ _ _ _ => (pg_name (i := 6) sc_are_apart.nd rfl (Or.inl rfl))) (fun _ _ _ _ _ => (pts_one (pt_cmpR (show OpR _ (compareOp .In) (rIn K false) from op_in_seq) (pv 6) (pv 5) (by rfl)))) (fun _ _ _ _ _ => (pv 6))) (pe_lst pa_nil) (nomark _))))), fun ds d h => ?_⟩)
  obtain ⟨A, k, v, l, o, hA, hk, hl, rfl, rfl⟩ := h
  refine run_seq (run_asg ((evf_call (ea_cons (ev_var rfl) (ea_cons (ev_var rfl) (ea_cons (ev_var rfl) ea_nil))) ⟨A, l, o, hA, hl, rfl, rfl⟩).st (lfA_int _)) ?_)
  have hz : (tiesL (askAt A k) v).length ≤ 100000 := by
    unfold tiesL
    split <;> (rw [List.length_map, List.length_range]; omega)
  refine run_ret (ev_op (evn_lc (K := K) (tiesL (askAt A k) v) .int (fun t => decide (t ∈ tiesL (askAt A l) o)) .int (src_list ((evf_call (ea_cons (ev_var rfl) (ea_cons (ev_var rfl) (ea_cons (ev_var rfl) ea_nil))) ⟨A, k, v, hA, hk, rfl, rfl⟩).st (lfA_int _))) rfl hz (fun t ht => ?_)).ev (evn_lst ea_nil).ev (rv_eq (sh_map _ (fun _ => rfl) (fun _ => by simp [PyData.depth])) sh_nil)) ⟨?_, fun z => nomatch z⟩
  · exact ⟨_, _, tg_name, by decide, et_test (ev_is (ev_op (ev_var (d := .int t) rfl) (ev_var (d := .list ((tiesL (askAt A l) o).map .int)) rfl) rv_inL) (by rw [if_neg Bool.false_ne_true])), fun _ => ⟨ev_var rfl, rfl⟩⟩
  · rw [eqv_nil]
    unfold apart
    cases (tiesL (askAt A k) v).filter fun t => decide (t ∈ tiesL (askAt A l) o) <;> rfl
abbrev s_is_way : Stmt := topS 38
theorem sc_is_way : FnScope ["thing"] ["thing"] (defScope s_is_way) := ⟨rfl, rfl, rfl, by decide +kernel, rfl, by decide +kernel, by decide +kernel⟩
def R_is_way (ds : List PyData) (d : PyData) : Prop := ∃ v : Bool, ds = [dW v] ∧ d = .bool true
abbrev sp_is_way (K : PySem.W.Frag) : Sp := spD K false R_is_way
theorem ok_is_way (T : Txt K mg aN aB) {f : Addr} {fd : FuncData} (F : Df K mg "is_way" s_is_way ["thing"] f fd) : Cal P w K mg base 1 "is_way" ["thing"] (sp_is_way K) := by
  refine F.cal (k := 0) sc_is_way (fun ds d h => by obtain ⟨v, rfl, rfl⟩ := h <;> rfl) (fun cdv A outer s H E hr => ⟨_, (pss_one (ps_ret (pe_and (pe_callB call_isi (by rfl) T.b_isinstance (by decide +kernel) (pa_cons (pv 0) (pa_cons (pe_bltn (v := .ty "str") (by rfl) T.b_str (by decide +kernel) rfl) pa_nil))) (pe_one (pe_cmpR op_in_seq (pv 0) (pe_gc (by rfl) T.hBOTH) (by rfl)))))), fun ds d h => ?_⟩)
  obtain ⟨v, rfl, rfl⟩ := h
  refine run_ret (ev_is (ev_andB (b := true) (ev_isi (b := true) (ev_var (d := dW v) rfl) (k_ty "str" "str" true)) fun _ => ev_is (ev_op (ev_var (d := dW v) rfl) (ev_con (dp_both T)) rv_inS) ?_) rfl) ⟨rfl, fun z => nomatch z⟩
  rw [if_neg Bool.false_ne_true, in_both]
end
end Rg

set_option Elab.async false
set_option linter.all false
set_option maxRecDepth 100000
set_option maxHeartbeats 4000000
/-! Slides. -/
namespace Rg
open PySem PySem.Spec PyProof.Rows L2
def dP : Option (Bool × Bool) → PyData
  | none => .none
  | some p => .tuple [dW p.1, dW p.2]
def dO : Option Slide → PyData
  | none => .none
  | some s => dL s
theorem lf_dO (o : Option Slide) : lf (dO o) = true := by cases o <;> rfl
section
variable {P : Program} {w : World} {K : PySem.W.Frag} {mg : Str → Option Value} {base : Heap} {aN aB : Addr}
abbrev s_is_slide : Stmt := topS 39
theorem sc_is_slide : FnScope ["ring", "sending", "thing", "k", "way", "l", "other", "amount", "many"] ["ring", "sending", "thing"] (defScope s_is_slide) := ⟨rfl, rfl, rfl, by decide +kernel, rfl, by decide +kernel, by decide +kernel⟩
def R_is_slide (ds : List PyData) (d : PyData) : Prop := ∃ (A : List Ask) (S : List Rat) (s : Slide), Rok A ∧ Sok A S ∧ SlOk A S s ∧ ds = [dG A, dS S, dL s] ∧ d = .bool true
abbrev sp_is_slide (K : PySem.W.Frag) : Sp := spD K false R_is_slide
theorem ok_is_slide (T : Txt K mg aN aB) {f : Addr} {fd : FuncData} (F : Df K mg "is_slide" s_is_slide ["ring", "sending", "thing"] f fd) (c_under : Cal P w K mg base 1 "under" ["one", "other"] (sp_under K)) (c_are_apart : Cal P w K mg base 2 "are_apart" ["ring", "k", "way", "l", "other"] (sp_are_apart K)) (c_gone_by : Cal P w K mg base 4 "gone_by" ["ring", "sending", "k", "way"] (sp_gone_by K)) (c_is_number : Cal P w K mg base 2 "is_number" ["thing", "many"] (sp_is_number K)) (c_is_way : Cal P w K mg base 1 "is_way" ["thing"] (sp_is_way K)) (c_is_ratio : Cal P w K mg base 2 "is_ratio" ["thing"] (sp_is_ratio K)) (c_other_way : Cal P w K mg base 1 "other_way" ["way"] (sp_other_way K)) : Cal P w K mg base 5 "is_slide" ["ring", "sending", "thing"] (sp_is_slide K) := by
  refine F.cal (k := 4) sc_is_slide (fun ds d h => by obtain ⟨A, S, z, hA, hS, hz, rfl, rfl⟩ := h <;> rfl) (fun cdv A outer s H E hr => ⟨_, (pss_cons (ps_if (PW.pt (pw_or (pt_not (pt_val (pe_callB call_isi (by rfl) T.b_isinstance (by decide +kernel) (pa_cons (pv 2) (pa_cons (pe_bltn (v := .ty "tuple") (by rfl) T.b_tuple (by decide +kernel) rfl) pa_nil))))) (pw_or1 (pt_cmpR (op_neD hr.units) (pe_callB call_len_seq (by rfl) T.b_len (by decide +kernel) (pa_cons (pv 2) pa_nil)) pe_int (nomark _))))) (pss_one (ps_ret pe_bl)) pss_nil)
    (pss_cons (ps_asg (pv 2) (pg_tup rfl (pgs_cons (pg_name (i := 3) sc_is_slide.nd rfl (Or.inl rfl)) (pgs_cons (pg_name (i := 4) sc_is_slide.nd rfl (Or.inl rfl)) (pgs_cons (pg_name (i := 5) sc_is_slide.nd rfl (Or.inl rfl)) (pgs_cons (pg_name (i := 6) sc_is_slide.nd rfl (Or.inl rfl)) (pgs_cons (pg_name (i := 7) sc_is_slide.nd rfl (Or.inl rfl)) pgs_nil)))))))
    (pss_cons (ps_set (i := 8) sc_is_slide.nd rfl (Or.inl rfl) (pe_callB call_len_seq (by rfl) T.b_len (by decide +kernel) (pa_cons (pe_ix ix_seq (pv 0) pe_int (fun _ _ => rfl)) pa_nil)))
    (pss_cons (ps_if (PW.pt (pw_or (pt_not (pt_val (pe_cal c_is_number (hr.mono (by decide)) (by rfl) (pa_cons (pv 3) (pa_cons (pv 8) pa_nil))))) (pw_or (pt_not (pt_val (pe_cal c_is_number (hr.mono (by decide)) (by rfl) (pa_cons (pv 5) (pa_cons (pv 8) pa_nil))))) (pw_or (pt_cmpR (op_eqD hr.units) (pv 3) (pv 5) (nomark _)) (pw_or (pt_not (pt_val (pe_cal c_is_way (hr.mono (by decide)) (by rfl) (pa_cons (pv 4) pa_nil)))) (pw_or1 (pt_not (pt_val (pe_cal c_is_way (hr.mono (by decide)) (by rfl) (pa_cons (pv 6) pa_nil)))))))))) (pss_one (ps_ret pe_bl)) pss_nil)
    (pss_cons (ps_if (PW.pt (pw_or (pt_not (pt_val (pe_cal c_is_ratio (hr.mono (by decide)) (by rfl) (pa_cons (pv 7) pa_nil)))) (pw_or1 (pt_not (pt_val (pe_cal c_under (hr.mono (by decide)) (by rfl) (pa_cons (pe_gc (by rfl) T.hNOUGHT) (pa_cons (pv 7) pa_nil)))))))) (pss_one (ps_ret pe_bl)) pss_nil)
    (pss_cons (ps_if (pt_val (pe_cal c_under (hr.mono (by decide)) (by rfl) (pa_cons (pe_cal c_gone_by (hr.mono (by decide)) (by rfl) (pa_cons (pv 0) (pa_cons (pv 1) (pa_cons (pv 3) (pa_cons (pe_cal c_other_way (hr.mono (by decide)) (by rfl) (pa_cons (pv 4) pa_nil)) pa_nil))))) (pa_cons (pv 7) pa_nil)))) (pss_one (ps_ret pe_bl)) pss_nil)
    (pss_cons (ps_if (pt_val (pe_cal c_under (hr.mono (by decide)) (by rfl) (pa_cons (pe_cal c_gone_by (hr.mono (by decide)) (by rfl) (pa_cons (pv 0) (pa_cons (pv 1) (pa_cons (pv 5) (pa_cons (pe_cal c_other_way (hr.mono (by decide)) (by rfl) (pa_cons (pv 6) pa_nil)) pa_nil))))) (pa_cons (pv 7) pa_nil)))) (pss_one (ps_ret pe_bl)) pss_nil)
    (pss_one (ps_ret (pe_cal c_are_apart (hr.mono (by decide)) (by rfl) (pa_cons (pv 0) (pa_cons (pv 3) (pa_cons (pv 4) (pa_cons (pv 5) (pa_cons (pv 6) pa_nil))))))))))))))), fun ds d h => ?_⟩)
  obtain ⟨A, S, z, hA, hS, hz, rfl, rfl⟩ := h
  have g1 : lo (gone A S z.k (!z.way)) := fin_lo (gone_fin hA hS hz.hk)
  have g2 : lo (gone A S z.l (!z.other)) := fin_lo (gone_fin hA hS hz.hl)
  have n1 : decide (gone A S z.k (!z.way) < z.amt) = false := decide_eq_false (by have := hz.a1; grind)
  have n2 : decide (gone A S z.l (!z.other) < z.amt) = false := decide_eq_false (by have := hz.a2; grind)
  refine run_seq (run_if (b := false) (evt_is (et_or (et_not (et_B (ev_isi (b := true) (ev_var (d := dL z) rfl) (k_ty "tuple" "tuple" true)))) fun _ => et_test (ev_op (ev_cb (ea_cons (ev_var (d := dL z) rfl) ea_nil) rc_lenT) ev_int (rv_ne rfl rfl))) rfl) (fun z => nomatch z) fun _ => run_next ?_)
  refine run_seq (run_unpack ((ev_var (d := dL z) rfl).flat rfl) (tg_tup (is := [3, 4, 5, 6, 7]) rfl rfl) ?_)
  refine run_seq (run_asg ((ev_askN (A := A) (ev_var rfl)).flat rfl) ?_)
  refine run_seq (run_if (b := false) (evt_is (et_or (et_not (et_B (ev_call (ea_cons (ev_var rfl) (ea_cons (ev_var rfl) ea_nil)) ⟨z.k, A.length, rfl, rfl⟩))) fun _ => et_or (et_not (et_B (ev_call (ea_cons (ev_var rfl) (ea_cons (ev_var rfl) ea_nil)) ⟨z.l, A.length, rfl, rfl⟩))) fun _ =>
    et_or (et_test (ev_op (ev_var (d := dN z.k) rfl) (ev_var (d := dN z.l) rfl) (rv_eq rfl rfl))) fun _ => et_or (et_not (et_B (ev_call (ea_cons (ev_var rfl) ea_nil) ⟨z.way, rfl, rfl⟩))) fun _ => et_not (et_B (ev_call (ea_cons (ev_var rfl) ea_nil) ⟨z.other, rfl, rfl⟩))) ?_) (fun z => nomatch z) fun _ => run_next ?_)
  · have h1 := hz.hk
    have h2 := hz.hl
    have h3 := hz.ne
    have e : PyData.eqv (dN z.k) (dN z.l) = false := by
      show PyData.eqv (.int z.k) (.int z.l) = false
      rw [eqv_int]
      exact decide_eq_false (by omega)
    rw [e]
    simp [h1, h2]
  refine run_seq (run_if (b := false) (evt_is (et_or (et_not (et_B (ev_call (ea_cons (ev_var rfl) ea_nil) ⟨z.amt, rfl, rfl⟩))) fun _ => et_not (et_B (ev_call (ea_cons (ev_con (dp_nought T)) (ea_cons (ev_var rfl) ea_nil)) ⟨0, z.amt, lo_sm lo_zero, lo_sm (fin_lo hz.fn), rfl, rfl⟩))) ?_) (fun z => nomatch z) fun _ => run_next ?_)
  · simp [hz.pos]
  refine run_seq (run_if (b := false) (evt_is (et_B (ev_call (ea_cons (ev_call (ea_cons (ev_var rfl) (ea_cons (ev_var rfl) (ea_cons (ev_var rfl) (ea_cons (ev_call (ea_cons (ev_var rfl) ea_nil) ⟨z.way, rfl, rfl⟩) ea_nil)))) ⟨A, S, z.k, !z.way, hA, hS, hz.hk, rfl, rfl⟩) (ea_cons (ev_var rfl) ea_nil)) ⟨_, z.amt, lo_sm g1, lo_sm (fin_lo hz.fn), rfl, rfl⟩)) n1) (fun z => nomatch z) fun _ => run_next ?_)
  refine run_seq (run_if (b := false) (evt_is (et_B (ev_call (ea_cons (ev_call (ea_cons (ev_var rfl) (ea_cons (ev_var rfl) (ea_cons (ev_var rfl) (ea_cons (ev_call (ea_cons (ev_var rfl) ea_nil) ⟨z.other, rfl, rfl⟩) ea_nil)))) ⟨A, S, z.l, !z.other, hA, hS, hz.hl, rfl, rfl⟩) (ea_cons (ev_var rfl) ea_nil)) ⟨_, z.amt, lo_sm g2, lo_sm (fin_lo hz.fn), rfl, rfl⟩)) n2) (fun z => nomatch z) fun _ => run_next ?_)
  exact run_ret (ev_call (ea_cons (ev_var rfl) (ea_cons (ev_var rfl) (ea_cons (ev_var rfl) (ea_cons (ev_var rfl) (ea_cons (ev_var rfl) ea_nil))))) ⟨A, z.k, z.way, z.l, z.other, hA, hz.hk, hz.hl, rfl, rfl⟩) ⟨by rw [hz.ap], fun z => nomatch z⟩
abbrev s_moved : Stmt := topS 40
theorem sc_moved : FnScope ["sending", "k", "way", "amount", "found"] ["sending", "k", "way", "amount"] (defScope s_moved) := ⟨rfl, rfl, rfl, by decide +kernel, rfl, by decide +kernel, by decide +kernel⟩
def R_moved (ds : List PyData) (d : PyData) : Prop := ∃ (S : List Rat) (k : Nat) (v : Bool) (x : Rat), k < S.length ∧ sm (partAt S k) ∧ sm x ∧ ds = [dS S, dN k, dW v, dR x] ∧ d = dS (movedS S k v x)
abbrev sp_moved (K : PySem.W.Frag) : Sp := spD K true R_moved
theorem ok_moved (T : Txt K mg aN aB) {f : Addr} {fd : FuncData} (F : Df K mg "moved" s_moved ["sending", "k", "way", "amount"] f fd) (c_plus : Cal P w K mg base 3 "plus" ["one", "other"] (sp_plus K)) (c_minus : Cal P w K mg base 3 "minus" ["one", "other"] (sp_minus K)) : Cal P w K mg base 4 "moved" ["sending", "k", "way", "amount"] (sp_moved K) := by
  refine F.cal (k := 3) sc_moved (fun ds d h => by obtain ⟨S, k, v, x, hk, h1, h2, rfl, rfl⟩ := h <;> rfl) (fun cdv A outer s H E hr => ⟨_, (pss_cons (ps_set (i := 4) sc_moved.nd rfl (Or.inl rfl) (pe_callTy call_list_of (by rfl) T.b_list (by decide +kernel) (pa_cons (pv 0) pa_nil)))
    (pss_cons (ps_if (pt_cmpR (op_eqD hr.units) (pv 2) (pe_gc (by rfl) T.hON) (nomark _)) (pss_one (ps_asg (pe_cal c_plus (hr.mono (by decide)) (by rfl) (pa_cons (pe_ix ix_seq (pv 4) (pv 1) (fun _ _ => rfl)) (pa_cons (pv 3) pa_nil))) (pg_sub (pv 4) (pv 1) set_list))) (pss_one (ps_asg (pe_cal c_minus (hr.mono (by decide)) (by rfl) (pa_cons (pe_ix ix_seq (pv 4) (pv 1) (fun _ _ => rfl)) (pa_cons (pv 3) pa_nil))) (pg_sub (pv 4) (pv 1) set_list))))
    (pss_one (ps_ret (pv 4))))), fun ds d h => ?_⟩)
  obtain ⟨S, k, v, x, hk, h1, h2, rfl, rfl⟩ := h
  refine run_seq (run_asgN (evn_cb (ea_cons (ev_var (d := dS S) rfl) ea_nil) rcn_list) (lfA_dR S) ?_)
  have gx : Ev K (tOp (rIx K) (tVar 4) (tVar 1)) [.val (dS S), .val (dN k), .val (dW v), .val (dR x), .own (S.map dR)] (dR (partAt S k)) := ev_part (ev_var (d := dS S) rfl) (ev_var rfl) hk
  refine run_seq (run_if (b := v) (evt_is (et_test (ev_op (ev_var (d := dW v) rfl) (ev_str (i := "on")) (rv_eq (sh_dW _) (sh_dW true)))) ((eqv_way v true).trans (by cases v <;> rfl))) (fun h => ?_) fun h => ?_)
  · subst h
    refine run_setL (k := (k : Int)) (ev_call (ea_cons gx (ea_cons (ev_var rfl) ea_nil)) ⟨_, _, h1, h2, rfl, rfl⟩) rfl rfl (ev_var rfl) (by omega) (by rw [Int.toNat_natCast, List.length_map]; exact hk) ?_
    refine run_retO (ds := (movedS S k true x).map dR) ?_ ⟨rfl, fun _ => rfl⟩
    unfold movedS
    rw [Int.toNat_natCast, ← List.map_set]
    rfl
  · subst h
    refine run_setL (k := (k : Int)) (ev_call (ea_cons gx (ea_cons (ev_var rfl) ea_nil)) ⟨_, _, h1, h2, rfl, rfl⟩) rfl rfl (ev_var rfl) (by omega) (by rw [Int.toNat_natCast, List.length_map]; exact hk) ?_
    refine run_retO (ds := (movedS S k false x).map dR) ?_ ⟨rfl, fun _ => rfl⟩
    unfold movedS
    rw [Int.toNat_natCast, ← List.map_set]
    rfl
abbrev s_slid : Stmt := topS 41
theorem sc_slid : FnScope ["sending", "slide", "k", "way", "l", "other", "amount"] ["sending", "slide"] (defScope s_slid) := ⟨rfl, rfl, rfl, by decide +kernel, rfl, by decide +kernel, by decide +kernel⟩
def R_slid (ds : List PyData) (d : PyData) : Prop := ∃ (S : List Rat) (s : Slide), s.k < S.length ∧ s.l < S.length ∧ (∀ j, j < S.length → fin (partAt S j)) ∧ fin s.amt ∧ ds = [dS S, dL s] ∧ d = dS (slidS S s)
abbrev sp_slid (K : PySem.W.Frag) : Sp := spD K true R_slid
theorem ok_slid (T : Txt K mg aN aB) {f : Addr} {fd : FuncData} (F : Df K mg "slid" s_slid ["sending", "slide"] f fd) (c_moved : Cal P w K mg base 4 "moved" ["sending", "k", "way", "amount"] (sp_moved K)) : Cal P w K mg base 5 "slid" ["sending", "slide"] (sp_slid K) := by
  refine F.cal (k := 4) sc_slid (fun ds d h => by obtain ⟨S, z, h1, h2, h3, h4, rfl, rfl⟩ := h <;> rfl) (fun cdv A outer s H E hr => ⟨_, (pss_cons (ps_asg (pv 1) (pg_tup rfl (pgs_cons (pg_name (i := 2) sc_slid.nd rfl (Or.inl rfl)) (pgs_cons (pg_name (i := 3) sc_slid.nd rfl (Or.inl rfl)) (pgs_cons (pg_name (i := 4) sc_slid.nd rfl (Or.inl rfl)) (pgs_cons (pg_name (i := 5) sc_slid.nd rfl (Or.inl rfl)) (pgs_cons (pg_name (i := 6) sc_slid.nd rfl (Or.inl rfl)) pgs_nil)))))))
    (pss_one (ps_ret (pe_cal c_moved (hr.mono (by decide)) (by rfl) (pa_cons (pe_cal c_moved (hr.mono (by decide)) (by rfl) (pa_cons (pv 0) (pa_cons (pv 2) (pa_cons (pv 3) (pa_cons (pv 6) pa_nil))))) (pa_cons (pv 4) (pa_cons (pv 5) (pa_cons (pv 6) pa_nil)))))))), fun ds d h => ?_⟩)
  obtain ⟨S, z, h1, h2, h3, h4, rfl, rfl⟩ := h
  refine run_seq (run_unpack ((ev_var (d := dL z) rfl).flat rfl) (tg_tup (is := [2, 3, 4, 5, 6]) rfl rfl) ?_)
  exact run_retF (evf_call (ea_cons (ev_call (ea_cons (ev_var rfl) (ea_cons (ev_var rfl) (ea_cons (ev_var rfl) (ea_cons (ev_var rfl) ea_nil)))) ⟨S, z.k, z.way, z.amt, h1, lo_sm (fin_lo (h3 _ h1)), lo_sm (fin_lo h4), rfl, rfl⟩) (ea_cons (ev_var rfl) (ea_cons (ev_var rfl) (ea_cons (ev_var rfl) ea_nil))))
    ⟨movedS S z.k z.way z.amt, z.l, z.other, z.amt, by rw [movedS_len]; exact h2, lo_sm (fin_lo (movedS_fin h1 h3 h4 _ (by rw [movedS_len]; exact h2))), lo_sm (fin_lo h4), rfl, rfl⟩) ⟨rfl, fun _ => rfl⟩
abbrev s_slid_by : Stmt := topS 42
theorem sc_slid_by : FnScope ["ring", "sending", "thing", "found", "number", "one"] ["ring", "sending", "thing"] (defScope s_slid_by) := ⟨rfl, rfl, rfl, by decide +kernel, rfl, by decide +kernel, by decide +kernel⟩
def R_slid_by (ds : List PyData) (d : PyData) : Prop := ∃ (A : List Ask) (S : List Rat) (l : List Slide), Rok A ∧ Sok A S ∧ Chain A S l ∧ ds = [dG A, dS S, dLs l] ∧ d = dS (slidAll S l)
abbrev sp_slid_by (K : PySem.W.Frag) : Sp := spD K false R_slid_by
theorem ok_slid_by (T : Txt K mg aN aB) {f : Addr} {fd : FuncData} (F : Df K mg "slid_by" s_slid_by ["ring", "sending", "thing"] f fd) (c_slid : Cal P w K mg base 5 "slid" ["sending", "slide"] (sp_slid K)) (c_is_slide : Cal P w K mg base 5 "is_slide" ["ring", "sending", "thing"] (sp_is_slide K)) : Cal P w K mg base 6 "slid_by" ["ring", "sending", "thing"] (sp_slid_by K) := by
  refine F.cal (k := 5) sc_slid_by (fun ds d h => by obtain ⟨A, S, l, hA, hS, hc, rfl, rfl⟩ := h <;> rfl) (fun cdv A outer s H E hr => ⟨_, (pss_cons (ps_if (pt_not (pt_val (pe_callB call_isi (by rfl) T.b_isinstance (by decide +kernel) (pa_cons (pv 2) (pa_cons (pe_bltn (v := .ty "list") (by rfl) T.b_list (by decide +kernel) rfl) pa_nil))))) (pss_one ps_never) pss_nil)
    (pss_cons (ps_set (i := 3) sc_slid_by.nd rfl (Or.inl rfl) (pe_callTy call_list_of (by rfl) T.b_list (by decide +kernel) (pa_cons (pv 1) pa_nil)))
    (pss_cons (ps_for PassesOwn.never rfl (pi_enum (by rfl) T.b_enumerate (pa_cons (pv 2) pa_nil)) (pg_tup rfl (pgs_cons (pg_name (i := 4) sc_slid_by.nd rfl (Or.inl rfl)) (pgs_cons (pg_name (i := 5) sc_slid_by.nd rfl (Or.inl rfl)) pgs_nil))) (pss_cons (ps_if (pt_not (pt_val (pe_cal c_is_slide (hr.mono (by decide)) (by rfl) (pa_cons (pv 0) (pa_cons (pv 3) (pa_cons (pv 5) pa_nil)))))) (pss_one ps_never) pss_nil)
    (pss_one (ps_set (i := 3) sc_slid_by.nd rfl (Or.inl rfl) (pe_cal c_slid (hr.mono (by decide)) (by rfl) (pa_cons (pv 3) (pa_cons (pv 5) pa_nil)))))))
    (pss_one (ps_ret (pv 3)))))), fun ds d h => ?_⟩)
  obtain ⟨A, S, l, hA, hS, hc, rfl, rfl⟩ := h
  refine run_seq (run_if (b := false) (evt_is (et_not (et_B (ev_isi (b := true) (ev_var (d := dLs l) rfl) (k_ty "list" "list" true)))) rfl) (fun z => nomatch z) fun _ => run_next ?_)
  refine run_seq (run_asg ((evn_cb (ea_cons (ev_var (d := dS S) rfl) ea_nil) rcn_list).st (lfA_dR S)) ?_)
  refine run_seq (run_for (src_enum (evg_var (d := .list (l.map dL)) rfl)) (fun i s => ∃ x y, s = [.val (dG A), .val (dS S), .val (dLs l), .val (dS (slidAll S (l.take i))), x, y]) ⟨_, _, rfl⟩ (fun i d s' hd hI => ?_) fun s' hI => ?_)
  · obtain ⟨x, y, rfl⟩ := hI
    have hi : i < l.length := by
      have := (List.getElem?_eq_some_iff.mp hd).1
      simpa [enuD] using this
    have e1 : l[i]? = some l[i] := List.getElem?_eq_getElem hi
    obtain ⟨c1, c2⟩ := chain_at hS hc e1
    have e : d = .tuple [dN i, dL l[i]] := by
      simp [enuD, e1] at hd
      exact hd.symm
    subst e
    refine ⟨_, _, tg_tup (is := [4, 5]) rfl rfl, ?_⟩
    refine run_seq (run_if (b := false) (evt_is (et_not (et_B (ev_call (ea_cons (ev_var rfl) (ea_cons (ev_var rfl) (ea_cons (ev_var rfl) ea_nil))) ⟨A, _, l[i], hA, c2, c1, rfl, rfl⟩))) rfl) (fun z => nomatch z) fun _ => run_next ?_)
    refine run_asg ((evf_call (ea_cons (ev_var rfl) (ea_cons (ev_var rfl) ea_nil)) ⟨_, l[i], by rw [c2.len]; exact c1.hk, by rw [c2.len]; exact c1.hl, fun j hj => c2.fn j (by rw [← c2.len]; exact hj), c1.fn, rfl, rfl⟩).st (lfA_dR _)) ?_
    rw [slidAll_more e1]
    exact ⟨_, _, rfl⟩
  · obtain ⟨x, y, rfl⟩ := hI
    refine run_ret (ev_var rfl) ⟨?_, fun z => nomatch z⟩
    have e : (enuD (l.map dL)).length = l.length := by simp [enuD]
    rw [e, List.take_length]
abbrev s_ways_apart : Stmt := topS 43
theorem sc_ways_apart : FnScope ["ring", "k", "l", "way", "other"] ["ring", "k", "l"] (defScope s_ways_apart) := ⟨rfl, rfl, rfl, by decide +kernel, rfl, by decide +kernel, by decide +kernel⟩
def R_ways_apart (ds : List PyData) (d : PyData) : Prop := ∃ (A : List Ask) (k l : Nat), Rok A ∧ k < A.length ∧ l < A.length ∧ ds = [dG A, dN k, dN l] ∧ d = dP (waysApart (askAt A k) (askAt A l))
abbrev sp_ways_apart (K : PySem.W.Frag) : Sp := spD K false R_ways_apart
theorem ok_ways_apart (T : Txt K mg aN aB) {f : Addr} {fd : FuncData} (F : Df K mg "ways_apart" s_ways_apart ["ring", "k", "l"] f fd) (c_are_apart : Cal P w K mg base 2 "are_apart" ["ring", "k", "way", "l", "other"] (sp_are_apart K)) : Cal P w K mg base 3 "ways_apart" ["ring", "k", "l"] (sp_ways_apart K) := by
  refine F.cal (k := 2) sc_ways_apart (fun ds d h => by obtain ⟨A, k, l, hA, hk, hl, rfl, rfl⟩ := h <;> rfl) (fun cdv A outer s H E hr => ⟨_, (pss_cons (ps_for PassesOwn.never rfl (pi_tup (pe_gc (by rfl) T.hBOTH)) (pg_name (i := 3) sc_ways_apart.nd rfl (Or.inl rfl)) (pss_one (ps_for PassesOwn.never rfl (pi_tup (pe_gc (by rfl) T.hBOTH)) (pg_name (i := 4) sc_ways_apart.nd rfl (Or.inl rfl)) (pss_one (ps_if (pt_val (pe_cal c_are_apart (hr.mono (by decide)) (by rfl) (pa_cons (pv 0) (pa_cons (pv 1) (pa_cons (pv 3) (pa_cons (pv 2) (pa_cons (pv 4) pa_nil))))))) (pss_one (ps_ret (pe_tup (pa_cons (pv 3) (pa_cons (pv 4) pa_nil))))) pss_nil)))))
    (pss_one (ps_ret pe_non))), fun ds d h => ?_⟩)
  obtain ⟨A, k, l, hA, hk, hl, rfl, rfl⟩ := h
  let v : Nat → Bool := fun i => i == 0
  have hv : ∀ (i : Nat) d, (([wS true, wS false] : List Str).map PyData.str)[i]? = some d → i < 2 ∧ d = dW (v i) := fun i d h => by
    match i, h with
    | 0, h => cases h; exact ⟨by decide, rfl⟩
    | 1, h => cases h; exact ⟨by decide, rfl⟩
    | i + 2, h => simp at h
  let q : Nat → Nat → Bool := fun i j => apart (askAt A k) (v i) (askAt A l) (v j)
  refine run_seq (run_for (src_tup (evg_con (dp_both T))) (fun i s => (∃ x y, s = [.val (dG A), .val (dN k), .val (dN l), x, y]) ∧ ∀ i', i' < i → ∀ j, j < 2 → q i' j = false) ⟨⟨_, _, rfl⟩, fun i' h => by omega⟩ (fun i d s' hd hI => ?_) fun s' hI => ?_)
  · obtain ⟨⟨x, y, rfl⟩, h1⟩ := hI
    obtain ⟨hi, rfl⟩ := hv i d hd
    refine ⟨_, _, tg_name, run_for (src_tup (evg_con (dp_both T))) (fun j s => (∃ y, s = [.val (dG A), .val (dN k), .val (dN l), .val (dW (v i)), y]) ∧ ∀ j', j' < j → q i j' = false) ⟨⟨_, rfl⟩, fun j' h => by omega⟩ (fun j d s' hd hI => ?_) fun s' hI => ?_⟩
    · obtain ⟨⟨y, rfl⟩, h2⟩ := hI
      obtain ⟨hj, rfl⟩ := hv j d hd
      refine ⟨_, _, tg_name, run_if (b := q i j) (et_B (ev_call (ea_cons (ev_var rfl) (ea_cons (ev_var rfl) (ea_cons (ev_var rfl) (ea_cons (ev_var rfl) (ea_cons (ev_var rfl) ea_nil))))) ⟨A, k, v i, l, v j, hA, hk, hl, rfl, rfl⟩)) (fun h => ?_) fun h => run_next ⟨⟨_, rfl⟩, fun j' hj' => ?_⟩⟩
      · refine run_ret (ev_tup (ea_cons (ev_var rfl) (ea_cons (ev_var rfl) ea_nil))) ⟨?_, fun z => nomatch z⟩
        have e : waysApart (askAt A k) (askAt A l) = some (v i, v j) := by
          have c : (i = 0 ∨ i = 1) ∧ (j = 0 ∨ j = 1) := by omega
          obtain ⟨c1, c2⟩ := c
          unfold waysApart
          rcases c1 with rfl | rfl
          · rcases c2 with rfl | rfl
            · have h : apart (askAt A k) true (askAt A l) true = true := h
              rw [if_pos h]
              rfl
            · have a1 : apart (askAt A k) true (askAt A l) true = false := h2 0 (by omega)
              have h : apart (askAt A k) true (askAt A l) false = true := h
              rw [a1, if_neg Bool.false_ne_true, if_pos h]
              rfl
          · have a1 : apart (askAt A k) true (askAt A l) true = false := h1 0 (by omega) 0 (by omega)
            have a2 : apart (askAt A k) true (askAt A l) false = false := h1 0 (by omega) 1 (by omega)
            rcases c2 with rfl | rfl
            · have h : apart (askAt A k) false (askAt A l) true = true := h
              rw [a1, a2, if_neg Bool.false_ne_true, if_neg Bool.false_ne_true, if_pos h]
              rfl
            · have a3 : apart (askAt A k) false (askAt A l) true = false := h2 0 (by omega)
              have h : apart (askAt A k) false (askAt A l) false = true := h
              rw [a1, a2, a3, if_neg Bool.false_ne_true, if_neg Bool.false_ne_true, if_neg Bool.false_ne_true, if_pos h]
              rfl
        rw [e]
        rfl
      · by_cases e : j' = j
        · subst e; exact h
        · exact h2 j' (by omega)
    · obtain ⟨⟨y, rfl⟩, h2⟩ := hI
      refine ⟨⟨_, _, rfl⟩, fun i' hi' j hj => ?_⟩
      by_cases e : i' = i
      · subst e; exact h2 j hj
      · exact h1 i' (by omega) j hj
  · obtain ⟨⟨x, y, rfl⟩, h1⟩ := hI
    refine run_ret ev_non ⟨?_, fun z => nomatch z⟩
    have a1 : apart (askAt A k) true (askAt A l) true = false := h1 0 (by decide) 0 (by omega)
    have a2 : apart (askAt A k) true (askAt A l) false = false := h1 0 (by decide) 1 (by omega)
    have a3 : apart (askAt A k) false (askAt A l) true = false := h1 1 (by decide) 0 (by omega)
    have a4 : apart (askAt A k) false (askAt A l) false = false := h1 1 (by decide) 1 (by omega)
    unfold waysApart
    rw [a1, a2, a3, a4]
    rfl
abbrev s_next_slide : Stmt := topS 44
theorem sc_next_slide : FnScope ["ring", "sending", "parted", "k", "l", "way", "other", "first", "second"] ["ring", "sending"] (defScope s_next_slide) := ⟨rfl, rfl, rfl, by decide +kernel, rfl, by decide +kernel, by decide +kernel⟩
def R_next_slide (ds : List PyData) (d : PyData) : Prop := ∃ (A : List Ask) (S : List Rat), Rok A ∧ Sok A S ∧ ds = [dG A, dS S] ∧ d = dO (nextSlide A S)
abbrev sp_next_slide (K : PySem.W.Frag) : Sp := spD K false R_next_slide
theorem ok_next_slide (T : Txt K mg aN aB) {f : Addr} {fd : FuncData} (F : Df K mg "next_slide" s_next_slide ["ring", "sending"] f fd) (c_parted_in : Cal P w K mg base 3 "parted_in" ["ring", "sending"] (sp_parted_in K)) (c_ways_apart : Cal P w K mg base 3 "ways_apart" ["ring", "k", "l"] (sp_ways_apart K)) (c_gone_by : Cal P w K mg base 4 "gone_by" ["ring", "sending", "k", "way"] (sp_gone_by K)) (c_do_cross : Cal P w K mg base 1 "do_cross" ["ring", "k", "l"] (sp_do_cross K)) (c_other_way : Cal P w K mg base 1 "other_way" ["way"] (sp_other_way K)) (c_lesser : Cal P w K mg base 2 "lesser" ["one", "other"] (sp_lesser K)) : Cal P w K mg base 5 "next_slide" ["ring", "sending"] (sp_next_slide K) := by
  refine F.cal (k := 4) sc_next_slide (fun ds d h => by obtain ⟨A, S, hA, hS, rfl, rfl⟩ := h <;> rfl) (fun cdv A outer s H E hr => ⟨_, (pss_cons (ps_set (i := 2) sc_next_slide.nd rfl (Or.inl rfl) (pe_cal c_parted_in (hr.mono (by decide)) (by rfl) (pa_cons (pv 0) (pa_cons (pv 1) pa_nil))))
    (pss_cons (ps_for PassesOwn.never rfl (pi_list (pv 2)) (pg_name (i := 3) sc_next_slide.nd rfl (Or.inl rfl)) (pss_one (ps_for PassesOwn.never rfl (pi_list (pv 2)) (pg_name (i := 4) sc_next_slide.nd rfl (Or.inl rfl)) (pss_one (ps_if (PW.pt (pw_and (pt_cmpR op_lt (pv 3) (pv 4) (nomark _)) (pw_and1 (pt_not (pt_val (pe_cal c_do_cross (hr.mono (by decide)) (by rfl) (pa_cons (pv 0) (pa_cons (pv 3) (pa_cons (pv 4) pa_nil))))))))) (pss_cons (ps_asg (pe_cal c_ways_apart (hr.mono (by decide)) (by rfl) (pa_cons (pv 0) (pa_cons (pv 3) (pa_cons (pv 4) pa_nil)))) (pg_tup rfl (pgs_cons (pg_name (i := 5) sc_next_slide.nd rfl (Or.inl rfl)) (pgs_cons (pg_name (i := 6) sc_next_slide.nd rfl (Or.inl rfl)) pgs_nil))))
    (pss_cons (ps_set (i := 7) sc_next_slide.nd rfl (Or.inl rfl) (pe_cal c_gone_by (hr.mono (by decide)) (by rfl) (pa_cons (pv 0) (pa_cons (pv 1) (pa_cons (pv 3) (pa_cons (pe_cal c_other_way (hr.mono (by decide)) (by rfl) (pa_cons (pv 5) pa_nil)) pa_nil))))))
    (pss_cons (ps_set (i := 8) sc_next_slide.nd rfl (Or.inl rfl) (pe_cal c_gone_by (hr.mono (by decide)) (by rfl) (pa_cons (pv 0) (pa_cons (pv 1) (pa_cons (pv 4) (pa_cons (pe_cal c_other_way (hr.mono (by decide)) (by rfl) (pa_cons (pv 6) pa_nil)) pa_nil))))))
    (pss_one (ps_ret (pe_tup (pa_cons (pv 3) (pa_cons (pv 5) (pa_cons (pv 4) (pa_cons (pv 6) (pa_cons (pe_cal c_lesser (hr.mono (by decide)) (by rfl) (pa_cons (pv 7) (pa_cons (pv 8) pa_nil))) pa_nil))))))))))) pss_nil)))))
    (pss_one (ps_ret pe_non)))), fun ds d h => ?_⟩)
  obtain ⟨A, S, hA, hS, rfl, rfl⟩ := h
  refine run_seq (run_asg ((evf_call (ea_cons (ev_var rfl) (ea_cons (ev_var rfl) ea_nil)) ⟨A, S, hA, hS, rfl, rfl⟩).st (lfA_dN _)) ?_)
  generalize hP : partedL A S = Ps
  have hlt : ∀ k ∈ Ps, k < A.length := fun k hk => by rw [← hP] at hk; exact (parted_mem.mp hk).1
  have hN : nextSlide A S = Ps.findSome? (nextIn A S Ps) := by unfold nextSlide; rw [hP]
  refine run_seq (run_for (src_list (evg_var (d := .list (Ps.map dN)) rfl)) (fun i s => (∃ x3 x4 x5 x6 x7 x8, s = [.val (dG A), .val (dS S), .val (dNs Ps), x3, x4, x5, x6, x7, x8]) ∧ (Ps.take i).findSome? (nextIn A S Ps) = none) ⟨⟨_, _, _, _, _, _, rfl⟩, rfl⟩ (fun i d s' hd hI => ?_) fun s' hI => ?_)
  · obtain ⟨⟨x3, x4, x5, x6, x7, x8, rfl⟩, h1⟩ := hI
    obtain ⟨k, hk, rfl⟩ := map_get hd
    have hkA := hlt k (List.mem_of_getElem? hk)
    let f : Nat → Option Slide := fun l => if sideB A k l then some (mkSlide A S k l) else none
    have hf : nextIn A S Ps k = Ps.findSome? f := rfl
    refine ⟨_, _, tg_name, run_for (src_list (evg_var (d := .list (Ps.map dN)) rfl)) (fun j s => (∃ x4 x5 x6 x7 x8, s = [.val (dG A), .val (dS S), .val (dNs Ps), .val (dN k), x4, x5, x6, x7, x8]) ∧ (Ps.take j).findSome? f = none) ⟨⟨_, _, _, _, _, rfl⟩, rfl⟩ (fun j d s' hd hI => ?_) fun s' hI => ?_⟩
    · obtain ⟨⟨x4, x5, x6, x7, x8, rfl⟩, h2⟩ := hI
      obtain ⟨l, hl, rfl⟩ := map_get hd
      have hlA := hlt l (List.mem_of_getElem? hl)
      refine ⟨_, _, tg_name, run_if (b := sideB A k l) (evt_is (et_and (et_test (ev_op (ev_var (d := .int k) rfl) (ev_var (d := .int l) rfl) rv_bool0)) fun _ => et_not (et_B (ev_call (ea_cons (ev_var rfl) (ea_cons (ev_var rfl) (ea_cons (ev_var rfl) ea_nil))) ⟨A, k, l, hkA, hlA, rfl, rfl⟩))) (by rw [dec_lt]; rfl)) (fun h => ?_) fun h => run_next ⟨⟨_, _, _, _, _, rfl⟩, findSome_more hl h2 (by show (if sideB A k l then _ else _) = none; rw [h]; rfl)⟩⟩
      · have hc : crossB (askAt A k) (askAt A l) = false := by
          unfold sideB at h
          simp at h
          exact h.2
        obtain ⟨p, hp⟩ := waysApart_some (hA.at hkA) (hA.at hlA) hc
        have hmk : mkSlide A S k l = ⟨k, p.1, l, p.2, lesserR (gone A S k (!p.1)) (gone A S l (!p.2))⟩ := by unfold mkSlide; rw [hp]; rfl
        have g1 : lo (gone A S k (!p.1)) := fin_lo (gone_fin hA hS hkA)
        have g2 : lo (gone A S l (!p.2)) := fin_lo (gone_fin hA hS hlA)
        refine run_seq (run_unpack (d := dP (some p)) ((ev_is (ev_call (ea_cons (ev_var rfl) (ea_cons (ev_var rfl) (ea_cons (ev_var rfl) ea_nil))) ⟨A, k, l, hA, hkA, hlA, rfl, rfl⟩) (by rw [hp])).flat rfl) (tg_tup (is := [5, 6]) rfl rfl) ?_)
        refine run_seq (run_asg ((ev_call (ea_cons (ev_var rfl) (ea_cons (ev_var rfl) (ea_cons (ev_var rfl) (ea_cons (ev_call (ea_cons (ev_var rfl) ea_nil) ⟨p.1, rfl, rfl⟩) ea_nil)))) ⟨A, S, k, !p.1, hA, hS, hkA, rfl, rfl⟩).flat rfl) ?_)
        refine run_seq (run_asg ((ev_call (ea_cons (ev_var rfl) (ea_cons (ev_var rfl) (ea_cons (ev_var rfl) (ea_cons (ev_call (ea_cons (ev_var rfl) ea_nil) ⟨p.2, rfl, rfl⟩) ea_nil)))) ⟨A, S, l, !p.2, hA, hS, hlA, rfl, rfl⟩).flat rfl) ?_)
        refine run_ret (ev_tup (ea_cons (ev_var rfl) (ea_cons (ev_var rfl) (ea_cons (ev_var rfl) (ea_cons (ev_var rfl) (ea_cons (ev_call (ea_cons (ev_var rfl) (ea_cons (ev_var rfl) ea_nil)) ⟨_, _, lo_sm g1, lo_sm g2, rfl, rfl⟩) ea_nil)))))) ⟨?_, fun z => nomatch z⟩
        have e : nextSlide A S = some (mkSlide A S k l) := by
          rw [hN]
          refine findSome_at hk h1 ?_
          rw [hf]
          exact findSome_at hl h2 (by show (if sideB A k l then _ else _) = _; rw [h]; rfl)
        rw [e, hmk]
        rfl
    · obtain ⟨⟨x4, x5, x6, x7, x8, rfl⟩, h2⟩ := hI
      rw [List.length_map, List.take_length] at h2
      exact ⟨⟨_, _, _, _, _, _, rfl⟩, findSome_more hk h1 (hf.trans h2)⟩
  · obtain ⟨⟨x3, x4, x5, x6, x7, x8, rfl⟩, h1⟩ := hI
    rw [List.length_map, List.take_length] at h1
    refine run_ret ev_non ⟨?_, fun z => nomatch z⟩
    rw [hN, h1]
    rfl
abbrev s_slides_for : Stmt := topS 45
theorem sc_slides_for : FnScope ["ring", "sending", "found", "here", "slide"] ["ring", "sending"] (defScope s_slides_for) := ⟨rfl, rfl, rfl, by decide +kernel, rfl, by decide +kernel, by decide +kernel⟩
def R_slides_for (ds : List PyData) (d : PyData) : Prop := ∃ (A : List Ask) (S : List Rat), Rok A ∧ Sv A S ∧ ds = [dG A, dS S] ∧ d = dLs (slidesOf A S)
abbrev sp_slides_for (K : PySem.W.Frag) : Sp := spD K true R_slides_for
theorem ok_slides_for (T : Txt K mg aN aB) {f : Addr} {fd : FuncData} (F : Df K mg "slides_for" s_slides_for ["ring", "sending"] f fd) (c_next_slide : Cal P w K mg base 5 "next_slide" ["ring", "sending"] (sp_next_slide K)) (c_slid : Cal P w K mg base 5 "slid" ["sending", "slide"] (sp_slid K)) : Cal P w K mg base 6 "slides_for" ["ring", "sending"] (sp_slides_for K) := by
  refine F.cal (k := 5) sc_slides_for (fun ds d h => by obtain ⟨A, S, hA, hS, rfl, rfl⟩ := h <;> rfl) (fun cdv A outer s H E hr => ⟨_, (pss_cons (ps_set (i := 2) sc_slides_for.nd rfl (Or.inl rfl) (pe_lst pa_nil))
    (pss_cons (ps_set (i := 3) sc_slides_for.nd rfl (Or.inl rfl) (pe_callTy call_list_of (by rfl) T.b_list (by decide +kernel) (pa_cons (pv 1) pa_nil)))
    (pss_cons (ps_set (i := 4) sc_slides_for.nd rfl (Or.inl rfl) (pe_cal c_next_slide (hr.mono (by decide)) (by rfl) (pa_cons (pv 0) (pa_cons (pv 3) pa_nil))))
    (pss_cons (ps_while PassesOwn.never (pt_cmpR op_notN (pv 4) pe_non (nomark _)) (pss_cons (ps_expr (pe_bm PySem.F.plainAttrs_list PySem.F.slot_list_append PySem.F.type_list_append mt_append (pv 2) (pa_cons (pv 4) pa_nil)))
    (pss_cons (ps_set (i := 3) sc_slides_for.nd rfl (Or.inl rfl) (pe_cal c_slid (hr.mono (by decide)) (by rfl) (pa_cons (pv 3) (pa_cons (pv 4) pa_nil))))
    (pss_one (ps_set (i := 4) sc_slides_for.nd rfl (Or.inl rfl) (pe_cal c_next_slide (hr.mono (by decide)) (by rfl) (pa_cons (pv 0) (pa_cons (pv 3) pa_nil))))))))
    (pss_one (ps_ret (pv 2))))))), fun ds d h => ?_⟩)
  obtain ⟨A, S, hA, hS, rfl, rfl⟩ := h
  have hlen : (slidesOf A S).length ≤ 20 := by
    have h1 := (slidesOf_ok hA _ hS (Nat.le_refl _)).2.2
    have h2 := cnt_le A S
    have h3 := hA.len
    omega
  refine run_seq (run_asgN (evn_lst ea_nil) rfl ?_)
  refine run_seq (run_asg ((evn_cb (ea_cons (ev_var (d := dS S) rfl) ea_nil) rcn_list).st (lfA_dR S)) ?_)
  refine run_seq (run_asg ((ev_call (ea_cons (ev_var rfl) (ea_cons (ev_var rfl) ea_nil)) ⟨A, S, hA, hS.toSok, rfl, rfl⟩).flat (lf_dO _)) ?_)
  refine run_seq (run_while (fun m s => ∃ S' acc, Sv A S' ∧ m = cnt A S' ∧ acc ++ slidesOf A S' = slidesOf A S ∧ s = [.val (dG A), .val (dS S), .own (acc.map dL), .val (dS S'), .val (dO (nextSlide A S'))]) (cnt A S) ⟨S, [], hS, rfl, rfl, rfl⟩ (fun m s hI => ?_))
  obtain ⟨S', acc, h1, rfl, h3, rfl⟩ := hI
  refine ⟨_, et_test (ev_op (ev_var (d := dO (nextSlide A S')) rfl) ev_non rv_notN), fun h => ?_, fun h => ?_⟩
  · cases hn : nextSlide A S' with
    | none => rw [hn] at h; cases h
    | some z =>
      have ok := nextSlide_ok hA h1 hn
      have hl := slidesOf_some hA h1 hn
      have h1' := slidS_sv h1 ok
      have hacc : acc.length ≤ 20 := by
        have := congrArg List.length h3
        rw [List.length_append] at this
        omega
      refine run_seq (run_app (ev_var (d := dL z) rfl) rfl rfl (by rw [List.length_map]; omega) ?_)
      refine run_seq (run_asg ((evf_call (ea_cons (ev_var (d := dS S') rfl) (ea_cons (ev_var (d := dL z) rfl) ea_nil)) ⟨S', z, by rw [h1.len]; exact ok.hk, by rw [h1.len]; exact ok.hl, fun j hj => h1.fn j (by rw [← h1.len]; exact hj), ok.fn, rfl, rfl⟩).st (lfA_dR _)) ?_)
      refine run_asg ((ev_call (ea_cons (ev_var rfl) (ea_cons (ev_var rfl) ea_nil)) ⟨A, slidS S' z, hA, h1'.toSok, rfl, rfl⟩).flat (lf_dO _)) ?_
      refine ⟨_, slide_less hA h1 hn, slidS S' z, acc ++ [z], h1', rfl, ?_, ?_⟩
      · rw [← h3, hl, List.append_assoc]
        rfl
      · rw [List.map_append]
        rfl
  · cases hn : nextSlide A S' with
    | some z => rw [hn] at h; cases h
    | none =>
      have hl := slidesOf_none hn
      refine run_retO rfl ⟨?_, fun _ => rfl⟩
      rw [hl, List.append_nil] at h3
      rw [h3]
      rfl
end
end Rg

set_option Elab.async false
set_option linter.all false
set_option maxRecDepth 100000
set_option maxHeartbeats 4000000
/-! Rounding: the order, the greatest, gains. -/
namespace Rg
open PySem PySem.Spec PyProof.Rows L2
/-! ### min of a pair of ints -/
def rMinT (K : PySem.W.Frag) : List V → Hp → VK → Prop := fun xs H Q => ∃ (a : Addr) (i j : Int), xs = [.ref a] ∧ SqT K H a [.int i, .int j] ∧ Q (.int (if j < i then j else i)) H
theorem call_minT {X : Cx} (hc : X.calm = true) (hu : X.A.units + 64 < cLine) : CallR X (.builtin "min") (rMinT X.K) := by
  intro pins s σ H xs us Q I r h
  obtain ⟨a, i, j, rfl, hs, q⟩ := h
  obtain ⟨u, rfl, ru⟩ := vals1 r
  obtain rfl : u = Value.ref a := ru
  obtain ⟨its, rv, ht, hz⟩ := I.tuple hs
  obtain ⟨as, hr⟩ := Dp.readsAll I [.int i, .int j] _ its (.cons (.int i) (.cons (.int j) .nil)) rv
  have hal : PySem.W.AlikeAll [PyData.int i, .int j] := by
    refine ⟨fun x hx y hy => ?_, fun x hx => ?_⟩
    · simp at hx hy
      rcases hx with rfl | rfl <;> rcases hy with rfl | rfl <;> simp [PySem.W.alike]
    · simp at hx
      rcases hx with rfl | rfl <;> exact fun e => nomatch e
  refine PySem.W.min_tuple_data (x := .int i) (xs := [.int j]) (I.ok.hd hc) (show s.heap.IsTuple a its.toArray from ht) hr hal (by simp [PyData.depthAll, PyData.depth]; omega) fun n v h' tk bs hi hr' k => ?_
  have e : PySem.W.minD (.int i) [.int j] = .int (min i j) := PySem.W.minD_ints i [j]
  rw [e] at hr'
  cases hr'
  have e2 : min i j = if j < i then j else i := by split <;> omega
  rw [← e2] at q
  exact ⟨.int _, H, I.kept k, ⟨_, rfl⟩, q⟩
theorem rc_minT {K : PySem.W.Frag} {i j : Int} : RC K (rMinT K) [.tuple [.int i, .int j]] (.int (if j < i then j else i)) := fun H vs h Q q => by
  cases h with
  | cons h t =>
    cases t
    cases h with
    | tup hs ha =>
      have e := dpA_ints (ns := [i, j]) ha
      subst e
      exact ⟨_, i, j, rfl, hs, q _ H (Same.refl H) (.int _)⟩
/-! ### sorted, of pairs -/
theorem evp_tup {K : PySem.W.Frag} {g : List Sl} {tr : TA} {ds : List PyData} {b : Bool} (h : EvA K tr g ds) (hz : ds.length ≤ 100000 := by exact Nat.le_of_ble_eq_true rfl) : EvP K b (tTup tr) g (.tuple ds) := fun H0 H σ ok Q q =>
  h H0 H σ ok _ fun vs H1 e1 h1 => ⟨by rw [dpA_len h1]; exact Nat.le_trans hz (by decide), fun p hp => q (.ref p) _ (e1.trans (same_new hp)) (.tup (SqT.of upd_same) (dpA_up (same_new hp) h1)) fun _ => ⟨p, vs, ds, rfl, upd_same, rfl, dpA_up (same_new hp) h1⟩⟩
def kfOf (H : Hp) (v : V) : Int × Int := match v with
  | .ref t => match H t with
    | some (.tup [.int a, .int b]) => (a, b)
    | _ => (0, 0)
  | _ => (0, 0)
theorem kfOf_at {H : Hp} {t : Addr} {a b : Int} (h : H t = some (.tup [.int a, .int b])) : kfOf H (.ref t) = (a, b) := by
  show (match H t with
    | some (.tup [.int a, .int b]) => (a, b)
    | _ => (0, 0)) = _
  rw [h]
theorem dpA_fun {K : PySem.W.Frag} {H : Hp} {f : V → PyData} : ∀ {vs : List V}, (∀ v ∈ vs, Dp K H v (f v)) → DpAll K H vs (vs.map f)
  | [], _ => .nil
  | v :: vs, h => .cons (h v List.mem_cons_self) (dpA_fun fun x hx => h x (List.mem_cons_of_mem _ hx))
def dK (A : List Ask) (k : Nat) : PyData := .tuple [.int (lowOf (askAt A k)), dN k]
theorem evn_order {K : PySem.W.Frag} {g : List Sl} {te : TE} {A : List Ask} {l : List Nat}
    (h : ∀ (H0 H : Hp) (σ : L2.St), Ok K H0 H σ g → ∀ Q : VK, (∀ p' xs H2, Same H H2 → H p' = none → H2 p' = some (.lst xs) → DpAll K H2 xs ((l.filter fun _ => true).map (dK A)) → (true = true → TrkA K H2 xs ((l.filter fun _ => true).map (dK A))) → Q (.ref p') H2) → te σ H Q) :
    EvN K (tCB (rSortedPO K) (tCons te tNil)) g ((inOrder A l).map (dK A)) := fun H0 H σ ok Q q => by
  refine h H0 H σ ok _ fun p xs H2 e1 n1 l1 hd ht => ?_
  rw [filter_all] at hd ht
  have ht := ht rfl
  have hl := dpA_len hd
  rw [List.length_map] at hl
  have key : ∀ (i : Nat) v, xs[i]? = some v → ∃ k t, l[i]? = some k ∧ v = .ref t ∧ H2 t = some (.tup [.int (lowOf (askAt A k)), .int k]) := fun i v hv => by
    have hi : i < l.length := by rw [← hl]; exact (List.getElem?_eq_some_iff.mp hv).1
    have hk : l[i]? = some l[i] := List.getElem?_eq_getElem hi
    obtain ⟨t, ys, es, a1, a2, a3, a4⟩ := ht i v (dK A l[i]) hv (by rw [List.getElem?_map, hk]; rfl)
    have a3 : [.int (lowOf (askAt A l[i])), .int (l[i] : Int)] = es := by injection a3
    subst a3
    have e := dpA_ints (ns := [(lowOf (askAt A l[i]) : Int), (l[i] : Int)]) a4
    subst e
    exact ⟨l[i], t, hk, a1, a2⟩
  have mem : ∀ v ∈ xs, ∃ k t, k ∈ l ∧ v = .ref t ∧ H2 t = some (.tup [.int (lowOf (askAt A k)), .int k]) := fun v hv => by
    obtain ⟨i, hi, hv⟩ := List.mem_iff_getElem.mp hv
    obtain ⟨k, t, a1, a2, a3⟩ := key i v (by rw [List.getElem?_eq_getElem hi, hv])
    exact ⟨k, t, List.mem_of_getElem? a1, a2, a3⟩
  let num : V → Nat := fun v => (kfOf H2 v).2.toNat
  have hx : xs.map num = l := by
    refine List.ext_getElem? fun i => ?_
    rw [List.getElem?_map]
    by_cases hi : i < xs.length
    · have hv : xs[i]? = some xs[i] := List.getElem?_eq_getElem hi
      obtain ⟨k, t, a1, a2, a3⟩ := key i _ hv
      rw [hv, a1]
      show some (num xs[i]) = some k
      rw [a2]
      show some (kfOf H2 (.ref t)).2.toNat = some k
      rw [kfOf_at a3]
      simp
    · rw [List.getElem?_eq_none (by omega), List.getElem?_eq_none (by omega)]
      rfl
  refine ⟨p, xs, kfOf H2, rfl, SqL.of l1, fun x hx => ?_, fun ys r hs hb hr => ?_⟩
  · obtain ⟨k, t, a1, a2, a3⟩ := mem x hx
    exact ⟨t, a2, by rw [a2, kfOf_at a3]; exact a3⟩
  · have mem2 : ∀ v ∈ ys, ∃ k t, k ∈ l ∧ v = .ref t ∧ H2 t = some (.tup [.int (lowOf (askAt A k)), .int k]) := fun v hv => mem v (hb.perm.mem_iff.mp hv)
    have hy : ys.map num = inOrder A l := by
      refine inOrder_uniq (by rw [← hx]; exact hb.perm.map num) ?_
      rw [List.pairwise_map]
      refine List.Pairwise.imp_of_mem ?_ hs
      intro a b ha hb' hab
      obtain ⟨k, t, a1, rfl, a3⟩ := mem2 a ha
      obtain ⟨k', t', b1, rfl, b3⟩ := mem2 b hb'
      have e1 : num (.ref t) = k := by show (kfOf H2 (.ref t)).2.toNat = k; rw [kfOf_at a3]; simp
      have e2 : num (.ref t') = k' := by show (kfOf H2 (.ref t')).2.toNat = k'; rw [kfOf_at b3]; simp
      rw [e1, e2]
      have c := SrtO.lexB_no.mp hab
      rw [kfOf_at a3, kfOf_at b3] at c
      unfold ordLe
      simp at c ⊢
      omega
    refine q r ys _ (e1.trans (same_new hr)) (e1.free hr) upd_same ?_
    rw [← hy, List.map_map]
    refine dpA_fun fun v hv => ?_
    obtain ⟨k, t, a1, rfl, a3⟩ := mem2 v hv
    have e1 : num (.ref t) = k := by show (kfOf H2 (.ref t)).2.toNat = k; rw [kfOf_at a3]; simp
    show Dp K _ (.ref t) (dK A (num (.ref t)))
    rw [e1]
    exact .tup (SqT.of (same_new hr _ _ a3)) (.cons (.int _) (.cons (.int _) .nil))
theorem lfA_dK (A : List Ask) (l : List Nat) : lfA (l.map (dK A)) = true := lfA_map (fun _ => rfl) l
theorem rv_inN {K : PySem.W.Frag} {neg : Bool} {k : Nat} {l : List Nat} : RV K (rIn K neg) (dN k) (dNs l) (.bool (if neg then !decide (k ∈ l) else decide (k ∈ l))) := by
  have h := rv_inL (K := K) (neg := neg) (n := (k : Int)) (ns := l.map fun (n : Nat) => (n : Int))
  have e : decide ((k : Int) ∈ l.map fun (n : Nat) => (n : Int)) = decide (k ∈ l) := by
    refine decide_eq_decide.mpr ?_
    rw [List.mem_map]
    constructor
    · rintro ⟨n, h1, h2⟩
      have : n = k := by omega
      exact this ▸ h1
    · exact fun h => ⟨k, h, rfl⟩
  rw [e, List.map_map] at h
  exact h
theorem half_num : (1 / 2 : Rat).num = 1 := by decide +kernel
theorem half_den : (1 / 2 : Rat).den = 2 := by decide +kernel
theorem dR_half : dR (1 / 2) = .tuple [.int 1, .int 2] := by unfold dR; rw [half_num, half_den]; rfl
section
variable {P : Program} {w : World} {K : PySem.W.Frag} {mg : Str → Option Value} {base : Heap} {aN aB : Addr}
abbrev s_rising_way : Stmt := topS 47
theorem sc_rising_way : FnScope ["ring", "k", "name", "one", "other", "size"] ["ring", "k"] (defScope s_rising_way) := ⟨rfl, rfl, rfl, by decide +kernel, rfl, by decide +kernel, by decide +kernel⟩
def R_rising_way (ds : List PyData) (d : PyData) : Prop := ∃ (A : List Ask) (k : Nat), k < A.length ∧ ds = [dG A, dN k] ∧ d = dW (rwy (askAt A k))
abbrev sp_rising_way (K : PySem.W.Frag) : Sp := spD K false R_rising_way
theorem ok_rising_way (T : Txt K mg aN aB) {f : Addr} {fd : FuncData} (F : Df K mg "rising_way" s_rising_way ["ring", "k"] f fd) : Cal P w K mg base 1 "rising_way" ["ring", "k"] (sp_rising_way K) := by
  refine F.cal (k := 0) sc_rising_way (fun ds d h => by obtain ⟨A, k, hk, rfl, rfl⟩ := h <;> rfl) (fun cdv A outer s H E hr => ⟨_, (pss_cons (ps_asg (pe_ix ix_seq (pe_ix ix_seq (pv 0) pe_int (fun _ _ => rfl)) (pv 1) (fun _ _ => rfl)) (pg_tup rfl (pgs_cons (pg_name (i := 2) sc_rising_way.nd rfl (Or.inl rfl)) (pgs_cons (pg_name (i := 3) sc_rising_way.nd rfl (Or.inl rfl)) (pgs_cons (pg_name (i := 4) sc_rising_way.nd rfl (Or.inl rfl)) (pgs_cons (pg_name (i := 5) sc_rising_way.nd rfl (Or.inl rfl)) pgs_nil))))))
    (pss_cons (ps_if (pt_cmpR op_lt (pv 3) (pv 4) (nomark _)) (pss_one (ps_ret (pe_gc (by rfl) T.hON))) pss_nil)
    (pss_one (ps_ret (pe_gc (by rfl) T.hBACK))))), fun ds d h => ?_⟩)
  obtain ⟨A, k, hk, rfl, rfl⟩ := h
  refine run_seq (run_unpack ((ev_ask (ev_var rfl) (ev_var rfl) hk).flat rfl) (tg_tup (is := [2, 3, 4, 5]) rfl rfl) ?_)
  generalize ea : askAt A k = a
  refine run_seq (run_if (et_test (ev_op (ev_var (d := .int a.one) rfl) (ev_var (d := .int a.other) rfl) rv_bool0)) (fun h => ?_) fun h => run_next ?_)
  · refine run_ret (ev_con fun _ => .str _) ⟨?_, fun z => nomatch z⟩
    have h := of_decide_eq_true h
    have e : rwy a = true := decide_eq_true (by omega)
    rw [e]
    rfl
  · refine run_ret (ev_con fun _ => .str _) ⟨?_, fun z => nomatch z⟩
    have h := of_decide_eq_false h
    have e : rwy a = false := decide_eq_false (by omega)
    rw [e]
    rfl
abbrev s_gain_by : Stmt := topS 48
theorem sc_gain_by : FnScope ["ring", "sending", "k", "way", "gone"] ["ring", "sending", "k", "way"] (defScope s_gain_by) := ⟨rfl, rfl, rfl, by decide +kernel, rfl, by decide +kernel, by decide +kernel⟩
def R_gain_by (ds : List PyData) (d : PyData) : Prop := ∃ (A : List Ask) (S : List Rat) (k : Nat) (w : Bool), Rok A ∧ Sok A S ∧ k < A.length ∧ ds = [dG A, dS S, dN k, dW w] ∧ d = dR (gainBy A S k w)
abbrev sp_gain_by (K : PySem.W.Frag) : Sp := spD K false R_gain_by
theorem ok_gain_by (T : Txt K mg aN aB) {f : Addr} {fd : FuncData} (F : Df K mg "gain_by" s_gain_by ["ring", "sending", "k", "way"] f fd) (c_gone_by : Cal P w K mg base 4 "gone_by" ["ring", "sending", "k", "way"] (sp_gone_by K)) (c_minus : Cal P w K mg base 3 "minus" ["one", "other"] (sp_minus K)) (c_rising_way : Cal P w K mg base 1 "rising_way" ["ring", "k"] (sp_rising_way K)) : Cal P w K mg base 5 "gain_by" ["ring", "sending", "k", "way"] (sp_gain_by K) := by
  refine F.cal (k := 4) sc_gain_by (fun ds d h => by obtain ⟨A, S, k, w, hA, hS, hk, rfl, rfl⟩ := h <;> rfl) (fun cdv A outer s H E hr => ⟨_, (pss_cons (ps_set (i := 4) sc_gain_by.nd rfl (Or.inl rfl) (pe_cal c_gone_by (hr.mono (by decide)) (by rfl) (pa_cons (pv 0) (pa_cons (pv 1) (pa_cons (pv 2) (pa_cons (pe_cal c_rising_way (hr.mono (by decide)) (by rfl) (pa_cons (pv 0) (pa_cons (pv 2) pa_nil))) pa_nil))))))
    (pss_cons (ps_if (pt_cmpR (op_eqD hr.units) (pv 3) (pe_cal c_rising_way (hr.mono (by decide)) (by rfl) (pa_cons (pv 0) (pa_cons (pv 2) pa_nil))) (nomark _)) (pss_one (ps_ret (pe_cal c_minus (hr.mono (by decide)) (by rfl) (pa_cons (pe_ix ix_seq (pe_ix ix_seq (pe_ix ix_seq (pv 0) pe_int (fun _ _ => rfl)) (pv 2) (fun _ _ => rfl)) pe_int (fun _ _ => rfl)) (pa_cons (pv 4) pa_nil))))) pss_nil)
    (pss_one (ps_ret (pe_cal c_minus (hr.mono (by decide)) (by rfl) (pa_cons (pe_gc (by rfl) T.hNOUGHT) (pa_cons (pv 4) pa_nil))))))), fun ds d h => ?_⟩)
  obtain ⟨A, S, k, w, hA, hS, hk, rfl, rfl⟩ := h
  have hg := gone_fin (w := rwy (askAt A k)) hA hS hk
  refine run_seq (run_asg ((ev_call (ea_cons (ev_var rfl) (ea_cons (ev_var rfl) (ea_cons (ev_var rfl) (ea_cons (ev_call (ea_cons (ev_var rfl) (ea_cons (ev_var rfl) ea_nil)) ⟨A, k, hk, rfl, rfl⟩) ea_nil)))) ⟨A, S, k, _, hA, hS, hk, rfl, rfl⟩).flat rfl) ?_)
  refine run_seq (run_if (b := w == rwy (askAt A k)) (evt_is (et_test (ev_op (ev_var (d := dW w) rfl) (ev_call (ea_cons (ev_var rfl) (ea_cons (ev_var rfl) ea_nil)) ⟨A, k, hk, rfl, rfl⟩) (rv_eq (sh_dW _) (sh_dW _)))) (eqv_way _ _)) (fun h => ?_) fun h => run_next ?_)
  · refine run_ret (ev_call (ea_cons (ev_size (ev_var rfl) (ev_var rfl) hk) (ea_cons (ev_var rfl) ea_nil)) ⟨_, _, lo_sm (fin_lo (hA.at hk).fn), lo_sm (fin_lo hg), rfl, rfl⟩) ⟨?_, fun z => nomatch z⟩
    unfold gainBy
    rw [if_pos (eq_of_beq h)]
  · refine run_ret (ev_call (ea_cons (ev_con (dp_nought T)) (ea_cons (ev_var rfl) ea_nil)) ⟨_, _, lo_sm lo_zero, lo_sm (fin_lo hg), rfl, rfl⟩) ⟨?_, fun z => nomatch z⟩
    unfold gainBy
    rw [if_neg (ne_of_beq_false h)]
abbrev s_in_order : Stmt := topS 49
theorem sc_in_order : FnScope ["ring", "some", "place", "k"] ["ring", "some"] (defScope s_in_order) := ⟨rfl, rfl, rfl, by decide +kernel, rfl, by decide +kernel, by decide +kernel⟩
def R_in_order (ds : List PyData) (d : PyData) : Prop := ∃ (A : List Ask) (l : List Nat), (∀ k ∈ l, k < A.length) ∧ l.length ≤ 20 ∧ ds = [dG A, dNs l] ∧ d = dNs (inOrder A l)
abbrev sp_in_order (K : PySem.W.Frag) : Sp := spD K true R_in_order
theorem ok_in_order (T : Txt K mg aN aB) {f : Addr} {fd : FuncData} (F : Df K mg "in_order" s_in_order ["ring", "some"] f fd) : Cal P w K mg base 1 "in_order" ["ring", "some"] (sp_in_order K) := by
  refine F.cal (k := 0) sc_in_order (fun ds d h => by obtain ⟨A, l, hl, hz, rfl, rfl⟩ := h <;> rfl) (fun cdv A outer s H E hr => ⟨_, (pss_one (ps_ret (pe_lc (own := [("place", 2), ("k", 3)]) (by rfl) sc_in_order.nd (pi_list (pe_callB cr_sortedPO (by rfl) T.b_sorted (by decide +kernel) (pa_cons (pe_lc (own := [("k", 3)]) (by rfl) sc_in_order.nd (pi_list (pv 1)) (blkOk_by (own := [("k", 3)]) (N := ["ring", "some", "place", "k"]) (sc := defScope s_in_order) (by decide +kernel)) (fun _ _ _ _ _ => (pg_name (i := 3) sc_in_order.nd rfl (Or.inl rfl))) (fun _ _ _ _ _ => pts_nil) (fun _ _ _ _ _ => (pe_tup (pa_cons (pe_callB (show CallR _ (.builtin "min") (rMinT K) from call_minT rfl hr.units) (by rfl) T.b_min (by decide +kernel) (pa_cons (pe_slice (show SlR _ (rSlT K) from sl_tup) (pe_ix (show IxR _ (rIx K) from ix_seq) (pe_ix (show IxR _ (rIx K) from ix_seq) (pv 0) pe_int (fun _ _ => rfl)) (pv 3) (fun _ _ => rfl)) (po_some pe_int) (po_some pe_int)) pa_nil)) (pa_cons (pv 3) pa_nil))))) pa_nil))) (blkOk_by (own := [("place", 2), ("k", 3)]) (N := ["ring", "some", "place", "k"]) (sc := defScope s_in_order) (by decide +kernel)) (fun _ _ _ _ _ => (show PG _ _ (gTup K 2 (gNames [2, 3])) from pg_tup rfl (pgs_cons (pg_name (i := 2) sc_in_order.nd rfl (Or.inl rfl)) (pgs_cons (pg_name (i := 3) sc_in_order.nd rfl (Or.inl rfl)) pgs_nil)))) (fun _ _ _ _ _ => pts_nil) (fun _ _ _ _ _ => (pv 3))))), fun ds d h => ?_⟩)
  obtain ⟨A, l, hl, hz, rfl, rfl⟩ := h
  refine run_retF (d := dNs (inOrder A l)) (evn_is (evn_lc (K := K) (inOrder A l) (dK A) (fun _ => true) dN (src_list ((evn_order (evn_lcT (K := K) (tr := true) l dN (fun _ => true) (dK A) (src_list (evg_var (d := dNs l) rfl)) rfl (by omega) (fun k hk => ?_))).st (lfA_dK _ _))) rfl (by rw [(inOrder_perm A l).length_eq]; omega) (fun k hk => ?_)) ?_).evf ⟨rfl, fun _ => rfl⟩
  · refine ⟨_, _, tg_name, by decide, et_yes, fun _ => ⟨evp_tup (ea_cons (ev_is (ev_cb (ea_cons (ev_slT (ev_ask (ev_var rfl) (ev_var rfl) (hl k hk)) (eo_some ev_int) (eo_some ev_int) (show ¬ (HT.sIx 4 0 (some 1) = 0 ∧ HT.sIx 4 4 (some 3) = 4) by decide)) ea_nil) rc_minT) ?_) (ea_cons (ev_var rfl) ea_nil)), rfl⟩⟩
    unfold lowOf
    congr 1
    split <;> split <;> omega
  · exact ⟨_, _, tg_tup (is := [2, 3]) rfl rfl, by decide, et_yes, fun _ => ⟨ev_var rfl, rfl⟩⟩
  · rw [filter_all]
abbrev s_half_of_greatest : Stmt := topS 50
theorem sc_half_of_greatest : FnScope ["ring", "some", "found", "k"] ["ring", "some"] (defScope s_half_of_greatest) := ⟨rfl, rfl, rfl, by decide +kernel, rfl, by decide +kernel, by decide +kernel⟩
def R_half_of_greatest (ds : List PyData) (d : PyData) : Prop := ∃ (A : List Ask) (l : List Nat), Rok A ∧ (∀ k ∈ l, k < A.length) ∧ ds = [dG A, dNs l] ∧ d = dR (half A l)
abbrev sp_half_of_greatest (K : PySem.W.Frag) : Sp := spD K false R_half_of_greatest
theorem ok_half_of_greatest (T : Txt K mg aN aB) {f : Addr} {fd : FuncData} (F : Df K mg "half_of_greatest" s_half_of_greatest ["ring", "some"] f fd) (c_times : Cal P w K mg base 3 "times" ["one", "other"] (sp_times K)) (c_greater : Cal P w K mg base 2 "greater" ["one", "other"] (sp_greater K)) : Cal P w K mg base 4 "half_of_greatest" ["ring", "some"] (sp_half_of_greatest K) := by
  refine F.cal (k := 3) sc_half_of_greatest (fun ds d h => by obtain ⟨A, l, hA, hl, rfl, rfl⟩ := h <;> rfl) (fun cdv A outer s H E hr => ⟨_, (pss_cons (ps_set (i := 2) sc_half_of_greatest.nd rfl (Or.inl rfl) (pe_gc (by rfl) T.hNOUGHT))
    (pss_cons (ps_for PassesOwn.never rfl (pi_list (pv 1)) (pg_name (i := 3) sc_half_of_greatest.nd rfl (Or.inl rfl)) (pss_one (ps_set (i := 2) sc_half_of_greatest.nd rfl (Or.inl rfl) (pe_cal c_greater (hr.mono (by decide)) (by rfl) (pa_cons (pv 2) (pa_cons (pe_ix ix_seq (pe_ix ix_seq (pe_ix ix_seq (pv 0) pe_int (fun _ _ => rfl)) (pv 3) (fun _ _ => rfl)) pe_int (fun _ _ => rfl)) pa_nil))))))
    (pss_one (ps_ret (pe_cal c_times (hr.mono (by decide)) (by rfl) (pa_cons (pv 2) (pa_cons (pe_tup (pa_cons pe_int (pa_cons pe_int pa_nil))) pa_nil))))))), fun ds d h => ?_⟩)
  obtain ⟨A, l, hA, hl, rfl, rfl⟩ := h
  refine run_seq (run_asg ((ev_con (dp_nought T)).flat rfl) ?_)
  refine run_seq (run_for (src_list (evg_var (d := .list (l.map dN)) rfl)) (fun i s => ∃ x, s = [.val (dG A), .val (dNs l), .val (dR (greatest A (l.take i))), x]) ⟨_, rfl⟩ (fun i d s' hd hI => ?_) fun s' hI => ?_)
  · obtain ⟨x, rfl⟩ := hI
    obtain ⟨k, hk, rfl⟩ := map_get hd
    have hkA := hl k (List.mem_of_getElem? hk)
    have hg : fin (greatest A (l.take i)) := greatest_fin hA _ 0 fin_zero fun j hj => hl j (List.mem_of_mem_take hj)
    refine ⟨_, _, tg_name, run_asg ((ev_call (ea_cons (ev_var rfl) (ea_cons (ev_size (ev_var rfl) (ev_var rfl) hkA) ea_nil)) ⟨_, _, lo_sm (fin_lo hg), lo_sm (fin_lo (hA.at hkA).fn), rfl, rfl⟩).flat rfl) ?_⟩
    have e : greatest A (l.take (i + 1)) = if greatest A (l.take i) < (askAt A k).size then (askAt A k).size else greatest A (l.take i) := by
      unfold greatest
      rw [List.take_add_one, hk, List.foldl_append]
      rfl
    rw [e]
    exact ⟨_, rfl⟩
  · obtain ⟨x, rfl⟩ := hI
    rw [List.length_map, List.take_length]
    have hg : fin (greatest A l) := greatest_fin hA _ 0 fin_zero hl
    refine run_ret (ev_call (ea_cons (ev_var rfl) (ea_cons (ev_tup (ea_cons ev_int (ea_cons ev_int ea_nil))) ea_nil)) ⟨_, _, lo_sm (fin_lo hg), ?_, ?_, by rw [dR_half], rfl⟩) ⟨rfl, fun z => nomatch z⟩
    · unfold sm; rw [half_den]; decide
    · rw [half_num]; decide
abbrev s_goes_whole : Stmt := topS 51
theorem sc_goes_whole : FnScope ["ring", "sending", "k", "way"] ["ring", "sending", "k", "way"] (defScope s_goes_whole) := ⟨rfl, rfl, rfl, by decide +kernel, rfl, by decide +kernel, by decide +kernel⟩
def R_goes_whole (ds : List PyData) (d : PyData) : Prop := ∃ (A : List Ask) (S : List Rat) (k : Nat) (w : Bool), Rok A ∧ Sok A S ∧ k < A.length ∧ ds = [dG A, dS S, dN k, dW w] ∧ d = .bool (goesWhole A S k w)
abbrev sp_goes_whole (K : PySem.W.Frag) : Sp := spD K false R_goes_whole
theorem ok_goes_whole (T : Txt K mg aN aB) {f : Addr} {fd : FuncData} (F : Df K mg "goes_whole" s_goes_whole ["ring", "sending", "k", "way"] f fd) (c_gone_by : Cal P w K mg base 4 "gone_by" ["ring", "sending", "k", "way"] (sp_gone_by K)) : Cal P w K mg base 5 "goes_whole" ["ring", "sending", "k", "way"] (sp_goes_whole K) := by
  refine F.cal (k := 4) sc_goes_whole (fun ds d h => by obtain ⟨A, S, k, w, hA, hS, hk, rfl, rfl⟩ := h <;> rfl) (fun cdv A outer s H E hr => ⟨_, (pss_one (ps_ret (pe_cmpR (op_eqD hr.units) (pe_cal c_gone_by (hr.mono (by decide)) (by rfl) (pa_cons (pv 0) (pa_cons (pv 1) (pa_cons (pv 2) (pa_cons (pv 3) pa_nil))))) (pe_ix ix_seq (pe_ix ix_seq (pe_ix ix_seq (pv 0) pe_int (fun _ _ => rfl)) (pv 2) (fun _ _ => rfl)) pe_int (fun _ _ => rfl)) (nomark _)))), fun ds d h => ?_⟩)
  obtain ⟨A, S, k, w, hA, hS, hk, rfl, rfl⟩ := h
  refine run_ret (ev_is (ev_op (ev_call (ea_cons (ev_var rfl) (ea_cons (ev_var rfl) (ea_cons (ev_var rfl) (ea_cons (ev_var rfl) ea_nil)))) ⟨A, S, k, w, hA, hS, hk, rfl, rfl⟩) (ev_size (ev_var rfl) (ev_var rfl) hk) (rv_eq (sh_dR _) (sh_dR _))) ?_) ⟨rfl, fun z => nomatch z⟩
  rw [eqv_dR]
  rfl
end
end Rg

set_option Elab.async false
set_option linter.all false
set_option maxRecDepth 100000
set_option maxHeartbeats 4000000
/-! Rounding. -/
namespace Rg
open PySem PySem.Spec PyProof.Rows L2
theorem run_seqTo {K : PySem.W.Frag} {ts us : TS} {s s1 : List Sl} {E : De} (h : Run K ts s { E with nx := fun s' => s' = s1 }) (h2 : Run K us s1 E) : Run K (tSeq ts us) s E :=
  run_seq (run_is h (fun s e => by have e : s = s1 := e; subst e; exact h2) (fun _ _ q => q) (fun _ q => q) fun _ q => q)
theorem drop_at {α : Type} {l : List α} {i : Nat} {x : α} (h : l[i]? = some x) : l.drop i = x :: l.drop (i + 1) := by
  obtain ⟨hi, hx⟩ := List.getElem?_eq_some_iff.mp h
  rw [List.drop_eq_getElem_cons hi, hx]
theorem enu_map {α : Type} (f : α → PyData) (l : List α) : enuD (l.map f) = l.mapIdx fun i x => .tuple [dN i, f x] := by
  unfold enuD
  refine List.ext_getElem? fun i => ?_
  rw [List.getElem?_mapIdx, List.getElem?_mapIdx, List.getElem?_map]
  cases l[i]? <;> rfl
theorem enu_get {α : Type} {f : α → PyData} {l : List α} {i : Nat} {d : PyData} (h : (enuD (l.map f))[i]? = some d) : ∃ x, l[i]? = some x ∧ d = .tuple [dN i, f x] := by
  rw [enu_map, List.getElem?_mapIdx] at h
  cases e : l[i]? with
  | none => rw [e] at h; cases h
  | some x => rw [e] at h; cases h; exact ⟨x, rfl, rfl⟩
theorem enu_len {ds : List PyData} : (enuD ds).length = ds.length := by simp [enuD]
theorem enu_range (f : Nat → PyData) (n : Nat) : enuD ((List.range n).map f) = (List.range n).map fun t => .tuple [dN t, f t] := by
  refine List.ext_getElem? fun i => ?_
  rw [enu_map, List.getElem?_mapIdx, List.getElem?_map]
  by_cases hi : i < n
  · rw [List.getElem?_range hi]; rfl
  · rw [List.getElem?_eq_none (by rw [List.length_range]; omega)]; rfl
theorem gainBy_fin {A : List Ask} {S : List Rat} {k : Nat} {w : Bool} (hA : Rok A) (hS : Sok A S) (hk : k < A.length) : fin (gainBy A S k w) := by
  have hg := gone_fin (w := rwy (askAt A k)) hA hS hk
  unfold gainBy
  split
  · exact fin_sub (hA.at hk).fn hg
  · exact fin_sub fin_zero hg
theorem half_lo {A : List Ask} (hA : Rok A) {l : List Nat} (hl : ∀ k ∈ l, k < A.length) : lo (half A l) := fin_half (greatest_fin hA l 0 fin_zero hl)
theorem partedL_lt {A : List Ask} {S : List Rat} : ∀ k ∈ partedL A S, k < A.length := fun k hk => (parted_mem.mp hk).1
theorem inOrder_lt {A : List Ask} {S : List Rat} : ∀ k ∈ inOrder A (partedL A S), k < A.length := fun k hk => partedL_lt k (inOrder_mem.mp hk)
theorem way_ix {W : List Bool} {k : Nat} (hk : k < W.length) : ixD (dWs W) (dN k) = some (dW (wayAt W k)) := ixD_nat (by rw [List.getElem?_map, wayAt_get hk]; rfl)
section
variable {P : Program} {w : World} {K : PySem.W.Frag} {mg : Str → Option Value} {base : Heap} {aN aB : Addr}
abbrev s_are_rounded : Stmt := topS 52
theorem sc_are_rounded : FnScope ["ring", "behind", "ways", "parted", "k", "way", "most", "total"] ["ring", "behind", "ways"] (defScope s_are_rounded) := ⟨rfl, rfl, rfl, by decide +kernel, rfl, by decide +kernel, by decide +kernel⟩
def R_are_rounded (ds : List PyData) (d : PyData) : Prop := ∃ (A : List Ask) (S : List Rat) (W : List Bool), Rok A ∧ Sok A S ∧ W.length = A.length ∧ ds = [dG A, dS S, dWs W] ∧ d = .bool (areRounded A S W)
abbrev sp_are_rounded (K : PySem.W.Frag) : Sp := spD K false R_are_rounded
theorem ok_are_rounded (T : Txt K mg aN aB) {f : Addr} {fd : FuncData} (F : Df K mg "are_rounded" s_are_rounded ["ring", "behind", "ways"] f fd) (c_parted_in : Cal P w K mg base 3 "parted_in" ["ring", "sending"] (sp_parted_in K)) (c_half_of_greatest : Cal P w K mg base 4 "half_of_greatest" ["ring", "some"] (sp_half_of_greatest K)) (c_in_order : Cal P w K mg base 1 "in_order" ["ring", "some"] (sp_in_order K)) (c_plus : Cal P w K mg base 3 "plus" ["one", "other"] (sp_plus K)) (c_gain_by : Cal P w K mg base 5 "gain_by" ["ring", "sending", "k", "way"] (sp_gain_by K)) (c_under : Cal P w K mg base 1 "under" ["one", "other"] (sp_under K)) (c_goes_whole : Cal P w K mg base 5 "goes_whole" ["ring", "sending", "k", "way"] (sp_goes_whole K)) (c_minus : Cal P w K mg base 3 "minus" ["one", "other"] (sp_minus K)) : Cal P w K mg base 6 "are_rounded" ["ring", "behind", "ways"] (sp_are_rounded K) := by
  refine F.cal (k := 5) sc_are_rounded (fun ds d h => by obtain ⟨A, S, W, hA, hS, hW, rfl, rfl⟩ := h <;> rfl) (fun cdv A outer s H E hr => ⟨_, (pss_cons (ps_set (i := 3) sc_are_rounded.nd rfl (Or.inl rfl) (pe_cal c_parted_in (hr.mono (by decide)) (by rfl) (pa_cons (pv 0) (pa_cons (pv 1) pa_nil))))
    (pss_cons (ps_for PassesOwn.never rfl (pi_enum (by rfl) T.b_enumerate (pa_cons (pv 2) pa_nil)) (pg_tup rfl (pgs_cons (pg_name (i := 4) sc_are_rounded.nd rfl (Or.inl rfl)) (pgs_cons (pg_name (i := 5) sc_are_rounded.nd rfl (Or.inl rfl)) pgs_nil))) (pss_one (ps_if (PW.pt (pw_and (pt_cmpR op_notIn_seq (pv 4) (pv 3) (by rfl)) (pw_and1 (pt_not (pt_val (pe_cal c_goes_whole (hr.mono (by decide)) (by rfl) (pa_cons (pv 0) (pa_cons (pv 1) (pa_cons (pv 4) (pa_cons (pv 5) pa_nil)))))))))) (pss_one (ps_ret pe_bl)) pss_nil)))
    (pss_cons (ps_set (i := 6) sc_are_rounded.nd rfl (Or.inl rfl) (pe_cal c_half_of_greatest (hr.mono (by decide)) (by rfl) (pa_cons (pv 0) (pa_cons (pv 3) pa_nil))))
    (pss_cons (ps_set (i := 7) sc_are_rounded.nd rfl (Or.inl rfl) (pe_gc (by rfl) T.hNOUGHT))
    (pss_cons (ps_for PassesOwn.never rfl (pi_list (pe_cal c_in_order (hr.mono (by decide)) (by rfl) (pa_cons (pv 0) (pa_cons (pv 3) pa_nil)))) (pg_name (i := 4) sc_are_rounded.nd rfl (Or.inl rfl)) (pss_cons (ps_set (i := 7) sc_are_rounded.nd rfl (Or.inl rfl) (pe_cal c_plus (hr.mono (by decide)) (by rfl) (pa_cons (pv 7) (pa_cons (pe_cal c_gain_by (hr.mono (by decide)) (by rfl) (pa_cons (pv 0) (pa_cons (pv 1) (pa_cons (pv 4) (pa_cons (pe_ix ix_seq (pv 2) (pv 4) (fun _ _ => rfl)) pa_nil))))) pa_nil))))
    (pss_one (ps_if (PW.pt (pw_or (pt_val (pe_cal c_under (hr.mono (by decide)) (by rfl) (pa_cons (pv 6) (pa_cons (pv 7) pa_nil)))) (pw_or1 (pt_val (pe_cal c_under (hr.mono (by decide)) (by rfl) (pa_cons (pv 7) (pa_cons (pe_cal c_minus (hr.mono (by decide)) (by rfl) (pa_cons (pe_gc (by rfl) T.hNOUGHT) (pa_cons (pv 6) pa_nil))) pa_nil))))))) (pss_one (ps_ret pe_bl)) pss_nil))))
    (pss_one (ps_ret pe_bl))))))), fun ds d h => ?_⟩)
  obtain ⟨A, S, W, hA, hS, hW, rfl, rfl⟩ := h
  refine run_seq (run_asg ((evf_call (ea_cons (ev_var rfl) (ea_cons (ev_var rfl) ea_nil)) ⟨A, S, hA, hS, rfl, rfl⟩).st (lfA_dN _)) ?_)
  generalize hP : partedL A S = Ps
  have hlt : ∀ k ∈ Ps, k < A.length := hP ▸ partedL_lt
  have hPl : Ps.length ≤ 20 := by
    have h1 := cnt_le A S
    have h2 := hA.len
    unfold cnt at h1
    rw [hP] at h1
    omega
  refine run_seq (run_for (src_enum (evg_var (d := .list (W.map dW)) rfl)) (fun i s => (∃ x4 x5 x6 x7, s = [.val (dG A), .val (dS S), .val (dWs W), .val (dNs Ps), x4, x5, x6, x7]) ∧ ((List.range A.length).take i).all (firstOk A S W) = true) ⟨⟨_, _, _, _, rfl⟩, rfl⟩ (fun i d s' hd hI => ?_) fun s' hI => ?_)
  · obtain ⟨⟨x4, x5, x6, x7, rfl⟩, h1⟩ := hI
    obtain ⟨x, hx, rfl⟩ := enu_get hd
    have hi : i < A.length := by rw [← hW]; exact (List.getElem?_eq_some_iff.mp hx).1
    have ex : x = wayAt W i := by
      have := wayAt_get (W := W) (k := i) (by rw [hW]; exact hi)
      rw [hx] at this
      exact Option.some.inj this
    subst ex
    have hr : (List.range A.length)[i]? = some i := List.getElem?_range hi
    refine ⟨_, _, tg_tup (is := [4, 5]) rfl rfl, ?_⟩
    refine run_if (b := !firstOk A S W i) (evt_is (et_and (et_test (ev_op (ev_var (d := dN i) rfl) (ev_var (d := dNs Ps) rfl) rv_inN)) fun _ => et_not (et_B (ev_call (ea_cons (ev_var rfl) (ea_cons (ev_var rfl) (ea_cons (ev_var rfl) (ea_cons (ev_var rfl) ea_nil)))) ⟨A, S, i, wayAt W i, hA, hS, hi, rfl, rfl⟩))) ?_) (fun h => ?_) fun h => run_next ⟨⟨_, _, _, _, rfl⟩, ?_⟩
    · rw [if_pos rfl]
      unfold firstOk
      rw [hP, Bool.not_or]
    · refine run_ret ev_bl ⟨?_, fun z => nomatch z⟩
      have e : areRounded A S W = false := by
        unfold areRounded
        rw [all_no hr (by simpa using h), Bool.false_and]
      rw [e]
    · rw [all_more hr, h1, Bool.true_and]
      simpa using h
  · obtain ⟨⟨x4, x5, x6, x7, rfl⟩, h1⟩ := hI
    rw [enu_len, List.length_map, hW] at h1
    have h1 : (List.range A.length).all (firstOk A S W) = true := by
      rw [List.take_of_length_le (by rw [List.length_range]; exact Nat.le_refl _)] at h1
      exact h1
    have hr : areRounded A S W = sumsOk A S W (half A Ps) 0 (inOrder A Ps) := by
      unfold areRounded
      rw [h1, Bool.true_and, hP]
    have hM := half_lo hA hlt
    refine run_seq (run_asg ((ev_call (ea_cons (ev_var rfl) (ea_cons (ev_var rfl) ea_nil)) ⟨A, Ps, hA, hlt, rfl, rfl⟩).flat rfl) ?_)
    refine run_seq (run_asg ((ev_con (dp_nought T)).flat rfl) ?_)
    refine run_seq (run_for (src_list (ds := (inOrder A Ps).map dN) ((evf_call (ea_cons (ev_var rfl) (ea_cons (ev_var rfl) ea_nil)) ⟨A, Ps, hlt, hPl, rfl, rfl⟩).st (lfA_dN _))) (fun i s => ∃ tot x4, fin tot ∧ sumsOk A S W (half A Ps) 0 (inOrder A Ps) = sumsOk A S W (half A Ps) tot ((inOrder A Ps).drop i) ∧ s = [.val (dG A), .val (dS S), .val (dWs W), .val (dNs Ps), x4, x5, .val (dR (half A Ps)), .val (dR tot)]) ⟨0, _, fin_zero, rfl, rfl⟩ (fun i d s' hd hI => ?_) fun s' hI => ?_)
    · obtain ⟨tot, x4, hf, he, rfl⟩ := hI
      obtain ⟨k, hk, rfl⟩ := map_get hd
      have hkA : k < A.length := hlt k (inOrder_mem.mp (List.mem_of_getElem? hk))
      have hg := gainBy_fin (w := wayAt W k) hA hS hkA
      have hf2 := fin_add hf hg
      refine ⟨_, _, tg_name, ?_⟩
      refine run_seq (run_asg ((ev_call (ea_cons (ev_var rfl) (ea_cons (ev_call (ea_cons (ev_var rfl) (ea_cons (ev_var rfl) (ea_cons (ev_var rfl) (ea_cons (ev_ix (ev_var (d := dWs W) rfl) (ev_var (d := dN k) rfl) (way_ix (by rw [hW]; exact hkA))) ea_nil)))) ⟨A, S, k, _, hA, hS, hkA, rfl, rfl⟩) ea_nil)) ⟨_, _, lo_sm (fin_lo hf), lo_sm (fin_lo hg), rfl, rfl⟩).flat rfl) ?_)
      have step : sumsOk A S W (half A Ps) tot ((inOrder A Ps).drop i) = if half A Ps < tot + gainBy A S k (wayAt W k) ∨ tot + gainBy A S k (wayAt W k) < 0 - half A Ps then false else sumsOk A S W (half A Ps) (tot + gainBy A S k (wayAt W k)) ((inOrder A Ps).drop (i + 1)) := by
        rw [drop_at hk]
        rfl
      refine run_if (et_or (et_B (ev_call (ea_cons (ev_var rfl) (ea_cons (ev_var rfl) ea_nil)) ⟨_, _, lo_sm hM, lo_sm (fin_lo hf2), rfl, rfl⟩)) fun _ => et_B (ev_call (ea_cons (ev_var rfl) (ea_cons (ev_call (ea_cons (ev_con (dp_nought T)) (ea_cons (ev_var rfl) ea_nil)) ⟨_, _, lo_sm lo_zero, lo_sm hM, rfl, rfl⟩) ea_nil)) ⟨_, _, lo_sm (fin_lo hf2), lo_sm (lo_sub lo_zero hM), rfl, rfl⟩)) (fun h => ?_) fun h => run_next ⟨_, _, hf2, ?_, rfl⟩
      · refine run_ret ev_bl ⟨?_, fun z => nomatch z⟩
        rw [hr, he, step, if_pos (by simpa using h)]
      · rw [he, step, if_neg (by simpa using h)]
    · obtain ⟨tot, x4, hf, he, rfl⟩ := hI
      refine run_ret ev_bl ⟨?_, fun z => nomatch z⟩
      rw [hr, he, List.length_map, List.drop_length]
      rfl
abbrev s_behind_or_none : Stmt := topS 53
theorem sc_behind_or_none : FnScope ["ring", "sending", "thing", "found"] ["ring", "sending", "thing"] (defScope s_behind_or_none) := ⟨rfl, rfl, rfl, by decide +kernel, rfl, by decide +kernel, by decide +kernel⟩
def R_behind_or_none (ds : List PyData) (d : PyData) : Prop := R_slid_by ds d
abbrev sp_behind_or_none (K : PySem.W.Frag) : Sp := spD K false R_behind_or_none
theorem ok_behind_or_none (T : Txt K mg aN aB) {f : Addr} {fd : FuncData} (F : Df K mg "behind_or_none" s_behind_or_none ["ring", "sending", "thing"] f fd) (c_slid_by : Cal P w K mg base 6 "slid_by" ["ring", "sending", "thing"] (sp_slid_by K)) : Cal P w K mg base 7 "behind_or_none" ["ring", "sending", "thing"] (sp_behind_or_none K) := by
  refine F.cal (k := 6) sc_behind_or_none (fun ds d h => by obtain ⟨A, S, l, hA, hS, hc, rfl, rfl⟩ := h <;> rfl) (fun cdv A outer s H E hr => ⟨_, (pss_cons (ps_set (i := 3) sc_behind_or_none.nd rfl (Or.inl rfl) pe_non)
    (pss_cons (ps_try_thru0 (pss_one (ps_set (i := 3) sc_behind_or_none.nd rfl (Or.inl rfl) (pe_cal c_slid_by (hr.mono (by decide)) (by rfl) (pa_cons (pv 0) (pa_cons (pv 1) (pa_cons (pv 2) pa_nil)))))))
    (pss_one (ps_ret (pv 3))))), fun ds d h => ?_⟩)
  obtain ⟨A, S, l, hA, hS, hc, rfl, rfl⟩ := h
  refine run_seq (run_asg (ev_non.flat rfl) ?_)
  refine run_seq (run_asg ((ev_call (ea_cons (ev_var rfl) (ea_cons (ev_var rfl) (ea_cons (ev_var rfl) ea_nil))) ⟨A, S, l, hA, hS, hc, rfl, rfl⟩).free rfl) ?_)
  exact run_ret (ev_var rfl) ⟨rfl, fun z => nomatch z⟩
abbrev s_lets_rounding : Stmt := topS 54
theorem sc_lets_rounding : FnScope ["ring", "sending", "thing", "behind"] ["ring", "sending", "thing"] (defScope s_lets_rounding) := ⟨rfl, rfl, rfl, by decide +kernel, rfl, by decide +kernel, by decide +kernel⟩
def R_lets_rounding (ds : List PyData) (d : PyData) : Prop := (∃ (A : List Ask) (S : List Rat) (l : List Slide) (W : List Bool), Rok A ∧ Sv A S ∧ Chain A S l ∧ W.length = A.length ∧ ds = [dG A, dS S, .tuple [dLs l, dWs W]] ∧ d = .bool (allCross A (partedL A (slidAll S l)) && areRounded A (slidAll S l) W)) ∨
  ∃ (A : List Ask) (S : List Rat) (x : PyData) (l : List PyData), ds = [dG A, dS S, .tuple [x, .tuple l]] ∧ d = .bool false
abbrev sp_lets_rounding (K : PySem.W.Frag) : Sp := spD K false R_lets_rounding
theorem ok_lets_rounding (T : Txt K mg aN aB) {f : Addr} {fd : FuncData} (F : Df K mg "lets_rounding" s_lets_rounding ["ring", "sending", "thing"] f fd) (c_behind_or_none : Cal P w K mg base 7 "behind_or_none" ["ring", "sending", "thing"] (sp_behind_or_none K)) (c_are_rounded : Cal P w K mg base 6 "are_rounded" ["ring", "behind", "ways"] (sp_are_rounded K)) (c_are_ways : Cal P w K mg base 1 "are_ways" ["ring", "thing"] (sp_are_ways K)) (c_all_cross : Cal P w K mg base 2 "all_cross" ["ring", "some"] (sp_all_cross K)) (c_parted_in : Cal P w K mg base 3 "parted_in" ["ring", "sending"] (sp_parted_in K)) : Cal P w K mg base 8 "lets_rounding" ["ring", "sending", "thing"] (sp_lets_rounding K) := by
  refine F.cal (k := 7) sc_lets_rounding (fun ds d h => by obtain ⟨A, S, l, W, hA, hS, hc, hW, rfl, rfl⟩ | ⟨A, S, x, l, rfl, rfl⟩ := h <;> rfl) (fun cdv A outer s H E hr => ⟨_, (pss_cons (ps_if (PW.pt (pw_or (pt_not (pt_val (pe_callB call_isi (by rfl) T.b_isinstance (by decide +kernel) (pa_cons (pv 2) (pa_cons (pe_bltn (v := .ty "tuple") (by rfl) T.b_tuple (by decide +kernel) rfl) pa_nil))))) (pw_or (pt_cmpR (op_neD hr.units) (pe_callB call_len_seq (by rfl) T.b_len (by decide +kernel) (pa_cons (pv 2) pa_nil)) pe_int (nomark _)) (pw_or1 (pt_not (pt_val (pe_cal c_are_ways (hr.mono (by decide)) (by rfl) (pa_cons (pv 0) (pa_cons (pe_ix ix_seq (pv 2) pe_int (fun _ _ => rfl)) pa_nil))))))))) (pss_one (ps_ret pe_bl)) pss_nil)
    (pss_cons (ps_set (i := 3) sc_lets_rounding.nd rfl (Or.inl rfl) (pe_cal c_behind_or_none (hr.mono (by decide)) (by rfl) (pa_cons (pv 0) (pa_cons (pv 1) (pa_cons (pe_ix ix_seq (pv 2) pe_int (fun _ _ => rfl)) pa_nil)))))
    (pss_cons (ps_if (PW.pt (pw_or (pt_cmpR op_isN (pv 3) pe_non (nomark _)) (pw_or1 (pt_not (pt_val (pe_cal c_all_cross (hr.mono (by decide)) (by rfl) (pa_cons (pv 0) (pa_cons (pe_cal c_parted_in (hr.mono (by decide)) (by rfl) (pa_cons (pv 0) (pa_cons (pv 3) pa_nil))) pa_nil)))))))) (pss_one (ps_ret pe_bl)) pss_nil)
    (pss_one (ps_ret (pe_cal c_are_rounded (hr.mono (by decide)) (by rfl) (pa_cons (pv 0) (pa_cons (pv 3) (pa_cons (pe_ix ix_seq (pv 2) pe_int (fun _ _ => rfl)) pa_nil))))))))), fun ds d h => ?_⟩)
  obtain ⟨A, S, l, W, hA, hS, hc, hW, rfl, rfl⟩ | ⟨A, S, x, l, rfl, rfl⟩ := h
  · have hB := chain_sv hS hc
    refine run_seq (run_if (b := false) (evt_is (et_or (et_not (et_B (ev_isi (b := true) (ev_var (d := .tuple [dLs l, dWs W]) rfl) (k_ty "tuple" "tuple" true)))) fun _ => et_or (et_test (ev_op (ev_cb (ea_cons (ev_var (d := .tuple [dLs l, dWs W]) rfl) ea_nil) rc_lenT) ev_int (rv_ne rfl rfl))) fun _ => et_not (et_B (ev_call (ea_cons (ev_var rfl) (ea_cons (ev_ix (ev_var (d := .tuple [dLs l, dWs W]) rfl) ev_int rfl) ea_nil)) (.inl ⟨A, W, hW, hA.len, rfl, rfl⟩)))) rfl) (fun z => nomatch z) fun _ => run_next ?_)
    refine run_seq (run_asg ((ev_call (ea_cons (ev_var rfl) (ea_cons (ev_var rfl) (ea_cons (ev_ix (ev_var (d := .tuple [dLs l, dWs W]) rfl) ev_int rfl) ea_nil))) ⟨A, S, l, hA, hS.toSok, hc, rfl, rfl⟩).free rfl) ?_)
    refine run_seq (run_if (b := !allCross A (partedL A (slidAll S l))) (evt_is (et_or (et_test (ev_op (ev_var (d := dS (slidAll S l)) rfl) ev_non rv_isN)) fun _ => et_not (et_B (ev_call (ea_cons (ev_var rfl) (ea_cons (ev_call (ea_cons (ev_var rfl) (ea_cons (ev_var rfl) ea_nil)) ⟨A, slidAll S l, hA, hB.toSok, rfl, rfl⟩) ea_nil)) ⟨A, _, partedL_lt, rfl, rfl⟩))) (Bool.false_or _)) (fun h => ?_) fun h => run_next ?_)
    · refine run_ret ev_bl ⟨?_, fun z => nomatch z⟩
      rw [show allCross A (partedL A (slidAll S l)) = false by simpa using h, Bool.false_and]
    · refine run_ret (ev_call (ea_cons (ev_var rfl) (ea_cons (ev_var rfl) (ea_cons (ev_ix (ev_var (d := .tuple [dLs l, dWs W]) rfl) ev_int rfl) ea_nil))) ⟨A, _, W, hA, hB.toSok, hW, rfl, rfl⟩) ⟨?_, fun z => nomatch z⟩
      rw [show allCross A (partedL A (slidAll S l)) = true by simpa using h, Bool.true_and]
  · exact run_seq (run_if (b := true) (evt_is (et_or (et_not (et_B (ev_isi (b := true) (ev_var (d := .tuple [x, .tuple l]) rfl) (k_ty "tuple" "tuple" true)))) fun _ => et_or (et_test (ev_op (ev_cb (ea_cons (ev_var (d := .tuple [x, .tuple l]) rfl) ea_nil) rc_lenT) ev_int (rv_ne rfl rfl))) fun _ => et_not (et_B (ev_call (ea_cons (ev_var rfl) (ea_cons (ev_ix (ev_var (d := .tuple [x, .tuple l]) rfl) ev_int rfl) ea_nil)) (.inr ⟨A, l, rfl, rfl⟩)))) rfl) (fun _ => run_ret ev_bl ⟨rfl, fun z => nomatch z⟩) fun z => nomatch z)
abbrev s_whole_ways : Stmt := topS 55
theorem sc_whole_ways : FnScope ["ring", "behind", "ways", "parted", "k", "most", "total", "ask"] ["ring", "behind"] (defScope s_whole_ways) := ⟨rfl, rfl, rfl, by decide +kernel, rfl, by decide +kernel, by decide +kernel⟩
def R_whole_ways (ds : List PyData) (d : PyData) : Prop := ∃ (A : List Ask) (S : List Rat), Rok A ∧ Sok A S ∧ ds = [dG A, dS S] ∧ d = dWs (wholeWays A S)
abbrev sp_whole_ways (K : PySem.W.Frag) : Sp := spD K true R_whole_ways
theorem ok_whole_ways (T : Txt K mg aN aB) {f : Addr} {fd : FuncData} (F : Df K mg "whole_ways" s_whole_ways ["ring", "behind"] f fd) (c_parted_in : Cal P w K mg base 3 "parted_in" ["ring", "sending"] (sp_parted_in K)) (c_half_of_greatest : Cal P w K mg base 4 "half_of_greatest" ["ring", "some"] (sp_half_of_greatest K)) (c_in_order : Cal P w K mg base 1 "in_order" ["ring", "some"] (sp_in_order K)) (c_rising_way : Cal P w K mg base 1 "rising_way" ["ring", "k"] (sp_rising_way K)) (c_under : Cal P w K mg base 1 "under" ["one", "other"] (sp_under K)) (c_plus : Cal P w K mg base 3 "plus" ["one", "other"] (sp_plus K)) (c_other_way : Cal P w K mg base 1 "other_way" ["way"] (sp_other_way K)) (c_gain_by : Cal P w K mg base 5 "gain_by" ["ring", "sending", "k", "way"] (sp_gain_by K)) (c_goes_whole : Cal P w K mg base 5 "goes_whole" ["ring", "sending", "k", "way"] (sp_goes_whole K)) : Cal P w K mg base 6 "whole_ways" ["ring", "behind"] (sp_whole_ways K) := by
  refine F.cal (k := 5) sc_whole_ways (fun ds d h => by obtain ⟨A, S, hA, hS, rfl, rfl⟩ := h <;> rfl) (fun cdv A outer s H E hr => ⟨_, (pss_cons (ps_setLc (i := 2) (own := [("ask", 7)]) (by rfl) sc_whole_ways.nd rfl rfl (sw_true rfl rfl rfl (by decide +kernel)) (pi_list (pe_ix ix_seq (pv 0) pe_int (fun _ _ => rfl))) (blkOk_by (own := [("ask", 7)]) (N := ["ring", "behind", "ways", "parted", "k", "most", "total", "ask"]) (sc := defScope s_whole_ways) (by decide +kernel)) (fun _ _ _ _ _ => (pg_name (i := 7) sc_whole_ways.nd rfl (Or.inl rfl))) (fun _ _ _ _ _ => pts_nil) (fun _ _ _ _ _ => (pe_gc (by rfl) T.hON)))
    (pss_cons (ps_set (i := 3) sc_whole_ways.nd rfl (Or.inl rfl) (pe_cal c_parted_in (hr.mono (by decide)) (by rfl) (pa_cons (pv 0) (pa_cons (pv 1) pa_nil))))
    (pss_cons (ps_for PassesOwn.never rfl (pi_range1 (by rfl) T.b_range (pa_cons (pe_callB call_len_seq (by rfl) T.b_len (by decide +kernel) (pa_cons (pv 2) pa_nil)) pa_nil)) (pg_name (i := 4) sc_whole_ways.nd rfl (Or.inl rfl)) (pss_one (ps_if (PW.pt (pw_and (pt_cmpR op_notIn_seq (pv 4) (pv 3) (by rfl)) (pw_and1 (pt_not (pt_val (pe_cal c_goes_whole (hr.mono (by decide)) (by rfl) (pa_cons (pv 0) (pa_cons (pv 1) (pa_cons (pv 4) (pa_cons (pe_gc (by rfl) T.hON) pa_nil)))))))))) (pss_one (ps_asg (pe_gc (by rfl) T.hBACK) (pg_sub (pv 2) (pv 4) set_list))) pss_nil)))
    (pss_cons (ps_set (i := 5) sc_whole_ways.nd rfl (Or.inl rfl) (pe_cal c_half_of_greatest (hr.mono (by decide)) (by rfl) (pa_cons (pv 0) (pa_cons (pv 3) pa_nil))))
    (pss_cons (ps_set (i := 6) sc_whole_ways.nd rfl (Or.inl rfl) (pe_gc (by rfl) T.hNOUGHT))
    (pss_cons (ps_for PassesOwn.never rfl (pi_list (pe_cal c_in_order (hr.mono (by decide)) (by rfl) (pa_cons (pv 0) (pa_cons (pv 3) pa_nil)))) (pg_name (i := 4) sc_whole_ways.nd rfl (Or.inl rfl)) (pss_cons (ps_asg (pe_cal c_rising_way (hr.mono (by decide)) (by rfl) (pa_cons (pv 0) (pa_cons (pv 4) pa_nil))) (pg_sub (pv 2) (pv 4) set_list))
    (pss_cons (ps_if (pt_val (pe_cal c_under (hr.mono (by decide)) (by rfl) (pa_cons (pv 5) (pa_cons (pe_cal c_plus (hr.mono (by decide)) (by rfl) (pa_cons (pv 6) (pa_cons (pe_cal c_gain_by (hr.mono (by decide)) (by rfl) (pa_cons (pv 0) (pa_cons (pv 1) (pa_cons (pv 4) (pa_cons (pe_ix ix_seq (pv 2) (pv 4) (fun _ _ => rfl)) pa_nil))))) pa_nil))) pa_nil)))) (pss_one (ps_asg (pe_cal c_other_way (hr.mono (by decide)) (by rfl) (pa_cons (pe_ix ix_seq (pv 2) (pv 4) (fun _ _ => rfl)) pa_nil)) (pg_sub (pv 2) (pv 4) set_list))) pss_nil)
    (pss_one (ps_set (i := 6) sc_whole_ways.nd rfl (Or.inl rfl) (pe_cal c_plus (hr.mono (by decide)) (by rfl) (pa_cons (pv 6) (pa_cons (pe_cal c_gain_by (hr.mono (by decide)) (by rfl) (pa_cons (pv 0) (pa_cons (pv 1) (pa_cons (pv 4) (pa_cons (pe_ix ix_seq (pv 2) (pv 4) (fun _ _ => rfl)) pa_nil))))) pa_nil))))))))
    (pss_one (ps_ret (pv 2))))))))), fun ds d h => ?_⟩)
  obtain ⟨A, S, hA, hS, rfl, rfl⟩ := h
  have hz := hA.len
  let g : Nat → Nat → PyData := fun i j => dW (if j < i then baseWay A S j else true)
  refine run_seq (run_asgN (ds := (List.range A.length).map (g 0)) (evn_is (evn_lc (K := K) A dA (fun _ => true) (fun _ => dW true) (src_list (evg_asks (evg_var rfl))) rfl (by omega) (fun a ha => ⟨_, _, tg_name, by decide, et_yes, fun _ => ⟨ev_con fun _ => .str _, rfl⟩⟩)) ?_) (lfA_map (fun _ => rfl) _) ?_)
  · rw [filter_all, List.map_const']
    refine (List.eq_replicate_iff.mpr ⟨by rw [List.length_map, List.length_range], fun b hb => ?_⟩).symm
    obtain ⟨j, _, rfl⟩ := List.mem_map.mp hb
    show dW (if j < 0 then _ else true) = dW true
    rw [if_neg (Nat.not_lt_zero j)]
  refine run_seq (run_asg ((evf_call (ea_cons (ev_var rfl) (ea_cons (ev_var rfl) ea_nil)) ⟨A, S, hA, hS, rfl, rfl⟩).st (lfA_dN _)) ?_)
  have hPl : (partedL A S).length ≤ 20 := by
    have h1 := cnt_le A S
    unfold cnt at h1
    omega
  refine run_seq (run_for (src_rng1 (n := A.length) (ea_cons (ev_is (ev_cb (ea_cons (ev_var (d := .list ((List.range A.length).map (g 0))) rfl) ea_nil) rc_len) (by rw [List.length_map, List.length_range])) ea_nil) (by omega) (by omega)) (fun i s => ∃ x4 x5 x6 x7, s = [.val (dG A), .val (dS S), .own ((List.range A.length).map (g i)), .val (dNs (partedL A S)), x4, x5, x6, x7]) ⟨_, _, _, _, rfl⟩ (fun i d s' hd hI => ?_) fun s' hI => ?_)
  · obtain ⟨x4, x5, x6, x7, rfl⟩ := hI
    have hi : i < A.length := by
      have := (List.getElem?_eq_some_iff.mp hd).1
      rw [rngD_len] at this
      omega
    rw [rngD_get (by omega), Int.zero_add] at hd
    cases hd
    have hgi : ∀ t, t ≠ i → g (i + 1) t = g i t := fun t ht => by
      show dW (if t < i + 1 then _ else _) = dW (if t < i then _ else _)
      by_cases h : t < i
      · rw [if_pos h, if_pos (by omega)]
      · rw [if_neg h, if_neg (by omega)]
    have hg1 : g (i + 1) i = dW (baseWay A S i) := by
      show dW (if i < i + 1 then _ else _) = _
      rw [if_pos (Nat.lt_succ_self i)]
    refine ⟨_, _, tg_name, ?_⟩
    refine run_if (b := !baseWay A S i) (evt_is (et_and (et_test (ev_op (ev_var (d := dN i) rfl) (ev_var (d := dNs (partedL A S)) rfl) rv_inN)) fun _ => et_not (et_B (ev_call (ea_cons (ev_var rfl) (ea_cons (ev_var rfl) (ea_cons (ev_var (d := dN i) rfl) (ea_cons (ev_con fun _ => .str _) ea_nil)))) ⟨A, S, i, true, hA, hS, hi, rfl, rfl⟩))) ?_) (fun h => ?_) fun h => run_next ?_
    · rw [if_pos rfl]
      unfold baseWay
      rw [Bool.not_not]
    · refine run_setL (k := (i : Int)) (d := dW false) (ds := (List.range A.length).map (g i)) (ev_con fun _ => .str _) rfl rfl (ev_var rfl) (by omega) (by rw [Int.toNat_natCast, List.length_map, List.length_range]; exact hi) ?_
      rw [Int.toNat_natCast, set_map (h := g (i + 1)) hi (by rw [hg1, show baseWay A S i = false by simpa using h]) hgi]
      exact ⟨_, _, _, _, rfl⟩
    · have e : (List.range A.length).map (g i) = (List.range A.length).map (g (i + 1)) := by
        refine List.map_congr_left fun t ht => ?_
        by_cases ht : t = i
        · subst ht
          rw [hg1, show baseWay A S t = true by simpa using h]
          show dW (if t < t then _ else true) = _
          rw [if_neg (Nat.lt_irrefl t)]
        · exact (hgi t ht).symm
      rw [e]
      exact ⟨_, _, _, _, rfl⟩
  · obtain ⟨x4, x5, x6, x7, rfl⟩ := hI
    have e : (List.range A.length).map (g (rngD 0 (A.length : Int).toNat).length) = (baseWays A S).map dW := by
      rw [rngD_len]
      unfold baseWays
      rw [List.map_map]
      refine List.map_congr_left fun t ht => ?_
      have := List.mem_range.mp ht
      show dW (if t < (A.length : Int).toNat then _ else _) = dW (baseWay A S t)
      rw [if_pos (by omega)]
    rw [e]
    have hww : wholeWays A S = wwGo A S (half A (partedL A S)) 0 (baseWays A S) (inOrder A (partedL A S)) := rfl
    have hM := half_lo hA (partedL_lt (S := S))
    have hlt := inOrder_lt (A := A) (S := S)
    refine run_seq (run_asg ((ev_call (ea_cons (ev_var rfl) (ea_cons (ev_var rfl) ea_nil)) ⟨A, partedL A S, hA, partedL_lt, rfl, rfl⟩).flat rfl) ?_)
    refine run_seq (run_asg ((ev_con (dp_nought T)).flat rfl) ?_)
    have hord : EvG K (tCall (sp_in_order K) [] E0 (tCons (tVar 0) (tCons (tVar 3) tNil))) [.val (dG A), .val (dS S), .own ((baseWays A S).map dW), .val (dNs (partedL A S)), x4, .val (dR (half A (partedL A S))), .val (dR 0), x7] (.list ((inOrder A (partedL A S)).map dN)) :=
      (evf_call (ea_cons (ev_var rfl) (ea_cons (ev_var rfl) ea_nil)) ⟨A, partedL A S, partedL_lt, hPl, rfl, rfl⟩).st (lfA_dN _)
    generalize half A (partedL A S) = M at hM hww hord ⊢
    generalize inOrder A (partedL A S) = L at hww hord hlt ⊢
    refine run_seq (run_for (src_list hord) (fun i s => ∃ W tot x4 x7, fin tot ∧ W.length = A.length ∧ wholeWays A S = wwGo A S M tot W (L.drop i) ∧ s = [.val (dG A), .val (dS S), .own (W.map dW), .val (dNs (partedL A S)), x4, .val (dR M), .val (dR tot), x7]) ⟨_, 0, _, _, fin_zero, baseWays_len, hww, rfl⟩ (fun i d s' hd hI => ?_) fun s' hI => ?_)
    · obtain ⟨W, tot, x4, x7, hf, hW, he, rfl⟩ := hI
      obtain ⟨k, hk, rfl⟩ := map_get hd
      have hkA : k < A.length := hlt k (List.mem_of_getElem? hk)
      have hgn : ∀ v, fin (gainBy A S k v) := fun v => gainBy_fin hA hS hkA
      have hat : ∀ v, ixD (dWs (W.set k v)) (dN k) = some (dW v) := fun v => by
        rw [way_ix (by rw [List.length_set, hW]; exact hkA), wayAt_set (by rw [hW]; exact hkA), if_pos rfl]
      refine ⟨_, _, tg_name, ?_⟩
      refine run_seq (run_setL (k := (k : Int)) (d := dW (rwy (askAt A k))) (ds := W.map dW) (ev_call (ea_cons (ev_var rfl) (ea_cons (ev_var rfl) ea_nil)) ⟨A, k, hkA, rfl, rfl⟩) rfl rfl (ev_var rfl) (by omega) (by rw [Int.toNat_natCast, List.length_map, hW]; exact hkA) ?_)
      rw [Int.toNat_natCast, ← List.map_set]
      refine run_seqTo (s1 := [.val (dG A), .val (dS S), .own ((W.set k (pick A S M tot k)).map dW), .val (dNs (partedL A S)), .val (dN k), .val (dR M), .val (dR tot), x7])
        (run_if (b := decide (M < tot + gainBy A S k (rwy (askAt A k)))) (et_B (ev_call (ea_cons (ev_var rfl) (ea_cons (ev_call (ea_cons (ev_var rfl) (ea_cons (ev_call (ea_cons (ev_var rfl) (ea_cons (ev_var rfl) (ea_cons (ev_var rfl) (ea_cons (ev_ix (ev_var (d := dWs (W.set k (rwy (askAt A k)))) rfl) (ev_var (d := dN k) rfl) (hat _)) ea_nil)))) ⟨A, S, k, _, hA, hS, hkA, rfl, rfl⟩) ea_nil)) ⟨_, _, lo_sm (fin_lo hf), lo_sm (fin_lo (hgn _)), rfl, rfl⟩) ea_nil)) ⟨_, _, lo_sm hM, lo_sm (fin_lo (fin_add hf (hgn _))), rfl, rfl⟩)) (fun h => ?_) fun h => run_next ?_) ?_
      · refine run_setL (k := (k : Int)) (d := dW (!rwy (askAt A k))) (ds := (W.set k (rwy (askAt A k))).map dW) (ev_call (ea_cons (ev_ix (ev_var (d := dWs (W.set k (rwy (askAt A k)))) rfl) (ev_var (d := dN k) rfl) (hat _)) ea_nil) ⟨_, rfl, rfl⟩) rfl rfl (ev_var rfl) (by omega) (by rw [Int.toNat_natCast, List.length_map, List.length_set, hW]; exact hkA) ?_
        rw [Int.toNat_natCast, ← List.map_set, show (W.set k (rwy (askAt A k))).set k (!rwy (askAt A k)) = W.set k (!rwy (askAt A k)) from List.set_set ..]
        have e : pick A S M tot k = !rwy (askAt A k) := if_pos (of_decide_eq_true h)
        rw [e]
        rfl
      · have e : pick A S M tot k = rwy (askAt A k) := if_neg (of_decide_eq_false h)
        rw [e]
        rfl
      · refine run_asg ((ev_call (ea_cons (ev_var rfl) (ea_cons (ev_call (ea_cons (ev_var rfl) (ea_cons (ev_var rfl) (ea_cons (ev_var rfl) (ea_cons (ev_ix (ev_var (d := dWs (W.set k (pick A S M tot k))) rfl) (ev_var (d := dN k) rfl) (hat _)) ea_nil)))) ⟨A, S, k, _, hA, hS, hkA, rfl, rfl⟩) ea_nil)) ⟨_, _, lo_sm (fin_lo hf), lo_sm (fin_lo (hgn _)), rfl, rfl⟩).flat rfl) ?_
        refine ⟨W.set k (pick A S M tot k), tot + gainBy A S k (pick A S M tot k), _, _, fin_add hf (hgn _), by rw [List.length_set]; exact hW, ?_, rfl⟩
        rw [he, drop_at hk]
        rfl
    · obtain ⟨W, tot, x4, x7, hf, hW, he, rfl⟩ := hI
      refine run_retO rfl ⟨?_, fun _ => rfl⟩
      rw [List.length_map, List.drop_length] at he
      rw [he]
      rfl
abbrev s_rounding_of : Stmt := topS 56
theorem sc_rounding_of : FnScope ["ring", "sending", "slides"] ["ring", "sending"] (defScope s_rounding_of) := ⟨rfl, rfl, rfl, by decide +kernel, rfl, by decide +kernel, by decide +kernel⟩
def R_rounding_of (ds : List PyData) (d : PyData) : Prop := ∃ (A : List Ask) (S : List Rat), Rok A ∧ Sv A S ∧ ds = [dG A, dS S] ∧ d = .tuple [dLs (slidesOf A S), dWs (wholeWays A (behind A S))]
abbrev sp_rounding_of (K : PySem.W.Frag) : Sp := spD K false R_rounding_of
theorem ok_rounding_of (T : Txt K mg aN aB) {f : Addr} {fd : FuncData} (F : Df K mg "rounding_of" s_rounding_of ["ring", "sending"] f fd) (c_slides_for : Cal P w K mg base 6 "slides_for" ["ring", "sending"] (sp_slides_for K)) (c_whole_ways : Cal P w K mg base 6 "whole_ways" ["ring", "behind"] (sp_whole_ways K)) (c_slid_by : Cal P w K mg base 6 "slid_by" ["ring", "sending", "thing"] (sp_slid_by K)) : Cal P w K mg base 7 "rounding_of" ["ring", "sending"] (sp_rounding_of K) := by
  refine F.cal (k := 6) sc_rounding_of (fun ds d h => by obtain ⟨A, S, hA, hS, rfl, rfl⟩ := h <;> rfl) (fun cdv A outer s H E hr => ⟨_, (pss_cons (ps_set (i := 2) sc_rounding_of.nd rfl (Or.inl rfl) (pe_cal c_slides_for (hr.mono (by decide)) (by rfl) (pa_cons (pv 0) (pa_cons (pv 1) pa_nil))))
    (pss_one (ps_ret (pe_tup (pa_cons (pv 2) (pa_cons (pe_cal c_whole_ways (hr.mono (by decide)) (by rfl) (pa_cons (pv 0) (pa_cons (pe_cal c_slid_by (hr.mono (by decide)) (by rfl) (pa_cons (pv 0) (pa_cons (pv 1) (pa_cons (pv 2) pa_nil)))) pa_nil))) pa_nil)))))), fun ds d h => ?_⟩)
  obtain ⟨A, S, hA, hS, rfl, rfl⟩ := h
  have hc := (slidesOf_ok hA _ hS (Nat.le_refl _)).1
  refine run_seq (run_asg ((evf_call (ea_cons (ev_var rfl) (ea_cons (ev_var rfl) ea_nil)) ⟨A, S, hA, hS, rfl, rfl⟩).st (lfA_dL _)) ?_)
  exact run_ret (ev_tup (ea_cons (ev_var rfl) (ea_cons (ev_call (ea_cons (ev_var rfl) (ea_cons (ev_call (ea_cons (ev_var rfl) (ea_cons (ev_var rfl) (ea_cons (ev_var rfl) ea_nil))) ⟨A, S, _, hA, hS.toSok, hc, rfl, rfl⟩) ea_nil)) ⟨A, behind A S, hA, (behind_sv hA hS).toSok, rfl, rfl⟩) ea_nil))) ⟨rfl, fun z => nomatch z⟩
abbrev s_gains_of : Stmt := topS 58
theorem sc_gains_of : FnScope ["ring", "sending", "ways", "whole", "parted", "tie", "load"] ["ring", "sending", "ways"] (defScope s_gains_of) := ⟨rfl, rfl, rfl, by decide +kernel, rfl, by decide +kernel, by decide +kernel⟩
def R_gains_of (ds : List PyData) (d : PyData) : Prop := ∃ (A : List Ask) (S : List Rat) (W : List Bool), Rok A ∧ Sok A S ∧ W.length = A.length ∧ ds = [dG A, dS S, dWs W] ∧ d = .list ((List.range 12).map fun t => dR (load A (sentBy A W) t - load A S t))
abbrev sp_gains_of (K : PySem.W.Frag) : Sp := spD K true R_gains_of
theorem lfA_loads (f : Nat → Rat) (l : List Nat) : lfA (l.map fun t => dR (f t)) = true := lfA_map (fun _ => rfl) l
theorem ok_gains_of (T : Txt K mg aN aB) {f : Addr} {fd : FuncData} (F : Df K mg "gains_of" s_gains_of ["ring", "sending", "ways"] f fd) (c_loads_of : Cal P w K mg base 4 "loads_of" ["ring", "sending"] (sp_loads_of K)) (c_sent_by : Cal P w K mg base 1 "sent_by" ["ring", "ways"] (sp_sent_by K)) (c_minus : Cal P w K mg base 3 "minus" ["one", "other"] (sp_minus K)) : Cal P w K mg base 5 "gains_of" ["ring", "sending", "ways"] (sp_gains_of K) := by
  refine F.cal (k := 4) sc_gains_of (fun ds d h => by obtain ⟨A, S, W, hA, hS, hW, rfl, rfl⟩ := h <;> rfl) (fun cdv A outer s H E hr => ⟨_, (pss_cons (ps_set (i := 3) sc_gains_of.nd rfl (Or.inl rfl) (pe_cal c_loads_of (hr.mono (by decide)) (by rfl) (pa_cons (pv 0) (pa_cons (pe_cal c_sent_by (hr.mono (by decide)) (by rfl) (pa_cons (pv 0) (pa_cons (pv 2) pa_nil))) pa_nil))))
    (pss_cons (ps_set (i := 4) sc_gains_of.nd rfl (Or.inr rfl) (pe_cal c_loads_of (hr.mono (by decide)) (by rfl) (pa_cons (pv 0) (pa_cons (pv 1) pa_nil))))
    (pss_one (ps_ret (pe_lc (own := [("tie", 5), ("load", 6)]) (by rfl) sc_gains_of.nd (pi_enum (by rfl) T.b_enumerate (pa_cons (pv 3) pa_nil)) (blkOk_by (own := [("tie", 5), ("load", 6)]) (N := ["ring", "sending", "ways", "whole", "parted", "tie", "load"]) (sc := defScope s_gains_of) (by decide +kernel)) (fun _ _ _ _ _ => (show PG _ _ (gTup K 2 (gNames [5, 6])) from pg_tup rfl (pgs_cons (pg_name (i := 5) sc_gains_of.nd rfl (Or.inl rfl)) (pgs_cons (pg_name (i := 6) sc_gains_of.nd rfl (Or.inl rfl)) pgs_nil)))) (fun _ _ _ _ _ => pts_nil) (fun _ _ _ _ _ => (pe_cal c_minus (hr.mono (by decide)) (by rfl) (pa_cons (pv 6) (pa_cons (pe_ix (show IxR _ (rIx K) from ix_seq) (pv 4) (pv 5) (fun _ _ => rfl)) pa_nil))))))))), fun ds d h => ?_⟩)
  obtain ⟨A, S, W, hA, hS, hW, rfl, rfl⟩ := h
  have hB := (sentBy_sv hA hW).toSok
  refine run_seq (run_asg ((evf_call (ea_cons (ev_var rfl) (ea_cons (ev_call (ea_cons (ev_var rfl) (ea_cons (ev_var rfl) ea_nil)) ⟨A, W, hW, hA.len, rfl, rfl⟩) ea_nil)) ⟨A, sentBy A W, hA, hB, rfl, rfl⟩).st (lfA_loads _ _)) ?_)
  refine run_seq (run_asg ((evf_call (ea_cons (ev_var rfl) (ea_cons (ev_var rfl) ea_nil)) ⟨A, S, hA, hS, rfl, rfl⟩).st (lfA_loads _ _)) ?_)
  refine run_retF (d := .list ((List.range 12).map fun t => dR (load A (sentBy A W) t - load A S t))) (evn_is (evn_lc (K := K) (List.range 12) (fun t => .tuple [dN t, dR (load A (sentBy A W) t)]) (fun _ => true) (fun t => dR (load A (sentBy A W) t - load A S t)) (src_enum (evg_var (d := .list ((List.range 12).map fun t => dR (load A (sentBy A W) t))) rfl)) (enu_range _ _) (by decide) (fun t ht => ?_)) ?_).evf ⟨rfl, fun _ => rfl⟩
  · have ht := List.mem_range.mp ht
    refine ⟨_, _, tg_tup (is := [5, 6]) rfl rfl, by decide, et_yes, fun _ => ⟨ev_call (ea_cons (ev_var rfl) (ea_cons (ev_ix (d := dR (load A S t)) (ev_var (d := .list ((List.range 12).map fun t => dR (load A S t))) rfl) (ev_var (d := dN t) rfl) (ixD_nat ?_)) ea_nil)) ⟨_, _, lo_sm (loadTo_lo hA hB t _ (Nat.le_refl _)), lo_sm (loadTo_lo hA hS t _ (Nat.le_refl _)), rfl, rfl⟩, rfl⟩⟩
    rw [List.getElem?_map, List.getElem?_range ht]
    rfl
  · rw [filter_all]
end
end Rg

set_option Elab.async false
set_option linter.all false
set_option maxRecDepth 100000
set_option maxHeartbeats 4000000
/-! What the law computes for itself. -/
namespace Rg
open PySem PySem.Spec PyProof.Rows L2
/-- the law's ties of an ask, in its order -/
def endP (a : Ask) (w : Bool) : Int := if w then a.one else a.other
def endQ (a : Ask) (w : Bool) : Int := if w then a.other else a.one
def wayN (a : Ask) (w : Bool) : Nat := ((endQ a w - endP a w) % 12).toNat
def lawTies (a : Ask) (w : Bool) : List Int := (List.range (wayN a w)).map fun (s : Nat) => (endP a w + (s : Int)) % 12
theorem lawTies_mem {a : Ask} (h : AOk a) (w : Bool) (t : Int) : t ∈ lawTies a w ↔ 0 ≤ t ∧ t < 12 ∧ isOver a w t = true := by
  have := h.o1
  have := h.o2
  have := h.ne
  unfold lawTies wayN isOver over endP endQ
  rw [List.mem_map]
  cases w
  · simp only [List.mem_range, Bool.false_eq_true, if_false, beq_iff_eq, decide_eq_false_iff_not]
    constructor
    · rintro ⟨s, h1, h2⟩
      omega
    · rintro ⟨h1, h2, h3⟩
      exact ⟨((t - (a.other : Int)) % 12).toNat, by omega, by omega⟩
  · simp only [List.mem_range, if_true, beq_iff_eq, decide_eq_true_eq]
    constructor
    · rintro ⟨s, h1, h2⟩
      omega
    · rintro ⟨h1, h2, h3⟩
      exact ⟨((t - (a.one : Int)) % 12).toNat, by omega, by omega⟩
theorem wayN_lt (a : Ask) (w : Bool) : wayN a w < 12 := by unfold wayN; omega
theorem lawTies_nodup (a : Ask) (w : Bool) : (lawTies a w).Nodup := by
  have hw := wayN_lt a w
  unfold lawTies
  refine List.Pairwise.map _ (fun x y (hxy : x < y ∧ y < wayN a w) => by omega) ?_
  refine (List.pairwise_lt_range (n := wayN a w)).imp_of_mem ?_
  intro x y hx hy hxy
  exact ⟨hxy, List.mem_range.mp hy⟩
/-- g more over the ties -/
def addW (a : Ask) (w : Bool) (g : Rat) (f : Nat → Rat) (t : Nat) : Rat := if isOver a w t then f t + g else f t
theorem add_both {A : List Ask} {S : List Rat} {m t : Nat} : addW (askAt A m) false ((askAt A m).size - partAt S m) (addW (askAt A m) true (partAt S m) fun t => loadTo A S t m) t = loadTo A S t (m + 1) := by
  unfold addW isOver
  show _ = loadTo A S t m + _
  cases over (askAt A m) t <;> simp
theorem mk_half3 (g : Rat) : mkRat (3 * g.num) (2 * g.den) = 3 * (g * (1 / 2)) := by
  have h : mkRat 3 2 * mkRat g.num g.den = mkRat (3 * g.num) (2 * g.den) := Rat.mkRat_mul_mkRat ..
  rw [← h, Rat.mkRat_self]
  have e : mkRat 3 2 = 3 * (1 / 2 : Rat) := by decide +kernel
  rw [e]
  grind
section
variable {P : Program} {w : World} {K : PySem.W.Frag} {mg : Str → Option Value} {base : Heap} {aN aB : Addr}
abbrev s__law_low : Stmt := topS 62
theorem sc__law_low : FnScope ["_law_top", "_law_bottom", "_law_one", "_law_share"] ["_law_top", "_law_bottom"] (defScope s__law_low) := ⟨rfl, rfl, rfl, by decide +kernel, rfl, by decide +kernel, by decide +kernel⟩
def R__law_low (ds : List PyData) (d : PyData) : Prop := ∃ (t : Int) (b : Nat), 0 < b ∧ b < 2 ^ 200 ∧ ds = [.int t, .int b] ∧ d = dR (mkRat t b)
abbrev sp__law_low (K : PySem.W.Frag) : Sp := spD K false R__law_low
theorem ok__law_low (T : Txt K mg aN aB) {f : Addr} {fd : FuncData} (F : Df K mg "_law_low" s__law_low ["_law_top", "_law_bottom"] f fd) : Cal P w K mg base 1 "_law_low" ["_law_top", "_law_bottom"] (sp__law_low K) := by
  refine F.cal (k := 0) sc__law_low (fun ds d h => by obtain ⟨t, b, h0, h1, rfl, rfl⟩ := h <;> rfl) (fun cdv A outer s H E hr => ⟨_, (pss_cons (ps_set (i := 2) sc__law_low.nd rfl (Or.inl rfl) (pe_callB call_abs (by rfl) T.b_abs (by decide +kernel) (pa_cons (pv 0) pa_nil)))
    (pss_cons (ps_set (i := 3) sc__law_low.nd rfl (Or.inl rfl) (pe_callB call_abs (by rfl) T.b_abs (by decide +kernel) (pa_cons (pv 1) pa_nil)))
    (pss_cons (ps_while PassesOwn.never (pt_cmpR (op_neD hr.units) (pv 2) pe_int (nomark _)) (pss_one (ps_par (i := 2) (j := 3) (by rfl) sc__law_low.nd rfl rfl (by decide) rfl rfl (pa_cons (pe_op op_mod (pv 3) (pv 2)) (pa_cons (pv 2) pa_nil)) (by rfl))))
    (pss_cons (ps_if (pt_cmpR op_lt (pv 1) pe_int (nomark _)) (pss_one (ps_set (i := 3) sc__law_low.nd rfl (Or.inl rfl) (pe_op op_sub pe_int (pv 3)))) pss_nil)
    (pss_one (ps_ret (pe_tup (pa_cons (pe_op op_fdivW (pv 0) (pv 3)) (pa_cons (pe_op op_fdivW (pv 1) (pv 3)) pa_nil))))))))), fun ds d h => ?_⟩)
  obtain ⟨t, b, h0, h1, rfl, rfl⟩ := h
  refine run_seq (run_asg ((ev_cb (ea_cons (ev_var rfl) ea_nil) rc_abs).flat rfl) ?_)
  refine run_seq (run_asg ((ev_cb (ea_cons (ev_var rfl) ea_nil) rc_abs).flat rfl) ?_)
  have e0 : Int.gcd (if t < 0 then -t else t) (if (b : Int) < 0 then -(b : Int) else b) = Int.gcd t b := by
    rw [if_neg (by omega : ¬ (b : Int) < 0)]
    split
    · exact Int.neg_gcd
    · rfl
  refine run_seq (run_while (fun m s => ∃ x y : Int, s = [.val (.int t), .val (.int b), .val (.int x), .val (.int y)] ∧ 0 ≤ x ∧ 0 ≤ y ∧ m = x.toNat ∧ Int.gcd x y = Int.gcd t b) (if t < 0 then -t else t).toNat ⟨_, _, rfl, by split <;> omega, by split <;> omega, rfl, e0⟩ fun m s ⟨x, y, hs, h2, h3, h4, h5⟩ => ?_)
  subst hs
  refine ⟨!PyData.eqv (.int x) (.int 0), et_test (ev_op (ev_var rfl) ev_int (rv_ne rfl rfl)), fun hb => ?_, fun hb => ?_⟩
  · have hx : x ≠ 0 := fun z => by subst z; exact absurd hb (by decide)
    refine run_par (ea_cons (ev_op (ev_var rfl) (ev_var rfl) (rv_int (by omega))) (ea_cons (ev_var rfl) ea_nil)) rfl rfl ?_
    have := Int.emod_lt_of_pos y (show 0 < x by omega)
    have := Int.emod_nonneg y hx
    refine ⟨(y % x).toNat, by omega, y % x, x, rfl, by omega, h2, rfl, ?_⟩
    rw [← h5, Int.gcd_comm, gcd_step, Int.gcd_comm]
  · have hx : x = 0 := by
      have : (x == 0) = true := by simpa [PyData.eqv] using hb
      exact eq_of_beq this
    subst hx
    have ey : y = Int.gcd t b := by
      rw [Int.gcd_zero_left] at h5
      omega
    subst ey
    have hg := gcd_pos (t := t) h0
    have hg2 := gcd_le (t := t) h0
    have c : ∀ i : Int, CDivW i (Int.gcd t b : Int) := fun i => wide_div hg (b := 200) (by omega) (by decide) (by decide)
    refine run_seq (run_if (et_test (ev_op (ev_var rfl) ev_int rv_bool0)) (fun z => ?_) fun z => run_next ?_)
    · have := of_decide_eq_true z
      omega
    · refine run_ret (ev_tup (ea_cons (ev_op (ev_var rfl) (ev_var rfl) (rv_int (c _))) (ea_cons (ev_op (ev_var rfl) (ev_var rfl) (rv_int (c _))) ea_nil))) ⟨?_, fun z => nomatch z⟩
      unfold dR
      rw [mk_num t h0, mk_den t h0]
abbrev s__law_plus : Stmt := topS 65
theorem sc__law_plus : FnScope ["_law_one", "_law_other"] ["_law_one", "_law_other"] (defScope s__law_plus) := ⟨rfl, rfl, rfl, by decide +kernel, rfl, by decide +kernel, by decide +kernel⟩
def R__law_plus (ds : List PyData) (d : PyData) : Prop := R_plus ds d
abbrev sp__law_plus (K : PySem.W.Frag) : Sp := spD K false R__law_plus
theorem ok__law_plus (T : Txt K mg aN aB) {f : Addr} {fd : FuncData} (F : Df K mg "_law_plus" s__law_plus ["_law_one", "_law_other"] f fd) (c__law_low : Cal P w K mg base 1 "_law_low" ["_law_top", "_law_bottom"] (sp__law_low K)) : Cal P w K mg base 2 "_law_plus" ["_law_one", "_law_other"] (sp__law_plus K) := by
  refine F.cal (k := 1) sc__law_plus (fun ds d h => by obtain ⟨a, b, ha, hb, rfl, rfl⟩ := h <;> rfl) (fun cdv A outer s H E hr => ⟨_, (pss_one (ps_ret (pe_cal c__law_low (hr.mono (by decide)) (by rfl) (pa_cons (pe_op op_add (pe_op op_mul (pe_ix ix_seq (pv 0) pe_int (fun _ _ => rfl)) (pe_ix ix_seq (pv 1) pe_int (fun _ _ => rfl))) (pe_op op_mul (pe_ix ix_seq (pv 1) pe_int (fun _ _ => rfl)) (pe_ix ix_seq (pv 0) pe_int (fun _ _ => rfl)))) (pa_cons (pe_op op_mul (pe_ix ix_seq (pv 0) pe_int (fun _ _ => rfl)) (pe_ix ix_seq (pv 1) pe_int (fun _ _ => rfl))) pa_nil))))), fun ds d h => ?_⟩)
  obtain ⟨a, b, ha, hb, rfl, rfl⟩ := h
  refine run_ret (ev_call (ea_cons (ev_op (ev_op (ev_num (ev_var rfl)) (ev_den (ev_var rfl)) (rv_int (cm_right hb))) (ev_op (ev_num (ev_var rfl)) (ev_den (ev_var rfl)) (rv_int (cm_right ha))) rv_int0) (ea_cons (ev_op (ev_den (ev_var rfl)) (ev_den (ev_var rfl)) (rv_int (cm_right hb))) ea_nil))
    ⟨_, a.den * b.den, Nat.mul_pos a.den_pos b.den_pos, two_sm ha hb, by rw [Int.natCast_mul], rfl⟩) ⟨by rw [Rat.add_def'], fun z => nomatch z⟩
abbrev s__law_minus : Stmt := topS 66
theorem sc__law_minus : FnScope ["_law_one", "_law_other"] ["_law_one", "_law_other"] (defScope s__law_minus) := ⟨rfl, rfl, rfl, by decide +kernel, rfl, by decide +kernel, by decide +kernel⟩
def R__law_minus (ds : List PyData) (d : PyData) : Prop := R_minus ds d
abbrev sp__law_minus (K : PySem.W.Frag) : Sp := spD K false R__law_minus
theorem ok__law_minus (T : Txt K mg aN aB) {f : Addr} {fd : FuncData} (F : Df K mg "_law_minus" s__law_minus ["_law_one", "_law_other"] f fd) (c__law_low : Cal P w K mg base 1 "_law_low" ["_law_top", "_law_bottom"] (sp__law_low K)) : Cal P w K mg base 2 "_law_minus" ["_law_one", "_law_other"] (sp__law_minus K) := by
  refine F.cal (k := 1) sc__law_minus (fun ds d h => by obtain ⟨a, b, ha, hb, rfl, rfl⟩ := h <;> rfl) (fun cdv A outer s H E hr => ⟨_, (pss_one (ps_ret (pe_cal c__law_low (hr.mono (by decide)) (by rfl) (pa_cons (pe_op op_sub (pe_op op_mul (pe_ix ix_seq (pv 0) pe_int (fun _ _ => rfl)) (pe_ix ix_seq (pv 1) pe_int (fun _ _ => rfl))) (pe_op op_mul (pe_ix ix_seq (pv 1) pe_int (fun _ _ => rfl)) (pe_ix ix_seq (pv 0) pe_int (fun _ _ => rfl)))) (pa_cons (pe_op op_mul (pe_ix ix_seq (pv 0) pe_int (fun _ _ => rfl)) (pe_ix ix_seq (pv 1) pe_int (fun _ _ => rfl))) pa_nil))))), fun ds d h => ?_⟩)
  obtain ⟨a, b, ha, hb, rfl, rfl⟩ := h
  refine run_ret (ev_call (ea_cons (ev_op (ev_op (ev_num (ev_var rfl)) (ev_den (ev_var rfl)) (rv_int (cm_right hb))) (ev_op (ev_num (ev_var rfl)) (ev_den (ev_var rfl)) (rv_int (cm_right ha))) rv_int0) (ea_cons (ev_op (ev_den (ev_var rfl)) (ev_den (ev_var rfl)) (rv_int (cm_right hb))) ea_nil))
    ⟨_, a.den * b.den, Nat.mul_pos a.den_pos b.den_pos, two_sm ha hb, by rw [Int.natCast_mul], rfl⟩) ⟨by rw [Rat.sub_def'], fun z => nomatch z⟩
abbrev s__law_under : Stmt := topS 67
theorem sc__law_under : FnScope ["_law_one", "_law_other"] ["_law_one", "_law_other"] (defScope s__law_under) := ⟨rfl, rfl, rfl, by decide +kernel, rfl, by decide +kernel, by decide +kernel⟩
def R__law_under (ds : List PyData) (d : PyData) : Prop := R_under ds d
abbrev sp__law_under (K : PySem.W.Frag) : Sp := spD K false R__law_under
theorem ok__law_under (T : Txt K mg aN aB) {f : Addr} {fd : FuncData} (F : Df K mg "_law_under" s__law_under ["_law_one", "_law_other"] f fd) : Cal P w K mg base 1 "_law_under" ["_law_one", "_law_other"] (sp__law_under K) := by
  refine F.cal (k := 0) sc__law_under (fun ds d h => by obtain ⟨a, b, ha, hb, rfl, rfl⟩ := h <;> rfl) (fun cdv A outer s H E hr => ⟨_, (pss_one (ps_ret (pe_cmpR op_lt (pe_op op_mul (pe_ix ix_seq (pv 0) pe_int (fun _ _ => rfl)) (pe_ix ix_seq (pv 1) pe_int (fun _ _ => rfl))) (pe_op op_mul (pe_ix ix_seq (pv 1) pe_int (fun _ _ => rfl)) (pe_ix ix_seq (pv 0) pe_int (fun _ _ => rfl))) (nomark _)))), fun ds d h => ?_⟩)
  obtain ⟨a, b, ha, hb, rfl, rfl⟩ := h
  refine run_ret (ev_op (ev_op (ev_num (ev_var rfl)) (ev_den (ev_var rfl)) (rv_int (cm_right hb))) (ev_op (ev_num (ev_var rfl)) (ev_den (ev_var rfl)) (rv_int (cm_right ha))) rv_bool0) ⟨?_, fun z => nomatch z⟩
  congr 1
  exact decide_eq_decide.mpr (Rat.lt_iff a b).symm
abbrev s__law_ties : Stmt := topS 68
theorem sc__law_ties : FnScope ["_law_ring", "_law_k", "_law_way", "_law_name", "_law_one", "_law_other", "_law_size", "_law_ties_here"] ["_law_ring", "_law_k", "_law_way"] (defScope s__law_ties) := ⟨rfl, rfl, rfl, by decide +kernel, rfl, by decide +kernel, by decide +kernel⟩
def R__law_ties (ds : List PyData) (d : PyData) : Prop := ∃ (A : List Ask) (k : Nat) (w : Bool), Rok A ∧ k < A.length ∧ ds = [dG A, dN k, dW w] ∧ d = .list ((lawTies (askAt A k) w).map .int)
abbrev sp__law_ties (K : PySem.W.Frag) : Sp := spD K true R__law_ties
theorem ok__law_ties (T : Txt K mg aN aB) {f : Addr} {fd : FuncData} (F : Df K mg "_law_ties" s__law_ties ["_law_ring", "_law_k", "_law_way"] f fd) : Cal P w K mg base 1 "_law_ties" ["_law_ring", "_law_k", "_law_way"] (sp__law_ties K) := by
  refine F.cal (k := 0) sc__law_ties (fun ds d h => by obtain ⟨A, k, w, hA, hk, rfl, rfl⟩ := h <;> rfl) (fun cdv A outer s H E hr => ⟨_, (pss_cons (ps_asg (pe_ix ix_seq (pe_ix ix_seq (pv 0) pe_int (fun _ _ => rfl)) (pv 1) (fun _ _ => rfl)) (pg_tup rfl (pgs_cons (pg_name (i := 3) sc__law_ties.nd rfl (Or.inl rfl)) (pgs_cons (pg_name (i := 4) sc__law_ties.nd rfl (Or.inl rfl)) (pgs_cons (pg_name (i := 5) sc__law_ties.nd rfl (Or.inl rfl)) (pgs_cons (pg_name (i := 6) sc__law_ties.nd rfl (Or.inl rfl)) pgs_nil))))))
    (pss_cons (ps_if (pt_cmpR (op_eqD hr.units) (pv 2) pe_str (nomark _)) (pss_one (ps_par (i := 4) (j := 5) (by rfl) sc__law_ties.nd rfl rfl (by decide) rfl rfl (pa_cons (pv 5) (pa_cons (pv 4) pa_nil)) (by rfl))) pss_nil)
    (pss_cons (ps_set (i := 7) sc__law_ties.nd rfl (Or.inl rfl) (pe_lst pa_nil))
    (pss_cons (ps_while PassesOwn.never (pt_cmpR (op_neD hr.units) (pv 4) (pv 5) (nomark _)) (pss_cons (ps_expr (pe_bm PySem.F.plainAttrs_list PySem.F.slot_list_append PySem.F.type_list_append mt_append (pv 7) (pa_cons (pv 4) pa_nil)))
    (pss_one (ps_set (i := 4) sc__law_ties.nd rfl (Or.inl rfl) (pe_op op_mod (pe_op op_add (pv 4) pe_int) (pe_callB call_len_seq (by rfl) T.b_len (by decide +kernel) (pa_cons (pe_ix ix_seq (pv 0) pe_int (fun _ _ => rfl)) pa_nil)))))))
    (pss_one (ps_ret (pv 7))))))), fun ds d h => ?_⟩)
  obtain ⟨A, k, w, hA, hk, rfl, rfl⟩ := h
  have ha := hA.at hk
  refine run_seq (run_unpack ((ev_ask (ev_var rfl) (ev_var rfl) hk).flat rfl) (tg_tup (is := [3, 4, 5, 6]) rfl rfl) ?_)
  generalize ea : askAt A k = a
  rw [ea] at ha
  have h1 := ha.o1
  have h2 := ha.o2
  have h3 := ha.ne
  refine run_seqTo (s1 := [.val (dG A), .val (dN k), .val (dW w), .val (.str ⟨a.nm⟩), .val (.int (endP a w)), .val (.int (endQ a w)), .val (dR a.size), .no]) (run_if (b := !w) (evt_is (et_test (ev_op (ev_var (d := dW w) rfl) (ev_str (i := "back")) (rv_eq (sh_dW w) (sh_dW false)))) ((eqv_way w false).trans (by cases w <;> rfl))) (fun h => ?_) fun h => run_next ?_) ?_
  · have h : w = false := by simpa using h
    subst h
    exact run_par (d1 := .int a.other) (d2 := .int a.one) (ea_cons (ev_var rfl) (ea_cons (ev_var rfl) ea_nil)) rfl rfl rfl
  · have h : w = true := by simpa using h
    subst h
    rfl
  · refine run_seq (run_asgN (evn_lst ea_nil) rfl ?_)
    have hp : 0 ≤ endP a w ∧ endP a w < 12 := by unfold endP; split <;> omega
    have hq : 0 ≤ endQ a w ∧ endQ a w < 12 := by unfold endQ; split <;> omega
    have hN : wayN a w = ((endQ a w - endP a w) % 12).toNat := rfl
    have hT : lawTies a w = (List.range (wayN a w)).map fun (s : Nat) => (endP a w + (s : Int)) % 12 := rfl
    generalize endP a w = p at hp hN hT ⊢
    generalize endQ a w = q at hq hN hT ⊢
    generalize wayN a w = N at hN hT
    refine run_seq (run_while (fun m s => ∃ j : Nat, j ≤ N ∧ m = N - j ∧ s = [.val (dG A), .val (dN k), .val (dW w), .val (.str ⟨a.nm⟩), .val (.int ((p + (j : Int)) % 12)), .val (.int q), .val (dR a.size), .own (((List.range j).map fun (s : Nat) => (p + (s : Int)) % 12).map .int)]) N ⟨0, Nat.zero_le _, rfl, ?_⟩ fun m s ⟨j, hj, hm, hs⟩ => ?_)
    · rw [show (p + ((0 : Nat) : Int)) % 12 = p by omega]
      rfl
    · subst hs
      refine ⟨!decide ((p + (j : Int)) % 12 = q), evt_is (et_test (ev_op (ev_var (d := .int ((p + (j : Int)) % 12)) rfl) (ev_var (d := .int q) rfl) (rv_ne rfl rfl))) (by rw [eqv_int]), fun hb => ?_, fun hb => ?_⟩
      · have hb : ¬ (p + (j : Int)) % 12 = q := by simpa using hb
        refine run_seq (run_app (ev_var (d := .int ((p + (j : Int)) % 12)) rfl) rfl rfl (by rw [List.length_map, List.length_map, List.length_range]; omega) ?_)
        refine run_asg ((ev_op (ev_op (ev_var (d := .int ((p + (j : Int)) % 12)) rfl) ev_int rv_int0) (ev_many (A := A) (ev_var rfl)) (rv_int (by decide))).flat rfl) ?_
        refine ⟨N - (j + 1), by omega, j + 1, by omega, rfl, ?_⟩
        rw [List.range_succ, List.map_append, List.map_append, show ((p + (j : Int)) % 12 + 1) % 12 = (p + ((j + 1 : Nat) : Int)) % 12 by omega]
        rfl
      · have hb : (p + (j : Int)) % 12 = q := by simpa using hb
        have e : j = N := by omega
        subst e
        exact run_retO rfl ⟨by rw [hT], fun _ => rfl⟩
abbrev s__law_loads : Stmt := topS 69
theorem sc__law_loads : FnScope ["_law_ring", "_law_sending", "_law_loads_here", "_law_k", "_law_part", "_law_way", "_law_gone", "_law_tie"] ["_law_ring", "_law_sending"] (defScope s__law_loads) := ⟨rfl, rfl, rfl, by decide +kernel, rfl, by decide +kernel, by decide +kernel⟩
def R__law_loads (ds : List PyData) (d : PyData) : Prop := R_loads_of ds d
abbrev sp__law_loads (K : PySem.W.Frag) : Sp := spD K true R__law_loads
theorem ok__law_loads (T : Txt K mg aN aB) {f : Addr} {fd : FuncData} (F : Df K mg "_law_loads" s__law_loads ["_law_ring", "_law_sending"] f fd) (c__law_ties : Cal P w K mg base 1 "_law_ties" ["_law_ring", "_law_k", "_law_way"] (sp__law_ties K)) (c__law_minus : Cal P w K mg base 2 "_law_minus" ["_law_one", "_law_other"] (sp__law_minus K)) (c__law_plus : Cal P w K mg base 2 "_law_plus" ["_law_one", "_law_other"] (sp__law_plus K)) : Cal P w K mg base 3 "_law_loads" ["_law_ring", "_law_sending"] (sp__law_loads K) := by
  refine F.cal (k := 2) sc__law_loads (fun ds d h => by obtain ⟨A, S, hA, hS, rfl, rfl⟩ := h <;> rfl) (fun cdv A outer s H E hr => ⟨_, (pss_cons (ps_set (i := 2) sc__law_loads.nd rfl (Or.inl rfl) (pe_op op_rep (pe_lst (pa_cons (pe_tup (pa_cons pe_int (pa_cons pe_int pa_nil))) pa_nil)) (pe_callB call_len_seq (by rfl) T.b_len (by decide +kernel) (pa_cons (pe_ix ix_seq (pv 0) pe_int (fun _ _ => rfl)) pa_nil))))
    (pss_cons (ps_for PassesOwn.never rfl (pi_enum (by rfl) T.b_enumerate (pa_cons (pv 1) pa_nil)) (pg_tup rfl (pgs_cons (pg_name (i := 3) sc__law_loads.nd rfl (Or.inl rfl)) (pgs_cons (pg_name (i := 4) sc__law_loads.nd rfl (Or.inl rfl)) pgs_nil))) (pss_one (ps_for PassesOwn.never rfl (pi_list (pe_lst (pa_cons (pe_tup (pa_cons pe_str (pa_cons (pv 4) pa_nil))) (pa_cons (pe_tup (pa_cons pe_str (pa_cons (pe_cal c__law_minus (hr.mono (by decide)) (by rfl) (pa_cons (pe_ix ix_seq (pe_ix ix_seq (pe_ix ix_seq (pv 0) pe_int (fun _ _ => rfl)) (pv 3) (fun _ _ => rfl)) pe_int (fun _ _ => rfl)) (pa_cons (pv 4) pa_nil))) pa_nil))) pa_nil)))) (pg_tup rfl (pgs_cons (pg_name (i := 5) sc__law_loads.nd rfl (Or.inl rfl)) (pgs_cons (pg_name (i := 6) sc__law_loads.nd rfl (Or.inl rfl)) pgs_nil))) (pss_one (ps_for PassesOwn.never rfl (pi_list (pe_cal c__law_ties (hr.mono (by decide)) (by rfl) (pa_cons (pv 0) (pa_cons (pv 3) (pa_cons (pv 5) pa_nil))))) (pg_name (i := 7) sc__law_loads.nd rfl (Or.inl rfl)) (pss_one (ps_asg (pe_cal c__law_plus (hr.mono (by decide)) (by rfl) (pa_cons (pe_ix ix_seq (pv 2) (pv 7) (fun _ _ => rfl)) (pa_cons (pv 6) pa_nil))) (pg_sub (pv 2) (pv 7) set_list))))))))
    (pss_one (ps_ret (pv 2))))), fun ds d h => ?_⟩)
  obtain ⟨A, S, hA, hS, rfl, rfl⟩ := h
  let F : (Nat → Rat) → List PyData := fun f => (List.range 12).map fun t => dR (f t)
  have hF : ∀ f : Nat → Rat, F f = (List.range 12).map fun t => dR (f t) := fun f => rfl
  refine run_seq (run_asgN (ds := F fun t => loadTo A S t 0) (evn_is (evn_rep (evn_lst (ea_cons (ev_tup (ds := [.int 0, .int 1]) (ea_cons ev_int (ea_cons ev_int ea_nil))) ea_nil)) (ev_many (A := A) (ev_var rfl)) (by decide) (Nat.le_of_ble_eq_true rfl) (by decide)) rfl) (lfA_map (fun _ => rfl) _) ?_)
  refine run_seq (run_for (src_enum (evg_var (d := .list (S.map dR)) rfl)) (fun m s => ∃ x3 x4 x5 x6 x7, s = [.val (dG A), .val (dS S), .own (F fun t => loadTo A S t m), x3, x4, x5, x6, x7]) ⟨_, _, _, _, _, rfl⟩ (fun m d s' hd hI => ?_) fun s' hI => ?_)
  · obtain ⟨x3, x4, x5, x6, x7, rfl⟩ := hI
    obtain ⟨x, hx, rfl⟩ := enu_get hd
    have hm : m < A.length := by rw [← hS.len]; exact (List.getElem?_eq_some_iff.mp hx).1
    have ex : x = partAt S m := by
      have := partAt_get (S := S) (k := m) (by rw [hS.len]; exact hm)
      rw [hx] at this
      exact Option.some.inj this
    subst ex
    have ha := hA.at hm
    have l1 := ha.fn
    have l2 := hS.fn m hm
    have l3 := fin_sub l1 l2
    let v : Nat → Bool := fun i => i == 0
    let gr : Nat → Rat := fun i => if i = 0 then partAt S m else (askAt A m).size - partAt S m
    have hgr : ∀ i, lo (gr i) := fun i => by
      show lo (if i = 0 then _ else _)
      split
      · exact fin_lo l2
      · exact fin_lo l3
    let f : Nat → Nat → Rat := fun i => match i with
      | 0 => fun t => loadTo A S t m
      | 1 => addW (askAt A m) true (partAt S m) fun t => loadTo A S t m
      | _ => fun t => loadTo A S t (m + 1)
    have hlo0 : ∀ t, lo (loadTo A S t m) := fun t => loadTo_lo hA hS t m (by omega)
    have hstep : ∀ i, i < 2 → ∀ t, f (i + 1) t = addW (askAt A m) (v i) (gr i) (f i) t := fun i hi t => by
      have : i = 0 ∨ i = 1 := by omega
      rcases this with rfl | rfl
      · rfl
      · exact add_both.symm
    have hflo : ∀ i, i < 2 → ∀ t, lo (f i t) := fun i hi t => by
      have : i = 0 ∨ i = 1 := by omega
      rcases this with rfl | rfl
      · exact hlo0 t
      · show lo (addW _ _ _ _ t)
        unfold addW
        split
        · exact lo_add (hlo0 t) (fin_lo l2)
        · exact hlo0 t
    refine ⟨_, _, tg_tup (is := [3, 4]) rfl rfl, ?_⟩
    refine run_for (ds := [.tuple [dW true, dR (partAt S m)], .tuple [dW false, dR ((askAt A m).size - partAt S m)]]) (src_list ((evn_lst (ea_cons (ev_tup (ea_cons (ev_str (i := "on")) (ea_cons (ev_var rfl) ea_nil))) (ea_cons (ev_tup (ea_cons (ev_str (i := "back")) (ea_cons (ev_call (ea_cons (ev_size (ev_var rfl) (ev_var rfl) hm) (ea_cons (ev_var rfl) ea_nil)) ⟨_, _, lo_sm (fin_lo l1), lo_sm (fin_lo l2), rfl, rfl⟩) ea_nil))) ea_nil))).st rfl))
      (fun i s => ∃ x5 x6 x7, s = [.val (dG A), .val (dS S), .own (F (f i)), .val (dN m), .val (dR (partAt S m)), x5, x6, x7]) ⟨_, _, _, rfl⟩ (fun i d s' hd hI => ?_) fun s' hI => ?_
    · obtain ⟨x5, x6, x7, rfl⟩ := hI
      have hi : i < 2 := (List.getElem?_eq_some_iff.mp hd).1
      have ed : d = .tuple [dW (v i), dR (gr i)] := by
        have : i = 0 ∨ i = 1 := by omega
        rcases this with rfl | rfl
        · cases hd; rfl
        · cases hd; rfl
      subst ed
      have hst := hstep i hi
      have hlo := hflo i hi
      have hg := hgr i
      generalize v i = o at hst ⊢
      generalize gr i = g at hst hg ⊢
      generalize f (i + 1) = f' at hst ⊢
      generalize f i = f0 at hst hlo ⊢
      refine ⟨_, _, tg_tup (is := [5, 6]) rfl rfl, ?_⟩
      let h : Nat → Nat → Rat := fun j t => if (t : Int) ∈ (lawTies (askAt A m) o).take j then f0 t + g else f0 t
      refine run_for (src_list (ds := (lawTies (askAt A m) o).map .int) ((evf_call (ea_cons (ev_var rfl) (ea_cons (ev_var rfl) (ea_cons (ev_var rfl) ea_nil))) ⟨A, m, o, hA, hm, rfl, rfl⟩).st (lfA_int _))) (fun j s => ∃ x7, s = [.val (dG A), .val (dS S), .own (F (h j)), .val (dN m), .val (dR (partAt S m)), .val (dW o), .val (dR g), x7]) ⟨x7, ?_⟩ (fun j d s' hd hI => ?_) fun s' hI => ?_
      · have e : h 0 = f0 := funext fun t => by
          show (if (t : Int) ∈ (lawTies (askAt A m) o).take 0 then _ else _) = _
          rw [List.take_zero, if_neg (by simp)]
        rw [e]
        rfl
      · obtain ⟨x7, rfl⟩ := hI
        obtain ⟨t, ht, rfl⟩ := map_get hd
        obtain ⟨t0, t1, t2⟩ := (lawTies_mem ha o t).mp (List.mem_of_getElem? ht)
        obtain ⟨t, rfl⟩ := Int.eq_ofNat_of_zero_le t0
        have ht12 : t < 12 := by omega
        have hno : (t : Int) ∉ (lawTies (askAt A m) o).take j := fun z => by
          obtain ⟨i', hi', e'⟩ := List.mem_iff_getElem?.mp z |>.imp fun i h => And.intro h h
          rw [List.getElem?_take] at hi'
          split at hi'
          · rename_i hij
            have hlt := (List.getElem?_eq_some_iff.mp hi').1
            have := (List.getElem?_inj hlt (lawTies_nodup (askAt A m) o)).mp (hi'.trans ht.symm)
            omega
          · cases hi'
        have hjt : h j t = f0 t := if_neg hno
        have hjs : h (j + 1) t = f0 t + g := by
          show (if (t : Int) ∈ (lawTies (askAt A m) o).take (j + 1) then _ else _) = _
          rw [List.take_add_one, ht, if_pos (by simp)]
        have hjo : ∀ u, u ≠ t → h (j + 1) u = h j u := fun u hu => by
          show (if (u : Int) ∈ (lawTies (askAt A m) o).take (j + 1) then _ else _) = (if (u : Int) ∈ (lawTies (askAt A m) o).take j then _ else _)
          rw [List.take_add_one, ht]
          have : (u : Int) ≠ (t : Int) := by omega
          simp [this]
        have g1 : ixD (.list (F (h j))) (.int (t : Int)) = some (dR (f0 t)) := ixD_nat (by rw [hF, List.getElem?_map, List.getElem?_range ht12, ← hjt]; rfl)
        refine ⟨_, _, tg_name, run_setL (ds := F (h j)) (d := dR (f0 t + g)) (k := (t : Int)) (ev_call (ea_cons (ev_ix (ev_var (d := .list (F (h j))) rfl) (ev_var (d := .int t) rfl) g1) (ea_cons (ev_var rfl) ea_nil)) ⟨_, _, lo_sm (hlo t), lo_sm hg, rfl, rfl⟩) rfl rfl (ev_var rfl) (by omega) (by rw [Int.toNat_natCast, hF, List.length_map, List.length_range]; exact ht12) ?_⟩
        refine ⟨.val (.int t), ?_⟩
        rw [Int.toNat_natCast, hF, set_map (h := fun t => dR (h (j + 1) t)) ht12 (by rw [hjs]) (fun u hu => by rw [hjo u hu])]
        rfl
      · obtain ⟨x7, rfl⟩ := hI
        have e : F (h ((lawTies (askAt A m) o).map PyData.int).length) = F f' := by
          rw [hF, hF]
          refine List.map_congr_left fun t ht => ?_
          have := List.mem_range.mp ht
          rw [hst t, List.length_map]
          show dR (if (t : Int) ∈ (lawTies (askAt A m) o).take _ then _ else _) = dR (if isOver (askAt A m) o t then _ else _)
          rw [List.take_length]
          have hiff := lawTies_mem ha o (t : Int)
          by_cases z : isOver (askAt A m) o (t : Int) = true
          · rw [if_pos z, if_pos (hiff.mpr ⟨by omega, by omega, z⟩)]
          · rw [if_neg z, if_neg (fun y => z (hiff.mp y).2.2)]
        rw [e]
        exact ⟨_, _, _, rfl⟩
    · obtain ⟨x5, x6, x7, rfl⟩ := hI
      exact ⟨_, _, _, _, _, rfl⟩
  · obtain ⟨x3, x4, x5, x6, x7, rfl⟩ := hI
    refine run_retO rfl ⟨?_, fun _ => rfl⟩
    rw [enu_len, List.length_map, hS.len]
    rfl
abbrev s__law_greatest : Stmt := topS 70
theorem sc__law_greatest : FnScope ["_law_ring", "_law_some", "_law_found", "_law_k"] ["_law_ring", "_law_some"] (defScope s__law_greatest) := ⟨rfl, rfl, rfl, by decide +kernel, rfl, by decide +kernel, by decide +kernel⟩
def R__law_greatest (ds : List PyData) (d : PyData) : Prop := ∃ (A : List Ask) (l : List Nat), Rok A ∧ (∀ k ∈ l, k < A.length) ∧ ds = [dG A, dNs l] ∧ d = dR (greatest A l)
abbrev sp__law_greatest (K : PySem.W.Frag) : Sp := spD K false R__law_greatest
theorem ok__law_greatest (T : Txt K mg aN aB) {f : Addr} {fd : FuncData} (F : Df K mg "_law_greatest" s__law_greatest ["_law_ring", "_law_some"] f fd) (c__law_under : Cal P w K mg base 1 "_law_under" ["_law_one", "_law_other"] (sp__law_under K)) : Cal P w K mg base 2 "_law_greatest" ["_law_ring", "_law_some"] (sp__law_greatest K) := by
  refine F.cal (k := 1) sc__law_greatest (fun ds d h => by obtain ⟨A, l, hA, hl, rfl, rfl⟩ := h <;> rfl) (fun cdv A outer s H E hr => ⟨_, (pss_cons (ps_set (i := 2) sc__law_greatest.nd rfl (Or.inl rfl) (pe_tup (pa_cons pe_int (pa_cons pe_int pa_nil))))
    (pss_cons (ps_for PassesOwn.never rfl (pi_list (pv 1)) (pg_name (i := 3) sc__law_greatest.nd rfl (Or.inl rfl)) (pss_one (ps_if (pt_val (pe_cal c__law_under (hr.mono (by decide)) (by rfl) (pa_cons (pv 2) (pa_cons (pe_ix ix_seq (pe_ix ix_seq (pe_ix ix_seq (pv 0) pe_int (fun _ _ => rfl)) (pv 3) (fun _ _ => rfl)) pe_int (fun _ _ => rfl)) pa_nil)))) (pss_one (ps_set (i := 2) sc__law_greatest.nd rfl (Or.inl rfl) (pe_ix ix_seq (pe_ix ix_seq (pe_ix ix_seq (pv 0) pe_int (fun _ _ => rfl)) (pv 3) (fun _ _ => rfl)) pe_int (fun _ _ => rfl)))) pss_nil)))
    (pss_one (ps_ret (pv 2))))), fun ds d h => ?_⟩)
  obtain ⟨A, l, hA, hl, rfl, rfl⟩ := h
  refine run_seq (run_asg (d := dR 0) ((ev_tup (ds := [.int 0, .int 1]) (ea_cons ev_int (ea_cons ev_int ea_nil))).flat rfl) ?_)
  refine run_seq (run_for (src_list (evg_var (d := .list (l.map dN)) rfl)) (fun i s => ∃ x, s = [.val (dG A), .val (dNs l), .val (dR (greatest A (l.take i))), x]) ⟨_, rfl⟩ (fun i d s' hd hI => ?_) fun s' hI => ?_)
  · obtain ⟨x, rfl⟩ := hI
    obtain ⟨k, hk, rfl⟩ := map_get hd
    have hkA := hl k (List.mem_of_getElem? hk)
    have hg : fin (greatest A (l.take i)) := greatest_fin hA _ 0 fin_zero fun j hj => hl j (List.mem_of_mem_take hj)
    have e : greatest A (l.take (i + 1)) = if greatest A (l.take i) < (askAt A k).size then (askAt A k).size else greatest A (l.take i) := by
      unfold greatest
      rw [List.take_add_one, hk, List.foldl_append]
      rfl
    refine ⟨_, _, tg_name, run_if (et_B (ev_call (ea_cons (ev_var rfl) (ea_cons (ev_size (ev_var rfl) (ev_var rfl) hkA) ea_nil)) ⟨_, _, lo_sm (fin_lo hg), lo_sm (fin_lo (hA.at hkA).fn), rfl, rfl⟩)) (fun h => ?_) fun h => run_next ?_⟩
    · refine run_asg ((ev_size (ev_var rfl) (ev_var rfl) hkA).flat rfl) ?_
      rw [e, if_pos (of_decide_eq_true h)]
      exact ⟨_, rfl⟩
    · rw [e, if_neg (of_decide_eq_false h)]
      exact ⟨_, rfl⟩
  · obtain ⟨x, rfl⟩ := hI
    rw [List.length_map, List.take_length]
    exact run_ret (ev_var rfl) ⟨rfl, fun z => nomatch z⟩
abbrev s__law_all_cross : Stmt := topS 72
theorem sc__law_all_cross : FnScope ["_law_ring", "_law_some", "_law_k", "_law_l"] ["_law_ring", "_law_some"] (defScope s__law_all_cross) := ⟨rfl, rfl, rfl, by decide +kernel, rfl, by decide +kernel, by decide +kernel⟩
def R__law_all_cross (ds : List PyData) (d : PyData) : Prop := R_all_cross ds d
abbrev sp__law_all_cross (K : PySem.W.Frag) : Sp := spD K false R__law_all_cross
theorem ok__law_all_cross (T : Txt K mg aN aB) {f : Addr} {fd : FuncData} (F : Df K mg "_law_all_cross" s__law_all_cross ["_law_ring", "_law_some"] f fd) (c_do_cross : Cal P w K mg base 1 "do_cross" ["ring", "k", "l"] (sp_do_cross K)) : Cal P w K mg base 2 "_law_all_cross" ["_law_ring", "_law_some"] (sp__law_all_cross K) := by
  refine F.cal (k := 1) sc__law_all_cross (fun ds d h => by obtain ⟨A, l, hl, rfl, rfl⟩ := h <;> rfl) (fun cdv A outer s H E hr => ⟨_, (pss_cons (ps_for PassesOwn.never rfl (pi_list (pv 1)) (pg_name (i := 2) sc__law_all_cross.nd rfl (Or.inl rfl)) (pss_one (ps_for PassesOwn.never rfl (pi_list (pv 1)) (pg_name (i := 3) sc__law_all_cross.nd rfl (Or.inl rfl)) (pss_one (ps_if (PW.pt (pw_and (pt_cmpR op_lt (pv 2) (pv 3) (nomark _)) (pw_and1 (pt_not (pt_val (pe_cal c_do_cross (hr.mono (by decide)) (by rfl) (pa_cons (pv 0) (pa_cons (pv 2) (pa_cons (pv 3) pa_nil))))))))) (pss_one (ps_ret pe_bl)) pss_nil)))))
    (pss_one (ps_ret pe_bl))), fun ds d h => ?_⟩)
  obtain ⟨A, l, hl, rfl, rfl⟩ := h
  let q : Nat → Nat → Bool := fun k m => !(decide (k < m) && !crossB (askAt A k) (askAt A m))
  have hq : allCross A l = l.all fun k => l.all (q k) := rfl
  refine run_seq (run_for (src_list (evg_var (d := .list (l.map dN)) rfl)) (fun i s => (∃ x y, s = [.val (dG A), .val (dNs l), x, y]) ∧ (l.take i).all (fun k => l.all (q k)) = true) ⟨⟨_, _, rfl⟩, by simp⟩ (fun i d s' hd hI => ?_) fun s' hI => ?_)
  · obtain ⟨⟨x, y, rfl⟩, h1⟩ := hI
    obtain ⟨k, hk, rfl⟩ := map_get hd
    refine ⟨_, _, tg_name, run_for (src_list (evg_var (d := .list (l.map dN)) rfl)) (fun j s => (∃ y, s = [.val (dG A), .val (dNs l), .val (dN k), y]) ∧ (l.take j).all (q k) = true) ⟨⟨_, rfl⟩, by simp⟩ (fun j d s' hd hI => ?_) fun s' hI => ?_⟩
    · obtain ⟨⟨y, rfl⟩, h2⟩ := hI
      obtain ⟨m, hm, rfl⟩ := map_get hd
      refine ⟨_, _, tg_name, run_if (b := decide ((k : Int) < (m : Int)) && !crossB (askAt A k) (askAt A m)) (et_and (et_test (ev_op (ev_var (d := .int k) rfl) (ev_var (d := .int m) rfl) rv_bool0)) fun _ => et_not (et_B (ev_call (ea_cons (ev_var rfl) (ea_cons (ev_var rfl) (ea_cons (ev_var rfl) ea_nil))) ⟨A, k, m, hl k (List.mem_of_getElem? hk), hl m (List.mem_of_getElem? hm), rfl, rfl⟩))) (fun h => ?_) fun h => run_next ?_⟩
      · refine run_ret ev_bl ⟨?_, fun z => nomatch z⟩
        congr 1
        rw [hq]
        refine (all_no hk (all_no hm ?_)).symm
        show (!(decide (k < m) && !crossB (askAt A k) (askAt A m))) = false
        rw [dec_lt] at h
        rw [h]
        rfl
      · refine ⟨⟨_, rfl⟩, ?_⟩
        rw [all_more hm, h2]
        show (true && !(decide (k < m) && !crossB (askAt A k) (askAt A m))) = true
        rw [dec_lt] at h
        rw [h]
        rfl
    · obtain ⟨⟨y, rfl⟩, h2⟩ := hI
      refine ⟨⟨_, _, rfl⟩, ?_⟩
      rw [all_more hk, h1]
      rw [List.length_map, List.take_length] at h2
      exact h2
  · obtain ⟨⟨x, y, rfl⟩, h1⟩ := hI
    refine run_ret ev_bl ⟨?_, fun z => nomatch z⟩
    rw [List.length_map, List.take_length] at h1
    rw [hq, h1]
end
end Rg

set_option Elab.async false
set_option linter.all false
set_option maxRecDepth 100000
set_option maxHeartbeats 4000000
/-! A bent rounding falls; a sending is rounded right. -/
namespace Rg
open PySem PySem.Spec PyProof.Rows L2
def cutL {α : Type} (l : List α) (lo hi : Option Int) : List α := (l.drop (HT.sIx l.length 0 lo)).take (HT.sIx l.length l.length hi - HT.sIx l.length 0 lo)
theorem cutD_map {α : Type} (f : α → PyData) (l : List α) (lo hi : Option Int) : cutD (l.map f) lo hi = (cutL l lo hi).map f := by
  unfold cutD cutL
  rw [List.length_map, List.map_take, List.map_drop]
theorem cutL_mem {α : Type} {l : List α} {lo hi : Option Int} {x : α} (h : x ∈ cutL l lo hi) : x ∈ l := List.mem_of_mem_drop (List.mem_of_mem_take h)
theorem cutL_len {α : Type} (l : List α) (lo hi : Option Int) : (cutL l lo hi).length ≤ l.length := by
  unfold cutL
  rw [List.length_take, List.length_drop]
  omega
theorem cutL_to {α : Type} {l : List α} {k : Nat} (h : k ≤ l.length) : cutL l none (some (k : Int)) = l.take k := by
  unfold cutL
  rw [HT.sIx_none, HT.sIx_nat, Nat.min_eq_left h, List.drop_zero, Nat.sub_zero]
theorem cutL_from {α : Type} {l : List α} {k : Nat} (h : k ≤ l.length) : cutL l (some (k : Int)) none = l.drop k := by
  unfold cutL
  rw [HT.sIx_none, HT.sIx_nat, Nat.min_eq_left h, List.take_of_length_le (by rw [List.length_drop]; exact Nat.le_refl _)]
theorem cut_set {W : List Bool} {k : Nat} {v : Bool} (h : k < W.length) : cutD (W.map dW) none (some (k : Int)) ++ [dW v] ++ cutD (W.map dW) (some ((k : Int) + 1)) none = (W.set k v).map dW := by
  rw [cutD_map, cutD_map, cutL_to (by omega), show (k : Int) + 1 = ((k + 1 : Nat) : Int) by omega, cutL_from (by omega), List.set_eq_take_append_cons_drop, if_pos h, List.map_append, List.append_assoc]
  rfl
theorem ev_neg {K : PySem.W.Frag} {te : TE} {g : List Sl} {i : Int} (h : Ev K te g (.int i)) : Ev K (tUn (rU fun i => .int (-i)) te) g (.int (-i)) := fun H0 H σ ok Q q => h H0 H σ ok _ fun v H2 e hd => by
  cases hd
  exact ⟨i, rfl, q _ H2 e (.int _)⟩
theorem dR_zero : dR 0 = .tuple [.int 0, .int 1] := rfl
theorem ev_zero {K : PySem.W.Frag} {g : List Sl} : Ev K (tTup (tCons (tC (.int 0)) (tCons (tC (.int 1)) tNil))) g (dR 0) := ev_tup (ds := [.int 0, .int 1]) (ea_cons ev_int (ea_cons ev_int ea_nil))
section
variable {P : Program} {w : World} {K : PySem.W.Frag} {mg : Str → Option Value} {base : Heap} {aN aB : Addr}
abbrev s__law_bent_fall : Stmt := topS 73
theorem sc__law_bent_fall : FnScope ["_law_ring", "_law_sending", "_law_rounding", "_law_slides", "_law_ways", "_law_parted", "_law_whole", "_law_k", "_law_turned"] ["_law_ring", "_law_sending", "_law_rounding"] (defScope s__law_bent_fall) := ⟨rfl, rfl, rfl, by decide +kernel, rfl, by decide +kernel, by decide +kernel⟩
def R__law_bent_fall (ds : List PyData) (d : PyData) : Prop := ∃ (A : List Ask) (S : List Rat), Rok A ∧ Sv A S ∧ ds = [dG A, dS S, .tuple [dLs (slidesOf A S), dWs (wholeWays A (behind A S))]] ∧ d = .bool true
abbrev sp__law_bent_fall (K : PySem.W.Frag) : Sp := spD K false R__law_bent_fall
theorem ok__law_bent_fall (T : Txt K mg aN aB) {f : Addr} {fd : FuncData} (F : Df K mg "_law_bent_fall" s__law_bent_fall ["_law_ring", "_law_sending", "_law_rounding"] f fd) (c_lets_rounding : Cal P w K mg base 8 "lets_rounding" ["ring", "sending", "thing"] (sp_lets_rounding K)) (c_parted_in : Cal P w K mg base 3 "parted_in" ["ring", "sending"] (sp_parted_in K)) (c_slid_by : Cal P w K mg base 6 "slid_by" ["ring", "sending", "thing"] (sp_slid_by K)) : Cal P w K mg base 9 "_law_bent_fall" ["_law_ring", "_law_sending", "_law_rounding"] (sp__law_bent_fall K) := by
  refine F.cal (k := 8) sc__law_bent_fall (fun ds d h => by obtain ⟨A, S, hA, hS, rfl, rfl⟩ := h <;> rfl) (fun cdv A outer s H E hr => ⟨_, (pss_cons (ps_asg (pv 2) (pg_tup rfl (pgs_cons (pg_name (i := 3) sc__law_bent_fall.nd rfl (Or.inl rfl)) (pgs_cons (pg_name (i := 4) sc__law_bent_fall.nd rfl (Or.inl rfl)) pgs_nil))))
    (pss_cons (ps_if (pt_val (pe_cal c_lets_rounding (hr.mono (by decide)) (by rfl) (pa_cons (pv 0) (pa_cons (pv 1) (pa_cons (pe_tup (pa_cons (pv 3) (pa_cons (pe_callTy call_tuple_of (by rfl) T.b_tuple (by decide +kernel) (pa_cons (pv 4) pa_nil)) pa_nil))) pa_nil))))) (pss_one (ps_ret pe_bl)) pss_nil)
    (pss_cons (ps_set (i := 5) sc__law_bent_fall.nd rfl (Or.inr rfl) (pe_cal c_parted_in (hr.mono (by decide)) (by rfl) (pa_cons (pv 0) (pa_cons (pe_cal c_slid_by (hr.mono (by decide)) (by rfl) (pa_cons (pv 0) (pa_cons (pv 1) (pa_cons (pv 3) pa_nil)))) pa_nil))))
    (pss_cons (ps_setLc (i := 6) (own := [("_law_k", 7)]) (by rfl) sc__law_bent_fall.nd rfl rfl (sw_true rfl rfl rfl (by decide +kernel)) (pi_range1 (by rfl) T.b_range (pa_cons (pe_callB call_len_seq (by rfl) T.b_len (by decide +kernel) (pa_cons (pv 4) pa_nil)) pa_nil)) (blkOk_by (own := [("_law_k", 7)]) (N := ["_law_ring", "_law_sending", "_law_rounding", "_law_slides", "_law_ways", "_law_parted", "_law_whole", "_law_k", "_law_turned"]) (sc := defScope s__law_bent_fall) (by decide +kernel)) (fun _ _ _ _ _ => (pg_name (i := 7) sc__law_bent_fall.nd rfl (Or.inl rfl))) (fun _ _ _ _ _ => (pts_one (PW.pt (pw_and (pt_cmpR (show OpR _ (compareOp .NotIn) (rIn K true) from op_notIn_seq) (pv 7) (pv 5) (by rfl)) (pw_and1 (pt_cmpR (show OpR _ (compareOp .NotEq) (rNeD K) from op_neD hr.units) (pe_ix (show IxR _ (rIx K) from ix_seq) (pe_ix (show IxR _ (rIx K) from ix_seq) (pe_ix (show IxR _ (rIx K) from ix_seq) (pv 0) pe_int (fun _ _ => rfl)) (pv 7) (fun _ _ => rfl)) pe_int (fun _ _ => rfl)) (pe_tup (pa_cons pe_int (pa_cons pe_int pa_nil))) (nomark _))))))) (fun _ _ _ _ _ => (pv 7)))
    (pss_cons (ps_for PassesOwn.never rfl (pi_list (pe_op op_cat (pe_slice sl_list (pv 6) po_none (po_some pe_int)) (pe_slice sl_list (pv 6) (po_some (pe_un un_neg pe_int)) po_none))) (pg_name (i := 7) sc__law_bent_fall.nd rfl (Or.inl rfl)) (pss_cons (ps_set (i := 8) sc__law_bent_fall.nd rfl (Or.inl rfl) (pe_ix ix_seq (pe_lst (pa_cons pe_str (pa_cons pe_str pa_nil))) (pe_callTy call_int1 (by rfl) T.b_int (by decide +kernel) (pa_cons (pe_cmpR (op_eqD hr.units) (pe_ix ix_seq (pv 4) (pv 7) (fun _ _ => rfl)) pe_str (nomark _)) pa_nil)) (fun _ _ => rfl)))
    (pss_one (ps_if (pt_val (pe_cal c_lets_rounding (hr.mono (by decide)) (by rfl) (pa_cons (pv 0) (pa_cons (pv 1) (pa_cons (pe_tup (pa_cons (pv 3) (pa_cons (pe_op op_cat (pe_op op_cat (pe_slice sl_list (pv 4) po_none (po_some (pv 7))) (pe_lst (pa_cons (pv 8) pa_nil))) (pe_slice sl_list (pv 4) (po_some (pe_op op_add (pv 7) pe_int)) po_none)) pa_nil))) pa_nil))))) (pss_one (ps_ret pe_bl)) pss_nil))))
    (pss_one (ps_ret pe_bl))))))), fun ds d h => ?_⟩)
  obtain ⟨A, S, hA, hS, rfl, rfl⟩ := h
  have hc := (slidesOf_ok hA _ hS (Nat.le_refl _)).1
  have hB := behind_sv hA hS
  have hz := hA.len
  have hl : slidAll S (slidesOf A S) = behind A S := rfl
  have hW : (wholeWays A (behind A S)).length = A.length := wholeWays_len
  have ht := fun k => turned_no (k := k) hB
  generalize wholeWays A (behind A S) = W at hW ht ⊢
  generalize behind A S = B at hB hl ht
  generalize slidesOf A S = l at hc hl ⊢
  refine run_seq (run_unpack (evg_var (d := .tuple [dLs l, dWs W]) rfl) (tg_tup (is := [3, 4]) rfl rfl) ?_)
  refine run_seq (run_if (b := false) (et_B (ev_call (ea_cons (ev_var rfl) (ea_cons (ev_var rfl) (ea_cons (ev_tup (ea_cons (ev_var rfl) (ea_cons (ev_cb (ea_cons (ev_var (d := dWs W) rfl) ea_nil) rc_tuple) ea_nil))) ea_nil))) (.inr ⟨A, S, dLs l, W.map dW, rfl, rfl⟩))) (fun z => nomatch z) fun _ => run_next ?_)
  refine run_seq (run_asg ((evf_call (ea_cons (ev_var rfl) (ea_cons (ev_call (ea_cons (ev_var rfl) (ea_cons (ev_var rfl) (ea_cons (ev_var rfl) ea_nil))) ⟨A, S, l, hA, hS.toSok, hc, rfl, rfl⟩) ea_nil)) ⟨A, B, hA, hB.toSok, by rw [← hl], rfl⟩).st (lfA_dN _)) ?_)
  generalize hP : partedL A B = Ps
  let p : Nat → Bool := fun k => !decide (k ∈ Ps) && !decide ((askAt A k).size = 0)
  refine run_seq (run_asg ((evn_lc (K := K) (List.range A.length) dN p dN (src_rng1 (n := A.length) (ea_cons (ev_is (ev_cb (ea_cons (ev_var (d := dWs W) rfl) ea_nil) rc_len) (by rw [List.length_map, hW])) ea_nil) (by omega) (by omega)) (by rw [Int.toNat_natCast]; exact rngD0 _) (by rw [List.length_range]; omega) (fun k hk => ?_)).st (lfA_dN _)) ?_)
  · have hk := List.mem_range.mp hk
    refine ⟨_, _, tg_name, by decide, evt_is (et_and (et_test (ev_op (ev_var (d := dN k) rfl) (ev_var (d := dNs Ps) rfl) rv_inN)) fun _ => et_test (ev_op (ev_size (ev_var rfl) (ev_var rfl) hk) ev_zero (rv_ne (sh_dR _) (sh_dR 0)))) ?_, fun _ => ⟨ev_var rfl, rfl⟩⟩
    rw [eqv_dR]
    rfl
  · have hw : ∀ k ∈ (List.range A.length).filter p, k < A.length ∧ k ∉ Ps ∧ (askAt A k).size ≠ 0 := fun k hk => by
      obtain ⟨a, b⟩ := List.mem_filter.mp hk
      have b : (!decide (k ∈ Ps) && !decide ((askAt A k).size = 0)) = true := b
      simp at b
      exact ⟨List.mem_range.mp a, b.1, b.2⟩
    have hwl : ((List.range A.length).filter p).length ≤ A.length := by
      have := List.length_filter_le p (List.range A.length)
      rw [List.length_range] at this
      exact this
    generalize (List.range A.length).filter p = wl at hw hwl ⊢
    have c1 := cutL_len wl none (some 1)
    have c2 := cutL_len wl (some (-1)) none
    refine run_seq (run_for (ds := (cutL wl none (some 1) ++ cutL wl (some (-1)) none).map dN) (src_list ((evn_is (evn_cat (evn_sl (ev_var (d := dNs wl) rfl) eo_none (eo_some ev_int)) (evn_sl (ev_var (d := dNs wl) rfl) (eo_some (ev_neg ev_int)) eo_none) (by rw [cutD_map, cutD_map, List.length_map, List.length_map]; omega)) (by rw [cutD_map, cutD_map, List.map_append])).st (lfA_dN _)))
      (fun i s => ∃ x7 x8, s = [.val (dG A), .val (dS S), .val (.tuple [dLs l, dWs W]), .val (dLs l), .val (dWs W), .val (dNs Ps), .val (dNs wl), x7, x8]) ⟨_, _, rfl⟩ (fun i d s' hd hI => ?_) fun s' hI => ?_)
    · obtain ⟨x7, x8, rfl⟩ := hI
      obtain ⟨k, hk, rfl⟩ := map_get hd
      have hkw : k ∈ wl := by
        rcases List.mem_append.mp (List.mem_of_getElem? hk) with z | z
        · exact cutL_mem z
        · exact cutL_mem z
      obtain ⟨k1, k2, k3⟩ := hw k hkw
      have kW : k < W.length := by rw [hW]; exact k1
      refine ⟨_, _, tg_name, ?_⟩
      refine run_seq (run_asg (d := dW (!wayAt W k)) ((ev_ix (d1 := .list [dW true, dW false]) (d2 := .int (if wayAt W k then 1 else 0)) (evn_lst (ea_cons (ev_str (i := "on")) (ea_cons (ev_str (i := "back")) ea_nil))).ev (ev_cb (ea_cons (ev_is (ev_op (ev_ix (ev_var (d := dWs W) rfl) (ev_var (d := dN k) rfl) (way_ix kW)) (ev_str (i := "on")) (rv_eq (sh_dW _) (sh_dW true))) (congrArg PyData.bool ((eqv_way (wayAt W k) true).trans (by cases wayAt W k <;> rfl)))) ea_nil) rc_intB) (by cases wayAt W k <;> rfl)).flat rfl) ?_)
      refine run_if (b := false) (evt_is (et_B (ev_call (ea_cons (ev_var rfl) (ea_cons (ev_var rfl) (ea_cons (ev_tup (ea_cons (ev_var rfl) (ea_cons (evn_is (evn_cat (evn_cat (evn_sl (ev_var (d := dWs W) rfl) eo_none (eo_some (ev_var (d := .int k) rfl))) (evn_lst (ea_cons (ev_var (d := dW (!wayAt W k)) rfl) ea_nil)) ?_) (evn_sl (ev_var (d := dWs W) rfl) (eo_some (ev_op (ev_var (d := .int k) rfl) ev_int rv_int0)) eo_none) ?_) (cut_set kW)).ev ea_nil))) ea_nil))) (.inl ⟨A, S, l, W.set k (!wayAt W k), hA, hS, hc, by rw [List.length_set]; exact hW, rfl, rfl⟩))) ?_) (fun z => nomatch z) fun _ => run_next ⟨_, _, rfl⟩
      · have := cutL_len W none (some (k : Int))
        rw [cutD_map, List.length_map]
        show _ + 1 ≤ _
        omega
      · have := cutL_len W none (some (k : Int))
        have := cutL_len W (some ((k : Int) + 1)) none
        rw [List.length_append, cutD_map, cutD_map, List.length_map, List.length_map]
        show _ + 1 + _ ≤ _
        omega
      · rw [hl, ht k k1 (by rw [hP]; exact k2) k3, Bool.and_false]
    · obtain ⟨x7, x8, rfl⟩ := hI
      exact run_ret ev_bl ⟨rfl, fun z => nomatch z⟩
abbrev s__law_right : Stmt := topS 74
theorem sc__law_right : FnScope ["_law_ring", "_law_sending", "_law_loads_here", "_law_behind", "_law_tie", "_law_load", "_law_rounding", "_law_whole", "_law_most", "_law_gains", "_law_gain"] ["_law_ring", "_law_sending"] (defScope s__law_right) := ⟨rfl, rfl, rfl, by decide +kernel, rfl, by decide +kernel, by decide +kernel⟩
def R__law_right (ds : List PyData) (d : PyData) : Prop := ∃ (A : List Ask) (S : List Rat), Rok A ∧ Sv A S ∧ ds = [dG A, dS S] ∧ d = dWs (wholeWays A (behind A S))
abbrev sp__law_right (K : PySem.W.Frag) : Sp := spD K false R__law_right
theorem load_ix {A : List Ask} {S : List Rat} {t : Nat} (ht : t < 12) : ixD (.list ((List.range 12).map fun t => dR (load A S t))) (dN t) = some (dR (load A S t)) := ixD_nat (by rw [List.getElem?_map, List.getElem?_range ht]; rfl)
theorem enu_loads {f : Nat → PyData} {i : Nat} {d : PyData} (h : (enuD ((List.range 12).map f))[i]? = some d) : i < 12 ∧ d = .tuple [dN i, f i] := by
  obtain ⟨x, hx, rfl⟩ := enu_get h
  have hi : i < 12 := by simpa using (List.getElem?_eq_some_iff.mp hx).1
  rw [List.getElem?_range hi] at hx
  cases hx
  exact ⟨hi, rfl⟩
theorem ok__law_right (T : Txt K mg aN aB) {f : Addr} {fd : FuncData} (F : Df K mg "_law_right" s__law_right ["_law_ring", "_law_sending"] f fd) (c__law_loads : Cal P w K mg base 3 "_law_loads" ["_law_ring", "_law_sending"] (sp__law_loads K)) (c_slid_by : Cal P w K mg base 6 "slid_by" ["ring", "sending", "thing"] (sp_slid_by K)) (c_rounding_of : Cal P w K mg base 7 "rounding_of" ["ring", "sending"] (sp_rounding_of K)) (c_sent_by : Cal P w K mg base 1 "sent_by" ["ring", "ways"] (sp_sent_by K)) (c__law_greatest : Cal P w K mg base 2 "_law_greatest" ["_law_ring", "_law_some"] (sp__law_greatest K)) (c_gains_of : Cal P w K mg base 5 "gains_of" ["ring", "sending", "ways"] (sp_gains_of K)) (c_slides_for : Cal P w K mg base 6 "slides_for" ["ring", "sending"] (sp_slides_for K)) (c__law_under : Cal P w K mg base 1 "_law_under" ["_law_one", "_law_other"] (sp__law_under K)) (c__law_bent_fall : Cal P w K mg base 9 "_law_bent_fall" ["_law_ring", "_law_sending", "_law_rounding"] (sp__law_bent_fall K)) (c_parted_in : Cal P w K mg base 3 "parted_in" ["ring", "sending"] (sp_parted_in K)) (c__law_minus : Cal P w K mg base 2 "_law_minus" ["_law_one", "_law_other"] (sp__law_minus K)) (c__law_all_cross : Cal P w K mg base 2 "_law_all_cross" ["_law_ring", "_law_some"] (sp__law_all_cross K)) (c_lets_rounding : Cal P w K mg base 8 "lets_rounding" ["ring", "sending", "thing"] (sp_lets_rounding K)) (c__law_low : Cal P w K mg base 1 "_law_low" ["_law_top", "_law_bottom"] (sp__law_low K)) : Cal P w K mg base 10 "_law_right" ["_law_ring", "_law_sending"] (sp__law_right K) := by
  refine F.cal (k := 9) sc__law_right (fun ds d h => by obtain ⟨A, S, hA, hS, rfl, rfl⟩ := h <;> rfl) (fun cdv A outer s H E hr => ⟨_, (pss_cons (ps_set (i := 2) sc__law_right.nd rfl (Or.inl rfl) (pe_cal c__law_loads (hr.mono (by decide)) (by rfl) (pa_cons (pv 0) (pa_cons (pv 1) pa_nil))))
    (pss_cons (ps_set (i := 3) sc__law_right.nd rfl (Or.inl rfl) (pe_cal c_slid_by (hr.mono (by decide)) (by rfl) (pa_cons (pv 0) (pa_cons (pv 1) (pa_cons (pe_cal c_slides_for (hr.mono (by decide)) (by rfl) (pa_cons (pv 0) (pa_cons (pv 1) pa_nil))) pa_nil)))))
    (pss_cons (ps_for PassesOwn.never rfl (pi_enum (by rfl) T.b_enumerate (pa_cons (pe_cal c__law_loads (hr.mono (by decide)) (by rfl) (pa_cons (pv 0) (pa_cons (pv 3) pa_nil))) pa_nil)) (pg_tup rfl (pgs_cons (pg_name (i := 4) sc__law_right.nd rfl (Or.inl rfl)) (pgs_cons (pg_name (i := 5) sc__law_right.nd rfl (Or.inl rfl)) pgs_nil))) (pss_one (ps_if (pt_val (pe_cal c__law_under (hr.mono (by decide)) (by rfl) (pa_cons (pe_ix ix_seq (pv 2) (pv 4) (fun _ _ => rfl)) (pa_cons (pv 5) pa_nil)))) (pss_one (ps_ret pe_non)) pss_nil)))
    (pss_cons (ps_set (i := 6) sc__law_right.nd rfl (Or.inl rfl) (pe_cal c_rounding_of (hr.mono (by decide)) (by rfl) (pa_cons (pv 0) (pa_cons (pv 1) pa_nil))))
    (pss_cons (ps_if (PW.pt (pw_or (pt_not (pt_val (pe_cal c__law_all_cross (hr.mono (by decide)) (by rfl) (pa_cons (pv 0) (pa_cons (pe_cal c_parted_in (hr.mono (by decide)) (by rfl) (pa_cons (pv 0) (pa_cons (pv 3) pa_nil))) pa_nil))))) (pw_or1 (pt_not (pt_val (pe_cal c_lets_rounding (hr.mono (by decide)) (by rfl) (pa_cons (pv 0) (pa_cons (pv 1) (pa_cons (pv 6) pa_nil))))))))) (pss_one (ps_ret pe_non)) pss_nil)
    (pss_cons (ps_if (pt_not (pt_val (pe_cal c__law_bent_fall (hr.mono (by decide)) (by rfl) (pa_cons (pv 0) (pa_cons (pv 1) (pa_cons (pv 6) pa_nil)))))) (pss_one (ps_ret pe_non)) pss_nil)
    (pss_cons (ps_set (i := 7) sc__law_right.nd rfl (Or.inl rfl) (pe_cal c_sent_by (hr.mono (by decide)) (by rfl) (pa_cons (pv 0) (pa_cons (pe_ix ix_seq (pv 6) pe_int (fun _ _ => rfl)) pa_nil))))
    (pss_cons (ps_set (i := 8) sc__law_right.nd rfl (Or.inl rfl) (pe_cal c__law_greatest (hr.mono (by decide)) (by rfl) (pa_cons (pv 0) (pa_cons (pe_cal c_parted_in (hr.mono (by decide)) (by rfl) (pa_cons (pv 0) (pa_cons (pe_cal c_slid_by (hr.mono (by decide)) (by rfl) (pa_cons (pv 0) (pa_cons (pv 1) (pa_cons (pe_ix ix_seq (pv 6) pe_int (fun _ _ => rfl)) pa_nil)))) pa_nil))) pa_nil))))
    (pss_cons (ps_set (i := 9) sc__law_right.nd rfl (Or.inl rfl) (pe_cal c_gains_of (hr.mono (by decide)) (by rfl) (pa_cons (pv 0) (pa_cons (pv 1) (pa_cons (pe_ix ix_seq (pv 6) pe_int (fun _ _ => rfl)) pa_nil)))))
    (pss_cons (ps_for PassesOwn.never rfl (pi_enum (by rfl) T.b_enumerate (pa_cons (pe_cal c__law_loads (hr.mono (by decide)) (by rfl) (pa_cons (pv 0) (pa_cons (pv 7) pa_nil))) pa_nil)) (pg_tup rfl (pgs_cons (pg_name (i := 4) sc__law_right.nd rfl (Or.inl rfl)) (pgs_cons (pg_name (i := 5) sc__law_right.nd rfl (Or.inl rfl)) pgs_nil))) (pss_cons (ps_set (i := 10) sc__law_right.nd rfl (Or.inl rfl) (pe_cal c__law_minus (hr.mono (by decide)) (by rfl) (pa_cons (pv 5) (pa_cons (pe_ix ix_seq (pv 2) (pv 4) (fun _ _ => rfl)) pa_nil))))
    (pss_one (ps_if (PW.pt (pw_or (pt_cmpR (op_neD hr.units) (pv 10) (pe_ix ix_seq (pv 9) (pv 4) (fun _ _ => rfl)) (nomark _)) (pw_or1 (pt_val (pe_cal c__law_under (hr.mono (by decide)) (by rfl) (pa_cons (pe_cal c__law_low (hr.mono (by decide)) (by rfl) (pa_cons (pe_op op_mul pe_int (pe_ix ix_seq (pv 8) pe_int (fun _ _ => rfl))) (pa_cons (pe_op op_mul pe_int (pe_ix ix_seq (pv 8) pe_int (fun _ _ => rfl))) pa_nil))) (pa_cons (pv 10) pa_nil))))))) (pss_one (ps_ret pe_non)) pss_nil))))
    (pss_one (ps_ret (pe_ix ix_seq (pv 6) pe_int (fun _ _ => rfl)))))))))))))), fun ds d h => ?_⟩)
  obtain ⟨A, S, hA, hS, rfl, rfl⟩ := h
  have hc := (slidesOf_ok hA _ hS (Nat.le_refl _)).1
  have hB := behind_sv hA hS
  have hl : slidAll S (slidesOf A S) = behind A S := rfl
  have hW : (wholeWays A (behind A S)).length = A.length := wholeWays_len
  have hok := wholeWays_ok hB
  have hcr := behind_cross hA hS
  have hld : ∀ t, t < 12 → load A (behind A S) t ≤ load A S t := fun t ht => behind_load hA hS ht
  have h3 : ∀ t, t < 12 → load A (sentBy A (wholeWays A (behind A S))) t - load A (behind A S) t ≤ 3 * half A (partedL A (behind A S)) := fun t ht => three_halves hA hB hW hcr hok ht
  have lS : ∀ t, sm (load A S t) := fun t => lo_sm (loadTo_lo hA hS.toSok t _ (Nat.le_refl _))
  have lB : ∀ t, sm (load A (behind A S) t) := fun t => lo_sm (loadTo_lo hA hB.toSok t _ (Nat.le_refl _))
  refine run_seq (run_asg ((evf_call (ea_cons (ev_var rfl) (ea_cons (ev_var rfl) ea_nil)) ⟨A, S, hA, hS.toSok, rfl, rfl⟩).st (lfA_loads _ _)) ?_)
  refine run_seq (run_asg ((ev_call (ea_cons (ev_var rfl) (ea_cons (ev_var rfl) (ea_cons (ev_call (ea_cons (ev_var rfl) (ea_cons (ev_var rfl) ea_nil)) ⟨A, S, hA, hS, rfl, rfl⟩) ea_nil))) ⟨A, S, slidesOf A S, hA, hS.toSok, hc, rfl, rfl⟩).free rfl) ?_)
  refine run_seq (run_for (src_enum ((evf_call (ea_cons (ev_var rfl) (ea_cons (ev_var rfl) ea_nil)) ⟨A, behind A S, hA, hB.toSok, rfl, rfl⟩).st (lfA_loads _ _))) (fun i s => ∃ x4 x5, s = [.val (dG A), .val (dS S), .val (.list ((List.range 12).map fun t => dR (load A S t))), .val (dS (behind A S)), x4, x5, .no, .no, .no, .no, .no] ∧ noOwn [x4, x5] = true) ⟨_, _, rfl, rfl⟩ (fun t d s' hd hI => ?_) fun s' hI => ?_)
  · obtain ⟨x4, x5, rfl, hn⟩ := hI
    obtain ⟨ht, rfl⟩ := enu_loads hd
    refine ⟨_, _, tg_tup (is := [4, 5]) rfl rfl, ?_⟩
    refine run_if (b := false) (evt_is (et_B (ev_call (ea_cons (ev_ix (ev_var (d := .list ((List.range 12).map fun t => dR (load A S t))) rfl) (ev_var (d := dN t) rfl) (load_ix ht)) (ea_cons (ev_var rfl) ea_nil)) ⟨_, _, lS t, lB t, rfl, rfl⟩)) (decide_eq_false (by have := hld t ht; grind))) (fun z => nomatch z) fun _ => run_next ⟨_, _, rfl, rfl⟩
  · obtain ⟨x4, x5, rfl, hn⟩ := hI
    refine run_seq (run_asg ((ev_call (ea_cons (ev_var rfl) (ea_cons (ev_var rfl) ea_nil)) ⟨A, S, hA, hS, rfl, rfl⟩).free hn) ?_)
    refine run_seq (run_if (b := false) (evt_is (et_or (et_not (et_B (ev_call (ea_cons (ev_var rfl) (ea_cons (ev_call (ea_cons (ev_var rfl) (ea_cons (ev_var rfl) ea_nil)) ⟨A, behind A S, hA, hB.toSok, rfl, rfl⟩) ea_nil)) ⟨A, _, partedL_lt, rfl, rfl⟩))) fun _ => et_not (et_B (ev_call (ea_cons (ev_var rfl) (ea_cons (ev_var rfl) (ea_cons (ev_var rfl) ea_nil))) (.inl ⟨A, S, slidesOf A S, wholeWays A (behind A S), hA, hS, hc, hW, rfl, rfl⟩)))) (by rw [hl, hcr, hok]; rfl)) (fun z => nomatch z) fun _ => run_next ?_)
    refine run_seq (run_if (b := false) (evt_is (et_not (et_B (ev_call (ea_cons (ev_var rfl) (ea_cons (ev_var rfl) (ea_cons (ev_var rfl) ea_nil))) ⟨A, S, hA, hS, rfl, rfl⟩))) rfl) (fun z => nomatch z) fun _ => run_next ?_)
    have hr : ∀ {d : PyData}, ixD (.tuple [dLs (slidesOf A S), dWs (wholeWays A (behind A S))]) (.int 1) = some d → d = dWs (wholeWays A (behind A S)) := fun h => (Option.some.inj h).symm
    have e0 : ixD (.tuple [dLs (slidesOf A S), dWs (wholeWays A (behind A S))]) (.int 0) = some (dLs (slidesOf A S)) := rfl
    have e1 : ixD (.tuple [dLs (slidesOf A S), dWs (wholeWays A (behind A S))]) (.int 1) = some (dWs (wholeWays A (behind A S))) := rfl
    have hV := sentBy_sv hA hW
    have lV : ∀ t, sm (load A (sentBy A (wholeWays A (behind A S))) t) := fun t => lo_sm (loadTo_lo hA hV.toSok t _ (Nat.le_refl _))
    refine run_seq (run_asg ((evf_call (ea_cons (ev_var rfl) (ea_cons (ev_ix (ev_var rfl) ev_int e1) ea_nil)) ⟨A, _, hW, hA.len, rfl, rfl⟩).st (lfA_dR _)) ?_)
    refine run_seq (run_asg ((ev_call (ea_cons (ev_var rfl) (ea_cons (ev_call (ea_cons (ev_var rfl) (ea_cons (ev_call (ea_cons (ev_var rfl) (ea_cons (ev_var rfl) (ea_cons (ev_ix (ev_var rfl) ev_int e0) ea_nil))) ⟨A, S, slidesOf A S, hA, hS.toSok, hc, rfl, rfl⟩) ea_nil)) ⟨A, behind A S, hA, hB.toSok, rfl, rfl⟩) ea_nil)) ⟨A, partedL A (behind A S), hA, partedL_lt, rfl, rfl⟩).flat rfl) ?_)
    refine run_seq (run_asg ((evf_call (ea_cons (ev_var rfl) (ea_cons (ev_var rfl) (ea_cons (ev_ix (ev_var rfl) ev_int e1) ea_nil))) ⟨A, S, _, hA, hS.toSok, hW, rfl, rfl⟩).st (lfA_loads _ _)) ?_)
    have hfg : fin (greatest A (partedL A (behind A S))) := greatest_fin hA _ 0 fin_zero partedL_lt
    have hh : half A (partedL A (behind A S)) = greatest A (partedL A (behind A S)) * (1 / 2) := rfl
    generalize wholeWays A (behind A S) = W at *
    generalize slidesOf A S = l at *
    generalize behind A S = B at *
    generalize greatest A (partedL A B) = gr at *
    have hlo : lo (3 * (gr * (1 / 2))) := by
      have h := fin_half hfg
      have e : 3 * (gr * (1 / 2)) = gr * (1 / 2) + gr * (1 / 2) + gr * (1 / 2) := by grind
      rw [e]
      exact lo_add (lo_add h h) h
    refine run_seq (run_for (src_enum ((evf_call (ea_cons (ev_var rfl) (ea_cons (ev_var rfl) ea_nil)) ⟨A, sentBy A W, hA, hV.toSok, rfl, rfl⟩).st (lfA_loads _ _))) (fun i s => ∃ x4 x5 x10, s = [.val (dG A), .val (dS S), .val (.list ((List.range 12).map fun t => dR (load A S t))), .val (dS B), x4, x5, .val (.tuple [dLs l, dWs W]), .val (dS (sentBy A W)), .val (dR gr), .val (.list ((List.range 12).map fun t => dR (load A (sentBy A W) t - load A S t))), x10]) ⟨_, _, _, rfl⟩ (fun t d s' hd hI => ?_) fun s' hI => ?_)
    · obtain ⟨x4, x5, x10, rfl⟩ := hI
      obtain ⟨ht, rfl⟩ := enu_loads hd
      have hgl : sm (load A (sentBy A W) t - load A S t) := lo_sm (lo_sub (loadTo_lo hA hV.toSok t _ (Nat.le_refl _)) (loadTo_lo hA hS.toSok t _ (Nat.le_refl _)))
      refine ⟨_, _, tg_tup (is := [4, 5]) rfl rfl, ?_⟩
      refine run_seq (run_asg ((ev_call (ea_cons (ev_var rfl) (ea_cons (ev_ix (ev_var (d := .list ((List.range 12).map fun t => dR (load A S t))) rfl) (ev_var (d := dN t) rfl) (load_ix ht)) ea_nil)) ⟨_, _, lV t, lS t, rfl, rfl⟩).flat rfl) ?_)
      refine run_if (b := false) (evt_is (et_or (et_test (ev_op (ev_var (d := dR (load A (sentBy A W) t - load A S t)) rfl) (ev_ix (d := dR (load A (sentBy A W) t - load A S t)) (ev_var (d := .list ((List.range 12).map fun t => dR (load A (sentBy A W) t - load A S t))) rfl) (ev_var (d := dN t) rfl) (ixD_nat (by rw [List.getElem?_map, List.getElem?_range ht]; rfl))) (rv_ne (sh_dR _) (sh_dR _)))) fun _ => et_B (ev_call (ea_cons (ev_call (ea_cons (ev_op ev_int (ev_num (ev_var rfl)) (rv_int (.inl ⟨by decide, by decide⟩))) (ea_cons (ev_op ev_int (ev_den (ev_var rfl)) (rv_int (.inl ⟨by decide, by decide⟩))) ea_nil)) ⟨3 * gr.num, 2 * gr.den, by have := gr.den_pos; omega, ?_, by rw [Int.natCast_mul]; rfl, rfl⟩) (ea_cons (ev_var rfl) ea_nil)) ⟨3 * (gr * (1 / 2)), _, lo_sm hlo, hgl, by rw [mk_half3], rfl⟩)) ?_) (fun z => nomatch z) fun _ => run_next ⟨_, _, _, rfl⟩
      · have : gr.den ≤ 2 ^ 30 := lo_sm (fin_lo hfg)
        exact Nat.lt_of_le_of_lt (Nat.mul_le_mul_left 2 this) (by decide)
      · rw [eqv_dR, decide_eq_true rfl]
        show decide (_ < _) = false
        refine decide_eq_false ?_
        have a1 := h3 t ht
        have a2 := hld t ht
        rw [hh] at a1
        grind
    · obtain ⟨x4, x5, x10, rfl⟩ := hI
      exact run_ret (ev_ix (ev_var rfl) ev_int e1) ⟨rfl, fun z => nomatch z⟩
end
end Rg

set_option Elab.async false
set_option linter.all false
set_option maxRecDepth 100000
set_option maxHeartbeats 4000000
/-! The draws. -/
namespace Rg
open PySem PySem.Spec PyProof.Rows L2
/-- all but a kept -/
def Kp (a : Addr) (H H' : Hp) : Prop := ∀ c o, c ≠ a → H c = some o → H' c = some o
theorem Kp.trans {a : Addr} {H1 H2 H3 : Hp} (h : Kp a H1 H2) (h2 : Kp a H2 H3) : Kp a H1 H3 := fun c o n e => h2 c o n (h c o n e)
theorem Kp.of {a : Addr} {H1 H2 : Hp} (h : Same H1 H2) : Kp a H1 H2 := fun c o _ e => h c o e
theorem kp_upd {a : Addr} {H : Hp} {o : HO} : Kp a H (upd H a o) := fun c o n e => by rw [upd_ne n]; exact e
/-- a state of the draws -/
def stV (x y : Int) (b : Bool) : List V := [.int x, .int y, .bl b]
def stD (x y : Int) (b : Bool) : List PyData := [.int x, .int y, .bool b]
theorem dp_st {K : PySem.W.Frag} {H : Hp} {x y : Int} {b : Bool} : DpAll K H (stV x y b) (stD x y b) := .cons (.int x) (.cons (.int y) (.cons (.bl b) .nil))
theorem dp_stI {K : PySem.W.Frag} {H : Hp} {vs : List V} {x y : Int} {b : Bool} (h : DpAll K H vs (stD x y b)) : vs = stV x y b := by
  cases h with
  | cons h1 h => cases h with
    | cons h2 h => cases h with
      | cons h3 h =>
        cases h
        cases h1
        cases h2
        cases h3
        rfl
def begX (l : List Int) (k : Nat) : Int := if (k : Int) < (l.length : Int) then l.getD k 0 else 0
/-- a draw below m -/
def sp__law_take (K : PySem.W.Frag) : Sp := fun vs H Q _ => ∃ a x y b m, vs = [.ref a, .int m] ∧ H a = some (.lst (stV x y b)) ∧ 0 < m ∧ m ≤ 10 ^ 12 ∧
  ∀ n x' y' b' H', Kp a H H' → H' a = some (.lst (stV x' y' b')) → 0 ≤ n → n < m → Q (.int n) H'
def Amt (q : Rat) (least : Nat) : Prop := ∃ t b : Nat, 0 < b ∧ b ≤ 12 ∧ t ≤ least + 10 ^ 12 ∧ q = mkRat (t : Int) b
def sp__law_amount (K : PySem.W.Frag) : Sp := fun vs H Q _ => ∃ (a : Addr) (x y : Int) (b : Bool) (least : Nat) (kind : Int), vs = [.ref a, .int least, .int kind] ∧ H a = some (.lst (stV x y b)) ∧ 0 ≤ kind ∧ kind < 5 ∧
  ∀ v q x' y' b' H', Kp a H H' → H' a = some (.lst (stV x' y' b')) → Dp K H' v (dR q) → Amt q least → Q v H'
theorem cdiv_small {i j : Int} (h0 : 0 < j) (h1 : j ≤ 10 ^ 12) : CDivW i j := wide_div h0 (b := 200) (show j.natAbs < 2 ^ 200 from Nat.lt_of_le_of_lt (show j.natAbs ≤ 10 ^ 12 by omega) (by decide)) (by decide) (by decide)
section
variable {P : Program} {w : World} {K : PySem.W.Frag} {mg : Str → Option Value} {base : Heap} {aN aB : Addr}
abbrev s__law_begun : Stmt := topS 60
theorem sc__law_begun : FnScope ["_law_script", "_law_k", "_law_cell"] ["_law_script", "_law_k"] (defScope s__law_begun) := ⟨rfl, rfl, rfl, by decide +kernel, rfl, by decide +kernel, by decide +kernel⟩
def R__law_begun (ds : List PyData) (d : PyData) : Prop := ∃ (l : List Int) (k : Nat), k ≤ 100 ∧ ds = [.list (l.map .int), .int k] ∧ d = .list (stD (begX l k) ((begX l k % 2147483587 + 48271 * k * k + 13) % 2147483587) (decide (begX l k ≥ 10 ^ 18)))
abbrev sp__law_begun (K : PySem.W.Frag) : Sp := spD K true R__law_begun
theorem ok__law_begun (T : Txt K mg aN aB) {f : Addr} {fd : FuncData} (F : Df K mg "_law_begun" s__law_begun ["_law_script", "_law_k"] f fd) : Cal P w K mg base 1 "_law_begun" ["_law_script", "_law_k"] (sp__law_begun K) := by
  refine F.cal (k := 0) sc__law_begun (fun ds d h => by obtain ⟨l, k, hk, rfl, rfl⟩ := h <;> rfl) (fun cdv A outer s H E hr => ⟨_, (pss_cons (ps_set (i := 2) sc__law_begun.nd rfl (Or.inl rfl) pe_int)
    (pss_cons (ps_if (pt_cmpR op_lt (pv 1) (pe_callB call_len_seq (by rfl) T.b_len (by decide +kernel) (pa_cons (pv 0) pa_nil)) (nomark _)) (pss_one (ps_set (i := 2) sc__law_begun.nd rfl (Or.inl rfl) (pe_ix ix_seq (pv 0) (pv 1) (fun _ _ => rfl)))) pss_nil)
    (pss_one (ps_ret (pe_lst (pa_cons (pv 2) (pa_cons (pe_op op_mod (pe_op op_add (pe_op op_add (pe_op op_mod (pv 2) pe_int) (pe_op op_mul (pe_op op_mul pe_int (pv 1)) (pv 1))) pe_int) pe_int) (pa_cons (pe_cmpR op_ge (pv 2) (pe_op op_pow pe_int pe_int) (nomark _)) pa_nil)))))))), fun ds d h => ?_⟩)
  obtain ⟨l, k, hk, rfl, rfl⟩ := h
  refine run_seq (run_asg (ev_int.flat rfl) ?_)
  refine run_seqTo (s1 := [.val (.list (l.map .int)), .val (.int k), .val (.int (begX l k))]) (run_if (b := decide ((k : Int) < (l.length : Int))) (evt_is (et_test (ev_op (ev_var (d := .int k) rfl) (ev_cb (ea_cons (ev_var (d := .list (l.map .int)) rfl) ea_nil) rc_len) rv_bool0)) (by rw [List.length_map])) (fun h => ?_) fun h => run_next ?_) ?_
  · have h := of_decide_eq_true h
    have hk : k < l.length := by omega
    refine run_asg ((ev_ix (d := .int (l.getD k 0)) (ev_var (d := .list (l.map .int)) rfl) (ev_var (d := .int k) rfl) (ixD_nat (by rw [List.getElem?_map, List.getD_eq_getElem?_getD, List.getElem?_eq_getElem hk]; rfl))).flat rfl) ?_
    unfold begX
    rw [if_pos h]
    rfl
  · unfold begX
    rw [if_neg (of_decide_eq_false h)]
    rfl
  · generalize begX l k = x
    exact run_retF (evn_lst (ea_cons (ev_var rfl) (ea_cons (ev_op (ev_op (ev_op (ev_op (ev_var rfl) ev_int (rv_int (by decide))) (ev_op (ev_op ev_int (ev_var rfl) (rv_int (.inl ⟨by decide, by decide⟩))) (ev_var rfl) (rv_int (.inr ⟨by omega, by omega⟩))) rv_int0) ev_int rv_int0) ev_int (rv_int (by decide))) (ea_cons (ev_op (ev_var rfl) (ev_op (ev_int (i := 10)) (ev_int (i := 18)) (rv_int ⟨by decide, by decide, by decide⟩)) rv_bool0) ea_nil)))).evf ⟨rfl, fun _ => rfl⟩
abbrev s__law_take : Stmt := topS 61
theorem sc__law_take : FnScope ["_law_state", "_law_many", "_law_digit", "_law_drawn", "_law_turn"] ["_law_state", "_law_many"] (defScope s__law_take) := ⟨rfl, rfl, rfl, by decide +kernel, rfl, by decide +kernel, by decide +kernel⟩
theorem ok__law_take (T : Txt K mg aN aB) {f : Addr} {fd : FuncData} (F : Df K mg "_law_take" s__law_take ["_law_state", "_law_many"] f fd) : Cal P w K mg base 1 "_law_take" ["_law_state", "_law_many"] (sp__law_take K) := by
  refine ⟨f, fd, F.fn.ok sc__law_take (fun vs H Q E h => ?_) (fun cdv A outer s H vs Q E hr h => ?_), F.gl, F.fn.kp, F.bi⟩
  · obtain ⟨a, x, y, b, m, rfl, _⟩ := h
    rfl
  · obtain ⟨a, x, y, b, m, rfl, hH, m0, m1, q⟩ := h
    refine ⟨_, (pss_cons (ps_if (pt_val (pe_ix ix_seq (pv 0) pe_int (fun _ _ => rfl))) (pss_cons (ps_set (i := 2) sc__law_take.nd rfl (Or.inl rfl) (pe_op op_mod (pe_ix ix_seq (pv 0) pe_int (fun _ _ => rfl)) (pv 1)))
    (pss_cons (ps_asg (pe_op op_fdivW (pe_ix ix_seq (pv 0) pe_int (fun _ _ => rfl)) (pv 1)) (pg_sub (pv 0) pe_int set_list))
    (pss_cons (ps_asg (pe_cmpR op_gt (pe_ix ix_seq (pv 0) pe_int (fun _ _ => rfl)) pe_int (nomark _)) (pg_sub (pv 0) pe_int set_list))
    (pss_one (ps_ret (pv 2)))))) pss_nil)
    (pss_cons (ps_set (i := 3) sc__law_take.nd rfl (Or.inl rfl) pe_int)
    (pss_cons (ps_for PassesOwn.never rfl (pi_range1 (by rfl) T.b_range (pa_cons (pe_op op_add pe_int (pe_op op_mul pe_int (pe_callTy call_int1 (by rfl) T.b_int (by decide +kernel) (pa_cons (pe_cmpR op_gt (pv 1) (pe_op op_pow pe_int pe_int) (nomark _)) pa_nil)))) pa_nil)) (pg_name (i := 4) sc__law_take.nd rfl (Or.inl rfl)) (pss_cons (ps_asg (pe_op op_mod (pe_op op_add (pe_op op_mul (pe_ix ix_seq (pv 0) pe_int (fun _ _ => rfl)) pe_int) pe_int) pe_int) (pg_sub (pv 0) pe_int set_list))
    (pss_one (ps_set (i := 3) sc__law_take.nd rfl (Or.inl rfl) (pe_op op_add (pe_op op_mul (pv 3) pe_int) (pe_op op_mod (pe_op op_mul (pe_ix ix_seq (pv 0) pe_int (fun _ _ => rfl)) (pe_ix ix_seq (pv 0) pe_int (fun _ _ => rfl))) pe_int))))))
    (pss_one (ps_ret (pe_op op_mod (pe_op op_fdivW (pv 3) pe_int) (pv 1))))))), ?_⟩
    refine ⟨.ref a, rfl, .inl ⟨a, _, 2, .bl b, rfl, rfl, SqL.of hH, rfl, b, rfl, ?_⟩⟩
    cases b with
    | true =>
      rw [if_pos rfl]
      refine ⟨.ref a, rfl, .inl ⟨a, _, 0, .int x, rfl, rfl, SqL.of hH, rfl, .int m, rfl, x, m, rfl, rfl, m0, ?_⟩⟩
      refine ⟨.ref a, rfl, .inl ⟨a, _, 0, .int x, rfl, rfl, SqL.of hH, rfl, .int m, rfl, x, m, rfl, rfl, cdiv_small m0 m1, ?_⟩⟩
      refine ⟨.ref a, rfl, a, _, 0, 0, rfl, rfl, hH, rfl, ?_⟩
      refine ⟨.ref a, rfl, .inl ⟨a, _, 0, .int (x / m), rfl, rfl, SqL.of upd_same, rfl, x / m, 0, rfl, rfl, ?_⟩⟩
      refine ⟨.ref a, rfl, a, _, 2, 2, rfl, rfl, upd_same, rfl, ?_⟩
      refine ⟨.int (x % m), rfl, ?_⟩
      exact q (x % m) (x / m) y _ _ (kp_upd.trans kp_upd) upd_same (Int.emod_nonneg _ (by omega)) (Int.emod_lt_of_pos _ m0)
    | false =>
      rw [if_neg Bool.false_ne_true]
      have hn : ∃ n : Int, n = 1 + 8 * (if decide (m > 10 ^ 6) then 1 else 0) ∧ 0 ≤ n ∧ n ≤ 9 := ⟨_, rfl, by split <;> decide, by split <;> decide⟩
      obtain ⟨n, en, n0, n1⟩ := hn
      refine ⟨.int m, rfl, 10, 6, rfl, rfl, ⟨by decide, by decide, by decide⟩, m, 10 ^ (6 : Int).toNat, rfl, rfl, .inr ⟨_, rfl, 8, _, rfl, rfl, .inl ⟨by decide, by decide⟩, 1, _, rfl, rfl, n, congrArg (fun z => [V.int z]) en.symm, by omega, by omega, ?_⟩⟩
      refine ⟨fun i k σ' H' => k = n.toNat - i ∧ i ≤ n.toNat ∧ ∃ x y dr z, σ' = [some (.ref a), some (.int m), none, some (.int dr), z] ∧ H' a = some (.lst (stV x y false)) ∧ Kp a H H', ⟨_, rfl, Nat.zero_le _, x, y, 0, none, rfl, hH, Kp.of (Same.refl H)⟩, ?_⟩
      rintro i k σ' H' ⟨rfl, hi, x, y, dr, z, rfl, hH', kp⟩
      by_cases hlt : i < n.toNat
      · refine .inr ⟨hlt, fun σ2 H2 => ∃ x y dr z, σ2 = [some (.ref a), some (.int m), none, some (.int dr), z] ∧ H2 a = some (.lst (stV x y false)) ∧ Kp a H H2, fun σ2 H2 h2 => ⟨n.toNat - (i + 1), by omega, rfl, hlt, h2⟩, fun v H2 yl => ?_⟩
        obtain ⟨rfl, rfl⟩ := yl
        refine ⟨.ref a, rfl, .inl ⟨a, _, 1, .int y, rfl, rfl, SqL.of hH', rfl, y, 39373, rfl, rfl, .inr ⟨by decide, by decide⟩, _, 17, rfl, rfl, _, 2147483647, rfl, rfl, show (0 : Int) < 2147483647 by decide, ?_⟩⟩
        have hy0 := Int.emod_nonneg (y * 39373 + 17) (show (2147483647 : Int) ≠ 0 by decide)
        have hy1 := Int.emod_lt_of_pos (y * 39373 + 17) (show (0 : Int) < 2147483647 by decide)
        obtain ⟨y2, ey⟩ : ∃ y2, y2 = (y * 39373 + 17) % 2147483647 := ⟨_, rfl⟩
        rw [← ey] at hy0 hy1
        refine ⟨.ref a, rfl, a, _, 1, 1, rfl, rfl, hH', rfl, ?_⟩
        refine ⟨.int dr, rfl, dr, 2147483629, rfl, rfl, .inr ⟨by decide, by decide⟩, ?_⟩
        refine ⟨.ref a, rfl, .inl ⟨a, _, 1, .int y2, rfl, rfl, SqL.of upd_same, by subst ey; rfl, ?_⟩⟩
        refine ⟨.ref a, rfl, .inl ⟨a, _, 1, .int y2, rfl, rfl, SqL.of upd_same, by subst ey; rfl, y2, y2, rfl, rfl, .inr ⟨by omega, by omega⟩, _, 2147483629, rfl, rfl, show (0 : Int) < 2147483629 by decide, _, _, rfl, rfl, ?_⟩⟩
        exact ⟨x, y2, _, _, rfl, by subst ey; exact upd_same, kp.trans kp_upd⟩
      · refine .inl ⟨by show n.toNat ≤ i; omega, ?_⟩
        refine ⟨.int dr, rfl, dr, 64, rfl, rfl, cdiv_small (by decide) (by decide), .int m, rfl, dr / 64, m, rfl, rfl, m0, ?_⟩
        exact q _ x y false H' kp hH' (Int.emod_nonneg _ (by omega)) (Int.emod_lt_of_pos _ m0)
abbrev s__law_amount : Stmt := topS 63
theorem sc__law_amount : FnScope ["_law_state", "_law_least", "_law_kind", "_law_bottom", "_law_top"] ["_law_state", "_law_least", "_law_kind"] (defScope s__law_amount) := ⟨rfl, rfl, rfl, by decide +kernel, rfl, by decide +kernel, by decide +kernel⟩
theorem ok__law_amount (T : Txt K mg aN aB) {f : Addr} {fd : FuncData} (F : Df K mg "_law_amount" s__law_amount ["_law_state", "_law_least", "_law_kind"] f fd) (c__law_take : Cal P w K mg base 1 "_law_take" ["_law_state", "_law_many"] (sp__law_take K)) (c__law_low : Cal P w K mg base 1 "_law_low" ["_law_top", "_law_bottom"] (sp__law_low K)) : Cal P w K mg base 2 "_law_amount" ["_law_state", "_law_least", "_law_kind"] (sp__law_amount K) := by
  refine ⟨f, fd, F.fn.ok sc__law_amount (fun vs H Q E h => ?_) (fun cdv A outer s H vs Q E hr h => ?_), F.gl, F.fn.kp, F.bi⟩
  · obtain ⟨a, x, y, b, least, kind, rfl, _⟩ := h
    rfl
  · obtain ⟨a, x, y, b, least, kind, rfl, hH, k0, k1, q⟩ := h
    refine ⟨_, (pss_cons (ps_set (i := 3) sc__law_amount.nd rfl (Or.inl rfl) (pe_op op_add pe_int (pe_cal c__law_take (hr.mono (by decide)) (by rfl) (pa_cons (pv 0) (pa_cons (pe_ix ix_seq (pe_lst (pa_cons pe_int (pa_cons pe_int (pa_cons pe_int (pa_cons pe_int (pa_cons pe_int pa_nil)))))) (pv 2) (fun _ _ => rfl)) pa_nil)))))
    (pss_cons (ps_set (i := 4) sc__law_amount.nd rfl (Or.inl rfl) (pe_op op_add (pv 1) (pe_cal c__law_take (hr.mono (by decide)) (by rfl) (pa_cons (pv 0) (pa_cons (pe_ix ix_seq (pe_lst (pa_cons pe_int (pa_cons pe_int (pa_cons pe_int (pa_cons pe_int (pa_cons (pe_op op_pow pe_int pe_int) pa_nil)))))) (pv 2) (fun _ _ => rfl)) pa_nil)))))
    (pss_one (ps_ret (pe_cal c__law_low (hr.mono (by decide)) (by rfl) (pa_cons (pv 4) (pa_cons (pv 3) pa_nil))))))), ?_⟩
    have c5 : kind = 0 ∨ kind = 1 ∨ kind = 2 ∨ kind = 3 ∨ kind = 4 := by omega
    have i1 : ∃ m : Int, atI [V.int 1, .int 1, .int 4, .int 12, .int 12] kind = some (.int m) ∧ 0 < m ∧ m ≤ 12 := by
      rcases c5 with rfl | rfl | rfl | rfl | rfl
      · exact ⟨1, rfl, by decide, by decide⟩
      · exact ⟨1, rfl, by decide, by decide⟩
      · exact ⟨4, rfl, by decide, by decide⟩
      · exact ⟨12, rfl, by decide, by decide⟩
      · exact ⟨12, rfl, by decide, by decide⟩
    have i2 : ∃ m : Int, atI [V.int 3, .int 10, .int 10, .int 40, .int (10 ^ (12 : Int).toNat)] kind = some (.int m) ∧ 0 < m ∧ m ≤ 10 ^ 12 := by
      rcases c5 with rfl | rfl | rfl | rfl | rfl
      · exact ⟨3, rfl, by decide, by decide⟩
      · exact ⟨10, rfl, by decide, by decide⟩
      · exact ⟨10, rfl, by decide, by decide⟩
      · exact ⟨40, rfl, by decide, by decide⟩
      · exact ⟨10 ^ (12 : Int).toNat, rfl, by decide, by decide⟩
    obtain ⟨m1, e1, p1, p2⟩ := i1
    obtain ⟨m2, e2, p3, p4⟩ := i2
    refine ⟨.ref a, rfl, by decide, fun p hp => ?_⟩
    refine ⟨.int kind, rfl, .inl ⟨p, _, kind, .int m1, rfl, rfl, SqL.of upd_same, e1, ?_⟩⟩
    have hpa : a ≠ p := ne_of_none hH hp
    refine ⟨a, x, y, b, m1, rfl, by rw [upd_ne hpa]; exact hH, p1, Int.le_trans p2 (by decide), fun n x1 y1 b1 H1 kp1 hH1 n0 n1 => ?_⟩
    refine ⟨1, n, rfl, rfl, ?_⟩
    refine ⟨.int least, rfl, .ref a, rfl, 10, 12, rfl, rfl, ⟨by decide, by decide, by decide⟩, by decide, fun p' hp' => ?_⟩
    refine ⟨.int kind, rfl, .inl ⟨p', _, kind, .int m2, rfl, rfl, SqL.of upd_same, e2, ?_⟩⟩
    have hpa' : a ≠ p' := ne_of_none hH1 hp'
    refine ⟨a, x1, y1, b1, m2, rfl, by rw [upd_ne hpa']; exact hH1, p3, p4, fun n' x2 y2 b2 H2 kp2 hH2 n0' n1' => ?_⟩
    refine ⟨least, n', rfl, rfl, ?_⟩
    refine ⟨.int ((least : Int) + n'), rfl, .int (1 + n), rfl, [.int ((least : Int) + n'), .int (1 + n)], dR (mkRat ((least : Int) + n') (1 + n).toNat), .cons (.int _) (.cons (.int _) .nil), ⟨_, (1 + n).toNat, by omega, ?_, ?_, rfl⟩, fun v H3 s3 hd _ => ?_⟩
    · exact Nat.lt_of_le_of_lt (show (1 + n).toNat ≤ 12 by omega) (by decide)
    · rw [Int.toNat_of_nonneg (by omega)]
    · refine q v _ x2 y2 b2 H3 (((Kp.of (same_new hp)).trans kp1).trans (((Kp.of (same_new hp')).trans kp2).trans (Kp.of s3))) (s3 _ _ hH2) hd ⟨((least : Int) + n').toNat, (1 + n).toNat, by omega, by omega, by omega, ?_⟩
      rw [Int.toNat_of_nonneg (by omega)]
end
end Rg

set_option Elab.async false
set_option linter.all false
set_option maxRecDepth 100000
set_option maxHeartbeats 4000000
/-! A ring and a sending are made. -/
namespace Rg
open PySem PySem.Spec PyProof.Rows L2
/-! ### expressions that write lists of this frame -/
def EvX (K : PySem.W.Frag) (te : TE) (g : List Sl) (P : List Sl → PyData → Prop) : Prop := ∀ (H0 H : Hp) (σ : L2.St), Ok K H0 H σ g → ∀ Q : VK, (∀ v d H2 g2, Ok K H0 H2 σ g2 → Dp K H2 v d → P g2 d → Q v H2) → te σ H Q
section
variable {K : PySem.W.Frag} {H0 G H H' : Hp} {σ : L2.St} {g s : List Sl} {E : De} {te ta tb : TE} {ts us : TS} {t : TG} {ds : List PyData} {P : List Sl → PyData → Prop}
theorem OkW.st {l : Addr} {i : Nat} {xs' : List V} {ds' : List PyData} (k : OkW K H0 G H σ g) (hi : g[i]? = some (.own ds)) (hl : σ[i]? = some (some (.ref l))) (kp : Kp l H H') (h' : H' l = some (.lst xs')) (hd : DpAll K G xs' ds') :
    OkW K H0 G H' σ (g.set i (.own ds')) := (k.updO hi hl hd).up fun b o e => by
  by_cases hb : b = l
  · subst hb
    rw [upd_same] at e
    cases e
    exact h'
  · rw [upd_ne hb] at e
    exact kp b o hb e
theorem evx_take {i : Nat} {m x y : Int} {b : Bool} {X : XK} (hg : g[i]? = some (.own (stD x y b))) (ht : Ev K te g (.int m)) (h0 : 0 < m) (h1 : m ≤ 10 ^ 12) :
    EvX K (tCall (sp__law_take K) [] X (tCons (tVar i) (tCons te tNil))) g fun g2 d => ∃ n x y b, d = .int n ∧ 0 ≤ n ∧ n < m ∧ g2 = g.set i (.own (stD x y b)) := fun H0 H σ ok Q q => by
  obtain ⟨G, k⟩ := id ok
  obtain ⟨l, xs, a1, a2, a3, a4⟩ := k.own i _ hg
  have e := dp_stI a4
  subst e
  refine ⟨.ref l, a1, ht H0 H σ ok _ fun v H2 e hd => ?_⟩
  cases hd
  exact ⟨l, x, y, b, m, rfl, e _ _ a2, h0, h1, fun n x' y' b' H' kp hH n0 n1 => q _ (.int n) H' _ ((k.up e).st hg a1 kp hH dp_st).ok (.int n) ⟨n, x', y', b', rfl, n0, n1, rfl⟩⟩
theorem evx_amount {i : Nat} {x y kind : Int} {least : Nat} {b : Bool} {X : XK} (hg : g[i]? = some (.own (stD x y b))) (hl : Ev K ta g (.int least)) (hk : Ev K tb g (.int kind)) (h0 : 0 ≤ kind) (h1 : kind < 5) :
    EvX K (tCall (sp__law_amount K) [] X (tCons (tVar i) (tCons ta (tCons tb tNil)))) g fun g2 d => ∃ q x y b, d = dR q ∧ Amt q least ∧ g2 = g.set i (.own (stD x y b)) := fun H0 H σ ok Q q => by
  obtain ⟨G, k⟩ := id ok
  obtain ⟨l, xs, a1, a2, a3, a4⟩ := k.own i _ hg
  have e := dp_stI a4
  subst e
  refine ⟨.ref l, a1, hl H0 H σ ok _ fun v H2 e hd => hk H0 H2 σ (ok.up e) _ fun v2 H3 e2 hd2 => ?_⟩
  cases hd
  cases hd2
  exact ⟨l, x, y, b, least, kind, rfl, e2 _ _ (e _ _ a2), h0, h1, fun v q' x' y' b' H' kp hH hv hm => q v _ H' _ ((k.up (e.trans e2)).st hg a1 kp hH dp_st).ok hv ⟨q', x', y', b', rfl, hm, rfl⟩⟩
theorem EvX.imp {P' : List Sl → PyData → Prop} (h : EvX K te g P) (hp : ∀ g2 d, P g2 d → P' g2 d) : EvX K te g P' := fun H0 H σ ok Q q => h H0 H σ ok Q fun v d H2 g2 a b c => q v d H2 g2 a b (hp g2 d c)
/-- an int ahead, an int behind that is drawn -/
theorem evx_opI {f : Int → Int → Int} {i : Int} (ha : Ev K ta g (.int i)) (hb : EvX K tb g P) (hP : ∀ g2 d, P g2 d → ∃ j, d = .int j) : EvX K (tOp (rI0 fun i j => .int (f i j)) ta tb) g fun g2 d => ∃ j, P g2 (.int j) ∧ d = .int (f i j) := fun H0 H σ ok Q q =>
  ha H0 H σ ok _ fun v1 H1 e1 h1 => hb H0 H1 σ (ok.up e1) _ fun v2 d H2 g2 ok2 h2 hp => by
    obtain ⟨j, rfl⟩ := hP g2 d hp
    cases h1
    cases h2
    exact ⟨i, j, rfl, rfl, q _ _ H2 g2 ok2 (.int _) ⟨j, hp, rfl⟩⟩
theorem evx_opR {C : Int → Int → Prop} {f : Int → Int → Int} {j : Int} (ha : EvX K ta g P) (hP : ∀ g2 d, P g2 d → ∃ i, d = .int i ∧ Ev K tb g2 (.int j) ∧ C i j) : EvX K (tOp (rI C fun i j => .int (f i j)) ta tb) g fun g2 d => ∃ i, P g2 (.int i) ∧ d = .int (f i j) := fun H0 H σ ok Q q =>
  ha H0 H σ ok _ fun v1 d H1 g2 ok2 h1 hp => by
    obtain ⟨i, rfl, hb, hc⟩ := hP g2 d hp
    refine hb H0 H1 σ ok2 _ fun v2 H2 e2 h2 => ?_
    cases h1
    cases h2
    exact ⟨i, j, rfl, rfl, hc, q _ _ H2 g2 (ok2.up e2) (.int _) ⟨i, hp, rfl⟩⟩
theorem evx_tup4 {t1 t2 t3 t4 : TE} {z : Str} {i j : Int} (h1 : Ev K t1 g (.str z)) (h2 : Ev K t2 g (.int i)) (h3 : Ev K t3 g (.int j)) (h4 : EvX K t4 g P) :
    EvX K (tTup (tCons t1 (tCons t2 (tCons t3 (tCons t4 tNil))))) g fun g2 d => ∃ d4, P g2 d4 ∧ d = .tuple [.str z, .int i, .int j, d4] := fun H0 H σ ok Q q =>
  h1 H0 H σ ok _ fun v1 H1 e1 q1 => h2 H0 H1 σ (ok.up e1) _ fun v2 H2 e2 q2 => h3 H0 H2 σ (ok.up (e1.trans e2)) _ fun v3 H3 e3 q3 => h4 H0 H3 σ (ok.up (e1.trans (e2.trans e3))) _ fun v4 d4 H4 g2 ok4 q4 hp => by
    cases q1
    cases q2
    cases q3
    refine ⟨show 4 ≤ sizeLine by decide, fun p hp' => q _ _ _ g2 (ok4.up (same_new hp')) (.tup (SqT.of upd_same) (.cons (.str z) (.cons (.int i) (.cons (.int j) (.cons (dp_up (same_new hp') q4) .nil))))) ⟨d4, hp, rfl⟩⟩
theorem run_asgX {i : Nat} (h : EvX K te s P) (q : ∀ g2 d, P g2 d → lf d = true ∧ E.nx (g2.set i (.val d))) : Run K (tAsg te (gName i)) s E := fun H0 H σ D ok f =>
  h H0 H σ ok _ fun v d H2 g2 ok2 hd hp => by
    obtain ⟨hl, hq⟩ := q g2 d hp
    obtain ⟨G, k⟩ := ok2
    exact f.nx _ H2 _ ((k.nl (Same.refl H2)).setV i (dp_nl hl hd)).ok hq
theorem run_forX {tb : TS} (h : EvX K te s P) (q : ∀ g2 d, P g2 d → ∃ n, d = .int n ∧ Run K (tFor (iRng1 (tCons (tC (.int n)) tNil)) t tb) g2 E) : Run K (tFor (iRng1 (tCons te tNil)) t tb) s E := fun H0 H σ D ok f =>
  h H0 H σ ok _ fun v d H2 g2 ok2 hd hp => by
    obtain ⟨n, rfl, hr⟩ := q g2 d hp
    cases hd
    exact hr H0 H2 σ D ok2 f
theorem run_ifX {m : Int} (h : EvX K te s P) (q : ∀ g2 d, P g2 d → ∃ n, d = .int n ∧ Run K ts g2 E ∧ Run K us g2 E) : Run K (tIfS (tTest (tOp (rEqD K) te (tC (.int m)))) ts us) s E := fun H0 H σ D ok f =>
  h H0 H σ ok _ fun v d H2 g2 ok2 hd hp => by
    obtain ⟨n, rfl, h1, h2⟩ := q g2 d hp
    refine ⟨.int n, .int m, hd, .int m, rfl, rfl, _, rfl, ?_⟩
    cases PyData.eqv (.int n) (.int m) with
    | true =>
      rw [if_pos rfl]
      exact h1 H0 H2 σ D ok2 f
    | false =>
      rw [if_neg Bool.false_ne_true]
      exact h2 H0 H2 σ D ok2 f
theorem dpA_erase : ∀ {vs : List V} {ds : List PyData} (j : Nat), DpAll K H vs ds → DpAll K H (vs.eraseIdx j) (ds.eraseIdx j)
  | _, _, _, .nil => .nil
  | _, _, 0, .cons _ t => t
  | _, _, j + 1, .cons h t => .cons h (dpA_erase j t)
theorem dpA_rev : ∀ {vs : List V} {ds : List PyData}, DpAll K H vs ds → DpAll K H vs.reverse ds.reverse
  | _, _, .nil => .nil
  | _, _, .cons h t => by
    rw [List.reverse_cons, List.reverse_cons]
    exact dpA_app (dpA_rev t) (dpA_one h)
theorem seq_ix {k n : Nat} (h : k < n) : seqIndex? (k : Int) n = some k := by
  unfold seqIndex?
  simp
  omega
/-- y = xs.pop(e), xs owned -/
theorem run_popX {i j : Nat} (hj : s[j]? = some (.own ds)) (hz : ds.length ≤ 100000) (h : EvX K te s P) (q : ∀ g2 d, P g2 d → g2[j]? = some (.own ds) ∧ ∃ (k : Nat) (x : PyData), d = .int k ∧ ds[k]? = some x ∧ E.nx ((g2.set j (.own (ds.eraseIdx k))).set i (.val x))) :
    Run K (tAsg (tBM K "list" rPopAt (tVar j) (tCons te tNil)) (gName i)) s E := fun H0 H σ D ok f => by
  obtain ⟨G, k⟩ := id ok
  obtain ⟨l, xs, a1, a2, a3, a4⟩ := k.own j ds hj
  refine ⟨.ref l, a1, .inl ⟨rfl, _, SqL.of a2⟩, h H0 H σ ok _ fun v d H2 g2 ok2 hd hp => ?_⟩
  obtain ⟨hj2, n, x, rfl, hx, hq⟩ := q g2 d hp
  obtain ⟨G2, k2⟩ := ok2
  obtain ⟨l', xs', b1, b2, b3, b4⟩ := k2.own j ds hj2
  rw [a1] at b1
  cases b1
  cases hd
  obtain ⟨y, hy, hd⟩ := dpA_get b4 hx
  have hn : n < xs'.length := (List.getElem?_eq_some_iff.mp hy).1
  have hl := dpA_len b4
  refine ⟨l, xs', n, n, y, rfl, rfl, b2, by omega, by omega, seq_ix hn, hy, ?_⟩
  exact f.nx _ _ _ (((k2.updO hj2 a1 (dpA_erase n b4)).setV i hd).ok) hq
theorem run_rev {j : Nat} (hj : s[j]? = some (.own ds)) (q : E.nx (s.set j (.own ds.reverse))) : Run K (tDrop (tBM0 K "list" rReverse (tVar j))) s E := fun H0 H σ D ok f => by
  obtain ⟨G, k⟩ := id ok
  obtain ⟨l, xs, a1, a2, a3, a4⟩ := k.own j ds hj
  exact ⟨.ref l, a1, .inl ⟨rfl, _, SqL.of a2⟩, l, xs, rfl, rfl, a2, f.nx _ _ _ (k.updO hj a1 (dpA_rev a4)).ok q⟩
theorem run_appX {i : Nat} (hi : s[i]? = some (.own ds)) (hz : ds.length < 100000) (h : EvX K te s P) (q : ∀ g2 d, P g2 d → g2[i]? = some (.own ds) ∧ lf d = true ∧ E.nx (g2.set i (.own (ds ++ [d])))) : Run K (tDrop (tBM K "list" rAppend (tVar i) (tCons te tNil))) s E := fun H0 H σ D ok f => by
  obtain ⟨G, k⟩ := id ok
  obtain ⟨l, xs, a1, a2, a3, a4⟩ := k.own i ds hi
  refine ⟨.ref l, a1, .inl ⟨rfl, _, SqL.of a2⟩, h H0 H σ ok _ fun v d H2 g2 ok2 hd hp => ?_⟩
  obtain ⟨hj2, hl, hq⟩ := q g2 d hp
  obtain ⟨G2, k2⟩ := ok2
  obtain ⟨l', xs', b1, b2, b3, b4⟩ := k2.own i ds hj2
  rw [a1] at b1
  cases b1
  have k3 := k2.nl (Same.refl H2)
  refine ⟨l, xs', v, rfl, rfl, b2, ?_, f.nx _ _ _ (k3.updO hj2 a1 (dpA_app (dpA_up (nl_lo k2.hi) b4) (dpA_one (dp_nl hl hd)))).ok hq⟩
  rw [dpA_len b4]
  exact Nat.lt_of_lt_of_le hz (by decide)
theorem run_seqP (C : List Sl → Prop) (h : Run K ts s { E with nx := C }) (h2 : ∀ s', C s' → Run K us s' E) : Run K (tSeq ts us) s E :=
  run_seq (run_is h (fun s e => h2 s e) (fun _ _ q => q) (fun _ q => q) fun _ q => q)
theorem evn_rg {n : Nat} (h : Ev K te g (.int n)) (hn : n ≤ 1000) : EvN K (tLstRg (tRg1 te)) g ((List.range n).map dN) := fun H0 H σ ok Q q => h H0 H σ ok _ fun v H2 e hd => by
  cases hd
  refine ⟨n, rfl, RgOk.of_le (by decide) (by omega) (by decide) (by omega), fun p hp => q p _ _ (e.trans (same_new hp)) (e.free hp) upd_same ?_⟩
  unfold rgV
  have hi := dpA_intsI (K := K) (H := upd H2 p (.lst (rgV 0 n))) ((List.range ((n : Int) - 0).toNat).map fun (i : Nat) => (0 : Int) + (i : Int))
  rw [List.map_map, List.map_map] at hi
  have e1 : ((n : Int) - 0).toNat = n := by omega
  rw [e1] at hi ⊢
  have e2 : (List.range n).map (PyData.int ∘ fun (i : Nat) => (0 : Int) + (i : Int)) = (List.range n).map dN := List.map_congr_left fun i _ => by
    show PyData.int (0 + (i : Int)) = .int i
    rw [Int.zero_add]
  rw [e2] at hi
  unfold rgV at hi
  rw [e1] at hi
  exact hi
theorem rv_ixS {z : Str} {k : Int} {c : Nat} (hz : z.length ≤ 1000) (h : atI z.cps.toList k = some c) : RV K rIxS (.str z) (.int k) (.str ⟨#[c]⟩) := fun H v1 v2 a b Q q => by
  cases a
  cases b
  exact ⟨z, k, c, rfl, rfl, Nat.le_trans hz (by decide), h, q _ H (Same.refl H) (.str _)⟩
theorem rv_addS {x y : Str} (hz : x.length + y.length ≤ 1000) : RV K (fun x y H Q => ∃ i j, x = .str i ∧ y = .str j ∧ i.length + j.length ≤ sizeLine ∧ Q (.str (i ++ j)) H) (.str x) (.str y) (.str (x ++ y)) := fun H v1 v2 a b Q q => by
  cases a
  cases b
  exact ⟨x, y, rfl, rfl, Nat.le_trans hz (by decide), q _ H (Same.refl H) (.str _)⟩
end
/-- what a def promises where the caller knows no more of the answer than P -/
def spE (K : PySem.W.Frag) (R : List PyData → Prop) (P : PyData → Prop) : Sp := fun vs H Q _ => ∃ ds, DpAll K H vs ds ∧ R ds ∧ ∀ v H' d, Same H H' → Dp K H' v d → P d → Q v H'
section
variable {P : Program} {w : World} {K : PySem.W.Frag} {mg : Str → Option Value} {base : Heap} {aN aB : Addr}
theorem Df.calE {x : Str} {st : Stmt} {ps N : List Str} {f : Addr} {fd : FuncData} {k : Nat} {R : List PyData → Prop} {C : PyData → Prop} (F : Df K mg x st ps f fd) (S : FnScope N ps (defScope st)) (hl : ∀ ds, R ds → ds.length = ps.length)
    (hb : ∀ (cdv : Value) (A : Around) (outer : List Env) (s : Shared) (H : Hp) (E : XK), Room k (A.deeper (envOfC x (defScope st) s.heap.objs.size f cdv)) →
      ∃ t, PSs (cxOf CX0 P w K mg base N x (defScope st) f cdv A outer s H E).nox (defBody st) t ∧ ∀ ds, R ds → Run K t (startG N ds) { nx := fun _ => False, rt := fun d' _ => C d' }) :
    Cal P w K mg base (k + 1) x ps (spE K R C) := by
  refine ⟨f, fd, F.fn.ok S (fun vs H Q E h => ?_) (fun cdv A outer s H vs Q E hr h => ?_), F.gl, F.fn.kp, F.bi⟩
  · obtain ⟨ds, h1, h2, _⟩ := h
    rw [dpA_len h1]
    exact hl ds h2
  · obtain ⟨ds, h1, h2, q⟩ := h
    obtain ⟨t, h3, h4⟩ := hb cdv A outer s H E hr
    exact ⟨t, h3, h4 ds h2 H H _ _ (ok_start h1) ⟨fun σ H' g k e => e.elim, fun v H' d' fr' e1 e2 e3 e4 => q v H' d' e1 e2 e4, fun _ _ _ _ z => z.elim, fun _ _ _ _ z => z.elim⟩⟩
end
/-! ### what is made -/
def NmOk (x : Array Nat) : Prop := x.size ≤ 5 ∧ ∀ c ∈ x.toList, 97 ≤ c ∧ c < 123
structure Made (a : Ask) : Prop where
  o1 : a.one < 12
  o2 : a.other < 12
  ne : a.one ≠ a.other
  nm : NmOk a.nm
  am : ∃ t b : Nat, 0 < b ∧ b ≤ 12 ∧ t ≤ 1 + 10 ^ 12 ∧ a.size = mkRat (t : Int) b
structure MadeOk (A : List Ask) : Prop where
  len : A.length ≤ 10
  ask : ∀ a ∈ A, Made a
theorem div_12 : ∀ b : Nat, b < 13 → 0 < b → 27720 = b * (27720 / b) := by decide
theorem Made.part {a : Ask} (h : Made a) : ∃ n : Int, 0 ≤ n ∧ a.size * 27720 = (n : Rat) := by
  obtain ⟨t, b, h0, h1, _, e⟩ := h.am
  refine ⟨(t : Int) * ((27720 / b : Nat) : Int), Int.mul_nonneg (Int.natCast_nonneg _) (Int.natCast_nonneg _), ?_⟩
  have hb : ((b : Nat) : Rat) ≠ 0 := by
    have : ((b : Nat) : Rat) = ((b : Int) : Rat) := rfl
    rw [this]
    intro z
    have := Rat.intCast_inj.mp (z.trans Rat.intCast_zero.symm)
    omega
  rw [e, Rat.mkRat_eq_div]
  have h2 : (27720 : Rat) = ((b : Nat) : Rat) * ((27720 / b : Nat) : Rat) := by
    have := div_12 b (by omega) h0
    rw [← Rat.natCast_mul, ← this]
    rfl
  rw [h2, ← Rat.mul_assoc, Rat.div_mul_cancel hb, Rat.intCast_mul]
  rfl
theorem Made.nn {a : Ask} (h : Made a) : 0 ≤ a.size := by
  obtain ⟨n, n0, e⟩ := h.part
  have h1 : (0 : Rat) ≤ (n : Rat) := by
    have := Rat.intCast_le_intCast.mpr n0
    simpa using this
  rw [← e] at h1
  grind
theorem Made.ok {a : Ask} (h : Made a) : AOk a := by
  refine ⟨h.o1, h.o2, h.ne, h.nn, ?_⟩
  obtain ⟨n, n0, e⟩ := h.part
  refine ⟨n * 12, ?_⟩
  rw [Rat.intCast_mul, ← e]
  have : ((12 : Int) : Rat) = 12 := rfl
  rw [this]
  grind
theorem MadeOk.rok {A : List Ask} (h : MadeOk A) : Rok A := ⟨by have := h.len; omega, fun a ha => (h.ask a ha).ok⟩
/-- a share of a size -/
def shr (a : Ask) (n : Int) : Rat := mkRat (a.size.num * n) (a.size.den * 12)
theorem shr_eq (a : Ask) (n : Int) : shr a n = a.size * mkRat n 12 := by
  have h := Rat.mkRat_mul_mkRat a.size.num n a.size.den 12
  rw [Rat.mkRat_self] at h
  unfold shr
  rw [h]
theorem shr_ok {a : Ask} (h : Made a) {n : Int} (n0 : 0 ≤ n) (n1 : n ≤ 12) : fin (shr a n) ∧ 0 ≤ shr a n ∧ shr a n ≤ a.size := by
  obtain ⟨m, m0, e⟩ := h.part
  have hn := h.nn
  have e12 : mkRat n 12 = (n : Rat) / 12 := Rat.mkRat_eq_div ..
  have a0 : (0 : Rat) ≤ (n : Rat) := by
    have := Rat.intCast_le_intCast.mpr n0
    simpa using this
  have a1 : (n : Rat) ≤ 12 := by
    have := Rat.intCast_le_intCast.mpr n1
    simpa using this
  rw [shr_eq, e12]
  have b0 : (0 : Rat) ≤ (n : Rat) / 12 := by grind
  have b1 : (n : Rat) / 12 ≤ 1 := by grind
  refine ⟨⟨m * n, ?_⟩, Rat.mul_nonneg hn b0, ?_⟩
  · rw [Rat.intCast_mul, ← e]
    grind
  · have := Rat.mul_le_mul_of_nonneg_left b1 hn
    rw [Rat.mul_one] at this
    exact this
end Rg

set_option Elab.async false
set_option linter.all false
set_option maxRecDepth 100000
set_option maxHeartbeats 4000000
/-! A sending is drawn; a ring is drawn. -/
namespace Rg
open PySem PySem.Spec PyProof.Rows L2
def mn (a : Addr) (H : Hp) : Hp := fun c => if c = a then none else H c
theorem mn_same {a : Addr} {H : Hp} : Same (mn a H) H := fun c o e => by
  unfold mn at e
  split at e
  · cases e
  · exact e
theorem mn_self {a : Addr} {H : Hp} : mn a H a = none := by unfold mn; rw [if_pos rfl]
theorem same_mn {a : Addr} {H H' : Hp} (e : Same H H') (h : H a = none) : Same H (mn a H') := fun c o z => by
  unfold mn
  rw [if_neg (ne_of_none z h)]
  exact e c o z
/-- a sending for the ring -/
def sp__law_parts (K : PySem.W.Frag) : Sp := fun vs H Q _ => ∃ a x y b v A, vs = [.ref a, v] ∧ H a = some (.lst (stV x y b)) ∧ Dp K (mn a H) v (dG A) ∧ MadeOk A ∧ ∀ v' H' S, Same (mn a H) H' → Dp K H' v' (dS S) → Sv A S → Q v' H'
theorem ok_own {K : PySem.W.Frag} {H : Hp} {a : Addr} {x y : Int} {b : Bool} {v : V} {d : PyData} {m : Nat} (h : H a = some (.lst (stV x y b))) (hv : Dp K (mn a H) v d) :
    Ok K (mn a H) H (some (.ref a) :: some v :: List.replicate m none) (.own (stD x y b) :: .val d :: List.replicate m .no) := by
  refine ⟨mn a H, Same.refl _, mn_same, fun i d' e => ?_, fun i es e => ?_, fun i j es es2 l e1 e2 _ _ => ?_, by simp⟩
  · match i, e with
    | 0, e => cases e
    | 1, e => cases e; exact ⟨v, rfl, hv⟩
    | i + 2, e =>
      have e : (List.replicate m Sl.no)[i]? = some (.val d') := e
      rw [List.getElem?_replicate] at e
      split at e <;> cases e
  · match i, e with
    | 0, e => cases e; exact ⟨a, _, rfl, h, mn_self, dp_st⟩
    | 1, e => cases e
    | i + 2, e =>
      have e : (List.replicate m Sl.no)[i]? = some (.own es) := e
      rw [List.getElem?_replicate] at e
      split at e <;> cases e
  · have z : ∀ (i : Nat) es, (Sl.own (stD x y b) :: .val d :: List.replicate m .no)[i]? = some (Sl.own es) → i = 0 := fun i es e => by
      match i, e with
      | 0, e => rfl
      | 1, e => cases e
      | i + 2, e =>
        have e : (List.replicate m Sl.no)[i]? = some (.own es) := e
        rw [List.getElem?_replicate] at e
        split at e <;> cases e
    rw [z i es e1, z j es2 e2]
theorem partAt_app {S : List Rat} {q : Rat} {k : Nat} : partAt (S ++ [q]) k = if k < S.length then partAt S k else if k = S.length then q else 0 := by
  unfold partAt
  rw [List.getD_eq_getElem?_getD, List.getD_eq_getElem?_getD]
  by_cases h : k < S.length
  · rw [if_pos h, List.getElem?_append_left h]
  · rw [if_neg h, List.getElem?_append_right (by omega)]
    by_cases h2 : k = S.length
    · subst h2
      rw [if_pos rfl, Nat.sub_self]
      rfl
    · rw [if_neg h2, List.getElem?_eq_none (by simp; omega)]
      rfl
theorem cr_6 (k : Nat) (h : k < 6) : ∃ c, atI (Str.ofString "abcdef").cps.toList (k : Int) = some c ∧ 97 ≤ c ∧ c < 123 := by
  have : k = 0 ∨ k = 1 ∨ k = 2 ∨ k = 3 ∨ k = 4 ∨ k = 5 := by omega
  rcases this with rfl | rfl | rfl | rfl | rfl | rfl
  · exact ⟨97, by decide +kernel, by decide, by decide⟩
  · exact ⟨98, by decide +kernel, by decide, by decide⟩
  · exact ⟨99, by decide +kernel, by decide, by decide⟩
  · exact ⟨100, by decide +kernel, by decide, by decide⟩
  · exact ⟨101, by decide +kernel, by decide, by decide⟩
  · exact ⟨102, by decide +kernel, by decide, by decide⟩
theorem cr_4 (k : Nat) (h : k < 4) : ∃ c, atI (Str.ofString "abcd").cps.toList (k : Int) = some c ∧ 97 ≤ c ∧ c < 123 := by
  have : k = 0 ∨ k = 1 ∨ k = 2 ∨ k = 3 := by omega
  rcases this with rfl | rfl | rfl | rfl
  · exact ⟨97, by decide +kernel, by decide, by decide⟩
  · exact ⟨98, by decide +kernel, by decide, by decide⟩
  · exact ⟨99, by decide +kernel, by decide, by decide⟩
  · exact ⟨100, by decide +kernel, by decide, by decide⟩
theorem nm_one {c : Nat} (h : 97 ≤ c) (h2 : c < 123) : NmOk #[c] := by
  refine ⟨by simp, fun x hx => ?_⟩
  simp at hx
  omega
theorem more_cps : (Str.ofString "more").cps = #[109, 111, 114, 101] := by decide +kernel
theorem nm_more {c : Nat} (h : 97 ≤ c) (h2 : c < 123) : NmOk (Str.ofString "more" ++ (⟨#[c]⟩ : Str)).cps := by
  have e : (Str.ofString "more" ++ (⟨#[c]⟩ : Str)).cps = (Str.ofString "more").cps ++ #[c] := rfl
  rw [e, more_cps]
  refine ⟨by simp, fun x hx => ?_⟩
  simp at hx
  omega
theorem run_enter {K : PySem.W.Frag} {t : TS} {s : List Sl} {E : De} {H0 H : Hp} {σ : L2.St} {D : Ends} (h : Run K t s E) (ok : Ok K H0 H σ s) (f : Fol K H0 E D) : t D σ H := h H0 H σ D ok f
section
variable {P : Program} {w : World} {K : PySem.W.Frag} {mg : Str → Option Value} {base : Heap} {aN aB : Addr}
abbrev s__law_parts : Stmt := topS 64
theorem sc__law_parts : FnScope ["_law_state", "_law_ring", "_law_parts_here", "_law_name", "_law_one", "_law_other", "_law_size", "_law_way", "_law_share"] ["_law_state", "_law_ring"] (defScope s__law_parts) := ⟨rfl, rfl, rfl, by decide +kernel, rfl, by decide +kernel, by decide +kernel⟩
theorem ok__law_parts (T : Txt K mg aN aB) {f : Addr} {fd : FuncData} (F : Df K mg "_law_parts" s__law_parts ["_law_state", "_law_ring"] f fd) (c__law_take : Cal P w K mg base 1 "_law_take" ["_law_state", "_law_many"] (sp__law_take K)) (c__law_low : Cal P w K mg base 1 "_law_low" ["_law_top", "_law_bottom"] (sp__law_low K)) : Cal P w K mg base 2 "_law_parts" ["_law_state", "_law_ring"] (sp__law_parts K) := by
  refine ⟨f, fd, F.fn.ok sc__law_parts (fun vs H Q E h => ?_) (fun cdv A outer s H vs Q E hr h => ?_), F.gl, F.fn.kp, F.bi⟩
  · obtain ⟨a, x, y, b, v, A, rfl, _⟩ := h
    rfl
  · obtain ⟨a, x, y, b, v, A, rfl, hH, hv, hA, q⟩ := h
    refine ⟨_, (pss_cons (ps_set (i := 2) sc__law_parts.nd rfl (Or.inl rfl) (pe_lst pa_nil))
    (pss_cons (ps_for PassesOwn.never rfl (pi_list (pe_ix ix_seq (pv 1) pe_int (fun _ _ => rfl))) (pg_tup rfl (pgs_cons (pg_name (i := 3) sc__law_parts.nd rfl (Or.inl rfl)) (pgs_cons (pg_name (i := 4) sc__law_parts.nd rfl (Or.inl rfl)) (pgs_cons (pg_name (i := 5) sc__law_parts.nd rfl (Or.inl rfl)) (pgs_cons (pg_name (i := 6) sc__law_parts.nd rfl (Or.inl rfl)) pgs_nil))))) (pss_cons (ps_set (i := 7) sc__law_parts.nd rfl (Or.inl rfl) (pe_cal c__law_take (hr.mono (by decide)) (by rfl) (pa_cons (pv 0) (pa_cons pe_int pa_nil))))
    (pss_cons (ps_set (i := 8) sc__law_parts.nd rfl (Or.inl rfl) (pe_cal c__law_take (hr.mono (by decide)) (by rfl) (pa_cons (pv 0) (pa_cons pe_int pa_nil))))
    (pss_one (ps_expr (pe_bm PySem.F.plainAttrs_list PySem.F.slot_list_append PySem.F.type_list_append mt_append (pv 2) (pa_cons (pe_ix ix_seq (pe_lst (pa_cons (pe_tup (pa_cons pe_int (pa_cons pe_int pa_nil))) (pa_cons (pv 6) (pa_cons (pe_cal c__law_low (hr.mono (by decide)) (by rfl) (pa_cons (pe_op op_mul (pe_ix ix_seq (pv 6) pe_int (fun _ _ => rfl)) (pv 8)) (pa_cons (pe_op op_mul (pe_ix ix_seq (pv 6) pe_int (fun _ _ => rfl)) pe_int) pa_nil))) pa_nil)))) (pe_callB (call_min2 rfl) (by rfl) T.b_min (by decide +kernel) (pa_cons (pv 7) (pa_cons pe_int pa_nil))) (fun _ _ => rfl)) pa_nil)))))))
    (pss_one (ps_ret (pv 2))))), ?_⟩
    have hR := hA.rok
    refine run_enter (s := [.own (stD x y b), .val (dG A), .no, .no, .no, .no, .no, .no, .no]) (E := { nx := fun _ => False, rt := fun d' _ => ∃ S, d' = dS S ∧ Sv A S }) ?_ (ok_own (m := 7) hH hv) ⟨fun σ H' g k e => e.elim, fun v H' d' fr' e1 e2 e3 e4 => by
        obtain ⟨S, rfl, hS⟩ := e4
        exact q v H' S e1 e2 hS, fun _ _ _ _ z => z.elim, fun _ _ _ _ z => z.elim⟩
    clear q hv hH
    refine run_seq (run_asgN (evn_lst ea_nil) rfl ?_)
    refine run_seq (run_for (src_list (evg_asks (evg_var rfl))) (fun i s => ∃ (x : Int) (y : Int) (b : Bool) (S : List Rat) (x3 : Sl) (x4 : Sl) (x5 : Sl) (x6 : Sl) (x7 : Sl) (x8 : Sl), s = [.own (stD x y b), .val (dG A), .own (S.map dR), x3, x4, x5, x6, x7, x8] ∧ S.length = i ∧ ∀ k, k < i → fin (partAt S k) ∧ 0 ≤ partAt S k ∧ partAt S k ≤ (askAt A k).size)
      ⟨x, y, b, [], _, _, _, _, _, _, rfl, rfl, fun k hk => by omega⟩ (fun i d s' hd hI => ?_) fun s' hI => ?_)
    · obtain ⟨x, y, b, S, x3, x4, x5, x6, x7, x8, rfl, hS, hall⟩ := hI
      obtain ⟨ask, hk, rfl⟩ := map_get hd
      have hi : i < A.length := (List.getElem?_eq_some_iff.mp hk).1
      have eA : ask = askAt A i := by
        have := askAt_get hi
        rw [hk] at this
        exact Option.some.inj this
      have hm := hA.ask ask (List.mem_of_getElem? hk)
      refine ⟨_, _, tg_tup (is := [3, 4, 5, 6]) rfl rfl, ?_⟩
      refine run_seq (run_asgX (evx_take (i := 0) rfl ev_int (by decide) (by decide)) fun g2 d hp => ?_)
      obtain ⟨n1, x1, y1, b1, rfl, p0, p1, rfl⟩ := hp
      refine ⟨rfl, run_seq (run_asgX (evx_take (i := 0) rfl ev_int (by decide) (by decide)) fun g2 d hp => ?_)⟩
      obtain ⟨n2, x2, y2, b2, rfl, p2, p3, rfl⟩ := hp
      refine ⟨rfl, ?_⟩
      have hsh := shr_ok hm p2 (by omega)
      have hz := hm.ok
      have hpick : ∃ q, ixD (.list [dR 0, dR ask.size, dR (shr ask n2)]) (.int (if 2 < n1 then 2 else n1)) = some (dR q) ∧ fin q ∧ 0 ≤ q ∧ q ≤ ask.size := by
        have : n1 = 0 ∨ n1 = 1 ∨ n1 = 2 ∨ n1 = 3 := by omega
        rcases this with rfl | rfl | rfl | rfl
        · exact ⟨0, rfl, fin_zero, by grind, hm.nn⟩
        · exact ⟨ask.size, rfl, hz.fn, hm.nn, by grind⟩
        · exact ⟨_, rfl, hsh⟩
        · exact ⟨_, rfl, hsh⟩
      obtain ⟨q, hq, q1, q2, q3⟩ := hpick
      have hden : ask.size.den ≤ 2 ^ 30 := lo_sm (fin_lo hz.fn)
      refine run_app (d := dR q) (ev_ix (evn_lst (ds := [dR 0, dR ask.size, dR (shr ask n2)]) (ea_cons ev_zero (ea_cons (ev_var rfl) (ea_cons (ev_call (ea_cons (ev_op (ev_num (ev_var rfl)) (ev_var rfl) (rv_int (.inr ⟨by omega, by omega⟩))) (ea_cons (ev_op (ev_den (ev_var rfl)) ev_int (rv_int (.inr ⟨by decide, by decide⟩))) ea_nil)) ⟨ask.size.num * n2, ask.size.den * 12, by have := ask.size.den_pos; omega, Nat.lt_of_le_of_lt (Nat.mul_le_mul_right 12 hden) (by decide), by rw [Int.natCast_mul]; rfl, rfl⟩) ea_nil)))).ev (ev_cb (ea_cons (ev_var rfl) (ea_cons ev_int ea_nil)) rc_int2) hq) rfl rfl (by rw [List.length_map]; have := hA.len; omega) ?_
      refine ⟨x2, y2, b2, S ++ [q], _, _, _, _, _, _, by rw [List.map_append]; rfl, by rw [List.length_append, hS]; rfl, fun k hk => ?_⟩
      rw [partAt_app, hS]
      by_cases h : k < i
      · rw [if_pos h]
        exact hall k h
      · have : k = i := by omega
        subst this
        rw [if_neg h, if_pos rfl, ← eA]
        exact ⟨q1, q2, q3⟩
    · obtain ⟨x, y, b, S, x3, x4, x5, x6, x7, x8, rfl, hS, hall⟩ := hI
      rw [List.length_map] at hS hall
      exact run_retO rfl ⟨S, rfl, ⟨⟨hS, fun k hk => (hall k hk).1⟩, fun k hk => (hall k hk).2.1, fun k hk => (hall k hk).2.2⟩⟩
abbrev s__law_made : Stmt := topS 71
theorem sc__law_made : FnScope ["_law_script", "_law_state", "_law_source", "_law_kind", "_law_asks", "_law_left", "_law_k", "_law_place", "_law_ends", "_law_one", "_law_other"] ["_law_script"] (defScope s__law_made) := ⟨rfl, rfl, rfl, by decide +kernel, rfl, by decide +kernel, by decide +kernel⟩
def R__law_made (ds : List PyData) : Prop := ∃ l : List Int, ds = [.list (l.map .int)]
def P__law_made (d : PyData) : Prop := ∃ A, d = dG A ∧ MadeOk A
abbrev sp__law_made (K : PySem.W.Frag) : Sp := spE K R__law_made P__law_made
theorem map_erase {α β : Type} (f : α → β) : ∀ (l : List α) (k : Nat), (l.map f).eraseIdx k = (l.eraseIdx k).map f
  | [], _ => rfl
  | x :: l, 0 => rfl
  | x :: l, k + 1 => by
    show f x :: (l.map f).eraseIdx k = f x :: (l.eraseIdx k).map f
    rw [map_erase f l k]
theorem mem_erase {α : Type} {x : α} : ∀ {l : List α} {k : Nat}, x ∈ l.eraseIdx k → x ∈ l
  | [], _, h => h
  | y :: l, 0, h => List.mem_cons_of_mem _ h
  | y :: l, k + 1, h => by
    rcases List.mem_cons.mp (show x ∈ y :: l.eraseIdx k from h) with e | h
    · rw [e]; exact List.mem_cons_self
    · exact List.mem_cons_of_mem _ (mem_erase h)
theorem ok__law_made (T : Txt K mg aN aB) {f : Addr} {fd : FuncData} (F : Df K mg "_law_made" s__law_made ["_law_script"] f fd) (c__law_begun : Cal P w K mg base 1 "_law_begun" ["_law_script", "_law_k"] (sp__law_begun K)) (c__law_take : Cal P w K mg base 1 "_law_take" ["_law_state", "_law_many"] (sp__law_take K)) (c__law_amount : Cal P w K mg base 2 "_law_amount" ["_law_state", "_law_least", "_law_kind"] (sp__law_amount K)) : Cal P w K mg base 3 "_law_made" ["_law_script"] (sp__law_made K) := by
  refine F.calE (k := 2) sc__law_made (fun ds h => by obtain ⟨l, rfl⟩ := h; rfl) (fun cdv A outer s H E hr => ⟨_, (pss_cons (ps_set (i := 1) sc__law_made.nd rfl (Or.inl rfl) (pe_cal c__law_begun (hr.mono (by decide)) (by rfl) (pa_cons (pv 0) (pa_cons pe_int pa_nil))))
    (pss_cons (ps_set (i := 2) sc__law_made.nd rfl (Or.inl rfl) (pe_cal c__law_begun (hr.mono (by decide)) (by rfl) (pa_cons (pv 0) (pa_cons pe_int pa_nil))))
    (pss_cons (ps_set (i := 3) sc__law_made.nd rfl (Or.inl rfl) (pe_cal c__law_take (hr.mono (by decide)) (by rfl) (pa_cons (pv 1) (pa_cons pe_int pa_nil))))
    (pss_cons (ps_set (i := 4) sc__law_made.nd rfl (Or.inl rfl) (pe_lst pa_nil))
    (pss_cons (ps_set (i := 5) sc__law_made.nd rfl (Or.inl rfl) (pe_listRg rfl (by rfl) T.b_list (prg_1 (by rfl) T.b_range pe_int)))
    (pss_cons (ps_for PassesOwn.never rfl (pi_range1 (by rfl) T.b_range (pa_cons (pe_op op_add pe_int (pe_cal c__law_take (hr.mono (by decide)) (by rfl) (pa_cons (pv 1) (pa_cons pe_int pa_nil)))) pa_nil)) (pg_name (i := 6) sc__law_made.nd rfl (Or.inl rfl)) (pss_cons (ps_set (i := 7) sc__law_made.nd rfl (Or.inl rfl) (pe_bm PySem.F.plainAttrs_list PySem.F.slot_list_pop PySem.F.type_list_pop mt_popAt (pv 5) (pa_cons (pe_cal c__law_take (hr.mono (by decide)) (by rfl) (pa_cons (pv 1) (pa_cons (pe_callB call_len_seq (by rfl) T.b_len (by decide +kernel) (pa_cons (pv 5) pa_nil)) pa_nil))) pa_nil)))
    (pss_cons (ps_set (i := 8) sc__law_made.nd rfl (Or.inl rfl) (pe_lst (pa_cons (pv 7) (pa_cons (pe_op op_add (pv 7) pe_int) pa_nil))))
    (pss_cons (ps_if (pt_cmpR (op_eqD hr.units) (pe_cal c__law_take (hr.mono (by decide)) (by rfl) (pa_cons (pv 1) (pa_cons pe_int pa_nil))) pe_int (nomark _)) (pss_one (ps_expr (pe_bm0 PySem.F.plainAttrs_list PySem.F.slot_list_reverse PySem.F.type_list_reverse mt_reverse (pv 8)))) pss_nil)
    (pss_one (ps_expr (pe_bm PySem.F.plainAttrs_list PySem.F.slot_list_append PySem.F.type_list_append mt_append (pv 4) (pa_cons (pe_tup (pa_cons (pe_ix ix_str pe_str (pv 6) (fun _ _ => rfl)) (pa_cons (pe_ix ix_seq (pv 8) pe_int (fun _ _ => rfl)) (pa_cons (pe_ix ix_seq (pv 8) pe_int (fun _ _ => rfl)) (pa_cons (pe_cal c__law_amount (hr.mono (by decide)) (by rfl) (pa_cons (pv 2) (pa_cons pe_int (pa_cons (pv 3) pa_nil)))) pa_nil))))) pa_nil))))))))
    (pss_cons (ps_set (i := 1) sc__law_made.nd rfl (Or.inl rfl) (pe_cal c__law_begun (hr.mono (by decide)) (by rfl) (pa_cons (pv 0) (pa_cons pe_int pa_nil))))
    (pss_cons (ps_for PassesOwn.never rfl (pi_range1 (by rfl) T.b_range (pa_cons (pe_cal c__law_take (hr.mono (by decide)) (by rfl) (pa_cons (pv 1) (pa_cons pe_int pa_nil))) pa_nil)) (pg_name (i := 6) sc__law_made.nd rfl (Or.inl rfl)) (pss_cons (ps_set (i := 9) sc__law_made.nd rfl (Or.inl rfl) (pe_cal c__law_take (hr.mono (by decide)) (by rfl) (pa_cons (pv 1) (pa_cons pe_int pa_nil))))
    (pss_cons (ps_set (i := 10) sc__law_made.nd rfl (Or.inl rfl) (pe_op op_mod (pe_op op_add (pe_op op_add (pv 9) pe_int) (pe_cal c__law_take (hr.mono (by decide)) (by rfl) (pa_cons (pv 1) (pa_cons pe_int pa_nil)))) pe_int))
    (pss_one (ps_expr (pe_bm PySem.F.plainAttrs_list PySem.F.slot_list_append PySem.F.type_list_append mt_append (pv 4) (pa_cons (pe_tup (pa_cons (pe_op op_add_str pe_str (pe_ix ix_str pe_str (pv 6) (fun _ _ => rfl))) (pa_cons (pv 9) (pa_cons (pv 10) (pa_cons (pe_cal c__law_amount (hr.mono (by decide)) (by rfl) (pa_cons (pv 1) (pa_cons pe_int (pa_cons (pv 3) pa_nil)))) pa_nil))))) pa_nil)))))))
    (pss_one (ps_ret (pe_tup (pa_cons (pe_op op_rep (pe_lst (pa_cons (pe_tup (pa_cons pe_int (pa_cons pe_int pa_nil))) pa_nil)) pe_int) (pa_cons (pv 4) pa_nil))))))))))))), fun ds h => ?_⟩)
  obtain ⟨l, rfl⟩ := h
  have hst : ∀ x y b, lfA (stD x y b) = true := fun _ _ _ => rfl
  refine run_seq (run_asgN (evf_call (ea_cons (ev_var rfl) (ea_cons ev_int ea_nil)) ⟨l, 0, by decide, rfl, rfl⟩).evn (hst _ _ _) ?_)
  refine run_seq (run_asgN (evf_call (ea_cons (ev_var rfl) (ea_cons ev_int ea_nil)) ⟨l, 1, by decide, rfl, rfl⟩).evn (hst _ _ _) ?_)
  refine run_seq (run_asgX (evx_take (i := 1) rfl ev_int (by decide) (by decide)) fun g2 d hp => ?_)
  obtain ⟨kind, x1, y1, b1, rfl, k0, k1, rfl⟩ := hp
  refine ⟨rfl, ?_⟩
  refine run_seq (run_asgN (ds := ([] : List Ask).map dA) (evn_lst ea_nil) rfl ?_)
  refine run_seq (run_asgN (evn_rg (n := 6) ev_int (by decide)) (lfA_dN _) ?_)
  refine run_seqP (fun s => ∃ (x : Int) (y : Int) (b : Bool) (x2 : Int) (y2 : Int) (b2 : Bool) (A : List Ask) (x5 : Sl) (x6 : Sl) (x7 : Sl) (x8 : Sl) (x9 : Sl) (x10 : Sl), s = [.val (.list (l.map .int)), .own (stD x y b), .own (stD x2 y2 b2), .val (.int kind), .own (A.map dA), x5, x6, x7, x8, x9, x10] ∧ A.length ≤ 6 ∧ ∀ a ∈ A, Made a) ?_ ?_
  · refine run_forX (evx_opI ev_int (evx_take (i := 1) rfl ev_int (by decide) (by decide)) fun g2 d hp => by obtain ⟨n, x, y, b, e, _⟩ := hp; exact ⟨n, e⟩) fun g2 d hp => ?_
    obtain ⟨n, ⟨n', x, y, b, e, n0, n1, rfl⟩, rfl⟩ := hp
    cases e
    refine ⟨_, rfl, ?_⟩
    refine run_for (src_rng1 (ea_cons ev_int ea_nil) (by omega) (by omega)) (fun i s => ∃ (x : Int) (y : Int) (b : Bool) (x2 : Int) (y2 : Int) (b2 : Bool) (A : List Ask) (L : List Nat) (x6 : Sl) (x7 : Sl) (x8 : Sl), s = [.val (.list (l.map .int)), .own (stD x y b), .own (stD x2 y2 b2), .val (.int kind), .own (A.map dA), .own (L.map dN), x6, x7, x8, .no, .no] ∧ A.length = i ∧ L.length = 6 - i ∧ (∀ p ∈ L, p < 6) ∧ ∀ a ∈ A, Made a)
      ⟨_, _, _, _, _, _, [], List.range 6, _, _, _, rfl, rfl, rfl, fun p hp => List.mem_range.mp hp, fun a ha => nomatch ha⟩ (fun i d s' hd hI => ?_) fun s' hI => ?_
    · obtain ⟨x, y, b, x2, y2, b2, A, L, x6, x7, x8, rfl, hA, hL, hp, hM⟩ := hI
      have hi : i < 6 := by
        have := (List.getElem?_eq_some_iff.mp hd).1
        rw [rngD_len] at this
        omega
      rw [rngD_get (by have := (List.getElem?_eq_some_iff.mp hd).1; rw [rngD_len] at this; exact this), Int.zero_add] at hd
      cases hd
      refine ⟨_, _, tg_name, ?_⟩
      refine run_seq (run_popX (ds := L.map dN) rfl (by rw [List.length_map]; omega) (evx_take (i := 1) (m := L.length) rfl (ev_is (ev_cb (ea_cons (ev_var (d := .list (L.map dN)) rfl) ea_nil) rc_len) (by rw [List.length_map])) (by omega) (by omega)) fun g2 d hpp => ?_)
      obtain ⟨n3, x, y, b, rfl, p0, p1, rfl⟩ := hpp
      have hk : n3.toNat < L.length := by omega
      refine ⟨rfl, n3.toNat, dN L[n3.toNat], by rw [Int.toNat_of_nonneg p0], by rw [List.getElem?_map, List.getElem?_eq_getElem hk]; rfl, ?_⟩
      have hp6 := hp _ (List.getElem_mem hk)
      rw [map_erase]
      have hL2 : (L.eraseIdx n3.toNat).length = 6 - (i + 1) := by rw [List.length_eraseIdx_of_lt hk]; omega
      have hpL : ∀ p ∈ L.eraseIdx n3.toNat, p < 6 := fun p h => hp p (mem_erase h)
      generalize L.eraseIdx n3.toNat = L2 at hL2 hpL ⊢
      generalize L[n3.toNat] = p at hp6 ⊢
      refine run_seq (run_asgN (ds := [.int p, .int ((p : Int) + 6)]) (evn_lst (ea_cons (ev_var (d := .int p) rfl) (ea_cons (ev_op (ev_var (d := .int p) rfl) ev_int rv_int0) ea_nil))) rfl ?_)
      refine run_seqP (fun s => ∃ (x y : Int) (b : Bool) (u v : Nat), s = [.val (.list (l.map .int)), .own (stD x y b), .own (stD x2 y2 b2), .val (.int kind), .own (A.map dA), .own (L2.map dN), .val (.int i), .val (dN p), .own [.int u, .int v], .no, .no] ∧ u < 12 ∧ v < 12 ∧ u ≠ v) (run_ifX (evx_take (i := 1) rfl ev_int (by decide) (by decide)) fun g2 d hpp => ?_) fun s' hs => ?_
      · obtain ⟨n4, x, y, b, rfl, _, _, rfl⟩ := hpp
        refine ⟨n4, rfl, run_rev (ds := [.int p, .int ((p : Int) + 6)]) rfl ?_, run_next ?_⟩
        · exact ⟨x, y, b, p + 6, p, rfl, by omega, by omega, by omega⟩
        · exact ⟨x, y, b, p, p + 6, rfl, by omega, by omega, by omega⟩
      · obtain ⟨x, y, b, u, v, rfl, u0, v0, uv⟩ := hs
        obtain ⟨c, hc, c0, c1⟩ := cr_6 i hi
        refine run_appX (ds := A.map dA) rfl (by rw [List.length_map]; omega) (evx_tup4 (z := ⟨#[c]⟩) (i := u) (j := v) (ev_op (ev_str (i := "abcdef")) (ev_var (d := .int i) rfl) (rv_ixS (by decide +kernel) hc)) (ev_ix (ev_var (d := .list [.int u, .int v]) rfl) ev_int rfl) (ev_ix (ev_var (d := .list [.int u, .int v]) rfl) ev_int rfl) (evx_amount (i := 2) (least := 1) rfl ev_int (ev_var rfl) k0 k1)) fun g2 d hpp => ?_
        obtain ⟨d4, ⟨q, x3, y3, b3, rfl, hq, rfl⟩, rfl⟩ := hpp
        refine ⟨rfl, rfl, ?_⟩
        refine ⟨x, y, b, x3, y3, b3, A ++ [⟨#[c], u, v, q⟩], L2, _, _, _, by rw [List.map_append]; rfl, by rw [List.length_append, hA]; rfl, hL2, hpL, fun a ha => ?_⟩
        rcases List.mem_append.mp ha with ha | ha
        · exact hM a ha
        · rw [List.mem_singleton] at ha
          subst ha
          exact ⟨u0, v0, uv, nm_one c0 c1, hq⟩
    · obtain ⟨x, y, b, x2, y2, b2, A, L, x6, x7, x8, rfl, hA, hL, hp, hM⟩ := hI
      rw [rngD_len] at hA
      exact ⟨x, y, b, x2, y2, b2, A, _, _, _, _, _, _, rfl, by omega, hM⟩
  · rintro s' ⟨x, y, b, x2, y2, b2, A0, x5, x6, x7, x8, x9, x10, rfl, hA0, hM0⟩
    refine run_seq (run_asgN (evf_call (ea_cons (ev_var rfl) (ea_cons ev_int ea_nil)) ⟨l, 2, by decide, rfl, rfl⟩).evn (hst _ _ _) ?_)
    refine run_seqP (fun s => ∃ (x : Int) (y : Int) (b : Bool) (A : List Ask) (x6 : Sl) (x9 : Sl) (x10 : Sl), s = [.val (.list (l.map .int)), .own (stD x y b), .own (stD x2 y2 b2), .val (.int kind), .own (A.map dA), x5, x6, x7, x8, x9, x10] ∧ A.length ≤ 10 ∧ ∀ a ∈ A, Made a) ?_ ?_
    · refine run_forX (evx_take (i := 1) rfl ev_int (by decide) (by decide)) fun g2 d hp => ?_
      obtain ⟨n, x, y, b, rfl, n0, n1, rfl⟩ := hp
      refine ⟨_, rfl, ?_⟩
      refine run_for (src_rng1 (ea_cons ev_int ea_nil) (by omega) (by omega)) (fun i s => ∃ (x : Int) (y : Int) (b : Bool) (A : List Ask) (x6 : Sl) (x9 : Sl) (x10 : Sl), s = [.val (.list (l.map .int)), .own (stD x y b), .own (stD x2 y2 b2), .val (.int kind), .own (A.map dA), x5, x6, x7, x8, x9, x10] ∧ A.length ≤ 6 + i ∧ ∀ a ∈ A, Made a)
        ⟨_, _, _, A0, _, _, _, rfl, by omega, hM0⟩ (fun i d s' hd hI => ?_) fun s' hI => ?_
      · obtain ⟨x, y, b, A, x6, x9, x10, rfl, hA, hM⟩ := hI
        have hi : i < 4 := by
          have := (List.getElem?_eq_some_iff.mp hd).1
          rw [rngD_len] at this
          omega
        rw [rngD_get (by have := (List.getElem?_eq_some_iff.mp hd).1; rw [rngD_len] at this; exact this), Int.zero_add] at hd
        cases hd
        refine ⟨_, _, tg_name, ?_⟩
        refine run_seq (run_asgX (evx_take (i := 1) rfl ev_int (by decide) (by decide)) fun g2 d hp => ?_)
        obtain ⟨n3, x, y, b, rfl, p0, p1, rfl⟩ := hp
        refine ⟨rfl, ?_⟩
        refine run_seq (run_asgX (evx_opR (j := 12) (evx_opI (i := n3 + 1) (ev_op (ev_var (d := .int n3) rfl) ev_int rv_int0) (evx_take (i := 1) rfl ev_int (by decide) (by decide)) fun g2 d hp => by obtain ⟨n, x, y, b, e, _⟩ := hp; exact ⟨n, e⟩) fun g2 d hp => ?_) fun g2 d hp => ?_)
        · obtain ⟨j, hp, rfl⟩ := hp
          exact ⟨_, rfl, ev_int, by decide⟩
        · obtain ⟨i', ⟨j, ⟨n4, x, y, b, e, p2, p3, rfl⟩, e2⟩, rfl⟩ := hp
          cases e
          cases e2
          refine ⟨rfl, ?_⟩
          obtain ⟨u, rfl⟩ := Int.eq_ofNat_of_zero_le p0
          obtain ⟨v, hv⟩ := Int.eq_ofNat_of_zero_le (show 0 ≤ ((u : Int) + 1 + j) % 12 by omega)
          have hv12 : v < 12 := by omega
          have huv : u ≠ v := by omega
          obtain ⟨c, hc, c0, c1⟩ := cr_4 i hi
          refine run_appX (ds := A.map dA) rfl (by rw [List.length_map]; omega) (evx_tup4 (z := Str.ofString "more" ++ (⟨#[c]⟩ : Str)) (i := u) (j := v) (ev_op (ev_str (i := "more")) (ev_op (ev_str (i := "abcd")) (ev_var (d := .int i) rfl) (rv_ixS (by decide +kernel) hc)) (rv_addS (show (Str.ofString "more").length + 1 ≤ 1000 by decide +kernel))) (ev_var (d := .int u) rfl) (ev_var (d := .int v) (congrArg (fun z => some (PyData.int z)) hv)) (evx_amount (i := 1) (least := 0) rfl ev_int (ev_var rfl) k0 k1)) fun g2 d hpp => ?_
          obtain ⟨d4, ⟨q, x3, y3, b3, rfl, hq, rfl⟩, rfl⟩ := hpp
          refine ⟨rfl, rfl, ?_⟩
          refine ⟨x3, y3, b3, A ++ [⟨(Str.ofString "more" ++ (⟨#[c]⟩ : Str)).cps, u, v, q⟩], _, _, _, by rw [List.map_append]; rfl, by rw [List.length_append]; show A.length + 1 ≤ _; omega, fun a ha => ?_⟩
          rcases List.mem_append.mp ha with ha | ha
          · exact hM a ha
          · rw [List.mem_singleton] at ha
            subst ha
            obtain ⟨t, b, t0, t1, t2, t3⟩ := hq
            exact ⟨show u < 12 by omega, hv12, huv, nm_more c0 c1, t, b, t0, t1, by omega, t3⟩
      · obtain ⟨x, y, b, A, x6, x9, x10, rfl, hA, hM⟩ := hI
        rw [rngD_len] at hA
        exact ⟨x, y, b, A, _, _, _, rfl, by omega, hM⟩
    · rintro s' ⟨x, y, b, A, x6, x9, x10, rfl, hA, hM⟩
      refine run_ret (d := dG A) (ev_tup (ea_cons (ev_is (evn_rep (n := 12) (evn_lst (ds := [dR 1]) (ea_cons (ev_tup (ds := [.int 1, .int 1]) (ea_cons ev_int (ea_cons ev_int ea_nil))) ea_nil)) ev_int (by decide) (by decide) (by decide)).ev rfl) (ea_cons (ev_var rfl) ea_nil))) ⟨A, rfl, hA, hM⟩
end
end Rg

set_option Elab.async false
set_option linter.all false
set_option maxRecDepth 100000
set_option maxHeartbeats 4000000
/-! The law. -/
namespace Rg
open PySem PySem.Spec PyProof.Rows L2
/-! ### repr -/
def rReprD (K : PySem.W.Frag) : List V → Hp → VK → Prop := fun xs H Q => ∃ v d, xs = [v] ∧ Dp K H v d ∧ isDisplay d = true ∧ d.showable = true ∧ d.hasDict = false ∧ d.depth ≤ 20 ∧ d.shown.length ≤ sizeLine ∧ Q (.str d.shown) H
theorem call_reprD {X : Cx} (hg : X.A.guards = some []) (hu : X.A.units + 64 < cLine) : CallR X (.builtin "repr") (rReprD X.K) := by
  intro pins s σ H xs us Q I r h
  obtain ⟨v, d, rfl, hd, h1, h2, h3, h4, h5, q⟩ := h
  obtain ⟨u, rfl, ru⟩ := vals1 r
  obtain ⟨as, hr⟩ := Dp.reads I d v u hd ru
  obtain ⟨a, rfl⟩ := isRef_of_reads hr h1
  exact repr_of_reads' hr h2 (PyData.noDict_hsm h3) hg (by omega) (fun _ _ e => e) (fun h' t tk k => ⟨.str d.shown, H, I.kept k, ⟨_, rfl⟩, q⟩) h5
structure Shw (d : PyData) : Prop where
  ds : isDisplay d = true
  sh : d.showable = true
  nd : d.hasDict = false
  dp : d.depth ≤ 20
  len : d.shown.length ≤ sizeLine
theorem rc_repr {K : PySem.W.Frag} {d : PyData} (h : Shw d) : RC K (rReprD K) [d] (.str d.shown) := fun H vs ha Q q => by
  cases ha with
  | cons hd t =>
    cases t
    exact ⟨_, d, rfl, hd, h.ds, h.sh, h.nd, h.dp, h.len, q _ H (Same.refl H) (.str _)⟩
/-! ### the ring's text is short -/
theorem log_64 {i : Int} (h : i.natAbs < 2 ^ 64) : i.natAbs.log2 < 64 := by
  by_cases z : i.natAbs = 0
  · rw [z]; decide
  · exact (Nat.log2_lt z).mpr h
theorem show_int {i : Int} (h : i.natAbs < 2 ^ 64) : PyData.showable (.int i) = true ∧ PyData.leavesShort 100 (.int i) = true ∧ PyData.weight (.int i) ≤ 64 := by
  have hl := log_64 h
  refine ⟨?_, ?_, ?_⟩
  · simp only [PyData.showable, decide_eq_true_eq]
    omega
  · simp only [PyData.leavesShort, decide_eq_true_eq]
    show (Str.ofString (toString i)).length ≤ 100
    rw [PySem.ofString_length]
    exact Nat.le_trans (PySem.int_text_length_le (k := 64) (by decide) hl) (by decide)
  · simp only [PyData.weight]
    split <;> omega
/-- short data -/
structure Sh (d : PyData) (w dp : Nat) : Prop where
  s : d.showable = true
  n : d.hasDict = false
  l : d.leavesShort 100 = true
  w : d.weight ≤ w
  d : d.depth ≤ dp
structure ShA (ds : List PyData) (w dp : Nat) : Prop where
  s : PyData.showableAll ds = true
  n : PyData.hasDictAll ds = false
  l : PyData.leavesShortAll 100 ds = true
  w : PyData.weightAll ds ≤ w
  d : PyData.depthAll ds ≤ dp
theorem sh_int {i : Int} (h : i.natAbs < 2 ^ 64) : Sh (.int i) 64 0 := by
  obtain ⟨a, b, c⟩ := show_int h
  exact ⟨a, by simp only [PyData.hasDict], b, c, by simp only [PyData.depth]; omega⟩
theorem shA_nil (dp : Nat) : ShA [] 0 dp := ⟨by simp only [PyData.showableAll], by simp only [PyData.hasDictAll], by simp only [PyData.leavesShortAll], by simp only [PyData.weightAll]; omega, by simp only [PyData.depthAll]; omega⟩
theorem shA_cons {d : PyData} {ds : List PyData} {w1 w2 dp : Nat} (h : Sh d w1 dp) (t : ShA ds w2 dp) : ShA (d :: ds) (w1 + 1 + w2) dp := by
  have a1 := h.w
  have a2 := t.w
  have a3 := h.d
  have a4 := t.d
  refine ⟨?_, ?_, ?_, ?_, ?_⟩
  · simp only [PyData.showableAll, h.s, t.s, Bool.and_self]
  · simp only [PyData.hasDictAll, h.n, t.n, Bool.or_self]
  · simp only [PyData.leavesShortAll, h.l, t.l, Bool.and_self]
  · simp only [PyData.weightAll]; omega
  · simp only [PyData.depthAll]; omega
theorem Sh.up {d : PyData} {w1 w2 d1 d2 : Nat} (h : Sh d w1 d1) (a : w1 ≤ w2) (b : d1 ≤ d2) : Sh d w2 d2 := ⟨h.s, h.n, h.l, Nat.le_trans h.w a, Nat.le_trans h.d b⟩
theorem sh_tup {ds : List PyData} {w dp : Nat} (h : ShA ds w dp) : Sh (.tuple ds) w (dp + 1) := by
  have := h.d
  exact ⟨by simp only [PyData.showable]; exact h.s, by simp only [PyData.hasDict]; exact h.n, by simp only [PyData.leavesShort]; exact h.l, by simp only [PyData.weight]; exact h.w, by simp only [PyData.depth]; omega⟩
theorem sh_lst {ds : List PyData} {w dp : Nat} (h : ShA ds w dp) : Sh (.list ds) w (dp + 1) := by
  have := h.d
  exact ⟨by simp only [PyData.showable]; exact h.s, by simp only [PyData.hasDict]; exact h.n, by simp only [PyData.leavesShort]; exact h.l, by simp only [PyData.weight]; exact h.w, by simp only [PyData.depth]; omega⟩
theorem shA_map {α : Type} {f : α → PyData} {w dp : Nat} : ∀ {l : List α}, (∀ x ∈ l, Sh (f x) w dp) → ShA (l.map f) (l.length * (w + 1)) dp
  | [], _ => by
    have h := shA_nil dp
    simpa using h
  | x :: l, h => by
    have t := shA_map (l := l) fun y hy => h y (List.mem_cons_of_mem _ hy)
    have c := shA_cons (h x List.mem_cons_self) t
    have e : w + 1 + l.length * (w + 1) = (x :: l).length * (w + 1) := by rw [List.length_cons, Nat.add_mul]; omega
    rw [e] at c
    exact c
theorem sh_str {x : Array Nat} (h : NmOk x) : Sh (.str ⟨x⟩) 5 0 := by
  refine ⟨by simp only [PyData.showable], by simp only [PyData.hasDict], ?_, ?_, by simp only [PyData.depth]; omega⟩
  · simp only [PyData.leavesShort]
    rw [List.all_eq_true]
    intro c hc
    have := h.2 c hc
    have h16 : (16 : Nat) ^ 8 = 4294967296 := by decide
    exact decide_eq_true (by omega)
  · simp only [PyData.weight]
    exact h.1
theorem sh_rat {q : Rat} (h1 : q.num.natAbs < 2 ^ 64) (h2 : q.den < 2 ^ 64) : Sh (dR q) 130 1 :=
  sh_tup (shA_cons (sh_int h1) (shA_cons (sh_int (i := (q.den : Int)) (by omega)) (shA_nil 0)))
theorem sh_ask {a : Ask} (h : Made a) : Sh (dA a) 300 2 := by
  obtain ⟨t, b, h0, h1, h2, e⟩ := h.am
  have hd : a.size.den < 2 ^ 64 := by
    have : a.size.den ≤ 2 ^ 30 := lo_sm (fin_lo h.ok.fn)
    exact Nat.lt_of_le_of_lt this (by decide)
  have hn : a.size.num.natAbs < 2 ^ 64 := by
    have e2 : a.size.num = (t : Int) / (Int.gcd t b : Int) := by rw [e]; exact mk_num _ h0
    have g0 := gcd_pos (t := (t : Int)) h0
    have a0 : 0 ≤ (t : Int) / (Int.gcd t b : Int) := Int.ediv_nonneg (by omega) (by omega)
    have a1 : (t : Int) / (Int.gcd t b : Int) ≤ t := Int.ediv_le_self _ (by omega)
    rw [e2]
    have : ((t : Int) / (Int.gcd t b : Int)).natAbs ≤ 1 + 10 ^ 12 := by omega
    exact Nat.lt_of_le_of_lt this (by decide)
  have o1 := h.o1
  have o2 := h.o2
  have k1 : ((a.one : Int)).natAbs < 2 ^ 64 := Nat.lt_of_le_of_lt (show _ ≤ 12 by omega) (by decide)
  have k2 : ((a.other : Int)).natAbs < 2 ^ 64 := Nat.lt_of_le_of_lt (show _ ≤ 12 by omega) (by decide)
  exact (sh_tup (shA_cons ((sh_str h.nm).up (Nat.le_refl _) (Nat.zero_le 1)) (shA_cons ((sh_int k1).up (Nat.le_refl _) (Nat.zero_le 1)) (shA_cons ((sh_int k2).up (Nat.le_refl _) (Nat.zero_le 1)) (shA_cons (sh_rat hn hd) (shA_nil 1)))))).up (by decide) (Nat.le_refl _)
theorem one_num : (1 : Rat).num = 1 := rfl
theorem shw_ring {A : List Ask} (h : MadeOk A) : Shw (dG A) := by
  have h1 : ShA (List.replicate 12 (dR 1)) (12 * 131) 2 := by
    have := shA_map (f := fun _ : Nat => dR 1) (w := 130) (dp := 2) (l := List.range 12) fun x _ => (sh_rat (q := 1) (by decide) (by decide)).up (Nat.le_refl _) (by decide)
    exact this
  have h2 := shA_map (f := dA) (l := A) fun a ha => sh_ask (h.ask a ha)
  have h3 := sh_tup (shA_cons (sh_lst h1) (shA_cons (sh_lst h2) (shA_nil 3)))
  have hl := h.len
  have hw : (dG A).weight ≤ 5000 := by
    have := h3.w
    have e : A.length * (300 + 1) ≤ 10 * 301 := Nat.mul_le_mul_right 301 hl
    show PyData.weight (.tuple _) ≤ _
    omega
  refine ⟨rfl, h3.s, h3.n, Nat.le_trans h3.d (by decide), ?_⟩
  have := PyData.shown_le 100 (by decide) (dG A) h3.l
  have e : sizeLine = 16777216 := by decide
  rw [e]
  have : (100 + 2) * (dG A).weight ≤ 102 * 5000 := Nat.mul_le_mul_left 102 hw
  omega
/-! ### rounding a whole sending again -/
theorem whole_none {A : List Ask} {W : List Bool} (hl : W.length = A.length) : partedL A (sentBy A W) = [] := by
  unfold partedL
  rw [List.filter_eq_nil_iff]
  intro k hk
  have hk := List.mem_range.mp hk
  unfold partB
  rw [sentBy_at hl hk]
  split
  · rw [Bool.not_eq_true, Bool.and_eq_false_iff]
    right
    exact decide_eq_false (by grind)
  · rw [Bool.not_eq_true, Bool.and_eq_false_iff]
    left
    exact decide_eq_false (by grind)
theorem whole_slides {A : List Ask} {W : List Bool} (hl : W.length = A.length) : slidesOf A (sentBy A W) = [] := slidesOf_none (by
  unfold nextSlide
  rw [whole_none hl]
  rfl)
theorem whole_behind {A : List Ask} {W : List Bool} (hl : W.length = A.length) : behind A (sentBy A W) = sentBy A W := by
  unfold behind
  rw [whole_slides hl]
  rfl
theorem again_way {A : List Ask} {W : List Bool} (hA : Rok A) (hl : W.length = A.length) {k : Nat} (hk : k < A.length) (hz : (askAt A k).size ≠ 0) : wayAt (wholeWays A (sentBy A W)) k = wayAt W k := by
  have h1 := wholeWays_whole (sentBy_sv hA hl) hk (by rw [whole_none hl]; simp)
  have h2 : gone A (sentBy A W) k (wayAt (wholeWays A (sentBy A W)) k) = (askAt A k).size := of_decide_eq_true h1
  unfold gone at h2
  rw [sentBy_at hl hk] at h2
  cases c1 : wayAt (wholeWays A (sentBy A W)) k <;> cases c2 : wayAt W k <;> rw [c1, c2] at h2 <;> simp at h2 <;> first
    | rfl
    | (exfalso; grind)
theorem again_sent {A : List Ask} {W : List Bool} (hA : Rok A) (hl : W.length = A.length) : sentBy A (wholeWays A (sentBy A W)) = sentBy A W := by
  have hl2 : (wholeWays A (sentBy A W)).length = A.length := wholeWays_len
  refine List.ext_getElem? fun k => ?_
  by_cases hk : k < A.length
  · rw [partAt_get (by rw [sentBy_len hl2]; exact hk), partAt_get (by rw [sentBy_len hl]; exact hk), sentBy_at hl2 hk, sentBy_at hl hk]
    by_cases hz : (askAt A k).size = 0
    · rw [hz]; split <;> split <;> rfl
    · rw [again_way hA hl hk hz]
  · rw [List.getElem?_eq_none (by rw [sentBy_len hl2]; omega), List.getElem?_eq_none (by rw [sentBy_len hl]; omega)]
end Rg

set_option Elab.async false
set_option linter.all false
set_option maxRecDepth 100000
set_option maxHeartbeats 4000000
/-! The law's def. -/
namespace Rg
open PySem PySem.Spec PyProof.Rows L2
/-- an expression of which the caller knows no more than P -/
def EvE (K : PySem.W.Frag) (te : TE) (g : List Sl) (P : PyData → Prop) : Prop := ∀ (H0 H : Hp) (σ : L2.St), Ok K H0 H σ g → ∀ Q : VK, (∀ v d H2, Same H H2 → Dp K H2 v d → P d → Q v H2) → te σ H Q
section
variable {K : PySem.W.Frag} {g s : List Sl} {te : TE} {tr : TA} {E : De} {P : PyData → Prop} {ds : List PyData}
theorem run_asgE {i : Nat} (hn : noOwn s = true) (h : EvE K te s P) (q : ∀ d, P d → E.nx (s.set i (.val d))) : Run K (tAsg te (gName i)) s E := fun H0 H σ D ok f =>
  h H0 H σ ok _ fun v d H2 e1 hd hp => by
    obtain ⟨G, k⟩ := ok
    have k2 : OkW K H0 H2 H2 σ s := ⟨k.lo.trans (k.hi.trans e1), Same.refl _, fun i d h => by
      obtain ⟨v, a, b⟩ := k.val i d h
      exact ⟨v, a, dp_up (k.hi.trans e1) b⟩, fun i ds h => absurd h (noOwn_at hn), k.uni, k.len⟩
    exact f.nx _ H2 _ (k2.setV i hd).ok (q d hp)
theorem eve_call {R : List PyData → Prop} {X : XK} (ha : EvA K tr g ds) (hr : R ds) : EvE K (tCall (spE K R P) [] X tr) g P := fun H0 H σ ok Q q =>
  ha H0 H σ ok _ fun vs H1 e1 h1 => ⟨ds, by rw [List.append_nil]; exact h1, hr, fun v H2 d e2 hd hp => q v d H2 (e1.trans e2) hd hp⟩
/-- right(ring, parts(begun(script, k), ring)) -/
theorem eve_right {A : List Ask} {l : List Int} {n i j m : Nat} {X1 X2 X3 : XK} (hA : MadeOk A) (hn : n ≤ 100) (hi : g[i]? = some (.val (dG A))) (hj : Ev K (tVar j) g (.list (l.map .int))) (hm : Ev K (tVar m) g (.int n)) :
    EvE K (tCall (sp__law_right K) [] X1 (tCons (tVar i) (tCons (tCall (sp__law_parts K) [] X2 (tCons (tCall (sp__law_begun K) [] X3 (tCons (tVar j) (tCons (tVar m) tNil))) (tCons (tVar i) tNil))) tNil))) g fun d => ∃ S, Sv A S ∧ d = dWs (wholeWays A (behind A S)) := fun H0 H σ ok Q q => by
  obtain ⟨G, k⟩ := id ok
  obtain ⟨v1, a1, a2⟩ := k.val i _ hi
  have a3 : Dp K H v1 (dG A) := dp_up k.hi a2
  have hb := (evf_call (K := K) (R := R__law_begun) (E := X3) (ea_cons hj (ea_cons hm ea_nil)) ⟨l, n, hn, rfl, rfl⟩).evn
  refine ⟨v1, a1, hb H0 H σ ok _ fun p xs H1 e1 n1 l1 hd => ?_⟩
  have e := dp_stI hd
  subst e
  refine ⟨v1, a1, p, _, _, _, v1, A, rfl, l1, dp_up (same_mn e1 n1) a3, hA, fun v' H2 S hs hd2 hS => ?_⟩
  have e2 : Same H H2 := (same_mn e1 n1).trans hs
  exact ⟨[dG A, dS S], _, .cons (dp_up e2 a3) (.cons hd2 .nil), ⟨A, S, hA.rok, hS, rfl, rfl⟩, fun v H3 e3 hd3 _ => q v _ H3 (e2.trans e3) hd3 ⟨S, hS, rfl⟩⟩
theorem rv_eqS {x : Str} : RV K rEq (.str x) (.str x) (.bool true) := fun H v1 v2 a b Q q => by
  cases a
  cases b
  refine ⟨rfl, ?_⟩
  rw [decide_eq_true rfl]
  exact q _ H (Same.refl H) (.bl true)
end
theorem gains_nil {A : List Ask} {W : List Bool} (hA : Rok A) (hl : W.length = A.length) : (List.range 12).map (fun t => dR (load A (sentBy A (wholeWays A (sentBy A W))) t - load A (sentBy A W) t)) = List.replicate 12 (dR 0) := by
  rw [again_sent hA hl]
  refine List.eq_replicate_iff.mpr ⟨by rw [List.length_map, List.length_range], fun d hd => ?_⟩
  obtain ⟨t, _, rfl⟩ := List.mem_map.mp hd
  rw [Rat.sub_self]
theorem turned_nil {A : List Ask} {W : List Bool} (hA : Rok A) (hl : W.length = A.length) : (List.range A.length).filter (fun k => !decide ((askAt A k).size = 0) && !(wayAt (wholeWays A (sentBy A W)) k == wayAt W k)) = [] := by
  rw [List.filter_eq_nil_iff]
  intro k hk
  have hk := List.mem_range.mp hk
  by_cases hz : (askAt A k).size = 0
  · simp [hz]
  · rw [again_way hA hl hk hz]
    simp
section
variable {P : Program} {w : World} {K : PySem.W.Frag} {mg : Str → Option Value} {base : Heap} {aN aB : Addr}
abbrev s_law : Stmt := topS 75
theorem sc_law : FnScope ["_law_script", "_law_ring", "_law_kept", "_law_k", "_law_ways", "_law_whole", "_law_slides", "_law_again", "_law_turned", "_law_one"] ["_law_script"] (defScope s_law) := ⟨rfl, rfl, rfl, by decide +kernel, rfl, by decide +kernel, by decide +kernel⟩
theorem law_body (T : Txt K mg aN aB) (c__law_made : Cal P w K mg base 3 "_law_made" ["_law_script"] (sp__law_made K)) (c__law_right : Cal P w K mg base 10 "_law_right" ["_law_ring", "_law_sending"] (sp__law_right K)) (c_sent_by : Cal P w K mg base 1 "sent_by" ["ring", "ways"] (sp_sent_by K)) (c_rounding_of : Cal P w K mg base 7 "rounding_of" ["ring", "sending"] (sp_rounding_of K)) (c__law_parts : Cal P w K mg base 2 "_law_parts" ["_law_state", "_law_ring"] (sp__law_parts K)) (c__law_begun : Cal P w K mg base 1 "_law_begun" ["_law_script", "_law_k"] (sp__law_begun K)) (c_gains_of : Cal P w K mg base 5 "gains_of" ["ring", "sending", "ways"] (sp_gains_of K)) {f : Addr} {cdv : Value} {A₁ : Around} {outer : List Env} {s : Shared} {H : Hp} {E : XK} (hr : Room 10 (A₁.deeper (envOfC "law" (defScope s_law) s.heap.objs.size f cdv))) (RG : A₁.guards = some []) :
    ∃ t, PSs (cxOf CX0 P w K mg base ["_law_script", "_law_ring", "_law_kept", "_law_k", "_law_ways", "_law_whole", "_law_slides", "_law_again", "_law_turned", "_law_one"] "law" (defScope s_law) f cdv A₁ outer s H E).nox (defBody s_law) t ∧ ∀ l : List Int, Run K t (startG ["_law_script", "_law_ring", "_law_kept", "_law_k", "_law_ways", "_law_whole", "_law_slides", "_law_again", "_law_turned", "_law_one"] [.list (l.map .int)]) { nx := fun _ => False, rt := fun d' _ => d' = .bool true } := by
  refine ⟨_, (pss_cons (ps_set (i := 1) sc_law.nd rfl (Or.inr rfl) (pe_cal c__law_made (hr.mono (by decide)) (by rfl) (pa_cons (pv 0) pa_nil)))
    (pss_cons (ps_set (i := 2) sc_law.nd rfl (Or.inl rfl) (pe_callB (call_reprD RG hr.units) (by rfl) T.b_repr (by decide +kernel) (pa_cons (pv 1) pa_nil)))
    (pss_cons (ps_for PassesOwn.never rfl (pi_range2 (by rfl) T.b_range (pa_cons pe_int (pa_cons (pe_callB (call_max2 rfl) (by rfl) T.b_max (by decide +kernel) (pa_cons pe_int (pa_cons (pe_callB (call_min2 rfl) (by rfl) T.b_min (by decide +kernel) (pa_cons (pe_callB call_len_seq (by rfl) T.b_len (by decide +kernel) (pa_cons (pv 0) pa_nil)) (pa_cons pe_int pa_nil))) pa_nil))) pa_nil))) (pg_name (i := 3) sc_law.nd rfl (Or.inl rfl)) (pss_cons (ps_set (i := 4) sc_law.nd rfl (Or.inr rfl) (pe_cal c__law_right (hr.mono (by decide)) (by rfl) (pa_cons (pv 1) (pa_cons (pe_cal c__law_parts (hr.mono (by decide)) (by rfl) (pa_cons (pe_cal c__law_begun (hr.mono (by decide)) (by rfl) (pa_cons (pv 0) (pa_cons (pv 3) pa_nil))) (pa_cons (pv 1) pa_nil))) pa_nil))))
    (pss_cons (ps_if (pt_cmpR op_isN (pv 4) pe_non (nomark _)) (pss_one (ps_ret pe_bl)) pss_nil)
    (pss_cons (ps_set (i := 5) sc_law.nd rfl (Or.inl rfl) (pe_cal c_sent_by (hr.mono (by decide)) (by rfl) (pa_cons (pv 1) (pa_cons (pv 4) pa_nil))))
    (pss_cons (ps_asg (pe_cal c_rounding_of (hr.mono (by decide)) (by rfl) (pa_cons (pv 1) (pa_cons (pv 5) pa_nil))) (pg_tup rfl (pgs_cons (pg_name (i := 6) sc_law.nd rfl (Or.inl rfl)) (pgs_cons (pg_name (i := 7) sc_law.nd rfl (Or.inr rfl)) pgs_nil))))
    (pss_cons (ps_setLc (i := 8) (own := [("_law_one", 9)]) (by rfl) sc_law.nd rfl rfl (sw_true rfl rfl rfl (by decide +kernel)) (pi_range1 (by rfl) T.b_range (pa_cons (pe_callB call_len_seq (by rfl) T.b_len (by decide +kernel) (pa_cons (pv 4) pa_nil)) pa_nil)) (blkOk_by (own := [("_law_one", 9)]) (N := ["_law_script", "_law_ring", "_law_kept", "_law_k", "_law_ways", "_law_whole", "_law_slides", "_law_again", "_law_turned", "_law_one"]) (sc := defScope s_law) (by decide +kernel)) (fun _ _ _ _ _ => (pg_name (i := 9) sc_law.nd rfl (Or.inl rfl))) (fun _ _ _ _ _ => (pts_one (PW.pt (pw_and (pt_cmpR (show OpR _ (compareOp .NotEq) (rNeD K) from op_neD hr.units) (pe_ix (show IxR _ (rIx K) from ix_seq) (pe_ix (show IxR _ (rIx K) from ix_seq) (pe_ix (show IxR _ (rIx K) from ix_seq) (pv 1) pe_int (fun _ _ => rfl)) (pv 9) (fun _ _ => rfl)) pe_int (fun _ _ => rfl)) (pe_tup (pa_cons pe_int (pa_cons pe_int pa_nil))) (nomark _)) (pw_and1 (pt_cmpR (show OpR _ (compareOp .NotEq) (rNeD K) from op_neD hr.units) (pe_ix (show IxR _ (rIx K) from ix_seq) (pv 7) (pv 9) (fun _ _ => rfl)) (pe_ix (show IxR _ (rIx K) from ix_seq) (pv 4) (pv 9) (fun _ _ => rfl)) (nomark _))))))) (fun _ _ _ _ _ => (pv 9)))
    (pss_one (ps_if (PW.pt (pw_or (pt_cmpR (op_neD hr.units) (pv 6) (pe_lst pa_nil) (nomark _)) (pw_or (pt_cmpR (op_neD hr.units) (pv 8) (pe_lst pa_nil) (nomark _)) (pw_or1 (pt_cmpR (op_neD hr.units) (pe_cal c_gains_of (hr.mono (by decide)) (by rfl) (pa_cons (pv 1) (pa_cons (pv 5) (pa_cons (pv 7) pa_nil)))) (pe_op op_rep (pe_lst (pa_cons (pe_tup (pa_cons pe_int (pa_cons pe_int pa_nil))) pa_nil)) pe_int) (nomark _)))))) (pss_one (ps_ret pe_bl)) pss_nil))))))))
    (pss_one (ps_ret (pe_cmpR op_eq (pe_callB (call_reprD RG hr.units) (by rfl) T.b_repr (by decide +kernel) (pa_cons (pv 1) pa_nil)) (pv 2) (nomark _))))))), fun l => ?_⟩
  refine run_seq (run_asgE rfl (eve_call (ea_cons (ev_var rfl) ea_nil) ⟨l, rfl⟩) fun d hd => ?_)
  obtain ⟨A, rfl, hM⟩ := hd
  have hA := hM.rok
  have hz := hM.len
  have hS := shw_ring hM
  refine run_seq (run_asg ((ev_cb (ea_cons (ev_var (d := dG A) rfl) ea_nil) (rc_repr hS)).flat rfl) ?_)
  have hn : ∃ n : Int, n = (if (if (8 : Int) < (l.length : Int) then 8 else (l.length : Int)) > 4 then (if (8 : Int) < (l.length : Int) then 8 else (l.length : Int)) else 4) ∧ 4 ≤ n ∧ n ≤ 8 := ⟨_, rfl, by split <;> split <;> omega, by split <;> split <;> omega⟩
  obtain ⟨n, en, n0, n1⟩ := hn
  refine run_seq (run_for (src_rng2 (m := 3) (n := n) (ea_cons ev_int (ea_cons (ev_is (ev_cb (ea_cons ev_int (ea_cons (ev_cb (ea_cons (ev_is (ev_cb (ea_cons (ev_var (d := .list (l.map .int)) rfl) ea_nil) rc_len) (by rw [List.length_map])) (ea_cons ev_int ea_nil)) rc_int2) ea_nil)) rc_int2) (by rw [en])) ea_nil)) (by decide) (by decide) (by omega) (by omega))
    (fun i s => ∃ x3 x4 x5 x6 x7 x8 x9 : Sl, s = [.val (.list (l.map .int)), .val (dG A), .val (.str (dG A).shown), x3, x4, x5, x6, x7, x8, x9] ∧ noOwn [x3, x4, x5, x6, x7, x8, x9] = true) ⟨_, _, _, _, _, _, _, rfl, rfl⟩ (fun i d s' hd hI => ?_) fun s' hI => ?_)
  · obtain ⟨x3, x4, x5, x6, x7, x8, x9, rfl, hno⟩ := hI
    have hi : i < (n - 3).toNat := by
      have := (List.getElem?_eq_some_iff.mp hd).1
      rw [rngD_len] at this
      exact this
    rw [rngD_get hi] at hd
    cases hd
    have hno4 : noOwn [x4, x5, x6, x7, x8, x9] = true := (Bool.and_eq_true_iff.mp hno).2
    have hno5 : noOwn [x5, x6, x7, x8, x9] = true := (Bool.and_eq_true_iff.mp hno4).2
    have hno6 : noOwn [x6, x7, x8, x9] = true := (Bool.and_eq_true_iff.mp hno5).2
    have hno7 : noOwn [x7, x8, x9] = true := (Bool.and_eq_true_iff.mp hno6).2
    have hno8 : noOwn [x8, x9] = true := (Bool.and_eq_true_iff.mp hno7).2
    have hno9 : noOwn [x9] = true := (Bool.and_eq_true_iff.mp hno8).2
    refine ⟨_, _, tg_name, ?_⟩
    refine run_seq (run_asgE hno4 (eve_right (l := l) (n := 3 + i) hM (by omega) rfl (ev_var rfl) (ev_is (ev_var rfl) (by rw [Int.natCast_add]; rfl))) fun d hd => ?_)
    obtain ⟨S, hSv, rfl⟩ := hd
    have hW : (wholeWays A (behind A S)).length = A.length := wholeWays_len
    generalize wholeWays A (behind A S) = W at hW ⊢
    refine run_seq (run_if (b := false) (et_test (ev_op (ev_var (d := dWs W) rfl) ev_non rv_isN)) (fun z => nomatch z) fun _ => run_next ?_)
    have hV := sentBy_sv hA hW
    refine run_seq (run_asg ((evf_call (ea_cons (ev_var rfl) (ea_cons (ev_var rfl) ea_nil)) ⟨A, W, hW, hA.len, rfl, rfl⟩).st (lfA_dR _)) ?_)
    refine run_seq (run_unpack (d := .tuple [dLs [], dWs (wholeWays A (sentBy A W))]) ((ev_is (ev_call (ea_cons (ev_var rfl) (ea_cons (ev_var rfl) ea_nil)) ⟨A, sentBy A W, hA, hV, rfl, rfl⟩) (by rw [whole_slides hW, whole_behind hW])).free hno6) (tg_tup (is := [6, 7]) rfl rfl) ?_)
    have hW2 : (wholeWays A (sentBy A W)).length = A.length := wholeWays_len
    have hgn := gains_nil hA hW
    have htn := turned_nil hA hW
    generalize wholeWays A (sentBy A W) = W2 at hW2 hgn htn ⊢
    refine run_seq (run_asg (d := dNs []) ((evn_is (evn_lc (K := K) (List.range A.length) dN (fun k => !decide ((askAt A k).size = 0) && !(wayAt W2 k == wayAt W k)) dN (src_rng1 (n := A.length) (ea_cons (ev_is (ev_cb (ea_cons (ev_var (d := dWs W) rfl) ea_nil) rc_len) (by rw [List.length_map, hW])) ea_nil) (by omega) (by omega)) (by rw [Int.toNat_natCast]; exact rngD0 _) (by rw [List.length_range]; omega) (fun k hk => ?_)) (by rw [htn])).st (lfA_dN [])) ?_)
    · have hk := List.mem_range.mp hk
      refine ⟨_, _, tg_name, by decide, evt_is (et_and (et_test (ev_op (ev_size (ev_var rfl) (ev_var rfl) hk) ev_zero (rv_ne (sh_dR _) (sh_dR 0)))) fun _ => et_test (ev_op (ev_ix (ev_var (d := dWs W2) rfl) (ev_var (d := dN k) rfl) (way_ix (by rw [hW2]; exact hk))) (ev_ix (ev_var (d := dWs W) rfl) (ev_var (d := dN k) rfl) (way_ix (by rw [hW]; exact hk))) (rv_ne (sh_dW _) (sh_dW _)))) ?_, fun _ => ⟨ev_var rfl, rfl⟩⟩
      rw [eqv_dR, eqv_way]
    · refine run_if (b := false) (evt_is (et_or (et_test (ev_op (ev_var (d := .list []) rfl) (evn_lst ea_nil).ev (rv_ne sh_nil sh_nil))) fun _ => et_or (et_test (ev_op (ev_var (d := .list []) rfl) (evn_lst ea_nil).ev (rv_ne sh_nil sh_nil))) fun _ => et_test (ev_op (d1 := .list (List.replicate 12 (dR 0))) (ev_is (ev_call (ea_cons (ev_var rfl) (ea_cons (ev_var rfl) (ea_cons (ev_var rfl) ea_nil))) ⟨A, sentBy A W, W2, hA, hV.toSok, hW2, rfl, rfl⟩) (by rw [hgn])) (ev_is (evn_rep (n := 12) (evn_lst (ds := [dR 0]) (ea_cons ev_zero ea_nil)) ev_int (by decide) (by decide) (by decide)).ev rfl) (rv_ne (d2 := .list (List.replicate 12 (dR 0))) (by decide +kernel) (by decide +kernel)))) (by decide +kernel)) (fun z => nomatch z) fun _ => run_next ?_
      exact ⟨_, _, _, _, _, _, _, rfl, hno9⟩
  · obtain ⟨x3, x4, x5, x6, x7, x8, x9, rfl, hno⟩ := hI
    exact run_ret (ev_op (ev_cb (ea_cons (ev_var (d := dG A) rfl) ea_nil) (rc_repr hS)) (ev_var (d := .str (dG A).shown) rfl) rv_eqS) rfl
end
end Rg

set_option Elab.async false
set_option linter.all false
set_option maxRecDepth 100000
set_option maxHeartbeats 4000000
/-! From the top into the law. -/
namespace Rg
open PySem PySem.Spec PyProof.Rows L2
/-- the law's def, called from outside, at a heap whose tracked part is T, answers true -/
def Ready (P : Program) (w : World) (K : PySem.W.Frag) (mg : Str → Option Value) (fa : Addr) : Prop := ∀ (base : Heap) (s : Shared) (T : Hp) (a : Addr) (l : List Int), Env0 P w K mg base callerA [] s T → SqL K T a (l.map V.int) →
  codeAny (model P w) callerA (.call (.ref fa) ⟨[.ref a], []⟩) (CR CX0 [] P w T s (fun v _ => v = .bl true) E0) s
def DefAt (K : PySem.W.Frag) (mg : Str → Option Value) (x : Str) (st : Stmt) (ps : List Str) : Prop := ∃ f fd, Df K mg x st ps f fd
section
variable {P : Program} {w : World} {K : PySem.W.Frag} {mg mb : Str → Option Value} {base h : Heap} {aN aB : Addr}
theorem df_mk (inK : K.In h) (gl : h.Ns mainGlobals mg) {x : Str} {st : Stmt} {ps : List Str} {f : Addr} {od an : Option Addr} {sl : Array (Option Value)} {oc kV doc pm cdv ct : Value} (at_ : PySem.W.nsIn K mainGlobals x = some (some (.ref f)))
    (lk : K.lookup f = some ⟨oc, od, .func (PySem.W.fnOf x x (defArgs st) (defBody st) (defScope st) .none kV doc pm an cdv ct), sl⟩) (co : PySem.W.codeIn K cdv x = true) (kp : PySem.W.keepIn K (.ref f) = true)
    (bi : ∀ (kV doc pm : Value) (an : Option Addr) (cdv ct : Value) (us : List Value), us.length = ps.length → bindArgs (PySem.W.fnOf x x (defArgs st) (defBody st) (defScope st) .none kV doc pm an cdv ct) ⟨us, []⟩ = pure (ps.zip us)) : DefAt K mg x st ps := by
  have F := fun_mk (K := K) lk co kp
  exact ⟨f, _, F, PySem.W.mg_of inK gl at_, F.binds bi⟩
theorem law_at (T : Txt K mg aN aB) (c__law_made : Cal P w K mg base 3 "_law_made" ["_law_script"] (sp__law_made K)) (c__law_right : Cal P w K mg base 10 "_law_right" ["_law_ring", "_law_sending"] (sp__law_right K)) (c_sent_by : Cal P w K mg base 1 "sent_by" ["ring", "ways"] (sp_sent_by K)) (c_rounding_of : Cal P w K mg base 7 "rounding_of" ["ring", "sending"] (sp_rounding_of K)) (c__law_parts : Cal P w K mg base 2 "_law_parts" ["_law_state", "_law_ring"] (sp__law_parts K)) (c__law_begun : Cal P w K mg base 1 "_law_begun" ["_law_script", "_law_k"] (sp__law_begun K)) (c_gains_of : Cal P w K mg base 5 "gains_of" ["ring", "sending", "ways"] (sp_gains_of K)) {fa : Addr} {fd : FuncData} (F : Fun K "law" "law" s_law fa fd) {s : Shared} {H : Hp} {a : Addr} {l : List Int} (env : Env0 P w K mg base callerA [] s H) (hS : SqL K H a (l.map V.int)) :
    codeAny (model P w) callerA (.call (.ref fa) ⟨[.ref a], []⟩) (CR CX0 [] P w H s (fun v _ => v = .bl true) E0) s := by
  obtain ⟨oc, od, kV, doc, pm, an, cdv, ct, osl, rfl, lk, hc⟩ := F.ex
  have room : Room 11 callerA := ⟨rfl, by decide, by decide⟩
  have inK : K.In s.heap := env.mod.kin.keeps fun c u z => (env.bs c u z).1
  have nol : s.heap.NoLimit := env.mod.nolimit.keeps fun c u z => (env.bs c u z).1
  have bind : BindsTo s (PySem.W.fnOf "law" "law" (defArgs s_law) (defBody s_law) (defScope s_law) .none kV doc pm an cdv ct) ⟨[.ref a], []⟩ ((["_law_script"] : List Str).zip [Value.ref a]) := .of_eq rfl
  have kinds : ∀ y ∈ (["_law_script"] : List Str).zip [Value.ref a], (defScope s_law).names.lookup y.1 = some .local ∨ ((defScope s_law).names.lookup y.1 = some .cell ∧ ((cellsFrom (s.heap.objs.size + 1) (defScope s_law).names []).lookup y.1).isSome = true) := by
    intro y hy
    have e : y.1 ∈ (["_law_script"] : List Str) := (List.of_mem_zip hy).1
    exact (sc_law.par y.1 e).imp id fun z => ⟨z, PySem.W.cellsFrom_some _ _ _ (.inl z)⟩
  refine codeAny_call_function room.depth (inK _ _ lk) rfl sc_law.co sc_law.gen rfl (PySem.W.codeRec_of inK hc) (bind _ _ _ _ ?_)
  refine wpAny_newFunctionEnv_cells sc_law.kind kinds fun e he st x => ?_
  cases he
  refine ⟨nol.keeps x.toInCall.keep, codeAny_func ?_⟩
  obtain ⟨t, rules, run⟩ := law_body (P := P) (w := w) (base := base) T c__law_made c__law_right c_sent_by c_rounding_of c__law_parts c__law_begun c_gains_of (f := fa) (cdv := cdv) (A₁ := callerA) (outer := []) (s := s) (H := H) (E := E0) (room.deeper _) rfl
  have vals : Vals [V.ref a] [Value.ref a] := .cons rfl .nil
  have start0 := inv_start (CX := CX0) (P := P) (w := w) (E := E0) sc_law (rfl : callerA.handled = none) env (rfl : [V.ref a].length = (["_law_script"] : List Str).length) vals x
  have data : DpAll K H [V.ref a] [PyData.list (l.map .int)] := .cons (.lst hS (dpA_intsI l)) .nil
  have goal := run_enter (run l) (ok_start (N := ["_law_script", "_law_ring", "_law_kept", "_law_k", "_law_ways", "_law_whole", "_law_slides", "_law_again", "_law_turned", "_law_one"]) data) (D := { nx := fun _ _ => False, rt := fun v _ => v = .bl true }) ⟨fun _ _ _ _ z => z, fun v H' d fr _ hd _ z => by
    have z : d = .bool true := z
    subst z
    cases hd
    rfl, fun _ _ _ _ z => z, fun _ _ _ _ z => z⟩
  refine wpAny_mono (rules.nox.run [] st _ H _ start0 goal) (fun fl s' out => ?_) fun e s' out => out
  match fl, out with
  | .ret u, ⟨v, σ', H', J, rv, q⟩ => exact ⟨v, H', J.os, J.bare, J.base, J.hok, rv, q⟩
  | .next, ⟨_, _, _, q⟩ => exact False.elim q
  | .brk, ⟨_, _, _, q⟩ => exact False.elim q
  | .cont, ⟨_, _, _, q⟩ => exact False.elim q
/-! ### the heap at the top -/
theorem top_env {s : Shared} {a : Addr} {vs : List Value} {T : Hp} (inK : K.In s.heap) (gl : s.heap.Ns mainGlobals mg) (bl : s.heap.Ns builtinsNs mb) (bb : ∀ x : Str, x ≠ "__name__" → mb x = bootBuiltins x) (nol : s.heap.NoLimit) (gn : s.gens = #[])
    (lst : s.heap.get? a = some { cls := .type "list", data := .seq vs.toArray }) (only : ∀ c, T c ≠ none → c = a ∧ K.lookup a = none) (ok : HOk P w T s.heap) : Env0 P w K mg (hidT s.heap T) callerA [] s T := by
  have free : ∀ c, (c = a → K.lookup a ≠ none) → T c = none := fun c hc => by
    by_cases z : T c = none
    · exact z
    · obtain ⟨e1, e2⟩ := only c z
      exact absurd e2 (hc e1)
  have names : ∀ {c : Addr} {m : Str → Option Value}, s.heap.Ns c m → (hidT s.heap T).Ns c m := fun {c m} n => by
    obtain ⟨o, es, ep, e, d, r⟩ := n
    refine ⟨o, es, ep, hidT_get e (free c fun z => ?_), d, r⟩
    subst z
    rw [lst] at e
    cases e
    have d : Data.seq vs.toArray _ = Data.dict es ep := d
    cases d
  have inB : K.In (hidT s.heap T) := fun c o e => hidT_get (inK c o e) (free c fun z => by subst z; rw [e]; exact fun y => nomatch y)
  obtain ⟨mc, l1, l2⟩ := nol
  exact ⟨rfl, ⟨inB, names gl, ⟨mb, names bl, bb⟩, mc, names l1, l2⟩, fun c o e => of_hidT e, Nat.le_of_eq (hidT_size _ _), trivial, fun c hc => (nomatch (show c ∈ ([] : List Addr) from hc)), ok, .of_eq gn⟩
theorem top_run {s : Shared} {fa a : Addr} {vs : List Value} {ns : List Int} (inK : K.In s.heap) (gl : s.heap.Ns mainGlobals mg) (bl : s.heap.Ns builtinsNs mb) (bb : ∀ x : Str, x ≠ "__name__" → mb x = bootBuiltins x) (nol : s.heap.NoLimit) (gn : s.gens = #[])
    (lst : s.heap.get? a = some { cls := .type "list", data := .seq vs.toArray }) (nums : IntsAre vs ns) (short : ns.length ≤ sizeLine) (R : Ready P w K mg fa) :
    codeAny (model P w) callerA (.call (.ref fa) ⟨[.ref a], []⟩) (fun r s' => r = .ok (.ret (.bool true)) ∧ OldK s.heap s'.heap ∧ s'.os = s.os ∧ AllBare s'.gens) s := by
  have vals := vals_ints nums
  have many : vs.length ≤ sizeLine := by rw [nums.length]; exact short
  have main : ∀ T : Hp, (∀ c, T c ≠ none → c = a ∧ K.lookup a = none) → (∀ c u, T c = some u → ∃ o xs, u = .frz o (.lst xs)) → HOk P w T s.heap → SqL K T a (ns.map V.int) →
      codeAny (model P w) callerA (.call (.ref fa) ⟨[.ref a], []⟩) (fun r s' => r = .ok (.ret (.bool true)) ∧ OldK s.heap s'.heap ∧ s'.os = s.os ∧ AllBare s'.gens) s := by
    intro T only froz ok hS
    refine codeAny_mono (R _ s T a ns (top_env inK gl bl bb nol gn lst only ok) hS) fun r s' out => ?_
    match r, out with
    | .error e, z => exact (show False from z).elim
    | .ok .next, z => exact (show False from z).elim
    | .ok .brk, z => exact (show False from z).elim
    | .ok .cont, z => exact (show False from z).elim
    | .ok (.ret u), ⟨v, H', os, bare, un, ok', rv, q⟩ =>
      have q : v = .bl true := q
      subst q
      have eu : u = Value.bool true := rv
      subst eu
      refine ⟨rfl, OldK.of_keep fun c o e => ?_, os, bare⟩
      cases z : T c with
      | none => exact un.keep c o e z (fun y => nomatch (show c ∈ ([] : List Addr) from y)) fun y => nomatch y
      | some x =>
        obtain ⟨o', xs, rfl⟩ := froz c x z
        have g1 := (ok c _ z).1
        have g2 := (ok' c _ (un.frzs c o' _ z)).1
        rw [e] at g1
        cases g1
        exact g2
  cases known : K.lookup a with
  | some o =>
    have e := inK a o known
    rw [lst] at e
    cases e
    exact main (fun _ => none) (fun c z => absurd rfl z) (fun c u z => nomatch z) (fun c u z => nomatch z) (.inr ⟨_, vs.toArray, _, known, rfl, rfl, rfl, by rw [List.size_toArray]; exact many, by simpa using vals⟩)
  | none =>
    let T : Hp := fun c => if c = a then some (.frz { cls := .type "list", data := .seq vs.toArray } (.lst (ns.map V.int))) else none
    have Ta : T a = some (.frz { cls := .type "list", data := .seq vs.toArray } (.lst (ns.map V.int))) := if_pos rfl
    have Tc : ∀ c, c ≠ a → T c = none := fun c n => if_neg n
    refine main T (fun c z => ⟨?_, known⟩) (fun c u z => ?_) (fun c u z => ?_) (.inl (.inr ⟨_, Ta⟩))
    · by_cases n : c = a
      · exact n
      · exact absurd (Tc c n) z
    · by_cases n : c = a
      · subst n
        rw [Ta] at z
        cases z
        exact ⟨_, _, rfl⟩
      · rw [Tc c n] at z
        cases z
    · by_cases n : c = a
      · subst n
        rw [Ta] at z
        cases z
        exact ⟨lst, by rw [List.length_map]; exact short, vs, _, vals, lst⟩
      · rw [Tc c n] at z
        cases z
end
theorem walk_top {l : PySem.W.OpenLaw} {q : Program} {loose : List Str} {XP : (Str → Option Value) → Heap → Prop} {YP : World → Heap → Prop} {d : DefRec} {K : Params → PySem.W.Frag} (most : l.most = some 63) (plain : d.params.defaults = [])
    (written : ∀ (w : World) (h : Heap), YP w h → (K w.params).In h) (ready : ∀ (w : World) (mg : Str → Option Value) (fa : Addr) (h : Heap), (K w.params).In h → h.Ns mainGlobals mg → mg d.name = some (.ref fa) → Ready l.prog w (K w.params) mg fa) :
    PySem.W.WalkO q loose XP YP l.row.toRowW d [] (fun f vs => PySem.call f vs) := by
  refine Att.attach_call most plain ?_
  intro w s0 s1 mg mb fa o pm cd doc a vs ns ground known _ _ _ named script nums short gens
  have inK := written w _ known
  exact top_run inK ground.T.g ground.T.b ground.T.builtins ground.T.nolimit gens script nums (Nat.le_trans short (by decide)) (ready w mg fa _ inK ground.T.g named)
section
variable {P : Program} {w : World} {K : PySem.W.Frag} {mg : Str → Option Value} {aN aB : Addr}
theorem ready_of (T : Txt K mg aN aB) (d_is_whole : DefAt K mg "is_whole" s_is_whole ["thing"]) (d_common : DefAt K mg "common" s_common ["one", "other"]) (d_under : DefAt K mg "under" s_under ["one", "other"]) (d_do_cross : DefAt K mg "do_cross" s_do_cross ["ring", "k", "l"]) (d_other_way : DefAt K mg "other_way" s_other_way ["way"]) (d_ties_of : DefAt K mg "ties_of" s_ties_of ["ring", "k", "way"]) (d_is_over : DefAt K mg "is_over" s_is_over ["ring", "k", "way", "tie"]) (d_are_ways : DefAt K mg "are_ways" s_are_ways ["ring", "thing"]) (d_sent_by : DefAt K mg "sent_by" s_sent_by ["ring", "ways"]) (d_is_way : DefAt K mg "is_way" s_is_way ["thing"]) (d_rising_way : DefAt K mg "rising_way" s_rising_way ["ring", "k"]) (d_in_order : DefAt K mg "in_order" s_in_order ["ring", "some"]) (d__law_begun : DefAt K mg "_law_begun" s__law_begun ["_law_script", "_law_k"]) (d__law_take : DefAt K mg "_law_take" s__law_take ["_law_state", "_law_many"]) (d__law_low : DefAt K mg "_law_low" s__law_low ["_law_top", "_law_bottom"]) (d__law_under : DefAt K mg "_law_under" s__law_under ["_law_one", "_law_other"]) (d__law_ties : DefAt K mg "_law_ties" s__law_ties ["_law_ring", "_law_k", "_law_way"]) (d_is_ratio : DefAt K mg "is_ratio" s_is_ratio ["thing"]) (d_lowered : DefAt K mg "lowered" s_lowered ["top", "bottom"]) (d_greater : DefAt K mg "greater" s_greater ["one", "other"]) (d_lesser : DefAt K mg "lesser" s_lesser ["one", "other"]) (d_is_parted : DefAt K mg "is_parted" s_is_parted ["ring", "sending", "k"]) (d_all_cross : DefAt K mg "all_cross" s_all_cross ["ring", "some"]) (d_is_number : DefAt K mg "is_number" s_is_number ["thing", "many"]) (d_are_apart : DefAt K mg "are_apart" s_are_apart ["ring", "k", "way", "l", "other"]) (d__law_amount : DefAt K mg "_law_amount" s__law_amount ["_law_state", "_law_least", "_law_kind"]) (d__law_parts : DefAt K mg "_law_parts" s__law_parts ["_law_state", "_law_ring"]) (d__law_plus : DefAt K mg "_law_plus" s__law_plus ["_law_one", "_law_other"]) (d__law_minus : DefAt K mg "_law_minus" s__law_minus ["_law_one", "_law_other"]) (d__law_greatest : DefAt K mg "_law_greatest" s__law_greatest ["_law_ring", "_law_some"]) (d__law_all_cross : DefAt K mg "_law_all_cross" s__law_all_cross ["_law_ring", "_law_some"]) (d_plus : DefAt K mg "plus" s_plus ["one", "other"]) (d_minus : DefAt K mg "minus" s_minus ["one", "other"]) (d_times : DefAt K mg "times" s_times ["one", "other"]) (d_parted_in : DefAt K mg "parted_in" s_parted_in ["ring", "sending"]) (d_ways_apart : DefAt K mg "ways_apart" s_ways_apart ["ring", "k", "l"]) (d__law_loads : DefAt K mg "_law_loads" s__law_loads ["_law_ring", "_law_sending"]) (d__law_made : DefAt K mg "_law_made" s__law_made ["_law_script"]) (d_loads_of : DefAt K mg "loads_of" s_loads_of ["ring", "sending"]) (d_gone_by : DefAt K mg "gone_by" s_gone_by ["ring", "sending", "k", "way"]) (d_moved : DefAt K mg "moved" s_moved ["sending", "k", "way", "amount"]) (d_half_of_greatest : DefAt K mg "half_of_greatest" s_half_of_greatest ["ring", "some"]) (d_is_slide : DefAt K mg "is_slide" s_is_slide ["ring", "sending", "thing"]) (d_slid : DefAt K mg "slid" s_slid ["sending", "slide"]) (d_next_slide : DefAt K mg "next_slide" s_next_slide ["ring", "sending"]) (d_gain_by : DefAt K mg "gain_by" s_gain_by ["ring", "sending", "k", "way"]) (d_goes_whole : DefAt K mg "goes_whole" s_goes_whole ["ring", "sending", "k", "way"]) (d_gains_of : DefAt K mg "gains_of" s_gains_of ["ring", "sending", "ways"]) (d_slid_by : DefAt K mg "slid_by" s_slid_by ["ring", "sending", "thing"]) (d_slides_for : DefAt K mg "slides_for" s_slides_for ["ring", "sending"]) (d_are_rounded : DefAt K mg "are_rounded" s_are_rounded ["ring", "behind", "ways"]) (d_whole_ways : DefAt K mg "whole_ways" s_whole_ways ["ring", "behind"]) (d_behind_or_none : DefAt K mg "behind_or_none" s_behind_or_none ["ring", "sending", "thing"]) (d_rounding_of : DefAt K mg "rounding_of" s_rounding_of ["ring", "sending"]) (d_lets_rounding : DefAt K mg "lets_rounding" s_lets_rounding ["ring", "sending", "thing"]) (d__law_bent_fall : DefAt K mg "_law_bent_fall" s__law_bent_fall ["_law_ring", "_law_sending", "_law_rounding"]) (d__law_right : DefAt K mg "_law_right" s__law_right ["_law_ring", "_law_sending"]) (d_law : DefAt K mg "law" s_law ["_law_script"]) {fa : Addr} (named : mg "law" = some (.ref fa)) : Ready P w K mg fa := by
  intro base s H a l env hS
  have c_is_whole : Cal P w K mg base 1 "is_whole" ["thing"] (sp_is_whole K) := by
    obtain ⟨f, fd, F⟩ := d_is_whole
    exact ok_is_whole T F 
  have c_common : Cal P w K mg base 1 "common" ["one", "other"] (sp_common K) := by
    obtain ⟨f, fd, F⟩ := d_common
    exact ok_common T F 
  have c_under : Cal P w K mg base 1 "under" ["one", "other"] (sp_under K) := by
    obtain ⟨f, fd, F⟩ := d_under
    exact ok_under T F 
  have c_do_cross : Cal P w K mg base 1 "do_cross" ["ring", "k", "l"] (sp_do_cross K) := by
    obtain ⟨f, fd, F⟩ := d_do_cross
    exact ok_do_cross T F 
  have c_other_way : Cal P w K mg base 1 "other_way" ["way"] (sp_other_way K) := by
    obtain ⟨f, fd, F⟩ := d_other_way
    exact ok_other_way T F 
  have c_ties_of : Cal P w K mg base 1 "ties_of" ["ring", "k", "way"] (sp_ties_of K) := by
    obtain ⟨f, fd, F⟩ := d_ties_of
    exact ok_ties_of T F 
  have c_is_over : Cal P w K mg base 1 "is_over" ["ring", "k", "way", "tie"] (sp_is_over K) := by
    obtain ⟨f, fd, F⟩ := d_is_over
    exact ok_is_over T F 
  have c_are_ways : Cal P w K mg base 1 "are_ways" ["ring", "thing"] (sp_are_ways K) := by
    obtain ⟨f, fd, F⟩ := d_are_ways
    exact ok_are_ways T F 
  have c_sent_by : Cal P w K mg base 1 "sent_by" ["ring", "ways"] (sp_sent_by K) := by
    obtain ⟨f, fd, F⟩ := d_sent_by
    exact ok_sent_by T F 
  have c_is_way : Cal P w K mg base 1 "is_way" ["thing"] (sp_is_way K) := by
    obtain ⟨f, fd, F⟩ := d_is_way
    exact ok_is_way T F 
  have c_rising_way : Cal P w K mg base 1 "rising_way" ["ring", "k"] (sp_rising_way K) := by
    obtain ⟨f, fd, F⟩ := d_rising_way
    exact ok_rising_way T F 
  have c_in_order : Cal P w K mg base 1 "in_order" ["ring", "some"] (sp_in_order K) := by
    obtain ⟨f, fd, F⟩ := d_in_order
    exact ok_in_order T F 
  have c__law_begun : Cal P w K mg base 1 "_law_begun" ["_law_script", "_law_k"] (sp__law_begun K) := by
    obtain ⟨f, fd, F⟩ := d__law_begun
    exact ok__law_begun T F 
  have c__law_take : Cal P w K mg base 1 "_law_take" ["_law_state", "_law_many"] (sp__law_take K) := by
    obtain ⟨f, fd, F⟩ := d__law_take
    exact ok__law_take T F 
  have c__law_low : Cal P w K mg base 1 "_law_low" ["_law_top", "_law_bottom"] (sp__law_low K) := by
    obtain ⟨f, fd, F⟩ := d__law_low
    exact ok__law_low T F 
  have c__law_under : Cal P w K mg base 1 "_law_under" ["_law_one", "_law_other"] (sp__law_under K) := by
    obtain ⟨f, fd, F⟩ := d__law_under
    exact ok__law_under T F 
  have c__law_ties : Cal P w K mg base 1 "_law_ties" ["_law_ring", "_law_k", "_law_way"] (sp__law_ties K) := by
    obtain ⟨f, fd, F⟩ := d__law_ties
    exact ok__law_ties T F 
  have c_is_ratio : Cal P w K mg base 2 "is_ratio" ["thing"] (sp_is_ratio K) := by
    obtain ⟨f, fd, F⟩ := d_is_ratio
    exact ok_is_ratio T F (c_is_whole := c_is_whole) (c_common := c_common)
  have c_lowered : Cal P w K mg base 2 "lowered" ["top", "bottom"] (sp_lowered K) := by
    obtain ⟨f, fd, F⟩ := d_lowered
    exact ok_lowered T F (c_common := c_common)
  have c_greater : Cal P w K mg base 2 "greater" ["one", "other"] (sp_greater K) := by
    obtain ⟨f, fd, F⟩ := d_greater
    exact ok_greater T F (c_under := c_under)
  have c_lesser : Cal P w K mg base 2 "lesser" ["one", "other"] (sp_lesser K) := by
    obtain ⟨f, fd, F⟩ := d_lesser
    exact ok_lesser T F (c_under := c_under)
  have c_is_parted : Cal P w K mg base 2 "is_parted" ["ring", "sending", "k"] (sp_is_parted K) := by
    obtain ⟨f, fd, F⟩ := d_is_parted
    exact ok_is_parted T F (c_under := c_under)
  have c_all_cross : Cal P w K mg base 2 "all_cross" ["ring", "some"] (sp_all_cross K) := by
    obtain ⟨f, fd, F⟩ := d_all_cross
    exact ok_all_cross T F (c_do_cross := c_do_cross)
  have c_is_number : Cal P w K mg base 2 "is_number" ["thing", "many"] (sp_is_number K) := by
    obtain ⟨f, fd, F⟩ := d_is_number
    exact ok_is_number T F (c_is_whole := c_is_whole)
  have c_are_apart : Cal P w K mg base 2 "are_apart" ["ring", "k", "way", "l", "other"] (sp_are_apart K) := by
    obtain ⟨f, fd, F⟩ := d_are_apart
    exact ok_are_apart T F (c_ties_of := c_ties_of)
  have c__law_amount : Cal P w K mg base 2 "_law_amount" ["_law_state", "_law_least", "_law_kind"] (sp__law_amount K) := by
    obtain ⟨f, fd, F⟩ := d__law_amount
    exact ok__law_amount T F (c__law_low := c__law_low) (c__law_take := c__law_take)
  have c__law_parts : Cal P w K mg base 2 "_law_parts" ["_law_state", "_law_ring"] (sp__law_parts K) := by
    obtain ⟨f, fd, F⟩ := d__law_parts
    exact ok__law_parts T F (c__law_take := c__law_take) (c__law_low := c__law_low)
  have c__law_plus : Cal P w K mg base 2 "_law_plus" ["_law_one", "_law_other"] (sp__law_plus K) := by
    obtain ⟨f, fd, F⟩ := d__law_plus
    exact ok__law_plus T F (c__law_low := c__law_low)
  have c__law_minus : Cal P w K mg base 2 "_law_minus" ["_law_one", "_law_other"] (sp__law_minus K) := by
    obtain ⟨f, fd, F⟩ := d__law_minus
    exact ok__law_minus T F (c__law_low := c__law_low)
  have c__law_greatest : Cal P w K mg base 2 "_law_greatest" ["_law_ring", "_law_some"] (sp__law_greatest K) := by
    obtain ⟨f, fd, F⟩ := d__law_greatest
    exact ok__law_greatest T F (c__law_under := c__law_under)
  have c__law_all_cross : Cal P w K mg base 2 "_law_all_cross" ["_law_ring", "_law_some"] (sp__law_all_cross K) := by
    obtain ⟨f, fd, F⟩ := d__law_all_cross
    exact ok__law_all_cross T F (c_do_cross := c_do_cross)
  have c_plus : Cal P w K mg base 3 "plus" ["one", "other"] (sp_plus K) := by
    obtain ⟨f, fd, F⟩ := d_plus
    exact ok_plus T F (c_lowered := c_lowered)
  have c_minus : Cal P w K mg base 3 "minus" ["one", "other"] (sp_minus K) := by
    obtain ⟨f, fd, F⟩ := d_minus
    exact ok_minus T F (c_lowered := c_lowered)
  have c_times : Cal P w K mg base 3 "times" ["one", "other"] (sp_times K) := by
    obtain ⟨f, fd, F⟩ := d_times
    exact ok_times T F (c_lowered := c_lowered)
  have c_parted_in : Cal P w K mg base 3 "parted_in" ["ring", "sending"] (sp_parted_in K) := by
    obtain ⟨f, fd, F⟩ := d_parted_in
    exact ok_parted_in T F (c_is_parted := c_is_parted)
  have c_ways_apart : Cal P w K mg base 3 "ways_apart" ["ring", "k", "l"] (sp_ways_apart K) := by
    obtain ⟨f, fd, F⟩ := d_ways_apart
    exact ok_ways_apart T F (c_are_apart := c_are_apart)
  have c__law_loads : Cal P w K mg base 3 "_law_loads" ["_law_ring", "_law_sending"] (sp__law_loads K) := by
    obtain ⟨f, fd, F⟩ := d__law_loads
    exact ok__law_loads T F (c__law_ties := c__law_ties) (c__law_minus := c__law_minus) (c__law_plus := c__law_plus)
  have c__law_made : Cal P w K mg base 3 "_law_made" ["_law_script"] (sp__law_made K) := by
    obtain ⟨f, fd, F⟩ := d__law_made
    exact ok__law_made T F (c__law_begun := c__law_begun) (c__law_take := c__law_take) (c__law_amount := c__law_amount)
  have c_loads_of : Cal P w K mg base 4 "loads_of" ["ring", "sending"] (sp_loads_of K) := by
    obtain ⟨f, fd, F⟩ := d_loads_of
    exact ok_loads_of T F (c_minus := c_minus) (c_plus := c_plus) (c_is_over := c_is_over)
  have c_gone_by : Cal P w K mg base 4 "gone_by" ["ring", "sending", "k", "way"] (sp_gone_by K) := by
    obtain ⟨f, fd, F⟩ := d_gone_by
    exact ok_gone_by T F (c_minus := c_minus)
  have c_moved : Cal P w K mg base 4 "moved" ["sending", "k", "way", "amount"] (sp_moved K) := by
    obtain ⟨f, fd, F⟩ := d_moved
    exact ok_moved T F (c_plus := c_plus) (c_minus := c_minus)
  have c_half_of_greatest : Cal P w K mg base 4 "half_of_greatest" ["ring", "some"] (sp_half_of_greatest K) := by
    obtain ⟨f, fd, F⟩ := d_half_of_greatest
    exact ok_half_of_greatest T F (c_times := c_times) (c_greater := c_greater)
  have c_is_slide : Cal P w K mg base 5 "is_slide" ["ring", "sending", "thing"] (sp_is_slide K) := by
    obtain ⟨f, fd, F⟩ := d_is_slide
    exact ok_is_slide T F (c_under := c_under) (c_are_apart := c_are_apart) (c_gone_by := c_gone_by) (c_is_number := c_is_number) (c_is_way := c_is_way) (c_is_ratio := c_is_ratio) (c_other_way := c_other_way)
  have c_slid : Cal P w K mg base 5 "slid" ["sending", "slide"] (sp_slid K) := by
    obtain ⟨f, fd, F⟩ := d_slid
    exact ok_slid T F (c_moved := c_moved)
  have c_next_slide : Cal P w K mg base 5 "next_slide" ["ring", "sending"] (sp_next_slide K) := by
    obtain ⟨f, fd, F⟩ := d_next_slide
    exact ok_next_slide T F (c_parted_in := c_parted_in) (c_ways_apart := c_ways_apart) (c_gone_by := c_gone_by) (c_do_cross := c_do_cross) (c_other_way := c_other_way) (c_lesser := c_lesser)
  have c_gain_by : Cal P w K mg base 5 "gain_by" ["ring", "sending", "k", "way"] (sp_gain_by K) := by
    obtain ⟨f, fd, F⟩ := d_gain_by
    exact ok_gain_by T F (c_gone_by := c_gone_by) (c_minus := c_minus) (c_rising_way := c_rising_way)
  have c_goes_whole : Cal P w K mg base 5 "goes_whole" ["ring", "sending", "k", "way"] (sp_goes_whole K) := by
    obtain ⟨f, fd, F⟩ := d_goes_whole
    exact ok_goes_whole T F (c_gone_by := c_gone_by)
  have c_gains_of : Cal P w K mg base 5 "gains_of" ["ring", "sending", "ways"] (sp_gains_of K) := by
    obtain ⟨f, fd, F⟩ := d_gains_of
    exact ok_gains_of T F (c_loads_of := c_loads_of) (c_sent_by := c_sent_by) (c_minus := c_minus)
  have c_slid_by : Cal P w K mg base 6 "slid_by" ["ring", "sending", "thing"] (sp_slid_by K) := by
    obtain ⟨f, fd, F⟩ := d_slid_by
    exact ok_slid_by T F (c_slid := c_slid) (c_is_slide := c_is_slide)
  have c_slides_for : Cal P w K mg base 6 "slides_for" ["ring", "sending"] (sp_slides_for K) := by
    obtain ⟨f, fd, F⟩ := d_slides_for
    exact ok_slides_for T F (c_next_slide := c_next_slide) (c_slid := c_slid)
  have c_are_rounded : Cal P w K mg base 6 "are_rounded" ["ring", "behind", "ways"] (sp_are_rounded K) := by
    obtain ⟨f, fd, F⟩ := d_are_rounded
    exact ok_are_rounded T F (c_parted_in := c_parted_in) (c_half_of_greatest := c_half_of_greatest) (c_in_order := c_in_order) (c_plus := c_plus) (c_gain_by := c_gain_by) (c_under := c_under) (c_goes_whole := c_goes_whole) (c_minus := c_minus)
  have c_whole_ways : Cal P w K mg base 6 "whole_ways" ["ring", "behind"] (sp_whole_ways K) := by
    obtain ⟨f, fd, F⟩ := d_whole_ways
    exact ok_whole_ways T F (c_parted_in := c_parted_in) (c_half_of_greatest := c_half_of_greatest) (c_in_order := c_in_order) (c_rising_way := c_rising_way) (c_under := c_under) (c_plus := c_plus) (c_other_way := c_other_way) (c_gain_by := c_gain_by) (c_goes_whole := c_goes_whole)
  have c_behind_or_none : Cal P w K mg base 7 "behind_or_none" ["ring", "sending", "thing"] (sp_behind_or_none K) := by
    obtain ⟨f, fd, F⟩ := d_behind_or_none
    exact ok_behind_or_none T F (c_slid_by := c_slid_by)
  have c_rounding_of : Cal P w K mg base 7 "rounding_of" ["ring", "sending"] (sp_rounding_of K) := by
    obtain ⟨f, fd, F⟩ := d_rounding_of
    exact ok_rounding_of T F (c_slides_for := c_slides_for) (c_whole_ways := c_whole_ways) (c_slid_by := c_slid_by)
  have c_lets_rounding : Cal P w K mg base 8 "lets_rounding" ["ring", "sending", "thing"] (sp_lets_rounding K) := by
    obtain ⟨f, fd, F⟩ := d_lets_rounding
    exact ok_lets_rounding T F (c_behind_or_none := c_behind_or_none) (c_are_rounded := c_are_rounded) (c_are_ways := c_are_ways) (c_all_cross := c_all_cross) (c_parted_in := c_parted_in)
  have c__law_bent_fall : Cal P w K mg base 9 "_law_bent_fall" ["_law_ring", "_law_sending", "_law_rounding"] (sp__law_bent_fall K) := by
    obtain ⟨f, fd, F⟩ := d__law_bent_fall
    exact ok__law_bent_fall T F (c_lets_rounding := c_lets_rounding) (c_parted_in := c_parted_in) (c_slid_by := c_slid_by)
  have c__law_right : Cal P w K mg base 10 "_law_right" ["_law_ring", "_law_sending"] (sp__law_right K) := by
    obtain ⟨f, fd, F⟩ := d__law_right
    exact ok__law_right T F (c__law_loads := c__law_loads) (c_slid_by := c_slid_by) (c_rounding_of := c_rounding_of) (c_sent_by := c_sent_by) (c__law_greatest := c__law_greatest) (c_gains_of := c_gains_of) (c_slides_for := c_slides_for) (c__law_under := c__law_under) (c__law_bent_fall := c__law_bent_fall) (c_parted_in := c_parted_in) (c__law_minus := c__law_minus) (c__law_all_cross := c__law_all_cross) (c_lets_rounding := c_lets_rounding) (c__law_low := c__law_low)
  obtain ⟨f, fd, F⟩ := d_law
  have e := F.gl.symm.trans named
  cases e
  exact law_at T c__law_made c__law_right c_sent_by c_rounding_of c__law_parts c__law_begun c_gains_of F.fn env hS
end
theorem txt_mk {K : PySem.W.Frag} {h : Heap} {mg : Str → Option Value} (inK : K.In h) (gl : h.Ns mainGlobals mg) {aN aB : Addr} {t1 t2 n1 n2 b1 b2 : Tok} {dN dB : Option Addr} {mN mB : Nat} {sN sB : Array (Option Value)}
    (hON : PySem.W.nsIn K mainGlobals "ON" = some (some (.str "on" t1))) (hBACK : PySem.W.nsIn K mainGlobals "BACK" = some (some (.str "back" t2))) (hNOUGHT : PySem.W.nsIn K mainGlobals "NOUGHT" = some (some (.ref aN))) (hBOTH : PySem.W.nsIn K mainGlobals "BOTH" = some (some (.ref aB)))
    (nN : K.lookup aN = some ⟨.type "tuple", dN, .seq #[.int 0 n1, .int 1 n2] mN, sN⟩) (nB : K.lookup aB = some ⟨.type "tuple", dB, .seq #[.str "on" b1, .str "back" b2] mB, sB⟩)
    (z_len : PySem.W.nsIn K mainGlobals "len" = some none) (z_abs : PySem.W.nsIn K mainGlobals "abs" = some none) (z_min : PySem.W.nsIn K mainGlobals "min" = some none) (z_max : PySem.W.nsIn K mainGlobals "max" = some none) (z_range : PySem.W.nsIn K mainGlobals "range" = some none) (z_enumerate : PySem.W.nsIn K mainGlobals "enumerate" = some none) (z_zip : PySem.W.nsIn K mainGlobals "zip" = some none) (z_isinstance : PySem.W.nsIn K mainGlobals "isinstance" = some none) (z_int : PySem.W.nsIn K mainGlobals "int" = some none) (z_bool : PySem.W.nsIn K mainGlobals "bool" = some none) (z_str : PySem.W.nsIn K mainGlobals "str" = some none) (z_list : PySem.W.nsIn K mainGlobals "list" = some none) (z_tuple : PySem.W.nsIn K mainGlobals "tuple" = some none) (z_all : PySem.W.nsIn K mainGlobals "all" = some none) (z_sorted : PySem.W.nsIn K mainGlobals "sorted" = some none) (z_repr : PySem.W.nsIn K mainGlobals "repr" = some none) : Txt K mg aN aB where
  hON := ⟨_, PySem.W.mg_of inK gl hON, t1, rfl⟩
  hBACK := ⟨_, PySem.W.mg_of inK gl hBACK, t2, rfl⟩
  hNOUGHT := ⟨_, PySem.W.mg_of inK gl hNOUGHT, rfl⟩
  hBOTH := ⟨_, PySem.W.mg_of inK gl hBOTH, rfl⟩
  nN := fun H => .inr ⟨_, _, _, nN, rfl, rfl, by show 2 ≤ sizeLine; decide, .cons ⟨n1, rfl⟩ (.cons ⟨n2, rfl⟩ .nil)⟩
  nB := fun H => .inr ⟨_, _, _, nB, rfl, rfl, by show 2 ≤ sizeLine; decide, .cons ⟨b1, rfl⟩ (.cons ⟨b2, rfl⟩ .nil)⟩
  b_len := PySem.W.mg_none_of inK gl z_len
  b_abs := PySem.W.mg_none_of inK gl z_abs
  b_min := PySem.W.mg_none_of inK gl z_min
  b_max := PySem.W.mg_none_of inK gl z_max
  b_range := PySem.W.mg_none_of inK gl z_range
  b_enumerate := PySem.W.mg_none_of inK gl z_enumerate
  b_zip := PySem.W.mg_none_of inK gl z_zip
  b_isinstance := PySem.W.mg_none_of inK gl z_isinstance
  b_int := PySem.W.mg_none_of inK gl z_int
  b_bool := PySem.W.mg_none_of inK gl z_bool
  b_str := PySem.W.mg_none_of inK gl z_str
  b_list := PySem.W.mg_none_of inK gl z_list
  b_tuple := PySem.W.mg_none_of inK gl z_tuple
  b_all := PySem.W.mg_none_of inK gl z_all
  b_sorted := PySem.W.mg_none_of inK gl z_sorted
  b_repr := PySem.W.mg_none_of inK gl z_repr
end Rg

open PySem PySem.W PyProof.Rows in
set_option maxRecDepth 100000 in
set_option maxHeartbeats 0 in
theorem PySem.Challenge.cw_ringloads_k91_whole_sendings_rounded_holds : PySem.Challenge.rw_ringloads_k91_whole_sendings_rounded.Holds := by
  w_on; o_law; k_head; (case hw => w_witness2)
  k_fill
  refine Rg.walk_top (l := PySem.Challenge.rw_ringloads_k91_whole_sendings_rounded) rfl rfl (fun w h Y => PySem.W.kIn_of Y) ?F
  case F =>
    intro w mg fa h KX G hmg
    have T : ∃ aN aB, Rg.Txt (L2.KOf KX) mg aN aB := by
      refine' ⟨_, _, Rg.txt_mk KX G ?x0 ?x1 ?x2 ?x3 ?x4 ?x5 ?z_len ?z_abs ?z_min ?z_max ?z_range ?z_enumerate ?z_zip ?z_isinstance ?z_int ?z_bool ?z_str ?z_list ?z_tuple ?z_all ?z_sorted ?z_repr⟩
      (case x0 => k_is)
      (case x1 => k_is)
      (case x2 => k_is)
      (case x3 => k_is)
      (case x4 => k_is)
      (case x5 => k_is)
      (case z_len => k_is)
      (case z_abs => k_is)
      (case z_min => k_is)
      (case z_max => k_is)
      (case z_range => k_is)
      (case z_enumerate => k_is)
      (case z_zip => k_is)
      (case z_isinstance => k_is)
      (case z_int => k_is)
      (case z_bool => k_is)
      (case z_str => k_is)
      (case z_list => k_is)
      (case z_tuple => k_is)
      (case z_all => k_is)
      (case z_sorted => k_is)
      (case z_repr => k_is)
    obtain ⟨aN, aB, T⟩ := T
    have d_is_whole : Rg.DefAt (L2.KOf KX) mg "is_whole" Rg.s_is_whole ["thing"] := by
      refine' Rg.df_mk KX G ?a0 ?l0 ?c0 ?k0 (fun _ _ _ _ _ _ us hl => match us, hl with | [_], _ => rfl)
      (case a0 => k_is); (case l0 => k_is); (case c0 => k_is); (case k0 => k_is)
    have d_common : Rg.DefAt (L2.KOf KX) mg "common" Rg.s_common ["one", "other"] := by
      refine' Rg.df_mk KX G ?a1 ?l1 ?c1 ?k1 (fun _ _ _ _ _ _ us hl => match us, hl with | [_, _], _ => rfl)
      (case a1 => k_is); (case l1 => k_is); (case c1 => k_is); (case k1 => k_is)
    have d_under : Rg.DefAt (L2.KOf KX) mg "under" Rg.s_under ["one", "other"] := by
      refine' Rg.df_mk KX G ?a2 ?l2 ?c2 ?k2 (fun _ _ _ _ _ _ us hl => match us, hl with | [_, _], _ => rfl)
      (case a2 => k_is); (case l2 => k_is); (case c2 => k_is); (case k2 => k_is)
    have d_do_cross : Rg.DefAt (L2.KOf KX) mg "do_cross" Rg.s_do_cross ["ring", "k", "l"] := by
      refine' Rg.df_mk KX G ?a3 ?l3 ?c3 ?k3 (fun _ _ _ _ _ _ us hl => match us, hl with | [_, _, _], _ => rfl)
      (case a3 => k_is); (case l3 => k_is); (case c3 => k_is); (case k3 => k_is)
    have d_other_way : Rg.DefAt (L2.KOf KX) mg "other_way" Rg.s_other_way ["way"] := by
      refine' Rg.df_mk KX G ?a4 ?l4 ?c4 ?k4 (fun _ _ _ _ _ _ us hl => match us, hl with | [_], _ => rfl)
      (case a4 => k_is); (case l4 => k_is); (case c4 => k_is); (case k4 => k_is)
    have d_ties_of : Rg.DefAt (L2.KOf KX) mg "ties_of" Rg.s_ties_of ["ring", "k", "way"] := by
      refine' Rg.df_mk KX G ?a5 ?l5 ?c5 ?k5 (fun _ _ _ _ _ _ us hl => match us, hl with | [_, _, _], _ => rfl)
      (case a5 => k_is); (case l5 => k_is); (case c5 => k_is); (case k5 => k_is)
    have d_is_over : Rg.DefAt (L2.KOf KX) mg "is_over" Rg.s_is_over ["ring", "k", "way", "tie"] := by
      refine' Rg.df_mk KX G ?a6 ?l6 ?c6 ?k6 (fun _ _ _ _ _ _ us hl => match us, hl with | [_, _, _, _], _ => rfl)
      (case a6 => k_is); (case l6 => k_is); (case c6 => k_is); (case k6 => k_is)
    have d_are_ways : Rg.DefAt (L2.KOf KX) mg "are_ways" Rg.s_are_ways ["ring", "thing"] := by
      refine' Rg.df_mk KX G ?a7 ?l7 ?c7 ?k7 (fun _ _ _ _ _ _ us hl => match us, hl with | [_, _], _ => rfl)
      (case a7 => k_is); (case l7 => k_is); (case c7 => k_is); (case k7 => k_is)
    have d_sent_by : Rg.DefAt (L2.KOf KX) mg "sent_by" Rg.s_sent_by ["ring", "ways"] := by
      refine' Rg.df_mk KX G ?a8 ?l8 ?c8 ?k8 (fun _ _ _ _ _ _ us hl => match us, hl with | [_, _], _ => rfl)
      (case a8 => k_is); (case l8 => k_is); (case c8 => k_is); (case k8 => k_is)
    have d_is_way : Rg.DefAt (L2.KOf KX) mg "is_way" Rg.s_is_way ["thing"] := by
      refine' Rg.df_mk KX G ?a9 ?l9 ?c9 ?k9 (fun _ _ _ _ _ _ us hl => match us, hl with | [_], _ => rfl)
      (case a9 => k_is); (case l9 => k_is); (case c9 => k_is); (case k9 => k_is)
    have d_rising_way : Rg.DefAt (L2.KOf KX) mg "rising_way" Rg.s_rising_way ["ring", "k"] := by
      refine' Rg.df_mk KX G ?a10 ?l10 ?c10 ?k10 (fun _ _ _ _ _ _ us hl => match us, hl with | [_, _], _ => rfl)
      (case a10 => k_is); (case l10 => k_is); (case c10 => k_is); (case k10 => k_is)
    have d_in_order : Rg.DefAt (L2.KOf KX) mg "in_order" Rg.s_in_order ["ring", "some"] := by
      refine' Rg.df_mk KX G ?a11 ?l11 ?c11 ?k11 (fun _ _ _ _ _ _ us hl => match us, hl with | [_, _], _ => rfl)
      (case a11 => k_is); (case l11 => k_is); (case c11 => k_is); (case k11 => k_is)
    have d__law_begun : Rg.DefAt (L2.KOf KX) mg "_law_begun" Rg.s__law_begun ["_law_script", "_law_k"] := by
      refine' Rg.df_mk KX G ?a12 ?l12 ?c12 ?k12 (fun _ _ _ _ _ _ us hl => match us, hl with | [_, _], _ => rfl)
      (case a12 => k_is); (case l12 => k_is); (case c12 => k_is); (case k12 => k_is)
    have d__law_take : Rg.DefAt (L2.KOf KX) mg "_law_take" Rg.s__law_take ["_law_state", "_law_many"] := by
      refine' Rg.df_mk KX G ?a13 ?l13 ?c13 ?k13 (fun _ _ _ _ _ _ us hl => match us, hl with | [_, _], _ => rfl)
      (case a13 => k_is); (case l13 => k_is); (case c13 => k_is); (case k13 => k_is)
    have d__law_low : Rg.DefAt (L2.KOf KX) mg "_law_low" Rg.s__law_low ["_law_top", "_law_bottom"] := by
      refine' Rg.df_mk KX G ?a14 ?l14 ?c14 ?k14 (fun _ _ _ _ _ _ us hl => match us, hl with | [_, _], _ => rfl)
      (case a14 => k_is); (case l14 => k_is); (case c14 => k_is); (case k14 => k_is)
    have d__law_under : Rg.DefAt (L2.KOf KX) mg "_law_under" Rg.s__law_under ["_law_one", "_law_other"] := by
      refine' Rg.df_mk KX G ?a15 ?l15 ?c15 ?k15 (fun _ _ _ _ _ _ us hl => match us, hl with | [_, _], _ => rfl)
      (case a15 => k_is); (case l15 => k_is); (case c15 => k_is); (case k15 => k_is)
    have d__law_ties : Rg.DefAt (L2.KOf KX) mg "_law_ties" Rg.s__law_ties ["_law_ring", "_law_k", "_law_way"] := by
      refine' Rg.df_mk KX G ?a16 ?l16 ?c16 ?k16 (fun _ _ _ _ _ _ us hl => match us, hl with | [_, _, _], _ => rfl)
      (case a16 => k_is); (case l16 => k_is); (case c16 => k_is); (case k16 => k_is)
    have d_is_ratio : Rg.DefAt (L2.KOf KX) mg "is_ratio" Rg.s_is_ratio ["thing"] := by
      refine' Rg.df_mk KX G ?a17 ?l17 ?c17 ?k17 (fun _ _ _ _ _ _ us hl => match us, hl with | [_], _ => rfl)
      (case a17 => k_is); (case l17 => k_is); (case c17 => k_is); (case k17 => k_is)
    have d_lowered : Rg.DefAt (L2.KOf KX) mg "lowered" Rg.s_lowered ["top", "bottom"] := by
      refine' Rg.df_mk KX G ?a18 ?l18 ?c18 ?k18 (fun _ _ _ _ _ _ us hl => match us, hl with | [_, _], _ => rfl)
      (case a18 => k_is); (case l18 => k_is); (case c18 => k_is); (case k18 => k_is)
    have d_greater : Rg.DefAt (L2.KOf KX) mg "greater" Rg.s_greater ["one", "other"] := by
      refine' Rg.df_mk KX G ?a19 ?l19 ?c19 ?k19 (fun _ _ _ _ _ _ us hl => match us, hl with | [_, _], _ => rfl)
      (case a19 => k_is); (case l19 => k_is); (case c19 => k_is); (case k19 => k_is)
    have d_lesser : Rg.DefAt (L2.KOf KX) mg "lesser" Rg.s_lesser ["one", "other"] := by
      refine' Rg.df_mk KX G ?a20 ?l20 ?c20 ?k20 (fun _ _ _ _ _ _ us hl => match us, hl with | [_, _], _ => rfl)
      (case a20 => k_is); (case l20 => k_is); (case c20 => k_is); (case k20 => k_is)
    have d_is_parted : Rg.DefAt (L2.KOf KX) mg "is_parted" Rg.s_is_parted ["ring", "sending", "k"] := by
      refine' Rg.df_mk KX G ?a21 ?l21 ?c21 ?k21 (fun _ _ _ _ _ _ us hl => match us, hl with | [_, _, _], _ => rfl)
      (case a21 => k_is); (case l21 => k_is); (case c21 => k_is); (case k21 => k_is)
    have d_all_cross : Rg.DefAt (L2.KOf KX) mg "all_cross" Rg.s_all_cross ["ring", "some"] := by
      refine' Rg.df_mk KX G ?a22 ?l22 ?c22 ?k22 (fun _ _ _ _ _ _ us hl => match us, hl with | [_, _], _ => rfl)
      (case a22 => k_is); (case l22 => k_is); (case c22 => k_is); (case k22 => k_is)
    have d_is_number : Rg.DefAt (L2.KOf KX) mg "is_number" Rg.s_is_number ["thing", "many"] := by
      refine' Rg.df_mk KX G ?a23 ?l23 ?c23 ?k23 (fun _ _ _ _ _ _ us hl => match us, hl with | [_, _], _ => rfl)
      (case a23 => k_is); (case l23 => k_is); (case c23 => k_is); (case k23 => k_is)
    have d_are_apart : Rg.DefAt (L2.KOf KX) mg "are_apart" Rg.s_are_apart ["ring", "k", "way", "l", "other"] := by
      refine' Rg.df_mk KX G ?a24 ?l24 ?c24 ?k24 (fun _ _ _ _ _ _ us hl => match us, hl with | [_, _, _, _, _], _ => rfl)
      (case a24 => k_is); (case l24 => k_is); (case c24 => k_is); (case k24 => k_is)
    have d__law_amount : Rg.DefAt (L2.KOf KX) mg "_law_amount" Rg.s__law_amount ["_law_state", "_law_least", "_law_kind"] := by
      refine' Rg.df_mk KX G ?a25 ?l25 ?c25 ?k25 (fun _ _ _ _ _ _ us hl => match us, hl with | [_, _, _], _ => rfl)
      (case a25 => k_is); (case l25 => k_is); (case c25 => k_is); (case k25 => k_is)
    have d__law_parts : Rg.DefAt (L2.KOf KX) mg "_law_parts" Rg.s__law_parts ["_law_state", "_law_ring"] := by
      refine' Rg.df_mk KX G ?a26 ?l26 ?c26 ?k26 (fun _ _ _ _ _ _ us hl => match us, hl with | [_, _], _ => rfl)
      (case a26 => k_is); (case l26 => k_is); (case c26 => k_is); (case k26 => k_is)
    have d__law_plus : Rg.DefAt (L2.KOf KX) mg "_law_plus" Rg.s__law_plus ["_law_one", "_law_other"] := by
      refine' Rg.df_mk KX G ?a27 ?l27 ?c27 ?k27 (fun _ _ _ _ _ _ us hl => match us, hl with | [_, _], _ => rfl)
      (case a27 => k_is); (case l27 => k_is); (case c27 => k_is); (case k27 => k_is)
    have d__law_minus : Rg.DefAt (L2.KOf KX) mg "_law_minus" Rg.s__law_minus ["_law_one", "_law_other"] := by
      refine' Rg.df_mk KX G ?a28 ?l28 ?c28 ?k28 (fun _ _ _ _ _ _ us hl => match us, hl with | [_, _], _ => rfl)
      (case a28 => k_is); (case l28 => k_is); (case c28 => k_is); (case k28 => k_is)
    have d__law_greatest : Rg.DefAt (L2.KOf KX) mg "_law_greatest" Rg.s__law_greatest ["_law_ring", "_law_some"] := by
      refine' Rg.df_mk KX G ?a29 ?l29 ?c29 ?k29 (fun _ _ _ _ _ _ us hl => match us, hl with | [_, _], _ => rfl)
      (case a29 => k_is); (case l29 => k_is); (case c29 => k_is); (case k29 => k_is)
    have d__law_all_cross : Rg.DefAt (L2.KOf KX) mg "_law_all_cross" Rg.s__law_all_cross ["_law_ring", "_law_some"] := by
      refine' Rg.df_mk KX G ?a30 ?l30 ?c30 ?k30 (fun _ _ _ _ _ _ us hl => match us, hl with | [_, _], _ => rfl)
      (case a30 => k_is); (case l30 => k_is); (case c30 => k_is); (case k30 => k_is)
    have d_plus : Rg.DefAt (L2.KOf KX) mg "plus" Rg.s_plus ["one", "other"] := by
      refine' Rg.df_mk KX G ?a31 ?l31 ?c31 ?k31 (fun _ _ _ _ _ _ us hl => match us, hl with | [_, _], _ => rfl)
      (case a31 => k_is); (case l31 => k_is); (case c31 => k_is); (case k31 => k_is)
    have d_minus : Rg.DefAt (L2.KOf KX) mg "minus" Rg.s_minus ["one", "other"] := by
      refine' Rg.df_mk KX G ?a32 ?l32 ?c32 ?k32 (fun _ _ _ _ _ _ us hl => match us, hl with | [_, _], _ => rfl)
      (case a32 => k_is); (case l32 => k_is); (case c32 => k_is); (case k32 => k_is)
    have d_times : Rg.DefAt (L2.KOf KX) mg "times" Rg.s_times ["one", "other"] := by
      refine' Rg.df_mk KX G ?a33 ?l33 ?c33 ?k33 (fun _ _ _ _ _ _ us hl => match us, hl with | [_, _], _ => rfl)
      (case a33 => k_is); (case l33 => k_is); (case c33 => k_is); (case k33 => k_is)
    have d_parted_in : Rg.DefAt (L2.KOf KX) mg "parted_in" Rg.s_parted_in ["ring", "sending"] := by
      refine' Rg.df_mk KX G ?a34 ?l34 ?c34 ?k34 (fun _ _ _ _ _ _ us hl => match us, hl with | [_, _], _ => rfl)
      (case a34 => k_is); (case l34 => k_is); (case c34 => k_is); (case k34 => k_is)
    have d_ways_apart : Rg.DefAt (L2.KOf KX) mg "ways_apart" Rg.s_ways_apart ["ring", "k", "l"] := by
      refine' Rg.df_mk KX G ?a35 ?l35 ?c35 ?k35 (fun _ _ _ _ _ _ us hl => match us, hl with | [_, _, _], _ => rfl)
      (case a35 => k_is); (case l35 => k_is); (case c35 => k_is); (case k35 => k_is)
    have d__law_loads : Rg.DefAt (L2.KOf KX) mg "_law_loads" Rg.s__law_loads ["_law_ring", "_law_sending"] := by
      refine' Rg.df_mk KX G ?a36 ?l36 ?c36 ?k36 (fun _ _ _ _ _ _ us hl => match us, hl with | [_, _], _ => rfl)
      (case a36 => k_is); (case l36 => k_is); (case c36 => k_is); (case k36 => k_is)
    have d__law_made : Rg.DefAt (L2.KOf KX) mg "_law_made" Rg.s__law_made ["_law_script"] := by
      refine' Rg.df_mk KX G ?a37 ?l37 ?c37 ?k37 (fun _ _ _ _ _ _ us hl => match us, hl with | [_], _ => rfl)
      (case a37 => k_is); (case l37 => k_is); (case c37 => k_is); (case k37 => k_is)
    have d_loads_of : Rg.DefAt (L2.KOf KX) mg "loads_of" Rg.s_loads_of ["ring", "sending"] := by
      refine' Rg.df_mk KX G ?a38 ?l38 ?c38 ?k38 (fun _ _ _ _ _ _ us hl => match us, hl with | [_, _], _ => rfl)
      (case a38 => k_is); (case l38 => k_is); (case c38 => k_is); (case k38 => k_is)
    have d_gone_by : Rg.DefAt (L2.KOf KX) mg "gone_by" Rg.s_gone_by ["ring", "sending", "k", "way"] := by
      refine' Rg.df_mk KX G ?a39 ?l39 ?c39 ?k39 (fun _ _ _ _ _ _ us hl => match us, hl with | [_, _, _, _], _ => rfl)
      (case a39 => k_is); (case l39 => k_is); (case c39 => k_is); (case k39 => k_is)
    have d_moved : Rg.DefAt (L2.KOf KX) mg "moved" Rg.s_moved ["sending", "k", "way", "amount"] := by
      refine' Rg.df_mk KX G ?a40 ?l40 ?c40 ?k40 (fun _ _ _ _ _ _ us hl => match us, hl with | [_, _, _, _], _ => rfl)
      (case a40 => k_is); (case l40 => k_is); (case c40 => k_is); (case k40 => k_is)
    have d_half_of_greatest : Rg.DefAt (L2.KOf KX) mg "half_of_greatest" Rg.s_half_of_greatest ["ring", "some"] := by
      refine' Rg.df_mk KX G ?a41 ?l41 ?c41 ?k41 (fun _ _ _ _ _ _ us hl => match us, hl with | [_, _], _ => rfl)
      (case a41 => k_is); (case l41 => k_is); (case c41 => k_is); (case k41 => k_is)
    have d_is_slide : Rg.DefAt (L2.KOf KX) mg "is_slide" Rg.s_is_slide ["ring", "sending", "thing"] := by
      refine' Rg.df_mk KX G ?a42 ?l42 ?c42 ?k42 (fun _ _ _ _ _ _ us hl => match us, hl with | [_, _, _], _ => rfl)
      (case a42 => k_is); (case l42 => k_is); (case c42 => k_is); (case k42 => k_is)
    have d_slid : Rg.DefAt (L2.KOf KX) mg "slid" Rg.s_slid ["sending", "slide"] := by
      refine' Rg.df_mk KX G ?a43 ?l43 ?c43 ?k43 (fun _ _ _ _ _ _ us hl => match us, hl with | [_, _], _ => rfl)
      (case a43 => k_is); (case l43 => k_is); (case c43 => k_is); (case k43 => k_is)
    have d_next_slide : Rg.DefAt (L2.KOf KX) mg "next_slide" Rg.s_next_slide ["ring", "sending"] := by
      refine' Rg.df_mk KX G ?a44 ?l44 ?c44 ?k44 (fun _ _ _ _ _ _ us hl => match us, hl with | [_, _], _ => rfl)
      (case a44 => k_is); (case l44 => k_is); (case c44 => k_is); (case k44 => k_is)
    have d_gain_by : Rg.DefAt (L2.KOf KX) mg "gain_by" Rg.s_gain_by ["ring", "sending", "k", "way"] := by
      refine' Rg.df_mk KX G ?a45 ?l45 ?c45 ?k45 (fun _ _ _ _ _ _ us hl => match us, hl with | [_, _, _, _], _ => rfl)
      (case a45 => k_is); (case l45 => k_is); (case c45 => k_is); (case k45 => k_is)
    have d_goes_whole : Rg.DefAt (L2.KOf KX) mg "goes_whole" Rg.s_goes_whole ["ring", "sending", "k", "way"] := by
      refine' Rg.df_mk KX G ?a46 ?l46 ?c46 ?k46 (fun _ _ _ _ _ _ us hl => match us, hl with | [_, _, _, _], _ => rfl)
      (case a46 => k_is); (case l46 => k_is); (case c46 => k_is); (case k46 => k_is)
    have d_gains_of : Rg.DefAt (L2.KOf KX) mg "gains_of" Rg.s_gains_of ["ring", "sending", "ways"] := by
      refine' Rg.df_mk KX G ?a47 ?l47 ?c47 ?k47 (fun _ _ _ _ _ _ us hl => match us, hl with | [_, _, _], _ => rfl)
      (case a47 => k_is); (case l47 => k_is); (case c47 => k_is); (case k47 => k_is)
    have d_slid_by : Rg.DefAt (L2.KOf KX) mg "slid_by" Rg.s_slid_by ["ring", "sending", "thing"] := by
      refine' Rg.df_mk KX G ?a48 ?l48 ?c48 ?k48 (fun _ _ _ _ _ _ us hl => match us, hl with | [_, _, _], _ => rfl)
      (case a48 => k_is); (case l48 => k_is); (case c48 => k_is); (case k48 => k_is)
    have d_slides_for : Rg.DefAt (L2.KOf KX) mg "slides_for" Rg.s_slides_for ["ring", "sending"] := by
      refine' Rg.df_mk KX G ?a49 ?l49 ?c49 ?k49 (fun _ _ _ _ _ _ us hl => match us, hl with | [_, _], _ => rfl)
      (case a49 => k_is); (case l49 => k_is); (case c49 => k_is); (case k49 => k_is)
    have d_are_rounded : Rg.DefAt (L2.KOf KX) mg "are_rounded" Rg.s_are_rounded ["ring", "behind", "ways"] := by
      refine' Rg.df_mk KX G ?a50 ?l50 ?c50 ?k50 (fun _ _ _ _ _ _ us hl => match us, hl with | [_, _, _], _ => rfl)
      (case a50 => k_is); (case l50 => k_is); (case c50 => k_is); (case k50 => k_is)
    have d_whole_ways : Rg.DefAt (L2.KOf KX) mg "whole_ways" Rg.s_whole_ways ["ring", "behind"] := by
      refine' Rg.df_mk KX G ?a51 ?l51 ?c51 ?k51 (fun _ _ _ _ _ _ us hl => match us, hl with | [_, _], _ => rfl)
      (case a51 => k_is); (case l51 => k_is); (case c51 => k_is); (case k51 => k_is)
    have d_behind_or_none : Rg.DefAt (L2.KOf KX) mg "behind_or_none" Rg.s_behind_or_none ["ring", "sending", "thing"] := by
      refine' Rg.df_mk KX G ?a52 ?l52 ?c52 ?k52 (fun _ _ _ _ _ _ us hl => match us, hl with | [_, _, _], _ => rfl)
      (case a52 => k_is); (case l52 => k_is); (case c52 => k_is); (case k52 => k_is)
    have d_rounding_of : Rg.DefAt (L2.KOf KX) mg "rounding_of" Rg.s_rounding_of ["ring", "sending"] := by
      refine' Rg.df_mk KX G ?a53 ?l53 ?c53 ?k53 (fun _ _ _ _ _ _ us hl => match us, hl with | [_, _], _ => rfl)
      (case a53 => k_is); (case l53 => k_is); (case c53 => k_is); (case k53 => k_is)
    have d_lets_rounding : Rg.DefAt (L2.KOf KX) mg "lets_rounding" Rg.s_lets_rounding ["ring", "sending", "thing"] := by
      refine' Rg.df_mk KX G ?a54 ?l54 ?c54 ?k54 (fun _ _ _ _ _ _ us hl => match us, hl with | [_, _, _], _ => rfl)
      (case a54 => k_is); (case l54 => k_is); (case c54 => k_is); (case k54 => k_is)
    have d__law_bent_fall : Rg.DefAt (L2.KOf KX) mg "_law_bent_fall" Rg.s__law_bent_fall ["_law_ring", "_law_sending", "_law_rounding"] := by
      refine' Rg.df_mk KX G ?a55 ?l55 ?c55 ?k55 (fun _ _ _ _ _ _ us hl => match us, hl with | [_, _, _], _ => rfl)
      (case a55 => k_is); (case l55 => k_is); (case c55 => k_is); (case k55 => k_is)
    have d__law_right : Rg.DefAt (L2.KOf KX) mg "_law_right" Rg.s__law_right ["_law_ring", "_law_sending"] := by
      refine' Rg.df_mk KX G ?a56 ?l56 ?c56 ?k56 (fun _ _ _ _ _ _ us hl => match us, hl with | [_, _], _ => rfl)
      (case a56 => k_is); (case l56 => k_is); (case c56 => k_is); (case k56 => k_is)
    have d_law : Rg.DefAt (L2.KOf KX) mg "law" Rg.s_law ["_law_script"] := by
      refine' Rg.df_mk KX G ?a57 ?l57 ?c57 ?k57 (fun _ _ _ _ _ _ us hl => match us, hl with | [_], _ => rfl)
      (case a57 => k_is); (case l57 => k_is); (case c57 => k_is); (case k57 => k_is)
    exact Rg.ready_of T d_is_whole d_common d_under d_do_cross d_other_way d_ties_of d_is_over d_are_ways d_sent_by d_is_way d_rising_way d_in_order d__law_begun d__law_take d__law_low d__law_under d__law_ties d_is_ratio d_lowered d_greater d_lesser d_is_parted d_all_cross d_is_number d_are_apart d__law_amount d__law_parts d__law_plus d__law_minus d__law_greatest d__law_all_cross d_plus d_minus d_times d_parted_in d_ways_apart d__law_loads d__law_made d_loads_of d_gone_by d_moved d_half_of_greatest d_is_slide d_slid d_next_slide d_gain_by d_goes_whole d_gains_of d_slid_by d_slides_for d_are_rounded d_whole_ways d_behind_or_none d_rounding_of d_lets_rounding d__law_bent_fall d__law_right d_law hmg
