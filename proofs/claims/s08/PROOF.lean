import PyProof.Rows.All
import Wide.All
import OpenK.AllK
import Wide.FinOn
import Open.SpecLaws
import KE.OsHead
import KE.OsGo
import HandS.ForSpec
import HandS.ForMost
import HandS.Wide
import HandS.WideBits
import HandS.Evl
import HandS.Walk
import PySem.Challenge.RW_onceroundeddesk_s08_inverse
set_option Elab.async false
set_option linter.all false
set_option maxRecDepth 100000
set_option maxHeartbeats 4000000
namespace Desk
/-! places, points, units -/
def HID : Int := 4503599627370496
def SGN : Int := 9223372036854775808
def INF : Int := 9218868437227405312
def isFin (b : Int) : Bool := decide (b % SGN < INF)
def placeOf (b : Int) : Int := if b ≥ SGN then SGN - b else b
def pA (pl : Int) : Int := if (pl.natAbs : Int) / HID = 0 then (pl.natAbs : Int) % HID else HID + (pl.natAbs : Int) % HID
def pS (pl : Int) : Nat := if (pl.natAbs : Int) / HID = 0 then 1 else ((pl.natAbs : Int) / HID).toNat
def pM (pl : Int) : Int := if pl < 0 then -(pA pl) else pA pl
def unitsAt (pl : Int) : Int := pM pl * 2 ^ pS pl
def unitsOf (b : Int) : Int := unitsAt (placeOf b)
def midM (pl : Int) : Int := if pl ≥ 0 then 2 * pM pl + 1 else 2 * pM (pl + 1) - 1
def midS (pl : Int) : Nat := if pl ≥ 0 then pS pl - 1 else pS (pl + 1) - 1
def bitsLower (pl : Int) : Int := if pl < 0 then SGN - pl else pl
def bitsUpper (pl : Int) : Int := if pl ≤ 0 then SGN - pl else pl
/-! rounding: the mirror -/
abbrev Side := Int → Nat → Int
def nbr (sd : Side) : Nat → Int → Int → Int × Int
  | 0, lo, hi => (lo, hi)
  | f + 1, lo, hi =>
    if hi - lo > 1 then
      let pl := (lo + hi) / 2
      let t := sd (pM pl) (pS pl)
      if t = 0 then (pl, pl) else if t < 0 then nbr sd f lo pl else nbr sd f pl hi
    else (lo, hi)
def neighbours (sd : Side) : Int × Int := nbr sd 66 (-INF) INF
def goesUp (mode : Int) (sd : Side) (lo : Int) : Bool :=
  if mode = 1 then false else if mode = 2 then true else if mode = 3 then decide (lo < 0)
  else if sd (midM lo) (midS lo) = 0 then decide (lo % 2 = 1) else decide (sd (midM lo) (midS lo) > 0)
def rounded (mode : Int) (sd : Side) : List Int :=
  let n := neighbours sd
  if n.1 = n.2 then [bitsLower n.1, 1] else if goesUp mode sd n.1 = true then [bitsUpper n.2, 0] else [bitsLower n.1, 0]
def answer (mode : Int) (l : List Side) : List Int := l.foldl (fun a sd => a ++ rounded mode sd) [0]
theorem foldl_app {α : Type} (g : α → List Int) : ∀ (l : List α) (acc : List Int), l.foldl (fun a x => a ++ g x) acc = acc ++ l.flatMap g
  | [], acc => by simp
  | x :: r, acc => by rw [List.foldl_cons, foldl_app g r]; simp
theorem answer_eq (mode : Int) (l : List Side) : answer mode l = 0 :: l.flatMap (rounded mode) := by
  unfold answer; rw [foldl_app]; rfl
/-! a place's units are the specification's number times 2^1075 -/
def unitsN (n : Nat) : Nat := if n / 4503599627370496 = 0 then (n % 4503599627370496) * 2 else (4503599627370496 + n % 4503599627370496) * 2 ^ (n / 4503599627370496)
theorem unitsAt_nat (n : Nat) : unitsAt (n : Int) = (unitsN n : Int) := by
  unfold unitsAt pM pS pA unitsN HID
  have e : (((n : Int).natAbs : Nat) : Int) / 4503599627370496 = ((n / 4503599627370496 : Nat) : Int) := by omega
  rw [e, if_neg (show ¬ (n : Int) < 0 by omega)]
  by_cases h : n / 4503599627370496 = 0
  · rw [if_pos (show ((n / 4503599627370496 : Nat) : Int) = 0 by omega), if_pos (show ((n / 4503599627370496 : Nat) : Int) = 0 by omega), if_pos h]
    omega
  · rw [if_neg (show ¬ ((n / 4503599627370496 : Nat) : Int) = 0 by omega), if_neg (show ¬ ((n / 4503599627370496 : Nat) : Int) = 0 by omega), if_neg h, Int.toNat_natCast, Int.natCast_mul, Int.natCast_pow]
    congr 1
theorem pM_neg (pl : Int) : pM (-pl) = - pM pl := by
  have e : pA (-pl) = pA pl := by unfold pA; rw [Int.natAbs_neg]
  unfold pM
  rw [e]
  by_cases h0 : pl = 0
  · subst h0
    decide
  · by_cases h : pl < 0
    · rw [if_pos h, if_neg (by omega), Int.neg_neg]
    · rw [if_neg h, if_pos (by omega)]
theorem pS_neg (pl : Int) : pS (-pl) = pS pl := by unfold pS; rw [Int.natAbs_neg]
theorem unitsAt_neg (pl : Int) : unitsAt (-pl) = -unitsAt pl := by
  unfold unitsAt
  rw [pM_neg, pS_neg, Int.neg_mul]
theorem unitsN_step (n : Nat) : unitsN n < unitsN (n + 1) := by
  unfold unitsN
  generalize he : n / 4503599627370496 = e
  generalize hm : n % 4503599627370496 = m
  have hn : n = 4503599627370496 * e + m := by rw [← he, ← hm]; exact (Nat.div_add_mod n 4503599627370496).symm
  have hlt : m < 4503599627370496 := by rw [← hm]; exact Nat.mod_lt _ (by decide)
  by_cases c : m + 1 = 4503599627370496
  · have e1 : (n + 1) / 4503599627370496 = e + 1 := by omega
    have e2 : (n + 1) % 4503599627370496 = 0 := by omega
    rw [e1, e2, if_neg (Nat.succ_ne_zero e)]
    by_cases h : e = 0
    · subst h
      rw [if_pos rfl]
      simp only [Nat.zero_add, Nat.pow_one]
      omega
    · rw [if_neg h, Nat.pow_succ]
      have hp : 0 < 2 ^ e := Nat.two_pow_pos e
      generalize 2 ^ e = q at hp
      have : m = 4503599627370495 := by omega
      subst this
      omega
  · have e1 : (n + 1) / 4503599627370496 = e := by omega
    have e2 : (n + 1) % 4503599627370496 = m + 1 := by omega
    rw [e1, e2]
    by_cases h : e = 0
    · rw [if_pos h, if_pos h]
      omega
    · rw [if_neg h, if_neg h]
      have hp : 0 < 2 ^ e := Nat.two_pow_pos e
      exact Nat.mul_lt_mul_of_pos_right (by omega) hp
theorem unitsN_mono {a b : Nat} (h : a < b) : unitsN a < unitsN b := by
  induction b with
  | zero => omega
  | succ b ih =>
    by_cases c : a = b
    · subst c; exact unitsN_step a
    · exact Nat.lt_trans (ih (by omega)) (unitsN_step b)
theorem unitsAt_mono {a b : Int} (h : a < b) : unitsAt a < unitsAt b := by
  have z : unitsN 0 = 0 := by decide
  rcases Int.lt_or_le a 0 with ha | ha
  · obtain ⟨n, rfl⟩ : ∃ n : Nat, a = -(n : Int) := ⟨a.natAbs, by omega⟩
    have hn : 0 < n := by omega
    rcases Int.lt_or_le b 0 with hb | hb
    · obtain ⟨k, rfl⟩ : ∃ n : Nat, b = -(n : Int) := ⟨b.natAbs, by omega⟩
      rw [unitsAt_neg, unitsAt_neg, unitsAt_nat, unitsAt_nat]
      have := unitsN_mono (show k < n by omega)
      omega
    · obtain ⟨k, rfl⟩ : ∃ n : Nat, b = (n : Int) := ⟨b.natAbs, by omega⟩
      rw [unitsAt_neg, unitsAt_nat, unitsAt_nat]
      have := unitsN_mono hn
      omega
  · obtain ⟨n, rfl⟩ : ∃ n : Nat, a = (n : Int) := ⟨a.natAbs, by omega⟩
    obtain ⟨k, rfl⟩ : ∃ n : Nat, b = (n : Int) := ⟨b.natAbs, by omega⟩
    rw [unitsAt_nat, unitsAt_nat]
    have := unitsN_mono (show n < k by omega)
    omega
/-- 2^1075 -/
def UP : Rat := (2 : Rat) ^ 1075
theorem UP_pos : 0 < UP := Rat.pow_pos (by decide)
theorem UP_ne : UP ≠ 0 := fun h => by have := UP_pos; rw [h] at this; exact absurd this (by decide)
theorem two_pow_ne (n : Nat) : (2 : Rat) ^ n ≠ 0 := fun h => by have := Rat.pow_pos (a := 2) (n := n) (by decide); rw [h] at this; exact absurd this (by decide)
theorem rat_pow_add (a : Rat) (m n : Nat) : a ^ (m + n) = a ^ m * a ^ n := by
  induction n with
  | zero => rw [Nat.add_zero, Rat.pow_zero, Rat.mul_one]
  | succ n ih => rw [← Nat.add_assoc, Rat.pow_succ, ih, Rat.pow_succ, Rat.mul_assoc]
theorem pow2_shift (n : Nat) (k : Nat) : Os.pow2 ((n : Int) - (k : Int)) * (2 : Rat) ^ k = (2 : Rat) ^ n := by
  unfold Os.pow2
  by_cases h : 0 ≤ (n : Int) - (k : Int)
  · rw [if_pos h, Rat.natCast_pow]
    have e : ((n : Int) - (k : Int)).toNat + k = n := by omega
    show (2 : Rat) ^ _ * _ = _
    rw [← rat_pow_add, e]
  · rw [if_neg h, Rat.natCast_pow]
    have e : (-((n : Int) - (k : Int))).toNat + n = k := by omega
    show 1 / (2 : Rat) ^ _ * _ = _
    generalize (-((n : Int) - (k : Int))).toNat = d at e
    rw [← e, rat_pow_add]
    have := two_pow_ne d
    grind
theorem sizeAt_eq (n : Nat) : Os.sizeAt n * UP = ((unitsN n : Nat) : Rat) := by
  unfold Os.sizeAt unitsN UP
  show (if n / 4503599627370496 = 0 then ((n % 4503599627370496 : Nat) : Rat) * Os.pow2 (-1074) else ((4503599627370496 + n % 4503599627370496 : Nat) : Rat) * Os.pow2 ((n / 4503599627370496 : Nat) - 1075)) * _ = _
  by_cases h : n / 4503599627370496 = 0
  · rw [if_pos h, if_pos h, Rat.mul_assoc]
    have e := pow2_shift 1 1075
    rw [Rat.natCast_mul]
    exact congrArg _ e
  · rw [if_neg h, if_neg h, Rat.mul_assoc]
    have e := pow2_shift (n / 4503599627370496) 1075
    rw [Rat.natCast_mul, Rat.natCast_pow]
    exact congrArg _ e
theorem valueAt_eq (i : Int) : Os.valueAt i * UP = ((unitsAt i : Int) : Rat) := by
  unfold Os.valueAt
  by_cases h : i < 0
  · obtain ⟨n, rfl⟩ : ∃ n : Nat, i = -(n : Int) := ⟨i.natAbs, by omega⟩
    rw [if_pos h, unitsAt_neg, unitsAt_nat, Int.natAbs_neg, Int.natAbs_natCast, Rat.intCast_neg, Rat.neg_mul, sizeAt_eq, Rat.intCast_natCast]
  · obtain ⟨n, rfl⟩ : ∃ n : Nat, i = (n : Int) := ⟨i.natAbs, by omega⟩
    rw [if_neg h, unitsAt_nat, Int.natAbs_natCast, sizeAt_eq, Rat.intCast_natCast]
theorem valueAt_mono {a b : Int} (h : a < b) : Os.valueAt a < Os.valueAt b := by
  have h1 := unitsAt_mono h
  have h2 := Rat.intCast_lt_intCast.mpr h1
  rw [← valueAt_eq, ← valueAt_eq] at h2
  exact Rat.lt_of_mul_lt_mul_right h2 (Rat.le_of_lt UP_pos)
end Desk

namespace Desk
structure Cut (sd : Side) (w : Os.Where) : Prop where
  eq : ∀ (m : Int) (s : Nat), sd m s = w (((m * 2 ^ s : Int) : Rat) / UP)
  cut : ∀ r r' : Rat, r < r' → w r = 0 → w r' < 0
theorem point_val (i : Int) : ((pM i * 2 ^ pS i : Int) : Rat) / UP = Os.valueAt i := by
  have h := valueAt_eq i
  show ((unitsAt i : Int) : Rat) / UP = _
  rw [← h, Rat.mul_div_cancel UP_ne]
theorem pS_pos (i : Int) : 1 ≤ pS i := by
  unfold pS
  split
  · omega
  · unfold HID at *; omega
theorem mid_val (i : Int) : ((midM i * 2 ^ midS i : Int) : Rat) / UP = (Os.valueAt i + Os.valueAt (i + 1)) / 2 := by
  have e : 2 * (midM i * 2 ^ midS i) = unitsAt i + unitsAt (i + 1) := by
    have key : ∀ n : Nat, unitsAt ((n : Int) + 1) = unitsAt n + 2 ^ pS n := by
      intro n
      have e1 : ((n : Int) + 1) = ((n + 1 : Nat) : Int) := by omega
      rw [e1, unitsAt_nat, unitsAt_nat]
      unfold unitsN pS HID
      have e : (((n : Int).natAbs : Nat) : Int) / 4503599627370496 = ((n / 4503599627370496 : Nat) : Int) := by omega
      rw [e, Int.toNat_natCast]
      generalize he : n / 4503599627370496 = e
      generalize hm : n % 4503599627370496 = m
      have hn : n = 4503599627370496 * e + m := by rw [← he, ← hm]; exact (Nat.div_add_mod n 4503599627370496).symm
      have hlt : m < 4503599627370496 := by rw [← hm]; exact Nat.mod_lt _ (by decide)
      by_cases c : m + 1 = 4503599627370496
      · have e1 : (n + 1) / 4503599627370496 = e + 1 := by omega
        have e2 : (n + 1) % 4503599627370496 = 0 := by omega
        rw [e1, e2, if_neg (Nat.succ_ne_zero e)]
        have : m = 4503599627370495 := by omega
        subst this
        by_cases h : e = 0
        · subst h
          decide
        · rw [if_neg h, if_neg (by omega)]
          simp only [Int.natCast_mul, Int.natCast_pow, Nat.pow_succ, Int.natCast_add]
          generalize ((2 : Nat) : Int) ^ e = q
          have : (2 : Int) ^ e = ((2 : Nat) : Int) ^ e := rfl
          grind
      · have e1 : (n + 1) / 4503599627370496 = e := by omega
        have e2 : (n + 1) % 4503599627370496 = m + 1 := by omega
        rw [e1, e2]
        by_cases h : e = 0
        · rw [if_pos h, if_pos h, if_pos (by omega)]
          omega
        · rw [if_neg h, if_neg h, if_neg (by omega)]
          simp only [Int.natCast_mul, Int.natCast_pow, Int.natCast_add]
          have : (2 : Int) ^ e = ((2 : Nat) : Int) ^ e := rfl
          grind
    have half : ∀ (n : Nat), (2 : Int) * 2 ^ (pS n - 1) = 2 ^ pS n := fun n => by
      have h := pS_pos n
      obtain ⟨k, hk⟩ : ∃ k, pS n = k + 1 := ⟨pS n - 1, by omega⟩
      rw [hk, Nat.add_sub_cancel, Int.pow_succ, Int.mul_comm]
    unfold midM midS
    by_cases h : i ≥ 0
    · rw [if_pos h, if_pos h]
      obtain ⟨n, rfl⟩ : ∃ n : Nat, i = (n : Int) := ⟨i.natAbs, by omega⟩
      have k := key n
      have hh := half n
      rw [k]
      unfold unitsAt
      grind
    · rw [if_neg h, if_neg h]
      obtain ⟨n, rfl⟩ : ∃ n : Nat, i = -((n : Int) + 1) := ⟨(i + 1).natAbs, by omega⟩
      have k := key n
      have hh := half n
      have e1 : -((n : Int) + 1) + 1 = -(n : Int) := by omega
      rw [e1, unitsAt_neg, unitsAt_neg, k, pM_neg, pS_neg]
      unfold unitsAt
      grind
  have h1 := valueAt_eq i
  have h2 := valueAt_eq (i + 1)
  have h3 : ((2 * (midM i * 2 ^ midS i) : Int) : Rat) = ((unitsAt i + unitsAt (i + 1) : Int) : Rat) := by rw [e]
  rw [Rat.intCast_mul, Rat.intCast_add, ← h1, ← h2] at h3
  have hu := UP_ne
  generalize ((midM i * 2 ^ midS i : Int) : Rat) = x at h3 ⊢
  generalize Os.valueAt i = a at h3 ⊢
  generalize Os.valueAt (i + 1) = b at h3 ⊢
  have h4 : ((2 : Int) : Rat) = 2 := rfl
  rw [h4] at h3
  generalize UP = u at hu h3 ⊢
  grind
section
variable {sd : Side} {w : Os.Where}
theorem search_low (f : Nat) (lo hi : Int) (h : ∀ j, lo < j → w (Os.valueAt j) < 0) : Os.searchFrom w f lo hi = lo := by
  induction f generalizing hi with
  | zero => rfl
  | succ f ih =>
    unfold Os.searchFrom
    by_cases c : hi ≤ lo + 1
    · rw [if_pos c]
    · rw [if_neg c, if_pos (h _ (by omega))]
      exact ih _
theorem nbr_search (C : Cut sd w) : ∀ (f : Nat) (lo hi : Int), lo < hi → hi - lo ≤ 2 ^ f →
    (nbr sd f lo hi = (Os.searchFrom w f lo hi, Os.searchFrom w f lo hi) ∧ lo < Os.searchFrom w f lo hi ∧ Os.searchFrom w f lo hi < hi ∧ w (Os.valueAt (Os.searchFrom w f lo hi)) = 0) ∨
    (nbr sd f lo hi = (Os.searchFrom w f lo hi, Os.searchFrom w f lo hi + 1) ∧ lo ≤ Os.searchFrom w f lo hi ∧ Os.searchFrom w f lo hi < hi ∧ (Os.searchFrom w f lo hi = lo ∨ w (Os.valueAt (Os.searchFrom w f lo hi)) > 0))
  | 0, lo, hi, h1, h2 => by
    have h3 : hi - lo ≤ 1 := h2
    right
    refine ⟨?_, ?_, ?_, .inl rfl⟩
    · show (lo, hi) = (lo, lo + 1)
      rw [show hi = lo + 1 by omega]
    · exact Int.le_refl _
    · exact h1
  | f + 1, lo, hi, h1, h2 => by
    unfold nbr Os.searchFrom
    by_cases c : hi - lo > 1
    · rw [if_pos c, if_neg (show ¬ hi ≤ lo + 1 by omega)]
      have hp : (2 : Int) ^ (f + 1) = 2 ^ f * 2 := Int.pow_succ ..
      rw [hp] at h2
      dsimp only
      rw [C.eq, point_val]
      generalize hmid : (lo + hi) / 2 = mid
      by_cases z : w (Os.valueAt mid) = 0
      · rw [if_pos z, if_neg (by omega)]
        have e := search_low (w := w) f mid hi fun j hj => C.cut _ _ (valueAt_mono hj) z
        rw [e]
        exact .inl ⟨rfl, by omega, by omega, z⟩
      · rw [if_neg z]
        by_cases n : w (Os.valueAt mid) < 0
        · rw [if_pos n, if_pos n]
          rcases nbr_search C f lo mid (by omega) (by omega) with ⟨a, b, c, d⟩ | ⟨a, b, c, d⟩
          · exact .inl ⟨a, b, by omega, d⟩
          · exact .inr ⟨a, b, by omega, d⟩
        · rw [if_neg n, if_neg n]
          rcases nbr_search C f mid hi (by omega) (by omega) with ⟨a, b, c, d⟩ | ⟨a, b, c, d⟩
          · exact .inl ⟨a, by omega, c, d⟩
          · refine .inr ⟨a, by omega, c, ?_⟩
            rcases d with d | d
            · rw [d]
              exact .inr (by omega)
            · exact .inr d
    · rw [if_neg c, if_pos (show hi ≤ lo + 1 by omega)]
      right
      refine ⟨?_, Int.le_refl _, h1, .inl rfl⟩
      rw [show hi = lo + 1 by omega]
theorem floor_sign (w : Os.Where) (C : Cut sd w) : (w 0 < 0 → Os.floorOf w < 0) ∧ (¬ w 0 < 0 → 0 ≤ Os.floorOf w) := by
  have e : Os.floorOf w = if w (Os.valueAt 0) < 0 then Os.searchFrom w 65 (-INF) 0 else Os.searchFrom w 65 0 INF := by
    unfold Os.floorOf
    show Os.searchFrom w (65 + 1) (-INF) INF = _
    rw [Os.searchFrom, if_neg (by decide)]
    rfl
  have v0 : Os.valueAt 0 = 0 := by decide +kernel
  rw [e, v0]
  constructor
  · intro h
    rw [if_pos h]
    rcases nbr_search C 65 (-INF) 0 (by decide) (by decide) with ⟨_, _, c, _⟩ | ⟨_, _, c, _⟩ <;> exact c
  · intro h
    rw [if_neg h]
    rcases nbr_search C 65 0 INF (by decide) (by decide) with ⟨_, c, _, _⟩ | ⟨_, c, _, _⟩
    · exact Int.le_of_lt c
    · exact c
theorem rounded_eq (C : Cut sd w) {mode : Int} (h0 : 0 ≤ mode) (h3 : mode ≤ 3) : rounded mode sd = [((Os.round mode.toNat w).bits : Int), if (Os.round mode.toNat w).exact = true then 1 else 0] := by
  obtain ⟨md, rfl⟩ : ∃ n : Nat, mode = (n : Int) := ⟨mode.toNat, by omega⟩
  rw [Int.toNat_natCast]
  have key := nbr_search C 66 (-INF) INF (by decide) (by decide)
  obtain ⟨fs1, fs2⟩ := floor_sign w C
  have ef : Os.searchFrom w 66 (-INF) INF = Os.floorOf w := rfl
  rw [ef] at key
  have bA : ∀ j : Int, (Os.bitsAt j : Int) = bitsLower j := fun j => by
    unfold Os.bitsAt bitsLower Os.SIGN SGN
    split
    · omega
    · omega
  have hM : -Os.MOST = -INF + 1 := by decide
  generalize hR : Os.round md w = R
  unfold Os.round at hR
  dsimp only at hR
  unfold rounded neighbours
  dsimp only
  generalize Os.floorOf w = i at key fs1 fs2 hR
  generalize hn : nbr sd 66 (-INF) INF = n at key
  rcases key with ⟨a, b, c, d⟩ | ⟨a, b, c, d⟩
  · rw [if_pos ⟨by omega, d⟩] at hR
    subst hR
    rw [a, if_pos rfl]
    show [bitsLower i, 1] = [((Os.bitsAt i : Nat) : Int), if true = true then 1 else 0]
    rw [if_pos rfl, bA]
  · rw [if_neg (by
      rintro ⟨z1, z2⟩
      rcases d with d | d
      · omega
      · omega)] at hR
    have em := mid_val i
    rw [← em] at hR
    rw [a]
    dsimp only
    rw [if_neg (show ¬ i = i + 1 by omega)]
    have eup : goesUp (md : Int) sd i = (if md = 0 then decide (0 < w (((midM i * 2 ^ midS i : Int) : Rat) / UP)) || (decide (w (((midM i * 2 ^ midS i : Int) : Rat) / UP) = 0) && decide (i % 2 ≠ 0)) else if md = 1 then false else if md = 2 then true else decide (w 0 < 0)) := by
      unfold goesUp
      rw [C.eq]
      generalize hmw : w (((midM i * 2 ^ midS i : Int) : Rat) / UP) = mid
      have h4 : md = 0 ∨ md = 1 ∨ md = 2 ∨ md = 3 := by omega
      rcases h4 with rfl | rfl | rfl | rfl
      · show (if mid = 0 then decide (i % 2 = 1) else decide (mid > 0)) = (decide (0 < mid) || (decide (mid = 0) && decide (i % 2 ≠ 0)))
        by_cases z : mid = 0
        · rw [if_pos z, decide_eq_true z, decide_eq_false (show ¬ 0 < mid by omega), Bool.false_or, Bool.true_and]
          by_cases p : i % 2 = 1
          · rw [decide_eq_true p, decide_eq_true (by omega)]
          · rw [decide_eq_false p, decide_eq_false (by omega)]
        · rw [if_neg z, decide_eq_false z, Bool.false_and, Bool.or_false]
      · rfl
      · rfl
      · show decide (i < 0) = decide (w 0 < 0)
        by_cases z : w 0 < 0
        · rw [decide_eq_true z, decide_eq_true (fs1 z)]
        · have := fs2 z
          rw [decide_eq_false z, decide_eq_false (by omega)]
    rw [← eup] at hR
    generalize goesUp (md : Int) sd i = up at hR
    subst hR
    cases up with
    | false =>
      simp only [Bool.false_eq_true, if_false]
      by_cases z : i = 0
      · have nb : ¬ w 0 < 0 := fun q => by have := fs1 q; omega
        rw [if_neg (by rintro ⟨q, _⟩; exact nb (of_decide_eq_true q)), bA]
      · rw [if_neg (by rintro ⟨_, q⟩; exact z q), bA]
    | true =>
      simp only [if_true]
      by_cases z : i + 1 = 0
      · have nb : w 0 < 0 := Classical.byContradiction fun q => by have := fs2 q; omega
        rw [if_pos ⟨decide_eq_true nb, z⟩, z]
        rfl
      · rw [if_neg (by rintro ⟨_, q⟩; exact z q), bA]
        unfold bitsUpper bitsLower
        by_cases q : i + 1 < 0
        · rw [if_pos q, if_pos (by omega)]
          rfl
        · rw [if_neg q, if_neg (by omega)]
          rfl
end
end Desk

namespace Desk
/-! the calls' common part -/
def In64 (b : Int) : Prop := 0 ≤ b ∧ b ≤ 18446744073709551615
def valOf (b : Int) : Rat := Os.valueAt (placeOf b)
theorem valOf_units (b : Int) : valOf b * UP = ((unitsOf b : Int) : Rat) := valueAt_eq _
theorem number_eq {b : Int} (h : In64 b) : Os.number b.toNat = if isFin b = true then some (valOf b) else none := by
  obtain ⟨h0, h1⟩ := h
  obtain ⟨n, rfl⟩ : ∃ n : Nat, b = (n : Int) := ⟨b.toNat, by omega⟩
  unfold Os.number isFin valOf Os.valueAt placeOf SGN INF Os.MOST Os.SIGN
  rw [Int.toNat_natCast]
  have e0 : (Int.natAbs 9218868437227405311) = 9218868437227405311 := rfl
  rw [e0]
  by_cases c : n % 9223372036854775808 < 9218868437227405312
  · rw [if_neg (by omega), if_pos (decide_eq_true (by omega))]
    congr 1
    by_cases d : 9223372036854775808 ≤ n
    · rw [if_pos d, if_pos (show (n : Int) ≥ 9223372036854775808 by omega)]
      by_cases z : n = 9223372036854775808
      · subst z
        decide +kernel
      · rw [if_pos (by omega)]
        congr 2
        omega
    · rw [if_neg d, if_neg (show ¬ (n : Int) ≥ 9223372036854775808 by omega), if_neg (by omega)]
      congr 1
  · rw [if_pos (by omega), if_neg (by intro z; have := of_decide_eq_true z; omega)]
theorem mapM_eq : ∀ {l : List Int}, (∀ b ∈ l, In64 b) → (OsNeutral.nats l).mapM Os.number = if l.all isFin = true then some (l.map valOf) else none
  | [], _ => rfl
  | b :: r, h => by
    have ih := mapM_eq (l := r) fun x hx => h x (List.mem_cons_of_mem _ hx)
    have hb := number_eq (h b (List.mem_cons_self ..))
    show (b.toNat :: OsNeutral.nats r).mapM Os.number = _
    rw [List.mapM_cons, hb, ih, List.all_cons, List.map_cons]
    by_cases c : isFin b = true
    · rw [if_pos c, c, Bool.true_and]
      by_cases d : r.all isFin = true
      · rw [if_pos d, if_pos d]; rfl
      · rw [if_neg d, if_neg d]; rfl
    · have c : isFin b = false := by simpa using c
      rw [c]
      simp
theorem nats_len (l : List Int) : (OsNeutral.nats l).length = l.length := List.length_map _
theorem numbers_eq {l : List Int} (h : ∀ b ∈ l, In64 b) (n : Nat) : Os.numbers n (OsNeutral.nats l) = if l.length = n ∧ l.all isFin = true then some (l.map valOf) else none := by
  unfold Os.numbers
  rw [nats_len, mapM_eq h]
  by_cases c : l.length = n
  · rw [if_pos c]
    by_cases d : l.all isFin = true
    · rw [if_pos d, if_pos ⟨c, d⟩]
    · rw [if_neg d, if_neg (fun z => d z.2)]
  · rw [if_neg c, if_neg (fun z => c z.1)]
theorem ofRow_eq {l : List Int} (h : ∀ b ∈ l, In64 b) (n : Nat) (f : List Rat → Os.Answer) : Os.ofRow n (OsNeutral.nats l) f = if l.length = n ∧ l.all isFin = true then f (l.map valOf) else Os.no 1 := by
  unfold Os.ofRow
  rw [numbers_eq h]
  split
  · rename_i e
    split at e
    · cases e
    · rw [if_neg (by assumption)]
  · rename_i x e
    split at e
    · rw [if_pos (by assumption)]
      cases e
      rfl
    · cases e
def badList (mode : Int) (ns : List Int) (most : Int) : Bool := decide (3 < mode) || (decide (most < (ns.length : Int)) || !(ns.all isFin))
theorem withMode_eq {mode : Int} (h : 0 ≤ mode) (b : Bool) (a : Unit → Os.Answer) : Os.withMode mode.toNat b a = if 3 < mode ∨ b = false then Os.no 1 else a () := by
  unfold Os.withMode
  have e : (3 < mode.toNat ∨ b = false) = (3 < mode ∨ b = false) := propext ⟨fun z => z.imp (by omega) id, fun z => z.imp (by omega) id⟩
  simp only [e]
theorem bad_iff {mode : Int} {ns : List Int} {most : Int} : badList mode ns most = true ↔ 3 < mode ∨ most < (ns.length : Int) ∨ ¬ ns.all isFin = true := by
  unfold badList
  rw [Bool.or_eq_true, Bool.or_eq_true, decide_eq_true_iff, decide_eq_true_iff]
  cases ns.all isFin <;> simp
theorem shown_no : OsNeutral.shown (Os.no 1) = [-1] := rfl
/-! what's told -/
theorem shown_told : ∀ l : List Os.Told, OsNeutral.shown (Os.toldOf l) = 0 :: l.flatMap fun (t : Os.Told) => [(t.bits : Int), if t.exact = true then 1 else 0]
  | l => by
    show (0 : Int) :: (l.flatMap fun (t : Os.Told) => [t.bits, if t.exact = true then 1 else 0]).map (fun (i : Nat) => (i : Int)) = _
    rw [List.map_flatMap]
    congr 1
    congr 1
    funext t
    show [(t.bits : Int), ((if t.exact = true then 1 else 0 : Nat) : Int)] = _
    split <;> rfl
theorem answer_told {mode : Int} (h0 : 0 ≤ mode) (h3 : mode ≤ 3) (l : List (Side × Os.Where)) (h : ∀ p ∈ l, Cut p.1 p.2) : answer mode (l.map (·.1)) = OsNeutral.shown (Os.toldOf ((l.map (·.2)).map (Os.round mode.toNat))) := by
  rw [answer_eq, shown_told]
  congr 1
  induction l with
  | nil => rfl
  | cons p r ih =>
    rw [List.map_cons, List.map_cons, List.map_cons, List.flatMap_cons, List.flatMap_cons, ih fun q hq => h q (List.mem_cons_of_mem _ hq), rounded_eq (h p (List.mem_cons_self ..)) h0 h3]
/-! a ratio -/
def ratioSide (t b : Int) : Side := fun m s => (t - b * m * 2 ^ s).sign
theorem cut_ratio {t b : Int} {q : Rat} (hb : 0 < b) (h : (t : Rat) = q * UP * b) : Cut (ratioSide t b) (Os.ofRat q) := by
  refine ⟨fun m s => ?_, fun r r' hr h0 => ?_⟩
  · unfold ratioSide Os.ofRat
    have e : b * m * 2 ^ s = b * (m * 2 ^ s) := Int.mul_assoc ..
    rw [e]
    generalize m * 2 ^ s = M
    have hb' : (0 : Rat) < (b : Rat) := Rat.intCast_pos.mpr hb
    have hk : (0 : Rat) < UP * (b : Rat) := Rat.mul_pos UP_pos hb'
    have key : ((t - b * M : Int) : Rat) = (q - (M : Rat) / UP) * (UP * (b : Rat)) := by
      rw [Rat.intCast_sub, Rat.intCast_mul, h]
      have := UP_ne
      generalize UP = u at this ⊢
      generalize (b : Rat) = b'
      grind
    generalize hr : (M : Rat) / UP = r at key
    rcases Int.lt_trichotomy (t - b * M) 0 with c | c | c
    · rw [Int.sign_eq_neg_one_of_neg c, if_pos]
      have c2 : ((t - b * M : Int) : Rat) < 0 := Rat.intCast_neg_iff.mpr c
      rw [key] at c2
      have := (Rat.mul_neg_iff_of_pos_right hk).mp c2
      grind
    · have c2 : ((t - b * M : Int) : Rat) = 0 := Rat.intCast_eq_zero_iff.mpr c
      rw [key] at c2
      rcases Rat.mul_eq_zero.mp c2 with d | d
      · rw [c, if_neg (by grind), if_pos (by grind)]
        rfl
      · rw [d] at hk
        exact absurd hk (by decide)
    · have c2 : (0 : Rat) < ((t - b * M : Int) : Rat) := Rat.intCast_pos.mpr c
      rw [key] at c2
      have := (Rat.mul_pos_iff_of_pos_right hk).mp c2
      rw [Int.sign_eq_one_of_pos c, if_neg (by grind), if_neg (by grind)]
  · unfold Os.ofRat at h0 ⊢
    by_cases c : q < r
    · rw [if_pos c] at h0
      cases h0
    · rw [if_neg c] at h0
      by_cases d : q = r
      · rw [if_pos (by grind)]
        decide
      · rw [if_neg d] at h0
        cases h0
/-! sum -/
theorem total_eq (l : List Rat) : Os.total l = l.sum := by
  unfold Os.total
  have : ∀ (l : List Rat) (a : Rat), l.foldl (fun a b => a + b) a = a + l.sum := by
    intro l
    induction l with
    | nil => intro a; simp [Rat.add_zero]
    | cons x r ih => intro a; rw [List.foldl_cons, ih, List.sum_cons, Rat.add_assoc]
  rw [this, Rat.zero_add]
theorem sum_units : ∀ l : List Int, (((l.map unitsOf).sum : Int) : Rat) = (l.map valOf).sum * UP
  | [] => by simp
  | b :: r => by
    rw [List.map_cons, List.map_cons, List.sum_cons, List.sum_cons, Rat.intCast_add, sum_units r, ← valOf_units, Rat.add_mul]
def sumOf (mode : Int) (a : List Int) : List Int := if badList mode a 16 = true then [-1] else answer mode [ratioSide ((a.map unitsOf).sum * Int.sign 1) (Int.natAbs 1 : Int)]
theorem sum_law {mode : Int} {a : List Int} (hm : In64 mode) (ha : ∀ b ∈ a, In64 b) : sumOf mode a = PyWqambd.sum_of mode a := by
  show _ = OsNeutral.shown (Os.answer (.sum mode.toNat (OsNeutral.nats a)))
  unfold sumOf Os.answer
  dsimp only
  rw [withMode_eq hm.1, nats_len]
  by_cases hb : badList mode a 16 = true
  · rw [if_pos hb]
    rcases bad_iff.mp hb with c | c | c
    · rw [if_pos (.inl c)]; rfl
    · rw [if_pos (.inr (decide_eq_false (by unfold Os.LONG; omega)))]; rfl
    · split
      · rfl
      · rw [ofRow_eq ha, if_neg (fun z => c z.2)]; rfl
  · rw [if_neg hb]
    have hb := fun z => hb (bad_iff.mpr z)
    have c1 : ¬ 3 < mode := fun z => hb (.inl z)
    have c2 : ¬ (16 : Int) < (a.length : Int) := fun z => hb (.inr (.inl z))
    have c3 : a.all isFin = true := Classical.byContradiction fun z => hb (.inr (.inr z))
    rw [if_neg (by
      rintro (z | z)
      · exact c1 z
      · have := of_decide_eq_false z
        unfold Os.LONG at this
        omega), ofRow_eq ha, if_pos ⟨rfl, c3⟩]
    have := answer_told (mode := mode) hm.1 (by omega) [(ratioSide ((a.map unitsOf).sum * Int.sign 1) (Int.natAbs 1 : Int), Os.ofRat (Os.total (a.map valOf)))] (by
      intro p hp
      rw [List.mem_singleton.mp hp]
      refine cut_ratio (by decide) ?_
      have e1 : (a.map unitsOf).sum * Int.sign 1 = (a.map unitsOf).sum := Int.mul_one _
      rw [e1, sum_units, total_eq]
      exact (Rat.mul_one _).symm)
    exact this
end Desk

namespace Desk
/-! dot, norm, value: the mirror -/
def prods (a b : List Int) : List Int := List.zipWith (fun x y => x * y) a b
def productSum (a b : List Int) : Int := (prods a b).sum
/-- 2^1075 as a whole number -/
def UPi : Int := 2 ^ 1075
theorem UPi_pos : 0 < UPi := Int.pow_pos (by decide)
theorem UPi_cast : (UPi : Rat) = UP := by unfold UPi UP; rw [Rat.intCast_pow]; rfl
def dotOf (mode : Int) (a b : List Int) : List Int :=
  if (badList mode a 16 || (badList mode b 16 || !decide ((a.length : Int) = (b.length : Int)))) = true then [-1]
  else answer mode [ratioSide (productSum (a.map unitsOf) (b.map unitsOf) * UPi.sign) (UPi.natAbs : Int)]
theorem prods_units : ∀ a b : List Int, ((productSum (a.map unitsOf) (b.map unitsOf) : Int) : Rat) = Os.dot (a.map valOf) (b.map valOf) * (UP * UP)
  | [], b => by unfold productSum prods Os.dot; rw [total_eq]; simp
  | x :: r, [] => by unfold productSum prods Os.dot; rw [total_eq]; simp
  | x :: r, y :: q => by
    have ih := prods_units r q
    unfold productSum prods Os.dot at ih ⊢
    rw [total_eq] at ih ⊢
    rw [List.map_cons, List.map_cons, List.map_cons, List.map_cons, List.zipWith_cons_cons, List.zipWith_cons_cons, List.sum_cons, List.sum_cons, Rat.intCast_add, ih, Rat.intCast_mul, ← valOf_units, ← valOf_units]
    grind
theorem sign_up : UPi.sign = 1 := Int.sign_eq_one_of_pos UPi_pos
theorem abs_up : (UPi.natAbs : Int) = UPi := by have := UPi_pos; omega
theorem ofRow_self {l : List Int} (h : ∀ b ∈ l, In64 b) (f : List Rat → Os.Answer) : Os.ofRow l.length (OsNeutral.nats l) f = if l.all isFin = true then f (l.map valOf) else Os.no 1 := by
  rw [ofRow_eq h]
  by_cases c : l.all isFin = true
  · rw [if_pos ⟨rfl, c⟩, if_pos c]
  · rw [if_neg (fun z => c z.2), if_neg c]
theorem dot_law {mode : Int} {a b : List Int} (hm : In64 mode) (ha : ∀ x ∈ a, In64 x) (hb : ∀ x ∈ b, In64 x) : dotOf mode a b = PyWqambd.dot mode a b := by
  show _ = OsNeutral.shown (Os.answer (.dot mode.toNat (OsNeutral.nats a) (OsNeutral.nats b)))
  unfold dotOf Os.answer
  dsimp only
  rw [withMode_eq hm.1, nats_len, ofRow_self ha]
  have eb : ∀ f : List Rat → Os.Answer, Os.ofRow a.length (OsNeutral.nats b) f = if b.length = a.length ∧ b.all isFin = true then f (b.map valOf) else Os.no 1 := fun f => ofRow_eq hb _ f
  simp only [eb]
  by_cases hbad : (badList mode a 16 || (badList mode b 16 || !decide ((a.length : Int) = (b.length : Int)))) = true
  · rw [if_pos hbad]
    have key : 3 < mode ∨ ¬ a.length ≤ 16 ∨ ¬ a.all isFin = true ∨ ¬ b.length = a.length ∨ ¬ b.all isFin = true := by
      rw [Bool.or_eq_true, Bool.or_eq_true] at hbad
      rcases hbad with h | h | h
      · rcases bad_iff.mp h with c | c | c
        · exact .inl c
        · exact .inr (.inl (by omega))
        · exact .inr (.inr (.inl c))
      · rcases bad_iff.mp h with c | c | c
        · exact .inl c
        · by_cases d : b.length = a.length
          · exact .inr (.inl (by omega))
          · exact .inr (.inr (.inr (.inl d)))
        · exact .inr (.inr (.inr (.inr c)))
      · refine .inr (.inr (.inr (.inl fun z => ?_)))
        rw [decide_eq_true (show (a.length : Int) = (b.length : Int) by omega)] at h
        cases h
    rcases key with c | c | c
    · rw [if_pos (.inl c)]; rfl
    · rw [if_pos (.inr (decide_eq_false (by unfold Os.LONG; omega)))]; rfl
    · split
      · rfl
      · rcases c with c | c
        · rw [if_neg c]; rfl
        · rw [if_neg (show ¬ (b.length = a.length ∧ b.all isFin = true) from fun z => c.elim (fun q => q z.1) (fun q => q z.2))]
          split <;> rfl
  · rw [if_neg hbad]
    have hb1 : ¬ badList mode a 16 = true := fun z => hbad (by rw [z]; rfl)
    have hb2 : ¬ badList mode b 16 = true := fun z => hbad (by rw [z]; simp)
    have hb3 : b.length = a.length := Classical.byContradiction fun z => hbad (by rw [decide_eq_false (show ¬ (a.length : Int) = (b.length : Int) by omega)]; simp)
    have c1 : ¬ 3 < mode := fun z => hb1 (bad_iff.mpr (.inl z))
    have c2 : ¬ (16 : Int) < (a.length : Int) := fun z => hb1 (bad_iff.mpr (.inr (.inl z)))
    have c3 : a.all isFin = true := Classical.byContradiction fun z => hb1 (bad_iff.mpr (.inr (.inr z)))
    have c4 : b.all isFin = true := Classical.byContradiction fun z => hb2 (bad_iff.mpr (.inr (.inr z)))
    rw [if_neg (by
      rintro (z | z)
      · exact c1 z
      · have := of_decide_eq_false z
        unfold Os.LONG at this
        omega), if_pos c3, if_pos ⟨hb3, c4⟩]
    refine answer_told (mode := mode) hm.1 (by omega) [(ratioSide (productSum (a.map unitsOf) (b.map unitsOf) * UPi.sign) (UPi.natAbs : Int), Os.ofRat (Os.dot (a.map valOf) (b.map valOf)))] ?_
    intro p hp
    rw [List.mem_singleton.mp hp, sign_up, abs_up, Int.mul_one]
    refine cut_ratio UPi_pos ?_
    rw [prods_units, UPi_cast, Rat.mul_assoc]
/-! norm -/
def sqSide (q : Int) : Side := fun m s => if m < 0 then 1 else (q - m * m * 2 ^ (2 * s)).sign
def normOf (mode : Int) (a : List Int) : List Int := if badList mode a 16 = true then [-1] else answer mode [sqSide (productSum (a.map unitsOf) (a.map unitsOf))]
theorem cut_sq {k : Int} {q : Rat} (h : (k : Rat) = q * (UP * UP)) : Cut (sqSide k) (fun (r : Rat) => if r < 0 then 1 else if q < r * r then -1 else if q = r * r then 0 else 1) := by
  refine ⟨fun m s => ?_, fun r r' hr h0 => ?_⟩
  · unfold sqSide
    have hp : (0 : Rat) < (2 : Rat) ^ s := Rat.pow_pos (by decide)
    have e1 : m * m * 2 ^ (2 * s) = (m * 2 ^ s) * (m * 2 ^ s) := by
      rw [Nat.two_mul, Int.pow_add]
      generalize (2 : Int) ^ s = u
      grind
    have sg : m < 0 ↔ m * 2 ^ s < 0 := by
      have hq : (0 : Int) < 2 ^ s := Int.pow_pos (by decide)
      constructor
      · intro hm
        exact Int.mul_neg_of_neg_of_pos hm hq
      · intro hm
        rcases Int.lt_or_le m 0 with c | c
        · exact c
        · have := Int.mul_nonneg c (Int.le_of_lt hq)
          omega
    rw [e1]
    have key : (((m * 2 ^ s : Int) : Rat) / UP < 0) ↔ m * 2 ^ s < 0 := by
      rw [Rat.div_lt_iff UP_pos, Rat.zero_mul]
      exact Rat.intCast_neg_iff
    generalize hM : m * 2 ^ s = M at sg key ⊢
    by_cases c : m < 0
    · rw [if_pos c, if_pos (key.mpr (sg.mp c))]
    · rw [if_neg c, if_neg (fun z => c (sg.mpr (key.mp z)))]
      generalize hr : (M : Rat) / UP = r
      have eM : (M : Rat) = r * UP := by rw [← hr, Rat.div_mul_cancel UP_ne]
      have hk : (0 : Rat) < UP * UP := Rat.mul_pos UP_pos UP_pos
      have key2 : ((k - M * M : Int) : Rat) = (q - r * r) * (UP * UP) := by
        rw [Rat.intCast_sub, Rat.intCast_mul, h, eM]
        grind
      rcases Int.lt_trichotomy (k - M * M) 0 with c | c | c
      · have c2 := Rat.intCast_neg_iff.mpr c
        rw [key2] at c2
        have := (Rat.mul_neg_iff_of_pos_right hk).mp c2
        rw [Int.sign_eq_neg_one_of_neg c, if_pos (by grind)]
      · have c2 := Rat.intCast_eq_zero_iff.mpr c
        rw [key2] at c2
        rcases Rat.mul_eq_zero.mp c2 with d | d
        · rw [c, if_neg (by grind), if_pos (by grind)]
          rfl
        · rw [d] at hk
          exact absurd hk (by decide)
      · have c2 := Rat.intCast_pos.mpr c
        rw [key2] at c2
        have := (Rat.mul_pos_iff_of_pos_right hk).mp c2
        rw [Int.sign_eq_one_of_pos c, if_neg (by grind), if_neg (by grind)]
  · by_cases c : r < 0
    · rw [if_pos c] at h0
      cases h0
    · rw [if_neg c] at h0
      have c' : 0 ≤ r := Rat.not_lt.mp c
      by_cases d : q < r * r
      · rw [if_pos d] at h0
        cases h0
      · rw [if_neg d] at h0
        by_cases e : q = r * r
        · have h1 : r * r' < r' * r' := Rat.mul_lt_mul_of_pos_right hr (by grind)
          have h2 : r * r ≤ r * r' := Rat.mul_le_mul_of_nonneg_left (Rat.le_of_lt hr) c'
          rw [if_neg (by grind), if_pos (by grind)]
          decide
        · rw [if_neg e] at h0
          cases h0
theorem norm_law {mode : Int} {a : List Int} (hm : In64 mode) (ha : ∀ b ∈ a, In64 b) : normOf mode a = PyWqambd.norm mode a := by
  show _ = OsNeutral.shown (Os.answer (.norm mode.toNat (OsNeutral.nats a)))
  unfold normOf Os.answer
  dsimp only
  rw [withMode_eq hm.1, nats_len]
  by_cases hb : badList mode a 16 = true
  · rw [if_pos hb]
    rcases bad_iff.mp hb with c | c | c
    · rw [if_pos (.inl c)]; rfl
    · rw [if_pos (.inr (decide_eq_false (by unfold Os.LONG; omega)))]; rfl
    · split
      · rfl
      · rw [ofRow_eq ha, if_neg (fun z => c z.2)]; rfl
  · rw [if_neg hb]
    have hb := fun z => hb (bad_iff.mpr z)
    have c1 : ¬ 3 < mode := fun z => hb (.inl z)
    have c2 : ¬ (16 : Int) < (a.length : Int) := fun z => hb (.inr (.inl z))
    have c3 : a.all isFin = true := Classical.byContradiction fun z => hb (.inr (.inr z))
    rw [if_neg (by
      rintro (z | z)
      · exact c1 z
      · have := of_decide_eq_false z
        unfold Os.LONG at this
        omega), ofRow_eq ha, if_pos ⟨rfl, c3⟩]
    refine answer_told (mode := mode) hm.1 (by omega) [(sqSide (productSum (a.map unitsOf) (a.map unitsOf)), fun (r : Rat) => if r < 0 then 1 else if Os.dot (a.map valOf) (a.map valOf) < r * r then -1 else if Os.dot (a.map valOf) (a.map valOf) = r * r then 0 else 1)] ?_
    intro p hp
    rw [List.mem_singleton.mp hp]
    exact cut_sq (prods_units a a)
/-! value -/
def stretched (p : List Int) : List Int := (List.range p.length).map fun i => p.getD i 0 * 2 ^ (1075 * (p.length - 1 - i))
def polyVal (p : List Int) (m : Int) (s : Nat) : Int := p.foldr (fun c t => t * m * 2 ^ s + c) 0
def valueOf (mode x : Int) (p : List Int) : List Int :=
  if (badList mode p 6 || !isFin x) = true then [-1]
  else answer mode [ratioSide (polyVal (stretched (p.map unitsOf)) (pM (placeOf x)) (pS (placeOf x)) * Int.sign (2 ^ (1075 * (p.length - 1)))) ((2 ^ (1075 * (p.length - 1)) : Int).natAbs : Int)]
theorem stretched_cons (c : Int) (r : List Int) : stretched (c :: r) = c * 2 ^ (1075 * r.length) :: stretched r := by
  unfold stretched
  rw [List.length_cons, List.range_succ_eq_map, List.map_cons, List.map_map]
  congr 1
  apply List.map_congr_left
  intro i hi
  show (c :: r).getD (i + 1) 0 * 2 ^ (1075 * (r.length + 1 - 1 - (i + 1))) = r.getD i 0 * 2 ^ (1075 * (r.length - 1 - i))
  have e : r.length + 1 - 1 - (i + 1) = r.length - 1 - i := by omega
  rw [e]
  rfl
theorem UP_pow (n : Nat) : ((2 ^ (1075 * n) : Int) : Rat) = UP ^ n := by
  induction n with
  | zero => rfl
  | succ n ih =>
    rw [Nat.mul_add, Int.pow_add, Rat.intCast_mul, ih, Rat.pow_succ, ← UPi_cast, Nat.mul_one]
    rfl
/-- the value at m 2^s units, in units to the power of the length -/
theorem polyVal_units (x : Int) : ∀ p : List Int, ((polyVal (stretched (p.map unitsOf)) (pM (placeOf x)) (pS (placeOf x)) : Int) : Rat) = Os.polyAt (p.map valOf) (valOf x) * UP ^ p.length
  | [] => by
    show ((0 : Int) : Rat) = 0 * _
    rw [Rat.zero_mul]
    rfl
  | c :: r => by
    have ih := polyVal_units x r
    have e1 : polyVal (stretched ((c :: r).map unitsOf)) (pM (placeOf x)) (pS (placeOf x)) = polyVal (stretched (r.map unitsOf)) (pM (placeOf x)) (pS (placeOf x)) * unitsOf x + unitsOf c * 2 ^ (1075 * r.length) := by
      rw [List.map_cons, stretched_cons, List.length_map]
      show polyVal (stretched (r.map unitsOf)) (pM (placeOf x)) (pS (placeOf x)) * pM (placeOf x) * 2 ^ pS (placeOf x) + _ = _
      rw [Int.mul_assoc]
      rfl
    have e2 : Os.polyAt ((c :: r).map valOf) (valOf x) = valOf c + valOf x * Os.polyAt (r.map valOf) (valOf x) := rfl
    rw [e1, e2, Rat.intCast_add, Rat.intCast_mul, Rat.intCast_mul, ih, ← valOf_units, ← valOf_units, UP_pow, List.length_cons, Rat.pow_succ]
    generalize UP ^ r.length = u
    grind
theorem pow_pos2 (n : Nat) : (0 : Int) < 2 ^ n := Int.pow_pos (by decide)
theorem value_law {mode x : Int} {p : List Int} (hm : In64 mode) (hx : In64 x) (ha : ∀ b ∈ p, In64 b) : valueOf mode x p = PyWqambd.value mode x p := by
  show _ = OsNeutral.shown (Os.answer (.value mode.toNat x.toNat (OsNeutral.nats p)))
  unfold valueOf Os.answer
  dsimp only
  rw [withMode_eq hm.1, nats_len]
  have ex : [x.toNat] = OsNeutral.nats [x] := rfl
  rw [ex, ofRow_eq (l := [x]) (by intro b hb; rw [List.mem_singleton.mp hb]; exact hx)]
  have ea : ∀ f : List Rat → Os.Answer, Os.ofRow p.length (OsNeutral.nats p) f = if p.all isFin = true then f (p.map valOf) else Os.no 1 := fun f => ofRow_self ha f
  simp only [ea]
  have efx : ([x].length = 1 ∧ [x].all isFin = true) = (isFin x = true) := by
    simp
  simp only [efx]
  by_cases hb : (badList mode p 6 || !isFin x) = true
  · rw [if_pos hb]
    rw [Bool.or_eq_true] at hb
    rcases hb with hb | hb
    · rcases bad_iff.mp hb with c | c | c
      · rw [if_pos (.inl c)]; rfl
      · rw [if_pos (.inr (decide_eq_false (by omega)))]; rfl
      · rw [if_neg c]
        split
        · rfl
        · split <;> rfl
    · have hb : ¬ isFin x = true := by
        intro z
        rw [z] at hb
        cases hb
      rw [if_neg hb]
      split <;> rfl
  · rw [if_neg hb]
    have h1 : ¬ badList mode p 6 = true := fun z => hb (by rw [z]; rfl)
    have h2 : isFin x = true := by
      cases q : isFin x with
      | true => rfl
      | false => exact absurd (by rw [q]; simp) hb
    have hb := fun z => h1 (bad_iff.mpr z)
    have c1 : ¬ 3 < mode := fun z => hb (.inl z)
    have c2 : ¬ (6 : Int) < (p.length : Int) := fun z => hb (.inr (.inl z))
    have c3 : p.all isFin = true := Classical.byContradiction fun z => hb (.inr (.inr z))
    rw [if_neg (by
      rintro (z | z)
      · exact c1 z
      · have := of_decide_eq_false z
        omega), if_pos h2, if_pos c3]
    refine answer_told (mode := mode) hm.1 (by omega) [(ratioSide (polyVal (stretched (p.map unitsOf)) (pM (placeOf x)) (pS (placeOf x)) * Int.sign (2 ^ (1075 * (p.length - 1)))) ((2 ^ (1075 * (p.length - 1)) : Int).natAbs : Int), Os.ofRat (Os.polyAt (p.map valOf) (([x].map valOf).getD 0 0)))] ?_
    intro q hq
    rw [List.mem_singleton.mp hq, Int.sign_eq_one_of_pos (pow_pos2 _), Int.mul_one, show ((2 ^ (1075 * (p.length - 1)) : Int).natAbs : Int) = 2 ^ (1075 * (p.length - 1)) from by have := pow_pos2 (1075 * (p.length - 1)); omega]
    refine cut_ratio (pow_pos2 _) ?_
    rw [polyVal_units, UP_pow]
    show _ = Os.polyAt (p.map valOf) (valOf x) * UP * _
    cases p with
    | nil =>
      show (0 : Rat) * _ = 0 * _ * _
      rw [Rat.zero_mul, Rat.zero_mul, Rat.zero_mul]
    | cons c r =>
      have e : (c :: r).length - 1 = r.length := by simp
      rw [e, List.length_cons, Rat.pow_succ]
      generalize UP ^ r.length = u
      grind
end Desk

namespace Desk
/-! matrices: the mirror -/
abbrev MatI := List (List Int)
/-- the rows of m rows and n columns handed over row by row -/
def rowsOf (u : List Int) (m n : Nat) : MatI := (List.range m).map fun i => (List.range n).map fun j => u.getD (n * i + j) 0
def clearedM (row lead : List Int) (j : Nat) : List Int := (List.range row.length).map fun at_ => lead.getD j 0 * row.getD at_ 0 - row.getD j 0 * lead.getD at_ 0
def pivotRow (rows : MatI) (j : Nat) : Nat := rows.findIdx fun r => decide (r.getD j 0 ≠ 0)
def rankStep (st : MatI × Nat) (j : Nat) : MatI × Nat :=
  if pivotRow st.1 j < st.1.length then ((st.1.eraseIdx (pivotRow st.1 j)).map (fun row => clearedM row (st.1.getD (pivotRow st.1 j) []) j), st.2 + 1) else st
def rankOf (rows : MatI) (width : Nat) : Nat := ((List.range width).foldl rankStep (rows, 0)).2
def badSize (size most : Int) : Bool := decide (size < 1) || decide (most < size)
def badMatrix (m n most : Int) (ns : List Int) : Bool := badSize m most || (badSize n 4 || (!decide ((ns.length : Int) = m * n) || !(ns.all isFin)))
def rankM (m n : Int) (a : List Int) : List Int := if badMatrix m n 4 a = true then [-1] else [0, (rankOf (rowsOf (a.map unitsOf) m.toNat n.toNat) n.toNat : Int)]
/-! rows up to a factor -/
def Sc (n : Nat) : MatI → List (List Rat) → Prop
  | [], [] => True
  | r :: rs, l :: ls => (r.length = n ∧ ∃ k : Rat, k ≠ 0 ∧ l = r.map fun (x : Int) => k * (x : Rat)) ∧ Sc n rs ls
  | _, _ => False
theorem Sc.len {n : Nat} : ∀ {rs : MatI} {ls : List (List Rat)}, Sc n rs ls → rs.length = ls.length
  | [], [], _ => rfl
  | _ :: _, _ :: _, h => by rw [List.length_cons, List.length_cons, h.2.len]
  | [], _ :: _, h => h.elim
  | _ :: _, [], h => h.elim
theorem getD_map_mul {r : List Int} {k : Rat} {c : Nat} : (r.map fun (x : Int) => k * (x : Rat)).getD c 0 = k * ((r.getD c 0 : Int) : Rat) := by
  rw [List.getD_eq_getElem?_getD, List.getD_eq_getElem?_getD, List.getElem?_map]
  cases r[c]? with
  | none =>
    show (0 : Rat) = k * ((0 : Int) : Rat)
    rw [Rat.intCast_zero, Rat.mul_zero]
  | some x => rfl
theorem Sc.find {n c : Nat} : ∀ {rs : MatI} {ls : List (List Rat)}, Sc n rs ls → ls.findIdx? (fun (r : List Rat) => decide (r.getD c 0 ≠ 0)) = if pivotRow rs c < rs.length then some (pivotRow rs c) else none
  | [], [], _ => rfl
  | r :: rs, l :: ls, h => by
    have ih := Sc.find (c := c) h.2
    obtain ⟨⟨_, k, hk, rfl⟩, _⟩ := h
    rw [List.findIdx?_cons, getD_map_mul]
    unfold pivotRow at ih ⊢
    rw [List.findIdx_cons]
    by_cases z : r.getD c 0 = 0
    · rw [z, decide_eq_false (by rw [Rat.intCast_zero, Rat.mul_zero]; simp), decide_eq_false (by simp), ih]
      simp only [Bool.false_eq_true, if_false, cond_false]
      by_cases q : List.findIdx (fun r => decide (r.getD c 0 ≠ 0)) rs < rs.length
      · rw [if_pos q, if_pos (by rw [List.length_cons]; omega)]; rfl
      · rw [if_neg q, if_neg (by rw [List.length_cons]; omega)]; rfl
    · rw [decide_eq_true (show k * ((r.getD c 0 : Int) : Rat) ≠ 0 from fun e => by
        rcases Rat.mul_eq_zero.mp e with e | e
        · exact hk e
        · exact z (Rat.intCast_eq_zero_iff.mp e)), decide_eq_true z]
      simp
  | [], _ :: _, h => h.elim
  | _ :: _, [], h => h.elim
theorem Sc.at_ {n : Nat} : ∀ {rs : MatI} {ls : List (List Rat)} {i : Nat}, Sc n rs ls → i < rs.length → (rs.getD i []).length = n ∧ ∃ k : Rat, k ≠ 0 ∧ ls.getD i [] = (rs.getD i []).map fun (x : Int) => k * (x : Rat)
  | r :: rs, l :: ls, 0, h, _ => h.1
  | r :: rs, l :: ls, i + 1, h, hi => Sc.at_ (rs := rs) (ls := ls) (i := i) h.2 (by rw [List.length_cons] at hi; omega)
  | [], [], _, _, hi => absurd hi (Nat.not_lt_zero _)
  | [], _ :: _, _, h, _ => h.elim
  | _ :: _, [], _, h, _ => h.elim
theorem Sc.erase {n : Nat} : ∀ {rs : MatI} {ls : List (List Rat)} {i : Nat}, Sc n rs ls → Sc n (rs.eraseIdx i) (ls.eraseIdx i)
  | [], [], _, h => h
  | r :: rs, l :: ls, 0, h => h.2
  | r :: rs, l :: ls, i + 1, h => ⟨h.1, Sc.erase (i := i) h.2⟩
  | [], _ :: _, _, h => h.elim
  | _ :: _, [], _, h => h.elim
theorem Sc.map {n : Nat} {f : List Int → List Int} {g : List Rat → List Rat} (hfg : ∀ (r : List Int) (k : Rat), k ≠ 0 → r.length = n → (f r).length = n ∧ ∃ k' : Rat, k' ≠ 0 ∧ g (r.map fun (x : Int) => k * (x : Rat)) = (f r).map fun (x : Int) => k' * (x : Rat)) :
    ∀ {rs : MatI} {ls : List (List Rat)}, Sc n rs ls → Sc n (rs.map f) (ls.map g)
  | [], [], h => h
  | r :: rs, l :: ls, h => by
    obtain ⟨⟨h1, k, hk, rfl⟩, h2⟩ := h
    exact ⟨hfg r k hk h1, Sc.map hfg h2⟩
  | [], _ :: _, h => h.elim
  | _ :: _, [], h => h.elim
theorem clear_sc {n c : Nat} {lead : List Int} {kl : Rat} (hkl : kl ≠ 0) (hl : lead.length = n) (hc : lead.getD c 0 ≠ 0) (r : List Int) (k : Rat) (hk : k ≠ 0) (hr : r.length = n) :
    (clearedM r lead c).length = n ∧ ∃ k' : Rat, k' ≠ 0 ∧ Os.clear c (Os.scaleRow (1 / (lead.map fun (x : Int) => kl * (x : Rat)).getD c 0) (lead.map fun (x : Int) => kl * (x : Rat))) (r.map fun (x : Int) => k * (x : Rat)) = (clearedM r lead c).map fun (x : Int) => k' * (x : Rat) := by
  refine ⟨by unfold clearedM; rw [List.length_map, List.length_range, hr], k / ((lead.getD c 0 : Int) : Rat), ?_, ?_⟩
  · intro e
    have hc' : ((lead.getD c 0 : Int) : Rat) ≠ 0 := fun z => hc (Rat.intCast_eq_zero_iff.mp z)
    grind
  · have hc' : ((lead.getD c 0 : Int) : Rat) ≠ 0 := fun z => hc (Rat.intCast_eq_zero_iff.mp z)
    unfold Os.clear
    rw [getD_map_mul, getD_map_mul]
    have key : ∀ i : Nat, i < n → (clearedM r lead c)[i]? = some (lead.getD c 0 * r.getD i 0 - r.getD c 0 * lead.getD i 0) := fun i hi => by
      unfold clearedM
      rw [List.getElem?_map, List.getElem?_range (by omega)]
      rfl
    have gr : ∀ i : Nat, i < n → r[i]? = some (r.getD i 0) := fun i hi => by
      rw [List.getD_eq_getElem?_getD, List.getElem?_eq_getElem (by omega)]
      rfl
    have gl : ∀ i : Nat, i < n → lead[i]? = some (lead.getD i 0) := fun i hi => by
      rw [List.getD_eq_getElem?_getD, List.getElem?_eq_getElem (by omega)]
      rfl
    have lc : (clearedM r lead c).length = n := by unfold clearedM; rw [List.length_map, List.length_range, hr]
    by_cases z : k * ((r.getD c 0 : Int) : Rat) = 0
    · rw [if_pos z]
      have z2 : r.getD c 0 = 0 := by
        rcases Rat.mul_eq_zero.mp z with e | e
        · exact absurd e hk
        · exact Rat.intCast_eq_zero_iff.mp e
      apply List.ext_getElem?
      intro i
      rw [List.getElem?_map, List.getElem?_map]
      by_cases hi : i < n
      · rw [key i hi, gr i hi, z2]
        show some (k * _) = some (_ * (((lead.getD c 0 * r.getD i 0 - 0 * lead.getD i 0 : Int)) : Rat))
        rw [Int.zero_mul, Int.sub_zero, Rat.intCast_mul]
        congr 1
        generalize ((r.getD i 0 : Int) : Rat) = x
        generalize ((lead.getD c 0 : Int) : Rat) = y at hc' ⊢
        grind
      · rw [List.getElem?_eq_none (by omega), List.getElem?_eq_none (by omega)]
        rfl
    · rw [if_neg z]
      unfold Os.subRow Os.scaleRow
      apply List.ext_getElem?
      intro i
      rw [List.getElem?_zipWith, List.getElem?_map, List.getElem?_map, List.getElem?_map, List.getElem?_map, List.getElem?_map]
      by_cases hi : i < n
      · rw [key i hi, gr i hi, gl i hi]
        show some (k * ((r.getD i 0 : Int) : Rat) - k * ((r.getD c 0 : Int) : Rat) * (1 / (kl * ((lead.getD c 0 : Int) : Rat)) * (kl * ((lead.getD i 0 : Int) : Rat)))) = some (k / ((lead.getD c 0 : Int) : Rat) * (((lead.getD c 0 * r.getD i 0 - r.getD c 0 * lead.getD i 0 : Int)) : Rat))
        rw [Rat.intCast_sub, Rat.intCast_mul, Rat.intCast_mul]
        congr 1
        generalize ((r.getD i 0 : Int) : Rat) = x
        generalize ((lead.getD i 0 : Int) : Rat) = l
        generalize ((r.getD c 0 : Int) : Rat) = rc
        generalize ((lead.getD c 0 : Int) : Rat) = y at hc' ⊢
        grind
      · rw [List.getElem?_eq_none (show r.length ≤ i by omega), List.getElem?_eq_none (show lead.length ≤ i by omega), List.getElem?_eq_none (show (clearedM r lead c).length ≤ i by omega)]
        rfl
theorem rank_sc {n : Nat} : ∀ (f c : Nat) (done left : List (List Rat)) (rest : MatI) (found : Nat), Sc n rest left → done.length = found →
    (Os.reduceFrom f c done left).1.length = ((List.range' c f).foldl rankStep (rest, found)).2
  | 0, c, done, left, rest, found, _, h => h
  | f + 1, c, done, left, rest, found, hs, h => by
    rw [Os.reduceFrom, hs.find, List.range'_succ, List.foldl_cons]
    unfold rankStep
    dsimp only
    by_cases q : pivotRow rest c < rest.length
    · rw [if_pos q, if_pos q]
      dsimp only
      obtain ⟨h1, kl, hkl, h2⟩ := hs.at_ q
      have hp : (rest.getD (pivotRow rest c) []).getD c 0 ≠ 0 := by
        have := List.findIdx_getElem (p := fun (r : List Int) => decide (r.getD c 0 ≠ 0)) (xs := rest) (w := q)
        have := of_decide_eq_true this
        rw [List.getD_eq_getElem?_getD (l := rest), List.getElem?_eq_getElem q]
        exact this
      refine rank_sc (n := n) f (c + 1) _ _ _ _ ?_ (by rw [List.length_append, List.length_map, h]; rfl)
      rw [h2]
      exact Sc.map (clear_sc hkl h1 hp) hs.erase
    · rw [if_neg q, if_neg q]
      exact rank_sc f (c + 1) _ _ _ _ hs h
theorem rows_sc_aux {n : Nat} (g : Nat → Nat → Int) (h : Nat → Nat → Rat) (k : Rat) (hk : k ≠ 0) (e : ∀ i j, h i j = k * ((g i j : Int) : Rat)) : ∀ l : List Nat, Sc n (l.map fun i => (List.range n).map (g i)) (l.map fun i => (List.range n).map (h i))
  | [] => trivial
  | i :: l => by
    refine ⟨⟨by rw [List.length_map, List.length_range], k, hk, ?_⟩, rows_sc_aux g h k hk e l⟩
    rw [List.map_map]
    apply List.map_congr_left
    intro j _
    exact e i j
theorem getD_units (a : List Int) (i : Nat) : (a.map valOf).getD i 0 = 1 / UP * (((a.map unitsOf).getD i 0 : Int) : Rat) := by
  rw [List.getD_eq_getElem?_getD, List.getD_eq_getElem?_getD, List.getElem?_map, List.getElem?_map]
  cases a[i]? with
  | none =>
    show (0 : Rat) = _ * ((0 : Int) : Rat)
    rw [Rat.intCast_zero, Rat.mul_zero]
  | some x =>
    show valOf x = _ * ((unitsOf x : Int) : Rat)
    rw [← valOf_units]
    have := UP_ne
    grind
theorem rank_eq (a : List Int) (m n : Nat) : Os.rank n (Os.matIn m n (a.map valOf)) = rankOf (rowsOf (a.map unitsOf) m n) n := by
  unfold Os.rank rankOf
  rw [rank_sc (n := n) n 0 [] _ (rowsOf (a.map unitsOf) m n) 0 ?_ rfl, List.range_eq_range']
  unfold Os.matIn Os.matOf rowsOf
  exact rows_sc_aux _ _ (1 / UP) (by have := UP_ne; grind) (fun i j => getD_units a (n * i + j)) _
theorem few_iff {n : Int} (h : In64 n) : Os.few n.toNat = !badSize n 4 := by
  obtain ⟨h0, h1⟩ := h
  unfold Os.few badSize
  by_cases a : n < 1
  · rw [decide_eq_true a, decide_eq_false (by omega)]; rfl
  · rw [decide_eq_false a, decide_eq_true (by omega)]
    by_cases b : 4 < n
    · rw [decide_eq_true b, decide_eq_false (by omega)]; rfl
    · rw [decide_eq_false b, decide_eq_true (by omega)]; rfl
theorem badMatrix_iff {m n most : Int} {a : List Int} : badMatrix m n most a = true ↔ badSize m most = true ∨ badSize n 4 = true ∨ ¬ (a.length : Int) = m * n ∨ ¬ a.all isFin = true := by
  unfold badMatrix
  rw [Bool.or_eq_true, Bool.or_eq_true, Bool.or_eq_true]
  by_cases c : (a.length : Int) = m * n
  · rw [decide_eq_true c]
    cases a.all isFin <;> simp [c]
  · rw [decide_eq_false c]
    simp [c]
theorem rank_law {m n : Int} {a : List Int} (hm : In64 m) (hn : In64 n) (ha : ∀ b ∈ a, In64 b) : rankM m n a = PyWqambd.rank m n a := by
  show _ = OsNeutral.shown (Os.answer (.rank m.toNat n.toNat (OsNeutral.nats a)))
  have e0 : (0 : Nat) = Int.toNat 0 := rfl
  unfold rankM Os.answer
  dsimp only
  rw [few_iff hm, few_iff hn, e0, withMode_eq (by decide)]
  by_cases hb : badMatrix m n 4 a = true
  · rw [if_pos hb]
    rcases badMatrix_iff.mp hb with c | c | c | c
    · rw [c, if_pos (.inr rfl)]; rfl
    · rw [c, if_pos (.inr (by simp))]; rfl
    · split
      · rfl
      · rw [ofRow_eq ha, if_neg (fun z => c ?_)]
        · rfl
        · have := z.1
          have hm0 := hm.1
          have hn0 := hn.1
          rw [show m * n = ((m.toNat * n.toNat : Nat) : Int) by rw [Int.natCast_mul]; congr 1 <;> omega]
          omega
    · split
      · rfl
      · rw [ofRow_eq ha, if_neg (fun z => c z.2)]; rfl
  · rw [if_neg hb]
    have hb := fun z => hb (badMatrix_iff.mpr z)
    have c1 : badSize m 4 = false := by
      cases q : badSize m 4 with
      | false => rfl
      | true => exact (hb (.inl q)).elim
    have c2 : badSize n 4 = false := by
      cases q : badSize n 4 with
      | false => rfl
      | true => exact (hb (.inr (.inl q))).elim
    have c3 : (a.length : Int) = m * n := Classical.byContradiction fun z => hb (.inr (.inr (.inl z)))
    have c4 : a.all isFin = true := Classical.byContradiction fun z => hb (.inr (.inr (.inr z)))
    have c5 : a.length = m.toNat * n.toNat := by
      have hm0 := hm.1
      have hn0 := hn.1
      rw [show m * n = ((m.toNat * n.toNat : Nat) : Int) by rw [Int.natCast_mul]; congr 1 <;> omega] at c3
      omega
    rw [c1, c2, if_neg (by simp), ofRow_eq ha, if_pos ⟨c5, c4⟩, rank_eq]
    rfl
end Desk

namespace Desk
/-! determinants: the mirror -/
def minorM (rows : MatI) (i j : Nat) : MatI := (rows.eraseIdx i).map fun r => r.eraseIdx j
def signedM (power : Nat) (x : Int) : Int := if power % 2 = 1 then -x else x
def detM : Nat → MatI → Int
  | 0, _ => 1
  | n + 1, rows => (List.range (n + 1)).foldl (fun t j => t + signedM j ((rows.getD 0 []).getD j 0 * detM n (minorM rows 0 j))) 0
theorem detM1 (a : Int) : detM 1 [[a]] = a := by
  show 0 + a * 1 = a
  grind
theorem detM2 (a b c d : Int) : detM 2 [[a, b], [c, d]] = a * d - b * c := by
  show 0 + a * (0 + d * 1) + -(b * (0 + c * 1)) = _
  grind
theorem detM3 (a b c d e f g h i : Int) : detM 3 [[a, b, c], [d, e, f], [g, h, i]] = a * (e * i - f * h) - b * (d * i - f * g) + c * (d * h - e * g) := by
  show 0 + a * detM 2 [[e, f], [h, i]] + -(b * detM 2 [[d, f], [g, i]]) + c * detM 2 [[d, e], [g, h]] = _
  rw [detM2, detM2, detM2]
  grind
theorem detM4 (a b c d e f g h i j k l m n o p : Int) : detM 4 [[a, b, c, d], [e, f, g, h], [i, j, k, l], [m, n, o, p]] =
    a * (f * (k * p - l * o) - g * (j * p - l * n) + h * (j * o - k * n)) - b * (e * (k * p - l * o) - g * (i * p - l * m) + h * (i * o - k * m))
    + c * (e * (j * p - l * n) - f * (i * p - l * m) + h * (i * n - j * m)) - d * (e * (j * o - k * n) - f * (i * o - k * m) + g * (i * n - j * m)) := by
  show 0 + a * detM 3 [[f, g, h], [j, k, l], [n, o, p]] + -(b * detM 3 [[e, g, h], [i, k, l], [m, o, p]]) + c * detM 3 [[e, f, h], [i, j, l], [m, n, p]] + -(d * detM 3 [[e, f, g], [i, j, k], [m, n, o]]) = _
  rw [detM3, detM3, detM3, detM3]
  grind
/-! the specification's determinant -/
theorem find0 {a : List Rat} {r : List (List Rat)} (h : a.headD 0 ≠ 0) : (a :: r).findIdx? (fun (r : List Rat) => decide (r.headD 0 ≠ 0)) = some 0 := by
  rw [List.findIdx?_cons, decide_eq_true h]
  rfl
theorem findS {a : List Rat} {r : List (List Rat)} (h : a.headD 0 = 0) : (a :: r).findIdx? (fun (r : List Rat) => decide (r.headD 0 ≠ 0)) = (r.findIdx? (fun (r : List Rat) => decide (r.headD 0 ≠ 0))).map (· + 1) := by
  rw [List.findIdx?_cons, decide_eq_false (by simpa using h)]
  rfl
theorem detF1 (a : Rat) : Os.detFrom 1 [[a]] = a := by
  unfold Os.detFrom
  by_cases h : a = 0
  · rw [findS (by exact h), h]; rfl
  · rw [find0 (by exact h)]
    show 1 * (a * 1) = a
    grind
theorem detF2 (a b c d : Rat) : Os.detFrom 2 [[a, b], [c, d]] = a * d - b * c := by
  unfold Os.detFrom
  by_cases h : a = 0
  · rw [findS (by exact h)]
    by_cases h2 : c = 0
    · rw [findS (by exact h2), h, h2]
      show (0 : Rat) = _
      grind
    · rw [find0 (by exact h2)]
      show -1 * (c * Os.detFrom 1 [[b - a / c * d]]) = _
      rw [detF1, h]
      grind
  · rw [find0 (by exact h)]
    show 1 * (a * Os.detFrom 1 [[d - c / a * b]]) = _
    rw [detF1]
    grind
theorem detF3 (a b c d e f g h i : Rat) : Os.detFrom 3 [[a, b, c], [d, e, f], [g, h, i]] = a * (e * i - f * h) - b * (d * i - f * g) + c * (d * h - e * g) := by
  unfold Os.detFrom
  by_cases h1 : a = 0
  · rw [findS (by exact h1)]
    by_cases h2 : d = 0
    · rw [findS (by exact h2)]
      by_cases h3 : g = 0
      · rw [findS (by exact h3), h1, h2, h3]
        show (0 : Rat) = _
        grind
      · rw [find0 (by exact h3)]
        show 1 * (g * Os.detFrom 2 [[b - a / g * h, c - a / g * i], [e - d / g * h, f - d / g * i]]) = _
        rw [detF2, h1, h2]
        grind
    · rw [find0 (by exact h2)]
      show -1 * (d * Os.detFrom 2 [[b - a / d * e, c - a / d * f], [h - g / d * e, i - g / d * f]]) = _
      rw [detF2, h1]
      obtain ⟨t, rfl⟩ : ∃ t, g = t * d := ⟨g / d, by grind⟩
      rw [show t * d / d = t by grind]
      grind
  · rw [find0 (by exact h1)]
    show 1 * (a * Os.detFrom 2 [[e - d / a * b, f - d / a * c], [h - g / a * b, i - g / a * c]]) = _
    rw [detF2]
    obtain ⟨t, rfl⟩ : ∃ t, d = t * a := ⟨d / a, by grind⟩
    obtain ⟨s, rfl⟩ : ∃ t, g = t * a := ⟨g / a, by grind⟩
    rw [show t * a / a = t by grind, show s * a / a = s by grind]
    grind
set_option maxHeartbeats 4000000 in
theorem detF4 (a b c d e f g h i j k l m n o p : Rat) : Os.detFrom 4 [[a, b, c, d], [e, f, g, h], [i, j, k, l], [m, n, o, p]] =
    a * (f * (k * p - l * o) - g * (j * p - l * n) + h * (j * o - k * n)) - b * (e * (k * p - l * o) - g * (i * p - l * m) + h * (i * o - k * m))
    + c * (e * (j * p - l * n) - f * (i * p - l * m) + h * (i * n - j * m)) - d * (e * (j * o - k * n) - f * (i * o - k * m) + g * (i * n - j * m)) := by
  unfold Os.detFrom
  by_cases h1 : a = 0
  · rw [findS (by exact h1)]
    by_cases h2 : e = 0
    · rw [findS (by exact h2)]
      by_cases h3 : i = 0
      · rw [findS (by exact h3)]
        by_cases h4 : m = 0
        · rw [findS (by exact h4), h1, h2, h3, h4]
          show (0 : Rat) = _
          grind
        · rw [find0 (by exact h4)]
          show -1 * (m * Os.detFrom 3 [[b - a / m * n, c - a / m * o, d - a / m * p], [f - e / m * n, g - e / m * o, h - e / m * p], [j - i / m * n, k - i / m * o, l - i / m * p]]) = _
          rw [detF3, h1, h2, h3]
          rw [show (0 : Rat) / m = 0 by grind]
          grind
      · rw [find0 (by exact h3)]
        show 1 * (i * Os.detFrom 3 [[b - a / i * j, c - a / i * k, d - a / i * l], [f - e / i * j, g - e / i * k, h - e / i * l], [n - m / i * j, o - m / i * k, p - m / i * l]]) = _
        rw [detF3, h1, h2]
        obtain ⟨t, rfl⟩ : ∃ t, m = t * i := ⟨m / i, by grind⟩
        rw [show (0 : Rat) / i = 0 by grind, show t * i / i = t by grind]
        grind
    · rw [find0 (by exact h2)]
      show -1 * (e * Os.detFrom 3 [[b - a / e * f, c - a / e * g, d - a / e * h], [j - i / e * f, k - i / e * g, l - i / e * h], [n - m / e * f, o - m / e * g, p - m / e * h]]) = _
      rw [detF3, h1]
      obtain ⟨t, rfl⟩ : ∃ t, i = t * e := ⟨i / e, by grind⟩
      obtain ⟨s, rfl⟩ : ∃ t, m = t * e := ⟨m / e, by grind⟩
      rw [show (0 : Rat) / e = 0 by grind, show t * e / e = t by grind, show s * e / e = s by grind]
      grind
  · rw [find0 (by exact h1)]
    show 1 * (a * Os.detFrom 3 [[f - e / a * b, g - e / a * c, h - e / a * d], [j - i / a * b, k - i / a * c, l - i / a * d], [n - m / a * b, o - m / a * c, p - m / a * d]]) = _
    rw [detF3]
    obtain ⟨t, rfl⟩ : ∃ t, e = t * a := ⟨e / a, by grind⟩
    obtain ⟨s, rfl⟩ : ∃ t, i = t * a := ⟨i / a, by grind⟩
    obtain ⟨r, rfl⟩ : ∃ t, m = t * a := ⟨m / a, by grind⟩
    rw [show t * a / a = t by grind, show s * a / a = s by grind, show r * a / a = r by grind]
    grind
end Desk

namespace Desk
/-! det -/
theorem list_is1 {α : Type} {l : List α} (h : l.length = 1) : ∃ x0, l = [x0] := match l, h with | [x0], _ => ⟨x0, rfl⟩
theorem list_is2 {α : Type} {l : List α} (h : l.length = 2) : ∃ x0 x1, l = [x0, x1] := match l, h with | [x0, x1], _ => ⟨x0, x1, rfl⟩
theorem list_is3 {α : Type} {l : List α} (h : l.length = 3) : ∃ x0 x1 x2, l = [x0, x1, x2] := match l, h with | [x0, x1, x2], _ => ⟨x0, x1, x2, rfl⟩
theorem list_is4 {α : Type} {l : List α} (h : l.length = 4) : ∃ x0 x1 x2 x3, l = [x0, x1, x2, x3] := match l, h with | [x0, x1, x2, x3], _ => ⟨x0, x1, x2, x3, rfl⟩
theorem list_is9 {α : Type} {l : List α} (h : l.length = 9) : ∃ x0 x1 x2 x3 x4 x5 x6 x7 x8, l = [x0, x1, x2, x3, x4, x5, x6, x7, x8] := match l, h with | [x0, x1, x2, x3, x4, x5, x6, x7, x8], _ => ⟨x0, x1, x2, x3, x4, x5, x6, x7, x8, rfl⟩
theorem list_is16 {α : Type} {l : List α} (h : l.length = 16) : ∃ x0 x1 x2 x3 x4 x5 x6 x7 x8 x9 x10 x11 x12 x13 x14 x15, l = [x0, x1, x2, x3, x4, x5, x6, x7, x8, x9, x10, x11, x12, x13, x14, x15] := match l, h with | [x0, x1, x2, x3, x4, x5, x6, x7, x8, x9, x10, x11, x12, x13, x14, x15], _ => ⟨x0, x1, x2, x3, x4, x5, x6, x7, x8, x9, x10, x11, x12, x13, x14, x15, rfl⟩
theorem units_cast (x : Int) : ((unitsOf x : Int) : Rat) = valOf x * UP := (valOf_units x).symm
/-- what holds of a square matrix's size -/
theorem size_cases {n : Nat} (h1 : 1 ≤ n) (h4 : n ≤ 4) : n = 1 ∨ n = 2 ∨ n = 3 ∨ n = 4 := by omega
set_option maxHeartbeats 4000000 in
theorem det_units {n : Nat} (h1 : 1 ≤ n) (h4 : n ≤ 4) {a : List Int} (hl : a.length = n * n) : ((detM n (rowsOf (a.map unitsOf) n n) : Int) : Rat) = Os.detFrom n (Os.matIn n n (a.map valOf)) * UP ^ n := by
  rcases size_cases h1 h4 with rfl | rfl | rfl | rfl
  · obtain ⟨a0, rfl⟩ := list_is1 hl
    show ((detM 1 [[unitsOf a0]] : Int) : Rat) = Os.detFrom 1 [[valOf a0]] * UP ^ 1
    rw [detM1, detF1, units_cast, Rat.pow_one]
  · obtain ⟨a0, a1, a2, a3, rfl⟩ := list_is4 hl
    show ((detM 2 [[unitsOf a0, unitsOf a1], [unitsOf a2, unitsOf a3]] : Int) : Rat) = Os.detFrom 2 [[valOf a0, valOf a1], [valOf a2, valOf a3]] * UP ^ 2
    rw [detM2, detF2]
    simp only [Rat.intCast_sub, Rat.intCast_mul, units_cast]
    generalize UP = u
    grind
  · obtain ⟨a0, a1, a2, a3, a4, a5, a6, a7, a8, rfl⟩ := list_is9 hl
    show ((detM 3 [[unitsOf a0, unitsOf a1, unitsOf a2], [unitsOf a3, unitsOf a4, unitsOf a5], [unitsOf a6, unitsOf a7, unitsOf a8]] : Int) : Rat) = Os.detFrom 3 [[valOf a0, valOf a1, valOf a2], [valOf a3, valOf a4, valOf a5], [valOf a6, valOf a7, valOf a8]] * UP ^ 3
    rw [detM3, detF3]
    simp only [Rat.intCast_sub, Rat.intCast_add, Rat.intCast_mul, units_cast]
    generalize UP = u
    grind
  · obtain ⟨a0, a1, a2, a3, a4, a5, a6, a7, a8, a9, b0, b1, b2, b3, b4, b5, rfl⟩ := list_is16 hl
    show ((detM 4 [[unitsOf a0, unitsOf a1, unitsOf a2, unitsOf a3], [unitsOf a4, unitsOf a5, unitsOf a6, unitsOf a7], [unitsOf a8, unitsOf a9, unitsOf b0, unitsOf b1], [unitsOf b2, unitsOf b3, unitsOf b4, unitsOf b5]] : Int) : Rat)
      = Os.detFrom 4 [[valOf a0, valOf a1, valOf a2, valOf a3], [valOf a4, valOf a5, valOf a6, valOf a7], [valOf a8, valOf a9, valOf b0, valOf b1], [valOf b2, valOf b3, valOf b4, valOf b5]] * UP ^ 4
    rw [detM4, detF4]
    simp only [Rat.intCast_sub, Rat.intCast_add, Rat.intCast_mul, units_cast]
    generalize UP = u
    grind
def detOf (mode n : Int) (a : List Int) : List Int :=
  if (decide (3 < mode) || badMatrix n n 4 a) = true then [-1]
  else answer mode [ratioSide (detM n.toNat (rowsOf (a.map unitsOf) n.toNat n.toNat) * Int.sign (2 ^ (1075 * (n.toNat - 1)))) ((2 ^ (1075 * (n.toNat - 1)) : Int).natAbs : Int)]
/-- the refusals of a square matrix, as the specification tells them -/
theorem refuse_square {mode n : Int} {a : List Int} (hm : In64 mode) (hn : In64 n) (ha : ∀ b ∈ a, In64 b) (f : List Rat → Os.Answer) :
    Os.withMode mode.toNat (Os.few n.toNat) (fun _ => Os.ofRow (n.toNat * n.toNat) (OsNeutral.nats a) f) = if (decide (3 < mode) || badMatrix n n 4 a) = true then Os.no 1 else f (a.map valOf) := by
  rw [withMode_eq hm.1, few_iff hn, ofRow_eq ha]
  have en : (a.length : Int) = n * n ↔ a.length = n.toNat * n.toNat := by
    have hn0 := hn.1
    rw [show n * n = ((n.toNat * n.toNat : Nat) : Int) by rw [Int.natCast_mul]; congr 1 <;> omega]
    omega
  by_cases c1 : 3 < mode
  · rw [if_pos (.inl c1), decide_eq_true c1, Bool.true_or, if_pos rfl]
  · rw [decide_eq_false c1, Bool.false_or]
    by_cases c2 : badSize n 4 = true
    · rw [c2, if_pos (.inr rfl), if_pos (badMatrix_iff.mpr (.inl c2))]
    · have c2' : badSize n 4 = false := by simpa using c2
      rw [c2', if_neg (by simp [c1])]
      by_cases c3 : a.length = n.toNat * n.toNat ∧ a.all isFin = true
      · rw [if_pos c3, if_neg]
        intro z
        rcases badMatrix_iff.mp z with d | d | d | d
        · exact c2 d
        · exact c2 d
        · exact d (en.mpr c3.1)
        · exact d c3.2
      · rw [if_neg c3, if_pos]
        by_cases d : a.length = n.toNat * n.toNat
        · exact badMatrix_iff.mpr (.inr (.inr (.inr fun z => c3 ⟨d, z⟩)))
        · exact badMatrix_iff.mpr (.inr (.inr (.inl fun z => d (en.mp z))))
theorem square_of {mode n : Int} {a : List Int} (hn : In64 n) (h : ¬ (decide (3 < mode) || badMatrix n n 4 a) = true) : mode ≤ 3 ∧ ∃ k : Nat, n = (k : Int) ∧ 1 ≤ k ∧ k ≤ 4 ∧ a.length = k * k := by
  have h1 : ¬ 3 < mode := fun z => h (by rw [decide_eq_true z]; rfl)
  have h2 : ¬ badMatrix n n 4 a = true := fun z => h (by rw [z, Bool.or_true])
  have hb := fun z => h2 (badMatrix_iff.mpr z)
  have c2 : ¬ badSize n 4 = true := fun z => hb (.inl z)
  have c3 : (a.length : Int) = n * n := Classical.byContradiction fun z => hb (.inr (.inr (.inl z)))
  unfold badSize at c2
  simp only [Bool.or_eq_true, decide_eq_true_eq, not_or] at c2
  refine ⟨by omega, n.toNat, by omega, by omega, by omega, ?_⟩
  rw [show n * n = ((n.toNat * n.toNat : Nat) : Int) by rw [Int.natCast_mul]; congr 1 <;> omega] at c3
  omega
theorem det_law {mode n : Int} {a : List Int} (hm : In64 mode) (hn : In64 n) (ha : ∀ b ∈ a, In64 b) : detOf mode n a = PyWqambd.det mode n a := by
  show _ = OsNeutral.shown (Os.answer (.det mode.toNat n.toNat (OsNeutral.nats a)))
  unfold detOf Os.answer
  dsimp only
  rw [refuse_square hm hn ha]
  by_cases hb : (decide (3 < mode) || badMatrix n n 4 a) = true
  · rw [if_pos hb, if_pos hb]
    rfl
  · rw [if_neg hb, if_neg hb]
    obtain ⟨h3, k, rfl, k1, k4, kl⟩ := square_of hn hb
    rw [Int.toNat_natCast]
    refine answer_told (mode := mode) hm.1 h3 [(ratioSide (detM k (rowsOf (a.map unitsOf) k k) * Int.sign (2 ^ (1075 * (k - 1)))) ((2 ^ (1075 * (k - 1)) : Int).natAbs : Int), Os.ofRat (Os.detFrom k (Os.matIn k k (a.map valOf))))] ?_
    intro q hq
    rw [List.mem_singleton.mp hq, Int.sign_eq_one_of_pos (pow_pos2 _), Int.mul_one, show ((2 ^ (1075 * (k - 1)) : Int).natAbs : Int) = 2 ^ (1075 * (k - 1)) from by have := pow_pos2 (1075 * (k - 1)); omega]
    refine cut_ratio (pow_pos2 _) ?_
    rw [det_units k1 k4 kl, UP_pow]
    obtain ⟨j, rfl⟩ : ∃ j, k = j + 1 := ⟨k - 1, by omega⟩
    rw [Nat.add_sub_cancel, Rat.pow_succ]
    generalize UP ^ j = u
    grind
end Desk

namespace Desk
/-! sums -/
def S : Nat → (Nat → Rat) → Rat
  | 0, _ => 0
  | n + 1, f => S n f + f n
theorem S_congr {n : Nat} {f g : Nat → Rat} (h : ∀ i, i < n → f i = g i) : S n f = S n g := by
  induction n with
  | zero => rfl
  | succ n ih => rw [S, S, ih fun i hi => h i (by omega), h n (by omega)]
theorem S_zero {n : Nat} {f : Nat → Rat} (h : ∀ i, i < n → f i = 0) : S n f = 0 := by
  induction n with
  | zero => rfl
  | succ n ih => rw [S, ih fun i hi => h i (by omega), h n (by omega), Rat.add_zero]
theorem S_add (n : Nat) (f g : Nat → Rat) : S n (fun i => f i + g i) = S n f + S n g := by
  induction n with
  | zero => show (0 : Rat) = 0 + 0; grind
  | succ n ih => rw [S, S, S, ih]; grind
theorem S_mul (n : Nat) (k : Rat) (f : Nat → Rat) : S n (fun i => k * f i) = k * S n f := by
  induction n with
  | zero => rw [S, S, Rat.mul_zero]
  | succ n ih => rw [S, S, ih]; grind
theorem S_one {n i : Nat} (hi : i < n) {f : Nat → Rat} (h : ∀ j, j < n → j ≠ i → f j = 0) : S n f = f i := by
  induction n with
  | zero => omega
  | succ n ih =>
    rw [S]
    by_cases c : i = n
    · subst c
      rw [S_zero fun j hj => h j (by omega) (by omega), Rat.zero_add]
    · rw [ih (by omega) fun j hj hne => h j (by omega) hne, h n (by omega) (by omega), Rat.add_zero]
theorem S_two {n i c : Nat} (hi : i < n) (hc : c < n) (hic : i ≠ c) {f : Nat → Rat} (h : ∀ j, j < n → j ≠ i → j ≠ c → f j = 0) : S n f = f i + f c := by
  have e : S n f = S n (fun j => (if j = i then f i else 0) + (if j = c then f c else 0)) := S_congr fun j hj => by
    by_cases a : j = i
    · subst a; rw [if_pos rfl, if_neg hic, Rat.add_zero]
    · by_cases b : j = c
      · subst b; rw [if_neg a, if_pos rfl, Rat.zero_add]
      · rw [if_neg a, if_neg b, h j hj a b, Rat.add_zero]
  rw [e, S_add, S_one hi (f := fun j => if j = i then f i else 0) (fun j _ hne => if_neg hne), S_one hc (f := fun j => if j = c then f c else 0) (fun j _ hne => if_neg hne), if_pos rfl, if_pos rfl]
theorem S_split (m n : Nat) (f : Nat → Rat) : S (m + n) f = S m f + S n (fun i => f (m + i)) := by
  induction n with
  | zero => rw [Nat.add_zero, S, Rat.add_zero]
  | succ n ih => rw [← Nat.add_assoc, S, S, ih]; grind
/-! a row times a vector -/
def dv (r : List Rat) (y : Nat → Rat) : Rat := S r.length (fun c => r.getD c 0 * y c)
theorem getD_map0 {r : List Rat} {f : Rat → Rat} (h : f 0 = 0) (c : Nat) : (r.map f).getD c 0 = f (r.getD c 0) := by
  rw [List.getD_eq_getElem?_getD, List.getD_eq_getElem?_getD, List.getElem?_map]
  cases r[c]? with
  | none => exact h.symm
  | some x => rfl
theorem scale_at (q : Rat) (r : List Rat) (c : Nat) : (Os.scaleRow q r).getD c 0 = q * r.getD c 0 := getD_map0 (Rat.mul_zero q) c
theorem sub_at {a b : List Rat} (h : a.length = b.length) (c : Nat) : (Os.subRow a b).getD c 0 = a.getD c 0 - b.getD c 0 := by
  unfold Os.subRow
  rw [List.getD_eq_getElem?_getD, List.getD_eq_getElem?_getD, List.getD_eq_getElem?_getD, List.getElem?_zipWith]
  by_cases hc : c < a.length
  · rw [List.getElem?_eq_getElem hc, List.getElem?_eq_getElem (by omega)]
    rfl
  · rw [List.getElem?_eq_none (by omega), List.getElem?_eq_none (by omega)]
    show (0 : Rat) = 0 - 0
    grind
theorem scale_len (q : Rat) (r : List Rat) : (Os.scaleRow q r).length = r.length := List.length_map _
theorem sub_len {a b : List Rat} (h : a.length = b.length) : (Os.subRow a b).length = a.length := by
  unfold Os.subRow
  rw [List.length_zipWith, ← h, Nat.min_self]
theorem dv_scale (q : Rat) (r : List Rat) (y : Nat → Rat) : dv (Os.scaleRow q r) y = q * dv r y := by
  unfold dv
  rw [scale_len, ← S_mul]
  exact S_congr fun i _ => by rw [scale_at, Rat.mul_assoc]
theorem dv_sub {a b : List Rat} (h : a.length = b.length) (y : Nat → Rat) : dv (Os.subRow a b) y = dv a y - dv b y := by
  unfold dv
  rw [sub_len h, ← h]
  have e : S a.length (fun c => (Os.subRow a b).getD c 0 * y c) = S a.length (fun c => a.getD c 0 * y c + (-1) * (b.getD c 0 * y c)) := S_congr fun i _ => by
    rw [sub_at h]
    grind
  rw [e, S_add, S_mul]
  grind
theorem clear_len {c : Nat} {p r : List Rat} (h : r.length = p.length) : (Os.clear c p r).length = p.length := by
  unfold Os.clear
  split
  · exact h
  · rw [sub_len (by rw [scale_len]; exact h), h]
theorem dv_clear {c : Nat} {p r : List Rat} (h : r.length = p.length) (y : Nat → Rat) : dv (Os.clear c p r) y = dv r y - r.getD c 0 * dv p y := by
  unfold Os.clear
  split
  · rename_i z
    rw [z]
    grind
  · rw [dv_sub (by rw [scale_len]; exact h), dv_scale]
theorem clear_at {c : Nat} {p r : List Rat} (h : r.length = p.length) (j : Nat) : (Os.clear c p r).getD j 0 = r.getD j 0 - r.getD c 0 * p.getD j 0 := by
  unfold Os.clear
  split
  · rename_i z
    rw [z]
    grind
  · rw [sub_at (by rw [scale_len]; exact h), scale_at]
/-! Gauss and Jordan -/
/-- y times every row is 0 -/
def Sol (rows : Os.Mat) (y : Nat → Rat) : Prop := ∀ r ∈ rows, dv r y = 0
structure GJ (N c : Nat) (n : Nat) (done left : Os.Mat) : Prop where
  lenD : done.length = c
  lenL : done.length + left.length = n
  len : ∀ r ∈ done ++ left, r.length = N
  unit : ∀ (i : Nat) (r : List Rat), done[i]? = some r → ∀ j, j < c → r.getD j 0 = if j = i then 1 else 0
  zero : ∀ r ∈ left, ∀ j, j < c → r.getD j 0 = 0
theorem mem_erase_or {left : Os.Mat} {i : Nat} (hi : i < left.length) {r : List Rat} (h : r ∈ left) : r = left[i] ∨ r ∈ left.eraseIdx i := by
  obtain ⟨j, hj, rfl⟩ := List.mem_iff_getElem.mp h
  by_cases c : j = i
  · subst c; exact .inl rfl
  · refine .inr ?_
    rw [List.mem_eraseIdx_iff_getElem]
    exact ⟨j, hj, c, rfl⟩
theorem sol_step {N c n : Nat} {done left : Os.Mat} (g : GJ N c n done left) {i : Nat} (hi : i < left.length) (hp : (left.getD i []).getD c 0 ≠ 0) (y : Nat → Rat) :
    Sol (done.map (Os.clear c (Os.scaleRow (1 / (left.getD i []).getD c 0) (left.getD i []))) ++ [Os.scaleRow (1 / (left.getD i []).getD c 0) (left.getD i [])] ++ (left.eraseIdx i).map (Os.clear c (Os.scaleRow (1 / (left.getD i []).getD c 0) (left.getD i [])))) y ↔ Sol (done ++ left) y := by
  have hg : left.getD i [] = left[i] := by rw [List.getD_eq_getElem?_getD, List.getElem?_eq_getElem hi]; rfl
  have hm : left.getD i [] ∈ left := by rw [hg]; exact List.getElem_mem _
  have hlen : (left.getD i []).length = N := g.len _ (List.mem_append.mpr (.inr hm))
  generalize hL : left.getD i [] = L at hp hg hm hlen ⊢
  generalize hP : Os.scaleRow (1 / L.getD c 0) L = p
  have hpl : p.length = N := by rw [← hP, scale_len, hlen]
  have hpd : dv p y = 1 / L.getD c 0 * dv L y := by rw [← hP, dv_scale]
  constructor
  · intro h
    have h1 : dv p y = 0 := h p (by simp)
    have hL0 : dv L y = 0 := by
      rw [hpd] at h1
      rcases Rat.mul_eq_zero.mp h1 with z | z
      · exact absurd z (by grind)
      · exact z
    intro r hr
    rcases List.mem_append.mp hr with hr | hr
    · have h2 := h (Os.clear c p r) (List.mem_append.mpr (.inl (List.mem_append.mpr (.inl (List.mem_map.mpr ⟨r, hr, rfl⟩)))))
      rw [dv_clear (by rw [hpl]; exact g.len r (List.mem_append.mpr (.inl hr))), h1] at h2
      grind
    · rcases mem_erase_or hi hr with z | z
      · rw [z, ← hg]; exact hL0
      · have h2 := h (Os.clear c p r) (List.mem_append.mpr (.inr (List.mem_map.mpr ⟨r, z, rfl⟩)))
        rw [dv_clear (by rw [hpl]; exact g.len r (List.mem_append.mpr (.inr hr))), h1] at h2
        grind
  · intro h
    have hL0 : dv L y = 0 := h L (List.mem_append.mpr (.inr hm))
    have h1 : dv p y = 0 := by rw [hpd, hL0, Rat.mul_zero]
    intro r hr
    rcases List.mem_append.mp hr with hr | hr
    · rcases List.mem_append.mp hr with hr | hr
      · obtain ⟨r0, h0, rfl⟩ := List.mem_map.mp hr
        rw [dv_clear (by rw [hpl]; exact g.len r0 (List.mem_append.mpr (.inl h0))), h1, h r0 (List.mem_append.mpr (.inl h0))]
        grind
      · rw [List.mem_singleton.mp hr]; exact h1
    · obtain ⟨r0, h0, rfl⟩ := List.mem_map.mp hr
      have hm0 := List.mem_of_mem_eraseIdx h0
      rw [dv_clear (by rw [hpl]; exact g.len r0 (List.mem_append.mpr (.inr hm0))), h1, h r0 (List.mem_append.mpr (.inr hm0))]
      grind
theorem gj_step {N c n : Nat} {done left : Os.Mat} (g : GJ N c n done left) {i : Nat} (hi : i < left.length) (hp : (left.getD i []).getD c 0 ≠ 0) :
    GJ N (c + 1) n (done.map (Os.clear c (Os.scaleRow (1 / (left.getD i []).getD c 0) (left.getD i []))) ++ [Os.scaleRow (1 / (left.getD i []).getD c 0) (left.getD i [])]) ((left.eraseIdx i).map (Os.clear c (Os.scaleRow (1 / (left.getD i []).getD c 0) (left.getD i [])))) := by
  have hg : left.getD i [] = left[i] := by rw [List.getD_eq_getElem?_getD, List.getElem?_eq_getElem hi]; rfl
  have hm : left.getD i [] ∈ left := by rw [hg]; exact List.getElem_mem _
  have hlen : (left.getD i []).length = N := g.len _ (List.mem_append.mpr (.inr hm))
  have hz := g.zero _ hm
  generalize hL : left.getD i [] = L at hp hg hm hlen hz ⊢
  generalize hP : Os.scaleRow (1 / L.getD c 0) L = p
  have hpl : p.length = N := by rw [← hP, scale_len, hlen]
  have hpj : ∀ j, j < c → p.getD j 0 = 0 := fun j hj => by rw [← hP, scale_at, hz j hj, Rat.mul_zero]
  have hpc : p.getD c 0 = 1 := by rw [← hP, scale_at]; grind
  refine ⟨by rw [List.length_append, List.length_map, g.lenD]; rfl, ?_, ?_, ?_, ?_⟩
  · have := g.lenL
    rw [List.length_append, List.length_map, List.length_map, List.length_eraseIdx, if_pos hi]
    show done.length + 1 + (left.length - 1) = n
    omega
  · intro r hr
    rcases List.mem_append.mp hr with hr | hr
    · rcases List.mem_append.mp hr with hr | hr
      · obtain ⟨r0, h0, rfl⟩ := List.mem_map.mp hr
        rw [clear_len (by rw [hpl]; exact g.len r0 (List.mem_append.mpr (.inl h0))), hpl]
      · rw [List.mem_singleton.mp hr, hpl]
    · obtain ⟨r0, h0, rfl⟩ := List.mem_map.mp hr
      rw [clear_len (by rw [hpl]; exact g.len r0 (List.mem_append.mpr (.inr (List.mem_of_mem_eraseIdx h0)))), hpl]
  · intro k r hr j hj
    rcases Nat.lt_trichotomy k done.length with q | q | q
    · rw [List.getElem?_append_left (by rw [List.length_map]; exact q), List.getElem?_map] at hr
      cases w : done[k]? with
      | none => rw [w] at hr; cases hr
      | some r0 =>
        rw [w] at hr
        cases hr
        have hu := g.unit k r0 w
        have hm0 : r0 ∈ done := List.mem_of_getElem? w
        rw [clear_at (by rw [hpl]; exact g.len r0 (List.mem_append.mpr (.inl hm0)))]
        by_cases hjc : j < c
        · rw [hu j hjc, hpj j hjc]
          grind
        · have : j = c := by omega
          subst this
          have hd := g.lenD
          rw [hpc, if_neg (by omega)]
          grind
    · subst q
      rw [List.getElem?_append_right (by rw [List.length_map]; exact Nat.le_refl _), List.length_map, Nat.sub_self] at hr
      cases hr
      have hd := g.lenD
      by_cases hjc : j < c
      · rw [hpj j hjc, if_neg (by omega)]
      · have : j = c := by omega
        subst this
        rw [hpc, if_pos hd.symm]
    · rw [List.getElem?_eq_none (by rw [List.length_append, List.length_map]; show done.length + 1 ≤ k; omega)] at hr
      cases hr
  · intro r hr j hj
    obtain ⟨r0, h0, rfl⟩ := List.mem_map.mp hr
    have hm0 := List.mem_of_mem_eraseIdx h0
    rw [clear_at (by rw [hpl]; exact g.len r0 (List.mem_append.mpr (.inr hm0)))]
    by_cases hjc : j < c
    · rw [g.zero r0 hm0 j hjc, hpj j hjc]
      grind
    · have : j = c := by omega
      subst this
      rw [hpc]
      grind
theorem reduce_bound : ∀ (f c : Nat) (done left : Os.Mat), (Os.reduceFrom f c done left).1.length ≤ done.length + f
  | 0, c, done, left => Nat.le_refl _
  | f + 1, c, done, left => by
    rw [Os.reduceFrom]
    split
    · have := reduce_bound f (c + 1) done left
      omega
    · rename_i i _
      refine Nat.le_trans (reduce_bound f (c + 1) _ _) ?_
      rw [List.length_append, List.length_map]
      show done.length + 1 + f ≤ _
      omega
def kvec (done : Os.Mat) (c : Nat) : Nat → Rat := fun k => if k < c then -((done.getD k []).getD c 0) else if k = c then 1 else 0
theorem kvec_lt {done : Os.Mat} {c k : Nat} (h : k < c) : kvec done c k = -((done.getD k []).getD c 0) := if_pos h
theorem kvec_eq {done : Os.Mat} {c : Nat} : kvec done c c = 1 := by unfold kvec; rw [if_neg (Nat.lt_irrefl c), if_pos rfl]
theorem kvec_gt {done : Os.Mat} {c k : Nat} (h : c < k) : kvec done c k = 0 := by unfold kvec; rw [if_neg (by omega), if_neg (by omega)]
/-- what comes out: every column had its pivot, or a column that hangs on those before it -/
theorem reduce_out {N n : Nat} (hN : n ≤ N) : ∀ (f c : Nat) (done left : Os.Mat), c + f = n → GJ N c n done left →
    (GJ N n n (Os.reduceFrom f c done left).1 (Os.reduceFrom f c done left).2 ∧ ∀ y, Sol ((Os.reduceFrom f c done left).1 ++ (Os.reduceFrom f c done left).2) y ↔ Sol (done ++ left) y) ∨
    ((Os.reduceFrom f c done left).1.length < n ∧ ∃ y : Nat → Rat, Sol (done ++ left) y ∧ (∃ k, k < n ∧ y k = 1) ∧ ∀ k, n ≤ k → y k = 0)
  | 0, c, done, left, hc, g => by
    have : c = n := by omega
    subst this
    exact .inl ⟨g, fun y => Iff.rfl⟩
  | f + 1, c, done, left, hc, g => by
    rw [Os.reduceFrom]
    cases hf : left.findIdx? (fun (r : List Rat) => decide (r.getD c 0 ≠ 0)) with
    | none =>
      refine .inr ⟨?_, ?_⟩
      · dsimp only
        have := reduce_bound f (c + 1) done left
        have := g.lenD
        omega
      · rw [List.findIdx?_eq_none_iff] at hf
        have hz : ∀ r ∈ left, ∀ j, j ≤ c → r.getD j 0 = 0 := fun r hr j hj => by
          by_cases q : j < c
          · exact g.zero r hr j q
          · have : j = c := by omega
            subst this
            have := hf r hr
            simpa using this
        refine ⟨kvec done c, ?_, ⟨c, by omega, kvec_eq⟩, fun k hk => kvec_gt (by omega)⟩
        · intro r hr
          have hrl := g.len r hr
          unfold dv
          rw [hrl]
          rcases List.mem_append.mp hr with hr | hr
          · obtain ⟨i, hi, rfl⟩ := List.mem_iff_getElem.mp hr
            have hiu := g.unit i _ (List.getElem?_eq_getElem hi)
            have hd := g.lenD
            have hgi : done.getD i [] = done[i] := by rw [List.getD_eq_getElem?_getD, List.getElem?_eq_getElem hi]; rfl
            rw [S_two (i := i) (c := c) (by omega) (by omega) (by omega)]
            · rw [hiu i (by omega), if_pos rfl, kvec_lt (by omega), kvec_eq, hgi]
              grind
            · intro j hj h1 h2
              by_cases q : j < c
              · rw [hiu j q, if_neg h1, Rat.zero_mul]
              · rw [kvec_gt (by omega), Rat.mul_zero]
          · refine S_zero fun j hj => ?_
            by_cases q : j ≤ c
            · rw [hz r hr j q, Rat.zero_mul]
            · rw [kvec_gt (by omega), Rat.mul_zero]
    | some i =>
      rw [List.findIdx?_eq_some_iff_getElem] at hf
      obtain ⟨hi, hpv, _⟩ := hf
      have hp : (left.getD i []).getD c 0 ≠ 0 := by
        have e : left.getD i [] = left[i] := by rw [List.getD_eq_getElem?_getD, List.getElem?_eq_getElem hi]; rfl
        rw [e]
        exact of_decide_eq_true hpv
      dsimp only
      rcases reduce_out hN f (c + 1) _ _ (by omega) (gj_step g hi hp) with ⟨h1, h2⟩ | ⟨h1, y, h2, h3⟩
      · exact .inl ⟨h1, fun y => (h2 y).trans (sol_step g hi hp y)⟩
      · exact .inr ⟨h1, y, (sol_step g hi hp y).mp h2, h3⟩
end Desk

namespace Desk
theorem dv_app (a b : List Rat) (y : Nat → Rat) : dv (a ++ b) y = dv a y + dv b (fun i => y (a.length + i)) := by
  unfold dv
  rw [List.length_append, S_split]
  congr 1
  · exact S_congr fun i hi => by
      rw [List.getD_eq_getElem?_getD, List.getD_eq_getElem?_getD, List.getElem?_append_left hi]
  · exact S_congr fun i hi => by
      rw [List.getD_eq_getElem?_getD, List.getD_eq_getElem?_getD, List.getElem?_append_right (Nat.le_add_right _ _), Nat.add_sub_cancel_left]
theorem dv_congr {r : List Rat} {y z : Nat → Rat} (h : ∀ i, i < r.length → y i = z i) : dv r y = dv r z := S_congr fun i hi => by rw [h i hi]
theorem drop_at (r : List Rat) (n j : Nat) : (r.drop n).getD j 0 = r.getD (n + j) 0 := by
  rw [List.getD_eq_getElem?_getD, List.getD_eq_getElem?_getD, List.getElem?_drop]
def colVec (z : Os.Mat) (n j : Nat) : Nat → Rat := fun c => if c < n then (z.getD c []).getD (n + j) 0 else if c = n + j then -1 else 0
theorem colVec_lt {z : Os.Mat} {n j c : Nat} (h : c < n) : colVec z n j c = (z.getD c []).getD (n + j) 0 := if_pos h
theorem colVec_eq {z : Os.Mat} {n j : Nat} : colVec z n j (n + j) = -1 := by unfold colVec; rw [if_neg (by omega), if_pos rfl]
theorem colVec_ne {z : Os.Mat} {n j c : Nat} (h : n ≤ c) (h2 : c ≠ n + j) : colVec z n j c = 0 := by unfold colVec; rw [if_neg (by omega), if_neg h2]
def cutVec (x : Nat → Rat) (n : Nat) : Nat → Rat := fun c => if c < n then x c else 0
theorem cutVec_lt {x : Nat → Rat} {n c : Nat} (h : c < n) : cutVec x n c = x c := if_pos h
theorem cutVec_ge {x : Nat → Rat} {n c : Nat} (h : n ≤ c) : cutVec x n c = 0 := if_neg (by omega)
/-- what solve comes to -/
theorem solve_out {n k : Nat} {A B : Os.Mat} (hA : A.length = n) (hAr : ∀ r ∈ A, r.length = n) (hB : B.length = n) (hBr : ∀ r ∈ B, r.length = k) :
    (∃ Z : Os.Mat, Os.solve n A B = some Z ∧ Z.length = n ∧ (∀ r ∈ Z, r.length = k) ∧
      (∀ j, j < k → ∀ (i : Nat) (a b : List Rat), A[i]? = some a → B[i]? = some b → dv a (fun c => (Z.getD c []).getD j 0) = b.getD j 0) ∧
      ∀ x : Nat → Rat, (∀ a ∈ A, dv a x = 0) → ∀ c, c < n → x c = 0) ∨
    (Os.solve n A B = none ∧ ∃ x : Nat → Rat, (∀ a ∈ A, dv a x = 0) ∧ ∃ c, c < n ∧ x c = 1) := by
  unfold Os.solve
  dsimp only
  have hM : ∀ (i : Nat) (r : List Rat), (List.zipWith (fun (r s : List Rat) => r ++ s) A B)[i]? = some r → ∃ a b, A[i]? = some a ∧ B[i]? = some b ∧ r = a ++ b := fun i r h => by
    rw [List.getElem?_zipWith] at h
    cases ha : A[i]? with
    | none => rw [ha] at h; cases h
    | some a =>
      cases hb : B[i]? with
      | none => rw [ha, hb] at h; cases h
      | some b =>
        rw [ha, hb] at h
        cases h
        exact ⟨a, b, rfl, rfl, rfl⟩
  have hM2 : ∀ (i : Nat) (a b : List Rat), A[i]? = some a → B[i]? = some b → a ++ b ∈ List.zipWith (fun (r s : List Rat) => r ++ s) A B := fun i a b ha hb => by
    refine List.mem_of_getElem? (i := i) ?_
    rw [List.getElem?_zipWith, ha, hb]
  have hpair : ∀ a ∈ A, ∃ (i : Nat) (b : List Rat), A[i]? = some a ∧ B[i]? = some b := fun a ha => by
    obtain ⟨i, hi, rfl⟩ := List.mem_iff_getElem.mp ha
    exact ⟨i, B[i]'(by omega), List.getElem?_eq_getElem hi, List.getElem?_eq_getElem (by omega)⟩
  have g0 : GJ (n + k) 0 n [] (List.zipWith (fun (r s : List Rat) => r ++ s) A B) := by
    refine ⟨rfl, ?_, ?_, fun i r h => by simp at h, fun r _ j hj => absurd hj (Nat.not_lt_zero _)⟩
    · show 0 + _ = n
      rw [List.length_zipWith, hA, hB, Nat.min_self, Nat.zero_add]
    · intro r hr
      rw [List.nil_append] at hr
      obtain ⟨i, hi, rfl⟩ := List.mem_iff_getElem.mp hr
      obtain ⟨a, b, ha, hb, e⟩ := hM i _ (List.getElem?_eq_getElem hi)
      rw [e, List.length_append, hAr a (List.mem_of_getElem? ha), hBr b (List.mem_of_getElem? hb)]
  have out := reduce_out (N := n + k) (Nat.le_add_right n k) n 0 [] _ (Nat.zero_add n) g0
  generalize Os.reduceFrom n 0 [] (List.zipWith (fun (r s : List Rat) => r ++ s) A B) = z at out ⊢
  rcases out with ⟨g, hs⟩ | ⟨hl, y, hy, hk, hyz⟩
  · left
    have hl := g.lenD
    have hz2 : z.2 = [] := List.length_eq_zero_iff.mp (by have := g.lenL; omega)
    rw [if_pos hl]
    rw [hz2, List.append_nil] at hs
    have hN : ∀ r ∈ z.1, r.length = n + k := fun r hr => g.len r (List.mem_append.mpr (.inl hr))
    have hs' : ∀ y, Sol z.1 y ↔ Sol (List.zipWith (fun (r s : List Rat) => r ++ s) A B) y := fun y => by rw [← List.nil_append (List.zipWith (fun (r s : List Rat) => r ++ s) A B)]; exact hs y
    refine ⟨_, rfl, by rw [List.length_map, hl], fun r hr => ?_, fun j hj i a b ha hb => ?_, fun x hx c hc => ?_⟩
    · obtain ⟨r0, h0, rfl⟩ := List.mem_map.mp hr
      rw [List.length_drop, hN r0 h0]
      omega
    · have hsol : Sol z.1 (colVec z.1 n j) := fun r hr => by
        obtain ⟨i', hi', rfl⟩ := List.mem_iff_getElem.mp hr
        have hu := g.unit i' _ (List.getElem?_eq_getElem hi')
        unfold dv
        rw [hN _ hr, S_two (i := i') (c := n + j) (by omega) (by omega) (by omega)]
        · rw [hu i' (by omega), if_pos rfl, colVec_lt (by omega), colVec_eq, List.getD_eq_getElem?_getD (l := z.1), List.getElem?_eq_getElem hi']
          show 1 * z.1[i'].getD (n + j) 0 + z.1[i'].getD (n + j) 0 * -1 = 0
          grind
        · intro c hc h1 h2
          by_cases q : c < n
          · rw [hu c q, if_neg h1, Rat.zero_mul]
          · rw [colVec_ne (by omega) h2, Rat.mul_zero]
      have h1 := (hs' _).mp hsol _ (hM2 i a b ha hb)
      have hal := hAr a (List.mem_of_getElem? ha)
      have hbl := hBr b (List.mem_of_getElem? hb)
      rw [dv_app, hal] at h1
      have h2 : dv b (fun i => colVec z.1 n j (n + i)) = -(b.getD j 0) := by
        unfold dv
        rw [hbl, S_one hj]
        · show b.getD j 0 * colVec z.1 n j (n + j) = _
          rw [colVec_eq]; grind
        · intro j' hj' hne
          show b.getD j' 0 * colVec z.1 n j (n + j') = 0
          rw [colVec_ne (by omega) (by omega), Rat.mul_zero]
      have h3 : dv a (colVec z.1 n j) = dv a (fun c => ((z.1.map fun (r : List Rat) => r.drop n).getD c []).getD j 0) := dv_congr fun c hc => by
        rw [colVec_lt (by omega), List.getD_eq_getElem?_getD (l := z.1.map _), List.getElem?_map, List.getElem?_eq_getElem (by omega), List.getD_eq_getElem?_getD (l := z.1), List.getElem?_eq_getElem (by omega)]
        exact (drop_at _ n j).symm
      rw [h2, h3] at h1
      grind
    · have hsol : Sol (List.zipWith (fun (r s : List Rat) => r ++ s) A B) (cutVec x n) := fun r hr => by
        obtain ⟨i, hi, rfl⟩ := List.mem_iff_getElem.mp hr
        obtain ⟨a, b, ha, hb, e⟩ := hM i _ (List.getElem?_eq_getElem hi)
        have hal := hAr a (List.mem_of_getElem? ha)
        rw [e, dv_app, hal]
        have h1 : dv a (cutVec x n) = dv a x := dv_congr fun c hc => cutVec_lt (by omega)
        have h2 : dv b (fun i => cutVec x n (n + i)) = 0 := S_zero fun c hc => by
          show _ * cutVec x n (n + c) = 0
          rw [cutVec_ge (by omega), Rat.mul_zero]
        rw [h1, h2, hx a (List.mem_of_getElem? ha), Rat.add_zero]
      have h1 := (hs' _).mpr hsol (z.1[c]'(by omega)) (List.getElem_mem _)
      have hu := g.unit c _ (List.getElem?_eq_getElem (by omega))
      unfold dv at h1
      rw [hN _ (List.getElem_mem _), S_one (i := c) (by omega)] at h1
      · rw [hu c hc, if_pos rfl, cutVec_lt hc, Rat.one_mul] at h1
        exact h1
      · intro j hj hne
        by_cases q : j < n
        · rw [hu j q, if_neg hne, Rat.zero_mul]
        · rw [cutVec_ge (by omega), Rat.mul_zero]
  · right
    rw [if_neg (by omega)]
    refine ⟨rfl, y, fun a ha => ?_, hk⟩
    obtain ⟨i, b, h1, h2⟩ := hpair a ha
    rw [List.nil_append] at hy
    have h3 := hy _ (hM2 i a b h1 h2)
    rw [dv_app, hAr a ha] at h3
    have h4 : dv b (fun i => y (n + i)) = 0 := S_zero fun c hc => by
      show _ * y (n + c) = 0
      rw [hyz _ (by omega), Rat.mul_zero]
    rw [h4, Rat.add_zero] at h3
    exact h3
/-! where the determinant is 0 something but 0 goes to 0 -/
theorem dv_cons (a : Rat) (r : List Rat) (y : Nat → Rat) : dv (a :: r) y = a * y 0 + dv r (fun i => y (i + 1)) := by
  have h := dv_app [a] r y
  have e : dv [a] y = a * y 0 := by
    show 0 + a * y 0 = a * y 0
    grind
  rw [e] at h
  show dv ([a] ++ r) y = _
  rw [h]
  congr 1
  exact dv_congr fun i _ => by
    show y (1 + i) = y (i + 1)
    rw [Nat.add_comm]
def consVec (x : Rat) (y : Nat → Rat) : Nat → Rat
  | 0 => x
  | i + 1 => y i
theorem ker_of_det : ∀ (n : Nat) (A : Os.Mat), A.length = n → (∀ r ∈ A, r.length = n) → Os.detFrom n A = 0 → ∃ x : Nat → Rat, (∀ a ∈ A, dv a x = 0) ∧ ∃ c, c < n ∧ x c ≠ 0
  | 0, A, _, _, h => absurd h (by show ¬ (1 : Rat) = 0; decide)
  | n + 1, A, hA, hr, h => by
    rw [Os.detFrom] at h
    cases hf : A.findIdx? (fun (r : List Rat) => decide (r.headD 0 ≠ 0)) with
    | none =>
      rw [List.findIdx?_eq_none_iff] at hf
      refine ⟨consVec 1 fun _ => 0, fun a ha => ?_, 0, Nat.succ_pos n, by show (1 : Rat) ≠ 0; decide⟩
      have h0 := hf a ha
      have hl := hr a ha
      cases a with
      | nil => cases hl
      | cons u r =>
        have h0 : u = 0 := by simpa using h0
        rw [dv_cons, h0, Rat.zero_mul, Rat.zero_add]
        exact S_zero fun i _ => Rat.mul_zero _
    | some i =>
      rw [hf] at h
      rw [List.findIdx?_eq_some_iff_getElem] at hf
      obtain ⟨hi, hp, _⟩ := hf
      dsimp only at h
      have hg : A.getD i [] = A[i] := by rw [List.getD_eq_getElem?_getD, List.getElem?_eq_getElem hi]; rfl
      have hp : (A.getD i []).headD 0 ≠ 0 := by rw [hg]; exact of_decide_eq_true hp
      have hpm : A.getD i [] ∈ A := by rw [hg]; exact List.getElem_mem _
      have hpl := hr _ hpm
      generalize hP : A.getD i [] = p at h hp hpm hpl hg
      cases p with
      | nil => cases hpl
      | cons p0 pt =>
        have hp : p0 ≠ 0 := hp
        have hptl : pt.length = n := by simpa using hpl
        have hd : Os.detFrom n ((A.eraseIdx i).map fun (r : List Rat) => Os.subRow (r.drop 1) (Os.scaleRow (r.headD 0 / (p0 :: pt).headD 0) ((p0 :: pt).drop 1))) = 0 := by
          rcases Rat.mul_eq_zero.mp h with z | z
          · exfalso; revert z; split <;> decide
          · rcases Rat.mul_eq_zero.mp z with z | z
            · exact absurd z hp
            · exact z
        have hrl : ∀ r ∈ A, (r.drop 1).length = pt.length := fun r h0 => by rw [List.length_drop, hr r h0, hptl]; omega
        obtain ⟨y, hy, c, hc, hyc⟩ := ker_of_det n _ (by rw [List.length_map, List.length_eraseIdx, if_pos hi]; omega) (fun r h0 => by
          obtain ⟨r0, h1, rfl⟩ := List.mem_map.mp h0
          have := hrl r0 (List.mem_of_mem_eraseIdx h1)
          rw [sub_len (by rw [scale_len]; exact this), this, hptl]) hd
        refine ⟨consVec (-(dv pt y) / p0) y, fun a ha => ?_, c + 1, by omega, hyc⟩
        have hal := hr a ha
        rcases mem_erase_or hi ha with z | z
        · rw [z, ← hg, dv_cons]
          show p0 * (-(dv pt y) / p0) + dv pt y = 0
          grind
        · have h1 := hy _ (List.mem_map.mpr ⟨a, z, rfl⟩)
          rw [dv_sub (by rw [scale_len]; exact hrl a ha), dv_scale] at h1
          cases a with
          | nil => cases hal
          | cons a0 at_ =>
            have h1 : dv at_ y - a0 / p0 * dv pt y = 0 := h1
            rw [dv_cons]
            show a0 * (-(dv pt y) / p0) + dv at_ y = 0
            grind
end Desk

namespace Desk
/-! Cramer's rule -/
def withColumnM (rows : MatI) (j : Nat) (col : List Int) : MatI := (List.range rows.length).map fun i => (rows.getD i []).set j (col.getD i 0)
def rowTimes (r : List Int) (z : Nat → Rat) : Rat := S r.length (fun c => ((r.getD c 0 : Int) : Rat) * z c)
theorem rt1 (a : Int) (z : Nat → Rat) : rowTimes [a] z = (a : Rat) * z 0 := by show 0 + (a : Rat) * z 0 = _; grind
theorem rt2 (a b : Int) (z : Nat → Rat) : rowTimes [a, b] z = (a : Rat) * z 0 + (b : Rat) * z 1 := by show 0 + (a : Rat) * z 0 + (b : Rat) * z 1 = _; grind
theorem rt3 (a b c : Int) (z : Nat → Rat) : rowTimes [a, b, c] z = (a : Rat) * z 0 + (b : Rat) * z 1 + (c : Rat) * z 2 := by show 0 + (a : Rat) * z 0 + (b : Rat) * z 1 + (c : Rat) * z 2 = _; grind
theorem rt4 (a b c d : Int) (z : Nat → Rat) : rowTimes [a, b, c, d] z = (a : Rat) * z 0 + (b : Rat) * z 1 + (c : Rat) * z 2 + (d : Rat) * z 3 := by show 0 + (a : Rat) * z 0 + (b : Rat) * z 1 + (c : Rat) * z 2 + (d : Rat) * z 3 = _; grind
/-- a square list of rows, written out -/
theorem rows_is {n : Nat} (h1 : 1 ≤ n) (h4 : n ≤ 4) {R : MatI} (hR : R.length = n) (hr : ∀ r ∈ R, r.length = n) :
    (n = 1 ∧ ∃ a, R = [[a]]) ∨ (n = 2 ∧ ∃ a b c d, R = [[a, b], [c, d]]) ∨ (n = 3 ∧ ∃ a b c d e f g h i, R = [[a, b, c], [d, e, f], [g, h, i]]) ∨
    (n = 4 ∧ ∃ a b c d e f g h i j k l m n' o p, R = [[a, b, c, d], [e, f, g, h], [i, j, k, l], [m, n', o, p]]) := by
  rcases size_cases h1 h4 with rfl | rfl | rfl | rfl
  · obtain ⟨r0, rfl⟩ := list_is1 hR
    obtain ⟨a, rfl⟩ := list_is1 (hr r0 (by simp))
    exact .inl ⟨rfl, a, rfl⟩
  · obtain ⟨r0, r1, rfl⟩ := list_is2 hR
    obtain ⟨a, b, rfl⟩ := list_is2 (hr r0 (by simp))
    obtain ⟨c, d, rfl⟩ := list_is2 (hr r1 (by simp))
    exact .inr (.inl ⟨rfl, a, b, c, d, rfl⟩)
  · obtain ⟨r0, r1, r2, rfl⟩ := list_is3 hR
    obtain ⟨a, b, c, rfl⟩ := list_is3 (hr r0 (by simp))
    obtain ⟨d, e, f, rfl⟩ := list_is3 (hr r1 (by simp))
    obtain ⟨g, h, i, rfl⟩ := list_is3 (hr r2 (by simp))
    exact .inr (.inr (.inl ⟨rfl, a, b, c, d, e, f, g, h, i, rfl⟩))
  · obtain ⟨r0, r1, r2, r3, rfl⟩ := list_is4 hR
    obtain ⟨a, b, c, d, rfl⟩ := list_is4 (hr r0 (by simp))
    obtain ⟨e, f, g, h, rfl⟩ := list_is4 (hr r1 (by simp))
    obtain ⟨i, j, k, l, rfl⟩ := list_is4 (hr r2 (by simp))
    obtain ⟨m, n', o, p, rfl⟩ := list_is4 (hr r3 (by simp))
    exact .inr (.inr (.inr ⟨rfl, a, b, c, d, e, f, g, h, i, j, k, l, m, n', o, p, rfl⟩))
set_option maxHeartbeats 8000000 in
theorem cramer {n : Nat} (h1 : 1 ≤ n) (h4 : n ≤ 4) {R : MatI} (hR : R.length = n) (hr : ∀ r ∈ R, r.length = n) {col : List Int} {z : Nat → Rat}
    (h : ∀ (i : Nat) (r : List Int), R[i]? = some r → rowTimes r z = ((col.getD i 0 : Int) : Rat)) : ∀ j, j < n → ((detM n (withColumnM R j col) : Int) : Rat) = z j * ((detM n R : Int) : Rat) := by
  intro j hj
  rcases rows_is h1 h4 hR hr with ⟨rfl, a, rfl⟩ | ⟨rfl, a, b, c, d, rfl⟩ | ⟨rfl, a, b, c, d, e, f, g, k, i, rfl⟩ | ⟨rfl, a, b, c, d, e, f, g, k, i, j', k', l, m, n', o, p, rfl⟩
  · have e0 := h 0 _ rfl
    rw [rt1] at e0
    obtain rfl : j = 0 := by omega
    show ((detM 1 [[col.getD 0 0]] : Int) : Rat) = _
    rw [detM1, detM1, ← e0]
    grind
  · have e0 := h 0 _ rfl
    have e1 := h 1 _ rfl
    rw [rt2] at e0 e1
    rcases (show j = 0 ∨ j = 1 by omega) with rfl | rfl
    · show ((detM 2 [[col.getD 0 0, b], [col.getD 1 0, d]] : Int) : Rat) = _
      rw [detM2, detM2]
      simp only [Rat.intCast_sub, Rat.intCast_mul, ← e0, ← e1]
      grind
    · show ((detM 2 [[a, col.getD 0 0], [c, col.getD 1 0]] : Int) : Rat) = _
      rw [detM2, detM2]
      simp only [Rat.intCast_sub, Rat.intCast_mul, ← e0, ← e1]
      grind
  · have e0 := h 0 _ rfl
    have e1 := h 1 _ rfl
    have e2 := h 2 _ rfl
    rw [rt3] at e0 e1 e2
    rcases (show j = 0 ∨ j = 1 ∨ j = 2 by omega) with rfl | rfl | rfl
    · show ((detM 3 [[col.getD 0 0, b, c], [col.getD 1 0, e, f], [col.getD 2 0, k, i]] : Int) : Rat) = _
      rw [detM3, detM3]
      simp only [Rat.intCast_sub, Rat.intCast_add, Rat.intCast_mul, ← e0, ← e1, ← e2]
      grind
    · show ((detM 3 [[a, col.getD 0 0, c], [d, col.getD 1 0, f], [g, col.getD 2 0, i]] : Int) : Rat) = _
      rw [detM3, detM3]
      simp only [Rat.intCast_sub, Rat.intCast_add, Rat.intCast_mul, ← e0, ← e1, ← e2]
      grind
    · show ((detM 3 [[a, b, col.getD 0 0], [d, e, col.getD 1 0], [g, k, col.getD 2 0]] : Int) : Rat) = _
      rw [detM3, detM3]
      simp only [Rat.intCast_sub, Rat.intCast_add, Rat.intCast_mul, ← e0, ← e1, ← e2]
      grind
  · have e0 := h 0 _ rfl
    have e1 := h 1 _ rfl
    have e2 := h 2 _ rfl
    have e3 := h 3 _ rfl
    rw [rt4] at e0 e1 e2 e3
    rcases (show j = 0 ∨ j = 1 ∨ j = 2 ∨ j = 3 by omega) with rfl | rfl | rfl | rfl
    · show ((detM 4 [[col.getD 0 0, b, c, d], [col.getD 1 0, f, g, k], [col.getD 2 0, j', k', l], [col.getD 3 0, n', o, p]] : Int) : Rat) = _
      rw [detM4, detM4]
      simp only [Rat.intCast_sub, Rat.intCast_add, Rat.intCast_mul, ← e0, ← e1, ← e2, ← e3]
      grind
    · show ((detM 4 [[a, col.getD 0 0, c, d], [e, col.getD 1 0, g, k], [i, col.getD 2 0, k', l], [m, col.getD 3 0, o, p]] : Int) : Rat) = _
      rw [detM4, detM4]
      simp only [Rat.intCast_sub, Rat.intCast_add, Rat.intCast_mul, ← e0, ← e1, ← e2, ← e3]
      grind
    · show ((detM 4 [[a, b, col.getD 0 0, d], [e, f, col.getD 1 0, k], [i, j', col.getD 2 0, l], [m, n', col.getD 3 0, p]] : Int) : Rat) = _
      rw [detM4, detM4]
      simp only [Rat.intCast_sub, Rat.intCast_add, Rat.intCast_mul, ← e0, ← e1, ← e2, ← e3]
      grind
    · show ((detM 4 [[a, b, c, col.getD 0 0], [e, f, g, col.getD 1 0], [i, j', k', col.getD 2 0], [m, n', o, col.getD 3 0]] : Int) : Rat) = _
      rw [detM4, detM4]
      simp only [Rat.intCast_sub, Rat.intCast_add, Rat.intCast_mul, ← e0, ← e1, ← e2, ← e3]
      grind
set_option maxHeartbeats 8000000 in
theorem det_col0 {n : Nat} (h1 : 1 ≤ n) (h4 : n ≤ 4) {R : MatI} (hR : R.length = n) (hr : ∀ r ∈ R, r.length = n) : ∀ j, j < n → detM n (withColumnM R j []) = 0 := by
  intro j hj
  rcases rows_is h1 h4 hR hr with ⟨rfl, a, rfl⟩ | ⟨rfl, a, b, c, d, rfl⟩ | ⟨rfl, a, b, c, d, e, f, g, k, i, rfl⟩ | ⟨rfl, a, b, c, d, e, f, g, k, i, j', k', l, m, n', o, p, rfl⟩
  · obtain rfl : j = 0 := by omega
    exact detM1 0
  · rcases (show j = 0 ∨ j = 1 by omega) with rfl | rfl
    · show detM 2 [[0, b], [0, d]] = 0
      rw [detM2]; grind
    · show detM 2 [[a, 0], [c, 0]] = 0
      rw [detM2]; grind
  · rcases (show j = 0 ∨ j = 1 ∨ j = 2 by omega) with rfl | rfl | rfl
    · show detM 3 [[0, b, c], [0, e, f], [0, k, i]] = 0
      rw [detM3]; grind
    · show detM 3 [[a, 0, c], [d, 0, f], [g, 0, i]] = 0
      rw [detM3]; grind
    · show detM 3 [[a, b, 0], [d, e, 0], [g, k, 0]] = 0
      rw [detM3]; grind
  · rcases (show j = 0 ∨ j = 1 ∨ j = 2 ∨ j = 3 by omega) with rfl | rfl | rfl | rfl
    · show detM 4 [[0, b, c, d], [0, f, g, k], [0, j', k', l], [0, n', o, p]] = 0
      rw [detM4]; grind
    · show detM 4 [[a, 0, c, d], [e, 0, g, k], [i, 0, k', l], [m, 0, o, p]] = 0
      rw [detM4]; grind
    · show detM 4 [[a, b, 0, d], [e, f, 0, k], [i, j', 0, l], [m, n', 0, p]] = 0
      rw [detM4]; grind
    · show detM 4 [[a, b, c, 0], [e, f, g, 0], [i, j', k', 0], [m, n', o, 0]] = 0
      rw [detM4]; grind
/-- whole numbers times one number -/
def scaleI (κ : Rat) (R : MatI) : Os.Mat := R.map fun r => r.map fun (x : Int) => κ * (x : Rat)
set_option maxHeartbeats 8000000 in
theorem det_scale {n : Nat} (h1 : 1 ≤ n) (h4 : n ≤ 4) {R : MatI} (hR : R.length = n) (hr : ∀ r ∈ R, r.length = n) (κ : Rat) : Os.detFrom n (scaleI κ R) = κ ^ n * ((detM n R : Int) : Rat) := by
  rcases rows_is h1 h4 hR hr with ⟨rfl, a, rfl⟩ | ⟨rfl, a, b, c, d, rfl⟩ | ⟨rfl, a, b, c, d, e, f, g, k, i, rfl⟩ | ⟨rfl, a, b, c, d, e, f, g, k, i, j', k', l, m, n', o, p, rfl⟩
  · show Os.detFrom 1 [[κ * (a : Rat)]] = _
    rw [detF1, detM1, Rat.pow_one]
  · show Os.detFrom 2 [[κ * (a : Rat), κ * (b : Rat)], [κ * (c : Rat), κ * (d : Rat)]] = _
    rw [detF2, detM2]
    simp only [Rat.intCast_sub, Rat.intCast_mul]
    grind
  · show Os.detFrom 3 [[κ * (a : Rat), κ * (b : Rat), κ * (c : Rat)], [κ * (d : Rat), κ * (e : Rat), κ * (f : Rat)], [κ * (g : Rat), κ * (k : Rat), κ * (i : Rat)]] = _
    rw [detF3, detM3]
    simp only [Rat.intCast_sub, Rat.intCast_add, Rat.intCast_mul]
    grind
  · show Os.detFrom 4 [[κ * (a : Rat), κ * (b : Rat), κ * (c : Rat), κ * (d : Rat)], [κ * (e : Rat), κ * (f : Rat), κ * (g : Rat), κ * (k : Rat)], [κ * (i : Rat), κ * (j' : Rat), κ * (k' : Rat), κ * (l : Rat)], [κ * (m : Rat), κ * (n' : Rat), κ * (o : Rat), κ * (p : Rat)]] = _
    rw [detF4, detM4]
    simp only [Rat.intCast_sub, Rat.intCast_add, Rat.intCast_mul]
    grind
theorem dv_scaleI (κ : Rat) (r : List Int) (z : Nat → Rat) : dv (r.map fun (x : Int) => κ * (x : Rat)) z = κ * rowTimes r z := by
  unfold dv rowTimes
  rw [List.length_map, ← S_mul]
  exact S_congr fun i _ => by rw [getD_map_mul, Rat.mul_assoc]
def colI (j : Nat) (B : MatI) : List Int := B.map fun r => r.getD j 0
theorem colI_at (j : Nat) (B : MatI) (i : Nat) : (colI j B).getD i 0 = (B.getD i []).getD j 0 := by
  unfold colI
  rw [List.getD_eq_getElem?_getD, List.getElem?_map, List.getD_eq_getElem?_getD (l := B)]
  cases B[i]? <;> rfl
/-- the specification's solve over whole numbers times one number -/
theorem solve_units {n k : Nat} (h1 : 1 ≤ n) (h4 : n ≤ 4) {R B : MatI} (hR : R.length = n) (hr : ∀ r ∈ R, r.length = n) (hB : B.length = n) (hb : ∀ r ∈ B, r.length = k) {κ : Rat} (hκ : κ ≠ 0) :
    (detM n R = 0 ∧ Os.solve n (scaleI κ R) (scaleI κ B) = none) ∨
    (detM n R ≠ 0 ∧ ∃ Z : Os.Mat, Os.solve n (scaleI κ R) (scaleI κ B) = some Z ∧ Z.length = n ∧ (∀ r ∈ Z, r.length = k) ∧ ∀ i, i < n → ∀ j, j < k → ((detM n (withColumnM R i (colI j B)) : Int) : Rat) = (Z.getD i []).getD j 0 * ((detM n R : Int) : Rat)) := by
  have lenS : ∀ (X : MatI) (q : Nat), (∀ r ∈ X, r.length = q) → ∀ r ∈ scaleI κ X, r.length = q := fun X q hq r hr => by
    unfold scaleI at hr
    obtain ⟨r0, h0, rfl⟩ := List.mem_map.mp hr
    rw [List.length_map, hq r0 h0]
  have atS : ∀ (X : MatI) (i : Nat) (r : List Int), X[i]? = some r → (scaleI κ X)[i]? = some (r.map fun (x : Int) => κ * (x : Rat)) := fun X i r h => by
    unfold scaleI
    rw [List.getElem?_map, h]
    rfl
  rcases solve_out (n := n) (k := k) (A := scaleI κ R) (B := scaleI κ B) (by unfold scaleI; rw [List.length_map, hR]) (lenS R n hr) (by unfold scaleI; rw [List.length_map, hB]) (lenS B k hb) with ⟨Z, e, hl, hrl, hs, hinj⟩ | ⟨e, x, hx, c, hc, hxc⟩
  · right
    have hd : detM n R ≠ 0 := fun z => by
      have hdf : Os.detFrom n (scaleI κ R) = 0 := by rw [det_scale h1 h4 hR hr, z, Rat.intCast_zero, Rat.mul_zero]
      obtain ⟨x, hx, c, hc, hxc⟩ := ker_of_det n _ (by unfold scaleI; rw [List.length_map, hR]) (lenS R n hr) hdf
      exact hxc (hinj x hx c hc)
    refine ⟨hd, Z, e, hl, hrl, fun i hi j hj => ?_⟩
    refine cramer h1 h4 hR hr (col := colI j B) (z := fun c => (Z.getD c []).getD j 0) (fun i' r hr' => ?_) i hi
    have hi' : i' < n := by have := (List.getElem?_eq_some_iff.mp hr').1; omega
    have hB' : B[i']? = some (B.getD i' []) := by
      rw [List.getD_eq_getElem?_getD, List.getElem?_eq_getElem (by omega)]
      rfl
    have q := hs j hj i' _ _ (atS R i' r hr') (atS B i' _ hB')
    rw [dv_scaleI, getD_map_mul, ← colI_at] at q
    have := Rat.mul_eq_zero (a := κ) (b := rowTimes r (fun c => (Z.getD c []).getD j 0) - (((colI j B).getD i' 0 : Int) : Rat))
    have q2 : κ * (rowTimes r (fun c => (Z.getD c []).getD j 0) - (((colI j B).getD i' 0 : Int) : Rat)) = 0 := by rw [← Rat.sub_self (a := κ * rowTimes r (fun c => (Z.getD c []).getD j 0))]; grind
    rcases this.mp q2 with z | z
    · exact absurd z hκ
    · grind
  · left
    refine ⟨?_, e⟩
    have hz : ∀ (i : Nat) (r : List Int), R[i]? = some r → rowTimes r x = ((([] : List Int).getD i 0 : Int) : Rat) := fun i r h => by
      have q := hx _ (List.mem_of_getElem? (atS R i r h))
      rw [dv_scaleI] at q
      rcases Rat.mul_eq_zero.mp q with z | z
      · exact absurd z hκ
      · rw [z]
        rfl
    have q := cramer h1 h4 hR hr hz c hc
    have z0 := det_col0 h1 h4 hR hr c hc
    rw [z0, hxc, Rat.intCast_zero, Rat.one_mul] at q
    exact Rat.intCast_eq_zero_iff.mp q.symm
end Desk

namespace Desk
/-! solve -/
def badColumn (m : Int) (ns : List Int) : Bool := !decide ((ns.length : Int) = m) || !(ns.all isFin)
theorem badColumn_iff {m : Int} {ns : List Int} : badColumn m ns = true ↔ ¬ (ns.length : Int) = m ∨ ¬ ns.all isFin = true := by
  unfold badColumn
  by_cases c : (ns.length : Int) = m
  · rw [decide_eq_true c]
    cases ns.all isFin <;> simp [c]
  · rw [decide_eq_false c]
    simp [c]
theorem matIn_scale (a : List Int) (m n : Nat) : Os.matIn m n (a.map valOf) = scaleI (1 / UP) (rowsOf (a.map unitsOf) m n) := by
  unfold Os.matIn Os.matOf scaleI rowsOf
  rw [List.map_map]
  apply List.map_congr_left
  intro i _
  show (List.range n).map _ = ((List.range n).map _).map _
  rw [List.map_map]
  apply List.map_congr_left
  intro j _
  exact getD_units a (n * i + j)
theorem inv_up_ne : (1 : Rat) / UP ≠ 0 := by have := UP_ne; grind
/-- the numbers told as quotients -/
def quotients (mode : Int) (tops : List Int) (bottom : Int) : List Int := answer mode (tops.map fun t => ratioSide (t * bottom.sign) (bottom.natAbs : Int))
theorem quotients_told {mode : Int} (h0 : 0 ≤ mode) (h3 : mode ≤ 3) {tops : List Int} {bottom : Int} (hb : bottom ≠ 0) {qs : List Rat} (hl : tops.length = qs.length) (h : ∀ i, i < tops.length → ((tops.getD i 0 : Int) : Rat) = qs.getD i 0 * UP * (bottom : Rat)) :
    quotients mode tops bottom = OsNeutral.shown (Os.ofRats mode.toNat qs) := by
  have key := answer_told h0 h3 (List.zipWith (fun t q => (ratioSide (t * bottom.sign) (bottom.natAbs : Int), Os.ofRat q)) tops qs) (fun p hp => by
    obtain ⟨i, hi, rfl⟩ := List.mem_iff_getElem.mp hp
    rw [List.length_zipWith] at hi
    rw [List.getElem_zipWith]
    have hi1 : i < tops.length := by omega
    have hi2 : i < qs.length := by omega
    have e := h i hi1
    rw [List.getD_eq_getElem?_getD, List.getElem?_eq_getElem hi1, List.getD_eq_getElem?_getD, List.getElem?_eq_getElem hi2] at e
    have e : ((tops[i] : Int) : Rat) = qs[i] * UP * (bottom : Rat) := e
    refine cut_ratio (by omega) ?_
    rw [Rat.intCast_mul, e]
    have hs : ((bottom.natAbs : Int) : Rat) = (bottom : Rat) * ((bottom.sign : Int) : Rat) := by
      rw [← Rat.intCast_mul]
      congr 1
      rcases Int.lt_trichotomy bottom 0 with c | c | c
      · rw [Int.sign_eq_neg_one_of_neg c]; omega
      · exact absurd c hb
      · rw [Int.sign_eq_one_of_pos c]; omega
    show _ = qs[i] * UP * ((bottom.natAbs : Int) : Rat)
    rw [hs]
    grind)
  have e1 : (List.zipWith (fun t q => (ratioSide (t * bottom.sign) (bottom.natAbs : Int), Os.ofRat q)) tops qs).map (·.1) = tops.map fun t => ratioSide (t * bottom.sign) (bottom.natAbs : Int) := by
    rw [List.map_zipWith]
    apply List.ext_getElem?
    intro i
    rw [List.getElem?_zipWith, List.getElem?_map]
    by_cases hi : i < tops.length
    · rw [List.getElem?_eq_getElem hi, List.getElem?_eq_getElem (by omega)]
      rfl
    · rw [List.getElem?_eq_none (by omega)]
      rfl
  have e2 : (List.zipWith (fun t q => (ratioSide (t * bottom.sign) (bottom.natAbs : Int), Os.ofRat q)) tops qs).map (·.2) = qs.map Os.ofRat := by
    rw [List.map_zipWith]
    apply List.ext_getElem?
    intro i
    rw [List.getElem?_zipWith, List.getElem?_map]
    by_cases hi : i < tops.length
    · rw [List.getElem?_eq_getElem hi, List.getElem?_eq_getElem (by omega)]
      rfl
    · rw [List.getElem?_eq_none (show qs.length ≤ i by omega), List.getElem?_eq_none (show tops.length ≤ i by omega)]
      rfl
  rw [e1, e2] at key
  unfold quotients
  rw [key]
  unfold Os.ofRats
  rw [List.map_map]
  rfl
theorem flat_rows {k : Nat} : ∀ {Z : Os.Mat}, (∀ r ∈ Z, r.length = k) → Z.flatten = (List.range Z.length).flatMap fun i => (List.range k).map fun j => (Z.getD i []).getD j 0
  | [], _ => rfl
  | r :: Z, h => by
    have ih := flat_rows (Z := Z) fun x hx => h x (List.mem_cons_of_mem _ hx)
    have hr := h r (List.mem_cons_self ..)
    rw [List.flatten_cons, ih, List.length_cons, List.range_succ_eq_map, List.flatMap_cons, List.flatMap_map]
    congr 1
    apply List.ext_getElem?
    intro j
    show r[j]? = ((List.range k).map fun j => r.getD j 0)[j]?
    rw [List.getElem?_map]
    by_cases hj : j < k
    · rw [List.getElem?_range hj, List.getElem?_eq_getElem (by omega)]
      show _ = some (r.getD j 0)
      rw [List.getD_eq_getElem?_getD, List.getElem?_eq_getElem (by omega)]
      rfl
    · rw [List.getElem?_eq_none (by omega), List.getElem?_eq_none (by rw [List.length_range]; omega)]
      rfl
/-- a column of numbers -/
theorem flat_col {n : Nat} {Z : Os.Mat} (hl : Z.length = n) (h : ∀ r ∈ Z, r.length = 1) : Z.flatten = (List.range n).map fun i => (Z.getD i []).getD 0 0 := by
  rw [flat_rows h, hl]
  show (List.range n).flatMap (fun i => [(Z.getD i []).getD 0 0]) = _
  exact List.map_eq_flatMap.symm
theorem getD_range {α : Type} {n i : Nat} (f : Nat → α) (d : α) (h : i < n) : ((List.range n).map f).getD i d = f i := by
  rw [List.getD_eq_getElem?_getD, List.getElem?_map, List.getElem?_range h]
  rfl
def UP2 : Int := UPi
def solveOf (mode n : Int) (a b : List Int) : List Int :=
  if (decide (3 < mode) || (badMatrix n n 4 a || badColumn n b)) = true then [-1]
  else if detM n.toNat (rowsOf (a.map unitsOf) n.toNat n.toNat) = 0 then [-2]
  else quotients mode ((List.range n.toNat).map fun j => detM n.toNat (withColumnM (rowsOf (a.map unitsOf) n.toNat n.toNat) j (b.map unitsOf)) * UPi) (detM n.toNat (rowsOf (a.map unitsOf) n.toNat n.toNat))
theorem rowsOf_len (u : List Int) (m n : Nat) : (rowsOf u m n).length = m := by unfold rowsOf; rw [List.length_map, List.length_range]
theorem rowsOf_row (u : List Int) (m n : Nat) : ∀ r ∈ rowsOf u m n, r.length = n := fun r hr => by
  unfold rowsOf at hr
  obtain ⟨i, _, rfl⟩ := List.mem_map.mp hr
  rw [List.length_map, List.length_range]
theorem colI_rowsOf {u : List Int} {n : Nat} (h : u.length = n) : colI 0 (rowsOf u n 1) = u := by
  unfold colI rowsOf
  rw [List.map_map]
  apply List.ext_getElem?
  intro i
  rw [List.getElem?_map]
  by_cases hi : i < n
  · rw [List.getElem?_range hi, List.getElem?_eq_getElem (by omega)]
    show some (u.getD (1 * i + 0) 0) = _
    rw [Nat.one_mul, Nat.add_zero, List.getD_eq_getElem?_getD, List.getElem?_eq_getElem (by omega)]
    rfl
  · rw [List.getElem?_eq_none (by rw [List.length_range]; omega), List.getElem?_eq_none (by omega)]
    rfl
/-- the specification's answer of a system of equations, in units -/
theorem solve_told {mode : Int} (h0 : 0 ≤ mode) (h3 : mode ≤ 3) {n : Nat} (h1 : 1 ≤ n) (h4 : n ≤ 4) {R : MatI} {bu : List Int} (hR : R.length = n) (hr : ∀ r ∈ R, r.length = n) (hb : bu.length = n) {κ : Rat} (hκ : κ ≠ 0) :
    OsNeutral.shown (match Os.solve n (scaleI κ R) (scaleI κ (rowsOf bu n 1)) with | none => Os.no 2 | some z => Os.ofRats mode.toNat z.flatten) =
      if detM n R = 0 then [-2] else quotients mode ((List.range n).map fun j => detM n (withColumnM R j bu) * UPi) (detM n R) := by
  rcases solve_units (k := 1) h1 h4 hR hr (rowsOf_len bu n 1) (rowsOf_row bu n 1) hκ with ⟨d, e⟩ | ⟨d, Z, e, hl, hrl, hz⟩
  · rw [e, if_pos d]
    rfl
  · rw [e, if_neg d]
    dsimp only
    rw [flat_col hl hrl]
    refine (quotients_told h0 h3 d (by rw [List.length_map, List.length_map]) fun i hi => ?_).symm
    rw [List.length_map, List.length_range] at hi
    have q := hz i hi 0 (by decide)
    rw [colI_rowsOf hb] at q
    rw [getD_range _ _ hi, getD_range _ _ hi, Rat.intCast_mul, q, UPi_cast]
    grind
theorem solve_law {mode n : Int} {a b : List Int} (hm : In64 mode) (hn : In64 n) (ha : ∀ x ∈ a, In64 x) (hb : ∀ x ∈ b, In64 x) : solveOf mode n a b = PyWqambd.solve mode n a b := by
  show _ = OsNeutral.shown (Os.answer (.solve mode.toNat n.toNat (OsNeutral.nats a) (OsNeutral.nats b)))
  unfold solveOf Os.answer
  dsimp only
  rw [refuse_square hm hn ha]
  by_cases c1 : (decide (3 < mode) || badMatrix n n 4 a) = true
  · rw [if_pos c1, if_pos]
    · rfl
    · rw [Bool.or_eq_true] at c1 ⊢
      exact c1.imp id fun z => by rw [z, Bool.true_or]
  · rw [if_neg c1]
    obtain ⟨h3, k, rfl, k1, k4, kl⟩ := square_of hn c1
    rw [Int.toNat_natCast, ofRow_eq hb]
    by_cases c2 : b.length = k ∧ b.all isFin = true
    · rw [if_pos c2, if_neg]
      · rw [matIn_scale, matIn_scale]
        exact (solve_told hm.1 h3 k1 k4 (rowsOf_len _ k k) (rowsOf_row _ k k) (by rw [List.length_map]; exact c2.1) inv_up_ne).symm
      · intro z
        rw [← Bool.or_assoc, Bool.or_eq_true] at z
        rcases z with z | z
        · exact c1 z
        · rcases badColumn_iff.mp z with q | q
          · exact q (by omega)
          · exact q c2.2
    · rw [if_neg c2, if_pos]
      · rfl
      · rw [← Bool.or_assoc, Bool.or_eq_true]
        refine .inr (badColumn_iff.mpr ?_)
        by_cases q : b.length = k
        · exact .inr fun z => c2 ⟨q, z⟩
        · exact .inl (by omega)
/-! inverse -/
def idI (n : Nat) : MatI := (List.range n).map fun i => (List.range n).map fun j => if i = j then UPi else 0
def adjM (R : MatI) (n : Nat) : List Int := (List.range n).flatMap fun i => (List.range n).map fun j => signedM (i + j) (detM (n - 1) (minorM R j i))
def inverseOf (mode n : Int) (a : List Int) : List Int :=
  if (decide (3 < mode) || badMatrix n n 4 a) = true then [-1]
  else if detM n.toNat (rowsOf (a.map unitsOf) n.toNat n.toNat) = 0 then [-2]
  else quotients mode ((adjM (rowsOf (a.map unitsOf) n.toNat n.toNat) n.toNat).map fun t => t * (UPi * UPi)) (detM n.toNat (rowsOf (a.map unitsOf) n.toNat n.toNat))
set_option maxHeartbeats 8000000 in
theorem cof_col {n : Nat} (h1 : 1 ≤ n) (h4 : n ≤ 4) {R : MatI} (hR : R.length = n) (hr : ∀ r ∈ R, r.length = n) : ∀ i j, i < n → j < n → detM n (withColumnM R i (colI j (idI n))) = UPi * signedM (i + j) (detM (n - 1) (minorM R j i)) := by
  intro x y hx hy
  rcases rows_is h1 h4 hR hr with ⟨rfl, a, rfl⟩ | ⟨rfl, a, b, c, d, rfl⟩ | ⟨rfl, a, b, c, d, e, f, g, k, i, rfl⟩ | ⟨rfl, a, b, c, d, e, f, g, k, i, j', k', l, m, n', o, p, rfl⟩
  · obtain rfl : x = 0 := by omega
    obtain rfl : y = 0 := by omega
    show detM 1 [[UPi]] = UPi * 1
    rw [detM1, Int.mul_one]
  · rcases (show x = 0 ∨ x = 1 by omega) with rfl | rfl
    · rcases (show y = 0 ∨ y = 1 by omega) with rfl | rfl
      · show detM 2 [[UPi, b], [0, d]] = UPi * (detM 1 [[d]])
        rw [detM2, detM1]
        generalize UPi = u
        grind
      · show detM 2 [[0, b], [UPi, d]] = UPi * -(detM 1 [[b]])
        rw [detM2, detM1]
        generalize UPi = u
        grind
    · rcases (show y = 0 ∨ y = 1 by omega) with rfl | rfl
      · show detM 2 [[a, UPi], [c, 0]] = UPi * -(detM 1 [[c]])
        rw [detM2, detM1]
        generalize UPi = u
        grind
      · show detM 2 [[a, 0], [c, UPi]] = UPi * (detM 1 [[a]])
        rw [detM2, detM1]
        generalize UPi = u
        grind
  · rcases (show x = 0 ∨ x = 1 ∨ x = 2 by omega) with rfl | rfl | rfl
    · rcases (show y = 0 ∨ y = 1 ∨ y = 2 by omega) with rfl | rfl | rfl
      · show detM 3 [[UPi, b, c], [0, e, f], [0, k, i]] = UPi * (detM 2 [[e, f], [k, i]])
        rw [detM3, detM2]
        generalize UPi = u
        grind
      · show detM 3 [[0, b, c], [UPi, e, f], [0, k, i]] = UPi * -(detM 2 [[b, c], [k, i]])
        rw [detM3, detM2]
        generalize UPi = u
        grind
      · show detM 3 [[0, b, c], [0, e, f], [UPi, k, i]] = UPi * (detM 2 [[b, c], [e, f]])
        rw [detM3, detM2]
        generalize UPi = u
        grind
    · rcases (show y = 0 ∨ y = 1 ∨ y = 2 by omega) with rfl | rfl | rfl
      · show detM 3 [[a, UPi, c], [d, 0, f], [g, 0, i]] = UPi * -(detM 2 [[d, f], [g, i]])
        rw [detM3, detM2]
        generalize UPi = u
        grind
      · show detM 3 [[a, 0, c], [d, UPi, f], [g, 0, i]] = UPi * (detM 2 [[a, c], [g, i]])
        rw [detM3, detM2]
        generalize UPi = u
        grind
      · show detM 3 [[a, 0, c], [d, 0, f], [g, UPi, i]] = UPi * -(detM 2 [[a, c], [d, f]])
        rw [detM3, detM2]
        generalize UPi = u
        grind
    · rcases (show y = 0 ∨ y = 1 ∨ y = 2 by omega) with rfl | rfl | rfl
      · show detM 3 [[a, b, UPi], [d, e, 0], [g, k, 0]] = UPi * (detM 2 [[d, e], [g, k]])
        rw [detM3, detM2]
        generalize UPi = u
        grind
      · show detM 3 [[a, b, 0], [d, e, UPi], [g, k, 0]] = UPi * -(detM 2 [[a, b], [g, k]])
        rw [detM3, detM2]
        generalize UPi = u
        grind
      · show detM 3 [[a, b, 0], [d, e, 0], [g, k, UPi]] = UPi * (detM 2 [[a, b], [d, e]])
        rw [detM3, detM2]
        generalize UPi = u
        grind
  · rcases (show x = 0 ∨ x = 1 ∨ x = 2 ∨ x = 3 by omega) with rfl | rfl | rfl | rfl
    · rcases (show y = 0 ∨ y = 1 ∨ y = 2 ∨ y = 3 by omega) with rfl | rfl | rfl | rfl
      · show detM 4 [[UPi, b, c, d], [0, f, g, k], [0, j', k', l], [0, n', o, p]] = UPi * (detM 3 [[f, g, k], [j', k', l], [n', o, p]])
        rw [detM4, detM3]
        generalize UPi = u
        grind
      · show detM 4 [[0, b, c, d], [UPi, f, g, k], [0, j', k', l], [0, n', o, p]] = UPi * -(detM 3 [[b, c, d], [j', k', l], [n', o, p]])
        rw [detM4, detM3]
        generalize UPi = u
        grind
      · show detM 4 [[0, b, c, d], [0, f, g, k], [UPi, j', k', l], [0, n', o, p]] = UPi * (detM 3 [[b, c, d], [f, g, k], [n', o, p]])
        rw [detM4, detM3]
        generalize UPi = u
        grind
      · show detM 4 [[0, b, c, d], [0, f, g, k], [0, j', k', l], [UPi, n', o, p]] = UPi * -(detM 3 [[b, c, d], [f, g, k], [j', k', l]])
        rw [detM4, detM3]
        generalize UPi = u
        grind
    · rcases (show y = 0 ∨ y = 1 ∨ y = 2 ∨ y = 3 by omega) with rfl | rfl | rfl | rfl
      · show detM 4 [[a, UPi, c, d], [e, 0, g, k], [i, 0, k', l], [m, 0, o, p]] = UPi * -(detM 3 [[e, g, k], [i, k', l], [m, o, p]])
        rw [detM4, detM3]
        generalize UPi = u
        grind
      · show detM 4 [[a, 0, c, d], [e, UPi, g, k], [i, 0, k', l], [m, 0, o, p]] = UPi * (detM 3 [[a, c, d], [i, k', l], [m, o, p]])
        rw [detM4, detM3]
        generalize UPi = u
        grind
      · show detM 4 [[a, 0, c, d], [e, 0, g, k], [i, UPi, k', l], [m, 0, o, p]] = UPi * -(detM 3 [[a, c, d], [e, g, k], [m, o, p]])
        rw [detM4, detM3]
        generalize UPi = u
        grind
      · show detM 4 [[a, 0, c, d], [e, 0, g, k], [i, 0, k', l], [m, UPi, o, p]] = UPi * (detM 3 [[a, c, d], [e, g, k], [i, k', l]])
        rw [detM4, detM3]
        generalize UPi = u
        grind
    · rcases (show y = 0 ∨ y = 1 ∨ y = 2 ∨ y = 3 by omega) with rfl | rfl | rfl | rfl
      · show detM 4 [[a, b, UPi, d], [e, f, 0, k], [i, j', 0, l], [m, n', 0, p]] = UPi * (detM 3 [[e, f, k], [i, j', l], [m, n', p]])
        rw [detM4, detM3]
        generalize UPi = u
        grind
      · show detM 4 [[a, b, 0, d], [e, f, UPi, k], [i, j', 0, l], [m, n', 0, p]] = UPi * -(detM 3 [[a, b, d], [i, j', l], [m, n', p]])
        rw [detM4, detM3]
        generalize UPi = u
        grind
      · show detM 4 [[a, b, 0, d], [e, f, 0, k], [i, j', UPi, l], [m, n', 0, p]] = UPi * (detM 3 [[a, b, d], [e, f, k], [m, n', p]])
        rw [detM4, detM3]
        generalize UPi = u
        grind
      · show detM 4 [[a, b, 0, d], [e, f, 0, k], [i, j', 0, l], [m, n', UPi, p]] = UPi * -(detM 3 [[a, b, d], [e, f, k], [i, j', l]])
        rw [detM4, detM3]
        generalize UPi = u
        grind
    · rcases (show y = 0 ∨ y = 1 ∨ y = 2 ∨ y = 3 by omega) with rfl | rfl | rfl | rfl
      · show detM 4 [[a, b, c, UPi], [e, f, g, 0], [i, j', k', 0], [m, n', o, 0]] = UPi * -(detM 3 [[e, f, g], [i, j', k'], [m, n', o]])
        rw [detM4, detM3]
        generalize UPi = u
        grind
      · show detM 4 [[a, b, c, 0], [e, f, g, UPi], [i, j', k', 0], [m, n', o, 0]] = UPi * (detM 3 [[a, b, c], [i, j', k'], [m, n', o]])
        rw [detM4, detM3]
        generalize UPi = u
        grind
      · show detM 4 [[a, b, c, 0], [e, f, g, 0], [i, j', k', UPi], [m, n', o, 0]] = UPi * -(detM 3 [[a, b, c], [e, f, g], [m, n', o]])
        rw [detM4, detM3]
        generalize UPi = u
        grind
      · show detM 4 [[a, b, c, 0], [e, f, g, 0], [i, j', k', 0], [m, n', o, UPi]] = UPi * (detM 3 [[a, b, c], [e, f, g], [i, j', k']])
        rw [detM4, detM3]
        generalize UPi = u
        grind
theorem id_scale (n : Nat) : (Os.matOf n n fun (i j : Nat) => if i = j then 1 else 0) = scaleI (1 / UP) (idI n) := by
  unfold Os.matOf scaleI idI
  rw [List.map_map]
  apply List.map_congr_left
  intro i _
  show (List.range n).map _ = ((List.range n).map _).map _
  rw [List.map_map]
  apply List.map_congr_left
  intro j _
  show (if i = j then (1 : Rat) else 0) = 1 / UP * (((if i = j then UPi else 0 : Int)) : Rat)
  have := UP_ne
  split
  · rw [UPi_cast]; grind
  · rw [Rat.intCast_zero]; grind
theorem flat_len {α : Type} (n k : Nat) (f : Nat → Nat → α) : ((List.range n).flatMap fun i => (List.range k).map (f i)).length = n * k := by
  induction n with
  | zero => simp
  | succ n ih =>
    rw [List.range_succ, List.flatMap_append, List.length_append, ih]
    simp [Nat.add_mul]
theorem flat_get {α : Type} (d : α) (k : Nat) (f : Nat → Nat → α) : ∀ (n i j : Nat), i < n → j < k → ((List.range n).flatMap fun i => (List.range k).map (f i)).getD (i * k + j) d = f i j := by
  intro n i j hi hj
  induction n with
  | zero => omega
  | succ n ih =>
    rw [List.range_succ, List.flatMap_append, List.getD_eq_getElem?_getD]
    by_cases c : i < n
    · have hlt : i * k + j < n * k := by
        have : (i + 1) * k ≤ n * k := Nat.mul_le_mul_right k c
        rw [Nat.add_mul] at this
        omega
      rw [List.getElem?_append_left (by rw [flat_len]; exact hlt), ← List.getD_eq_getElem?_getD]
      exact ih c
    · obtain rfl : i = n := by omega
      rw [List.getElem?_append_right (by rw [flat_len]; omega), flat_len, Nat.add_sub_cancel_left]
      show (([i].flatMap fun i => (List.range k).map (f i))[j]?).getD d = _
      rw [List.flatMap_singleton, List.getElem?_map, List.getElem?_range hj]
      rfl
theorem inverse_law {mode n : Int} {a : List Int} (hm : In64 mode) (hn : In64 n) (ha : ∀ x ∈ a, In64 x) : inverseOf mode n a = PyWqambd.inverse mode n a := by
  show _ = OsNeutral.shown (Os.answer (.inverse mode.toNat n.toNat (OsNeutral.nats a)))
  unfold inverseOf Os.answer
  dsimp only
  rw [refuse_square hm hn ha]
  by_cases c1 : (decide (3 < mode) || badMatrix n n 4 a) = true
  · rw [if_pos c1, if_pos c1]
    rfl
  · rw [if_neg c1, if_neg c1]
    obtain ⟨h3, k, rfl, k1, k4, kl⟩ := square_of hn c1
    rw [Int.toNat_natCast, matIn_scale, id_scale]
    have hil : (idI k).length = k := by unfold idI; rw [List.length_map, List.length_range]
    have hir : ∀ r ∈ idI k, r.length = k := fun r hr => by
      unfold idI at hr
      obtain ⟨i, _, rfl⟩ := List.mem_map.mp hr
      rw [List.length_map, List.length_range]
    have hRl := rowsOf_len (a.map unitsOf) k k
    have hRr := rowsOf_row (a.map unitsOf) k k
    rcases solve_units (k := k) k1 k4 hRl hRr hil hir inv_up_ne with ⟨d, e⟩ | ⟨d, Z, e, hl, hrl, hz⟩
    · rw [e, if_pos d]
      rfl
    · rw [e, if_neg d]
      dsimp only
      rw [flat_rows hrl, hl]
      refine quotients_told hm.1 h3 d (by unfold adjM; rw [List.length_map, flat_len, flat_len]) fun i hi => ?_
      unfold adjM at hi ⊢
      rw [List.length_map, flat_len] at hi
      have hkp : 0 < k := k1
      have e0 : i = (i / k) * k + i % k := by rw [Nat.mul_comm]; exact (Nat.div_add_mod i k).symm
      have hq : i / k < k := Nat.div_lt_of_lt_mul hi
      have hmod : i % k < k := Nat.mod_lt _ hkp
      generalize i / k = x at e0 hq
      generalize i % k = y at e0 hmod
      subst e0
      have q := hz x hq y hmod
      rw [cof_col k1 k4 hRl hRr x y hq hmod] at q
      have eg : (((List.range k).flatMap fun i => (List.range k).map fun j => signedM (i + j) (detM (k - 1) (minorM (rowsOf (a.map unitsOf) k k) j i))).map fun t => t * (UPi * UPi)).getD (x * k + y) 0 = signedM (x + y) (detM (k - 1) (minorM (rowsOf (a.map unitsOf) k k) y x)) * (UPi * UPi) := by
        have w := flat_get (0 : Int) k (fun i j => signedM (i + j) (detM (k - 1) (minorM (rowsOf (a.map unitsOf) k k) j i))) k x y hq hmod
        rw [List.getD_eq_getElem?_getD] at w ⊢
        rw [List.getElem?_map]
        have hlt : x * k + y < ((List.range k).flatMap fun i => (List.range k).map fun j => signedM (i + j) (detM (k - 1) (minorM (rowsOf (a.map unitsOf) k k) j i))).length := by rw [flat_len]; exact hi
        rw [List.getElem?_eq_getElem hlt] at w ⊢
        show _ * (UPi * UPi) = _
        rw [← w]
        rfl
      rw [eg, flat_get (0 : Rat) k (fun i j => (Z.getD i []).getD j 0) k x y hq hmod]
      rw [Rat.intCast_mul, UPi_cast] at q
      rw [Rat.intCast_mul, Rat.intCast_mul, UPi_cast]
      generalize ((signedM (x + y) (detM (k - 1) (minorM (rowsOf (a.map unitsOf) k k) y x)) : Int) : Rat) = s at q ⊢
      generalize ((detM k (rowsOf (a.map unitsOf) k k) : Int) : Rat) = t at q ⊢
      generalize (Z.getD x []).getD y 0 = zz at q ⊢
      generalize UP = u at q ⊢
      grind
/-! least squares -/
def gramM (R : MatI) (n : Nat) : MatI := (List.range n).map fun i => (List.range n).map fun j => productSum (colI i R) (colI j R)
def againstM (R : MatI) (n : Nat) (b : List Int) : List Int := (List.range n).map fun j => productSum (colI j R) b
def leastOf (mode m n : Int) (a b : List Int) : List Int :=
  if (decide (3 < mode) || (badMatrix m n 6 a || (decide (m < n) || badColumn m b))) = true then [-1]
  else if detM n.toNat (gramM (rowsOf (a.map unitsOf) m.toNat n.toNat) n.toNat) = 0 then [-2]
  else quotients mode ((List.range n.toNat).map fun j => detM n.toNat (withColumnM (gramM (rowsOf (a.map unitsOf) m.toNat n.toNat) n.toNat) j (againstM (rowsOf (a.map unitsOf) m.toNat n.toNat) n.toNat (b.map unitsOf))) * UPi) (detM n.toNat (gramM (rowsOf (a.map unitsOf) m.toNat n.toNat) n.toNat))
theorem dot_scale (κ : Rat) : ∀ r s : List Int, Os.dot (r.map fun (x : Int) => κ * (x : Rat)) (s.map fun (x : Int) => κ * (x : Rat)) = κ * κ * ((productSum r s : Int) : Rat)
  | [], s => by unfold Os.dot productSum prods; rw [total_eq]; simp
  | x :: r, [] => by unfold Os.dot productSum prods; rw [total_eq]; simp
  | x :: r, y :: s => by
    have ih := dot_scale κ r s
    unfold productSum prods Os.dot at ih ⊢
    rw [total_eq] at ih ⊢
    rw [List.map_cons, List.map_cons, List.zipWith_cons_cons, List.zipWith_cons_cons, List.sum_cons, List.sum_cons, ih, Rat.intCast_add, Rat.intCast_mul]
    grind
theorem entry_scale (κ : Rat) (R : MatI) (i j : Nat) : Os.entry (scaleI κ R) i j = κ * (((R.getD i []).getD j 0 : Int) : Rat) := by
  unfold Os.entry Os.row scaleI
  rw [List.getD_eq_getElem?_getD (l := List.map _ R), List.getElem?_map, List.getD_eq_getElem?_getD (l := R)]
  cases R[i]? with
  | none =>
    show (0 : Rat) = κ * ((0 : Int) : Rat)
    rw [Rat.intCast_zero, Rat.mul_zero]
  | some r => exact getD_map_mul
theorem turned_row {κ : Rat} {R : MatI} {n i : Nat} (hi : i < n) : Os.row (Os.turned n (scaleI κ R)) i = (colI i R).map fun (x : Int) => κ * (x : Rat) := by
  unfold Os.turned Os.matOf Os.row colI
  rw [getD_range _ _ hi, List.map_map]
  have e : (scaleI κ R).length = R.length := by unfold scaleI; rw [List.length_map]
  rw [e]
  apply List.ext_getElem?
  intro k
  rw [List.getElem?_map, List.getElem?_map]
  by_cases hk : k < R.length
  · rw [List.getElem?_range hk, List.getElem?_eq_getElem hk]
    show some (Os.entry (scaleI κ R) k i) = some (κ * (((R[k]).getD i 0 : Int) : Rat))
    rw [entry_scale, List.getD_eq_getElem?_getD (l := R), List.getElem?_eq_getElem hk]
    rfl
  · rw [List.getElem?_eq_none (by rw [List.length_range]; omega), List.getElem?_eq_none (by omega)]
    rfl
theorem col_scale (κ : Rat) (R : MatI) (j : Nat) : (scaleI κ R).map (fun (r : List Rat) => r.getD j 0) = (colI j R).map fun (x : Int) => κ * (x : Rat) := by
  unfold scaleI colI
  rw [List.map_map, List.map_map]
  apply List.map_congr_left
  intro r _
  exact getD_map_mul
theorem times_scale (κ : Rat) (R B : MatI) (n k : Nat) : Os.times (Os.turned n (scaleI κ R)) (scaleI κ B) k = scaleI (κ * κ) ((List.range n).map fun i => (List.range k).map fun j => productSum (colI i R) (colI j B)) := by
  have e : (Os.turned n (scaleI κ R)).length = n := by unfold Os.turned Os.matOf; rw [List.length_map, List.length_range]
  unfold Os.times
  rw [e]
  unfold Os.matOf scaleI
  rw [List.map_map]
  apply List.map_congr_left
  intro i hi
  have hi := List.mem_range.mp hi
  show (List.range k).map _ = ((List.range k).map _).map _
  rw [List.map_map]
  apply List.map_congr_left
  intro j _
  show Os.dot (Os.row (Os.turned n (scaleI κ R)) i) ((scaleI κ B).map fun (r : List Rat) => r.getD j 0) = _
  rw [turned_row hi, col_scale, dot_scale]
  rfl
theorem against_rows {R : MatI} {n : Nat} {bu : List Int} {m : Nat} (hb : bu.length = m) : ((List.range n).map fun i => (List.range 1).map fun j => productSum (colI i R) (colI j (rowsOf bu m 1))) = rowsOf (againstM R n bu) n 1 := by
  unfold rowsOf
  apply List.map_congr_left
  intro i hi
  have hi := List.mem_range.mp hi
  apply List.map_congr_left
  intro j hj
  have hj := List.mem_range.mp hj
  obtain rfl : j = 0 := by omega
  have e := colI_rowsOf hb
  unfold rowsOf at e
  rw [e]
  unfold againstM
  rw [Nat.one_mul, Nat.add_zero, getD_range _ _ hi]
theorem least_law {mode m n : Int} {a b : List Int} (hm : In64 mode) (hm2 : In64 m) (hn : In64 n) (ha : ∀ x ∈ a, In64 x) (hb : ∀ x ∈ b, In64 x) : leastOf mode m n a b = PyWqambd.least mode m n a b := by
  show _ = OsNeutral.shown (Os.answer (.least mode.toNat m.toNat n.toNat (OsNeutral.nats a) (OsNeutral.nats b)))
  unfold leastOf Os.answer
  dsimp only
  rw [withMode_eq hm.1, few_iff hn, ofRow_eq ha]
  have eb : ∀ f : List Rat → Os.Answer, Os.ofRow m.toNat (OsNeutral.nats b) f = if b.length = m.toNat ∧ b.all isFin = true then f (b.map valOf) else Os.no 1 := fun f => ofRow_eq hb _ f
  simp only [eb]
  have en : (a.length : Int) = m * n ↔ a.length = m.toNat * n.toNat := by
    have hn0 := hn.1
    have hm0 := hm2.1
    rw [show m * n = ((m.toNat * n.toNat : Nat) : Int) by rw [Int.natCast_mul]; congr 1 <;> omega]
    omega
  have hm0 := hm2.1
  have hn0 := hn.1
  by_cases good : mode ≤ 3 ∧ badSize n 4 = false ∧ n ≤ m ∧ m ≤ 6 ∧ (a.length = m.toNat * n.toNat ∧ a.all isFin = true) ∧ (b.length = m.toNat ∧ b.all isFin = true)
  · obtain ⟨g1, g2, g3, g4, g5, g6⟩ := good
    have c2 : 1 ≤ n ∧ n ≤ 4 := by
      unfold badSize at g2
      rw [Bool.or_eq_false_iff] at g2
      have h1 := of_decide_eq_false g2.1
      have h2 := of_decide_eq_false g2.2
      omega
    have gm : badSize m 6 = false := by
      unfold badSize
      rw [decide_eq_false (by omega), decide_eq_false (by omega)]
      rfl
    rw [if_neg (show ¬ (decide (3 < mode) || (badMatrix m n 6 a || (decide (m < n) || badColumn m b))) = true from fun z => by
      rw [Bool.or_eq_true, Bool.or_eq_true, Bool.or_eq_true] at z
      rcases z with z | z | z | z
      · have := of_decide_eq_true z; omega
      · rcases badMatrix_iff.mp z with q | q | q | q
        · rw [gm] at q; cases q
        · rw [g2] at q; cases q
        · exact q (en.mpr g5.1)
        · exact q g5.2
      · have := of_decide_eq_true z; omega
      · rcases badColumn_iff.mp z with q | q
        · exact q (by omega)
        · exact q g6.2), if_neg (show ¬ (3 < mode ∨ (!badSize n 4 && (decide (n.toNat ≤ m.toNat) && decide (m.toNat ≤ 6))) = false) from by
      rw [g2, decide_eq_true (by omega), decide_eq_true (by omega)]
      rintro (z | z)
      · omega
      · cases z), if_pos g5, if_pos g6]
    rw [matIn_scale, matIn_scale, times_scale, times_scale, against_rows (by rw [List.length_map]; exact g6.1)]
    have hne : (1 : Rat) / UP * (1 / UP) ≠ 0 := fun z => by
      rcases Rat.mul_eq_zero.mp z with z | z <;> exact inv_up_ne z
    refine (solve_told hm.1 g1 (n := n.toNat) (by omega) (by omega) (R := gramM (rowsOf (a.map unitsOf) m.toNat n.toNat) n.toNat) (by unfold gramM; rw [List.length_map, List.length_range]) (fun r hr => ?_) (by unfold againstM; rw [List.length_map, List.length_range]) hne).symm
    unfold gramM at hr
    obtain ⟨i, _, rfl⟩ := List.mem_map.mp hr
    rw [List.length_map, List.length_range]
  · have bad : (decide (3 < mode) || (badMatrix m n 6 a || (decide (m < n) || badColumn m b))) = true := by
      apply Classical.byContradiction
      intro z
      apply good
      have z1 : ¬ 3 < mode := fun q => z (by rw [decide_eq_true q]; rfl)
      have z2 : ¬ badMatrix m n 6 a = true := fun q => z (by rw [q]; simp)
      have z3 : ¬ m < n := fun q => z (by rw [decide_eq_true q]; simp)
      have z4 : ¬ badColumn m b = true := fun q => z (by rw [q]; simp)
      have y := fun q => z2 (badMatrix_iff.mpr q)
      have y4 := fun q => z4 (badColumn_iff.mpr q)
      have w1 : ¬ badSize m 6 = true := fun q => y (.inl q)
      have w2 : ¬ badSize n 4 = true := fun q => y (.inr (.inl q))
      have w3 : (a.length : Int) = m * n := Classical.byContradiction fun q => y (.inr (.inr (.inl q)))
      have w4 : a.all isFin = true := Classical.byContradiction fun q => y (.inr (.inr (.inr q)))
      have w5 : (b.length : Int) = m := Classical.byContradiction fun q => y4 (.inl q)
      have w6 : b.all isFin = true := Classical.byContradiction fun q => y4 (.inr q)
      have w7 : ¬ 6 < m := fun q => w1 (by unfold badSize; rw [decide_eq_true q, Bool.or_true])
      exact ⟨by omega, by simpa using w2, by omega, by omega, ⟨en.mp w3, w4⟩, by omega, w6⟩
    rw [if_pos bad]
    by_cases z1 : 3 < mode ∨ (!badSize n 4 && (decide (n.toNat ≤ m.toNat) && decide (m.toNat ≤ 6))) = false
    · rw [if_pos z1]; rfl
    · rw [if_neg z1]
      by_cases z2 : a.length = m.toNat * n.toNat ∧ a.all isFin = true
      · rw [if_pos z2]
        by_cases z3 : b.length = m.toNat ∧ b.all isFin = true
        · exfalso
          apply good
          have w1 : ¬ 3 < mode := fun q => z1 (.inl q)
          have w2 : badSize n 4 = false := by
            cases q : badSize n 4 with
            | false => rfl
            | true => exact absurd (.inr (by rw [q]; rfl)) z1
          have w3 : n.toNat ≤ m.toNat := Classical.byContradiction fun q => z1 (.inr (by rw [decide_eq_false q]; simp))
          have w4 : m.toNat ≤ 6 := Classical.byContradiction fun q => z1 (.inr (by rw [decide_eq_false q]; simp))
          exact ⟨by omega, w2, by omega, by omega, z2, z3⟩
        · rw [if_neg z3]; rfl
      · rw [if_neg z2]; rfl
end Desk

namespace Desk
open PySem PySem.Spec PyProof.Rows L2 Evl
/-! words for walks -/
def Has (P : Program) (w : World) (K : PySem.W.Frag) (mg : Str → Option Value) (base : Heap) (k : Nat) (x : Str) (ps : List Str) (sp : Sp) : Prop :=
  ∃ (f : Addr) (fd : FuncData), FnOk P w K mg base CX0 k f fd ps sp ∧ mg x = some (.ref f) ∧ PySem.W.keepIn K (.ref f) = true ∧ Binds K fd ps []
/-- a module's whole number -/
def CI (mg : Str → Option Value) (x : Str) (n : Int) : Prop := ∃ t, mg x = some (.int n t)
section
variable {X : Cx} {x : Str} {p pos : Pos} {e : Expr} {es : List Expr} {t : TA}
theorem pe_callH {k j : Nat} {ps : List Str} {sp : Sp} (h : Has X.prog X.w X.K X.mg X.base k x ps sp) (hr : Room j X.A) (ha : PA X (e :: es) t) (hk : k ≤ j := by decide) (hg : Gl X x := by rfl) (hdb : (x == ("__debug__" : Str)) = false := by decide)
    (he : starEach (e :: es) X.env = (false, eval e X.env) :: starEach es X.env := by rfl) (hpl : (backTo pos (starEach es X.env)).any (·.1) = false := by rfl) : PE X (.Call (.Name x p) (e :: es) [] pos) (tCall sp [] E0 t) := by
  obtain ⟨f, fd, F, hm, hkp, hb⟩ := h
  exact pe_call F (hr.mono hk) hg hm hkp hb .nil pass0 ha hdb he hpl
theorem pe_ci {n : Int} (h : CI X.mg x n) (hg : Gl X x := by rfl) (hd : (x == ("__debug__" : Str)) = false := by decide) : PE X (.Name x p) (tC (.int n)) := by
  obtain ⟨t, h⟩ := h
  exact pe_glob hg h ⟨t, rfl⟩ hd
end
section
variable {K : PySem.W.Frag} {σ : L2.St} {H H' : Hp} {ta tb te : TE} {v x y : V} {D : Ends} {tz : TS}
def SpU (sp : Sp) (vs : List V) (H : Hp) (xs : List V) : Prop := ∀ H1, Ex H H1 → ∀ Q : VK, (∀ p H2, H1 p = none → Ex H1 H2 → H2 p = some (.tup xs) → Q (.ref p) H2) → ∀ E : XK, sp vs H1 Q E
def RetU (xs : List V) (H : Hp) (Q : VK) : Prop := ∀ p H2, H p = none → Ex H H2 → H2 p = some (.tup xs) → Q (.ref p) H2
theorem RetU.go {xs : List V} {Q : VK} (k : RetU xs H Q) (e : Ex H H') {p : Addr} {H2 : Hp} (hp : H' p = none) (e2 : Ex H' H2) (h : H2 p = some (.tup xs)) : Q (.ref p) H2 := k p H2 (fresh_back e hp) (e.trans e2) h
theorem eu_call {sp : Sp} {dvs vs xs : List V} {E : XK} {ta : TA} (h : EvA ta σ H vs) (hs : SpU sp (vs ++ dvs) H xs) : EvU (tCall sp dvs E ta) σ H xs := fun H1 e Q q =>
  h H1 e _ fun H2 e2 => hs H2 (e.trans e2) Q (fun p H3 hp e3 h3 => q p H3 (fresh_back e2 hp) (e2.trans e3) h3) E
theorem EvU.mono {xs : List V} (e : Ex H H') (h : EvU te σ H xs) : EvU te σ H' xs := fun H1 a Q q => h H1 (e.trans a) Q q
/-- a, b = e, e a new tuple -/
theorem s_unp {i j : Nat} (h : EvU te σ H [x, y]) (k : ∀ H1, Ex H H1 → D.nx ((σ.set i (some x)).set j (some y)) H1) : tAsg te (gTup K 2 (gCons (gName i) (gCons (gName j) gNil))) D σ H :=
  h H (Ex.refl H) _ fun p H1 _ e1 hp => ⟨p, [x, y], rfl, st_of hp, rfl, x, [y], rfl, y, [], rfl, rfl, k H1 e1⟩
theorem q_unp {i j : Nat} (h : EvU te σ H [x, y]) (k : ∀ H1, Ex H H1 → tz D ((σ.set i (some x)).set j (some y)) H1) : tSeq (tAsg te (gTup K 2 (gCons (gName i) (gCons (gName j) gNil)))) tz D σ H := s_unp (D := { D with nx := tz D }) h k
/-- a, b = e1, e2 -/
theorem s_par {i j : Nat} {t : TA} (h : EvA t σ H [x, y]) (k : ∀ H1, Ex H H1 → D.nx ((σ.set i (some x)).set j (some y)) H1) : tPar i j t D σ H :=
  h H (Ex.refl H) _ fun H1 e1 => ⟨x, y, rfl, k H1 e1⟩
theorem q_par {i j : Nat} {t : TA} (h : EvA t σ H [x, y]) (k : ∀ H1, Ex H H1 → tz D ((σ.set i (some x)).set j (some y)) H1) : tSeq (tPar i j t) tz D σ H := s_par (D := { D with nx := tz D }) h k
/-- the divmod of two whole numbers: a new tuple -/
def rDm : List V → Hp → VK → Prop := fun xs H Q => ∃ i j, xs = [.int i, .int j] ∧ CDivP i j ∧ ∀ p, H p = none → Q (.ref p) (upd H p (.tup [.int (i / j), .int (i % j)]))
theorem eu_dm {ta : TA} {i j : Int} (h : EvA ta σ H [.int i, .int j]) (hc : CDivP i j) : EvU (tCB rDm ta) σ H [.int (i / j), .int (i % j)] := fun H1 e Q q =>
  h H1 e _ fun H2 e2 => ⟨i, j, rfl, hc, fun p hp => q p _ (fresh_back e2 hp) (e2.trans (Ex.new hp)) upd_same⟩
def rAbs : List V → Hp → VK → Prop := fun xs H Q => ∃ i, xs = [.int i] ∧ Q (.int (if i < 0 then -i else i)) H
theorem ev_abs {ta : TA} {i : Int} (h : EvA ta σ H [.int i]) : Ev (tCB rAbs ta) σ H (.int (i.natAbs : Int)) := fun H1 e Q q =>
  h H1 e _ fun H2 e2 => ⟨i, rfl, by
    have e0 : (if i < 0 then -i else i) = (i.natAbs : Int) := by split <;> omega
    rw [e0]
    exact q H2 e2⟩
end
theorem small_div {i j : Int} (h0 : 0 < j) (h1 : j.natAbs.log2 < 9000) : CDivP i j := ⟨h0, PyProof.noPylong_of_log2 h1⟩
theorem fdiv_pos {i j : Int} (h : 0 < j) : i.fdiv j = i / j := Int.fdiv_eq_ediv_of_nonneg i (by omega)
theorem fmod_pos {i j : Int} (h : 0 < j) : i.fmod j = i % j := Int.fmod_eq_emod_of_nonneg i (by omega)

theorem len2 : 2 ≤ 100000 := by decide
theorem len1 : 1 ≤ 100000 := by decide
/-! ### values that are told by a property which stays; lists of them -/
/-- of H2: what stood in H, and what is new since H1 -/
def Fr (H H1 H2 : Hp) : Hp := fun a => if (H a).isSome = true ∨ H1 a = none then H2 a else none
theorem Fr.ex {H H1 H2 : Hp} : Ex (Fr H H1 H2) H2 := fun a o h => by
  unfold Fr at h
  split at h
  · exact h
  · cases h
theorem Fr.up {H H' H1 H2 : Hp} (e : Ex H H') : Ex (Fr H H1 H2) (Fr H' H1 H2) := fun a o h => by
  unfold Fr at h ⊢
  split at h
  · rename_i c
    rw [if_pos]
    · exact h
    · rcases c with c | c
      · left
        cases q : H a with
        | none => rw [q] at c; cases c
        | some u => rw [e a u q]; rfl
      · exact .inr c
  · cases h
theorem Fr.old {H H1 H2 : Hp} (e1 : Ex H H1) (e2 : Ex H1 H2) : Ex H (Fr H H1 H2) := fun a o h => by
  unfold Fr
  rw [if_pos (.inl (by rw [h]; rfl))]
  exact e2 a o (e1 a o h)
theorem Fr.new {H H1 H2 : Hp} {a : Addr} (h : H1 a = none) : Fr H H1 H2 a = H2 a := by
  unfold Fr
  rw [if_pos (.inr h)]
theorem Fr.trans {H H1 H2 H3 : Hp} (e1 : Ex H1 H2) : Ex (Fr H H2 H3) (Fr H H1 H3) := fun a o h => by
  unfold Fr at h ⊢
  split at h
  · rename_i c
    rw [if_pos]
    · exact h
    · rcases c with c | c
      · exact .inl c
      · exact .inr (fresh_back e1 c)
  · cases h
def St1 (R : V → Hp → Prop) : Prop := ∀ v H H', Ex H H' → R v H → R v H'
def EvP (te : TE) (σ : L2.St) (H : Hp) (R : V → Hp → Prop) : Prop := ∀ H1, Ex H H1 → ∀ Q : VK, (∀ v H2, Ex H1 H2 → R v (Fr H H1 H2) → Q v H2) → te σ H1 Q
def EvLP (te : TE) (σ : L2.St) (H : Hp) (n : Nat) (R : Nat → V → Hp → Prop) : Prop :=
  ∀ H1, Ex H H1 → ∀ Q : VK, (∀ p H2 (ys : List V), H1 p = none → Ex H1 H2 → H2 p = some (.lst ys) → ys.length = n → (∀ i y, ys[i]? = some y → R i y H2) → Q (.ref p) H2) → te σ H1 Q
section
variable {K : PySem.W.Frag} {σ : L2.St} {H H' : Hp} {ta tb te : TE} {v x y : V} {D : Ends} {tz : TS}
theorem Ev.p (h : Ev te σ H v) : EvP te σ H (fun u _ => u = v) := fun H1 a Q q => h H1 a Q fun H2 e => q v H2 e rfl
/-- a reference to a list of xs -/
def LstV (xs : List V) : V → Hp → Prop := fun u G => ∃ p, u = .ref p ∧ G p = some (.lst xs)
theorem LstV.st {xs : List V} : St1 (LstV xs) := fun _ _ _ e ⟨p, h1, h2⟩ => ⟨p, h1, e p _ h2⟩
theorem EvL.p {xs : List V} (h : EvL te σ H xs) : EvP te σ H (LstV xs) := fun H1 a Q q => h H1 a Q fun p H2 hn e hp => q _ H2 e ⟨p, rfl, by rw [Fr.new hn]; exact hp⟩
theorem et_yes : EvT tYes σ H true := fun H1 _ _ q => q H1 (Ex.refl H1)
/-- H without what stands at a -/
def less (H : Hp) (a : Addr) : Hp := fun b => if b = a then none else H b
theorem less_ex {H : Hp} {a : Addr} : Ex (less H a) H := fun b o h => by
  unfold less at h
  split at h
  · cases h
  · exact h
theorem less_up {H H' : Hp} {a : Addr} (e : Ex H H') : Ex (less H a) (less H' a) := fun b o h => by
  unfold less at h ⊢
  split at h
  · cases h
  · rename_i c
    rw [if_neg c]
    exact e b o h
theorem less_upd {H : Hp} {a : Addr} {o : HO} : less (upd H a o) a = less H a := by
  funext b
  unfold less
  split
  · rfl
  · rename_i c
    exact upd_ne c
theorem Fr_less {H H1 H2 : Hp} {a : Addr} {o : HO} (h0 : H a = none) (h1 : H1 a = some o) : Ex (Fr H H1 H2) (less H2 a) := fun b u h => by
  unfold Fr at h
  unfold less
  split at h
  · rename_i c
    rw [if_neg]
    · exact h
    · rintro rfl
      rw [h0, h1] at c
      rcases c with c | c <;> cases c
  · cases h
def Cp (H : Hp) (R : Nat → V → Hp → Prop) (Dl : Addr) (i : Nat) (H' : Hp) : Prop := H Dl = none ∧ Ex H H' ∧ ∃ ys : List V, H' Dl = some (.lst ys) ∧ ys.length = i ∧ ∀ j y, ys[j]? = some y → R j y (less H' Dl)
theorem cp_turn {R : Nat → V → Hp → Prop} {Dl : Addr} {i : Nat} {σ2 : L2.St} (hR : ∀ i, St1 (R i)) (p : Cp H R Dl i H') (hi : i < 50000) (he : EvP te σ2 H (R i)) :
    tYes σ2 H' fun b H3 => if b = true then te σ2 H3 fun y H4 => ∃ acc, H4 Dl = some (.lst acc) ∧ acc.length < sizeLine ∧ Cp H R Dl (i + 1) (upd H4 Dl (.lst (acc ++ [y]))) else Cp H R Dl (i + 1) H3 := by
  obtain ⟨p1, p2, ys, p3, p4, p5⟩ := p
  show te σ2 H' fun y H4 => ∃ acc, H4 Dl = some (.lst acc) ∧ acc.length < sizeLine ∧ Cp H R Dl (i + 1) (upd H4 Dl (.lst (acc ++ [y])))
  refine he H' p2 _ fun y H4 e4 r => ⟨ys, e4 Dl _ p3, sz_lt (by omega), p1, Ex.mut (p2.trans e4) p1, ys ++ [y], upd_same, by rw [List.length_append, p4]; rfl, fun j z hz => ?_⟩
  rw [less_upd]
  rcases Nat.lt_trichotomy j ys.length with c | c | c
  · rw [List.getElem?_append_left c] at hz
    exact hR j _ _ _ (less_up e4) (p5 j z hz)
  · subst c
    rw [List.getElem?_append_right (Nat.le_refl _), Nat.sub_self] at hz
    have e : y = z := Option.some.inj hz
    subst e
    rw [p4]
    exact hR i _ _ _ (Fr_less p1 p3) r
  · rw [List.getElem?_eq_none (by rw [List.length_append]; simp; omega)] at hz
    cases hz
theorem lp_list {a : Addr} {xs : List V} {tl : TE} {j : Nat} {vs : List Nat} (R : Nat → V → Hp → Prop) (hR : ∀ i, St1 (R i)) (h : Ev tl σ H (.ref a)) (hx : SqL K H a xs) (hz : xs.length ≤ 40000) (hw : ∀ x, wipe ((wipe σ vs).set j (some x)) vs = wipe σ vs)
    (he : ∀ (i : Nat) (x : V) H1, Ex H H1 → xs[i]? = some x → EvP te ((wipe σ vs).set j (some x)) H1 (R i)) : EvLP (tLc (iList K tl) (gName j) tYes te vs) σ H xs.length R := fun H0 e Q q => h H0 e _ fun H1 e1 => ⟨a, rfl, ⟨xs, ex_l (e.trans e1) hx⟩, fun Dl hD =>
  lc_list (xs := xs) (Cp H1 R Dl) ⟨hD, Ex.new hD, [], upd_same, rfl, fun j y hy => by simp at hy⟩ (fun i H' _ p => ex_l ((e.trans e1).trans p.2.1) hx) (fun i x H' hi p => ⟨hw x, cp_turn hR p (by have := (List.getElem?_eq_some_iff.mp hi).1; omega) (he i x H1 (e.trans e1) hi)⟩)
    (fun H' ⟨p1, p2, ys, p3, p4, p5⟩ => q Dl H' ys (fresh_back e1 p1) (e1.trans p2) p3 p4 fun i y hy => hR i _ _ _ less_ex (p5 i y hy))⟩
theorem lp_new {xs : List V} {tl : TE} {j : Nat} {vs : List Nat} (R : Nat → V → Hp → Prop) (hR : ∀ i, St1 (R i)) (h : EvL tl σ H xs) (hz : xs.length ≤ 40000) (hw : ∀ x, wipe ((wipe σ vs).set j (some x)) vs = wipe σ vs)
    (he : ∀ (i : Nat) (x : V) H1, Ex H H1 → xs[i]? = some x → EvP te ((wipe σ vs).set j (some x)) H1 (R i)) : EvLP (tLc (iList K tl) (gName j) tYes te vs) σ H xs.length R := fun H0 e Q q => h H0 e _ fun a H1 ha e1 hx => ⟨a, rfl, ⟨xs, sq_of hx⟩, fun Dl hD =>
  lc_list (xs := xs) (Cp H1 R Dl) ⟨hD, Ex.new hD, [], upd_same, rfl, fun j y hy => by simp at hy⟩ (fun i H' _ p => sq_of (p.2.1 a _ hx)) (fun i x H' hi p => ⟨hw x, cp_turn hR p (by have := (List.getElem?_eq_some_iff.mp hi).1; omega) (he i x H1 (e.trans e1) hi)⟩)
    (fun H' ⟨p1, p2, ys, p3, p4, p5⟩ => q Dl H' ys (fresh_back e1 p1) (e1.trans p2) p3 p4 fun i y hy => hR i _ _ _ less_ex (p5 i y hy))⟩
theorem lp_range {ta : TA} {j : Nat} {vs : List Nat} {n : Int} (R : Nat → V → Hp → Prop) (hR : ∀ i, St1 (R i)) (h : EvA ta σ H [.int n]) (hn : -40000 ≤ n ∧ n ≤ 40000) (hw : ∀ x, wipe ((wipe σ vs).set j (some x)) vs = wipe σ vs)
    (he : ∀ (i : Nat) H1, Ex H H1 → (i : Int) < n → EvP te ((wipe σ vs).set j (some (.int (i : Int)))) H1 (R i)) : EvLP (tLc (iRng1 ta) (gName j) tYes te vs) σ H n.toNat R := fun H0 e Q q => h H0 e _ fun H1 e1 => ⟨n, rfl, by omega, by omega, fun Dl hD =>
  lc_range (lo := 0) (n := n.toNat) (Cp H1 R Dl) ⟨hD, Ex.new hD, [], upd_same, rfl, fun j y hy => by simp at hy⟩ (fun i H' hi p => by
    have e0 : (0 : Int) + (i : Int) = (i : Int) := Int.zero_add _
    show wipe ((wipe σ vs).set j (some (.int ((0 : Int) + (i : Int))))) vs = wipe σ vs ∧ tYes ((wipe σ vs).set j (some (.int ((0 : Int) + (i : Int))))) H' fun b H3 => if b = true then te ((wipe σ vs).set j (some (.int ((0 : Int) + (i : Int))))) H3 fun y H4 => ∃ acc, H4 Dl = some (.lst acc) ∧ acc.length < sizeLine ∧ Cp H1 R Dl (i + 1) (upd H4 Dl (.lst (acc ++ [y]))) else Cp H1 R Dl (i + 1) H3
    rw [e0]
    exact ⟨hw _, cp_turn hR p (by omega) (he i H1 (e.trans e1) (by omega))⟩)
    (fun H' ⟨p1, p2, ys, p3, p4, p5⟩ => q Dl H' ys (fresh_back e1 p1) (e1.trans p2) p3 p4 fun i y hy => hR i _ _ _ less_ex (p5 i y hy))⟩
/-- items that are values -/
theorem EvLP.vals {n : Nat} {ys : List V} (h : EvLP te σ H n (fun i u _ => ys[i]? = some u)) (hl : ys.length = n) : EvL te σ H ys := fun H1 a Q q => h H1 a Q fun p H2 zs hn e hp hz hi => by
  have e0 : zs = ys := by
    apply List.ext_getElem?
    intro i
    rcases Nat.lt_or_ge i zs.length with c | c
    · have e1 : zs[i]? = some zs[i] := List.getElem?_eq_getElem c
      rw [e1, hi i _ e1]
    · rw [List.getElem?_eq_none c, List.getElem?_eq_none (by omega)]
  subst e0
  exact q p H2 hn e hp
theorem st_val {ys : List V} (i : Nat) : St1 (fun (u : V) (_ : Hp) => ys[i]? = some u) := fun _ _ _ _ r => r
/-- [F(n) for n in ns] -/
theorem el_ints {a : Addr} {ns : List Int} {tl : TE} {j : Nat} {vs : List Nat} (F : Int → V) (h : Ev tl σ H (.ref a)) (hx : SqL K H a (ns.map V.int)) (hz : ns.length ≤ 40000) (hw : ∀ x, wipe ((wipe σ vs).set j (some x)) vs = wipe σ vs)
    (he : ∀ n ∈ ns, ∀ H1, Ex H H1 → Ev te ((wipe σ vs).set j (some (.int n))) H1 (F n)) : EvL (tLc (iList K tl) (gName j) tYes te vs) σ H (ns.map F) :=
  (lp_list (fun i u _ => (ns.map F)[i]? = some u) st_val h hx (by rw [List.length_map]; exact hz) hw fun i x H1 e hi => by
    rw [List.getElem?_map] at hi
    cases q : ns[i]? with
    | none => rw [q] at hi; cases hi
    | some n =>
      rw [q] at hi
      cases hi
      refine fun H2 e2 Q k => he n (List.mem_of_getElem? q) H1 e H2 e2 Q fun H3 e3 => k _ H3 e3 ?_
      rw [List.getElem?_map, q]
      rfl).vals (by rw [List.length_map, List.length_map])
theorem el_rng {ta : TA} {j : Nat} {vs : List Nat} {n : Int} (ys : List V) (h : EvA ta σ H [.int n]) (hn : -40000 ≤ n ∧ n ≤ 40000) (hl : ys.length = n.toNat) (hw : ∀ x, wipe ((wipe σ vs).set j (some x)) vs = wipe σ vs)
    (he : ∀ (i : Nat) y H1, Ex H H1 → (i : Int) < n → ys[i]? = some y → Ev te ((wipe σ vs).set j (some (.int (i : Int)))) H1 y) : EvL (tLc (iRng1 ta) (gName j) tYes te vs) σ H ys :=
  (lp_range (fun i u _ => ys[i]? = some u) st_val h hn hw fun i H1 e hi => by
    obtain ⟨y, hy⟩ : ∃ y, ys[i]? = some y := ⟨ys[i]'(by omega), List.getElem?_eq_getElem (by omega)⟩
    exact fun H2 e2 Q k => he i y H1 e hi hy H2 e2 Q fun H3 e3 => k _ H3 e3 hy).vals hl
/-- a builtin of one new list -/
theorem ev_cbL {r : List V → Hp → VK → Prop} {xs : List V} (h : EvL te σ H xs) (hr : ∀ p H1, Ex H H1 → H1 p = some (.lst xs) → RC r [.ref p] H1 y) : Ev (tCB r (tCons te tNil)) σ H y := fun H1 e Q q =>
  h H1 e _ fun p H2 _ e2 hp => hr p H2 (e.trans e2) hp H2 (Ex.refl H2) Q fun H3 e3 => q H3 (e2.trans e3)
theorem rc_all {a : Addr} {bs : List Bool} (h : SqL K H a (bs.map V.bl)) : RC (rAll K) [.ref a] H (.bl (bs.all id)) := fun H1 e Q q => ⟨a, bs, rfl, ex_l e h, q H1 (Ex.refl H1)⟩
theorem rc_sum {a : Addr} {ns : List Int} (h : SqL K H a (ns.map V.int)) : RC (rSum K) [.ref a] H (.int ns.sum) := fun H1 e Q q => ⟨a, ns, rfl, ex_l e h, q H1 (Ex.refl H1)⟩
end

section
variable {K : PySem.W.Frag} {σ : L2.St} {H H' : Hp} {ta tb te : TE} {v x y : V} {D : Ends} {tz : TS}
theorem ev_shl {i : Int} {k : Nat} (ha : Ev ta σ H (.int i)) (hb : Ev tb σ H (.int (k : Int))) (hc : CShl i (k : Int)) :
    Ev (tOp (fun x y H Q => ∃ (i : Int) (k : Nat), x = .int i ∧ y = .int (k : Int) ∧ CShl i (k : Int) ∧ Q (.int (i * 2 ^ k)) H) ta tb) σ H (.int (i * 2 ^ k)) :=
  ev_op ha hb fun H1 e Q q => ⟨i, k, rfl, rfl, hc, q H1 (Ex.refl H1)⟩
theorem ev_one {k : Nat} (ha : Ev ta σ H (.int 1)) (hb : Ev tb σ H (.int (k : Int))) (hc : k ≤ 134217727) :
    Ev (tOp (fun x y H Q => ∃ k : Nat, x = .int 1 ∧ y = .int (k : Int) ∧ k ≤ 134217727 ∧ Q (.int (2 ^ k)) H) ta tb) σ H (.int (2 ^ k)) :=
  ev_op ha hb fun H1 e Q q => ⟨k, rfl, rfl, hc, q H1 (Ex.refl H1)⟩
theorem ev_add {i j : Int} (ha : Ev ta σ H (.int i)) (hb : Ev tb σ H (.int j)) : Ev (tOp (rI0 fun i j => .int (i + j)) ta tb) σ H (.int (i + j)) := ev_op ha hb rv_I0
theorem ev_sub {i j : Int} (ha : Ev ta σ H (.int i)) (hb : Ev tb σ H (.int j)) : Ev (tOp (rI0 fun i j => .int (i - j)) ta tb) σ H (.int (i - j)) := ev_op ha hb rv_I0
theorem ev_mul {i j : Int} {a b : Nat} (ha : Ev ta σ H (.int i)) (hb : Ev tb σ H (.int j)) (hi : i.natAbs < 2 ^ a) (hj : j.natAbs < 2 ^ b) (h : a + b ≤ 134217728) : Ev (tOp (rI CMulX fun i j => .int (i * j)) ta tb) σ H (.int (i * j)) := ev_op ha hb (rv_I (mulx_ok hi hj h))
theorem ev_neg {i : Int} (ha : Ev ta σ H (.int i)) : Ev (tUn (rU fun i => .int (-i)) ta) σ H (.int (-i)) := ev_un ha ru_neg
/-- the arguments: numbers and one new list among them -/
theorem call_L1 {sp : Sp} {E : XK} {xs : List V} {Q : VK} (h : EvL ta σ H xs) (hs : ∀ p H1, H p = none → Ex H H1 → H1 p = some (.lst xs) → sp [.ref p] H1 Q E) : tCall sp [] E (tCons ta tNil) σ H Q :=
  h H (Ex.refl H) _ fun p H1 hn e hp => hs p H1 hn e hp
end
abbrev IL (K : PySem.W.Frag) (H : Hp) (a : Addr) (ns : List Int) : Prop := SqL K H a (ns.map V.int)

section
variable {K : PySem.W.Frag} {σ : L2.St} {H H' : Hp} {ta tb te : TE} {v x y : V} {D : Ends} {tz : TS}
theorem ev_cmp {p : Int → Int → Bool} {i j : Int} (ha : Ev ta σ H (.int i)) (hb : Ev tb σ H (.int j)) : Ev (tCmp p ta tb) σ H (.bl (p i j)) := fun H1 e Q q =>
  ha H1 e _ fun H2 e2 => hb H2 (e.trans e2) _ fun H3 e3 => ⟨i, j, rfl, rfl, q H3 (e2.trans e3)⟩
theorem s_ext {l : Addr} {xs zs : List V} (hl : H l = some (.lst xs)) (ha : Ev ta σ H (.ref l)) (h : EvL te σ H zs) (hz : xs.length + zs.length ≤ 100000) (k : ∀ H1, Ex H H1 → D.nx σ (upd H1 l (.lst (xs ++ zs)))) :
    tDrop (tBM K "list" rExtend ta (tCons te tNil)) D σ H := ha H (Ex.refl H) _ fun H1 e1 =>
  ⟨Or.inl ⟨rfl, xs, sq_of (e1 l _ hl)⟩, h H1 e1 _ fun p H2 _ e2 hp => ⟨l, p, xs, zs, rfl, rfl, e2 l _ (e1 l _ hl), hp, sz_of hz, k H2 (e1.trans e2)⟩⟩
end

section
variable {K : PySem.W.Frag} {σ : L2.St} {H H' : Hp} {ta tb te : TE} {v x y : V} {D : Ends} {tz : TS}
/-- [e], e told by R -/
theorem lp_one {R : V → Hp → Prop} (h : EvP te σ H R) (hR : St1 R) : EvLP (tLst (tCons te tNil)) σ H 1 (fun _ => R) := fun H1 e Q q =>
  h H1 e _ fun v H2 e2 r => ⟨(by show 1 ≤ sizeLine; decide), fun p hp => q p _ [v] (fresh_back e2 hp) (e2.trans (Ex.new hp)) upd_same rfl fun i y hy => by
    cases i with
    | zero => cases hy; exact hR _ _ _ (Fr.ex.trans (Ex.new hp)) r
    | succ i => simp at hy⟩
end

section
variable {K : PySem.W.Frag} {σ : L2.St} {H H' : Hp} {ta tb te : TE} {v x y z : V} {D : Ends} {tz tu : TS} {g : TG}
theorem s_forRev {a : Addr} {xs : List V} {t : TA} (h : EvA t σ H [.ref a]) (hx : SqL K H a xs) (Pv : Nat → L2.St → Hp → Prop) (h0 : ∀ H1, Ex H H1 → Pv 0 σ H1) (hl : ∀ i σ' H', i ≤ xs.length → Pv i σ' H' → SqL K H' a xs)
    (hs : ∀ i x σ' H', i < xs.length → xs[xs.length - 1 - i]? = some x → Pv i σ' H' → g x σ' H' fun σ2 H2 => tu { D with nx := Pv (i + 1), ct := Pv (i + 1), bk := D.nx } σ2 H2) (hd : ∀ σ' H', Pv xs.length σ' H' → D.nx σ' H') : tFor (iRev K t) g tu D σ H :=
  h H (Ex.refl H) _ fun H1 e => ⟨a, xs, rfl, ex_l e hx, for_it walk_rev Pv (h0 H1 e) hl (fun i x σ' H0 H' hi p hy => by
    obtain ⟨e1, e2⟩ := hy
    subst e1
    exact hs i x σ' _ hi e2 p) hd⟩
theorem q_forRev {a : Addr} {xs : List V} {t : TA} (h : EvA t σ H [.ref a]) (hx : SqL K H a xs) (Pv : Nat → L2.St → Hp → Prop) (h0 : ∀ H1, Ex H H1 → Pv 0 σ H1) (hl : ∀ i σ' H', i ≤ xs.length → Pv i σ' H' → SqL K H' a xs)
    (hs : ∀ i x σ' H', i < xs.length → xs[xs.length - 1 - i]? = some x → Pv i σ' H' → g x σ' H' fun σ2 H2 => tu { D with nx := Pv (i + 1), ct := Pv (i + 1), bk := tz D } σ2 H2) (hd : ∀ σ' H', Pv xs.length σ' H' → tz D σ' H') : tSeq (tFor (iRev K t) g tu) tz D σ H :=
  s_forRev (D := { D with nx := tz D }) h hx Pv h0 hl hs hd
/-- a def's value at two new lists -/
theorem ev_callLL {sp : Sp} {E : XK} {xs ys : List V} (h1 : EvL ta σ H xs) (h2 : EvL tb σ H ys) (hs : ∀ p q H1, Ex H H1 → H1 p = some (.lst xs) → H1 q = some (.lst ys) → SpV sp [.ref p, .ref q] H1 z) : Ev (tCall sp [] E (tCons ta (tCons tb tNil))) σ H z := fun H1 e Q q =>
  h1 H1 e _ fun p H2 _ e2 hp => h2 H2 (e.trans e2) _ fun p' H3 _ e3 hp' => hs p p' H3 ((e.trans e2).trans e3) (e3 _ _ hp) hp' H3 (Ex.refl H3) Q (fun H4 e4 => q H4 ((e2.trans e3).trans e4)) E
theorem ev_fld {C a dx : Addr} {fs : List (Str × V)} {f : Str} (ho : Ev ta σ H (.ref a)) (h : H a = some (.ins C dx fs)) (cl : Cls K C) (nA : NoAttr K C f) (hl : fs.lookup f = some v) : Ev (tFld K ta f) σ H v := fun H1 e Q q =>
  ho H1 e _ fun H2 e2 => ⟨a, C, dx, fs, v, rfl, (e.trans e2) _ _ h, cl, nA, hl, q H2 e2⟩
theorem ev_ix {a : Addr} {xs : List V} {i : Int} {j : Nat} (h : Ev ta σ H (.ref a)) (hi : Ev tb σ H (.int i)) (hx : SqL K H a xs) (e : i = (j : Int)) (hv : xs[j]? = some v) : Ev (tOp (rIxL K) ta tb) σ H v := by
  subst e
  exact ev_op h hi (rv_ixL hx (atI_nat hv))
end

/-! the written part named, so that a comprehension's block may stand around -/
section
variable {X : Cx} {a b l e : Expr} {ta tb tl : TE} {pos p : Pos} {tg : Expr}
theorem pe_ixL (K : PySem.W.Frag) (ha : PE X a ta) (hb : PE X b tb) (hs : PlainIx b := by exact fun _ _ => rfl) (hK : X.K = K := by rfl) : PE X (.Subscript a b pos) (tOp (rIxL K) ta tb) := by
  subst hK
  exact pe_ix ix_list ha hb hs
theorem pe_lenL (K : PySem.W.Frag) (hm : X.mg "len" = none) (ha : PE X e ta) (hg : Gl X "len" := by rfl) (hs : starEach [e] X.env = (false, eval e X.env) :: starEach [] X.env := by rfl) (hpl : (backTo pos (starEach [] X.env)).any (·.1) = false := by rfl) (hK : X.K = K := by rfl) : PE X (.Call (.Name "len" p) [e] [] pos) (tCB (rLenS K) (tCons ta tNil)) := by
  subst hK
  exact pe_callB call_len_seq hg hm PySem.boot_len (pa_cons ha pa_nil hs) (by decide) (by decide) hs hpl
theorem pi_listL (K : PySem.W.Frag) (hl : PE X l tl) (hK : X.K = K := by rfl) : PI X tg l (iList K tl) := by
  subst hK
  exact pi_list hl
end

/-! lists of lists of whole numbers -/
def RowsAt (K : PySem.W.Frag) (H : Hp) (p : Addr) (rows : MatI) : Prop := ∃ as : List Addr, SqL K H p (as.map V.ref) ∧ as.length = rows.length ∧ ∀ (i : Nat) (a : Addr) (r : List Int), as[i]? = some a → rows[i]? = some r → IL K H a r
theorem ex_rows {K : PySem.W.Frag} {H H' : Hp} {p : Addr} {rows : MatI} (e : Ex H H') (h : RowsAt K H p rows) : RowsAt K H' p rows := by
  obtain ⟨as, h1, h2, h3⟩ := h
  exact ⟨as, ex_l e h1, h2, fun i a r ha hr => ex_l e (h3 i a r ha hr)⟩
def RowItem (K : PySem.W.Frag) (rows : MatI) (i : Nat) : V → Hp → Prop := fun u G => ∃ a r, u = .ref a ∧ rows[i]? = some r ∧ IL K G a r
theorem RowItem.st {K : PySem.W.Frag} {rows : MatI} (i : Nat) : St1 (RowItem K rows i) := fun _ _ _ e ⟨a, r, h1, h2, h3⟩ => ⟨a, r, h1, h2, ex_l e h3⟩
def adOf : V → Addr := fun v => match v with | .ref a => a | _ => 0
theorem rows_of_items {K : PySem.W.Frag} {H : Hp} {p : Addr} {ys : List V} {rows : MatI} (h1 : SqL K H p ys) (h2 : ys.length = rows.length) (h3 : ∀ i y, ys[i]? = some y → RowItem K rows i y H) : RowsAt K H p rows := by
  have e : ys = (ys.map adOf).map V.ref := by
    apply List.ext_getElem?
    intro i
    rw [List.getElem?_map, List.getElem?_map]
    cases q : ys[i]? with
    | none => rfl
    | some y =>
      obtain ⟨a, r, rfl, _⟩ := h3 i y q
      rfl
  refine ⟨ys.map adOf, by rw [← e]; exact h1, by rw [List.length_map, h2], fun i a r ha hr => ?_⟩
  rw [List.getElem?_map] at ha
  cases q : ys[i]? with
  | none => rw [q] at ha; cases ha
  | some y =>
    rw [q] at ha
    obtain ⟨a', r', rfl, hs, hn⟩ := h3 i y q
    cases ha
    rw [hr] at hs
    cases hs
    exact hn
/-- a new list of rows -/
def EvR (K : PySem.W.Frag) (te : TE) (σ : L2.St) (H : Hp) (rows : MatI) : Prop := ∀ H1, Ex H H1 → ∀ Q : VK, (∀ p H2, H1 p = none → Ex H1 H2 → RowsAt K H2 p rows → Q (.ref p) H2) → te σ H1 Q
def SpR (K : PySem.W.Frag) (sp : Sp) (vs : List V) (H : Hp) (rows : MatI) : Prop := ∀ H1, Ex H H1 → ∀ Q : VK, (∀ p H2, H1 p = none → Ex H1 H2 → RowsAt K H2 p rows → Q (.ref p) H2) → ∀ E : XK, sp vs H1 Q E
def RetR (K : PySem.W.Frag) (rows : MatI) (H : Hp) (Q : VK) : Prop := ∀ p H2, H p = none → Ex H H2 → RowsAt K H2 p rows → Q (.ref p) H2
section
variable {K : PySem.W.Frag} {σ : L2.St} {H H' : Hp} {ta tb tc te : TE} {v x y z : V} {D : Ends} {tz tu : TS} {g : TG}
theorem RetR.go {rows : MatI} {Q : VK} (k : RetR K rows H Q) (e : Ex H H') {p : Addr} {H2 : Hp} (hp : H' p = none) (e2 : Ex H' H2) (h : RowsAt K H2 p rows) : Q (.ref p) H2 := k p H2 (fresh_back e hp) (e.trans e2) h
theorem EvR.mono {rows : MatI} (e : Ex H H') (h : EvR K te σ H rows) : EvR K te σ H' rows := fun H1 a Q q => h H1 (e.trans a) Q q
theorem er_call {sp : Sp} {dvs vs : List V} {rows : MatI} {E : XK} {ta : TA} (h : EvA ta σ H vs) (hs : SpR K sp (vs ++ dvs) H rows) : EvR K (tCall sp dvs E ta) σ H rows := fun H1 e Q q =>
  h H1 e _ fun H2 e2 => hs H2 (e.trans e2) Q (fun p H3 hp e3 h3 => q p H3 (fresh_back e2 hp) (e2.trans e3) h3) E
theorem er_items {rows : MatI} {n : Nat} (h : EvLP te σ H n (RowItem K rows)) (hn : n = rows.length) : EvR K te σ H rows := fun H1 e Q q =>
  h H1 e Q fun p H2 ys hp e2 h2 hl hi => q p H2 hp e2 (rows_of_items (sq_of h2) (hl.trans hn) hi)
theorem s_retR {rows : MatI} (h : EvR K te σ H rows) (k : ∀ p H1, H p = none → Ex H H1 → RowsAt K H1 p rows → D.rt (.ref p) H1) : tRet te D σ H := h H (Ex.refl H) _ k
theorem s_asgR {i : Nat} {rows : MatI} (h : EvR K te σ H rows) (k : ∀ p H1, H p = none → Ex H H1 → RowsAt K H1 p rows → D.nx (σ.set i (some (.ref p))) H1) : tAsg te (gName i) D σ H := h H (Ex.refl H) _ k
theorem q_asgR {i : Nat} {rows : MatI} (h : EvR K te σ H rows) (k : ∀ p H1, H p = none → Ex H H1 → RowsAt K H1 p rows → tz D (σ.set i (some (.ref p))) H1) : tSeq (tAsg te (gName i)) tz D σ H := s_asgR (D := { D with nx := tz D }) h k
theorem rows_get {p : Addr} {rows : MatI} {i : Nat} {r : List Int} (h : RowsAt K H p rows) (hr : rows[i]? = some r) : ∃ (as : List Addr) (a : Addr), SqL K H p (as.map V.ref) ∧ (as.map V.ref)[i]? = some (.ref a) ∧ as.length = rows.length ∧ IL K H a r := by
  obtain ⟨as, h1, h2, h3⟩ := h
  have hi : i < as.length := by have := (List.getElem?_eq_some_iff.mp hr).1; omega
  exact ⟨as, as[i], h1, by rw [List.getElem?_map, List.getElem?_eq_getElem hi]; rfl, h2, h3 i _ r (List.getElem?_eq_getElem hi) hr⟩
/-- rows[i][j] -/
theorem ev_ix2 {p : Addr} {rows : MatI} {i j : Int} {i' j' : Nat} {r : List Int} {n : Int} (h : Ev ta σ H (.ref p)) (hi : Ev tb σ H (.int i)) (hj : Ev tc σ H (.int j)) (hR : RowsAt K H p rows) (ei : i = (i' : Int)) (ej : j = (j' : Int)) (hr : rows[i']? = some r) (hn : r[j']? = some n) :
    Ev (tOp (rIxL K) (tOp (rIxL K) ta tb) tc) σ H (.int n) := by
  obtain ⟨as, a, h1, h2, h3, h4⟩ := rows_get hR hr
  exact ev_ix (ev_ix h hi h1 ei h2) hj h4 ej (by rw [List.getElem?_map, hn]; rfl)
theorem ev_lenR {p : Addr} {rows : MatI} (ha : Ev ta σ H (.ref p)) (h : RowsAt K H p rows) : Ev (tCB (rLenS K) (tCons ta tNil)) σ H (.int (rows.length : Int)) := by
  obtain ⟨as, h1, h2, h3⟩ := h
  have := ev_len ha h1
  rw [List.length_map, h2] at this
  exact this
/-- a comprehension over range(lo, hi, c) -/
theorem lp_rangeC {ta : TA} {j : Nat} {vs : List Nat} {lo hi c : Int} {n : Nat} (R : Nat → V → Hp → Prop) (hR : ∀ i, St1 (R i)) (h : EvA ta σ H [.int lo, .int hi, .int c]) (hc : RgC lo hi c n) (hn : n ≤ 40000) (hw : ∀ x, wipe ((wipe σ vs).set j (some x)) vs = wipe σ vs)
    (he : ∀ (i : Nat) H1, Ex H H1 → i < n → EvP te ((wipe σ vs).set j (some (.int (lo + (i : Int) * c)))) H1 (R i)) : EvLP (tLc (iRng3 ta) (gName j) tYes te vs) σ H n R := fun H0 e Q q => h H0 e _ fun H1 e1 => ⟨lo, hi, c, n, rfl, hc, fun Dl hD =>
  lc_it walk_rangeC (Cp H1 R Dl) ⟨hD, Ex.new hD, [], upd_same, rfl, fun j y hy => by simp at hy⟩ (fun _ _ _ _ => trivial) (fun i x H0' H' hi' p hy => by
    obtain ⟨e5, e6⟩ := hy
    subst e5; subst e6
    exact ⟨hw _, cp_turn hR p (by omega) (he i H1 (e.trans e1) hi')⟩)
    (fun H' ⟨p1, p2, ys, p3, p4, p5⟩ => q Dl H' ys (fresh_back e1 p1) (e1.trans p2) p3 p4 fun i y hy => hR i _ _ _ less_ex (p5 i y hy))⟩
/-- xs + ys, two new lists -/
theorem el_cat {xs ys : List V} (h1 : EvL ta σ H xs) (h2 : EvL tb σ H ys) (hz : xs.length + ys.length ≤ 100000) : EvL (tOp rCat ta tb) σ H (xs ++ ys) := fun H1 e Q q =>
  h1 H1 e _ fun p H2 hp e2 h2' => h2 H2 (e.trans e2) _ fun p' H3 hp' e3 h3' => ⟨p, p', xs, ys, rfl, rfl, e3 _ _ h2', h3', sz_of hz, fun r hr => q r _ (fresh_back (e2.trans e3) hr) ((e2.trans e3).trans (Ex.new hr)) upd_same⟩
end
section
variable {X : Cx} {a b l e : Expr} {ta tb tl te : TE} {pos p p2 : Pos} {tg : Expr} {lo hi : Option Expr} {t1 t2 : TO}
theorem pe_sliceL (K : PySem.W.Frag) (he : PE X e te) (hl : PO X lo t1) (hu : PO X hi t2) (hK : X.K = K := by rfl) : PE X (.Subscript e (.Slice lo hi none p2) pos) (tSl (rSlL K) te t1 t2) := by
  subst hK
  exact pe_slice sl_list he hl hu
end
theorem cutV_mid {xs : List V} {a b : Nat} (h1 : a ≤ b) (h2 : b ≤ xs.length) : cutV xs (some (a : Int)) (some (b : Int)) = (xs.drop a).take (b - a) := by
  unfold cutV
  rw [HT.sIx_nat, HT.sIx_nat, Nat.min_eq_left h2, Nat.min_eq_left (Nat.le_trans h1 h2)]
theorem cutV_to {xs : List V} {b : Nat} (h2 : b ≤ xs.length) : cutV xs none (some (b : Int)) = xs.take b := by
  unfold cutV
  rw [HT.sIx_nat, HT.sIx_none, Nat.min_eq_left h2]
  rfl
theorem cutV_from {xs : List V} {a : Nat} (h1 : a ≤ xs.length) : cutV xs (some (a : Int)) none = xs.drop a := by
  unfold cutV
  rw [HT.sIx_nat, HT.sIx_none, Nat.min_eq_left h1]
  exact List.take_of_length_le (by rw [List.length_drop]; omega)
theorem take_drop_erase {α : Type} (l : List α) (i : Nat) : l.take i ++ l.drop (i + 1) = l.eraseIdx i := (List.eraseIdx_eq_take_drop_succ l i).symm

section
variable {K : PySem.W.Frag} {σ : L2.St} {H H' : Hp} {ta tb tc te : TE} {v x y z : V} {D : Ends} {tz tu : TS} {g : TG}
/-- a def's value at one new list of rows -/
theorem ev_callR {sp : Sp} {E : XK} {rows : MatI} (h1 : EvR K ta σ H rows) (hs : ∀ p H1, Ex H H1 → RowsAt K H1 p rows → SpV sp [.ref p] H1 z) : Ev (tCall sp [] E (tCons ta tNil)) σ H z := fun H1 e Q q =>
  h1 H1 e _ fun p H2 _ e2 hp => hs p H2 (e.trans e2) hp H2 (Ex.refl H2) Q (fun H3 e3 => q H3 (e2.trans e3)) E
/-- an item of the references with one left out -/
theorem erase_item {p : Addr} {rows : MatI} {as : List Addr} {k i : Nat} (h2 : as.length = rows.length) (h3 : ∀ (i : Nat) (a : Addr) (r : List Int), as[i]? = some a → rows[i]? = some r → IL K H a r) (hx : ((as.map V.ref).eraseIdx k)[i]? = some x) :
    ∃ a r, x = .ref a ∧ (rows.eraseIdx k)[i]? = some r ∧ IL K H a r := by
  rw [List.getElem?_eraseIdx, List.getElem?_map, List.getElem?_map] at hx
  rw [List.getElem?_eraseIdx]
  split at hx
  · rename_i z
    rw [if_pos z]
    cases w1 : as[i]? with
    | none => rw [w1] at hx; cases hx
    | some a =>
      rw [w1] at hx
      cases hx
      have hi' : i < rows.length := by have := (List.getElem?_eq_some_iff.mp w1).1; omega
      exact ⟨a, _, rfl, List.getElem?_eq_getElem hi', h3 i a _ w1 (List.getElem?_eq_getElem hi')⟩
  · rename_i z
    rw [if_neg z]
    cases w1 : as[i + 1]? with
    | none => rw [w1] at hx; cases hx
    | some a =>
      rw [w1] at hx
      cases hx
      have hi' : i + 1 < rows.length := by have := (List.getElem?_eq_some_iff.mp w1).1; omega
      exact ⟨a, _, rfl, List.getElem?_eq_getElem hi', h3 (i + 1) a _ w1 (List.getElem?_eq_getElem hi')⟩
/-- l[:k] + l[k + 1:] -/
theorem el_erase {a : Addr} {xs : List V} {k : Nat} (h1 : Ev ta σ H (.ref a)) (h2 : Ev tb σ H (.int (k : Int))) (h3 : Ev tc σ H (.int (k : Int))) (hx : SqL K H a xs) (hk : k < xs.length) (hl : xs.length ≤ 10000) :
    EvL (tOp rCat (tSl (rSlL K) ta tNoPart (tPart tb)) (tSl (rSlL K) ta (tPart (tOp (rI0 fun i j => .int (i + j)) tc (tC (.int 1)))) tNoPart)) σ H (xs.eraseIdx k) := by
  have hs1 := el_sl (lo := none) (hi := some (k : Int)) (tl := tNoPart) (th := tPart tb) h1 eo_none (eo_some h2) hx
  have hs2 := el_sl (lo := some ((k + 1 : Nat) : Int)) (hi := none) (tl := tPart (tOp (rI0 fun i j => .int (i + j)) tc (tC (.int 1)))) (th := tNoPart) h1 (eo_some (ev_is (ev_add h3 (ev_c (v := .int 1))) (by congr 1))) eo_none hx
  have hc := el_cat hs1 hs2 (by
    have z1 := cutV_length xs none (some (k : Int))
    have z2 := cutV_length xs (some ((k + 1 : Nat) : Int)) none
    omega)
  rw [cutV_to (by omega), cutV_from (by omega), take_drop_erase] at hc
  exact hc
end
end Desk

namespace Desk
open PySem PySem.Spec PyProof.Rows L2 Evl
/-! the text by places -/
def top (i : Nat) : Stmt := PySem.Challenge.pw_onceroundeddesk_s08_inverse.main.body.getD i (.Pass ⟨0, 0, 0, 0⟩)
abbrev s_is_finite : Stmt := top 5
abbrev s_place_of : Stmt := top 6
abbrev s_point_at : Stmt := top 7
abbrev s_units_of : Stmt := top 8
abbrev s_all_units : Stmt := top 9
abbrev s_middle_above : Stmt := top 10
abbrev s_bits_of_lower : Stmt := top 11
abbrev s_bits_of_upper : Stmt := top 12
abbrev s_sign : Stmt := top 14
abbrev s_rows_of : Stmt := top 18
abbrev s_minor : Stmt := top 19
abbrev s_determinant : Stmt := top 20
abbrev s_signed : Stmt := top 21
abbrev s_adjugate : Stmt := top 22
abbrev s_all_finite : Stmt := top 24
abbrev s_bad_size : Stmt := top 25
abbrev s_bad_matrix : Stmt := top 26
abbrev s_neighbours : Stmt := top 28
abbrev s_goes_up : Stmt := top 29
abbrev s_rounded : Stmt := top 30
abbrev s_answer : Stmt := top 31
abbrev s_inverse : Stmt := top 33
abbrev s_Ratio___init__ : Stmt := inClass (top 16) 0
abbrev s_Ratio_side : Stmt := inClass (top 16) 1
section
variable {P : Program} {w : World} {K : PySem.W.Frag} {mg : Str → Option Value} {base : Heap}
/-! doubles -/
def sp_is_finite : Sp := fun vs H Q _ => ∃ b : Int, vs = [.int b] ∧ RetV (.bl (isFin b)) H Q
theorem sv_is_finite {b : Int} {H : Hp} : SpV sp_is_finite [.int b] H (.bl (isFin b)) := fun _ _ _ q _ => ⟨b, rfl, q⟩
theorem sc_is_finite : FnScope ["bits"] ["bits"] (defScope s_is_finite) := ⟨rfl, rfl, rfl, by decide +kernel, rfl, by decide +kernel, by decide +kernel⟩
theorem ok_is_finite {f : Addr} {fd : FuncData} (F : Fun K "is_finite" "is_finite" s_is_finite f fd) (cS : CI mg "SIGN" SGN) (cI : CI mg "INFINITE" INF) : FnOk P w K mg base CX0 1 f fd ["bits"] sp_is_finite := by
  refine F.ok sc_is_finite (fun vs H Q E h => ?_) (fun cdv A outer s H vs Q E hr h => ?_)
  · obtain ⟨b, rfl, _⟩ := h
    rfl
  · obtain ⟨b, rfl, k⟩ := h
    refine ⟨_, pss_one (ps_ret (pe_cmpR op_lt (pe_op op_modN (pv 0) (pe_ci cS)) (pe_ci cI) (nomark _))), ?_⟩
    refine s_ret (ev_op (ev_op (ev_var rfl) ev_c (rv_I (by decide))) ev_c rv_I0) fun H1 e => ?_
    have e1 : b.fmod SGN = b % SGN := fmod_pos (by decide)
    rw [e1]
    exact k.go e
def sp_place_of : Sp := fun vs H Q _ => ∃ b : Int, vs = [.int b] ∧ RetV (.int (placeOf b)) H Q
theorem sv_place_of {b : Int} {H : Hp} : SpV sp_place_of [.int b] H (.int (placeOf b)) := fun _ _ _ q _ => ⟨b, rfl, q⟩
theorem sc_place_of : FnScope ["bits"] ["bits"] (defScope s_place_of) := ⟨rfl, rfl, rfl, by decide +kernel, rfl, by decide +kernel, by decide +kernel⟩
theorem ok_place_of {f : Addr} {fd : FuncData} (F : Fun K "place_of" "place_of" s_place_of f fd) (cS : CI mg "SIGN" SGN) : FnOk P w K mg base CX0 1 f fd ["bits"] sp_place_of := by
  refine F.ok sc_place_of (fun vs H Q E h => ?_) (fun cdv A outer s H vs Q E hr h => ?_)
  · obtain ⟨b, rfl, _⟩ := h
    rfl
  · obtain ⟨b, rfl, k⟩ := h
    refine ⟨_, pss_cons (ps_if (pt_cmpR op_ge (pv 0) (pe_ci cS) (nomark _)) (pss_one (ps_ret (pe_op op_sub (pe_ci cS) (pv 0)))) pss_nil) (pss_one (ps_ret (pv 0))), ?_⟩
    unfold placeOf at k
    refine q_when (et_test (ev_op (ev_var rfl) ev_c rv_I0)) (fun c H1 e => ?_) (fun c H1 e => ?_)
    · rw [if_pos (of_decide_eq_true c)] at k
      exact s_ret (ev_op ev_c (ev_var rfl) rv_I0) fun H2 e2 => k.go (e.trans e2)
    · rw [if_neg (of_decide_eq_false c)] at k
      exact s_ret (ev_var rfl) fun H2 e2 => k.go (e.trans e2)
def sp_point_at : Sp := fun vs H Q _ => ∃ pl : Int, vs = [.int pl] ∧ RetU [.int (pM pl), .int (pS pl)] H Q
theorem su_point_at {pl : Int} {H : Hp} : SpU sp_point_at [.int pl] H [.int (pM pl), .int (pS pl)] := fun _ _ _ q _ => ⟨pl, rfl, q⟩
theorem sc_point_at : FnScope ["place", "exponent", "fraction", "m", "s"] ["place"] (defScope s_point_at) := ⟨rfl, rfl, rfl, by decide +kernel, rfl, by decide +kernel, by decide +kernel⟩
theorem ok_point_at {f : Addr} {fd : FuncData} (F : Fun K "point_at" "point_at" s_point_at f fd) (cH : CI mg "HIDDEN" HID) (bD : mg "divmod" = none) (bA : mg "abs" = none) : FnOk P w K mg base CX0 1 f fd ["place"] sp_point_at := by
  refine F.ok sc_point_at (fun vs H Q E h => ?_) (fun cdv A outer s H vs Q E hr h => ?_)
  · obtain ⟨b, rfl, _⟩ := h
    rfl
  · obtain ⟨pl, rfl, k⟩ := h
    refine ⟨_, pss_cons (ps_asg (pe_callB call_divmodW (by rfl) bD (by decide +kernel) (pa_cons (pe_callB call_abs (by rfl) bA (by decide +kernel) (pa_cons (pv 0) pa_nil)) (pa_cons (pe_ci cH) pa_nil)))
        (pg_tup (by rfl) (pgs_cons (pg_name (i := 1) sc_point_at.nd rfl (.inl rfl)) (pgs_cons (pg_name (i := 2) sc_point_at.nd rfl (.inl rfl)) pgs_nil))))
      (pss_cons (ps_if (pt_cmpR op_eq (pv 1) pe_int (nomark _))
          (pss_one (ps_par (i := 3) (j := 4) (by rfl) sc_point_at.nd rfl rfl (by decide) rfl rfl (pa_cons (pv 2) (pa_cons pe_int pa_nil)) (by rfl)))
          (pss_one (ps_par (i := 3) (j := 4) (by rfl) sc_point_at.nd rfl rfl (by decide) rfl rfl (pa_cons (pe_op op_add (pe_ci cH) (pv 2)) (pa_cons (pv 1) pa_nil)) (by rfl))))
      (pss_cons (ps_if (pt_cmpR op_lt (pv 0) pe_int (nomark _)) (pss_one (ps_ret (pe_tup (pa_cons (pe_un un_neg (pv 3)) (pa_cons (pv 4) pa_nil))))) pss_nil)
      (pss_one (ps_ret (pe_tup (pa_cons (pv 3) (pa_cons (pv 4) pa_nil))))))), ?_⟩
    refine q_unp (eu_dm (ea_cons (ev_abs (ea_cons (ev_var rfl) ea_nil)) (ea_cons ev_c ea_nil)) (small_div (by decide) (by decide))) fun H1 e1 => ?_
    have e0 : ((pS pl : Nat) : Int) = if (pl.natAbs : Int) / HID = 0 then 1 else (pl.natAbs : Int) / HID := by
      unfold pS
      have : 0 ≤ (pl.natAbs : Int) / HID := Int.ediv_nonneg (by omega) (by decide)
      split <;> omega
    have eM : pM pl = if pl < 0 then -(if (pl.natAbs : Int) / HID = 0 then (pl.natAbs : Int) % HID else HID + (pl.natAbs : Int) % HID) else (if (pl.natAbs : Int) / HID = 0 then (pl.natAbs : Int) % HID else HID + (pl.natAbs : Int) % HID) := rfl
    rw [e0, eM] at k
    generalize (pl.natAbs : Int) / HID = q at k ⊢
    generalize (pl.natAbs : Int) % HID = r at k ⊢
    refine q_if (et_test (ev_op (ev_var rfl) ev_c (rv_eq rfl))) (fun c H2 e2 => ?_) (fun c H2 e2 => ?_)
    · have cq : q = 0 := by simpa using c
      rw [if_pos cq, if_pos cq] at k
      refine s_par (ea_cons (ev_var rfl) (ea_cons ev_c ea_nil)) fun H3 e3 => ?_
      refine q_when (et_test (ev_op (ev_var rfl) ev_c rv_I0)) (fun c4 H4 e4 => ?_) (fun c4 H4 e4 => ?_)
      · rw [if_pos (of_decide_eq_true c4)] at k
        exact s_retU (eu_tup (ea_cons (ev_un (ev_var rfl) ru_neg) (ea_cons (ev_var rfl) ea_nil)) len2) fun p H5 hp e5 h5 => k.go (((e1.trans e2).trans e3).trans e4) hp e5 h5
      · rw [if_neg (of_decide_eq_false c4)] at k
        exact s_retU (eu_tup (ea_cons (ev_var rfl) (ea_cons (ev_var rfl) ea_nil)) len2) fun p H5 hp e5 h5 => k.go (((e1.trans e2).trans e3).trans e4) hp e5 h5
    · have cq : ¬ q = 0 := by simpa using c
      rw [if_neg cq, if_neg cq] at k
      refine s_par (ea_cons (ev_op ev_c (ev_var rfl) rv_I0) (ea_cons (ev_var rfl) ea_nil)) fun H3 e3 => ?_
      refine q_when (et_test (ev_op (ev_var rfl) ev_c rv_I0)) (fun c4 H4 e4 => ?_) (fun c4 H4 e4 => ?_)
      · rw [if_pos (of_decide_eq_true c4)] at k
        exact s_retU (eu_tup (ea_cons (ev_un (ev_var rfl) ru_neg) (ea_cons (ev_var rfl) ea_nil)) len2) fun p H5 hp e5 h5 => k.go (((e1.trans e2).trans e3).trans e4) hp e5 h5
      · rw [if_neg (of_decide_eq_false c4)] at k
        exact s_retU (eu_tup (ea_cons (ev_var rfl) (ea_cons (ev_var rfl) ea_nil)) len2) fun p H5 hp e5 h5 => k.go (((e1.trans e2).trans e3).trans e4) hp e5 h5
/-! bounds of points -/
theorem natAbs_pA (pl : Int) : (pM pl).natAbs < 2 ^ 53 := by
  have h : 0 ≤ pA pl ∧ pA pl < 2 ^ 53 := by
    unfold pA HID
    split <;> omega
  unfold pM
  split <;> omega
theorem pS_le {pl : Int} (h : pl.natAbs < 9223372036854775809) : pS pl ≤ 2048 := by
  unfold pS HID
  split
  · omega
  · omega
theorem placeOf_le {b : Int} (h0 : 0 ≤ b) (h1 : b ≤ 18446744073709551615) : (placeOf b).natAbs < 9223372036854775809 := by
  unfold placeOf SGN
  split <;> omega
def sp_units_of : Sp := fun vs H Q _ => ∃ b : Int, vs = [.int b] ∧ In64 b ∧ RetV (.int (unitsOf b)) H Q
theorem sv_units_of {b : Int} {H : Hp} (hb : In64 b) : SpV sp_units_of [.int b] H (.int (unitsOf b)) := fun _ _ _ q _ => ⟨b, rfl, hb, q⟩
theorem sc_units_of : FnScope ["bits", "m", "s"] ["bits"] (defScope s_units_of) := ⟨rfl, rfl, rfl, by decide +kernel, rfl, by decide +kernel, by decide +kernel⟩
theorem ok_units_of {f : Addr} {fd : FuncData} (F : Fun K "units_of" "units_of" s_units_of f fd) (h1 : Has P w K mg base 1 "point_at" ["place"] sp_point_at) (h2 : Has P w K mg base 1 "place_of" ["bits"] sp_place_of) : FnOk P w K mg base CX0 2 f fd ["bits"] sp_units_of := by
  refine F.ok sc_units_of (fun vs H Q E h => ?_) (fun cdv A outer s H vs Q E hr h => ?_)
  · obtain ⟨b, rfl, _⟩ := h
    rfl
  · obtain ⟨b, rfl, hb, k⟩ := h
    refine ⟨_, pss_cons (ps_asg (pe_callH h1 hr (pa_cons (pe_callH h2 hr (pa_cons (pv 0) pa_nil)) pa_nil))
        (pg_tup (by rfl) (pgs_cons (pg_name (i := 1) sc_units_of.nd rfl (.inl rfl)) (pgs_cons (pg_name (i := 2) sc_units_of.nd rfl (.inl rfl)) pgs_nil))))
      (pss_one (ps_ret (pe_op op_shlN (pv 1) (pv 2)))), ?_⟩
    refine q_unp (eu_call (ea_cons (ev_call (ea_cons (ev_var rfl) ea_nil) sv_place_of) ea_nil) su_point_at) fun H1 e1 => ?_
    have hc : CShl (pM (placeOf b)) ((pS (placeOf b) : Nat) : Int) := shl_ok (natAbs_pA _) (by have := pS_le (placeOf_le hb.1 hb.2); omega)
    exact s_ret (ev_shl (ev_var rfl) (ev_var rfl) hc) fun H2 e2 => k.go (e1.trans e2)
def sp_all_units (K : PySem.W.Frag) : Sp := fun vs H Q _ => ∃ (a : Addr) (ns : List Int), vs = [.ref a] ∧ IL K H a ns ∧ ns.length ≤ 40000 ∧ (∀ n ∈ ns, In64 n) ∧ RetL ((ns.map unitsOf).map V.int) H Q
theorem sl_all_units {a : Addr} {ns : List Int} {H : Hp} (h1 : IL K H a ns) (h2 : ns.length ≤ 40000) (h3 : ∀ n ∈ ns, In64 n) : SpL (sp_all_units K) [.ref a] H ((ns.map unitsOf).map V.int) := fun _ e _ q _ => ⟨a, ns, rfl, ex_l e h1, h2, h3, q⟩
theorem sc_all_units : FnScope ["numbers", "bits"] ["numbers"] (defScope s_all_units) := ⟨rfl, rfl, rfl, by decide +kernel, rfl, by decide +kernel, by decide +kernel⟩
theorem ok_all_units {f : Addr} {fd : FuncData} (F : Fun K "all_units" "all_units" s_all_units f fd) (h1 : Has P w K mg base 2 "units_of" ["bits"] sp_units_of) : FnOk P w K mg base CX0 3 f fd ["numbers"] (sp_all_units K) := by
  refine F.ok sc_all_units (fun vs H Q E h => ?_) (fun cdv A outer s H vs Q E hr h => ?_)
  · obtain ⟨a, ns, rfl, _⟩ := h
    rfl
  · obtain ⟨a, ns, rfl, hS, hl, hn, k⟩ := h
    refine ⟨_, pss_one (ps_ret (pe_lc (own := [("bits", 1)]) (g := gName 1) (tt := tYes) rfl sc_all_units.nd (pi_list (pv 0)) (blkOk_by (own := [("bits", 1)]) (N := ["numbers", "bits"]) (sc := defScope s_all_units) (by decide +kernel))
      (fun _ _ _ _ _ => pg_name (i := 1) sc_all_units.nd rfl (Or.inl rfl)) (fun _ _ _ _ _ => pts_nil) (fun _ _ _ _ _ => pe_callH h1 hr (pa_cons (pv 1) pa_nil)))), ?_⟩
    rw [List.map_map] at k
    exact s_retL (el_ints (V.int ∘ unitsOf) (ev_var rfl) hS hl (fun x => rfl) fun n hm H1 e => ev_call (ea_cons (ev_var rfl) ea_nil) (sv_units_of (hn n hm))) fun p H1 hp e h => k p H1 hp e h
def sp_middle_above : Sp := fun vs H Q _ => ∃ pl : Int, vs = [.int pl] ∧ RetU [.int (midM pl), .int (midS pl)] H Q
theorem su_middle_above {pl : Int} {H : Hp} : SpU sp_middle_above [.int pl] H [.int (midM pl), .int (midS pl)] := fun _ _ _ q _ => ⟨pl, rfl, q⟩
theorem sc_middle_above : FnScope ["place", "m", "s"] ["place"] (defScope s_middle_above) := ⟨rfl, rfl, rfl, by decide +kernel, rfl, by decide +kernel, by decide +kernel⟩
theorem ok_middle_above {f : Addr} {fd : FuncData} (F : Fun K "middle_above" "middle_above" s_middle_above f fd) (h1 : Has P w K mg base 1 "point_at" ["place"] sp_point_at) : FnOk P w K mg base CX0 2 f fd ["place"] sp_middle_above := by
  refine F.ok sc_middle_above (fun vs H Q E h => ?_) (fun cdv A outer s H vs Q E hr h => ?_)
  · obtain ⟨b, rfl, _⟩ := h
    rfl
  · obtain ⟨pl, rfl, k⟩ := h
    refine ⟨_, pss_cons (ps_if (pt_cmpR op_ge (pv 0) pe_int (nomark _)) (pss_cons (ps_asg (pe_callH h1 hr (pa_cons (pv 0) pa_nil))
        (pg_tup (by rfl) (pgs_cons (pg_name (i := 1) sc_middle_above.nd rfl (.inl rfl)) (pgs_cons (pg_name (i := 2) sc_middle_above.nd rfl (.inl rfl)) pgs_nil))))
        (pss_one (ps_ret (pe_tup (pa_cons (pe_op op_add (pe_op op_mulX pe_int (pv 1)) pe_int) (pa_cons (pe_op op_sub (pv 2) pe_int) pa_nil)))))) pss_nil)
      (pss_cons (ps_asg (pe_callH h1 hr (pa_cons (pe_op op_add (pv 0) pe_int) pa_nil))
        (pg_tup (by rfl) (pgs_cons (pg_name (i := 1) sc_middle_above.nd rfl (.inl rfl)) (pgs_cons (pg_name (i := 2) sc_middle_above.nd rfl (.inl rfl)) pgs_nil))))
        (pss_one (ps_ret (pe_tup (pa_cons (pe_op op_sub (pe_op op_mulX pe_int (pv 1)) pe_int) (pa_cons (pe_op op_sub (pv 2) pe_int) pa_nil)))))), ?_⟩
    have e0 : ∀ pl : Int, ((pS pl : Nat) : Int) - 1 = ((pS pl - 1 : Nat) : Int) := fun pl => by have := pS_pos pl; omega
    unfold midM midS at k
    refine q_when (et_test (ev_op (ev_var rfl) ev_c rv_I0)) (fun c H1 e1 => ?_) (fun c H1 e1 => ?_)
    · have c := of_decide_eq_true c
      rw [if_pos c, if_pos c, ← e0] at k
      refine q_unp (eu_call (ea_cons (ev_var rfl) ea_nil) su_point_at) fun H2 e2 => ?_
      exact s_retU (eu_tup (ea_cons (ev_add (ev_mul (a := 2) (b := 53) ev_c (ev_var rfl) (by decide) (natAbs_pA _) (by decide)) ev_c) (ea_cons (ev_sub (ev_var rfl) ev_c) ea_nil)) len2) fun p H5 hp e5 h5 => k.go (e1.trans e2) hp e5 h5
    · have c := of_decide_eq_false c
      rw [if_neg c, if_neg c, ← e0] at k
      refine q_unp (eu_call (ea_cons (ev_add (ev_var rfl) ev_c) ea_nil) su_point_at) fun H2 e2 => ?_
      exact s_retU (eu_tup (ea_cons (ev_sub (ev_mul (a := 2) (b := 53) ev_c (ev_var rfl) (by decide) (natAbs_pA _) (by decide)) ev_c) (ea_cons (ev_sub (ev_var rfl) ev_c) ea_nil)) len2) fun p H5 hp e5 h5 => k.go (e1.trans e2) hp e5 h5
def sp_bits_of_lower : Sp := fun vs H Q _ => ∃ b : Int, vs = [.int b] ∧ RetV (.int (bitsLower b)) H Q
theorem sv_bits_of_lower {b : Int} {H : Hp} : SpV sp_bits_of_lower [.int b] H (.int (bitsLower b)) := fun _ _ _ q _ => ⟨b, rfl, q⟩
theorem sc_bits_of_lower : FnScope ["place"] ["place"] (defScope s_bits_of_lower) := ⟨rfl, rfl, rfl, by decide +kernel, rfl, by decide +kernel, by decide +kernel⟩
theorem ok_bits_of_lower {f : Addr} {fd : FuncData} (F : Fun K "bits_of_lower" "bits_of_lower" s_bits_of_lower f fd) (cS : CI mg "SIGN" SGN) : FnOk P w K mg base CX0 1 f fd ["place"] sp_bits_of_lower := by
  refine F.ok sc_bits_of_lower (fun vs H Q E h => ?_) (fun cdv A outer s H vs Q E hr h => ?_)
  · obtain ⟨b, rfl, _⟩ := h
    rfl
  · obtain ⟨b, rfl, k⟩ := h
    refine ⟨_, pss_cons (ps_if (pt_cmpR op_lt (pv 0) pe_int (nomark _)) (pss_one (ps_ret (pe_op op_sub (pe_ci cS) (pv 0)))) pss_nil) (pss_one (ps_ret (pv 0))), ?_⟩
    unfold bitsLower at k
    refine q_when (et_test (ev_op (ev_var rfl) ev_c rv_I0)) (fun c H1 e => ?_) (fun c H1 e => ?_)
    · rw [if_pos (of_decide_eq_true c)] at k
      exact s_ret (ev_op ev_c (ev_var rfl) rv_I0) fun H2 e2 => k.go (e.trans e2)
    · rw [if_neg (of_decide_eq_false c)] at k
      exact s_ret (ev_var rfl) fun H2 e2 => k.go (e.trans e2)
def sp_bits_of_upper : Sp := fun vs H Q _ => ∃ b : Int, vs = [.int b] ∧ RetV (.int (bitsUpper b)) H Q
theorem sv_bits_of_upper {b : Int} {H : Hp} : SpV sp_bits_of_upper [.int b] H (.int (bitsUpper b)) := fun _ _ _ q _ => ⟨b, rfl, q⟩
theorem sc_bits_of_upper : FnScope ["place"] ["place"] (defScope s_bits_of_upper) := ⟨rfl, rfl, rfl, by decide +kernel, rfl, by decide +kernel, by decide +kernel⟩
theorem ok_bits_of_upper {f : Addr} {fd : FuncData} (F : Fun K "bits_of_upper" "bits_of_upper" s_bits_of_upper f fd) (cS : CI mg "SIGN" SGN) : FnOk P w K mg base CX0 1 f fd ["place"] sp_bits_of_upper := by
  refine F.ok sc_bits_of_upper (fun vs H Q E h => ?_) (fun cdv A outer s H vs Q E hr h => ?_)
  · obtain ⟨b, rfl, _⟩ := h
    rfl
  · obtain ⟨b, rfl, k⟩ := h
    refine ⟨_, pss_cons (ps_if (pt_cmpR op_le (pv 0) pe_int (nomark _)) (pss_one (ps_ret (pe_op op_sub (pe_ci cS) (pv 0)))) pss_nil) (pss_one (ps_ret (pv 0))), ?_⟩
    unfold bitsUpper at k
    refine q_when (et_test (ev_op (ev_var rfl) ev_c rv_I0)) (fun c H1 e => ?_) (fun c H1 e => ?_)
    · rw [if_pos (of_decide_eq_true c)] at k
      exact s_ret (ev_op ev_c (ev_var rfl) rv_I0) fun H2 e2 => k.go (e.trans e2)
    · rw [if_neg (of_decide_eq_false c)] at k
      exact s_ret (ev_var rfl) fun H2 e2 => k.go (e.trans e2)
def sp_sign : Sp := fun vs H Q _ => ∃ b : Int, vs = [.int b] ∧ RetV (.int b.sign) H Q
theorem sv_sign {b : Int} {H : Hp} : SpV sp_sign [.int b] H (.int b.sign) := fun _ _ _ q _ => ⟨b, rfl, q⟩
theorem sc_sign : FnScope ["number"] ["number"] (defScope s_sign) := ⟨rfl, rfl, rfl, by decide +kernel, rfl, by decide +kernel, by decide +kernel⟩
theorem ok_sign {f : Addr} {fd : FuncData} (F : Fun K "sign" "sign" s_sign f fd) : FnOk P w K mg base CX0 1 f fd ["number"] sp_sign := by
  refine F.ok sc_sign (fun vs H Q E h => ?_) (fun cdv A outer s H vs Q E hr h => ?_)
  · obtain ⟨b, rfl, _⟩ := h
    rfl
  · obtain ⟨b, rfl, k⟩ := h
    refine ⟨_, pss_cons (ps_if (pt_cmpR op_gt (pv 0) pe_int (nomark _)) (pss_one (ps_ret pe_int)) pss_nil)
      (pss_cons (ps_if (pt_cmpR op_lt (pv 0) pe_int (nomark _)) (pss_one (ps_ret (pe_un un_neg pe_int))) pss_nil) (pss_one (ps_ret pe_int))), ?_⟩
    refine q_when (et_test (ev_op (ev_var rfl) ev_c rv_I0)) (fun c H1 e => ?_) (fun c H1 e => ?_)
    · rw [Int.sign_eq_one_of_pos (of_decide_eq_true c)] at k
      exact s_ret ev_c fun H2 e2 => k.go (e.trans e2)
    · refine q_when (et_test (ev_op (ev_var rfl) ev_c rv_I0)) (fun c2 H2 e2 => ?_) (fun c2 H2 e2 => ?_)
      · rw [Int.sign_eq_neg_one_of_neg (of_decide_eq_true c2)] at k
        exact s_ret (ev_neg ev_c) fun H3 e3 => k.go ((e.trans e2).trans e3)
      · have c := of_decide_eq_false c
        have c2 := of_decide_eq_false c2
        have e0 : b = 0 := by omega
        subst e0
        exact s_ret ev_c fun H3 e3 => k.go ((e.trans e2).trans e3)

/-! what is refused -/
def sp_all_finite (K : PySem.W.Frag) : Sp := fun vs H Q _ => ∃ (a : Addr) (ns : List Int), vs = [.ref a] ∧ IL K H a ns ∧ ns.length ≤ 40000 ∧ RetV (.bl (ns.all isFin)) H Q
theorem sv_all_finite {a : Addr} {ns : List Int} {H : Hp} (h1 : IL K H a ns) (h2 : ns.length ≤ 40000) : SpV (sp_all_finite K) [.ref a] H (.bl (ns.all isFin)) := fun _ e _ q _ => ⟨a, ns, rfl, ex_l e h1, h2, q⟩
theorem sc_all_finite : FnScope ["numbers", "bits"] ["numbers"] (defScope s_all_finite) := ⟨rfl, rfl, rfl, by decide +kernel, rfl, by decide +kernel, by decide +kernel⟩
theorem ok_all_finite {f : Addr} {fd : FuncData} (F : Fun K "all_finite" "all_finite" s_all_finite f fd) (h1 : Has P w K mg base 1 "is_finite" ["bits"] sp_is_finite) (bA : mg "all" = none) : FnOk P w K mg base CX0 2 f fd ["numbers"] (sp_all_finite K) := by
  refine F.ok sc_all_finite (fun vs H Q E h => ?_) (fun cdv A outer s H vs Q E hr h => ?_)
  · obtain ⟨a, ns, rfl, _⟩ := h
    rfl
  · obtain ⟨a, ns, rfl, hS, hl, k⟩ := h
    refine ⟨_, pss_one (ps_ret (pe_callB (cr_all rfl) (by rfl) bA (by decide +kernel) (pa_cons (pe_lc (own := [("bits", 1)]) (g := gName 1) (tt := tYes) rfl sc_all_finite.nd (pi_list (pv 0)) (blkOk_by (own := [("bits", 1)]) (N := ["numbers", "bits"]) (sc := defScope s_all_finite) (by decide +kernel))
      (fun _ _ _ _ _ => pg_name (i := 1) sc_all_finite.nd rfl (Or.inl rfl)) (fun _ _ _ _ _ => pts_nil) (fun _ _ _ _ _ => pe_callH h1 hr (pa_cons (pv 1) pa_nil))) pa_nil))), ?_⟩
    have e0 : ns.all isFin = (ns.map isFin).all id := by rw [List.all_map]; rfl
    rw [e0] at k
    have el := el_ints (V.bl ∘ isFin) (j := 1) (te := tCall sp_is_finite [] E0 (tCons (tVar 1) tNil)) (vs := [1]) (tl := tVar 0) (σ := start ["numbers", "bits"] [.ref a]) (ev_var rfl) hS hl (fun x => rfl) fun n hm H1 e => ev_call (ea_cons (ev_var rfl) ea_nil) sv_is_finite
    rw [← List.map_map] at el
    exact s_ret (ev_cbL el fun p H1 e hp => rc_all (sq_of hp)) fun H1 e => k.go e
/-! classes: in common -/
theorem lk_here {k : Str} {v : V} {r : List (Str × V)} : List.lookup k ((k, v) :: r) = some v := by
  have e : (k == k) = true := beq_self_eq_true k
  simp only [List.lookup, e]
theorem lk_past {k g : Str} {v : V} {r : List (Str × V)} (h : (k == g) = false) : List.lookup k ((g, v) :: r) = List.lookup k r := by
  simp only [List.lookup, h]
theorem put_past {f g : Str} {v x : V} {r : List (Str × V)} (h : ¬ g = f) : putF f v ((g, x) :: r) = (g, x) :: putF f v r := if_neg h
theorem pow_up {n k : Nat} (h : n < 2 ^ k) (hk : k ≤ 100000) : n < 2 ^ 100000 := Nat.lt_of_lt_of_le h (Nat.pow_le_pow_right (by decide) hk)
def sp_side (N : Hp → Addr → Side → Prop) : Sp := fun vs H Q _ => ∃ (a : Addr) (m : Int) (s : Nat) (sd : Side), vs = [.ref a, .int m, .int (s : Int)] ∧ N H a sd ∧ m.natAbs < 2 ^ 55 ∧ s ≤ 2048 ∧ RetV (.int (sd m s)) H Q
theorem sign_abs (b : Int) : b.sign.natAbs < 2 ^ 1 := by
  rcases Int.lt_trichotomy b 0 with h | h | h
  · rw [Int.sign_eq_neg_one_of_neg h]; decide
  · rw [h]; decide
  · rw [Int.sign_eq_one_of_pos h]; decide
/-! a ratio: the class -/
def rF (t b : Int) : List (Str × V) := [("top", .int t), ("bottom", .int b)]
def RatioAt (C : Addr) (t b : Int) : V → Hp → Prop := fun v H => ∃ a dx, v = .ref a ∧ H a = some (.ins C dx (rF t b))
theorem RatioAt.st {C : Addr} {t b : Int} : St1 (RatioAt C t b) := fun _ _ _ e ⟨a, dx, h1, h2⟩ => ⟨a, dx, h1, e a _ h2⟩
theorem rF_top (t b : Int) : (rF t b).lookup ("top" : Str) = some (.int t) := lk_here
theorem rF_bottom (t b : Int) : (rF t b).lookup ("bottom" : Str) = some (.int b) := (lk_past (by decide +kernel)).trans lk_here
theorem rF_side (t b : Int) : (rF t b).lookup ("side" : Str) = none := (lk_past (by decide +kernel)).trans ((lk_past (by decide +kernel)).trans rfl)
theorem rF_new (t b : Int) : putF "bottom" (.int b) (putF "top" (.int t) []) = rF t b := (put_past (by decide +kernel)).trans rfl
structure TxtRatio (K : PySem.W.Frag) (C : Addr) : Prop where
  cl : Cls K C
  nT : NoAttr K C "top"
  nB : NoAttr K C "bottom"
def sp_Ratio_init (C : Addr) : Sp := fun vs H Q _ => ∃ (p dx : Addr) (t b : Int), vs = [.ref p, .int t, .int b] ∧ H p = some (.ins C dx []) ∧
  ∀ H' : Hp, H' p = some (.ins C dx (rF (t * b.sign) (b.natAbs : Int))) → (∀ c o, H c = some o → c ≠ p → H' c = some o) → Q .non H'
theorem sc_Ratio_init : FnScope ["self", "top", "bottom"] ["self", "top", "bottom"] (defScope s_Ratio___init__) := ⟨rfl, rfl, rfl, by decide +kernel, rfl, by decide +kernel, by decide +kernel⟩
theorem cmul_sign (t b : Int) : CMul t b.sign := .inr (by have := sign_abs b; omega)
theorem ok_Ratio_init {C : Addr} {f : Addr} {fd : FuncData} (F : Fun K "__init__" "Ratio.__init__" s_Ratio___init__ f fd) (T : TxtRatio K C) (h1 : Has P w K mg base 1 "sign" ["number"] sp_sign) (bA : mg "abs" = none) : FnOk P w K mg base CX0 2 f fd ["self", "top", "bottom"] (sp_Ratio_init C) := by
  refine F.ok sc_Ratio_init (fun vs H Q E h => ?_) (fun cdv A outer s H vs Q E hr h => ?_)
  · obtain ⟨p, dx, t, b, rfl, _⟩ := h
    rfl
  · obtain ⟨p, dx, t, b, rfl, hp, k⟩ := h
    refine ⟨_, pss_cons (ps_fld (pv 0) (pe_op op_mul (pv 1) (pe_callH h1 hr (pa_cons (pv 2) pa_nil))) rfl)
      (pss_one (ps_fld (pv 0) (pe_callB call_abs (by rfl) bA (by decide +kernel) (pa_cons (pv 2) pa_nil)) rfl)), ?_⟩
    refine (ev_op (ev_var (v := .int t) rfl) (ev_call (ea_cons (ev_var rfl) ea_nil) (sv_sign (b := b))) (rv_I (cmul_sign t b))) H (Ex.refl H) _ fun H1 e1 => ?_
    refine ⟨_, rfl, p, C, dx, [], rfl, e1 _ _ hp, T.cl, T.nT, (by show 0 < 1000; decide), ?_⟩
    refine ⟨_, rfl, b, rfl, _, rfl, p, C, dx, _, rfl, upd_same, T.cl, T.nB, (by show 1 < 1000; decide), ?_⟩
    have e0 : (if b < 0 then -b else b) = (b.natAbs : Int) := by split <;> omega
    rw [e0]
    exact k _ (Eq.trans upd_same (congrArg (fun q => some (HO.ins C dx q)) (rF_new _ _))) fun c o hc hb => by
      rw [upd_ne hb, upd_ne hb]
      exact e1 _ _ hc
/-- a number that a class keeps -/
structure RatioNum (C : Addr) (H : Hp) (a : Addr) (sd : Side) : Prop where
  ex : ∃ t b dx, H a = some (.ins C dx (rF t b)) ∧ sd = ratioSide t b ∧ b.natAbs < 2 ^ 100000
theorem sc_Ratio_side : FnScope ["self", "m", "s"] ["self", "m", "s"] (defScope s_Ratio_side) := ⟨rfl, rfl, rfl, by decide +kernel, rfl, by decide +kernel, by decide +kernel⟩
theorem ok_Ratio_side {C : Addr} {f : Addr} {fd : FuncData} (F : Fun K "side" "Ratio.side" s_Ratio_side f fd) (T : TxtRatio K C) (h1 : Has P w K mg base 1 "sign" ["number"] sp_sign) : FnOk P w K mg base CX0 2 f fd ["self", "m", "s"] (sp_side (RatioNum C)) := by
  refine F.ok sc_Ratio_side (fun vs H Q E h => ?_) (fun cdv A outer s H vs Q E hr h => ?_)
  · obtain ⟨a, m, s, sd, rfl, _⟩ := h
    rfl
  · obtain ⟨a, m, s, sd, rfl, ⟨t, b, dx, ha, rfl, hb⟩, hm, hs, k⟩ := h
    refine ⟨_, pss_one (ps_ret (pe_callH h1 hr (pa_cons (pe_op op_sub (pe_fld (pv 0) rfl) (pe_op op_shlN (pe_op op_mulX (pe_fld (pv 0) rfl) (pv 1)) (pv 2))) pa_nil))), ?_⟩
    have ft : Ev (tFld K (tVar 0) "top") (start ["self", "m", "s"] [.ref a, .int m, .int (s : Int)]) H (.int t) := fun H1 e Q q => ⟨_, rfl, a, C, dx, _, _, rfl, e _ _ ha, T.cl, T.nT, rF_top t b, q H1 (Ex.refl H1)⟩
    have fb : Ev (tFld K (tVar 0) "bottom") (start ["self", "m", "s"] [.ref a, .int m, .int (s : Int)]) H (.int b) := fun H1 e Q q => ⟨_, rfl, a, C, dx, _, _, rfl, e _ _ ha, T.cl, T.nB, rF_bottom t b, q H1 (Ex.refl H1)⟩
    have hw := wide_lt hb hm
    exact s_ret (ev_call (ea_cons (ev_sub ft (ev_shl (ev_mul fb (ev_var rfl) hb hm (by decide)) (ev_var rfl) (shl_ok hw (by show 100000 + 55 + s ≤ 134217728; omega)))) ea_nil) sv_sign) fun H1 e => k.go e
theorem RatioNum.st {C : Addr} {H H' : Hp} {a : Addr} {sd : Side} (e : Ex H H') (h : RatioNum C H a sd) : RatioNum C H' a sd := by
  obtain ⟨t, b, dx, h1, h2, h3⟩ := h
  exact ⟨t, b, dx, e _ _ h1, h2, h3⟩
theorem RatioNum.ins {C : Addr} {H : Hp} {a : Addr} {sd : Side} (h : RatioNum C H a sd) : ∃ dx fs, H a = some (.ins C dx fs) ∧ fs.lookup ("side" : Str) = none := by
  obtain ⟨t, b, dx, h1, h2, h3⟩ := h
  exact ⟨dx, _, h1, rF_side t b⟩
theorem ep_Ratio {C : Addr} {σ : L2.St} {H : Hp} {ta : TA} {t b : Int} (h : EvA ta σ H [.int t, .int b]) : EvP (tMake C (sp_Ratio_init C) [] E0 ta) σ H (RatioAt C (t * b.sign) (b.natAbs : Int)) := fun H1 e Q q =>
  h H1 e _ fun H2 e2 => fun x dx hx hdx hne => ⟨x, dx, t, b, rfl, upd_same, fun H' hp hk => ⟨rfl, q _ H' (fun c o hc => hk c o (by
    have hc2 := e2 c o hc
    rw [upd_ne (ne_of_none hc2 hx), upd_ne (ne_of_none hc2 hdx)]
    exact hc2) (ne_of_none (e2 c o hc) hx)) ⟨x, dx, rfl, by rw [Fr.new (fresh_back e2 hx)]; exact hp⟩⟩⟩

/-! rounding -/
structure NumOk (P : Program) (w : World) (K : PySem.W.Frag) (mg : Str → Option Value) (base : Heap) (C : Addr) (N : Hp → Addr → Side → Prop) (kS : Nat) (pl : Prop) : Prop where
  cl : Cls K C
  meth : ∃ (f : Addr) (fd : FuncData), Meth K C "side" f ∧ FnOk P w K mg base CX0 kS f fd ["self", "m", "s"] (sp_side N) ∧ Binds K fd ["self", "m", "s"] []
  st : ∀ {H H' : Hp} {a : Addr} {sd : Side}, Ex H H' → N H a sd → N H' a sd
  ins : ∀ {H : Hp} {a : Addr} {sd : Side}, N H a sd → ∃ dx fs, H a = some (.ins C dx fs) ∧ fs.lookup ("side" : Str) = none
section
variable {C : Addr} {N : Hp → Addr → Side → Prop}
theorem ev_side {kS : Nat} {pl : Prop} {σ : L2.St} {H : Hp} {ta : TE} {t : TA} {a : Addr} {sd : Side} {m : Int} {s : Nat} (T : NumOk P w K mg base C N kS pl) (ho : Ev ta σ H (.ref a)) (ha : EvA t σ H [.int m, .int (s : Int)]) (hN : N H a sd) (hm : m.natAbs < 2 ^ 55) (hs : s ≤ 2048) :
    Ev (tMeth C "side" (sp_side N) [] E0 ta t) σ H (.int (sd m s)) := fun H1 e Q q => ho H1 e _ fun H2 e2 => by
  obtain ⟨dx, fs, h1, h2⟩ := T.ins (T.st (e.trans e2) hN)
  exact ⟨a, dx, fs, rfl, h1, h2, ha H2 (e.trans e2) _ fun H3 e3 => ⟨a, m, s, sd, rfl, T.st ((e.trans e2).trans e3) hN, hm, hs, fun H4 e4 => q H4 ((e2.trans e3).trans e4)⟩⟩
theorem nbr_in (sd : Side) : ∀ (f : Nat) (lo hi : Int), lo < hi → lo ≤ (nbr sd f lo hi).1 ∧ (nbr sd f lo hi).1 < hi
  | 0, lo, hi, h => ⟨Int.le_refl _, h⟩
  | f + 1, lo, hi, h => by
    unfold nbr
    by_cases c : hi - lo > 1
    · rw [if_pos c]
      dsimp only
      generalize hp : (lo + hi) / 2 = p
      split
      · exact ⟨by show lo ≤ p; omega, by show p < hi; omega⟩
      · split
        · have := nbr_in sd f lo p (by omega)
          omega
        · have := nbr_in sd f p hi (by omega)
          omega
    · rw [if_neg c]
      exact ⟨Int.le_refl _, h⟩
theorem nbr_end (sd : Side) (f : Nat) {lo hi : Int} (h : ¬ hi - lo > 1) : nbr sd f lo hi = (lo, hi) := by
  cases f with
  | zero => rfl
  | succ f => unfold nbr; rw [if_neg h]
def sp_neighbours (N : Hp → Addr → Side → Prop) : Sp := fun vs H Q _ => ∃ (a : Addr) (sd : Side), vs = [.ref a] ∧ N H a sd ∧ RetU [.int (neighbours sd).1, .int (neighbours sd).2] H Q
theorem sc_neighbours : FnScope ["number", "low", "high", "place", "m", "s", "side"] ["number"] (defScope s_neighbours) := ⟨rfl, rfl, rfl, by decide +kernel, rfl, by decide +kernel, by decide +kernel⟩
theorem ok_neighbours {f : Addr} {fd : FuncData} (F : Fun K "neighbours" "neighbours" s_neighbours f fd) (T : NumOk P w K mg base C N 8 True) (h1 : Has P w K mg base 1 "point_at" ["place"] sp_point_at) (cI : CI mg "INFINITE" INF) : FnOk P w K mg base CX0 9 f fd ["number"] (sp_neighbours N) := by
  obtain ⟨fS, fdS, mS, FS, bS⟩ := T.meth
  refine F.ok sc_neighbours (fun vs H Q E h => ?_) (fun cdv A outer s H vs Q E hr h => ?_)
  · obtain ⟨a, sd, rfl, _⟩ := h
    rfl
  · obtain ⟨a, sd, rfl, hN, k⟩ := h
    refine ⟨_, pss_cons (ps_set (i := 1) sc_neighbours.nd rfl (.inl rfl) (pe_un un_neg (pe_ci cI)))
      (pss_cons (ps_set (i := 2) sc_neighbours.nd rfl (.inl rfl) (pe_ci cI))
      (pss_cons (ps_while PassesOwn.never (pt_cmpR op_gt (pe_op op_sub (pv 2) (pv 1)) pe_int (nomark _))
        (pss_cons (ps_set (i := 3) sc_neighbours.nd rfl (.inl rfl) (pe_op op_fdiv (pe_op op_add (pv 1) (pv 2)) pe_int))
        (pss_cons (ps_asg (pe_callH h1 hr (pa_cons (pv 3) pa_nil)) (pg_tup (by rfl) (pgs_cons (pg_name (i := 4) sc_neighbours.nd rfl (.inl rfl)) (pgs_cons (pg_name (i := 5) sc_neighbours.nd rfl (.inl rfl)) pgs_nil))))
        (pss_cons (ps_set (i := 6) sc_neighbours.nd rfl (.inl rfl) (pe_meth (pv 0) T.cl mS FS hr bS .nil pass0 (pa_cons (pv 4) (pa_cons (pv 5) pa_nil))))
        (pss_cons (ps_if (pt_cmpR op_eq (pv 6) pe_int (nomark _)) (pss_one (ps_ret (pe_tup (pa_cons (pv 3) (pa_cons (pv 3) pa_nil))))) pss_nil)
        (pss_one (ps_if (pt_cmpR op_lt (pv 6) pe_int (nomark _)) (pss_one (ps_set (i := 2) sc_neighbours.nd rfl (.inl rfl) (pv 3))) (pss_one (ps_set (i := 1) sc_neighbours.nd rfl (.inl rfl) (pv 3))))))))))
      (pss_one (ps_ret (pe_tup (pa_cons (pv 1) (pa_cons (pv 2) pa_nil))))))), ?_⟩
    refine q_asg (ev_neg ev_c) fun H1 e1 => q_asg ev_c fun H2 e2 => ?_
    refine q_while (fun m σ' H' => ∃ (lo hi : Int) (v3 v4 v5 v6 : Option V), σ' = [some (.ref a), some (.int lo), some (.int hi), v3, v4, v5, v6] ∧ Ex H H' ∧ -INF ≤ lo ∧ hi ≤ INF ∧ lo < hi ∧ hi - lo ≤ 2 ^ m ∧ nbr sd m lo hi = neighbours sd) 66
      ⟨-INF, INF, none, none, none, none, rfl, e1.trans e2, Int.le_refl _, Int.le_refl _, by decide, by decide, rfl⟩ ?_
    rintro m σ' H' ⟨lo, hi, v3, v4, v5, v6, rfl, e3, b1, b2, b3, b4, b5⟩
    refine ⟨_, et_test (ev_op (ev_sub (ev_var rfl) (ev_var rfl)) ev_c rv_I0), fun c H4 e4 => ?_, fun c H4 e4 => ?_⟩
    · have c := of_decide_eq_true c
      obtain ⟨m', rfl⟩ : ∃ m', m = m' + 1 := by
        cases m with
        | zero =>
          have : hi - lo ≤ 1 := b4
          omega
        | succ m' => exact ⟨m', rfl⟩
      have hp2 : (2 : Int) ^ (m' + 1) = 2 ^ m' * 2 := Int.pow_succ ..
      rw [hp2] at b4
      unfold nbr at b5
      rw [if_pos c] at b5
      dsimp only at b5
      refine ⟨fun σ2 H2 => ∃ (lo hi : Int) (v3 v4 v5 v6 : Option V), σ2 = [some (.ref a), some (.int lo), some (.int hi), v3, v4, v5, v6] ∧ Ex H H2 ∧ -INF ≤ lo ∧ hi ≤ INF ∧ lo < hi ∧ hi - lo ≤ 2 ^ m' ∧ nbr sd m' lo hi = neighbours sd, fun σ2 H2 h => ⟨m', Nat.lt_succ_self _, h⟩, ?_⟩
      refine q_asg (ev_op (ev_add (ev_var rfl) (ev_var rfl)) ev_c (rv_I ⟨by decide, by decide⟩)) fun H5 e5 => ?_
      generalize hpl : (lo + hi) / 2 = pl at b5 ⊢
      have hb1 : lo < pl := by omega
      have hb2 : pl < hi := by omega
      have hpa : pl.natAbs < 9223372036854775809 := by unfold INF at b1 b2; omega
      refine q_unp (eu_call (ea_cons (ev_var rfl) ea_nil) su_point_at) fun H6 e6 => ?_
      have e06 : Ex H H6 := ((e3.trans e4).trans e5).trans e6
      refine q_asg (ev_side T (ev_var rfl) (ea_cons (ev_var rfl) (ea_cons (ev_var rfl) ea_nil)) (T.st e06 hN) (Nat.lt_trans (natAbs_pA pl) (by decide)) (pS_le hpa)) fun H7 e7 => ?_
      generalize ht : sd (pM pl) (pS pl) = t at b5 ⊢
      refine q_when (et_test (ev_op (ev_var rfl) ev_c (rv_eq rfl))) (fun c2 H8 e8 => ?_) (fun c2 H8 e8 => ?_)
      · have c2 : t = 0 := by simpa using c2
        rw [if_pos c2] at b5
        rw [← b5] at k
        exact s_retU (eu_tup (ea_cons (ev_var rfl) (ea_cons (ev_var rfl) ea_nil)) len2) fun p H9 hp e9 h9 => k.go ((e06.trans e7).trans e8) hp e9 h9
      · have c2 : ¬ t = 0 := by simpa using c2
        rw [if_neg c2] at b5
        refine s_if (et_test (ev_op (ev_var rfl) ev_c rv_I0)) (fun c3 H9 e9 => ?_) (fun c3 H9 e9 => ?_)
        · rw [if_pos (of_decide_eq_true c3)] at b5
          exact s_asg (ev_var rfl) fun H10 e10 => ⟨lo, pl, _, _, _, _, rfl, (((e06.trans e7).trans e8).trans e9).trans e10, b1, by omega, hb1, by omega, b5⟩
        · rw [if_neg (of_decide_eq_false c3)] at b5
          exact s_asg (ev_var rfl) fun H10 e10 => ⟨pl, hi, _, _, _, _, rfl, (((e06.trans e7).trans e8).trans e9).trans e10, by omega, b2, hb2, by omega, b5⟩
    · have c := of_decide_eq_false c
      rw [nbr_end sd m (by omega)] at b5
      rw [← b5] at k
      exact s_retU (eu_tup (ea_cons (ev_var rfl) (ea_cons (ev_var rfl) ea_nil)) len2) fun p H9 hp e9 h9 => k.go (e3.trans e4) hp e9 h9
def sp_goes_up (N : Hp → Addr → Side → Prop) : Sp := fun vs H Q _ => ∃ (mode : Int) (a : Addr) (lo : Int) (sd : Side), vs = [.int mode, .ref a, .int lo] ∧ N H a sd ∧ -INF ≤ lo ∧ lo < INF ∧ RetV (.bl (goesUp mode sd lo)) H Q
theorem sc_goes_up : FnScope ["mode", "number", "low", "m", "s", "side"] ["mode", "number", "low"] (defScope s_goes_up) := ⟨rfl, rfl, rfl, by decide +kernel, rfl, by decide +kernel, by decide +kernel⟩
theorem ok_goes_up {f : Addr} {fd : FuncData} (F : Fun K "goes_up" "goes_up" s_goes_up f fd) (T : NumOk P w K mg base C N 8 True) (h1 : Has P w K mg base 2 "middle_above" ["place"] sp_middle_above) : FnOk P w K mg base CX0 9 f fd ["mode", "number", "low"] (sp_goes_up N) := by
  obtain ⟨fS, fdS, mS, FS, bS⟩ := T.meth
  refine F.ok sc_goes_up (fun vs H Q E h => ?_) (fun cdv A outer s H vs Q E hr h => ?_)
  · obtain ⟨mode, a, lo, sd, rfl, _⟩ := h
    rfl
  · obtain ⟨mode, a, lo, sd, rfl, hN, b1, b2, k⟩ := h
    refine ⟨_, pss_cons (ps_if (pt_cmpR op_eq (pv 0) pe_int (nomark _)) (pss_one (ps_ret pe_bl)) pss_nil)
      (pss_cons (ps_if (pt_cmpR op_eq (pv 0) pe_int (nomark _)) (pss_one (ps_ret pe_bl)) pss_nil)
      (pss_cons (ps_if (pt_cmpR op_eq (pv 0) pe_int (nomark _)) (pss_one (ps_ret (pe_cmp (pc_lt (pv 2) pe_int) rfl))) pss_nil)
      (pss_cons (ps_asg (pe_callH h1 hr (pa_cons (pv 2) pa_nil)) (pg_tup (by rfl) (pgs_cons (pg_name (i := 3) sc_goes_up.nd rfl (.inl rfl)) (pgs_cons (pg_name (i := 4) sc_goes_up.nd rfl (.inl rfl)) pgs_nil))))
      (pss_cons (ps_set (i := 5) sc_goes_up.nd rfl (.inl rfl) (pe_meth (pv 1) T.cl mS FS hr bS .nil pass0 (pa_cons (pv 3) (pa_cons (pv 4) pa_nil))))
      (pss_cons (ps_if (pt_cmpR op_eq (pv 5) pe_int (nomark _)) (pss_one (ps_ret (pe_cmp (pc_eqI (pe_op op_mod (pv 2) pe_int) pe_int) rfl))) pss_nil)
      (pss_one (ps_ret (pe_cmp (pc_gt (pv 5) pe_int) rfl)))))))), ?_⟩
    unfold goesUp at k
    refine q_when (et_test (ev_op (ev_var rfl) ev_c (rv_eq rfl))) (fun c H1 e1 => ?_) (fun c H1 e1 => ?_)
    · have c : mode = 1 := by simpa using c
      rw [if_pos c] at k
      exact s_ret ev_c fun H2 e2 => k.go (e1.trans e2)
    have c : ¬ mode = 1 := by simpa using c
    rw [if_neg c] at k
    refine q_when (et_test (ev_op (ev_var rfl) ev_c (rv_eq rfl))) (fun c2 H2 e2 => ?_) (fun c2 H2 e2 => ?_)
    · have c2 : mode = 2 := by simpa using c2
      rw [if_pos c2] at k
      exact s_ret ev_c fun H3 e3 => k.go ((e1.trans e2).trans e3)
    have c2 : ¬ mode = 2 := by simpa using c2
    rw [if_neg c2] at k
    refine q_when (et_test (ev_op (ev_var rfl) ev_c (rv_eq rfl))) (fun c3 H3 e3 => ?_) (fun c3 H3 e3 => ?_)
    · have c3 : mode = 3 := by simpa using c3
      rw [if_pos c3] at k
      exact s_ret (ev_cmp (ev_var rfl) ev_c) fun H4 e4 => k.go (((e1.trans e2).trans e3).trans e4)
    have c3 : ¬ mode = 3 := by simpa using c3
    rw [if_neg c3] at k
    refine q_unp (eu_call (ea_cons (ev_var rfl) ea_nil) su_middle_above) fun H4 e4 => ?_
    have e04 : Ex H H4 := ((e1.trans e2).trans e3).trans e4
    have hm : (midM lo).natAbs < 2 ^ 55 := by
      have h1 := natAbs_pA lo
      have h2 := natAbs_pA (lo + 1)
      unfold midM
      split <;> omega
    have hs : midS lo ≤ 2048 := by
      unfold INF at b1 b2
      unfold midS
      split
      · have := pS_le (pl := lo) (by omega)
        omega
      · have := pS_le (pl := lo + 1) (by omega)
        omega
    refine q_asg (ev_side T (ev_var rfl) (ea_cons (ev_var rfl) (ea_cons (ev_var rfl) ea_nil)) (T.st e04 hN) hm hs) fun H5 e5 => ?_
    generalize sd (midM lo) (midS lo) = t at k ⊢
    refine q_when (et_test (ev_op (ev_var rfl) ev_c (rv_eq rfl))) (fun c6 H6 e6 => ?_) (fun c6 H6 e6 => ?_)
    · have c6 : t = 0 := by simpa using c6
      rw [if_pos c6] at k
      exact s_ret (ev_cmp (ev_op (ev_var rfl) ev_c (rv_I (by decide))) ev_c) fun H7 e7 => k.go (((e04.trans e5).trans e6).trans e7)
    · have c6 : ¬ t = 0 := by simpa using c6
      rw [if_neg c6] at k
      exact s_ret (ev_cmp (ev_var rfl) ev_c) fun H7 e7 => k.go (((e04.trans e5).trans e6).trans e7)
def sp_rounded (N : Hp → Addr → Side → Prop) : Sp := fun vs H Q _ => ∃ (mode : Int) (a : Addr) (sd : Side), vs = [.int mode, .ref a] ∧ N H a sd ∧ RetL ((rounded mode sd).map V.int) H Q
theorem sc_rounded : FnScope ["mode", "number", "low", "high"] ["mode", "number"] (defScope s_rounded) := ⟨rfl, rfl, rfl, by decide +kernel, rfl, by decide +kernel, by decide +kernel⟩
theorem ok_rounded {f : Addr} {fd : FuncData} (F : Fun K "rounded" "rounded" s_rounded f fd) (T : NumOk P w K mg base C N 8 True) (h1 : Has P w K mg base 9 "neighbours" ["number"] (sp_neighbours N)) (h2 : Has P w K mg base 9 "goes_up" ["mode", "number", "low"] (sp_goes_up N))
    (h3 : Has P w K mg base 1 "bits_of_lower" ["place"] sp_bits_of_lower) (h4 : Has P w K mg base 1 "bits_of_upper" ["place"] sp_bits_of_upper) : FnOk P w K mg base CX0 10 f fd ["mode", "number"] (sp_rounded N) := by
  refine F.ok sc_rounded (fun vs H Q E h => ?_) (fun cdv A outer s H vs Q E hr h => ?_)
  · obtain ⟨mode, a, sd, rfl, _⟩ := h
    rfl
  · obtain ⟨mode, a, sd, rfl, hN, k⟩ := h
    refine ⟨_, pss_cons (ps_asg (pe_callH h1 hr (pa_cons (pv 1) pa_nil)) (pg_tup (by rfl) (pgs_cons (pg_name (i := 2) sc_rounded.nd rfl (.inl rfl)) (pgs_cons (pg_name (i := 3) sc_rounded.nd rfl (.inl rfl)) pgs_nil))))
      (pss_cons (ps_if (pt_cmpR op_eq (pv 2) (pv 3) (nomark _)) (pss_one (ps_ret (pe_lst (pa_cons (pe_callH h3 hr (pa_cons (pv 2) pa_nil)) (pa_cons pe_int pa_nil))))) pss_nil)
      (pss_cons (ps_if (pt_val (pe_callH h2 hr (pa_cons (pv 0) (pa_cons (pv 1) (pa_cons (pv 2) pa_nil))))) (pss_one (ps_ret (pe_lst (pa_cons (pe_callH h4 hr (pa_cons (pv 3) pa_nil)) (pa_cons pe_int pa_nil))))) pss_nil)
      (pss_one (ps_ret (pe_lst (pa_cons (pe_callH h3 hr (pa_cons (pv 2) pa_nil)) (pa_cons pe_int pa_nil))))))), ?_⟩
    have hin : -INF ≤ (neighbours sd).1 ∧ (neighbours sd).1 < INF := nbr_in sd 66 (-INF) INF (by decide)
    unfold rounded at k
    dsimp only at k
    refine q_unp (eu_call (vs := [.ref a]) (xs := [.int (neighbours sd).1, .int (neighbours sd).2]) (ea_cons (ev_var rfl) ea_nil) fun H1 e _ q _ => ⟨a, sd, rfl, T.st e hN, q⟩) fun H1 e1 => ?_
    generalize neighbours sd = n at k hin ⊢
    refine q_when (et_test (ev_op (ev_var rfl) (ev_var rfl) (rv_eq rfl))) (fun c2 H2 e2 => ?_) (fun c2 H2 e2 => ?_)
    · have c2 : n.1 = n.2 := by simpa using c2
      rw [if_pos c2] at k
      exact s_retL (el_lst (ea_cons (ev_call (ea_cons (ev_var rfl) ea_nil) sv_bits_of_lower) (ea_cons ev_c ea_nil)) len2) fun p H3 hp e3 h3 => k.go (e1.trans e2) hp e3 h3
    have c2 : ¬ n.1 = n.2 := by simpa using c2
    rw [if_neg c2] at k
    refine q_when (et_B (ev_call (vs := [.int mode, .ref a, .int n.1]) (z := .bl (goesUp mode sd n.1)) (ea_cons (ev_var rfl) (ea_cons (ev_var rfl) (ea_cons (ev_var rfl) ea_nil))) fun H1' e _ q _ => ⟨mode, a, n.1, sd, rfl, T.st ((e1.trans e2).trans e) hN, hin.1, hin.2, q⟩)) (fun c3 H3 e3 => ?_) (fun c3 H3 e3 => ?_)
    · rw [if_pos c3] at k
      exact s_retL (el_lst (ea_cons (ev_call (ea_cons (ev_var rfl) ea_nil) sv_bits_of_upper) (ea_cons ev_c ea_nil)) len2) fun p H4 hp e4 h4 => k.go ((e1.trans e2).trans e3) hp e4 h4
    · rw [if_neg (by rw [c3]; decide)] at k
      exact s_retL (el_lst (ea_cons (ev_call (ea_cons (ev_var rfl) ea_nil) sv_bits_of_lower) (ea_cons ev_c ea_nil)) len2) fun p H4 hp e4 h4 => k.go ((e1.trans e2).trans e3) hp e4 h4
theorem rounded_len (mode : Int) (sd : Side) : (rounded mode sd).length = 2 := by
  unfold rounded
  dsimp only
  split
  · rfl
  · split <;> rfl
theorem answer_len (mode : Int) (l : List Side) : (answer mode l).length = 1 + 2 * l.length := by
  rw [answer_eq]
  have : ∀ l : List Side, (l.flatMap (rounded mode)).length = 2 * l.length := by
    intro l
    induction l with
    | nil => rfl
    | cons x r ih => rw [List.flatMap_cons, List.length_append, ih, rounded_len, List.length_cons]; omega
  rw [List.length_cons, this]
  omega
theorem take_snoc {α : Type} : ∀ {l : List α} {i : Nat} {x : α}, l[i]? = some x → l.take (i + 1) = l.take i ++ [x]
  | [], i, x, h => by simp at h
  | a :: l, 0, x, h => by
    have e : a = x := Option.some.inj h
    subst e
    rfl
  | a :: l, i + 1, x, h => by
    have ih := take_snoc (l := l) (i := i) (x := x) h
    show a :: l.take (i + 1) = a :: l.take i ++ [x]
    rw [ih]
    rfl
theorem answer_snoc (mode : Int) (l : List Side) (sd : Side) : answer mode (l ++ [sd]) = answer mode l ++ rounded mode sd := by
  unfold answer
  rw [List.foldl_append]
  rfl
/-- the list at l holds the numbers sds -/
def NumsAt (K : PySem.W.Frag) (N : Hp → Addr → Side → Prop) (H : Hp) (l : Addr) (sds : List Side) : Prop := ∃ as : List Addr, SqL K H l (as.map V.ref) ∧ as.length = sds.length ∧ ∀ (i : Nat) (a : Addr) (sd : Side), as[i]? = some a → sds[i]? = some sd → N H a sd
def sp_answer (K : PySem.W.Frag) (N : Hp → Addr → Side → Prop) : Sp := fun vs H Q _ => ∃ (mode : Int) (l : Addr) (sds : List Side), vs = [.int mode, .ref l] ∧ NumsAt K N H l sds ∧ sds.length ≤ 1000 ∧ RetL ((answer mode sds).map V.int) H Q
theorem sc_answer : FnScope ["mode", "numbers", "told", "number"] ["mode", "numbers"] (defScope s_answer) := ⟨rfl, rfl, rfl, by decide +kernel, rfl, by decide +kernel, by decide +kernel⟩
theorem ok_answer {f : Addr} {fd : FuncData} (F : Fun K "answer" "answer" s_answer f fd) (T : NumOk P w K mg base C N 8 True) (h1 : Has P w K mg base 10 "rounded" ["mode", "number"] (sp_rounded N)) : FnOk P w K mg base CX0 11 f fd ["mode", "numbers"] (sp_answer K N) := by
  refine F.ok sc_answer (fun vs H Q E h => ?_) (fun cdv A outer s H vs Q E hr h => ?_)
  · obtain ⟨mode, a, sds, rfl, _⟩ := h
    rfl
  · obtain ⟨mode, l, sds, rfl, ⟨as, hS, hl, hN⟩, hlen, k⟩ := h
    refine ⟨_, pss_cons (ps_set (i := 2) sc_answer.nd rfl (.inl rfl) (pe_lst (pa_cons pe_int pa_nil)))
      (pss_cons (ps_for PassesOwn.never rfl (pi_list (pv 1)) (pg_name (i := 3) sc_answer.nd rfl (Or.inl rfl))
        (pss_one (ps_expr (pe_bm PySem.F.plainAttrs_list PySem.F.slot_list_extend PySem.F.type_list_extend mt_extend (pv 2) (pa_cons (pe_callH h1 hr (pa_cons (pv 0) (pa_cons (pv 3) pa_nil))) pa_nil)))))
      (pss_one (ps_ret (pv 2)))), ?_⟩
    refine q_asgL (el_lst (ea_cons ev_c ea_nil) len1) fun q H1 hq e1 hq1 => ?_
    refine q_forL (ev_var rfl) (ex_l e1 hS) (fun i σ' H' => ∃ v : Option V, σ' = [some (.int mode), some (.ref l), some (.ref q), v] ∧ Ex H H' ∧ H' q = some (.lst ((answer mode (sds.take i)).map V.int)))
      (fun H2 e2 => ⟨none, rfl, e1.trans e2, e2 _ _ hq1⟩) (fun i σ' H' _ ⟨_, _, e, _⟩ => ex_l e hS) ?_ ?_
    · rintro i x σ' H' hi ⟨v, rfl, e, hq'⟩
      rw [List.getElem?_map] at hi
      obtain ⟨a, ha, rfl⟩ : ∃ a, as[i]? = some a ∧ x = V.ref a := by
        cases z : as[i]? with
        | none => rw [z] at hi; cases hi
        | some a => rw [z] at hi; exact ⟨a, rfl, (Option.some.inj hi).symm⟩
      obtain ⟨sd, hsd⟩ : ∃ sd, sds[i]? = some sd := by
        have := (List.getElem?_eq_some_iff.mp ha).1
        exact ⟨sds[i]'(by omega), List.getElem?_eq_getElem (by omega)⟩
      have hil := (List.getElem?_eq_some_iff.mp hsd).1
      refine s_ext hq' (ev_var rfl) (el_call (vs := [.int mode, .ref a]) (xs := (rounded mode sd).map V.int) (ea_cons (ev_var rfl) (ea_cons (ev_var rfl) ea_nil)) fun H1' e' _ q' _ => ⟨mode, a, sd, rfl, T.st (e.trans e') (hN i a sd ha hsd), q'⟩) ?_ fun H2 e2 => ?_
      · rw [List.length_map, List.length_map, answer_len, rounded_len, List.length_take]
        omega
      · refine ⟨_, rfl, Ex.mut (e.trans e2) hq, ?_⟩
        rw [upd_same, take_snoc hsd, answer_snoc, List.map_append]
    · rintro σ' H' ⟨v, rfl, e, hq'⟩
      rw [List.length_map, hl, List.take_length] at hq'
      exact s_ret (ev_var rfl) fun H2 e2 => k q H2 hq (e.trans e2) (e2 _ _ hq')
/-- an item of a list of numbers -/
def NumItem (N : Hp → Addr → Side → Prop) (sds : List Side) (i : Nat) : V → Hp → Prop := fun u G => ∃ a sd, u = .ref a ∧ sds[i]? = some sd ∧ N G a sd
theorem NumItem.st {kS : Nat} {pl : Prop} (T : NumOk P w K mg base C N kS pl) {sds : List Side} (i : Nat) : St1 (NumItem N sds i) := fun _ _ _ e ⟨a, sd, h1, h2, h3⟩ => ⟨a, sd, h1, h2, T.st e h3⟩
theorem nums_of {H : Hp} {p : Addr} {ys : List V} {sds : List Side} (h1 : H p = some (.lst ys)) (h2 : ys.length = sds.length) (h3 : ∀ i y, ys[i]? = some y → NumItem N sds i y H) : NumsAt K N H p sds := by
  let ad : V → Addr := fun v => match v with | .ref a => a | _ => 0
  have e : ys = (ys.map ad).map V.ref := by
    apply List.ext_getElem?
    intro i
    rw [List.getElem?_map, List.getElem?_map]
    cases q : ys[i]? with
    | none => rfl
    | some y =>
      obtain ⟨a, sd, rfl, _⟩ := h3 i y q
      rfl
  refine ⟨ys.map ad, by rw [← e]; exact sq_of h1, by rw [List.length_map, h2], fun i a sd ha hsd => ?_⟩
  rw [List.getElem?_map] at ha
  cases q : ys[i]? with
  | none => rw [q] at ha; cases ha
  | some y =>
    rw [q] at ha
    obtain ⟨a', sd', rfl, hs, hn⟩ := h3 i y q
    cases ha
    rw [hsd] at hs
    cases hs
    exact hn
theorem el_answer {kS : Nat} {pl : Prop} (T : NumOk P w K mg base C N kS pl) {σ : L2.St} {H : Hp} {ta te : TE} {mode : Int} {sds : List Side} (hm : Ev ta σ H (.int mode)) (h : EvLP te σ H sds.length (NumItem N sds)) (hl : sds.length ≤ 1000) :
    EvL (tCall (sp_answer K N) [] E0 (tCons ta (tCons te tNil))) σ H ((answer mode sds).map V.int) := fun H1 e Q q =>
  hm H1 e _ fun H2 e2 => h H2 (e.trans e2) _ fun p H3 ys hp e3 h3 hlen hi =>
    ⟨mode, p, sds, rfl, nums_of h3 hlen hi, hl, fun p' H4 hp' e4 h4 => q p' H4 (fresh_back (e2.trans e3) hp') ((e2.trans e3).trans e4) h4⟩
end

/-! sizes -/
def Big (n : Int) : Prop := n.natAbs < 2 ^ 50000
theorem big_up {n : Int} {k : Nat} (h : n.natAbs < 2 ^ k) (hk : k ≤ 50000) : Big n := Nat.lt_of_lt_of_le h (Nat.pow_le_pow_right (by decide) hk)
theorem unitsOf_lt {b : Int} (h : In64 b) : (unitsOf b).natAbs < 2 ^ 2101 := by
  unfold unitsOf unitsAt
  have h1 := natAbs_pA (placeOf b)
  have h2 := pS_le (placeOf_le h.1 h.2)
  rw [Int.natAbs_mul, Int.natAbs_pow]
  have h3 : Int.natAbs 2 ^ pS (placeOf b) ≤ 2 ^ 2048 := Nat.pow_le_pow_right (by decide) h2
  have e : (2 : Nat) ^ 2101 = 2 ^ 53 * 2 ^ 2048 := by rw [← Nat.pow_add]
  rw [e]
  exact Nat.lt_of_lt_of_le (Nat.mul_lt_mul_of_pos_right h1 (Nat.pow_pos (by decide))) (Nat.mul_le_mul_left _ h3)
theorem big_units {b : Int} (h : In64 b) : Big (unitsOf b) := big_up (unitsOf_lt h) (by decide)
theorem big_map {ns : List Int} (h : ∀ n ∈ ns, In64 n) : ∀ u ∈ ns.map unitsOf, Big u := fun u hu => by
  obtain ⟨b, hb, rfl⟩ := List.mem_map.mp hu
  exact big_units (h b hb)
theorem pow_abs {n k : Nat} (h : n < k) : (((2 ^ n : Int).natAbs : Nat) : Int).natAbs < 2 ^ k := by
  rw [Int.natAbs_natCast, Int.natAbs_pow]
  exact Nat.pow_lt_pow_right (by decide) h
def RectN (n : Nat) (rows : MatI) : Prop := ∀ r ∈ rows, r.length = n
def Small (b : Nat) (rows : MatI) : Prop := ∀ r ∈ rows, ∀ x ∈ r, x.natAbs < 2 ^ b
theorem rowsN_rect {u : List Int} {m n : Nat} : RectN n (rowsOf u m n) := fun r hr => by
  unfold rowsOf at hr
  obtain ⟨i, _, rfl⟩ := List.mem_map.mp hr
  rw [List.length_map, List.length_range]
theorem rowsN_bits {a : List Int} {m n : Nat} (ha : ∀ x ∈ a, In64 x) : Small 2101 (rowsOf (a.map unitsOf) m n) := fun r hr x hx => by
  unfold rowsOf at hr
  obtain ⟨i, _, rfl⟩ := List.mem_map.mp hr
  obtain ⟨j, _, rfl⟩ := List.mem_map.mp hx
  by_cases c : n * i + j < (a.map unitsOf).length
  · have hm : (a.map unitsOf).getD (n * i + j) 0 ∈ a.map unitsOf := by
      rw [List.getD_eq_getElem?_getD, List.getElem?_eq_getElem c]
      exact List.getElem_mem _
    obtain ⟨b, hb, e⟩ := List.mem_map.mp hm
    rw [← e]
    exact unitsOf_lt (ha b hb)
  · rw [List.getD_eq_getElem?_getD, List.getElem?_eq_none (by omega)]
    exact Nat.pow_pos (by decide)
theorem Small.up {b c : Nat} {rows : MatI} (h : Small b rows) (hb : b ≤ c) : Small c rows := fun r hr x hx => Nat.lt_of_lt_of_le (h r hr x hx) (Nat.pow_le_pow_right (by decide) hb)
theorem rowsN_small {a : List Int} {m n : Nat} (ha : ∀ x ∈ a, In64 x) : Small 20000 (rowsOf (a.map unitsOf) m n) := (rowsN_bits ha).up (by decide)
/-! sizes refused -/
def sp_bad_size : Sp := fun vs H Q _ => ∃ (n most : Int), vs = [.int n, .int most] ∧ RetV (.bl (badSize n most)) H Q
theorem sv_bad_size {n most : Int} {H : Hp} : SpV sp_bad_size [.int n, .int most] H (.bl (badSize n most)) := fun _ _ _ q _ => ⟨n, most, rfl, q⟩
theorem sc_bad_size : FnScope ["size", "most"] ["size", "most"] (defScope s_bad_size) := ⟨rfl, rfl, rfl, by decide +kernel, rfl, by decide +kernel, by decide +kernel⟩
theorem ok_bad_size {f : Addr} {fd : FuncData} (F : Fun K "bad_size" "bad_size" s_bad_size f fd) : FnOk P w K mg base CX0 1 f fd ["size", "most"] sp_bad_size := by
  refine F.ok sc_bad_size (fun vs H Q E h => ?_) (fun cdv A outer s H vs Q E hr h => ?_)
  · obtain ⟨n, most, rfl, _⟩ := h
    rfl
  · obtain ⟨n, most, rfl, k⟩ := h
    refine ⟨_, pss_one (ps_ret (pe_or (pe_cmpR op_lt (pv 0) pe_int (nomark _)) (pe_one (pe_cmpR op_gt (pv 0) (pv 1) (nomark _))))), ?_⟩
    exact s_ret (ev_orV (ev_op (ev_var rfl) ev_c rv_I0) fun _ => ev_op (ev_var rfl) (ev_var rfl) rv_I0) fun H1 e => k.go e
def sp_bad_matrix (K : PySem.W.Frag) : Sp := fun vs H Q _ => ∃ (m n most : Int) (a : Addr) (ns : List Int), vs = [.int m, .int n, .int most, .ref a] ∧ In64 m ∧ In64 n ∧ IL K H a ns ∧ ns.length ≤ 40000 ∧ RetV (.bl (badMatrix m n most ns)) H Q
theorem sv_bad_matrix {m n most : Int} {a : Addr} {ns : List Int} {H : Hp} (hm : In64 m) (hn : In64 n) (h1 : IL K H a ns) (h2 : ns.length ≤ 40000) : SpV (sp_bad_matrix K) [.int m, .int n, .int most, .ref a] H (.bl (badMatrix m n most ns)) := fun _ e _ q _ => ⟨m, n, most, a, ns, rfl, hm, hn, ex_l e h1, h2, q⟩
theorem sc_bad_matrix : FnScope ["m", "n", "most", "a"] ["m", "n", "most", "a"] (defScope s_bad_matrix) := ⟨rfl, rfl, rfl, by decide +kernel, rfl, by decide +kernel, by decide +kernel⟩
theorem dec_ne {i j : Int} : (!decide (V.int i = V.int j)) = !decide (i = j) := by
  by_cases c : i = j
  · rw [c]; simp
  · rw [decide_eq_false c]; simp [c]
theorem in64_lt {n : Int} (h : In64 n) : n.natAbs < 2 ^ 64 := by
  obtain ⟨h0, h1⟩ := h
  omega
theorem ok_bad_matrix {f : Addr} {fd : FuncData} (F : Fun K "bad_matrix" "bad_matrix" s_bad_matrix f fd) (h1 : Has P w K mg base 1 "bad_size" ["size", "most"] sp_bad_size) (h2 : Has P w K mg base 2 "all_finite" ["numbers"] (sp_all_finite K)) (bL : mg "len" = none) : FnOk P w K mg base CX0 3 f fd ["m", "n", "most", "a"] (sp_bad_matrix K) := by
  refine F.ok sc_bad_matrix (fun vs H Q E h => ?_) (fun cdv A outer s H vs Q E hr h => ?_)
  · obtain ⟨m, n, most, a, ns, rfl, _⟩ := h
    rfl
  · obtain ⟨m, n, most, a, ns, rfl, hm, hn, hS, hl, k⟩ := h
    refine ⟨_, pss_one (ps_ret (pe_or (pe_callH h1 hr (pa_cons (pv 0) (pa_cons (pv 2) pa_nil))) (pe_or (pe_callH h1 hr (pa_cons (pv 1) (pa_cons pe_int pa_nil))) (pe_or (pe_cmpR op_ne (pe_callB call_len_seq (by rfl) bL PySem.boot_len (pa_cons (pv 3) pa_nil)) (pe_op op_mulX (pv 0) (pv 1)) (nomark _)) (pe_one (pe_not (pe_callH h2 hr (pa_cons (pv 3) pa_nil)))))))), ?_⟩
    refine s_ret (ev_orV (ev_call (ea_cons (ev_var rfl) (ea_cons (ev_var rfl) ea_nil)) sv_bad_size) fun _ => ev_orV (ev_call (ea_cons (ev_var rfl) (ea_cons ev_c ea_nil)) sv_bad_size) fun _ => ev_orV (ev_op (ev_len (ev_var rfl) hS) (ev_mul (ev_var rfl) (ev_var rfl) (in64_lt hm) (in64_lt hn) (by decide)) (rv_ne rfl)) fun _ => ev_notV (ev_call (ea_cons (ev_var rfl) ea_nil) (sv_all_finite hS hl))) fun H1 e => ?_
    rw [dec_ne, List.length_map]
    exact k.go e
/-! rows -/
def sp_rows_of (K : PySem.W.Frag) : Sp := fun vs H Q _ => ∃ (a : Addr) (ns : List Int) (m n : Nat), vs = [.ref a, .int (n : Int)] ∧ IL K H a ns ∧ ns.length = m * n ∧ 1 ≤ n ∧ n ≤ 10 ∧ m ≤ 10 ∧ RetR K (rowsOf ns m n) H Q
theorem sr_rows_of {a : Addr} {ns : List Int} {m n : Nat} {H : Hp} (h1 : IL K H a ns) (h2 : ns.length = m * n) (h3 : 1 ≤ n) (h4 : n ≤ 10) (h5 : m ≤ 10) : SpR K (sp_rows_of K) [.ref a, .int (n : Int)] H (rowsOf ns m n) := fun _ e _ q _ => ⟨a, ns, m, n, rfl, ex_l e h1, h2, h3, h4, h5, q⟩
theorem sc_rows_of : FnScope ["a", "width", "at"] ["a", "width"] (defScope s_rows_of) := ⟨rfl, rfl, rfl, by decide +kernel, rfl, by decide +kernel, by decide +kernel⟩
theorem rgc_rows {m n : Nat} (h3 : 1 ≤ n) (h4 : n ≤ 10) (h5 : m ≤ 10) : RgC 0 ((m * n : Nat) : Int) (n : Int) m := by
  have hmn : m * n ≤ 100 := Nat.le_trans (Nat.mul_le_mul h5 h4) (by decide)
  have key : ∀ m' : Fin 11, ∀ n' : Fin 11, 1 ≤ n'.val → RgC 0 ((m'.val * n'.val : Nat) : Int) (n'.val : Int) m'.val := by
    intro m' n' hn
    refine ⟨by omega, by omega, ?_, ?_⟩
    · revert m' n'
      decide
    · revert m' n'
      decide
  exact key ⟨m, by omega⟩ ⟨n, by omega⟩ h3
theorem slice_row {ns : List Int} {m n i : Nat} (hl : ns.length = m * n) (hi : i < m) : (((ns.map V.int).drop (n * i)).take n) = ((List.range n).map fun j => ns.getD (n * i + j) 0).map V.int := by
  have hb : n * i + n ≤ ns.length := by
    rw [hl]
    have : n * (i + 1) ≤ n * m := Nat.mul_le_mul_left n hi
    rw [Nat.mul_comm m n]
    rw [Nat.mul_add] at this
    omega
  apply List.ext_getElem?
  intro j
  rw [List.getElem?_take, List.getElem?_map, List.getElem?_map, List.getElem?_drop, List.getElem?_map]
  by_cases hj : j < n
  · rw [if_pos hj, List.getElem?_range hj, List.getElem?_eq_getElem (show n * i + j < ns.length by omega)]
    show some (V.int _) = some (V.int (ns.getD (n * i + j) 0))
    rw [List.getD_eq_getElem?_getD, List.getElem?_eq_getElem (show n * i + j < ns.length by omega)]
    rfl
  · rw [if_neg hj, List.getElem?_eq_none (show (List.range n).length ≤ j by rw [List.length_range]; omega)]
    rfl
theorem ok_rows_of {f : Addr} {fd : FuncData} (F : Fun K "rows_of" "rows_of" s_rows_of f fd) (bR : mg "range" = none) (bL : mg "len" = none) : FnOk P w K mg base CX0 1 f fd ["a", "width"] (sp_rows_of K) := by
  refine F.ok sc_rows_of (fun vs H Q E h => ?_) (fun cdv A outer s H vs Q E hr h => ?_)
  · obtain ⟨a, ns, m, n, rfl, _⟩ := h
    rfl
  · obtain ⟨a, ns, m, n, rfl, hS, hl, h3, h4, h5, k⟩ := h
    refine ⟨_, pss_one (ps_ret (pe_lc (own := [("at", 2)]) (g := gName 2) (tt := tYes) rfl sc_rows_of.nd (pi_range3 (by rfl) bR (pa_cons pe_int (pa_cons (pe_callB call_len_seq (by rfl) bL PySem.boot_len (pa_cons (pv 0) pa_nil)) (pa_cons (pv 1) pa_nil)))) (blkOk_by (own := [("at", 2)]) (N := ["a", "width", "at"]) (sc := defScope s_rows_of) (by decide +kernel))
      (fun _ _ _ _ _ => pg_name (i := 2) sc_rows_of.nd rfl (Or.inl rfl)) (fun _ _ _ _ _ => pts_nil) (fun _ _ _ _ _ => pe_sliceL K (pv 0) (po_some (pv 2)) (po_some (pe_op op_add (pv 2) (pv 1)))))), ?_⟩
    have hrg := rgc_rows h3 h4 h5
    rw [← hl] at hrg
    refine s_retR (er_items (rows := rowsOf ns m n) (lp_rangeC (lo := 0) (hi := (ns.length : Int)) (c := (n : Int)) (n := m) (RowItem K (rowsOf ns m n)) RowItem.st (ea_cons ev_c (ea_cons (ev_is (ev_len (ev_var rfl) hS) (by rw [List.length_map])) (ea_cons (ev_var rfl) ea_nil))) hrg (by omega) (fun x => rfl) fun i H1 e hi => ?_) (by unfold rowsOf; rw [List.length_map, List.length_range])) fun p H1 hp e h => k p H1 hp e h
    have e1 : (0 : Int) + (i : Int) * (n : Int) = ((n * i : Nat) : Int) := by rw [Int.natCast_mul, Int.mul_comm]; omega
    have e2 : (0 : Int) + (i : Int) * (n : Int) + (n : Int) = ((n * i + n : Nat) : Int) := by rw [e1]; omega
    have hb : n * i + n ≤ (ns.map V.int).length := by
      rw [List.length_map, hl]
      have : n * (i + 1) ≤ n * m := Nat.mul_le_mul_left n hi
      rw [Nat.mul_comm m n]
      rw [Nat.mul_add] at this
      omega
    have el := el_sl (lo := some ((n * i : Nat) : Int)) (hi := some ((n * i + n : Nat) : Int)) (te := tVar 0) (tl := tPart (tVar 2)) (th := tPart (tOp (rI0 fun i j => .int (i + j)) (tVar 2) (tVar 1))) (σ := (wipe (start ["a", "width", "at"] [.ref a, .int (n : Int)]) [2]).set 2 (some (.int (0 + (i : Int) * (n : Int))))) (ev_var rfl) (eo_some (ev_is (ev_var rfl) (by rw [e1]))) (eo_some (ev_is (ev_add (ev_var rfl) (ev_var rfl)) (by rw [e2]))) (ex_l e hS)
    rw [cutV_mid (by omega) hb, show n * i + n - n * i = n by omega, slice_row hl hi] at el
    intro H2 e2 Q2 q2
    refine EvL.p el H2 e2 Q2 fun v H3 e3 hv => q2 v H3 e3 ?_
    obtain ⟨p, rfl, hp⟩ := hv
    refine ⟨p, (List.range n).map fun j => ns.getD (n * i + j) 0, rfl, ?_, sq_of hp⟩
    unfold rowsOf
    rw [List.getElem?_map, List.getElem?_range hi]
    rfl
theorem er_units {σ : L2.St} {H : Hp} {ta tb : TE} {l : Addr} {ns : List Int} {m n : Nat} (h1 : Ev ta σ H (.ref l)) (h2 : Ev tb σ H (.int (n : Int))) (hS : IL K H l ns) (hl : ns.length ≤ 40000) (hn : ∀ x ∈ ns, In64 x) (h : ns.length = m * n) (h3 : 1 ≤ n) (h4 : n ≤ 10) (h5 : m ≤ 10) :
    EvR K (tCall (sp_rows_of K) [] E0 (tCons (tCall (sp_all_units K) [] E0 (tCons ta tNil)) (tCons tb tNil))) σ H (rowsOf (ns.map unitsOf) m n) := fun H2 e2 Q2 q2 =>
  el_call (sp := sp_all_units K) (vs := [.ref l]) (xs := (ns.map unitsOf).map V.int) (ea_cons h1 ea_nil) (sl_all_units hS hl hn) H2 e2 _ fun p H3 _ e3 hp => h2 H3 (e2.trans e3) _ fun H3' e3' =>
    sr_rows_of (H := H3') (sq_of (e3' _ _ hp)) (by rw [List.length_map]; exact h) h3 h4 h5 H3' (Ex.refl H3') _ (fun p4 H4 hp4 e4 h4 => q2 p4 H4 (fresh_back (e3.trans e3') hp4) ((e3.trans e3').trans e4) h4) E0
theorem good_matrix {m n most : Int} {a : List Int} (hm : In64 m) (hn : In64 n) (hmost : most ≤ 6) (h : badMatrix m n most a = false) : ∃ m' n' : Nat, m = (m' : Int) ∧ n = (n' : Int) ∧ 1 ≤ m' ∧ (m' : Int) ≤ most ∧ 1 ≤ n' ∧ n' ≤ 4 ∧ a.length = m' * n' ∧ a.all isFin = true := by
  have hb : ∀ z : badSize m most = true ∨ badSize n 4 = true ∨ ¬ (a.length : Int) = m * n ∨ ¬ a.all isFin = true, False := fun z => by
    rw [badMatrix_iff.mpr z] at h
    exact Bool.noConfusion h
  have c1 : ¬ badSize m most = true := fun z => hb (.inl z)
  have c2 : ¬ badSize n 4 = true := fun z => hb (.inr (.inl z))
  have c3 : (a.length : Int) = m * n := Classical.byContradiction fun z => hb (.inr (.inr (.inl z)))
  have c4 : a.all isFin = true := Classical.byContradiction fun z => hb (.inr (.inr (.inr z)))
  unfold badSize at c1 c2
  simp only [Bool.or_eq_true, decide_eq_true_eq, not_or] at c1 c2
  refine ⟨m.toNat, n.toNat, by omega, by omega, by omega, by omega, by omega, by omega, ?_, c4⟩
  rw [show m * n = ((m.toNat * n.toNat : Nat) : Int) by rw [Int.natCast_mul]; congr 1 <;> omega] at c3
  omega

/-! determinants -/
def sp_signed : Sp := fun vs H Q _ => ∃ (p : Nat) (x : Int), vs = [.int (p : Int), .int x] ∧ RetV (.int (signedM p x)) H Q
theorem sv_signed {p : Nat} {x : Int} {H : Hp} : SpV sp_signed [.int (p : Int), .int x] H (.int (signedM p x)) := fun _ _ _ q _ => ⟨p, x, rfl, q⟩
theorem sc_signed : FnScope ["power", "number"] ["power", "number"] (defScope s_signed) := ⟨rfl, rfl, rfl, by decide +kernel, rfl, by decide +kernel, by decide +kernel⟩
theorem ok_signed {f : Addr} {fd : FuncData} (F : Fun K "signed" "signed" s_signed f fd) : FnOk P w K mg base CX0 1 f fd ["power", "number"] sp_signed := by
  refine F.ok sc_signed (fun vs H Q E h => ?_) (fun cdv A outer s H vs Q E hr h => ?_)
  · obtain ⟨p, x, rfl, _⟩ := h
    rfl
  · obtain ⟨p, x, rfl, k⟩ := h
    refine ⟨_, pss_cons (ps_if (pt_cmpR op_eq (pe_op op_mod (pv 0) pe_int) pe_int (nomark _)) (pss_one (ps_ret (pe_un un_neg (pv 1)))) pss_nil) (pss_one (ps_ret (pv 1))), ?_⟩
    unfold signedM at k
    refine q_when (et_test (ev_op (ev_op (ev_var rfl) ev_c (rv_I (by decide))) ev_c (rv_eq rfl))) (fun c H1 e => ?_) (fun c H1 e => ?_)
    · have c : ((p : Int) % 2) = 1 := by simpa using c
      rw [if_pos (by omega)] at k
      exact s_ret (ev_neg (ev_var rfl)) fun H2 e2 => k.go (e.trans e2)
    · have c : ¬ ((p : Int) % 2) = 1 := by simpa using c
      rw [if_neg (by omega)] at k
      exact s_ret (ev_var rfl) fun H2 e2 => k.go (e.trans e2)
def sp_minor (K : PySem.W.Frag) : Sp := fun vs H Q _ => ∃ (p : Addr) (rows : MatI) (i j n : Nat), vs = [.ref p, .int (i : Int), .int (j : Int)] ∧ RowsAt K H p rows ∧ rows.length ≤ 1000 ∧ RectN n rows ∧ n ≤ 1000 ∧ i < rows.length ∧ j < n ∧ RetR K (minorM rows i j) H Q
theorem sr_minor {p : Addr} {rows : MatI} {i j n : Nat} {H : Hp} (h1 : RowsAt K H p rows) (h2 : rows.length ≤ 1000) (h3 : RectN n rows) (h4 : n ≤ 1000) (h5 : i < rows.length) (h6 : j < n) : SpR K (sp_minor K) [.ref p, .int (i : Int), .int (j : Int)] H (minorM rows i j) := fun _ e _ q _ => ⟨p, rows, i, j, n, rfl, ex_rows e h1, h2, h3, h4, h5, h6, q⟩
theorem sc_minor : FnScope ["rows", "i", "j", "row"] ["rows", "i", "j"] (defScope s_minor) := ⟨rfl, rfl, rfl, by decide +kernel, rfl, by decide +kernel, by decide +kernel⟩
theorem map_erase {r : List Int} {j : Nat} : (r.map V.int).eraseIdx j = (r.eraseIdx j).map V.int := by
  induction r generalizing j with
  | nil => rfl
  | cons a r ih =>
    cases j with
    | zero => rfl
    | succ j => show V.int a :: (r.map V.int).eraseIdx j = V.int a :: (r.eraseIdx j).map V.int; rw [ih]
theorem ok_minor {f : Addr} {fd : FuncData} (F : Fun K "minor" "minor" s_minor f fd) : FnOk P w K mg base CX0 1 f fd ["rows", "i", "j"] (sp_minor K) := by
  refine F.ok sc_minor (fun vs H Q E h => ?_) (fun cdv A outer s H vs Q E hr h => ?_)
  · obtain ⟨p, rows, i, j, n, rfl, _⟩ := h
    rfl
  · obtain ⟨p, rows, i, j, n, rfl, ⟨as, a1, a2, a3⟩, hl, hn, hn2, hi, hj, k⟩ := h
    refine ⟨_, pss_one (ps_ret (pe_lc (own := [("row", 3)]) (g := gName 3) (tt := tYes) rfl sc_minor.nd
      (pi_list (pe_op op_cat (pe_slice sl_list (pv 0) po_none (po_some (pv 1))) (pe_slice sl_list (pv 0) (po_some (pe_op op_add (pv 1) pe_int)) po_none))) (blkOk_by (own := [("row", 3)]) (N := ["rows", "i", "j", "row"]) (sc := defScope s_minor) (by decide +kernel))
      (fun _ _ _ _ _ => pg_name (i := 3) sc_minor.nd rfl (Or.inl rfl)) (fun _ _ _ _ _ => pts_nil)
      (fun _ _ _ _ _ => pe_op op_cat (pe_sliceL K (pv 3) po_none (po_some (pv 2))) (pe_sliceL K (pv 3) (po_some (pe_op op_add (pv 2) pe_int)) po_none)))), ?_⟩
    have hc := el_erase (K := K) (ta := tVar 0) (tb := tVar 1) (tc := tVar 1) (σ := start ["rows", "i", "j", "row"] [.ref p, .int (i : Int), .int (j : Int)]) (k := i) (ev_var rfl) (ev_var rfl) (ev_var rfl) a1 (by rw [List.length_map]; omega) (by rw [List.length_map]; omega)
    have hlen : ((as.map V.ref).eraseIdx i).length = (minorM rows i j).length := by
      unfold minorM
      rw [List.length_map, List.length_eraseIdx, List.length_eraseIdx, List.length_map, a2]
    refine s_retR (er_items (lp_new (RowItem K (minorM rows i j)) RowItem.st hc (by rw [hlen]; unfold minorM; rw [List.length_map, List.length_eraseIdx]; split <;> omega) (fun x => rfl) fun i' x H1 e hx => ?_) hlen) fun p H1 hp e h => k p H1 hp e h
    obtain ⟨a, r, rfl, hr, hrL⟩ := erase_item (p := p) a2 a3 hx
    have hrn : r.length = n := hn r (List.mem_of_mem_eraseIdx (List.mem_of_getElem? hr))
    intro H2 e2 Q2 q2
    refine EvL.p (el_erase (K := K) (k := j) (ev_var rfl) (ev_var rfl) (ev_var rfl) (ex_l e hrL) (by rw [List.length_map]; omega) (by rw [List.length_map]; omega)) H2 e2 Q2 fun v H3 e3 hv => q2 v H3 e3 ?_
    obtain ⟨p3, rfl, hp3⟩ := hv
    refine ⟨p3, r.eraseIdx j, rfl, ?_, sq_of (by rw [hp3, map_erase])⟩
    unfold minorM
    rw [List.getElem?_map, hr]
    rfl
/-! its size -/
theorem fold_abs (f : Nat → Int) (M : Nat) : ∀ k : Nat, (∀ j, j < k → (f j).natAbs ≤ M) → ((List.range k).foldl (fun t j => t + f j) 0).natAbs ≤ k * M
  | 0, _ => by simp
  | k + 1, h => by
    have ih := fold_abs f M k fun j hj => h j (by omega)
    have h1 := h k (by omega)
    rw [List.range_succ, List.foldl_append]
    show ((List.range k).foldl (fun t j => t + f j) 0 + f k).natAbs ≤ _
    rw [Nat.add_mul]
    omega
theorem signed_abs (p : Nat) (x : Int) : (signedM p x).natAbs = x.natAbs := by
  unfold signedM
  split
  · rw [Int.natAbs_neg]
  · rfl
theorem minor_rect {n : Nat} {rows : MatI} {i j : Nat} (h : RectN (n + 1) rows) (hj : j < n + 1) : RectN n (minorM rows i j) := fun r hr => by
  unfold minorM at hr
  obtain ⟨r0, h0, rfl⟩ := List.mem_map.mp hr
  have := h r0 (List.mem_of_mem_eraseIdx h0)
  rw [List.length_eraseIdx, if_pos (by omega)]
  omega
theorem minor_len {n : Nat} {rows : MatI} {i j : Nat} (h : rows.length = n + 1) (hi : i < n + 1) : (minorM rows i j).length = n := by
  unfold minorM
  rw [List.length_map, List.length_eraseIdx, if_pos (by omega)]
  omega
theorem minor_small {b : Nat} {rows : MatI} {i j : Nat} (h : Small b rows) : Small b (minorM rows i j) := fun r hr x hx => by
  unfold minorM at hr
  obtain ⟨r0, h0, rfl⟩ := List.mem_map.mp hr
  exact h r0 (List.mem_of_mem_eraseIdx h0) x (List.mem_of_mem_eraseIdx hx)
theorem detM_abs {b : Nat} : ∀ (n : Nat) (rows : MatI), n ≤ 4 → rows.length = n → RectN n rows → Small b rows → (detM n rows).natAbs ≤ 2 ^ (n * (b + 2))
  | 0, rows, _, _, _, _ => by show (1 : Int).natAbs ≤ _; simp
  | n + 1, rows, h4, hl, hR, hS => by
    have h0 : rows[0]? = some (rows.getD 0 []) := by
      rw [List.getD_eq_getElem?_getD, List.getElem?_eq_getElem (by omega)]
      rfl
    have hm := List.mem_of_getElem? h0
    have hr := hR _ hm
    have key := fold_abs (fun j => signedM j ((rows.getD 0 []).getD j 0 * detM n (minorM rows 0 j))) (2 ^ b * 2 ^ (n * (b + 2))) (n + 1) fun j hj => by
      rw [signed_abs, Int.natAbs_mul]
      refine Nat.mul_le_mul (Nat.le_of_lt (hS _ hm _ ?_)) (detM_abs n _ (by omega) (minor_len hl (by omega)) (minor_rect hR hj) (minor_small hS))
      refine List.mem_of_getElem? (i := j) ?_
      rw [List.getD_eq_getElem?_getD (l := rows.getD 0 []), List.getElem?_eq_getElem (by omega)]
      rfl
    refine Nat.le_trans key ?_
    have e : (n + 1) * (b + 2) = b + n * (b + 2) + 2 := by rw [Nat.add_mul]; omega
    rw [e, Nat.pow_add 2 _ 2, Nat.pow_add 2 b]
    rw [Nat.mul_comm (2 ^ b * 2 ^ (n * (b + 2)))]
    exact Nat.mul_le_mul_right _ (by omega)
theorem detM_lt {b n : Nat} {rows : MatI} (h4 : n ≤ 4) (hl : rows.length = n) (hR : RectN n rows) (hS : Small b rows) (hb : b ≤ 20000) : (detM n rows).natAbs < 2 ^ 80009 := by
  refine Nat.lt_of_le_of_lt (detM_abs n rows h4 hl hR hS) (Nat.pow_lt_pow_right (by decide) ?_)
  have : n * (b + 2) ≤ 4 * 20002 := Nat.mul_le_mul h4 (by omega)
  omega
def sp_determinant (K : PySem.W.Frag) (n : Nat) : Sp := fun vs H Q _ => ∃ (p : Addr) (rows : MatI), vs = [.ref p] ∧ RowsAt K H p rows ∧ rows.length ≤ n ∧ RectN rows.length rows ∧ Small 20000 rows ∧ RetV (.int (detM rows.length rows)) H Q
theorem sv_determinant {p : Addr} {rows : MatI} {n : Nat} {H : Hp} (h1 : RowsAt K H p rows) (h2 : rows.length ≤ n) (h3 : RectN rows.length rows) (h4 : Small 20000 rows) : SpV (sp_determinant K n) [.ref p] H (.int (detM rows.length rows)) := fun _ e _ q _ => ⟨p, rows, rfl, ex_rows e h1, h2, h3, h4, q⟩
theorem sc_determinant : FnScope ["rows", "total", "j"] ["rows"] (defScope s_determinant) := ⟨rfl, rfl, rfl, by decide +kernel, rfl, by decide +kernel, by decide +kernel⟩
theorem ok_determinant {f : Addr} {fd : FuncData} (F : Fun K "determinant" "determinant" s_determinant f fd) (mgf : mg "determinant" = some (.ref f)) (kp : PySem.W.keepIn K (.ref f) = true) (b : Binds K fd ["rows"] []) (h1 : Has P w K mg base 1 "minor" ["rows", "i", "j"] (sp_minor K)) (h2 : Has P w K mg base 1 "signed" ["power", "number"] sp_signed) (bR : mg "range" = none) (bL : mg "len" = none) :
    ∀ n : Nat, n ≤ 4 → FnOk P w K mg base CX0 (2 + n) f fd ["rows"] (sp_determinant K n) := by
  intro n
  induction n with
  | zero =>
    intro _
    refine (F.ok (k := 1) sc_determinant (fun vs H Q E h => ?_) (fun cdv A outer s H vs Q E hr h => ?_))
    · obtain ⟨p, rows, rfl, _⟩ := h
      rfl
    · obtain ⟨p, rows, rfl, hR, hl, hn, hS, k⟩ := h
      refine ⟨_, pss_cons (ps_if (pt_cmpR op_eq (pe_callB call_len_seq (by rfl) bL PySem.boot_len (pa_cons (pv 0) pa_nil)) pe_int (nomark _)) (pss_one (ps_ret pe_int)) pss_nil) (pss_never), ?_⟩
      have h0 : rows.length = 0 := by omega
      rw [h0] at k
      refine q_when (et_test (ev_op (ev_lenR (ev_var rfl) hR) ev_c (rv_eq rfl))) (fun c H1 e => ?_) (fun c H1 e => ?_)
      · exact s_ret ev_c fun H2 e2 => k.go (e.trans e2)
      · rw [h0] at c
        exact absurd c (by decide)
  | succ n ih =>
    intro h4
    have hD : Has P w K mg base (2 + n) "determinant" ["rows"] (sp_determinant K n) := ⟨f, fd, ih (by omega), mgf, kp, b⟩
    refine (F.ok (k := 2 + n) sc_determinant (fun vs H Q E h => ?_) (fun cdv A outer s H vs Q E hr h => ?_))
    · obtain ⟨p, rows, rfl, _⟩ := h
      rfl
    · obtain ⟨p, rows, rfl, hR, hl, hn, hS, k⟩ := h
      have hr1 : Room 1 _ := hr.mono (by omega)
      refine ⟨_, pss_cons (ps_if (pt_cmpR op_eq (pe_callB call_len_seq (by rfl) bL PySem.boot_len (pa_cons (pv 0) pa_nil)) pe_int (nomark _)) (pss_one (ps_ret pe_int)) pss_nil)
        (pss_cons (ps_set (i := 1) sc_determinant.nd rfl (.inl rfl) pe_int)
        (pss_cons (ps_for PassesOwn.never rfl (pi_range1 (by rfl) bR (pa_cons (pe_callB call_len_seq (by rfl) bL PySem.boot_len (pa_cons (pv 0) pa_nil)) pa_nil)) (pg_name (i := 2) sc_determinant.nd rfl (Or.inl rfl))
          (pss_one (ps_if (pt_cmpR op_ne (pe_ix ix_list (pe_ix ix_list (pv 0) pe_int (fun _ _ => rfl)) (pv 2) (fun _ _ => rfl)) pe_int (nomark _))
            (pss_one (ps_aug (i := 1) sc_determinant.nd rfl (.inl rfl) (pe_callH h2 hr1 (pa_cons (pv 2) (pa_cons (pe_op op_mulX (pe_ix ix_list (pe_ix ix_list (pv 0) pe_int (fun _ _ => rfl)) (pv 2) (fun _ _ => rfl)) (pe_callH hD hr (pa_cons (pe_callH h1 hr1 (pa_cons (pv 0) (pa_cons pe_int (pa_cons (pv 2) pa_nil)))) pa_nil) (Nat.le_refl _))) pa_nil))) ip_add)) pss_nil)))
        (pss_one (ps_ret (pv 1))))), ?_⟩
      refine q_when (et_test (ev_op (ev_lenR (ev_var rfl) hR) ev_c (rv_eq rfl))) (fun c H1 e => ?_) (fun c H1 e => ?_)
      · have c : rows.length = 0 := by simpa using c
        rw [c] at k
        exact s_ret ev_c fun H2 e2 => k.go (e.trans e2)
      · have c : ¬ rows.length = 0 := by simpa using c
        obtain ⟨m, hm⟩ : ∃ m, rows.length = m + 1 := ⟨rows.length - 1, by omega⟩
        rw [hm] at k hn
        refine q_asg ev_c fun H2 e2 => ?_
        have e12 := e.trans e2
        have h0 : rows[0]? = some (rows.getD 0 []) := by
          rw [List.getD_eq_getElem?_getD, List.getElem?_eq_getElem (by omega)]
          rfl
        have hm0 := List.mem_of_getElem? h0
        have hr0 := hn _ hm0
        refine q_forR1 (ea_cons (ev_lenR (ev_var rfl) (ex_rows e12 hR)) ea_nil) (by omega) (fun i σ' H' => ∃ v : Option V, σ' = [some (.ref p), some (.int ((List.range i).foldl (fun t j => t + signedM j ((rows.getD 0 []).getD j 0 * detM m (minorM rows 0 j))) 0)), v] ∧ Ex H H')
          (fun H3 e3 => ⟨none, rfl, e12.trans e3⟩) ?_ ?_
        · rintro i σ' H' hi ⟨v, rfl, e3⟩
          have hi : i < m + 1 := by omega
          rw [List.range_succ, List.foldl_append]
          generalize (List.range i).foldl (fun t j => t + signedM j ((rows.getD 0 []).getD j 0 * detM m (minorM rows 0 j))) 0 = t
          have g0 : (rows.getD 0 [])[i]? = some ((rows.getD 0 []).getD i 0) := by
            rw [List.getD_eq_getElem?_getD (l := rows.getD 0 []), List.getElem?_eq_getElem (by omega)]
            rfl
          have ml := minor_len (j := i) hm (show 0 < m + 1 by omega)
          refine s_when (et_test (ev_op (ev_ix2 (i' := 0) (ev_var rfl) ev_c (ev_var rfl) (ex_rows e3 hR) rfl rfl h0 g0) ev_c (rv_ne rfl))) (fun c2 H4 e4 => ?_) (fun c2 H4 e4 => ?_)
          · have e34 := e3.trans e4
            have hdet := ev_callR (K := K) (sp := sp_determinant K n) (E := E0) (z := .int (detM m (minorM rows 0 i))) (er_call (sp := sp_minor K) (dvs := []) (vs := [.ref p, .int ((0 : Nat) : Int), .int (i : Int)]) (E := E0) (ta := tCons (tVar 0) (tCons (tC (.int 0)) (tCons (tVar 2) tNil))) (σ := [some (.ref p), some (.int t), some (.int (i : Int))]) (ea_cons (ev_var rfl) (ea_cons ev_c (ea_cons (ev_var rfl) ea_nil))) (sr_minor (ex_rows e34 hR) (by omega) hn (by omega) (by omega) hi))
              fun p5 H5 e5 h5 => by
                have q := sv_determinant (n := n) h5 (by rw [ml]; omega) (by rw [ml]; exact minor_rect hn hi) (minor_small hS)
                rw [ml] at q
                exact q
            refine s_aug rfl (ev_call (ea_cons (ev_var rfl) (ea_cons (ev_mul (ev_ix2 (i' := 0) (ev_var rfl) ev_c (ev_var rfl) (ex_rows e34 hR) rfl rfl h0 g0) hdet (hS _ hm0 _ (List.mem_of_getElem? g0)) (detM_lt (by omega) ml (minor_rect hn hi) (minor_small hS) (Nat.le_refl _)) (by decide)) ea_nil)) sv_signed) fun H5 e5 => ?_
            exact ⟨_, rfl, e34.trans e5⟩
          · have c2 : (rows.getD 0 []).getD i 0 = 0 := by simpa using c2
            refine ⟨some (.int (i : Int)), ?_, e3.trans e4⟩
            show [some (V.ref p), some (.int t), some (V.int (i : Int))] = [some (V.ref p), some (V.int (t + signedM i ((rows.getD 0 []).getD i 0 * detM m (minorM rows 0 i)))), some (V.int (i : Int))]
            rw [c2, Int.zero_mul]
            have : signedM i 0 = 0 := by unfold signedM; split <;> rfl
            rw [this, Int.add_zero]
        · rintro σ' H' ⟨v, rfl, e3⟩
          rw [hm]
          exact s_ret (ev_var rfl) fun H3 e4 => k.go (e3.trans e4)

/-! a list of quotients -/
theorem lp_ratios {C : Addr} {σ : L2.St} {H : Hp} {tl : TE} {ta : TA} {j : Nat} {vs : List Nat} {tops : List Int} {q : Addr} {g : Int → Int} {bottom : Int} (h : Ev tl σ H (.ref q)) (hS : IL K H q tops) (hl : tops.length ≤ 40000) (hb : bottom.natAbs < 2 ^ 100000) (hw : ∀ x, wipe ((wipe σ vs).set j (some x)) vs = wipe σ vs)
    (he : ∀ t ∈ tops, ∀ H1, Ex H H1 → EvA ta ((wipe σ vs).set j (some (.int t))) H1 [.int (g t), .int bottom]) : EvLP (tLc (iList K tl) (gName j) tYes (tMake C (sp_Ratio_init C) [] E0 ta) vs) σ H (((tops.map g).map fun t => ratioSide (t * bottom.sign) (bottom.natAbs : Int))).length (NumItem (RatioNum C) ((tops.map g).map fun t => ratioSide (t * bottom.sign) (bottom.natAbs : Int))) := by
  have key := lp_list (K := K) (j := j) (te := tMake C (sp_Ratio_init C) [] E0 ta) (vs := vs) (NumItem (RatioNum C) ((tops.map g).map fun t => ratioSide (t * bottom.sign) (bottom.natAbs : Int))) (fun i v G G' e ⟨a, sd, h1, h2, h3⟩ => ⟨a, sd, h1, h2, RatioNum.st e h3⟩) h hS (by rw [List.length_map]; exact hl) hw fun i x H1 e hx => by
    rw [List.getElem?_map] at hx
    cases w : tops[i]? with
    | none => rw [w] at hx; cases hx
    | some t =>
      rw [w] at hx
      cases hx
      intro H2 e2 Q2 q2
      refine ep_Ratio (he t (List.mem_of_getElem? w) H1 e) H2 e2 Q2 fun v H3 e3 hv => q2 v H3 e3 ?_
      obtain ⟨a, dx, rfl, ha⟩ := hv
      refine ⟨a, _, rfl, ?_, ⟨_, _, dx, ha, rfl, ?_⟩⟩
      · rw [List.getElem?_map, List.getElem?_map, w]
        rfl
      · rw [Int.natAbs_natCast]
        exact hb
  rw [List.length_map, List.length_map]
  rw [List.length_map] at key
  exact key
theorem lp_ratiosN {C : Addr} {σ : L2.St} {H : Hp} {tl : TE} {ta : TA} {j : Nat} {vs : List Nat} {tops : List Int} {g : Int → Int} {bottom : Int} (h : EvL tl σ H (tops.map V.int)) (hl : tops.length ≤ 40000) (hb : bottom.natAbs < 2 ^ 100000) (hw : ∀ x, wipe ((wipe σ vs).set j (some x)) vs = wipe σ vs)
    (he : ∀ t ∈ tops, ∀ H1, Ex H H1 → EvA ta ((wipe σ vs).set j (some (.int t))) H1 [.int (g t), .int bottom]) : EvLP (tLc (iList K tl) (gName j) tYes (tMake C (sp_Ratio_init C) [] E0 ta) vs) σ H (((tops.map g).map fun t => ratioSide (t * bottom.sign) (bottom.natAbs : Int))).length (NumItem (RatioNum C) ((tops.map g).map fun t => ratioSide (t * bottom.sign) (bottom.natAbs : Int))) := by
  have key := lp_new (K := K) (j := j) (te := tMake C (sp_Ratio_init C) [] E0 ta) (vs := vs) (NumItem (RatioNum C) ((tops.map g).map fun t => ratioSide (t * bottom.sign) (bottom.natAbs : Int))) (fun i v G G' e ⟨a, sd, h1, h2, h3⟩ => ⟨a, sd, h1, h2, RatioNum.st e h3⟩) h (by rw [List.length_map]; exact hl) hw fun i x H1 e hx => by
    rw [List.getElem?_map] at hx
    cases w : tops[i]? with
    | none => rw [w] at hx; cases hx
    | some t =>
      rw [w] at hx
      cases hx
      intro H2 e2 Q2 q2
      refine ep_Ratio (he t (List.mem_of_getElem? w) H1 e) H2 e2 Q2 fun v H3 e3 hv => q2 v H3 e3 ?_
      obtain ⟨a, dx, rfl, ha⟩ := hv
      refine ⟨a, _, rfl, ?_, ⟨_, _, dx, ha, rfl, ?_⟩⟩
      · rw [List.getElem?_map, List.getElem?_map, w]
        rfl
      · rw [Int.natAbs_natCast]
        exact hb
  rw [List.length_map, List.length_map]
  rw [List.length_map] at key
  exact key
/-! the adjugate -/
def sp_adjugate (K : PySem.W.Frag) : Sp := fun vs H Q _ => ∃ (p : Addr) (rows : MatI) (n : Nat), vs = [.ref p] ∧ RowsAt K H p rows ∧ rows.length = n ∧ n ≤ 4 ∧ RectN n rows ∧ Small 20000 rows ∧ RetL ((adjM rows n).map V.int) H Q
theorem sl_adjugate {p : Addr} {rows : MatI} {n : Nat} {H : Hp} (h1 : RowsAt K H p rows) (h2 : rows.length = n) (h3 : n ≤ 4) (h4 : RectN n rows) (h5 : Small 20000 rows) : SpL (sp_adjugate K) [.ref p] H ((adjM rows n).map V.int) := fun _ e _ q _ => ⟨p, rows, n, rfl, ex_rows e h1, h2, h3, h4, h5, q⟩
theorem sc_adjugate : FnScope ["rows", "numbers", "i", "j"] ["rows"] (defScope s_adjugate) := ⟨rfl, rfl, rfl, by decide +kernel, rfl, by decide +kernel, by decide +kernel⟩
theorem ok_adjugate {f : Addr} {fd : FuncData} (F : Fun K "adjugate" "adjugate" s_adjugate f fd) (h1 : Has P w K mg base 6 "determinant" ["rows"] (sp_determinant K 4)) (h2 : Has P w K mg base 1 "minor" ["rows", "i", "j"] (sp_minor K)) (h3 : Has P w K mg base 1 "signed" ["power", "number"] sp_signed) (bR : mg "range" = none) (bL : mg "len" = none) : FnOk P w K mg base CX0 7 f fd ["rows"] (sp_adjugate K) := by
  refine F.ok sc_adjugate (fun vs H Q E h => ?_) (fun cdv A outer s H vs Q E hr h => ?_)
  · obtain ⟨p, rows, n, rfl, _⟩ := h
    rfl
  · obtain ⟨p, rows, n, rfl, hR, hl, hn, hrect, hS, k⟩ := h
    refine ⟨_, pss_cons (ps_set (i := 1) sc_adjugate.nd rfl (.inl rfl) (pe_lst pa_nil))
      (pss_cons (ps_for PassesOwn.never rfl (pi_range1 (by rfl) bR (pa_cons (pe_callB call_len_seq (by rfl) bL PySem.boot_len (pa_cons (pv 0) pa_nil)) pa_nil)) (pg_name (i := 2) sc_adjugate.nd rfl (Or.inl rfl))
        (pss_one (ps_for PassesOwn.never rfl (pi_range1 (by rfl) bR (pa_cons (pe_callB call_len_seq (by rfl) bL PySem.boot_len (pa_cons (pv 0) pa_nil)) pa_nil)) (pg_name (i := 3) sc_adjugate.nd rfl (Or.inl rfl))
          (pss_one (ps_expr (pe_bm PySem.F.plainAttrs_list PySem.F.slot_list_append PySem.F.type_list_append mt_append (pv 1) (pa_cons (pe_callH h3 hr (pa_cons (pe_op op_add (pv 2) (pv 3)) (pa_cons (pe_callH h1 hr (pa_cons (pe_callH h2 hr (pa_cons (pv 0) (pa_cons (pv 3) (pa_cons (pv 2) pa_nil)))) pa_nil)) pa_nil))) pa_nil)))))))
      (pss_one (ps_ret (pv 1)))), ?_⟩
    refine q_asgL (el_lst ea_nil (Nat.zero_le _)) fun q H1 hq e1 hq1 => ?_
    refine q_forR1 (n := (rows.length : Int)) (ea_cons (ev_lenR (ev_var rfl) (ex_rows e1 hR)) ea_nil) (by omega) (fun i σ' H' => ∃ (v2 v3 : Option V), σ' = [some (.ref p), some (.ref q), v2, v3] ∧ Ex H H' ∧ H' q = some (.lst (((List.range i).flatMap fun i => (List.range n).map fun j => signedM (i + j) (detM (n - 1) (minorM rows j i))).map V.int)))
      (fun H2 e2 => ⟨none, none, rfl, e1.trans e2, e2 _ _ hq1⟩) ?_ ?_
    · rintro i σ' H' hi ⟨v2, v3, rfl, e, hq'⟩
      have hi : i < n := by omega
      refine s_forR1 (n := (rows.length : Int)) (ea_cons (ev_lenR (ev_var rfl) (ex_rows e hR)) ea_nil) (by omega) (fun j σ' H' => ∃ (v3 : Option V), σ' = [some (.ref p), some (.ref q), some (.int (i : Int)), v3] ∧ Ex H H' ∧ H' q = some (.lst ((((List.range i).flatMap fun i => (List.range n).map fun j => signedM (i + j) (detM (n - 1) (minorM rows j i))) ++ (List.range j).map fun j => signedM (i + j) (detM (n - 1) (minorM rows j i))).map V.int)))
        (fun H2 e2 => ⟨v3, rfl, e.trans e2, by rw [List.range_zero, List.map_nil, List.append_nil]; exact e2 _ _ hq'⟩) ?_ ?_
      · rintro j σ' H2 hj ⟨v3, rfl, e2, hq2⟩
        have hj : j < n := by omega
        obtain ⟨m, rfl⟩ : ∃ m, n = m + 1 := ⟨n - 1, by omega⟩
        have ml := minor_len (j := i) hl hj
        have hdet := ev_callR (K := K) (sp := sp_determinant K 4) (E := E0) (z := .int (detM m (minorM rows j i))) (er_call (sp := sp_minor K) (dvs := []) (vs := [.ref p, .int (j : Int), .int (i : Int)]) (E := E0) (ta := tCons (tVar 0) (tCons (tVar 3) (tCons (tVar 2) tNil))) (σ := [some (.ref p), some (.ref q), some (.int (i : Int)), some (.int (j : Int))]) (ea_cons (ev_var rfl) (ea_cons (ev_var rfl) (ea_cons (ev_var rfl) ea_nil))) (sr_minor (ex_rows e2 hR) (by omega) hrect (by omega) (by omega) hi))
          fun p5 H5 e5 h5 => by
            have w := sv_determinant (n := 4) h5 (by rw [ml]; omega) (by rw [ml]; exact minor_rect hrect hi) (minor_small hS)
            rw [ml] at w
            exact w
        refine s_app hq2 (ev_var rfl) (ev_call (vs := [.int ((i + j : Nat) : Int), .int (detM m (minorM rows j i))]) (ea_cons (ev_is (ev_add (ev_var rfl) (ev_var rfl)) (by congr 1)) (ea_cons hdet ea_nil)) sv_signed) ?_ fun H3 e3 => ?_
        · rw [List.length_map, List.length_append, flat_len, List.length_map, List.length_range]
          have : i * (m + 1) ≤ 4 * 4 := Nat.mul_le_mul (by omega) hn
          omega
        · refine ⟨_, rfl, Ex.mut (e2.trans e3) hq, ?_⟩
          rw [upd_same, List.range_succ (n := j), List.map_append (l₁ := List.range j), ← List.append_assoc, List.map_append (l₂ := List.map _ [j])]
          rfl
      · rintro σ' H2 ⟨v3, rfl, e2, hq2⟩
        refine ⟨_, _, rfl, e2, ?_⟩
        rw [hq2, List.range_succ (n := i), List.flatMap_append, List.flatMap_singleton]
        have e0 : (rows.length : Int).toNat = n := by omega
        rw [e0]
    · rintro σ' H' ⟨v2, v3, rfl, e, hq'⟩
      have e0 : (rows.length : Int).toNat = n := by omega
      rw [e0] at hq'
      exact s_ret (ev_var rfl) fun H2 e2 => k q H2 hq (e.trans e2) (e2 _ _ hq')
/-! inverse -/
def sp_inverse (K : PySem.W.Frag) : Sp := fun vs H Q _ => ∃ (mode n : Int) (l : Addr) (ns : List Int), vs = [.int mode, .int n, .ref l] ∧ In64 n ∧ IL K H l ns ∧ ns.length ≤ 30 ∧ (∀ x ∈ ns, In64 x) ∧ ∀ (H' : Hp) (p : Addr), H' p = some (.lst ((inverseOf mode n ns).map V.int)) → Q (.ref p) H'
theorem sc_inverse : FnScope ["mode", "n", "a", "rows", "bottom", "top"] ["mode", "n", "a"] (defScope s_inverse) := ⟨rfl, rfl, rfl, by decide +kernel, rfl, by decide +kernel, by decide +kernel⟩
theorem up_lt_det {n : Nat} {rows : MatI} (h4 : n ≤ 4) (hl : rows.length = n) (hR : RectN n rows) (hS : Small 20000 rows) : (detM n rows).natAbs < 2 ^ 100000 := Nat.lt_trans (detM_lt h4 hl hR hS (Nat.le_refl _)) (Nat.pow_lt_pow_right (by decide) (by decide))
theorem adjM_lt {n : Nat} {rows : MatI} (h4 : n ≤ 4) (hl : rows.length = n) (hR : RectN n rows) (hS : Small 20000 rows) : ∀ t ∈ adjM rows n, t.natAbs < 2 ^ 80009 := fun t ht => by
  unfold adjM at ht
  obtain ⟨i, hi, ht⟩ := List.mem_flatMap.mp ht
  obtain ⟨j, hj, rfl⟩ := List.mem_map.mp ht
  have hi := List.mem_range.mp hi
  have hj := List.mem_range.mp hj
  obtain ⟨m, rfl⟩ : ∃ m, n = m + 1 := ⟨n - 1, by omega⟩
  rw [signed_abs]
  exact detM_lt (by omega) (minor_len hl hj) (minor_rect hR hi) (minor_small hS) (Nat.le_refl _)
theorem up_up (t : Int) : t * (UPi * UPi) = t * 2 ^ 2150 := by
  unfold UPi
  rw [← Int.pow_add]
theorem ok_inverse {C fI : Addr} {fdI : FuncData} {f : Addr} {fd : FuncData} (F : Fun K "inverse" "inverse" s_inverse f fd) (T : NumOk P w K mg base C (RatioNum C) 8 True) (M : Mk K C fI) (gC : mg "Ratio" = some (.ref C)) (GI : FnOk P w K mg base CX0 2 fI fdI ["self", "top", "bottom"] (sp_Ratio_init C)) (bI : Binds K fdI ["self", "top", "bottom"] [])
    (h1 : Has P w K mg base 3 "bad_matrix" ["m", "n", "most", "a"] (sp_bad_matrix K)) (h2 : Has P w K mg base 11 "answer" ["mode", "numbers"] (sp_answer K (RatioNum C))) (h3 : Has P w K mg base 3 "all_units" ["numbers"] (sp_all_units K)) (h4 : Has P w K mg base 1 "rows_of" ["a", "width"] (sp_rows_of K)) (h5 : Has P w K mg base 6 "determinant" ["rows"] (sp_determinant K 4)) (h6 : Has P w K mg base 7 "adjugate" ["rows"] (sp_adjugate K)) (cU : CI mg "UNIT" 1075) : FnOk P w K mg base CX0 12 f fd ["mode", "n", "a"] (sp_inverse K) := by
  refine F.ok sc_inverse (fun vs H Q E h => ?_) (fun cdv A outer s H vs Q E hr h => ?_)
  · obtain ⟨mode, n, l, ns, rfl, _⟩ := h
    rfl
  · obtain ⟨mode, n, l, ns, rfl, hn, hS, hl, hns, k⟩ := h
    have hr3 : Room 3 _ := hr.mono (by decide)
    refine ⟨_, pss_cons (ps_if (PW.pt (pw_or (pt_cmpR op_gt (pv 0) pe_int (nomark _)) (pw_or1 (pt_val (pe_callH h1 hr (pa_cons (pv 1) (pa_cons (pv 1) (pa_cons pe_int (pa_cons (pv 2) pa_nil))))))))) (pss_one (ps_ret (pe_lst (pa_cons (pe_un un_neg pe_int) pa_nil)))) pss_nil)
      (pss_cons (ps_set (i := 3) sc_inverse.nd rfl (.inl rfl) (pe_callH h4 hr (pa_cons (pe_callH h3 hr (pa_cons (pv 2) pa_nil)) (pa_cons (pv 1) pa_nil))))
      (pss_cons (ps_set (i := 4) sc_inverse.nd rfl (.inr rfl) (pe_callH h5 hr (pa_cons (pv 3) pa_nil)))
      (pss_cons (ps_if (pt_cmpR op_eq (pv 4) pe_int (nomark _)) (pss_one (ps_ret (pe_lst (pa_cons (pe_un un_neg pe_int) pa_nil)))) pss_nil)
      (pss_one (ps_ret (pe_callH h2 hr (pa_cons (pv 0) (pa_cons (pe_lc (own := [("top", 5)]) (g := gName 5) (tt := tYes) rfl sc_inverse.nd (pi_list (pe_callH h6 hr (pa_cons (pv 3) pa_nil))) (blkOk_by (own := [("top", 5)]) (N := ["mode", "n", "a", "rows", "bottom", "top"]) (sc := defScope s_inverse) (by decide +kernel))
        (fun _ _ _ _ _ => pg_name (i := 5) sc_inverse.nd rfl (Or.inl rfl)) (fun _ _ _ _ _ => pts_nil) (fun _ _ _ _ _ => pe_make M GI hr3 rfl gC bI .nil pass0 (pa_cons (pe_op op_shlN (pv 5) (pe_op op_mulX pe_int (pe_ci cU))) (pa_cons (pv 4) pa_nil)))) pa_nil)))))))), ?_⟩
    unfold inverseOf at k
    refine q_when (et_or (et_test (ev_op (ev_var rfl) ev_c rv_I0)) fun _ => et_B (ev_call (ea_cons (ev_var rfl) (ea_cons (ev_var rfl) (ea_cons ev_c (ea_cons (ev_var rfl) ea_nil)))) (sv_bad_matrix hn hn hS (by omega)))) (fun c H1 e1 => ?_) (fun c H1 e1 => ?_)
    · rw [if_pos c] at k
      exact s_retL (el_lst (ea_cons (ev_neg ev_c) ea_nil) len1) fun p H2 _ _ h2 => k H2 p h2
    · rw [if_neg (by rw [c]; decide)] at k
      obtain ⟨_, n', rfl, b1, b2, b3⟩ := square_of (mode := mode) hn (by rw [c]; decide)
      rw [Int.toNat_natCast] at k
      have hRs := rowsN_small (m := n') (n := n') hns
      have hRl := rowsOf_len (ns.map unitsOf) n' n'
      have hRr : RectN n' (rowsOf (ns.map unitsOf) n' n') := rowsN_rect
      refine q_asgR (er_units (ev_var rfl) (ev_var rfl) (ex_l e1 hS) (by omega) hns b3 b1 (by omega) (by omega)) fun pR H2 hpR e2 hR2 => ?_
      generalize hgR : rowsOf (ns.map unitsOf) n' n' = R at k hRs hRl hRr hR2
      have qd : ∀ {H3 : Hp}, Ex H2 H3 → SpV (sp_determinant K 4) [.ref pR] H3 (.int (detM n' R)) := fun {H3} e => by
        have q := sv_determinant (n := 4) (ex_rows e hR2) (by rw [hRl]; exact b2) (by rw [hRl]; exact hRr) hRs
        rw [hRl] at q
        exact q
      refine q_asg (ev_call (ea_cons (ev_var rfl) ea_nil) (qd (Ex.refl H2))) fun H3 e3 => ?_
      refine q_when (et_test (ev_op (ev_var rfl) ev_c (rv_eq rfl))) (fun c H4 e4 => ?_) (fun c H4 e4 => ?_)
      · have c : detM n' R = 0 := by simpa using c
        rw [if_pos c] at k
        exact s_retL (el_lst (ea_cons (ev_neg ev_c) ea_nil) len1) fun p H2 _ _ h2 => k H2 p h2
      · have c : ¬ detM n' R = 0 := by simpa using c
        rw [if_neg c] at k
        have ht := adjM_lt b2 hRl hRr hRs
        have hlen : (adjM R n').length = n' * n' := by unfold adjM; rw [flat_len]
        have h16 : n' * n' ≤ 4 * 4 := Nat.mul_le_mul b2 b2
        refine s_retL (el_answer T (ev_var rfl) (lp_ratiosN (tops := adjM R n') (g := fun t => t * (UPi * UPi)) (bottom := detM n' R) (el_call (vs := [.ref pR]) (ea_cons (ev_var rfl) ea_nil) (sl_adjugate (ex_rows (e3.trans e4) hR2) hRl b2 hRr hRs)) (by omega) (up_lt_det b2 hRl hRr hRs) (fun x => rfl) fun t ht2 H6 e6 => ea_cons (ev_is (ev_shl (k := 2150) (ev_var rfl) (ev_is (ev_mul (a := 3) (b := 11) ev_c ev_c (by decide) (by decide) (by decide)) (by decide)) (shl_ok (ht t ht2) (by decide))) (by rw [up_up])) (ea_cons (ev_var rfl) ea_nil)) (by rw [List.length_map, List.length_map]; omega)) fun p H6 _ _ h6 => k H6 p ?_
        rw [h6]
        rfl

end
theorem all_mk {P : Program} {w : World} {K : PySem.W.Frag} {h : Heap} {mg : Str → Option Value} {fa C_Ratio f_Ratio_init f_Ratio_side f_is_finite f_place_of f_point_at f_units_of f_all_units f_middle_above f_bits_of_lower f_bits_of_upper f_sign f_rows_of f_minor f_determinant f_signed f_adjugate f_all_finite f_bad_size f_bad_matrix f_neighbours f_goes_up f_rounded f_answer f_inverse : Addr} (X : K.In h) (G : h.Ns mainGlobals mg) (hfa : mg "inverse" = some (.ref fa))
    {od_Ratio_init an_Ratio_init od_Ratio_side an_Ratio_side od_is_finite an_is_finite od_place_of an_place_of od_point_at an_point_at od_units_of an_units_of od_all_units an_all_units od_middle_above an_middle_above od_bits_of_lower an_bits_of_lower od_bits_of_upper an_bits_of_upper od_sign an_sign od_rows_of an_rows_of od_minor an_minor od_determinant an_determinant od_signed an_signed od_adjugate an_adjugate od_all_finite an_all_finite od_bad_size an_bad_size od_bad_matrix an_bad_matrix od_neighbours an_neighbours od_goes_up an_goes_up od_rounded an_rounded od_answer an_answer od_inverse an_inverse : Option Addr} {sl_Ratio_init sl_Ratio_side sl_is_finite sl_place_of sl_point_at sl_units_of sl_all_units sl_middle_above sl_bits_of_lower sl_bits_of_upper sl_sign sl_rows_of sl_minor sl_determinant sl_signed sl_adjugate sl_all_finite sl_bad_size sl_bad_matrix sl_neighbours sl_goes_up sl_rounded sl_answer sl_inverse : Array (Option Value)} {oc_Ratio_init kV_Ratio_init dc_Ratio_init pm_Ratio_init cd_Ratio_init ct_Ratio_init oc_Ratio_side kV_Ratio_side dc_Ratio_side pm_Ratio_side cd_Ratio_side ct_Ratio_side oc_is_finite kV_is_finite dc_is_finite pm_is_finite cd_is_finite ct_is_finite oc_place_of kV_place_of dc_place_of pm_place_of cd_place_of ct_place_of oc_point_at kV_point_at dc_point_at pm_point_at cd_point_at ct_point_at oc_units_of kV_units_of dc_units_of pm_units_of cd_units_of ct_units_of oc_all_units kV_all_units dc_all_units pm_all_units cd_all_units ct_all_units oc_middle_above kV_middle_above dc_middle_above pm_middle_above cd_middle_above ct_middle_above oc_bits_of_lower kV_bits_of_lower dc_bits_of_lower pm_bits_of_lower cd_bits_of_lower ct_bits_of_lower oc_bits_of_upper kV_bits_of_upper dc_bits_of_upper pm_bits_of_upper cd_bits_of_upper ct_bits_of_upper oc_sign kV_sign dc_sign pm_sign cd_sign ct_sign oc_rows_of kV_rows_of dc_rows_of pm_rows_of cd_rows_of ct_rows_of oc_minor kV_minor dc_minor pm_minor cd_minor ct_minor oc_determinant kV_determinant dc_determinant pm_determinant cd_determinant ct_determinant oc_signed kV_signed dc_signed pm_signed cd_signed ct_signed oc_adjugate kV_adjugate dc_adjugate pm_adjugate cd_adjugate ct_adjugate oc_all_finite kV_all_finite dc_all_finite pm_all_finite cd_all_finite ct_all_finite oc_bad_size kV_bad_size dc_bad_size pm_bad_size cd_bad_size ct_bad_size oc_bad_matrix kV_bad_matrix dc_bad_matrix pm_bad_matrix cd_bad_matrix ct_bad_matrix oc_neighbours kV_neighbours dc_neighbours pm_neighbours cd_neighbours ct_neighbours oc_goes_up kV_goes_up dc_goes_up pm_goes_up cd_goes_up ct_goes_up oc_rounded kV_rounded dc_rounded pm_rounded cd_rounded ct_rounded oc_answer kV_answer dc_answer pm_answer cd_answer ct_answer oc_inverse kV_inverse dc_inverse pm_inverse cd_inverse ct_inverse : Value} {t_UNIT t_HIDDEN t_SIGN t_INFINITE : Tok}
    (g_UNIT : PySem.W.nsIn K mainGlobals "UNIT" = some (some (.int 1075 t_UNIT)))
    (g_HIDDEN : PySem.W.nsIn K mainGlobals "HIDDEN" = some (some (.int 4503599627370496 t_HIDDEN)))
    (g_SIGN : PySem.W.nsIn K mainGlobals "SIGN" = some (some (.int 9223372036854775808 t_SIGN)))
    (g_INFINITE : PySem.W.nsIn K mainGlobals "INFINITE" = some (some (.int 9218868437227405312 t_INFINITE)))
    (b_abs : PySem.W.nsIn K mainGlobals "abs" = some none)
    (b_all : PySem.W.nsIn K mainGlobals "all" = some none)
    (b_divmod : PySem.W.nsIn K mainGlobals "divmod" = some none)
    (b_len : PySem.W.nsIn K mainGlobals "len" = some none)
    (b_range : PySem.W.nsIn K mainGlobals "range" = some none)
    (aC_Ratio : PySem.W.nsIn K mainGlobals "Ratio" = some (some (.ref C_Ratio)))
    (a_Ratio_init : PySem.W.findIn K (.ref C_Ratio) "__init__" = some (some (.ref f_Ratio_init)))
    (i_Ratio_init : PySem.W.isFn K (.ref f_Ratio_init) = true)
    (l_Ratio_init : K.lookup f_Ratio_init = some ⟨oc_Ratio_init, od_Ratio_init, .func (PySem.W.fnOf "__init__" "Ratio.__init__" (defArgs s_Ratio___init__) (defBody s_Ratio___init__) (defScope s_Ratio___init__) .none kV_Ratio_init dc_Ratio_init pm_Ratio_init an_Ratio_init cd_Ratio_init ct_Ratio_init), sl_Ratio_init⟩)
    (c_Ratio_init : PySem.W.codeIn K cd_Ratio_init "Ratio.__init__" = true)
    (k_Ratio_init : PySem.W.keepIn K (.ref f_Ratio_init) = true)
    (a_Ratio_side : PySem.W.findIn K (.ref C_Ratio) "side" = some (some (.ref f_Ratio_side)))
    (i_Ratio_side : PySem.W.isFn K (.ref f_Ratio_side) = true)
    (l_Ratio_side : K.lookup f_Ratio_side = some ⟨oc_Ratio_side, od_Ratio_side, .func (PySem.W.fnOf "side" "Ratio.side" (defArgs s_Ratio_side) (defBody s_Ratio_side) (defScope s_Ratio_side) .none kV_Ratio_side dc_Ratio_side pm_Ratio_side an_Ratio_side cd_Ratio_side ct_Ratio_side), sl_Ratio_side⟩)
    (c_Ratio_side : PySem.W.codeIn K cd_Ratio_side "Ratio.side" = true)
    (k_Ratio_side : PySem.W.keepIn K (.ref f_Ratio_side) = true)
    (pg_Ratio : PySem.W.plainGet K C_Ratio Str.empty = true)
    (hd_Ratio : PySem.W.hasDictIn K C_Ratio = true)
    (po_Ratio : PySem.W.plainOver K C_Ratio = true)
    (sa_Ratio : PySem.W.findIn K (.ref C_Ratio) "__setattr__" = some (some (.builtin "object.__setattr__")))
    (mk_Ratio : PySem.W.makesIn K C_Ratio = true)
    (kc_Ratio : PySem.W.keepIn K (.ref C_Ratio) = true)
    (n_Ratio_top : PySem.W.findIn K (.ref C_Ratio) "top" = some none)
    (n_Ratio_bottom : PySem.W.findIn K (.ref C_Ratio) "bottom" = some none)
    (a_is_finite : PySem.W.nsIn K mainGlobals "is_finite" = some (some (.ref f_is_finite)))
    (l_is_finite : K.lookup f_is_finite = some ⟨oc_is_finite, od_is_finite, .func (PySem.W.fnOf "is_finite" "is_finite" (defArgs s_is_finite) (defBody s_is_finite) (defScope s_is_finite) .none kV_is_finite dc_is_finite pm_is_finite an_is_finite cd_is_finite ct_is_finite), sl_is_finite⟩)
    (c_is_finite : PySem.W.codeIn K cd_is_finite "is_finite" = true)
    (k_is_finite : PySem.W.keepIn K (.ref f_is_finite) = true)
    (a_place_of : PySem.W.nsIn K mainGlobals "place_of" = some (some (.ref f_place_of)))
    (l_place_of : K.lookup f_place_of = some ⟨oc_place_of, od_place_of, .func (PySem.W.fnOf "place_of" "place_of" (defArgs s_place_of) (defBody s_place_of) (defScope s_place_of) .none kV_place_of dc_place_of pm_place_of an_place_of cd_place_of ct_place_of), sl_place_of⟩)
    (c_place_of : PySem.W.codeIn K cd_place_of "place_of" = true)
    (k_place_of : PySem.W.keepIn K (.ref f_place_of) = true)
    (a_point_at : PySem.W.nsIn K mainGlobals "point_at" = some (some (.ref f_point_at)))
    (l_point_at : K.lookup f_point_at = some ⟨oc_point_at, od_point_at, .func (PySem.W.fnOf "point_at" "point_at" (defArgs s_point_at) (defBody s_point_at) (defScope s_point_at) .none kV_point_at dc_point_at pm_point_at an_point_at cd_point_at ct_point_at), sl_point_at⟩)
    (c_point_at : PySem.W.codeIn K cd_point_at "point_at" = true)
    (k_point_at : PySem.W.keepIn K (.ref f_point_at) = true)
    (a_units_of : PySem.W.nsIn K mainGlobals "units_of" = some (some (.ref f_units_of)))
    (l_units_of : K.lookup f_units_of = some ⟨oc_units_of, od_units_of, .func (PySem.W.fnOf "units_of" "units_of" (defArgs s_units_of) (defBody s_units_of) (defScope s_units_of) .none kV_units_of dc_units_of pm_units_of an_units_of cd_units_of ct_units_of), sl_units_of⟩)
    (c_units_of : PySem.W.codeIn K cd_units_of "units_of" = true)
    (k_units_of : PySem.W.keepIn K (.ref f_units_of) = true)
    (a_all_units : PySem.W.nsIn K mainGlobals "all_units" = some (some (.ref f_all_units)))
    (l_all_units : K.lookup f_all_units = some ⟨oc_all_units, od_all_units, .func (PySem.W.fnOf "all_units" "all_units" (defArgs s_all_units) (defBody s_all_units) (defScope s_all_units) .none kV_all_units dc_all_units pm_all_units an_all_units cd_all_units ct_all_units), sl_all_units⟩)
    (c_all_units : PySem.W.codeIn K cd_all_units "all_units" = true)
    (k_all_units : PySem.W.keepIn K (.ref f_all_units) = true)
    (a_middle_above : PySem.W.nsIn K mainGlobals "middle_above" = some (some (.ref f_middle_above)))
    (l_middle_above : K.lookup f_middle_above = some ⟨oc_middle_above, od_middle_above, .func (PySem.W.fnOf "middle_above" "middle_above" (defArgs s_middle_above) (defBody s_middle_above) (defScope s_middle_above) .none kV_middle_above dc_middle_above pm_middle_above an_middle_above cd_middle_above ct_middle_above), sl_middle_above⟩)
    (c_middle_above : PySem.W.codeIn K cd_middle_above "middle_above" = true)
    (k_middle_above : PySem.W.keepIn K (.ref f_middle_above) = true)
    (a_bits_of_lower : PySem.W.nsIn K mainGlobals "bits_of_lower" = some (some (.ref f_bits_of_lower)))
    (l_bits_of_lower : K.lookup f_bits_of_lower = some ⟨oc_bits_of_lower, od_bits_of_lower, .func (PySem.W.fnOf "bits_of_lower" "bits_of_lower" (defArgs s_bits_of_lower) (defBody s_bits_of_lower) (defScope s_bits_of_lower) .none kV_bits_of_lower dc_bits_of_lower pm_bits_of_lower an_bits_of_lower cd_bits_of_lower ct_bits_of_lower), sl_bits_of_lower⟩)
    (c_bits_of_lower : PySem.W.codeIn K cd_bits_of_lower "bits_of_lower" = true)
    (k_bits_of_lower : PySem.W.keepIn K (.ref f_bits_of_lower) = true)
    (a_bits_of_upper : PySem.W.nsIn K mainGlobals "bits_of_upper" = some (some (.ref f_bits_of_upper)))
    (l_bits_of_upper : K.lookup f_bits_of_upper = some ⟨oc_bits_of_upper, od_bits_of_upper, .func (PySem.W.fnOf "bits_of_upper" "bits_of_upper" (defArgs s_bits_of_upper) (defBody s_bits_of_upper) (defScope s_bits_of_upper) .none kV_bits_of_upper dc_bits_of_upper pm_bits_of_upper an_bits_of_upper cd_bits_of_upper ct_bits_of_upper), sl_bits_of_upper⟩)
    (c_bits_of_upper : PySem.W.codeIn K cd_bits_of_upper "bits_of_upper" = true)
    (k_bits_of_upper : PySem.W.keepIn K (.ref f_bits_of_upper) = true)
    (a_sign : PySem.W.nsIn K mainGlobals "sign" = some (some (.ref f_sign)))
    (l_sign : K.lookup f_sign = some ⟨oc_sign, od_sign, .func (PySem.W.fnOf "sign" "sign" (defArgs s_sign) (defBody s_sign) (defScope s_sign) .none kV_sign dc_sign pm_sign an_sign cd_sign ct_sign), sl_sign⟩)
    (c_sign : PySem.W.codeIn K cd_sign "sign" = true)
    (k_sign : PySem.W.keepIn K (.ref f_sign) = true)
    (a_rows_of : PySem.W.nsIn K mainGlobals "rows_of" = some (some (.ref f_rows_of)))
    (l_rows_of : K.lookup f_rows_of = some ⟨oc_rows_of, od_rows_of, .func (PySem.W.fnOf "rows_of" "rows_of" (defArgs s_rows_of) (defBody s_rows_of) (defScope s_rows_of) .none kV_rows_of dc_rows_of pm_rows_of an_rows_of cd_rows_of ct_rows_of), sl_rows_of⟩)
    (c_rows_of : PySem.W.codeIn K cd_rows_of "rows_of" = true)
    (k_rows_of : PySem.W.keepIn K (.ref f_rows_of) = true)
    (a_minor : PySem.W.nsIn K mainGlobals "minor" = some (some (.ref f_minor)))
    (l_minor : K.lookup f_minor = some ⟨oc_minor, od_minor, .func (PySem.W.fnOf "minor" "minor" (defArgs s_minor) (defBody s_minor) (defScope s_minor) .none kV_minor dc_minor pm_minor an_minor cd_minor ct_minor), sl_minor⟩)
    (c_minor : PySem.W.codeIn K cd_minor "minor" = true)
    (k_minor : PySem.W.keepIn K (.ref f_minor) = true)
    (a_determinant : PySem.W.nsIn K mainGlobals "determinant" = some (some (.ref f_determinant)))
    (l_determinant : K.lookup f_determinant = some ⟨oc_determinant, od_determinant, .func (PySem.W.fnOf "determinant" "determinant" (defArgs s_determinant) (defBody s_determinant) (defScope s_determinant) .none kV_determinant dc_determinant pm_determinant an_determinant cd_determinant ct_determinant), sl_determinant⟩)
    (c_determinant : PySem.W.codeIn K cd_determinant "determinant" = true)
    (k_determinant : PySem.W.keepIn K (.ref f_determinant) = true)
    (a_signed : PySem.W.nsIn K mainGlobals "signed" = some (some (.ref f_signed)))
    (l_signed : K.lookup f_signed = some ⟨oc_signed, od_signed, .func (PySem.W.fnOf "signed" "signed" (defArgs s_signed) (defBody s_signed) (defScope s_signed) .none kV_signed dc_signed pm_signed an_signed cd_signed ct_signed), sl_signed⟩)
    (c_signed : PySem.W.codeIn K cd_signed "signed" = true)
    (k_signed : PySem.W.keepIn K (.ref f_signed) = true)
    (a_adjugate : PySem.W.nsIn K mainGlobals "adjugate" = some (some (.ref f_adjugate)))
    (l_adjugate : K.lookup f_adjugate = some ⟨oc_adjugate, od_adjugate, .func (PySem.W.fnOf "adjugate" "adjugate" (defArgs s_adjugate) (defBody s_adjugate) (defScope s_adjugate) .none kV_adjugate dc_adjugate pm_adjugate an_adjugate cd_adjugate ct_adjugate), sl_adjugate⟩)
    (c_adjugate : PySem.W.codeIn K cd_adjugate "adjugate" = true)
    (k_adjugate : PySem.W.keepIn K (.ref f_adjugate) = true)
    (a_all_finite : PySem.W.nsIn K mainGlobals "all_finite" = some (some (.ref f_all_finite)))
    (l_all_finite : K.lookup f_all_finite = some ⟨oc_all_finite, od_all_finite, .func (PySem.W.fnOf "all_finite" "all_finite" (defArgs s_all_finite) (defBody s_all_finite) (defScope s_all_finite) .none kV_all_finite dc_all_finite pm_all_finite an_all_finite cd_all_finite ct_all_finite), sl_all_finite⟩)
    (c_all_finite : PySem.W.codeIn K cd_all_finite "all_finite" = true)
    (k_all_finite : PySem.W.keepIn K (.ref f_all_finite) = true)
    (a_bad_size : PySem.W.nsIn K mainGlobals "bad_size" = some (some (.ref f_bad_size)))
    (l_bad_size : K.lookup f_bad_size = some ⟨oc_bad_size, od_bad_size, .func (PySem.W.fnOf "bad_size" "bad_size" (defArgs s_bad_size) (defBody s_bad_size) (defScope s_bad_size) .none kV_bad_size dc_bad_size pm_bad_size an_bad_size cd_bad_size ct_bad_size), sl_bad_size⟩)
    (c_bad_size : PySem.W.codeIn K cd_bad_size "bad_size" = true)
    (k_bad_size : PySem.W.keepIn K (.ref f_bad_size) = true)
    (a_bad_matrix : PySem.W.nsIn K mainGlobals "bad_matrix" = some (some (.ref f_bad_matrix)))
    (l_bad_matrix : K.lookup f_bad_matrix = some ⟨oc_bad_matrix, od_bad_matrix, .func (PySem.W.fnOf "bad_matrix" "bad_matrix" (defArgs s_bad_matrix) (defBody s_bad_matrix) (defScope s_bad_matrix) .none kV_bad_matrix dc_bad_matrix pm_bad_matrix an_bad_matrix cd_bad_matrix ct_bad_matrix), sl_bad_matrix⟩)
    (c_bad_matrix : PySem.W.codeIn K cd_bad_matrix "bad_matrix" = true)
    (k_bad_matrix : PySem.W.keepIn K (.ref f_bad_matrix) = true)
    (a_neighbours : PySem.W.nsIn K mainGlobals "neighbours" = some (some (.ref f_neighbours)))
    (l_neighbours : K.lookup f_neighbours = some ⟨oc_neighbours, od_neighbours, .func (PySem.W.fnOf "neighbours" "neighbours" (defArgs s_neighbours) (defBody s_neighbours) (defScope s_neighbours) .none kV_neighbours dc_neighbours pm_neighbours an_neighbours cd_neighbours ct_neighbours), sl_neighbours⟩)
    (c_neighbours : PySem.W.codeIn K cd_neighbours "neighbours" = true)
    (k_neighbours : PySem.W.keepIn K (.ref f_neighbours) = true)
    (a_goes_up : PySem.W.nsIn K mainGlobals "goes_up" = some (some (.ref f_goes_up)))
    (l_goes_up : K.lookup f_goes_up = some ⟨oc_goes_up, od_goes_up, .func (PySem.W.fnOf "goes_up" "goes_up" (defArgs s_goes_up) (defBody s_goes_up) (defScope s_goes_up) .none kV_goes_up dc_goes_up pm_goes_up an_goes_up cd_goes_up ct_goes_up), sl_goes_up⟩)
    (c_goes_up : PySem.W.codeIn K cd_goes_up "goes_up" = true)
    (k_goes_up : PySem.W.keepIn K (.ref f_goes_up) = true)
    (a_rounded : PySem.W.nsIn K mainGlobals "rounded" = some (some (.ref f_rounded)))
    (l_rounded : K.lookup f_rounded = some ⟨oc_rounded, od_rounded, .func (PySem.W.fnOf "rounded" "rounded" (defArgs s_rounded) (defBody s_rounded) (defScope s_rounded) .none kV_rounded dc_rounded pm_rounded an_rounded cd_rounded ct_rounded), sl_rounded⟩)
    (c_rounded : PySem.W.codeIn K cd_rounded "rounded" = true)
    (k_rounded : PySem.W.keepIn K (.ref f_rounded) = true)
    (a_answer : PySem.W.nsIn K mainGlobals "answer" = some (some (.ref f_answer)))
    (l_answer : K.lookup f_answer = some ⟨oc_answer, od_answer, .func (PySem.W.fnOf "answer" "answer" (defArgs s_answer) (defBody s_answer) (defScope s_answer) .none kV_answer dc_answer pm_answer an_answer cd_answer ct_answer), sl_answer⟩)
    (c_answer : PySem.W.codeIn K cd_answer "answer" = true)
    (k_answer : PySem.W.keepIn K (.ref f_answer) = true)
    (a_inverse : PySem.W.nsIn K mainGlobals "inverse" = some (some (.ref f_inverse)))
    (l_inverse : K.lookup f_inverse = some ⟨oc_inverse, od_inverse, .func (PySem.W.fnOf "inverse" "inverse" (defArgs s_inverse) (defBody s_inverse) (defScope s_inverse) .none kV_inverse dc_inverse pm_inverse an_inverse cd_inverse ct_inverse), sl_inverse⟩)
    (c_inverse : PySem.W.codeIn K cd_inverse "inverse" = true)
    (k_inverse : PySem.W.keepIn K (.ref f_inverse) = true)
    : ∃ fd : FuncData, (∀ (s : Shared) (us : List Value), us.length = (["mode", "n", "a"] : List Str).length → BindsTo s fd ⟨us, []⟩ ((["mode", "n", "a"] : List Str).zip us)) ∧ ∀ base : Heap, K.In base → base.Ns mainGlobals mg → FnOk P w K mg base CX0 12 fa fd ["mode", "n", "a"] (sp_inverse K) := by
  have e := hfa.symm.trans (PySem.W.mg_of X G a_inverse)
  cases e
  have F_is_finite := fun_mk (st := s_is_finite) l_is_finite c_is_finite k_is_finite
  have B_is_finite := F_is_finite.binds (ps := ["bits"]) fun _ _ _ _ _ _ us hl => match us, hl with | [_], _ => rfl
  have F_place_of := fun_mk (st := s_place_of) l_place_of c_place_of k_place_of
  have B_place_of := F_place_of.binds (ps := ["bits"]) fun _ _ _ _ _ _ us hl => match us, hl with | [_], _ => rfl
  have F_point_at := fun_mk (st := s_point_at) l_point_at c_point_at k_point_at
  have B_point_at := F_point_at.binds (ps := ["place"]) fun _ _ _ _ _ _ us hl => match us, hl with | [_], _ => rfl
  have F_units_of := fun_mk (st := s_units_of) l_units_of c_units_of k_units_of
  have B_units_of := F_units_of.binds (ps := ["bits"]) fun _ _ _ _ _ _ us hl => match us, hl with | [_], _ => rfl
  have F_all_units := fun_mk (st := s_all_units) l_all_units c_all_units k_all_units
  have B_all_units := F_all_units.binds (ps := ["numbers"]) fun _ _ _ _ _ _ us hl => match us, hl with | [_], _ => rfl
  have F_middle_above := fun_mk (st := s_middle_above) l_middle_above c_middle_above k_middle_above
  have B_middle_above := F_middle_above.binds (ps := ["place"]) fun _ _ _ _ _ _ us hl => match us, hl with | [_], _ => rfl
  have F_bits_of_lower := fun_mk (st := s_bits_of_lower) l_bits_of_lower c_bits_of_lower k_bits_of_lower
  have B_bits_of_lower := F_bits_of_lower.binds (ps := ["place"]) fun _ _ _ _ _ _ us hl => match us, hl with | [_], _ => rfl
  have F_bits_of_upper := fun_mk (st := s_bits_of_upper) l_bits_of_upper c_bits_of_upper k_bits_of_upper
  have B_bits_of_upper := F_bits_of_upper.binds (ps := ["place"]) fun _ _ _ _ _ _ us hl => match us, hl with | [_], _ => rfl
  have F_sign := fun_mk (st := s_sign) l_sign c_sign k_sign
  have B_sign := F_sign.binds (ps := ["number"]) fun _ _ _ _ _ _ us hl => match us, hl with | [_], _ => rfl
  have F_rows_of := fun_mk (st := s_rows_of) l_rows_of c_rows_of k_rows_of
  have B_rows_of := F_rows_of.binds (ps := ["a", "width"]) fun _ _ _ _ _ _ us hl => match us, hl with | [_, _], _ => rfl
  have F_minor := fun_mk (st := s_minor) l_minor c_minor k_minor
  have B_minor := F_minor.binds (ps := ["rows", "i", "j"]) fun _ _ _ _ _ _ us hl => match us, hl with | [_, _, _], _ => rfl
  have F_determinant := fun_mk (st := s_determinant) l_determinant c_determinant k_determinant
  have B_determinant := F_determinant.binds (ps := ["rows"]) fun _ _ _ _ _ _ us hl => match us, hl with | [_], _ => rfl
  have F_signed := fun_mk (st := s_signed) l_signed c_signed k_signed
  have B_signed := F_signed.binds (ps := ["power", "number"]) fun _ _ _ _ _ _ us hl => match us, hl with | [_, _], _ => rfl
  have F_adjugate := fun_mk (st := s_adjugate) l_adjugate c_adjugate k_adjugate
  have B_adjugate := F_adjugate.binds (ps := ["rows"]) fun _ _ _ _ _ _ us hl => match us, hl with | [_], _ => rfl
  have F_all_finite := fun_mk (st := s_all_finite) l_all_finite c_all_finite k_all_finite
  have B_all_finite := F_all_finite.binds (ps := ["numbers"]) fun _ _ _ _ _ _ us hl => match us, hl with | [_], _ => rfl
  have F_bad_size := fun_mk (st := s_bad_size) l_bad_size c_bad_size k_bad_size
  have B_bad_size := F_bad_size.binds (ps := ["size", "most"]) fun _ _ _ _ _ _ us hl => match us, hl with | [_, _], _ => rfl
  have F_bad_matrix := fun_mk (st := s_bad_matrix) l_bad_matrix c_bad_matrix k_bad_matrix
  have B_bad_matrix := F_bad_matrix.binds (ps := ["m", "n", "most", "a"]) fun _ _ _ _ _ _ us hl => match us, hl with | [_, _, _, _], _ => rfl
  have F_neighbours := fun_mk (st := s_neighbours) l_neighbours c_neighbours k_neighbours
  have B_neighbours := F_neighbours.binds (ps := ["number"]) fun _ _ _ _ _ _ us hl => match us, hl with | [_], _ => rfl
  have F_goes_up := fun_mk (st := s_goes_up) l_goes_up c_goes_up k_goes_up
  have B_goes_up := F_goes_up.binds (ps := ["mode", "number", "low"]) fun _ _ _ _ _ _ us hl => match us, hl with | [_, _, _], _ => rfl
  have F_rounded := fun_mk (st := s_rounded) l_rounded c_rounded k_rounded
  have B_rounded := F_rounded.binds (ps := ["mode", "number"]) fun _ _ _ _ _ _ us hl => match us, hl with | [_, _], _ => rfl
  have F_answer := fun_mk (st := s_answer) l_answer c_answer k_answer
  have B_answer := F_answer.binds (ps := ["mode", "numbers"]) fun _ _ _ _ _ _ us hl => match us, hl with | [_, _], _ => rfl
  have F_inverse := fun_mk (st := s_inverse) l_inverse c_inverse k_inverse
  have B_inverse := F_inverse.binds (ps := ["mode", "n", "a"]) fun _ _ _ _ _ _ us hl => match us, hl with | [_, _, _], _ => rfl
  have F_Ratio_init := fun_mk (st := s_Ratio___init__) l_Ratio_init c_Ratio_init k_Ratio_init
  have B_Ratio_init := F_Ratio_init.binds (ps := ["self", "top", "bottom"]) fun _ _ _ _ _ _ us hl => match us, hl with | [_, _, _], _ => rfl
  have F_Ratio_side := fun_mk (st := s_Ratio_side) l_Ratio_side c_Ratio_side k_Ratio_side
  have B_Ratio_side := F_Ratio_side.binds (ps := ["self", "m", "s"]) fun _ _ _ _ _ _ us hl => match us, hl with | [_, _, _], _ => rfl
  refine ⟨PySem.W.fnOf "inverse" "inverse" (defArgs s_inverse) (defBody s_inverse) (defScope s_inverse) .none kV_inverse dc_inverse pm_inverse an_inverse cd_inverse ct_inverse, fun s us hu => match us, hu with | [_, _, _], _ => .of_eq rfl, fun base _ _ => ?_⟩
  have G_is_finite : FnOk P w K mg base CX0 1 _ _ ["bits"] sp_is_finite := ok_is_finite F_is_finite ⟨_, PySem.W.mg_of X G g_SIGN⟩ ⟨_, PySem.W.mg_of X G g_INFINITE⟩
  have H_is_finite : Has P w K mg base 1 "is_finite" ["bits"] sp_is_finite := ⟨_, _, G_is_finite, PySem.W.mg_of X G a_is_finite, k_is_finite, B_is_finite⟩
  have G_place_of : FnOk P w K mg base CX0 1 _ _ ["bits"] sp_place_of := ok_place_of F_place_of ⟨_, PySem.W.mg_of X G g_SIGN⟩
  have H_place_of : Has P w K mg base 1 "place_of" ["bits"] sp_place_of := ⟨_, _, G_place_of, PySem.W.mg_of X G a_place_of, k_place_of, B_place_of⟩
  have G_point_at : FnOk P w K mg base CX0 1 _ _ ["place"] sp_point_at := ok_point_at F_point_at ⟨_, PySem.W.mg_of X G g_HIDDEN⟩ (PySem.W.mg_none_of X G b_divmod) (PySem.W.mg_none_of X G b_abs)
  have H_point_at : Has P w K mg base 1 "point_at" ["place"] sp_point_at := ⟨_, _, G_point_at, PySem.W.mg_of X G a_point_at, k_point_at, B_point_at⟩
  have G_units_of : FnOk P w K mg base CX0 2 _ _ ["bits"] sp_units_of := ok_units_of F_units_of H_point_at H_place_of
  have H_units_of : Has P w K mg base 2 "units_of" ["bits"] sp_units_of := ⟨_, _, G_units_of, PySem.W.mg_of X G a_units_of, k_units_of, B_units_of⟩
  have G_all_units : FnOk P w K mg base CX0 3 _ _ ["numbers"] (sp_all_units K) := ok_all_units F_all_units H_units_of
  have H_all_units : Has P w K mg base 3 "all_units" ["numbers"] (sp_all_units K) := ⟨_, _, G_all_units, PySem.W.mg_of X G a_all_units, k_all_units, B_all_units⟩
  have G_middle_above : FnOk P w K mg base CX0 2 _ _ ["place"] sp_middle_above := ok_middle_above F_middle_above H_point_at
  have H_middle_above : Has P w K mg base 2 "middle_above" ["place"] sp_middle_above := ⟨_, _, G_middle_above, PySem.W.mg_of X G a_middle_above, k_middle_above, B_middle_above⟩
  have G_bits_of_lower : FnOk P w K mg base CX0 1 _ _ ["place"] sp_bits_of_lower := ok_bits_of_lower F_bits_of_lower ⟨_, PySem.W.mg_of X G g_SIGN⟩
  have H_bits_of_lower : Has P w K mg base 1 "bits_of_lower" ["place"] sp_bits_of_lower := ⟨_, _, G_bits_of_lower, PySem.W.mg_of X G a_bits_of_lower, k_bits_of_lower, B_bits_of_lower⟩
  have G_bits_of_upper : FnOk P w K mg base CX0 1 _ _ ["place"] sp_bits_of_upper := ok_bits_of_upper F_bits_of_upper ⟨_, PySem.W.mg_of X G g_SIGN⟩
  have H_bits_of_upper : Has P w K mg base 1 "bits_of_upper" ["place"] sp_bits_of_upper := ⟨_, _, G_bits_of_upper, PySem.W.mg_of X G a_bits_of_upper, k_bits_of_upper, B_bits_of_upper⟩
  have G_sign : FnOk P w K mg base CX0 1 _ _ ["number"] sp_sign := ok_sign F_sign 
  have H_sign : Has P w K mg base 1 "sign" ["number"] sp_sign := ⟨_, _, G_sign, PySem.W.mg_of X G a_sign, k_sign, B_sign⟩
  have G_rows_of : FnOk P w K mg base CX0 1 _ _ ["a", "width"] (sp_rows_of K) := ok_rows_of F_rows_of (PySem.W.mg_none_of X G b_range) (PySem.W.mg_none_of X G b_len)
  have H_rows_of : Has P w K mg base 1 "rows_of" ["a", "width"] (sp_rows_of K) := ⟨_, _, G_rows_of, PySem.W.mg_of X G a_rows_of, k_rows_of, B_rows_of⟩
  have G_minor : FnOk P w K mg base CX0 1 _ _ ["rows", "i", "j"] (sp_minor K) := ok_minor F_minor 
  have H_minor : Has P w K mg base 1 "minor" ["rows", "i", "j"] (sp_minor K) := ⟨_, _, G_minor, PySem.W.mg_of X G a_minor, k_minor, B_minor⟩
  have G_signed : FnOk P w K mg base CX0 1 _ _ ["power", "number"] sp_signed := ok_signed F_signed 
  have H_signed : Has P w K mg base 1 "signed" ["power", "number"] sp_signed := ⟨_, _, G_signed, PySem.W.mg_of X G a_signed, k_signed, B_signed⟩
  have G_determinant : FnOk P w K mg base CX0 6 _ _ ["rows"] (sp_determinant K 4) := ok_determinant F_determinant (PySem.W.mg_of X G a_determinant) k_determinant B_determinant H_minor H_signed (PySem.W.mg_none_of X G b_range) (PySem.W.mg_none_of X G b_len) 4 (by decide)
  have H_determinant : Has P w K mg base 6 "determinant" ["rows"] (sp_determinant K 4) := ⟨_, _, G_determinant, PySem.W.mg_of X G a_determinant, k_determinant, B_determinant⟩
  have G_adjugate : FnOk P w K mg base CX0 7 _ _ ["rows"] (sp_adjugate K) := ok_adjugate F_adjugate H_determinant H_minor H_signed (PySem.W.mg_none_of X G b_range) (PySem.W.mg_none_of X G b_len)
  have H_adjugate : Has P w K mg base 7 "adjugate" ["rows"] (sp_adjugate K) := ⟨_, _, G_adjugate, PySem.W.mg_of X G a_adjugate, k_adjugate, B_adjugate⟩
  have G_all_finite : FnOk P w K mg base CX0 2 _ _ ["numbers"] (sp_all_finite K) := ok_all_finite F_all_finite H_is_finite (PySem.W.mg_none_of X G b_all)
  have H_all_finite : Has P w K mg base 2 "all_finite" ["numbers"] (sp_all_finite K) := ⟨_, _, G_all_finite, PySem.W.mg_of X G a_all_finite, k_all_finite, B_all_finite⟩
  have G_bad_size : FnOk P w K mg base CX0 1 _ _ ["size", "most"] sp_bad_size := ok_bad_size F_bad_size 
  have H_bad_size : Has P w K mg base 1 "bad_size" ["size", "most"] sp_bad_size := ⟨_, _, G_bad_size, PySem.W.mg_of X G a_bad_size, k_bad_size, B_bad_size⟩
  have G_bad_matrix : FnOk P w K mg base CX0 3 _ _ ["m", "n", "most", "a"] (sp_bad_matrix K) := ok_bad_matrix F_bad_matrix H_bad_size H_all_finite (PySem.W.mg_none_of X G b_len)
  have H_bad_matrix : Has P w K mg base 3 "bad_matrix" ["m", "n", "most", "a"] (sp_bad_matrix K) := ⟨_, _, G_bad_matrix, PySem.W.mg_of X G a_bad_matrix, k_bad_matrix, B_bad_matrix⟩
  have TX : TxtRatio K C_Ratio := ⟨⟨pg_Ratio, hd_Ratio, po_Ratio, sa_Ratio⟩, n_Ratio_top, n_Ratio_bottom⟩
  have G_Ratio_init : FnOk P w K mg base CX0 2 f_Ratio_init _ ["self", "top", "bottom"] (sp_Ratio_init C_Ratio) := ok_Ratio_init F_Ratio_init TX H_sign (PySem.W.mg_none_of X G b_abs)
  have G_Ratio_side : FnOk P w K mg base CX0 2 f_Ratio_side _ ["self", "m", "s"] (sp_side (RatioNum C_Ratio)) := ok_Ratio_side F_Ratio_side TX H_sign
  have T : NumOk P w K mg base C_Ratio (RatioNum C_Ratio) 8 True := ⟨⟨pg_Ratio, hd_Ratio, po_Ratio, sa_Ratio⟩, ⟨_, _, ⟨a_Ratio_side, i_Ratio_side, k_Ratio_side⟩, G_Ratio_side.mono (by decide), B_Ratio_side⟩, RatioNum.st, RatioNum.ins⟩
  have G_neighbours : FnOk P w K mg base CX0 9 _ _ ["number"] (sp_neighbours (RatioNum C_Ratio)) := ok_neighbours F_neighbours T H_point_at ⟨_, PySem.W.mg_of X G g_INFINITE⟩
  have H_neighbours : Has P w K mg base 9 "neighbours" ["number"] (sp_neighbours (RatioNum C_Ratio)) := ⟨_, _, G_neighbours, PySem.W.mg_of X G a_neighbours, k_neighbours, B_neighbours⟩
  have G_goes_up : FnOk P w K mg base CX0 9 _ _ ["mode", "number", "low"] (sp_goes_up (RatioNum C_Ratio)) := ok_goes_up F_goes_up T H_middle_above
  have H_goes_up : Has P w K mg base 9 "goes_up" ["mode", "number", "low"] (sp_goes_up (RatioNum C_Ratio)) := ⟨_, _, G_goes_up, PySem.W.mg_of X G a_goes_up, k_goes_up, B_goes_up⟩
  have G_rounded : FnOk P w K mg base CX0 10 _ _ ["mode", "number"] (sp_rounded (RatioNum C_Ratio)) := ok_rounded F_rounded T H_neighbours H_goes_up H_bits_of_lower H_bits_of_upper
  have H_rounded : Has P w K mg base 10 "rounded" ["mode", "number"] (sp_rounded (RatioNum C_Ratio)) := ⟨_, _, G_rounded, PySem.W.mg_of X G a_rounded, k_rounded, B_rounded⟩
  have G_answer : FnOk P w K mg base CX0 11 _ _ ["mode", "numbers"] (sp_answer K (RatioNum C_Ratio)) := ok_answer F_answer T H_rounded
  have H_answer : Has P w K mg base 11 "answer" ["mode", "numbers"] (sp_answer K (RatioNum C_Ratio)) := ⟨_, _, G_answer, PySem.W.mg_of X G a_answer, k_answer, B_answer⟩
  have G_inverse : FnOk P w K mg base CX0 12 _ _ ["mode", "n", "a"] (sp_inverse K) := ok_inverse F_inverse T ⟨mk_Ratio, a_Ratio_init, i_Ratio_init, kc_Ratio⟩ (PySem.W.mg_of X G aC_Ratio) G_Ratio_init B_Ratio_init H_bad_matrix H_answer H_all_units H_rows_of H_determinant H_adjugate ⟨_, PySem.W.mg_of X G g_UNIT⟩
  have H_inverse : Has P w K mg base 12 "inverse" ["mode", "n", "a"] (sp_inverse K) := ⟨_, _, G_inverse, PySem.W.mg_of X G a_inverse, k_inverse, B_inverse⟩
  exact G_inverse
end Desk
open PySem PySem.W PyProof.Rows
set_option maxRecDepth 100000 in
set_option maxHeartbeats 0 in
theorem PySem.Challenge.cw_onceroundeddesk_s08_inverse_holds : PySem.Challenge.rw_onceroundeddesk_s08_inverse.Holds := by
  w_on; k_headS; (case hw => exact ⟨[.int 0, .int 0, .list []], by decide +kernel, by decide +kernel⟩)
  k_fillS
  refine L2.walk_specK (r := PySem.Challenge.rw_onceroundeddesk_s08_inverse) (k := 12) (CX := L2.CX0) (ps := ["mode", "n", "a"]) (sp := fun K => Desk.sp_inverse K) (by decide +kernel) rfl rfl ⟨rfl, by decide, by decide⟩ (fun w h Y => PySem.W.kIn_of Y) ?F ?S (fun _ _ _ _ z => z)
  case F =>
    intro w mg fa h Y KX G hmg
    refine' Desk.all_mk KX G hmg ?g_UNIT ?g_HIDDEN ?g_SIGN ?g_INFINITE ?b_abs ?b_all ?b_divmod ?b_len ?b_range ?aC_Ratio ?a_Ratio_init ?i_Ratio_init ?l_Ratio_init ?c_Ratio_init ?k_Ratio_init ?a_Ratio_side ?i_Ratio_side ?l_Ratio_side ?c_Ratio_side ?k_Ratio_side ?pg_Ratio ?hd_Ratio ?po_Ratio ?sa_Ratio ?mk_Ratio ?kc_Ratio ?n_Ratio_top ?n_Ratio_bottom ?a_is_finite ?l_is_finite ?c_is_finite ?k_is_finite ?a_place_of ?l_place_of ?c_place_of ?k_place_of ?a_point_at ?l_point_at ?c_point_at ?k_point_at ?a_units_of ?l_units_of ?c_units_of ?k_units_of ?a_all_units ?l_all_units ?c_all_units ?k_all_units ?a_middle_above ?l_middle_above ?c_middle_above ?k_middle_above ?a_bits_of_lower ?l_bits_of_lower ?c_bits_of_lower ?k_bits_of_lower ?a_bits_of_upper ?l_bits_of_upper ?c_bits_of_upper ?k_bits_of_upper ?a_sign ?l_sign ?c_sign ?k_sign ?a_rows_of ?l_rows_of ?c_rows_of ?k_rows_of ?a_minor ?l_minor ?c_minor ?k_minor ?a_determinant ?l_determinant ?c_determinant ?k_determinant ?a_signed ?l_signed ?c_signed ?k_signed ?a_adjugate ?l_adjugate ?c_adjugate ?k_adjugate ?a_all_finite ?l_all_finite ?c_all_finite ?k_all_finite ?a_bad_size ?l_bad_size ?c_bad_size ?k_bad_size ?a_bad_matrix ?l_bad_matrix ?c_bad_matrix ?k_bad_matrix ?a_neighbours ?l_neighbours ?c_neighbours ?k_neighbours ?a_goes_up ?l_goes_up ?c_goes_up ?k_goes_up ?a_rounded ?l_rounded ?c_rounded ?k_rounded ?a_answer ?l_answer ?c_answer ?k_answer ?a_inverse ?l_inverse ?c_inverse ?k_inverse
    (case g_UNIT => k_is)
    (case g_HIDDEN => k_is)
    (case g_SIGN => k_is)
    (case g_INFINITE => k_is)
    (case b_abs => k_is)
    (case b_all => k_is)
    (case b_divmod => k_is)
    (case b_len => k_is)
    (case b_range => k_is)
    (case aC_Ratio => k_is)
    (case a_Ratio_init => k_is)
    (case i_Ratio_init => k_is)
    (case l_Ratio_init => k_is)
    (case c_Ratio_init => k_is)
    (case k_Ratio_init => k_is)
    (case a_Ratio_side => k_is)
    (case i_Ratio_side => k_is)
    (case l_Ratio_side => k_is)
    (case c_Ratio_side => k_is)
    (case k_Ratio_side => k_is)
    (case pg_Ratio => k_is)
    (case hd_Ratio => k_is)
    (case po_Ratio => k_is)
    (case sa_Ratio => k_is)
    (case mk_Ratio => k_is)
    (case kc_Ratio => k_is)
    (case n_Ratio_top => k_is)
    (case n_Ratio_bottom => k_is)
    (case a_is_finite => k_is)
    (case l_is_finite => k_is)
    (case c_is_finite => k_is)
    (case k_is_finite => k_is)
    (case a_place_of => k_is)
    (case l_place_of => k_is)
    (case c_place_of => k_is)
    (case k_place_of => k_is)
    (case a_point_at => k_is)
    (case l_point_at => k_is)
    (case c_point_at => k_is)
    (case k_point_at => k_is)
    (case a_units_of => k_is)
    (case l_units_of => k_is)
    (case c_units_of => k_is)
    (case k_units_of => k_is)
    (case a_all_units => k_is)
    (case l_all_units => k_is)
    (case c_all_units => k_is)
    (case k_all_units => k_is)
    (case a_middle_above => k_is)
    (case l_middle_above => k_is)
    (case c_middle_above => k_is)
    (case k_middle_above => k_is)
    (case a_bits_of_lower => k_is)
    (case l_bits_of_lower => k_is)
    (case c_bits_of_lower => k_is)
    (case k_bits_of_lower => k_is)
    (case a_bits_of_upper => k_is)
    (case l_bits_of_upper => k_is)
    (case c_bits_of_upper => k_is)
    (case k_bits_of_upper => k_is)
    (case a_sign => k_is)
    (case l_sign => k_is)
    (case c_sign => k_is)
    (case k_sign => k_is)
    (case a_rows_of => k_is)
    (case l_rows_of => k_is)
    (case c_rows_of => k_is)
    (case k_rows_of => k_is)
    (case a_minor => k_is)
    (case l_minor => k_is)
    (case c_minor => k_is)
    (case k_minor => k_is)
    (case a_determinant => k_is)
    (case l_determinant => k_is)
    (case c_determinant => k_is)
    (case k_determinant => k_is)
    (case a_signed => k_is)
    (case l_signed => k_is)
    (case c_signed => k_is)
    (case k_signed => k_is)
    (case a_adjugate => k_is)
    (case l_adjugate => k_is)
    (case c_adjugate => k_is)
    (case k_adjugate => k_is)
    (case a_all_finite => k_is)
    (case l_all_finite => k_is)
    (case c_all_finite => k_is)
    (case k_all_finite => k_is)
    (case a_bad_size => k_is)
    (case l_bad_size => k_is)
    (case c_bad_size => k_is)
    (case k_bad_size => k_is)
    (case a_bad_matrix => k_is)
    (case l_bad_matrix => k_is)
    (case c_bad_matrix => k_is)
    (case k_bad_matrix => k_is)
    (case a_neighbours => k_is)
    (case l_neighbours => k_is)
    (case c_neighbours => k_is)
    (case k_neighbours => k_is)
    (case a_goes_up => k_is)
    (case l_goes_up => k_is)
    (case c_goes_up => k_is)
    (case k_goes_up => k_is)
    (case a_rounded => k_is)
    (case l_rounded => k_is)
    (case c_rounded => k_is)
    (case k_rounded => k_is)
    (case a_answer => k_is)
    (case l_answer => k_is)
    (case c_answer => k_is)
    (case k_answer => k_is)
    (case a_inverse => k_is)
    (case l_inverse => k_is)
    (case c_inverse => k_is)
    (case k_inverse => k_is)
  case S =>
    intro K H xs a hO hwi hask hx
    cases hx with | cons g0 hx =>
    cases hx with | cons g1 hx =>
    cases hx with | cons g2 hx =>
    cases hx
    obtain ⟨x0, x1, x2, _⟩ := a
    have hwi : (Codec.inInt 0 18446744073709551615 x0 && (Codec.inInt 0 18446744073709551615 x1 && ((Codec.inLen 0 30 x2 && x2.all (Codec.inInt 0 18446744073709551615)) && (true)))) = true := hwi
    simp only [Bool.and_eq_true] at hwi
    obtain ⟨w0, w1, w2, _⟩ := hwi
    cases g0 with | int =>
    have v0 : Desk.In64 x0 := Codec.inInt_iff.mp w0
    cases g1 with | int =>
    have v1 : Desk.In64 x1 := Codec.inInt_iff.mp w1
    cases g2 with | lst s2 q2 =>
    have z2 := L2.ints_dw x2 _ q2
    subst z2
    have m2 : x2.length ≤ 30 := (Codec.inNat_iff.mp w2.1).2
    have v2 : ∀ b ∈ x2, Desk.In64 b := fun b hb => Codec.inInt_iff.mp (List.all_eq_true.mp w2.2 b hb)
    have law := Desk.inverse_law v0 v1 v2
    refine ⟨x0, x1, _, x2, rfl, v1, s2, m2, v2, fun H2 p hp => ?_⟩
    rw [law] at hp
    exact .lst (L2.SqL.of hp) (L2.dw_ints _)
#print axioms PySem.Challenge.cw_onceroundeddesk_s08_inverse_holds
