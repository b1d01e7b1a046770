import PyProof.Rows.All
import Wide.All
import OpenK.AllK
import Wide.FinOn
import Open.SpecLaws
import KE.OsHead
import KE.OsGo
import HandS.ForSpec
import HandS.ForMost
import HandS.Wide
import HandS.WideBits
import HandS.Evl
import HandS.Walk
import HandS.Rev
import PySem.Challenge.RW_onceroundeddesk_s11_eigen
set_option Elab.async false
set_option linter.all false
set_option maxRecDepth 100000
set_option maxHeartbeats 4000000
namespace Desk
/-! places, points, units -/
def HID : Int := 4503599627370496
def SGN : Int := 9223372036854775808
def INF : Int := 9218868437227405312
def isFin (b : Int) : Bool := decide (b % SGN < INF)
def placeOf (b : Int) : Int := if b ≥ SGN then SGN - b else b
def pA (pl : Int) : Int := if (pl.natAbs : Int) / HID = 0 then (pl.natAbs : Int) % HID else HID + (pl.natAbs : Int) % HID
def pS (pl : Int) : Nat := if (pl.natAbs : Int) / HID = 0 then 1 else ((pl.natAbs : Int) / HID).toNat
def pM (pl : Int) : Int := if pl < 0 then -(pA pl) else pA pl
def unitsAt (pl : Int) : Int := pM pl * 2 ^ pS pl
def unitsOf (b : Int) : Int := unitsAt (placeOf b)
def midM (pl : Int) : Int := if pl ≥ 0 then 2 * pM pl + 1 else 2 * pM (pl + 1) - 1
def midS (pl : Int) : Nat := if pl ≥ 0 then pS pl - 1 else pS (pl + 1) - 1
def bitsLower (pl : Int) : Int := if pl < 0 then SGN - pl else pl
def bitsUpper (pl : Int) : Int := if pl ≤ 0 then SGN - pl else pl
/-! rounding: the mirror -/
abbrev Side := Int → Nat → Int
def nbr (sd : Side) : Nat → Int → Int → Int × Int
  | 0, lo, hi => (lo, hi)
  | f + 1, lo, hi =>
    if hi - lo > 1 then
      let pl := (lo + hi) / 2
      let t := sd (pM pl) (pS pl)
      if t = 0 then (pl, pl) else if t < 0 then nbr sd f lo pl else nbr sd f pl hi
    else (lo, hi)
def neighbours (sd : Side) : Int × Int := nbr sd 66 (-INF) INF
def goesUp (mode : Int) (sd : Side) (lo : Int) : Bool :=
  if mode = 1 then false else if mode = 2 then true else if mode = 3 then decide (lo < 0)
  else if sd (midM lo) (midS lo) = 0 then decide (lo % 2 = 1) else decide (sd (midM lo) (midS lo) > 0)
def rounded (mode : Int) (sd : Side) : List Int :=
  let n := neighbours sd
  if n.1 = n.2 then [bitsLower n.1, 1] else if goesUp mode sd n.1 = true then [bitsUpper n.2, 0] else [bitsLower n.1, 0]
def answer (mode : Int) (l : List Side) : List Int := l.foldl (fun a sd => a ++ rounded mode sd) [0]
theorem foldl_app {α : Type} (g : α → List Int) : ∀ (l : List α) (acc : List Int), l.foldl (fun a x => a ++ g x) acc = acc ++ l.flatMap g
  | [], acc => by simp
  | x :: r, acc => by rw [List.foldl_cons, foldl_app g r]; simp
theorem answer_eq (mode : Int) (l : List Side) : answer mode l = 0 :: l.flatMap (rounded mode) := by
  unfold answer; rw [foldl_app]; rfl
/-! a place's units are the specification's number times 2^1075 -/
def unitsN (n : Nat) : Nat := if n / 4503599627370496 = 0 then (n % 4503599627370496) * 2 else (4503599627370496 + n % 4503599627370496) * 2 ^ (n / 4503599627370496)
theorem unitsAt_nat (n : Nat) : unitsAt (n : Int) = (unitsN n : Int) := by
  unfold unitsAt pM pS pA unitsN HID
  have e : (((n : Int).natAbs : Nat) : Int) / 4503599627370496 = ((n / 4503599627370496 : Nat) : Int) := by omega
  rw [e, if_neg (show ¬ (n : Int) < 0 by omega)]
  by_cases h : n / 4503599627370496 = 0
  · rw [if_pos (show ((n / 4503599627370496 : Nat) : Int) = 0 by omega), if_pos (show ((n / 4503599627370496 : Nat) : Int) = 0 by omega), if_pos h]
    omega
  · rw [if_neg (show ¬ ((n / 4503599627370496 : Nat) : Int) = 0 by omega), if_neg (show ¬ ((n / 4503599627370496 : Nat) : Int) = 0 by omega), if_neg h, Int.toNat_natCast, Int.natCast_mul, Int.natCast_pow]
    congr 1
theorem pM_neg (pl : Int) : pM (-pl) = - pM pl := by
  have e : pA (-pl) = pA pl := by unfold pA; rw [Int.natAbs_neg]
  unfold pM
  rw [e]
  by_cases h0 : pl = 0
  · subst h0
    decide
  · by_cases h : pl < 0
    · rw [if_pos h, if_neg (by omega), Int.neg_neg]
    · rw [if_neg h, if_pos (by omega)]
theorem pS_neg (pl : Int) : pS (-pl) = pS pl := by unfold pS; rw [Int.natAbs_neg]
theorem unitsAt_neg (pl : Int) : unitsAt (-pl) = -unitsAt pl := by
  unfold unitsAt
  rw [pM_neg, pS_neg, Int.neg_mul]
theorem unitsN_step (n : Nat) : unitsN n < unitsN (n + 1) := by
  unfold unitsN
  generalize he : n / 4503599627370496 = e
  generalize hm : n % 4503599627370496 = m
  have hn : n = 4503599627370496 * e + m := by rw [← he, ← hm]; exact (Nat.div_add_mod n 4503599627370496).symm
  have hlt : m < 4503599627370496 := by rw [← hm]; exact Nat.mod_lt _ (by decide)
  by_cases c : m + 1 = 4503599627370496
  · have e1 : (n + 1) / 4503599627370496 = e + 1 := by omega
    have e2 : (n + 1) % 4503599627370496 = 0 := by omega
    rw [e1, e2, if_neg (Nat.succ_ne_zero e)]
    by_cases h : e = 0
    · subst h
      rw [if_pos rfl]
      simp only [Nat.zero_add, Nat.pow_one]
      omega
    · rw [if_neg h, Nat.pow_succ]
      have hp : 0 < 2 ^ e := Nat.two_pow_pos e
      generalize 2 ^ e = q at hp
      have : m = 4503599627370495 := by omega
      subst this
      omega
  · have e1 : (n + 1) / 4503599627370496 = e := by omega
    have e2 : (n + 1) % 4503599627370496 = m + 1 := by omega
    rw [e1, e2]
    by_cases h : e = 0
    · rw [if_pos h, if_pos h]
      omega
    · rw [if_neg h, if_neg h]
      have hp : 0 < 2 ^ e := Nat.two_pow_pos e
      exact Nat.mul_lt_mul_of_pos_right (by omega) hp
theorem unitsN_mono {a b : Nat} (h : a < b) : unitsN a < unitsN b := by
  induction b with
  | zero => omega
  | succ b ih =>
    by_cases c : a = b
    · subst c; exact unitsN_step a
    · exact Nat.lt_trans (ih (by omega)) (unitsN_step b)
theorem unitsAt_mono {a b : Int} (h : a < b) : unitsAt a < unitsAt b := by
  have z : unitsN 0 = 0 := by decide
  rcases Int.lt_or_le a 0 with ha | ha
  · obtain ⟨n, rfl⟩ : ∃ n : Nat, a = -(n : Int) := ⟨a.natAbs, by omega⟩
    have hn : 0 < n := by omega
    rcases Int.lt_or_le b 0 with hb | hb
    · obtain ⟨k, rfl⟩ : ∃ n : Nat, b = -(n : Int) := ⟨b.natAbs, by omega⟩
      rw [unitsAt_neg, unitsAt_neg, unitsAt_nat, unitsAt_nat]
      have := unitsN_mono (show k < n by omega)
      omega
    · obtain ⟨k, rfl⟩ : ∃ n : Nat, b = (n : Int) := ⟨b.natAbs, by omega⟩
      rw [unitsAt_neg, unitsAt_nat, unitsAt_nat]
      have := unitsN_mono hn
      omega
  · obtain ⟨n, rfl⟩ : ∃ n : Nat, a = (n : Int) := ⟨a.natAbs, by omega⟩
    obtain ⟨k, rfl⟩ : ∃ n : Nat, b = (n : Int) := ⟨b.natAbs, by omega⟩
    rw [unitsAt_nat, unitsAt_nat]
    have := unitsN_mono (show n < k by omega)
    omega
/-- 2^1075 -/
def UP : Rat := (2 : Rat) ^ 1075
theorem UP_pos : 0 < UP := Rat.pow_pos (by decide)
theorem UP_ne : UP ≠ 0 := fun h => by have := UP_pos; rw [h] at this; exact absurd this (by decide)
theorem two_pow_ne (n : Nat) : (2 : Rat) ^ n ≠ 0 := fun h => by have := Rat.pow_pos (a := 2) (n := n) (by decide); rw [h] at this; exact absurd this (by decide)
theorem rat_pow_add (a : Rat) (m n : Nat) : a ^ (m + n) = a ^ m * a ^ n := by
  induction n with
  | zero => rw [Nat.add_zero, Rat.pow_zero, Rat.mul_one]
  | succ n ih => rw [← Nat.add_assoc, Rat.pow_succ, ih, Rat.pow_succ, Rat.mul_assoc]
theorem pow2_shift (n : Nat) (k : Nat) : Os.pow2 ((n : Int) - (k : Int)) * (2 : Rat) ^ k = (2 : Rat) ^ n := by
  unfold Os.pow2
  by_cases h : 0 ≤ (n : Int) - (k : Int)
  · rw [if_pos h, Rat.natCast_pow]
    have e : ((n : Int) - (k : Int)).toNat + k = n := by omega
    show (2 : Rat) ^ _ * _ = _
    rw [← rat_pow_add, e]
  · rw [if_neg h, Rat.natCast_pow]
    have e : (-((n : Int) - (k : Int))).toNat + n = k := by omega
    show 1 / (2 : Rat) ^ _ * _ = _
    generalize (-((n : Int) - (k : Int))).toNat = d at e
    rw [← e, rat_pow_add]
    have := two_pow_ne d
    grind
theorem sizeAt_eq (n : Nat) : Os.sizeAt n * UP = ((unitsN n : Nat) : Rat) := by
  unfold Os.sizeAt unitsN UP
  show (if n / 4503599627370496 = 0 then ((n % 4503599627370496 : Nat) : Rat) * Os.pow2 (-1074) else ((4503599627370496 + n % 4503599627370496 : Nat) : Rat) * Os.pow2 ((n / 4503599627370496 : Nat) - 1075)) * _ = _
  by_cases h : n / 4503599627370496 = 0
  · rw [if_pos h, if_pos h, Rat.mul_assoc]
    have e := pow2_shift 1 1075
    rw [Rat.natCast_mul]
    exact congrArg _ e
  · rw [if_neg h, if_neg h, Rat.mul_assoc]
    have e := pow2_shift (n / 4503599627370496) 1075
    rw [Rat.natCast_mul, Rat.natCast_pow]
    exact congrArg _ e
theorem valueAt_eq (i : Int) : Os.valueAt i * UP = ((unitsAt i : Int) : Rat) := by
  unfold Os.valueAt
  by_cases h : i < 0
  · obtain ⟨n, rfl⟩ : ∃ n : Nat, i = -(n : Int) := ⟨i.natAbs, by omega⟩
    rw [if_pos h, unitsAt_neg, unitsAt_nat, Int.natAbs_neg, Int.natAbs_natCast, Rat.intCast_neg, Rat.neg_mul, sizeAt_eq, Rat.intCast_natCast]
  · obtain ⟨n, rfl⟩ : ∃ n : Nat, i = (n : Int) := ⟨i.natAbs, by omega⟩
    rw [if_neg h, unitsAt_nat, Int.natAbs_natCast, sizeAt_eq, Rat.intCast_natCast]
theorem valueAt_mono {a b : Int} (h : a < b) : Os.valueAt a < Os.valueAt b := by
  have h1 := unitsAt_mono h
  have h2 := Rat.intCast_lt_intCast.mpr h1
  rw [← valueAt_eq, ← valueAt_eq] at h2
  exact Rat.lt_of_mul_lt_mul_right h2 (Rat.le_of_lt UP_pos)
end Desk

namespace Desk
structure Cut (sd : Side) (w : Os.Where) : Prop where
  eq : ∀ (m : Int) (s : Nat), sd m s = w (((m * 2 ^ s : Int) : Rat) / UP)
  cut : ∀ r r' : Rat, r < r' → w r = 0 → w r' < 0
theorem point_val (i : Int) : ((pM i * 2 ^ pS i : Int) : Rat) / UP = Os.valueAt i := by
  have h := valueAt_eq i
  show ((unitsAt i : Int) : Rat) / UP = _
  rw [← h, Rat.mul_div_cancel UP_ne]
theorem pS_pos (i : Int) : 1 ≤ pS i := by
  unfold pS
  split
  · omega
  · unfold HID at *; omega
theorem mid_val (i : Int) : ((midM i * 2 ^ midS i : Int) : Rat) / UP = (Os.valueAt i + Os.valueAt (i + 1)) / 2 := by
  have e : 2 * (midM i * 2 ^ midS i) = unitsAt i + unitsAt (i + 1) := by
    have key : ∀ n : Nat, unitsAt ((n : Int) + 1) = unitsAt n + 2 ^ pS n := by
      intro n
      have e1 : ((n : Int) + 1) = ((n + 1 : Nat) : Int) := by omega
      rw [e1, unitsAt_nat, unitsAt_nat]
      unfold unitsN pS HID
      have e : (((n : Int).natAbs : Nat) : Int) / 4503599627370496 = ((n / 4503599627370496 : Nat) : Int) := by omega
      rw [e, Int.toNat_natCast]
      generalize he : n / 4503599627370496 = e
      generalize hm : n % 4503599627370496 = m
      have hn : n = 4503599627370496 * e + m := by rw [← he, ← hm]; exact (Nat.div_add_mod n 4503599627370496).symm
      have hlt : m < 4503599627370496 := by rw [← hm]; exact Nat.mod_lt _ (by decide)
      by_cases c : m + 1 = 4503599627370496
      · have e1 : (n + 1) / 4503599627370496 = e + 1 := by omega
        have e2 : (n + 1) % 4503599627370496 = 0 := by omega
        rw [e1, e2, if_neg (Nat.succ_ne_zero e)]
        have : m = 4503599627370495 := by omega
        subst this
        by_cases h : e = 0
        · subst h
          decide
        · rw [if_neg h, if_neg (by omega)]
          simp only [Int.natCast_mul, Int.natCast_pow, Nat.pow_succ, Int.natCast_add]
          generalize ((2 : Nat) : Int) ^ e = q
          have : (2 : Int) ^ e = ((2 : Nat) : Int) ^ e := rfl
          grind
      · have e1 : (n + 1) / 4503599627370496 = e := by omega
        have e2 : (n + 1) % 4503599627370496 = m + 1 := by omega
        rw [e1, e2]
        by_cases h : e = 0
        · rw [if_pos h, if_pos h, if_pos (by omega)]
          omega
        · rw [if_neg h, if_neg h, if_neg (by omega)]
          simp only [Int.natCast_mul, Int.natCast_pow, Int.natCast_add]
          have : (2 : Int) ^ e = ((2 : Nat) : Int) ^ e := rfl
          grind
    have half : ∀ (n : Nat), (2 : Int) * 2 ^ (pS n - 1) = 2 ^ pS n := fun n => by
      have h := pS_pos n
      obtain ⟨k, hk⟩ : ∃ k, pS n = k + 1 := ⟨pS n - 1, by omega⟩
      rw [hk, Nat.add_sub_cancel, Int.pow_succ, Int.mul_comm]
    unfold midM midS
    by_cases h : i ≥ 0
    · rw [if_pos h, if_pos h]
      obtain ⟨n, rfl⟩ : ∃ n : Nat, i = (n : Int) := ⟨i.natAbs, by omega⟩
      have k := key n
      have hh := half n
      rw [k]
      unfold unitsAt
      grind
    · rw [if_neg h, if_neg h]
      obtain ⟨n, rfl⟩ : ∃ n : Nat, i = -((n : Int) + 1) := ⟨(i + 1).natAbs, by omega⟩
      have k := key n
      have hh := half n
      have e1 : -((n : Int) + 1) + 1 = -(n : Int) := by omega
      rw [e1, unitsAt_neg, unitsAt_neg, k, pM_neg, pS_neg]
      unfold unitsAt
      grind
  have h1 := valueAt_eq i
  have h2 := valueAt_eq (i + 1)
  have h3 : ((2 * (midM i * 2 ^ midS i) : Int) : Rat) = ((unitsAt i + unitsAt (i + 1) : Int) : Rat) := by rw [e]
  rw [Rat.intCast_mul, Rat.intCast_add, ← h1, ← h2] at h3
  have hu := UP_ne
  generalize ((midM i * 2 ^ midS i : Int) : Rat) = x at h3 ⊢
  generalize Os.valueAt i = a at h3 ⊢
  generalize Os.valueAt (i + 1) = b at h3 ⊢
  have h4 : ((2 : Int) : Rat) = 2 := rfl
  rw [h4] at h3
  generalize UP = u at hu h3 ⊢
  grind
section
variable {sd : Side} {w : Os.Where}
theorem search_low (f : Nat) (lo hi : Int) (h : ∀ j, lo < j → w (Os.valueAt j) < 0) : Os.searchFrom w f lo hi = lo := by
  induction f generalizing hi with
  | zero => rfl
  | succ f ih =>
    unfold Os.searchFrom
    by_cases c : hi ≤ lo + 1
    · rw [if_pos c]
    · rw [if_neg c, if_pos (h _ (by omega))]
      exact ih _
theorem nbr_search (C : Cut sd w) : ∀ (f : Nat) (lo hi : Int), lo < hi → hi - lo ≤ 2 ^ f →
    (nbr sd f lo hi = (Os.searchFrom w f lo hi, Os.searchFrom w f lo hi) ∧ lo < Os.searchFrom w f lo hi ∧ Os.searchFrom w f lo hi < hi ∧ w (Os.valueAt (Os.searchFrom w f lo hi)) = 0) ∨
    (nbr sd f lo hi = (Os.searchFrom w f lo hi, Os.searchFrom w f lo hi + 1) ∧ lo ≤ Os.searchFrom w f lo hi ∧ Os.searchFrom w f lo hi < hi ∧ (Os.searchFrom w f lo hi = lo ∨ w (Os.valueAt (Os.searchFrom w f lo hi)) > 0))
  | 0, lo, hi, h1, h2 => by
    have h3 : hi - lo ≤ 1 := h2
    right
    refine ⟨?_, ?_, ?_, .inl rfl⟩
    · show (lo, hi) = (lo, lo + 1)
      rw [show hi = lo + 1 by omega]
    · exact Int.le_refl _
    · exact h1
  | f + 1, lo, hi, h1, h2 => by
    unfold nbr Os.searchFrom
    by_cases c : hi - lo > 1
    · rw [if_pos c, if_neg (show ¬ hi ≤ lo + 1 by omega)]
      have hp : (2 : Int) ^ (f + 1) = 2 ^ f * 2 := Int.pow_succ ..
      rw [hp] at h2
      dsimp only
      rw [C.eq, point_val]
      generalize hmid : (lo + hi) / 2 = mid
      by_cases z : w (Os.valueAt mid) = 0
      · rw [if_pos z, if_neg (by omega)]
        have e := search_low (w := w) f mid hi fun j hj => C.cut _ _ (valueAt_mono hj) z
        rw [e]
        exact .inl ⟨rfl, by omega, by omega, z⟩
      · rw [if_neg z]
        by_cases n : w (Os.valueAt mid) < 0
        · rw [if_pos n, if_pos n]
          rcases nbr_search C f lo mid (by omega) (by omega) with ⟨a, b, c, d⟩ | ⟨a, b, c, d⟩
          · exact .inl ⟨a, b, by omega, d⟩
          · exact .inr ⟨a, b, by omega, d⟩
        · rw [if_neg n, if_neg n]
          rcases nbr_search C f mid hi (by omega) (by omega) with ⟨a, b, c, d⟩ | ⟨a, b, c, d⟩
          · exact .inl ⟨a, by omega, c, d⟩
          · refine .inr ⟨a, by omega, c, ?_⟩
            rcases d with d | d
            · rw [d]
              exact .inr (by omega)
            · exact .inr d
    · rw [if_neg c, if_pos (show hi ≤ lo + 1 by omega)]
      right
      refine ⟨?_, Int.le_refl _, h1, .inl rfl⟩
      rw [show hi = lo + 1 by omega]
theorem floor_sign (w : Os.Where) (C : Cut sd w) : (w 0 < 0 → Os.floorOf w < 0) ∧ (¬ w 0 < 0 → 0 ≤ Os.floorOf w) := by
  have e : Os.floorOf w = if w (Os.valueAt 0) < 0 then Os.searchFrom w 65 (-INF) 0 else Os.searchFrom w 65 0 INF := by
    unfold Os.floorOf
    show Os.searchFrom w (65 + 1) (-INF) INF = _
    rw [Os.searchFrom, if_neg (by decide)]
    rfl
  have v0 : Os.valueAt 0 = 0 := by decide +kernel
  rw [e, v0]
  constructor
  · intro h
    rw [if_pos h]
    rcases nbr_search C 65 (-INF) 0 (by decide) (by decide) with ⟨_, _, c, _⟩ | ⟨_, _, c, _⟩ <;> exact c
  · intro h
    rw [if_neg h]
    rcases nbr_search C 65 0 INF (by decide) (by decide) with ⟨_, c, _, _⟩ | ⟨_, c, _, _⟩
    · exact Int.le_of_lt c
    · exact c
theorem rounded_eq (C : Cut sd w) {mode : Int} (h0 : 0 ≤ mode) (h3 : mode ≤ 3) : rounded mode sd = [((Os.round mode.toNat w).bits : Int), if (Os.round mode.toNat w).exact = true then 1 else 0] := by
  obtain ⟨md, rfl⟩ : ∃ n : Nat, mode = (n : Int) := ⟨mode.toNat, by omega⟩
  rw [Int.toNat_natCast]
  have key := nbr_search C 66 (-INF) INF (by decide) (by decide)
  obtain ⟨fs1, fs2⟩ := floor_sign w C
  have ef : Os.searchFrom w 66 (-INF) INF = Os.floorOf w := rfl
  rw [ef] at key
  have bA : ∀ j : Int, (Os.bitsAt j : Int) = bitsLower j := fun j => by
    unfold Os.bitsAt bitsLower Os.SIGN SGN
    split
    · omega
    · omega
  have hM : -Os.MOST = -INF + 1 := by decide
  generalize hR : Os.round md w = R
  unfold Os.round at hR
  dsimp only at hR
  unfold rounded neighbours
  dsimp only
  generalize Os.floorOf w = i at key fs1 fs2 hR
  generalize hn : nbr sd 66 (-INF) INF = n at key
  rcases key with ⟨a, b, c, d⟩ | ⟨a, b, c, d⟩
  · rw [if_pos ⟨by omega, d⟩] at hR
    subst hR
    rw [a, if_pos rfl]
    show [bitsLower i, 1] = [((Os.bitsAt i : Nat) : Int), if true = true then 1 else 0]
    rw [if_pos rfl, bA]
  · rw [if_neg (by
      rintro ⟨z1, z2⟩
      rcases d with d | d
      · omega
      · omega)] at hR
    have em := mid_val i
    rw [← em] at hR
    rw [a]
    dsimp only
    rw [if_neg (show ¬ i = i + 1 by omega)]
    have eup : goesUp (md : Int) sd i = (if md = 0 then decide (0 < w (((midM i * 2 ^ midS i : Int) : Rat) / UP)) || (decide (w (((midM i * 2 ^ midS i : Int) : Rat) / UP) = 0) && decide (i % 2 ≠ 0)) else if md = 1 then false else if md = 2 then true else decide (w 0 < 0)) := by
      unfold goesUp
      rw [C.eq]
      generalize hmw : w (((midM i * 2 ^ midS i : Int) : Rat) / UP) = mid
      have h4 : md = 0 ∨ md = 1 ∨ md = 2 ∨ md = 3 := by omega
      rcases h4 with rfl | rfl | rfl | rfl
      · show (if mid = 0 then decide (i % 2 = 1) else decide (mid > 0)) = (decide (0 < mid) || (decide (mid = 0) && decide (i % 2 ≠ 0)))
        by_cases z : mid = 0
        · rw [if_pos z, decide_eq_true z, decide_eq_false (show ¬ 0 < mid by omega), Bool.false_or, Bool.true_and]
          by_cases p : i % 2 = 1
          · rw [decide_eq_true p, decide_eq_true (by omega)]
          · rw [decide_eq_false p, decide_eq_false (by omega)]
        · rw [if_neg z, decide_eq_false z, Bool.false_and, Bool.or_false]
      · rfl
      · rfl
      · show decide (i < 0) = decide (w 0 < 0)
        by_cases z : w 0 < 0
        · rw [decide_eq_true z, decide_eq_true (fs1 z)]
        · have := fs2 z
          rw [decide_eq_false z, decide_eq_false (by omega)]
    rw [← eup] at hR
    generalize goesUp (md : Int) sd i = up at hR
    subst hR
    cases up with
    | false =>
      simp only [Bool.false_eq_true, if_false]
      by_cases z : i = 0
      · have nb : ¬ w 0 < 0 := fun q => by have := fs1 q; omega
        rw [if_neg (by rintro ⟨q, _⟩; exact nb (of_decide_eq_true q)), bA]
      · rw [if_neg (by rintro ⟨_, q⟩; exact z q), bA]
    | true =>
      simp only [if_true]
      by_cases z : i + 1 = 0
      · have nb : w 0 < 0 := Classical.byContradiction fun q => by have := fs2 q; omega
        rw [if_pos ⟨decide_eq_true nb, z⟩, z]
        rfl
      · rw [if_neg (by rintro ⟨_, q⟩; exact z q), bA]
        unfold bitsUpper bitsLower
        by_cases q : i + 1 < 0
        · rw [if_pos q, if_pos (by omega)]
          rfl
        · rw [if_neg q, if_neg (by omega)]
          rfl
end
end Desk

namespace Desk
/-! the calls' common part -/
def In64 (b : Int) : Prop := 0 ≤ b ∧ b ≤ 18446744073709551615
def valOf (b : Int) : Rat := Os.valueAt (placeOf b)
theorem valOf_units (b : Int) : valOf b * UP = ((unitsOf b : Int) : Rat) := valueAt_eq _
theorem number_eq {b : Int} (h : In64 b) : Os.number b.toNat = if isFin b = true then some (valOf b) else none := by
  obtain ⟨h0, h1⟩ := h
  obtain ⟨n, rfl⟩ : ∃ n : Nat, b = (n : Int) := ⟨b.toNat, by omega⟩
  unfold Os.number isFin valOf Os.valueAt placeOf SGN INF Os.MOST Os.SIGN
  rw [Int.toNat_natCast]
  have e0 : (Int.natAbs 9218868437227405311) = 9218868437227405311 := rfl
  rw [e0]
  by_cases c : n % 9223372036854775808 < 9218868437227405312
  · rw [if_neg (by omega), if_pos (decide_eq_true (by omega))]
    congr 1
    by_cases d : 9223372036854775808 ≤ n
    · rw [if_pos d, if_pos (show (n : Int) ≥ 9223372036854775808 by omega)]
      by_cases z : n = 9223372036854775808
      · subst z
        decide +kernel
      · rw [if_pos (by omega)]
        congr 2
        omega
    · rw [if_neg d, if_neg (show ¬ (n : Int) ≥ 9223372036854775808 by omega), if_neg (by omega)]
      congr 1
  · rw [if_pos (by omega), if_neg (by intro z; have := of_decide_eq_true z; omega)]
theorem mapM_eq : ∀ {l : List Int}, (∀ b ∈ l, In64 b) → (OsNeutral.nats l).mapM Os.number = if l.all isFin = true then some (l.map valOf) else none
  | [], _ => rfl
  | b :: r, h => by
    have ih := mapM_eq (l := r) fun x hx => h x (List.mem_cons_of_mem _ hx)
    have hb := number_eq (h b (List.mem_cons_self ..))
    show (b.toNat :: OsNeutral.nats r).mapM Os.number = _
    rw [List.mapM_cons, hb, ih, List.all_cons, List.map_cons]
    by_cases c : isFin b = true
    · rw [if_pos c, c, Bool.true_and]
      by_cases d : r.all isFin = true
      · rw [if_pos d, if_pos d]; rfl
      · rw [if_neg d, if_neg d]; rfl
    · have c : isFin b = false := by simpa using c
      rw [c]
      simp
theorem nats_len (l : List Int) : (OsNeutral.nats l).length = l.length := List.length_map _
theorem numbers_eq {l : List Int} (h : ∀ b ∈ l, In64 b) (n : Nat) : Os.numbers n (OsNeutral.nats l) = if l.length = n ∧ l.all isFin = true then some (l.map valOf) else none := by
  unfold Os.numbers
  rw [nats_len, mapM_eq h]
  by_cases c : l.length = n
  · rw [if_pos c]
    by_cases d : l.all isFin = true
    · rw [if_pos d, if_pos ⟨c, d⟩]
    · rw [if_neg d, if_neg (fun z => d z.2)]
  · rw [if_neg c, if_neg (fun z => c z.1)]
theorem ofRow_eq {l : List Int} (h : ∀ b ∈ l, In64 b) (n : Nat) (f : List Rat → Os.Answer) : Os.ofRow n (OsNeutral.nats l) f = if l.length = n ∧ l.all isFin = true then f (l.map valOf) else Os.no 1 := by
  unfold Os.ofRow
  rw [numbers_eq h]
  split
  · rename_i e
    split at e
    · cases e
    · rw [if_neg (by assumption)]
  · rename_i x e
    split at e
    · rw [if_pos (by assumption)]
      cases e
      rfl
    · cases e
def badList (mode : Int) (ns : List Int) (most : Int) : Bool := decide (3 < mode) || (decide (most < (ns.length : Int)) || !(ns.all isFin))
theorem withMode_eq {mode : Int} (h : 0 ≤ mode) (b : Bool) (a : Unit → Os.Answer) : Os.withMode mode.toNat b a = if 3 < mode ∨ b = false then Os.no 1 else a () := by
  unfold Os.withMode
  have e : (3 < mode.toNat ∨ b = false) = (3 < mode ∨ b = false) := propext ⟨fun z => z.imp (by omega) id, fun z => z.imp (by omega) id⟩
  simp only [e]
theorem bad_iff {mode : Int} {ns : List Int} {most : Int} : badList mode ns most = true ↔ 3 < mode ∨ most < (ns.length : Int) ∨ ¬ ns.all isFin = true := by
  unfold badList
  rw [Bool.or_eq_true, Bool.or_eq_true, decide_eq_true_iff, decide_eq_true_iff]
  cases ns.all isFin <;> simp
theorem shown_no : OsNeutral.shown (Os.no 1) = [-1] := rfl
/-! what's told -/
theorem shown_told : ∀ l : List Os.Told, OsNeutral.shown (Os.toldOf l) = 0 :: l.flatMap fun (t : Os.Told) => [(t.bits : Int), if t.exact = true then 1 else 0]
  | l => by
    show (0 : Int) :: (l.flatMap fun (t : Os.Told) => [t.bits, if t.exact = true then 1 else 0]).map (fun (i : Nat) => (i : Int)) = _
    rw [List.map_flatMap]
    congr 1
    congr 1
    funext t
    show [(t.bits : Int), ((if t.exact = true then 1 else 0 : Nat) : Int)] = _
    split <;> rfl
theorem answer_told {mode : Int} (h0 : 0 ≤ mode) (h3 : mode ≤ 3) (l : List (Side × Os.Where)) (h : ∀ p ∈ l, Cut p.1 p.2) : answer mode (l.map (·.1)) = OsNeutral.shown (Os.toldOf ((l.map (·.2)).map (Os.round mode.toNat))) := by
  rw [answer_eq, shown_told]
  congr 1
  induction l with
  | nil => rfl
  | cons p r ih =>
    rw [List.map_cons, List.map_cons, List.map_cons, List.flatMap_cons, List.flatMap_cons, ih fun q hq => h q (List.mem_cons_of_mem _ hq), rounded_eq (h p (List.mem_cons_self ..)) h0 h3]
/-! a ratio -/
def ratioSide (t b : Int) : Side := fun m s => (t - b * m * 2 ^ s).sign
theorem cut_ratio {t b : Int} {q : Rat} (hb : 0 < b) (h : (t : Rat) = q * UP * b) : Cut (ratioSide t b) (Os.ofRat q) := by
  refine ⟨fun m s => ?_, fun r r' hr h0 => ?_⟩
  · unfold ratioSide Os.ofRat
    have e : b * m * 2 ^ s = b * (m * 2 ^ s) := Int.mul_assoc ..
    rw [e]
    generalize m * 2 ^ s = M
    have hb' : (0 : Rat) < (b : Rat) := Rat.intCast_pos.mpr hb
    have hk : (0 : Rat) < UP * (b : Rat) := Rat.mul_pos UP_pos hb'
    have key : ((t - b * M : Int) : Rat) = (q - (M : Rat) / UP) * (UP * (b : Rat)) := by
      rw [Rat.intCast_sub, Rat.intCast_mul, h]
      have := UP_ne
      generalize UP = u at this ⊢
      generalize (b : Rat) = b'
      grind
    generalize hr : (M : Rat) / UP = r at key
    rcases Int.lt_trichotomy (t - b * M) 0 with c | c | c
    · rw [Int.sign_eq_neg_one_of_neg c, if_pos]
      have c2 : ((t - b * M : Int) : Rat) < 0 := Rat.intCast_neg_iff.mpr c
      rw [key] at c2
      have := (Rat.mul_neg_iff_of_pos_right hk).mp c2
      grind
    · have c2 : ((t - b * M : Int) : Rat) = 0 := Rat.intCast_eq_zero_iff.mpr c
      rw [key] at c2
      rcases Rat.mul_eq_zero.mp c2 with d | d
      · rw [c, if_neg (by grind), if_pos (by grind)]
        rfl
      · rw [d] at hk
        exact absurd hk (by decide)
    · have c2 : (0 : Rat) < ((t - b * M : Int) : Rat) := Rat.intCast_pos.mpr c
      rw [key] at c2
      have := (Rat.mul_pos_iff_of_pos_right hk).mp c2
      rw [Int.sign_eq_one_of_pos c, if_neg (by grind), if_neg (by grind)]
  · unfold Os.ofRat at h0 ⊢
    by_cases c : q < r
    · rw [if_pos c] at h0
      cases h0
    · rw [if_neg c] at h0
      by_cases d : q = r
      · rw [if_pos (by grind)]
        decide
      · rw [if_neg d] at h0
        cases h0
/-! sum -/
theorem total_eq (l : List Rat) : Os.total l = l.sum := by
  unfold Os.total
  have : ∀ (l : List Rat) (a : Rat), l.foldl (fun a b => a + b) a = a + l.sum := by
    intro l
    induction l with
    | nil => intro a; simp [Rat.add_zero]
    | cons x r ih => intro a; rw [List.foldl_cons, ih, List.sum_cons, Rat.add_assoc]
  rw [this, Rat.zero_add]
theorem sum_units : ∀ l : List Int, (((l.map unitsOf).sum : Int) : Rat) = (l.map valOf).sum * UP
  | [] => by simp
  | b :: r => by
    rw [List.map_cons, List.map_cons, List.sum_cons, List.sum_cons, Rat.intCast_add, sum_units r, ← valOf_units, Rat.add_mul]
def sumOf (mode : Int) (a : List Int) : List Int := if badList mode a 16 = true then [-1] else answer mode [ratioSide ((a.map unitsOf).sum * Int.sign 1) (Int.natAbs 1 : Int)]
theorem sum_law {mode : Int} {a : List Int} (hm : In64 mode) (ha : ∀ b ∈ a, In64 b) : sumOf mode a = PyWqambd.sum_of mode a := by
  show _ = OsNeutral.shown (Os.answer (.sum mode.toNat (OsNeutral.nats a)))
  unfold sumOf Os.answer
  dsimp only
  rw [withMode_eq hm.1, nats_len]
  by_cases hb : badList mode a 16 = true
  · rw [if_pos hb]
    rcases bad_iff.mp hb with c | c | c
    · rw [if_pos (.inl c)]; rfl
    · rw [if_pos (.inr (decide_eq_false (by unfold Os.LONG; omega)))]; rfl
    · split
      · rfl
      · rw [ofRow_eq ha, if_neg (fun z => c z.2)]; rfl
  · rw [if_neg hb]
    have hb := fun z => hb (bad_iff.mpr z)
    have c1 : ¬ 3 < mode := fun z => hb (.inl z)
    have c2 : ¬ (16 : Int) < (a.length : Int) := fun z => hb (.inr (.inl z))
    have c3 : a.all isFin = true := Classical.byContradiction fun z => hb (.inr (.inr z))
    rw [if_neg (by
      rintro (z | z)
      · exact c1 z
      · have := of_decide_eq_false z
        unfold Os.LONG at this
        omega), ofRow_eq ha, if_pos ⟨rfl, c3⟩]
    have := answer_told (mode := mode) hm.1 (by omega) [(ratioSide ((a.map unitsOf).sum * Int.sign 1) (Int.natAbs 1 : Int), Os.ofRat (Os.total (a.map valOf)))] (by
      intro p hp
      rw [List.mem_singleton.mp hp]
      refine cut_ratio (by decide) ?_
      have e1 : (a.map unitsOf).sum * Int.sign 1 = (a.map unitsOf).sum := Int.mul_one _
      rw [e1, sum_units, total_eq]
      exact (Rat.mul_one _).symm)
    exact this
end Desk

namespace Desk
/-! dot, norm, value: the mirror -/
def prods (a b : List Int) : List Int := List.zipWith (fun x y => x * y) a b
def productSum (a b : List Int) : Int := (prods a b).sum
/-- 2^1075 as a whole number -/
def UPi : Int := 2 ^ 1075
theorem UPi_pos : 0 < UPi := Int.pow_pos (by decide)
theorem UPi_cast : (UPi : Rat) = UP := by unfold UPi UP; rw [Rat.intCast_pow]; rfl
def dotOf (mode : Int) (a b : List Int) : List Int :=
  if (badList mode a 16 || (badList mode b 16 || !decide ((a.length : Int) = (b.length : Int)))) = true then [-1]
  else answer mode [ratioSide (productSum (a.map unitsOf) (b.map unitsOf) * UPi.sign) (UPi.natAbs : Int)]
theorem prods_units : ∀ a b : List Int, ((productSum (a.map unitsOf) (b.map unitsOf) : Int) : Rat) = Os.dot (a.map valOf) (b.map valOf) * (UP * UP)
  | [], b => by unfold productSum prods Os.dot; rw [total_eq]; simp
  | x :: r, [] => by unfold productSum prods Os.dot; rw [total_eq]; simp
  | x :: r, y :: q => by
    have ih := prods_units r q
    unfold productSum prods Os.dot at ih ⊢
    rw [total_eq] at ih ⊢
    rw [List.map_cons, List.map_cons, List.map_cons, List.map_cons, List.zipWith_cons_cons, List.zipWith_cons_cons, List.sum_cons, List.sum_cons, Rat.intCast_add, ih, Rat.intCast_mul, ← valOf_units, ← valOf_units]
    grind
theorem sign_up : UPi.sign = 1 := Int.sign_eq_one_of_pos UPi_pos
theorem abs_up : (UPi.natAbs : Int) = UPi := by have := UPi_pos; omega
theorem ofRow_self {l : List Int} (h : ∀ b ∈ l, In64 b) (f : List Rat → Os.Answer) : Os.ofRow l.length (OsNeutral.nats l) f = if l.all isFin = true then f (l.map valOf) else Os.no 1 := by
  rw [ofRow_eq h]
  by_cases c : l.all isFin = true
  · rw [if_pos ⟨rfl, c⟩, if_pos c]
  · rw [if_neg (fun z => c z.2), if_neg c]
theorem dot_law {mode : Int} {a b : List Int} (hm : In64 mode) (ha : ∀ x ∈ a, In64 x) (hb : ∀ x ∈ b, In64 x) : dotOf mode a b = PyWqambd.dot mode a b := by
  show _ = OsNeutral.shown (Os.answer (.dot mode.toNat (OsNeutral.nats a) (OsNeutral.nats b)))
  unfold dotOf Os.answer
  dsimp only
  rw [withMode_eq hm.1, nats_len, ofRow_self ha]
  have eb : ∀ f : List Rat → Os.Answer, Os.ofRow a.length (OsNeutral.nats b) f = if b.length = a.length ∧ b.all isFin = true then f (b.map valOf) else Os.no 1 := fun f => ofRow_eq hb _ f
  simp only [eb]
  by_cases hbad : (badList mode a 16 || (badList mode b 16 || !decide ((a.length : Int) = (b.length : Int)))) = true
  · rw [if_pos hbad]
    have key : 3 < mode ∨ ¬ a.length ≤ 16 ∨ ¬ a.all isFin = true ∨ ¬ b.length = a.length ∨ ¬ b.all isFin = true := by
      rw [Bool.or_eq_true, Bool.or_eq_true] at hbad
      rcases hbad with h | h | h
      · rcases bad_iff.mp h with c | c | c
        · exact .inl c
        · exact .inr (.inl (by omega))
        · exact .inr (.inr (.inl c))
      · rcases bad_iff.mp h with c | c | c
        · exact .inl c
        · by_cases d : b.length = a.length
          · exact .inr (.inl (by omega))
          · exact .inr (.inr (.inr (.inl d)))
        · exact .inr (.inr (.inr (.inr c)))
      · refine .inr (.inr (.inr (.inl fun z => ?_)))
        rw [decide_eq_true (show (a.length : Int) = (b.length : Int) by omega)] at h
        cases h
    rcases key with c | c | c
    · rw [if_pos (.inl c)]; rfl
    · rw [if_pos (.inr (decide_eq_false (by unfold Os.LONG; omega)))]; rfl
    · split
      · rfl
      · rcases c with c | c
        · rw [if_neg c]; rfl
        · rw [if_neg (show ¬ (b.length = a.length ∧ b.all isFin = true) from fun z => c.elim (fun q => q z.1) (fun q => q z.2))]
          split <;> rfl
  · rw [if_neg hbad]
    have hb1 : ¬ badList mode a 16 = true := fun z => hbad (by rw [z]; rfl)
    have hb2 : ¬ badList mode b 16 = true := fun z => hbad (by rw [z]; simp)
    have hb3 : b.length = a.length := Classical.byContradiction fun z => hbad (by rw [decide_eq_false (show ¬ (a.length : Int) = (b.length : Int) by omega)]; simp)
    have c1 : ¬ 3 < mode := fun z => hb1 (bad_iff.mpr (.inl z))
    have c2 : ¬ (16 : Int) < (a.length : Int) := fun z => hb1 (bad_iff.mpr (.inr (.inl z)))
    have c3 : a.all isFin = true := Classical.byContradiction fun z => hb1 (bad_iff.mpr (.inr (.inr z)))
    have c4 : b.all isFin = true := Classical.byContradiction fun z => hb2 (bad_iff.mpr (.inr (.inr z)))
    rw [if_neg (by
      rintro (z | z)
      · exact c1 z
      · have := of_decide_eq_false z
        unfold Os.LONG at this
        omega), if_pos c3, if_pos ⟨hb3, c4⟩]
    refine answer_told (mode := mode) hm.1 (by omega) [(ratioSide (productSum (a.map unitsOf) (b.map unitsOf) * UPi.sign) (UPi.natAbs : Int), Os.ofRat (Os.dot (a.map valOf) (b.map valOf)))] ?_
    intro p hp
    rw [List.mem_singleton.mp hp, sign_up, abs_up, Int.mul_one]
    refine cut_ratio UPi_pos ?_
    rw [prods_units, UPi_cast, Rat.mul_assoc]
/-! norm -/
def sqSide (q : Int) : Side := fun m s => if m < 0 then 1 else (q - m * m * 2 ^ (2 * s)).sign
def normOf (mode : Int) (a : List Int) : List Int := if badList mode a 16 = true then [-1] else answer mode [sqSide (productSum (a.map unitsOf) (a.map unitsOf))]
theorem cut_sq {k : Int} {q : Rat} (h : (k : Rat) = q * (UP * UP)) : Cut (sqSide k) (fun (r : Rat) => if r < 0 then 1 else if q < r * r then -1 else if q = r * r then 0 else 1) := by
  refine ⟨fun m s => ?_, fun r r' hr h0 => ?_⟩
  · unfold sqSide
    have hp : (0 : Rat) < (2 : Rat) ^ s := Rat.pow_pos (by decide)
    have e1 : m * m * 2 ^ (2 * s) = (m * 2 ^ s) * (m * 2 ^ s) := by
      rw [Nat.two_mul, Int.pow_add]
      generalize (2 : Int) ^ s = u
      grind
    have sg : m < 0 ↔ m * 2 ^ s < 0 := by
      have hq : (0 : Int) < 2 ^ s := Int.pow_pos (by decide)
      constructor
      · intro hm
        exact Int.mul_neg_of_neg_of_pos hm hq
      · intro hm
        rcases Int.lt_or_le m 0 with c | c
        · exact c
        · have := Int.mul_nonneg c (Int.le_of_lt hq)
          omega
    rw [e1]
    have key : (((m * 2 ^ s : Int) : Rat) / UP < 0) ↔ m * 2 ^ s < 0 := by
      rw [Rat.div_lt_iff UP_pos, Rat.zero_mul]
      exact Rat.intCast_neg_iff
    generalize hM : m * 2 ^ s = M at sg key ⊢
    by_cases c : m < 0
    · rw [if_pos c, if_pos (key.mpr (sg.mp c))]
    · rw [if_neg c, if_neg (fun z => c (sg.mpr (key.mp z)))]
      generalize hr : (M : Rat) / UP = r
      have eM : (M : Rat) = r * UP := by rw [← hr, Rat.div_mul_cancel UP_ne]
      have hk : (0 : Rat) < UP * UP := Rat.mul_pos UP_pos UP_pos
      have key2 : ((k - M * M : Int) : Rat) = (q - r * r) * (UP * UP) := by
        rw [Rat.intCast_sub, Rat.intCast_mul, h, eM]
        grind
      rcases Int.lt_trichotomy (k - M * M) 0 with c | c | c
      · have c2 := Rat.intCast_neg_iff.mpr c
        rw [key2] at c2
        have := (Rat.mul_neg_iff_of_pos_right hk).mp c2
        rw [Int.sign_eq_neg_one_of_neg c, if_pos (by grind)]
      · have c2 := Rat.intCast_eq_zero_iff.mpr c
        rw [key2] at c2
        rcases Rat.mul_eq_zero.mp c2 with d | d
        · rw [c, if_neg (by grind), if_pos (by grind)]
          rfl
        · rw [d] at hk
          exact absurd hk (by decide)
      · have c2 := Rat.intCast_pos.mpr c
        rw [key2] at c2
        have := (Rat.mul_pos_iff_of_pos_right hk).mp c2
        rw [Int.sign_eq_one_of_pos c, if_neg (by grind), if_neg (by grind)]
  · by_cases c : r < 0
    · rw [if_pos c] at h0
      cases h0
    · rw [if_neg c] at h0
      have c' : 0 ≤ r := Rat.not_lt.mp c
      by_cases d : q < r * r
      · rw [if_pos d] at h0
        cases h0
      · rw [if_neg d] at h0
        by_cases e : q = r * r
        · have h1 : r * r' < r' * r' := Rat.mul_lt_mul_of_pos_right hr (by grind)
          have h2 : r * r ≤ r * r' := Rat.mul_le_mul_of_nonneg_left (Rat.le_of_lt hr) c'
          rw [if_neg (by grind), if_pos (by grind)]
          decide
        · rw [if_neg e] at h0
          cases h0
theorem norm_law {mode : Int} {a : List Int} (hm : In64 mode) (ha : ∀ b ∈ a, In64 b) : normOf mode a = PyWqambd.norm mode a := by
  show _ = OsNeutral.shown (Os.answer (.norm mode.toNat (OsNeutral.nats a)))
  unfold normOf Os.answer
  dsimp only
  rw [withMode_eq hm.1, nats_len]
  by_cases hb : badList mode a 16 = true
  · rw [if_pos hb]
    rcases bad_iff.mp hb with c | c | c
    · rw [if_pos (.inl c)]; rfl
    · rw [if_pos (.inr (decide_eq_false (by unfold Os.LONG; omega)))]; rfl
    · split
      · rfl
      · rw [ofRow_eq ha, if_neg (fun z => c z.2)]; rfl
  · rw [if_neg hb]
    have hb := fun z => hb (bad_iff.mpr z)
    have c1 : ¬ 3 < mode := fun z => hb (.inl z)
    have c2 : ¬ (16 : Int) < (a.length : Int) := fun z => hb (.inr (.inl z))
    have c3 : a.all isFin = true := Classical.byContradiction fun z => hb (.inr (.inr z))
    rw [if_neg (by
      rintro (z | z)
      · exact c1 z
      · have := of_decide_eq_false z
        unfold Os.LONG at this
        omega), ofRow_eq ha, if_pos ⟨rfl, c3⟩]
    refine answer_told (mode := mode) hm.1 (by omega) [(sqSide (productSum (a.map unitsOf) (a.map unitsOf)), fun (r : Rat) => if r < 0 then 1 else if Os.dot (a.map valOf) (a.map valOf) < r * r then -1 else if Os.dot (a.map valOf) (a.map valOf) = r * r then 0 else 1)] ?_
    intro p hp
    rw [List.mem_singleton.mp hp]
    exact cut_sq (prods_units a a)
/-! value -/
def stretched (p : List Int) : List Int := (List.range p.length).map fun i => p.getD i 0 * 2 ^ (1075 * (p.length - 1 - i))
def polyVal (p : List Int) (m : Int) (s : Nat) : Int := p.foldr (fun c t => t * m * 2 ^ s + c) 0
def valueOf (mode x : Int) (p : List Int) : List Int :=
  if (badList mode p 6 || !isFin x) = true then [-1]
  else answer mode [ratioSide (polyVal (stretched (p.map unitsOf)) (pM (placeOf x)) (pS (placeOf x)) * Int.sign (2 ^ (1075 * (p.length - 1)))) ((2 ^ (1075 * (p.length - 1)) : Int).natAbs : Int)]
theorem stretched_cons (c : Int) (r : List Int) : stretched (c :: r) = c * 2 ^ (1075 * r.length) :: stretched r := by
  unfold stretched
  rw [List.length_cons, List.range_succ_eq_map, List.map_cons, List.map_map]
  congr 1
  apply List.map_congr_left
  intro i hi
  show (c :: r).getD (i + 1) 0 * 2 ^ (1075 * (r.length + 1 - 1 - (i + 1))) = r.getD i 0 * 2 ^ (1075 * (r.length - 1 - i))
  have e : r.length + 1 - 1 - (i + 1) = r.length - 1 - i := by omega
  rw [e]
  rfl
theorem UP_pow (n : Nat) : ((2 ^ (1075 * n) : Int) : Rat) = UP ^ n := by
  induction n with
  | zero => rfl
  | succ n ih =>
    rw [Nat.mul_add, Int.pow_add, Rat.intCast_mul, ih, Rat.pow_succ, ← UPi_cast, Nat.mul_one]
    rfl
/-- the value at m 2^s units, in units to the power of the length -/
theorem polyVal_units (x : Int) : ∀ p : List Int, ((polyVal (stretched (p.map unitsOf)) (pM (placeOf x)) (pS (placeOf x)) : Int) : Rat) = Os.polyAt (p.map valOf) (valOf x) * UP ^ p.length
  | [] => by
    show ((0 : Int) : Rat) = 0 * _
    rw [Rat.zero_mul]
    rfl
  | c :: r => by
    have ih := polyVal_units x r
    have e1 : polyVal (stretched ((c :: r).map unitsOf)) (pM (placeOf x)) (pS (placeOf x)) = polyVal (stretched (r.map unitsOf)) (pM (placeOf x)) (pS (placeOf x)) * unitsOf x + unitsOf c * 2 ^ (1075 * r.length) := by
      rw [List.map_cons, stretched_cons, List.length_map]
      show polyVal (stretched (r.map unitsOf)) (pM (placeOf x)) (pS (placeOf x)) * pM (placeOf x) * 2 ^ pS (placeOf x) + _ = _
      rw [Int.mul_assoc]
      rfl
    have e2 : Os.polyAt ((c :: r).map valOf) (valOf x) = valOf c + valOf x * Os.polyAt (r.map valOf) (valOf x) := rfl
    rw [e1, e2, Rat.intCast_add, Rat.intCast_mul, Rat.intCast_mul, ih, ← valOf_units, ← valOf_units, UP_pow, List.length_cons, Rat.pow_succ]
    generalize UP ^ r.length = u
    grind
theorem pow_pos2 (n : Nat) : (0 : Int) < 2 ^ n := Int.pow_pos (by decide)
theorem value_law {mode x : Int} {p : List Int} (hm : In64 mode) (hx : In64 x) (ha : ∀ b ∈ p, In64 b) : valueOf mode x p = PyWqambd.value mode x p := by
  show _ = OsNeutral.shown (Os.answer (.value mode.toNat x.toNat (OsNeutral.nats p)))
  unfold valueOf Os.answer
  dsimp only
  rw [withMode_eq hm.1, nats_len]
  have ex : [x.toNat] = OsNeutral.nats [x] := rfl
  rw [ex, ofRow_eq (l := [x]) (by intro b hb; rw [List.mem_singleton.mp hb]; exact hx)]
  have ea : ∀ f : List Rat → Os.Answer, Os.ofRow p.length (OsNeutral.nats p) f = if p.all isFin = true then f (p.map valOf) else Os.no 1 := fun f => ofRow_self ha f
  simp only [ea]
  have efx : ([x].length = 1 ∧ [x].all isFin = true) = (isFin x = true) := by
    simp
  simp only [efx]
  by_cases hb : (badList mode p 6 || !isFin x) = true
  · rw [if_pos hb]
    rw [Bool.or_eq_true] at hb
    rcases hb with hb | hb
    · rcases bad_iff.mp hb with c | c | c
      · rw [if_pos (.inl c)]; rfl
      · rw [if_pos (.inr (decide_eq_false (by omega)))]; rfl
      · rw [if_neg c]
        split
        · rfl
        · split <;> rfl
    · have hb : ¬ isFin x = true := by
        intro z
        rw [z] at hb
        cases hb
      rw [if_neg hb]
      split <;> rfl
  · rw [if_neg hb]
    have h1 : ¬ badList mode p 6 = true := fun z => hb (by rw [z]; rfl)
    have h2 : isFin x = true := by
      cases q : isFin x with
      | true => rfl
      | false => exact absurd (by rw [q]; simp) hb
    have hb := fun z => h1 (bad_iff.mpr z)
    have c1 : ¬ 3 < mode := fun z => hb (.inl z)
    have c2 : ¬ (6 : Int) < (p.length : Int) := fun z => hb (.inr (.inl z))
    have c3 : p.all isFin = true := Classical.byContradiction fun z => hb (.inr (.inr z))
    rw [if_neg (by
      rintro (z | z)
      · exact c1 z
      · have := of_decide_eq_false z
        omega), if_pos h2, if_pos c3]
    refine answer_told (mode := mode) hm.1 (by omega) [(ratioSide (polyVal (stretched (p.map unitsOf)) (pM (placeOf x)) (pS (placeOf x)) * Int.sign (2 ^ (1075 * (p.length - 1)))) ((2 ^ (1075 * (p.length - 1)) : Int).natAbs : Int), Os.ofRat (Os.polyAt (p.map valOf) (([x].map valOf).getD 0 0)))] ?_
    intro q hq
    rw [List.mem_singleton.mp hq, Int.sign_eq_one_of_pos (pow_pos2 _), Int.mul_one, show ((2 ^ (1075 * (p.length - 1)) : Int).natAbs : Int) = 2 ^ (1075 * (p.length - 1)) from by have := pow_pos2 (1075 * (p.length - 1)); omega]
    refine cut_ratio (pow_pos2 _) ?_
    rw [polyVal_units, UP_pow]
    show _ = Os.polyAt (p.map valOf) (valOf x) * UP * _
    cases p with
    | nil =>
      show (0 : Rat) * _ = 0 * _ * _
      rw [Rat.zero_mul, Rat.zero_mul, Rat.zero_mul]
    | cons c r =>
      have e : (c :: r).length - 1 = r.length := by simp
      rw [e, List.length_cons, Rat.pow_succ]
      generalize UP ^ r.length = u
      grind
end Desk

namespace Desk
/-! matrices: the mirror -/
abbrev MatI := List (List Int)
/-- the rows of m rows and n columns handed over row by row -/
def rowsOf (u : List Int) (m n : Nat) : MatI := (List.range m).map fun i => (List.range n).map fun j => u.getD (n * i + j) 0
def clearedM (row lead : List Int) (j : Nat) : List Int := (List.range row.length).map fun at_ => lead.getD j 0 * row.getD at_ 0 - row.getD j 0 * lead.getD at_ 0
def pivotRow (rows : MatI) (j : Nat) : Nat := rows.findIdx fun r => decide (r.getD j 0 ≠ 0)
def rankStep (st : MatI × Nat) (j : Nat) : MatI × Nat :=
  if pivotRow st.1 j < st.1.length then ((st.1.eraseIdx (pivotRow st.1 j)).map (fun row => clearedM row (st.1.getD (pivotRow st.1 j) []) j), st.2 + 1) else st
def rankOf (rows : MatI) (width : Nat) : Nat := ((List.range width).foldl rankStep (rows, 0)).2
def badSize (size most : Int) : Bool := decide (size < 1) || decide (most < size)
def badMatrix (m n most : Int) (ns : List Int) : Bool := badSize m most || (badSize n 4 || (!decide ((ns.length : Int) = m * n) || !(ns.all isFin)))
def rankM (m n : Int) (a : List Int) : List Int := if badMatrix m n 4 a = true then [-1] else [0, (rankOf (rowsOf (a.map unitsOf) m.toNat n.toNat) n.toNat : Int)]
/-! rows up to a factor -/
def Sc (n : Nat) : MatI → List (List Rat) → Prop
  | [], [] => True
  | r :: rs, l :: ls => (r.length = n ∧ ∃ k : Rat, k ≠ 0 ∧ l = r.map fun (x : Int) => k * (x : Rat)) ∧ Sc n rs ls
  | _, _ => False
theorem Sc.len {n : Nat} : ∀ {rs : MatI} {ls : List (List Rat)}, Sc n rs ls → rs.length = ls.length
  | [], [], _ => rfl
  | _ :: _, _ :: _, h => by rw [List.length_cons, List.length_cons, h.2.len]
  | [], _ :: _, h => h.elim
  | _ :: _, [], h => h.elim
theorem getD_map_mul {r : List Int} {k : Rat} {c : Nat} : (r.map fun (x : Int) => k * (x : Rat)).getD c 0 = k * ((r.getD c 0 : Int) : Rat) := by
  rw [List.getD_eq_getElem?_getD, List.getD_eq_getElem?_getD, List.getElem?_map]
  cases r[c]? with
  | none =>
    show (0 : Rat) = k * ((0 : Int) : Rat)
    rw [Rat.intCast_zero, Rat.mul_zero]
  | some x => rfl
theorem Sc.find {n c : Nat} : ∀ {rs : MatI} {ls : List (List Rat)}, Sc n rs ls → ls.findIdx? (fun (r : List Rat) => decide (r.getD c 0 ≠ 0)) = if pivotRow rs c < rs.length then some (pivotRow rs c) else none
  | [], [], _ => rfl
  | r :: rs, l :: ls, h => by
    have ih := Sc.find (c := c) h.2
    obtain ⟨⟨_, k, hk, rfl⟩, _⟩ := h
    rw [List.findIdx?_cons, getD_map_mul]
    unfold pivotRow at ih ⊢
    rw [List.findIdx_cons]
    by_cases z : r.getD c 0 = 0
    · rw [z, decide_eq_false (by rw [Rat.intCast_zero, Rat.mul_zero]; simp), decide_eq_false (by simp), ih]
      simp only [Bool.false_eq_true, if_false, cond_false]
      by_cases q : List.findIdx (fun r => decide (r.getD c 0 ≠ 0)) rs < rs.length
      · rw [if_pos q, if_pos (by rw [List.length_cons]; omega)]; rfl
      · rw [if_neg q, if_neg (by rw [List.length_cons]; omega)]; rfl
    · rw [decide_eq_true (show k * ((r.getD c 0 : Int) : Rat) ≠ 0 from fun e => by
        rcases Rat.mul_eq_zero.mp e with e | e
        · exact hk e
        · exact z (Rat.intCast_eq_zero_iff.mp e)), decide_eq_true z]
      simp
  | [], _ :: _, h => h.elim
  | _ :: _, [], h => h.elim
theorem Sc.at_ {n : Nat} : ∀ {rs : MatI} {ls : List (List Rat)} {i : Nat}, Sc n rs ls → i < rs.length → (rs.getD i []).length = n ∧ ∃ k : Rat, k ≠ 0 ∧ ls.getD i [] = (rs.getD i []).map fun (x : Int) => k * (x : Rat)
  | r :: rs, l :: ls, 0, h, _ => h.1
  | r :: rs, l :: ls, i + 1, h, hi => Sc.at_ (rs := rs) (ls := ls) (i := i) h.2 (by rw [List.length_cons] at hi; omega)
  | [], [], _, _, hi => absurd hi (Nat.not_lt_zero _)
  | [], _ :: _, _, h, _ => h.elim
  | _ :: _, [], _, h, _ => h.elim
theorem Sc.erase {n : Nat} : ∀ {rs : MatI} {ls : List (List Rat)} {i : Nat}, Sc n rs ls → Sc n (rs.eraseIdx i) (ls.eraseIdx i)
  | [], [], _, h => h
  | r :: rs, l :: ls, 0, h => h.2
  | r :: rs, l :: ls, i + 1, h => ⟨h.1, Sc.erase (i := i) h.2⟩
  | [], _ :: _, _, h => h.elim
  | _ :: _, [], _, h => h.elim
theorem Sc.map {n : Nat} {f : List Int → List Int} {g : List Rat → List Rat} (hfg : ∀ (r : List Int) (k : Rat), k ≠ 0 → r.length = n → (f r).length = n ∧ ∃ k' : Rat, k' ≠ 0 ∧ g (r.map fun (x : Int) => k * (x : Rat)) = (f r).map fun (x : Int) => k' * (x : Rat)) :
    ∀ {rs : MatI} {ls : List (List Rat)}, Sc n rs ls → Sc n (rs.map f) (ls.map g)
  | [], [], h => h
  | r :: rs, l :: ls, h => by
    obtain ⟨⟨h1, k, hk, rfl⟩, h2⟩ := h
    exact ⟨hfg r k hk h1, Sc.map hfg h2⟩
  | [], _ :: _, h => h.elim
  | _ :: _, [], h => h.elim
theorem clear_sc {n c : Nat} {lead : List Int} {kl : Rat} (hkl : kl ≠ 0) (hl : lead.length = n) (hc : lead.getD c 0 ≠ 0) (r : List Int) (k : Rat) (hk : k ≠ 0) (hr : r.length = n) :
    (clearedM r lead c).length = n ∧ ∃ k' : Rat, k' ≠ 0 ∧ Os.clear c (Os.scaleRow (1 / (lead.map fun (x : Int) => kl * (x : Rat)).getD c 0) (lead.map fun (x : Int) => kl * (x : Rat))) (r.map fun (x : Int) => k * (x : Rat)) = (clearedM r lead c).map fun (x : Int) => k' * (x : Rat) := by
  refine ⟨by unfold clearedM; rw [List.length_map, List.length_range, hr], k / ((lead.getD c 0 : Int) : Rat), ?_, ?_⟩
  · intro e
    have hc' : ((lead.getD c 0 : Int) : Rat) ≠ 0 := fun z => hc (Rat.intCast_eq_zero_iff.mp z)
    grind
  · have hc' : ((lead.getD c 0 : Int) : Rat) ≠ 0 := fun z => hc (Rat.intCast_eq_zero_iff.mp z)
    unfold Os.clear
    rw [getD_map_mul, getD_map_mul]
    have key : ∀ i : Nat, i < n → (clearedM r lead c)[i]? = some (lead.getD c 0 * r.getD i 0 - r.getD c 0 * lead.getD i 0) := fun i hi => by
      unfold clearedM
      rw [List.getElem?_map, List.getElem?_range (by omega)]
      rfl
    have gr : ∀ i : Nat, i < n → r[i]? = some (r.getD i 0) := fun i hi => by
      rw [List.getD_eq_getElem?_getD, List.getElem?_eq_getElem (by omega)]
      rfl
    have gl : ∀ i : Nat, i < n → lead[i]? = some (lead.getD i 0) := fun i hi => by
      rw [List.getD_eq_getElem?_getD, List.getElem?_eq_getElem (by omega)]
      rfl
    have lc : (clearedM r lead c).length = n := by unfold clearedM; rw [List.length_map, List.length_range, hr]
    by_cases z : k * ((r.getD c 0 : Int) : Rat) = 0
    · rw [if_pos z]
      have z2 : r.getD c 0 = 0 := by
        rcases Rat.mul_eq_zero.mp z with e | e
        · exact absurd e hk
        · exact Rat.intCast_eq_zero_iff.mp e
      apply List.ext_getElem?
      intro i
      rw [List.getElem?_map, List.getElem?_map]
      by_cases hi : i < n
      · rw [key i hi, gr i hi, z2]
        show some (k * _) = some (_ * (((lead.getD c 0 * r.getD i 0 - 0 * lead.getD i 0 : Int)) : Rat))
        rw [Int.zero_mul, Int.sub_zero, Rat.intCast_mul]
        congr 1
        generalize ((r.getD i 0 : Int) : Rat) = x
        generalize ((lead.getD c 0 : Int) : Rat) = y at hc' ⊢
        grind
      · rw [List.getElem?_eq_none (by omega), List.getElem?_eq_none (by omega)]
        rfl
    · rw [if_neg z]
      unfold Os.subRow Os.scaleRow
      apply List.ext_getElem?
      intro i
      rw [List.getElem?_zipWith, List.getElem?_map, List.getElem?_map, List.getElem?_map, List.getElem?_map, List.getElem?_map]
      by_cases hi : i < n
      · rw [key i hi, gr i hi, gl i hi]
        show some (k * ((r.getD i 0 : Int) : Rat) - k * ((r.getD c 0 : Int) : Rat) * (1 / (kl * ((lead.getD c 0 : Int) : Rat)) * (kl * ((lead.getD i 0 : Int) : Rat)))) = some (k / ((lead.getD c 0 : Int) : Rat) * (((lead.getD c 0 * r.getD i 0 - r.getD c 0 * lead.getD i 0 : Int)) : Rat))
        rw [Rat.intCast_sub, Rat.intCast_mul, Rat.intCast_mul]
        congr 1
        generalize ((r.getD i 0 : Int) : Rat) = x
        generalize ((lead.getD i 0 : Int) : Rat) = l
        generalize ((r.getD c 0 : Int) : Rat) = rc
        generalize ((lead.getD c 0 : Int) : Rat) = y at hc' ⊢
        grind
      · rw [List.getElem?_eq_none (show r.length ≤ i by omega), List.getElem?_eq_none (show lead.length ≤ i by omega), List.getElem?_eq_none (show (clearedM r lead c).length ≤ i by omega)]
        rfl
theorem rank_sc {n : Nat} : ∀ (f c : Nat) (done left : List (List Rat)) (rest : MatI) (found : Nat), Sc n rest left → done.length = found →
    (Os.reduceFrom f c done left).1.length = ((List.range' c f).foldl rankStep (rest, found)).2
  | 0, c, done, left, rest, found, _, h => h
  | f + 1, c, done, left, rest, found, hs, h => by
    rw [Os.reduceFrom, hs.find, List.range'_succ, List.foldl_cons]
    unfold rankStep
    dsimp only
    by_cases q : pivotRow rest c < rest.length
    · rw [if_pos q, if_pos q]
      dsimp only
      obtain ⟨h1, kl, hkl, h2⟩ := hs.at_ q
      have hp : (rest.getD (pivotRow rest c) []).getD c 0 ≠ 0 := by
        have := List.findIdx_getElem (p := fun (r : List Int) => decide (r.getD c 0 ≠ 0)) (xs := rest) (w := q)
        have := of_decide_eq_true this
        rw [List.getD_eq_getElem?_getD (l := rest), List.getElem?_eq_getElem q]
        exact this
      refine rank_sc (n := n) f (c + 1) _ _ _ _ ?_ (by rw [List.length_append, List.length_map, h]; rfl)
      rw [h2]
      exact Sc.map (clear_sc hkl h1 hp) hs.erase
    · rw [if_neg q, if_neg q]
      exact rank_sc f (c + 1) _ _ _ _ hs h
theorem rows_sc_aux {n : Nat} (g : Nat → Nat → Int) (h : Nat → Nat → Rat) (k : Rat) (hk : k ≠ 0) (e : ∀ i j, h i j = k * ((g i j : Int) : Rat)) : ∀ l : List Nat, Sc n (l.map fun i => (List.range n).map (g i)) (l.map fun i => (List.range n).map (h i))
  | [] => trivial
  | i :: l => by
    refine ⟨⟨by rw [List.length_map, List.length_range], k, hk, ?_⟩, rows_sc_aux g h k hk e l⟩
    rw [List.map_map]
    apply List.map_congr_left
    intro j _
    exact e i j
theorem getD_units (a : List Int) (i : Nat) : (a.map valOf).getD i 0 = 1 / UP * (((a.map unitsOf).getD i 0 : Int) : Rat) := by
  rw [List.getD_eq_getElem?_getD, List.getD_eq_getElem?_getD, List.getElem?_map, List.getElem?_map]
  cases a[i]? with
  | none =>
    show (0 : Rat) = _ * ((0 : Int) : Rat)
    rw [Rat.intCast_zero, Rat.mul_zero]
  | some x =>
    show valOf x = _ * ((unitsOf x : Int) : Rat)
    rw [← valOf_units]
    have := UP_ne
    grind
theorem rank_eq (a : List Int) (m n : Nat) : Os.rank n (Os.matIn m n (a.map valOf)) = rankOf (rowsOf (a.map unitsOf) m n) n := by
  unfold Os.rank rankOf
  rw [rank_sc (n := n) n 0 [] _ (rowsOf (a.map unitsOf) m n) 0 ?_ rfl, List.range_eq_range']
  unfold Os.matIn Os.matOf rowsOf
  exact rows_sc_aux _ _ (1 / UP) (by have := UP_ne; grind) (fun i j => getD_units a (n * i + j)) _
theorem few_iff {n : Int} (h : In64 n) : Os.few n.toNat = !badSize n 4 := by
  obtain ⟨h0, h1⟩ := h
  unfold Os.few badSize
  by_cases a : n < 1
  · rw [decide_eq_true a, decide_eq_false (by omega)]; rfl
  · rw [decide_eq_false a, decide_eq_true (by omega)]
    by_cases b : 4 < n
    · rw [decide_eq_true b, decide_eq_false (by omega)]; rfl
    · rw [decide_eq_false b, decide_eq_true (by omega)]; rfl
theorem badMatrix_iff {m n most : Int} {a : List Int} : badMatrix m n most a = true ↔ badSize m most = true ∨ badSize n 4 = true ∨ ¬ (a.length : Int) = m * n ∨ ¬ a.all isFin = true := by
  unfold badMatrix
  rw [Bool.or_eq_true, Bool.or_eq_true, Bool.or_eq_true]
  by_cases c : (a.length : Int) = m * n
  · rw [decide_eq_true c]
    cases a.all isFin <;> simp [c]
  · rw [decide_eq_false c]
    simp [c]
theorem rank_law {m n : Int} {a : List Int} (hm : In64 m) (hn : In64 n) (ha : ∀ b ∈ a, In64 b) : rankM m n a = PyWqambd.rank m n a := by
  show _ = OsNeutral.shown (Os.answer (.rank m.toNat n.toNat (OsNeutral.nats a)))
  have e0 : (0 : Nat) = Int.toNat 0 := rfl
  unfold rankM Os.answer
  dsimp only
  rw [few_iff hm, few_iff hn, e0, withMode_eq (by decide)]
  by_cases hb : badMatrix m n 4 a = true
  · rw [if_pos hb]
    rcases badMatrix_iff.mp hb with c | c | c | c
    · rw [c, if_pos (.inr rfl)]; rfl
    · rw [c, if_pos (.inr (by simp))]; rfl
    · split
      · rfl
      · rw [ofRow_eq ha, if_neg (fun z => c ?_)]
        · rfl
        · have := z.1
          have hm0 := hm.1
          have hn0 := hn.1
          rw [show m * n = ((m.toNat * n.toNat : Nat) : Int) by rw [Int.natCast_mul]; congr 1 <;> omega]
          omega
    · split
      · rfl
      · rw [ofRow_eq ha, if_neg (fun z => c z.2)]; rfl
  · rw [if_neg hb]
    have hb := fun z => hb (badMatrix_iff.mpr z)
    have c1 : badSize m 4 = false := by
      cases q : badSize m 4 with
      | false => rfl
      | true => exact (hb (.inl q)).elim
    have c2 : badSize n 4 = false := by
      cases q : badSize n 4 with
      | false => rfl
      | true => exact (hb (.inr (.inl q))).elim
    have c3 : (a.length : Int) = m * n := Classical.byContradiction fun z => hb (.inr (.inr (.inl z)))
    have c4 : a.all isFin = true := Classical.byContradiction fun z => hb (.inr (.inr (.inr z)))
    have c5 : a.length = m.toNat * n.toNat := by
      have hm0 := hm.1
      have hn0 := hn.1
      rw [show m * n = ((m.toNat * n.toNat : Nat) : Int) by rw [Int.natCast_mul]; congr 1 <;> omega] at c3
      omega
    rw [c1, c2, if_neg (by simp), ofRow_eq ha, if_pos ⟨c5, c4⟩, rank_eq]
    rfl
end Desk

namespace Desk
/-! determinants: the mirror -/
def minorM (rows : MatI) (i j : Nat) : MatI := (rows.eraseIdx i).map fun r => r.eraseIdx j
def signedM (power : Nat) (x : Int) : Int := if power % 2 = 1 then -x else x
def detM : Nat → MatI → Int
  | 0, _ => 1
  | n + 1, rows => (List.range (n + 1)).foldl (fun t j => t + signedM j ((rows.getD 0 []).getD j 0 * detM n (minorM rows 0 j))) 0
theorem detM1 (a : Int) : detM 1 [[a]] = a := by
  show 0 + a * 1 = a
  grind
theorem detM2 (a b c d : Int) : detM 2 [[a, b], [c, d]] = a * d - b * c := by
  show 0 + a * (0 + d * 1) + -(b * (0 + c * 1)) = _
  grind
theorem detM3 (a b c d e f g h i : Int) : detM 3 [[a, b, c], [d, e, f], [g, h, i]] = a * (e * i - f * h) - b * (d * i - f * g) + c * (d * h - e * g) := by
  show 0 + a * detM 2 [[e, f], [h, i]] + -(b * detM 2 [[d, f], [g, i]]) + c * detM 2 [[d, e], [g, h]] = _
  rw [detM2, detM2, detM2]
  grind
theorem detM4 (a b c d e f g h i j k l m n o p : Int) : detM 4 [[a, b, c, d], [e, f, g, h], [i, j, k, l], [m, n, o, p]] =
    a * (f * (k * p - l * o) - g * (j * p - l * n) + h * (j * o - k * n)) - b * (e * (k * p - l * o) - g * (i * p - l * m) + h * (i * o - k * m))
    + c * (e * (j * p - l * n) - f * (i * p - l * m) + h * (i * n - j * m)) - d * (e * (j * o - k * n) - f * (i * o - k * m) + g * (i * n - j * m)) := by
  show 0 + a * detM 3 [[f, g, h], [j, k, l], [n, o, p]] + -(b * detM 3 [[e, g, h], [i, k, l], [m, o, p]]) + c * detM 3 [[e, f, h], [i, j, l], [m, n, p]] + -(d * detM 3 [[e, f, g], [i, j, k], [m, n, o]]) = _
  rw [detM3, detM3, detM3, detM3]
  grind
/-! the specification's determinant -/
theorem find0 {a : List Rat} {r : List (List Rat)} (h : a.headD 0 ≠ 0) : (a :: r).findIdx? (fun (r : List Rat) => decide (r.headD 0 ≠ 0)) = some 0 := by
  rw [List.findIdx?_cons, decide_eq_true h]
  rfl
theorem findS {a : List Rat} {r : List (List Rat)} (h : a.headD 0 = 0) : (a :: r).findIdx? (fun (r : List Rat) => decide (r.headD 0 ≠ 0)) = (r.findIdx? (fun (r : List Rat) => decide (r.headD 0 ≠ 0))).map (· + 1) := by
  rw [List.findIdx?_cons, decide_eq_false (by simpa using h)]
  rfl
theorem detF1 (a : Rat) : Os.detFrom 1 [[a]] = a := by
  unfold Os.detFrom
  by_cases h : a = 0
  · rw [findS (by exact h), h]; rfl
  · rw [find0 (by exact h)]
    show 1 * (a * 1) = a
    grind
theorem detF2 (a b c d : Rat) : Os.detFrom 2 [[a, b], [c, d]] = a * d - b * c := by
  unfold Os.detFrom
  by_cases h : a = 0
  · rw [findS (by exact h)]
    by_cases h2 : c = 0
    · rw [findS (by exact h2), h, h2]
      show (0 : Rat) = _
      grind
    · rw [find0 (by exact h2)]
      show -1 * (c * Os.detFrom 1 [[b - a / c * d]]) = _
      rw [detF1, h]
      grind
  · rw [find0 (by exact h)]
    show 1 * (a * Os.detFrom 1 [[d - c / a * b]]) = _
    rw [detF1]
    grind
theorem detF3 (a b c d e f g h i : Rat) : Os.detFrom 3 [[a, b, c], [d, e, f], [g, h, i]] = a * (e * i - f * h) - b * (d * i - f * g) + c * (d * h - e * g) := by
  unfold Os.detFrom
  by_cases h1 : a = 0
  · rw [findS (by exact h1)]
    by_cases h2 : d = 0
    · rw [findS (by exact h2)]
      by_cases h3 : g = 0
      · rw [findS (by exact h3), h1, h2, h3]
        show (0 : Rat) = _
        grind
      · rw [find0 (by exact h3)]
        show 1 * (g * Os.detFrom 2 [[b - a / g * h, c - a / g * i], [e - d / g * h, f - d / g * i]]) = _
        rw [detF2, h1, h2]
        grind
    · rw [find0 (by exact h2)]
      show -1 * (d * Os.detFrom 2 [[b - a / d * e, c - a / d * f], [h - g / d * e, i - g / d * f]]) = _
      rw [detF2, h1]
      obtain ⟨t, rfl⟩ : ∃ t, g = t * d := ⟨g / d, by grind⟩
      rw [show t * d / d = t by grind]
      grind
  · rw [find0 (by exact h1)]
    show 1 * (a * Os.detFrom 2 [[e - d / a * b, f - d / a * c], [h - g / a * b, i - g / a * c]]) = _
    rw [detF2]
    obtain ⟨t, rfl⟩ : ∃ t, d = t * a := ⟨d / a, by grind⟩
    obtain ⟨s, rfl⟩ : ∃ t, g = t * a := ⟨g / a, by grind⟩
    rw [show t * a / a = t by grind, show s * a / a = s by grind]
    grind
set_option maxHeartbeats 4000000 in
theorem detF4 (a b c d e f g h i j k l m n o p : Rat) : Os.detFrom 4 [[a, b, c, d], [e, f, g, h], [i, j, k, l], [m, n, o, p]] =
    a * (f * (k * p - l * o) - g * (j * p - l * n) + h * (j * o - k * n)) - b * (e * (k * p - l * o) - g * (i * p - l * m) + h * (i * o - k * m))
    + c * (e * (j * p - l * n) - f * (i * p - l * m) + h * (i * n - j * m)) - d * (e * (j * o - k * n) - f * (i * o - k * m) + g * (i * n - j * m)) := by
  unfold Os.detFrom
  by_cases h1 : a = 0
  · rw [findS (by exact h1)]
    by_cases h2 : e = 0
    · rw [findS (by exact h2)]
      by_cases h3 : i = 0
      · rw [findS (by exact h3)]
        by_cases h4 : m = 0
        · rw [findS (by exact h4), h1, h2, h3, h4]
          show (0 : Rat) = _
          grind
        · rw [find0 (by exact h4)]
          show -1 * (m * Os.detFrom 3 [[b - a / m * n, c - a / m * o, d - a / m * p], [f - e / m * n, g - e / m * o, h - e / m * p], [j - i / m * n, k - i / m * o, l - i / m * p]]) = _
          rw [detF3, h1, h2, h3]
          rw [show (0 : Rat) / m = 0 by grind]
          grind
      · rw [find0 (by exact h3)]
        show 1 * (i * Os.detFrom 3 [[b - a / i * j, c - a / i * k, d - a / i * l], [f - e / i * j, g - e / i * k, h - e / i * l], [n - m / i * j, o - m / i * k, p - m / i * l]]) = _
        rw [detF3, h1, h2]
        obtain ⟨t, rfl⟩ : ∃ t, m = t * i := ⟨m / i, by grind⟩
        rw [show (0 : Rat) / i = 0 by grind, show t * i / i = t by grind]
        grind
    · rw [find0 (by exact h2)]
      show -1 * (e * Os.detFrom 3 [[b - a / e * f, c - a / e * g, d - a / e * h], [j - i / e * f, k - i / e * g, l - i / e * h], [n - m / e * f, o - m / e * g, p - m / e * h]]) = _
      rw [detF3, h1]
      obtain ⟨t, rfl⟩ : ∃ t, i = t * e := ⟨i / e, by grind⟩
      obtain ⟨s, rfl⟩ : ∃ t, m = t * e := ⟨m / e, by grind⟩
      rw [show (0 : Rat) / e = 0 by grind, show t * e / e = t by grind, show s * e / e = s by grind]
      grind
  · rw [find0 (by exact h1)]
    show 1 * (a * Os.detFrom 3 [[f - e / a * b, g - e / a * c, h - e / a * d], [j - i / a * b, k - i / a * c, l - i / a * d], [n - m / a * b, o - m / a * c, p - m / a * d]]) = _
    rw [detF3]
    obtain ⟨t, rfl⟩ : ∃ t, e = t * a := ⟨e / a, by grind⟩
    obtain ⟨s, rfl⟩ : ∃ t, i = t * a := ⟨i / a, by grind⟩
    obtain ⟨r, rfl⟩ : ∃ t, m = t * a := ⟨m / a, by grind⟩
    rw [show t * a / a = t by grind, show s * a / a = s by grind, show r * a / a = r by grind]
    grind
end Desk

namespace Desk
/-! det -/
theorem list_is1 {α : Type} {l : List α} (h : l.length = 1) : ∃ x0, l = [x0] := match l, h with | [x0], _ => ⟨x0, rfl⟩
theorem list_is2 {α : Type} {l : List α} (h : l.length = 2) : ∃ x0 x1, l = [x0, x1] := match l, h with | [x0, x1], _ => ⟨x0, x1, rfl⟩
theorem list_is3 {α : Type} {l : List α} (h : l.length = 3) : ∃ x0 x1 x2, l = [x0, x1, x2] := match l, h with | [x0, x1, x2], _ => ⟨x0, x1, x2, rfl⟩
theorem list_is4 {α : Type} {l : List α} (h : l.length = 4) : ∃ x0 x1 x2 x3, l = [x0, x1, x2, x3] := match l, h with | [x0, x1, x2, x3], _ => ⟨x0, x1, x2, x3, rfl⟩
theorem list_is9 {α : Type} {l : List α} (h : l.length = 9) : ∃ x0 x1 x2 x3 x4 x5 x6 x7 x8, l = [x0, x1, x2, x3, x4, x5, x6, x7, x8] := match l, h with | [x0, x1, x2, x3, x4, x5, x6, x7, x8], _ => ⟨x0, x1, x2, x3, x4, x5, x6, x7, x8, rfl⟩
theorem list_is16 {α : Type} {l : List α} (h : l.length = 16) : ∃ x0 x1 x2 x3 x4 x5 x6 x7 x8 x9 x10 x11 x12 x13 x14 x15, l = [x0, x1, x2, x3, x4, x5, x6, x7, x8, x9, x10, x11, x12, x13, x14, x15] := match l, h with | [x0, x1, x2, x3, x4, x5, x6, x7, x8, x9, x10, x11, x12, x13, x14, x15], _ => ⟨x0, x1, x2, x3, x4, x5, x6, x7, x8, x9, x10, x11, x12, x13, x14, x15, rfl⟩
theorem units_cast (x : Int) : ((unitsOf x : Int) : Rat) = valOf x * UP := (valOf_units x).symm
/-- what holds of a square matrix's size -/
theorem size_cases {n : Nat} (h1 : 1 ≤ n) (h4 : n ≤ 4) : n = 1 ∨ n = 2 ∨ n = 3 ∨ n = 4 := by omega
set_option maxHeartbeats 4000000 in
theorem det_units {n : Nat} (h1 : 1 ≤ n) (h4 : n ≤ 4) {a : List Int} (hl : a.length = n * n) : ((detM n (rowsOf (a.map unitsOf) n n) : Int) : Rat) = Os.detFrom n (Os.matIn n n (a.map valOf)) * UP ^ n := by
  rcases size_cases h1 h4 with rfl | rfl | rfl | rfl
  · obtain ⟨a0, rfl⟩ := list_is1 hl
    show ((detM 1 [[unitsOf a0]] : Int) : Rat) = Os.detFrom 1 [[valOf a0]] * UP ^ 1
    rw [detM1, detF1, units_cast, Rat.pow_one]
  · obtain ⟨a0, a1, a2, a3, rfl⟩ := list_is4 hl
    show ((detM 2 [[unitsOf a0, unitsOf a1], [unitsOf a2, unitsOf a3]] : Int) : Rat) = Os.detFrom 2 [[valOf a0, valOf a1], [valOf a2, valOf a3]] * UP ^ 2
    rw [detM2, detF2]
    simp only [Rat.intCast_sub, Rat.intCast_mul, units_cast]
    generalize UP = u
    grind
  · obtain ⟨a0, a1, a2, a3, a4, a5, a6, a7, a8, rfl⟩ := list_is9 hl
    show ((detM 3 [[unitsOf a0, unitsOf a1, unitsOf a2], [unitsOf a3, unitsOf a4, unitsOf a5], [unitsOf a6, unitsOf a7, unitsOf a8]] : Int) : Rat) = Os.detFrom 3 [[valOf a0, valOf a1, valOf a2], [valOf a3, valOf a4, valOf a5], [valOf a6, valOf a7, valOf a8]] * UP ^ 3
    rw [detM3, detF3]
    simp only [Rat.intCast_sub, Rat.intCast_add, Rat.intCast_mul, units_cast]
    generalize UP = u
    grind
  · obtain ⟨a0, a1, a2, a3, a4, a5, a6, a7, a8, a9, b0, b1, b2, b3, b4, b5, rfl⟩ := list_is16 hl
    show ((detM 4 [[unitsOf a0, unitsOf a1, unitsOf a2, unitsOf a3], [unitsOf a4, unitsOf a5, unitsOf a6, unitsOf a7], [unitsOf a8, unitsOf a9, unitsOf b0, unitsOf b1], [unitsOf b2, unitsOf b3, unitsOf b4, unitsOf b5]] : Int) : Rat)
      = Os.detFrom 4 [[valOf a0, valOf a1, valOf a2, valOf a3], [valOf a4, valOf a5, valOf a6, valOf a7], [valOf a8, valOf a9, valOf b0, valOf b1], [valOf b2, valOf b3, valOf b4, valOf b5]] * UP ^ 4
    rw [detM4, detF4]
    simp only [Rat.intCast_sub, Rat.intCast_add, Rat.intCast_mul, units_cast]
    generalize UP = u
    grind
def detOf (mode n : Int) (a : List Int) : List Int :=
  if (decide (3 < mode) || badMatrix n n 4 a) = true then [-1]
  else answer mode [ratioSide (detM n.toNat (rowsOf (a.map unitsOf) n.toNat n.toNat) * Int.sign (2 ^ (1075 * (n.toNat - 1)))) ((2 ^ (1075 * (n.toNat - 1)) : Int).natAbs : Int)]
/-- the refusals of a square matrix, as the specification tells them -/
theorem refuse_square {mode n : Int} {a : List Int} (hm : In64 mode) (hn : In64 n) (ha : ∀ b ∈ a, In64 b) (f : List Rat → Os.Answer) :
    Os.withMode mode.toNat (Os.few n.toNat) (fun _ => Os.ofRow (n.toNat * n.toNat) (OsNeutral.nats a) f) = if (decide (3 < mode) || badMatrix n n 4 a) = true then Os.no 1 else f (a.map valOf) := by
  rw [withMode_eq hm.1, few_iff hn, ofRow_eq ha]
  have en : (a.length : Int) = n * n ↔ a.length = n.toNat * n.toNat := by
    have hn0 := hn.1
    rw [show n * n = ((n.toNat * n.toNat : Nat) : Int) by rw [Int.natCast_mul]; congr 1 <;> omega]
    omega
  by_cases c1 : 3 < mode
  · rw [if_pos (.inl c1), decide_eq_true c1, Bool.true_or, if_pos rfl]
  · rw [decide_eq_false c1, Bool.false_or]
    by_cases c2 : badSize n 4 = true
    · rw [c2, if_pos (.inr rfl), if_pos (badMatrix_iff.mpr (.inl c2))]
    · have c2' : badSize n 4 = false := by simpa using c2
      rw [c2', if_neg (by simp [c1])]
      by_cases c3 : a.length = n.toNat * n.toNat ∧ a.all isFin = true
      · rw [if_pos c3, if_neg]
        intro z
        rcases badMatrix_iff.mp z with d | d | d | d
        · exact c2 d
        · exact c2 d
        · exact d (en.mpr c3.1)
        · exact d c3.2
      · rw [if_neg c3, if_pos]
        by_cases d : a.length = n.toNat * n.toNat
        · exact badMatrix_iff.mpr (.inr (.inr (.inr fun z => c3 ⟨d, z⟩)))
        · exact badMatrix_iff.mpr (.inr (.inr (.inl fun z => d (en.mp z))))
theorem square_of {mode n : Int} {a : List Int} (hn : In64 n) (h : ¬ (decide (3 < mode) || badMatrix n n 4 a) = true) : mode ≤ 3 ∧ ∃ k : Nat, n = (k : Int) ∧ 1 ≤ k ∧ k ≤ 4 ∧ a.length = k * k := by
  have h1 : ¬ 3 < mode := fun z => h (by rw [decide_eq_true z]; rfl)
  have h2 : ¬ badMatrix n n 4 a = true := fun z => h (by rw [z, Bool.or_true])
  have hb := fun z => h2 (badMatrix_iff.mpr z)
  have c2 : ¬ badSize n 4 = true := fun z => hb (.inl z)
  have c3 : (a.length : Int) = n * n := Classical.byContradiction fun z => hb (.inr (.inr (.inl z)))
  unfold badSize at c2
  simp only [Bool.or_eq_true, decide_eq_true_eq, not_or] at c2
  refine ⟨by omega, n.toNat, by omega, by omega, by omega, ?_⟩
  rw [show n * n = ((n.toNat * n.toNat : Nat) : Int) by rw [Int.natCast_mul]; congr 1 <;> omega] at c3
  omega
theorem det_law {mode n : Int} {a : List Int} (hm : In64 mode) (hn : In64 n) (ha : ∀ b ∈ a, In64 b) : detOf mode n a = PyWqambd.det mode n a := by
  show _ = OsNeutral.shown (Os.answer (.det mode.toNat n.toNat (OsNeutral.nats a)))
  unfold detOf Os.answer
  dsimp only
  rw [refuse_square hm hn ha]
  by_cases hb : (decide (3 < mode) || badMatrix n n 4 a) = true
  · rw [if_pos hb, if_pos hb]
    rfl
  · rw [if_neg hb, if_neg hb]
    obtain ⟨h3, k, rfl, k1, k4, kl⟩ := square_of hn hb
    rw [Int.toNat_natCast]
    refine answer_told (mode := mode) hm.1 h3 [(ratioSide (detM k (rowsOf (a.map unitsOf) k k) * Int.sign (2 ^ (1075 * (k - 1)))) ((2 ^ (1075 * (k - 1)) : Int).natAbs : Int), Os.ofRat (Os.detFrom k (Os.matIn k k (a.map valOf))))] ?_
    intro q hq
    rw [List.mem_singleton.mp hq, Int.sign_eq_one_of_pos (pow_pos2 _), Int.mul_one, show ((2 ^ (1075 * (k - 1)) : Int).natAbs : Int) = 2 ^ (1075 * (k - 1)) from by have := pow_pos2 (1075 * (k - 1)); omega]
    refine cut_ratio (pow_pos2 _) ?_
    rw [det_units k1 k4 kl, UP_pow]
    obtain ⟨j, rfl⟩ : ∃ j, k = j + 1 := ⟨k - 1, by omega⟩
    rw [Nat.add_sub_cancel, Rat.pow_succ]
    generalize UP ^ j = u
    grind
end Desk

namespace Desk
/-! sums -/
def S : Nat → (Nat → Rat) → Rat
  | 0, _ => 0
  | n + 1, f => S n f + f n
theorem S_congr {n : Nat} {f g : Nat → Rat} (h : ∀ i, i < n → f i = g i) : S n f = S n g := by
  induction n with
  | zero => rfl
  | succ n ih => rw [S, S, ih fun i hi => h i (by omega), h n (by omega)]
theorem S_zero {n : Nat} {f : Nat → Rat} (h : ∀ i, i < n → f i = 0) : S n f = 0 := by
  induction n with
  | zero => rfl
  | succ n ih => rw [S, ih fun i hi => h i (by omega), h n (by omega), Rat.add_zero]
theorem S_add (n : Nat) (f g : Nat → Rat) : S n (fun i => f i + g i) = S n f + S n g := by
  induction n with
  | zero => show (0 : Rat) = 0 + 0; grind
  | succ n ih => rw [S, S, S, ih]; grind
theorem S_mul (n : Nat) (k : Rat) (f : Nat → Rat) : S n (fun i => k * f i) = k * S n f := by
  induction n with
  | zero => rw [S, S, Rat.mul_zero]
  | succ n ih => rw [S, S, ih]; grind
theorem S_one {n i : Nat} (hi : i < n) {f : Nat → Rat} (h : ∀ j, j < n → j ≠ i → f j = 0) : S n f = f i := by
  induction n with
  | zero => omega
  | succ n ih =>
    rw [S]
    by_cases c : i = n
    · subst c
      rw [S_zero fun j hj => h j (by omega) (by omega), Rat.zero_add]
    · rw [ih (by omega) fun j hj hne => h j (by omega) hne, h n (by omega) (by omega), Rat.add_zero]
theorem S_two {n i c : Nat} (hi : i < n) (hc : c < n) (hic : i ≠ c) {f : Nat → Rat} (h : ∀ j, j < n → j ≠ i → j ≠ c → f j = 0) : S n f = f i + f c := by
  have e : S n f = S n (fun j => (if j = i then f i else 0) + (if j = c then f c else 0)) := S_congr fun j hj => by
    by_cases a : j = i
    · subst a; rw [if_pos rfl, if_neg hic, Rat.add_zero]
    · by_cases b : j = c
      · subst b; rw [if_neg a, if_pos rfl, Rat.zero_add]
      · rw [if_neg a, if_neg b, h j hj a b, Rat.add_zero]
  rw [e, S_add, S_one hi (f := fun j => if j = i then f i else 0) (fun j _ hne => if_neg hne), S_one hc (f := fun j => if j = c then f c else 0) (fun j _ hne => if_neg hne), if_pos rfl, if_pos rfl]
theorem S_split (m n : Nat) (f : Nat → Rat) : S (m + n) f = S m f + S n (fun i => f (m + i)) := by
  induction n with
  | zero => rw [Nat.add_zero, S, Rat.add_zero]
  | succ n ih => rw [← Nat.add_assoc, S, S, ih]; grind
/-! a row times a vector -/
def dv (r : List Rat) (y : Nat → Rat) : Rat := S r.length (fun c => r.getD c 0 * y c)
theorem getD_map0 {r : List Rat} {f : Rat → Rat} (h : f 0 = 0) (c : Nat) : (r.map f).getD c 0 = f (r.getD c 0) := by
  rw [List.getD_eq_getElem?_getD, List.getD_eq_getElem?_getD, List.getElem?_map]
  cases r[c]? with
  | none => exact h.symm
  | some x => rfl
theorem scale_at (q : Rat) (r : List Rat) (c : Nat) : (Os.scaleRow q r).getD c 0 = q * r.getD c 0 := getD_map0 (Rat.mul_zero q) c
theorem sub_at {a b : List Rat} (h : a.length = b.length) (c : Nat) : (Os.subRow a b).getD c 0 = a.getD c 0 - b.getD c 0 := by
  unfold Os.subRow
  rw [List.getD_eq_getElem?_getD, List.getD_eq_getElem?_getD, List.getD_eq_getElem?_getD, List.getElem?_zipWith]
  by_cases hc : c < a.length
  · rw [List.getElem?_eq_getElem hc, List.getElem?_eq_getElem (by omega)]
    rfl
  · rw [List.getElem?_eq_none (by omega), List.getElem?_eq_none (by omega)]
    show (0 : Rat) = 0 - 0
    grind
theorem scale_len (q : Rat) (r : List Rat) : (Os.scaleRow q r).length = r.length := List.length_map _
theorem sub_len {a b : List Rat} (h : a.length = b.length) : (Os.subRow a b).length = a.length := by
  unfold Os.subRow
  rw [List.length_zipWith, ← h, Nat.min_self]
theorem dv_scale (q : Rat) (r : List Rat) (y : Nat → Rat) : dv (Os.scaleRow q r) y = q * dv r y := by
  unfold dv
  rw [scale_len, ← S_mul]
  exact S_congr fun i _ => by rw [scale_at, Rat.mul_assoc]
theorem dv_sub {a b : List Rat} (h : a.length = b.length) (y : Nat → Rat) : dv (Os.subRow a b) y = dv a y - dv b y := by
  unfold dv
  rw [sub_len h, ← h]
  have e : S a.length (fun c => (Os.subRow a b).getD c 0 * y c) = S a.length (fun c => a.getD c 0 * y c + (-1) * (b.getD c 0 * y c)) := S_congr fun i _ => by
    rw [sub_at h]
    grind
  rw [e, S_add, S_mul]
  grind
theorem clear_len {c : Nat} {p r : List Rat} (h : r.length = p.length) : (Os.clear c p r).length = p.length := by
  unfold Os.clear
  split
  · exact h
  · rw [sub_len (by rw [scale_len]; exact h), h]
theorem dv_clear {c : Nat} {p r : List Rat} (h : r.length = p.length) (y : Nat → Rat) : dv (Os.clear c p r) y = dv r y - r.getD c 0 * dv p y := by
  unfold Os.clear
  split
  · rename_i z
    rw [z]
    grind
  · rw [dv_sub (by rw [scale_len]; exact h), dv_scale]
theorem clear_at {c : Nat} {p r : List Rat} (h : r.length = p.length) (j : Nat) : (Os.clear c p r).getD j 0 = r.getD j 0 - r.getD c 0 * p.getD j 0 := by
  unfold Os.clear
  split
  · rename_i z
    rw [z]
    grind
  · rw [sub_at (by rw [scale_len]; exact h), scale_at]
/-! Gauss and Jordan -/
/-- y times every row is 0 -/
def Sol (rows : Os.Mat) (y : Nat → Rat) : Prop := ∀ r ∈ rows, dv r y = 0
structure GJ (N c : Nat) (n : Nat) (done left : Os.Mat) : Prop where
  lenD : done.length = c
  lenL : done.length + left.length = n
  len : ∀ r ∈ done ++ left, r.length = N
  unit : ∀ (i : Nat) (r : List Rat), done[i]? = some r → ∀ j, j < c → r.getD j 0 = if j = i then 1 else 0
  zero : ∀ r ∈ left, ∀ j, j < c → r.getD j 0 = 0
theorem mem_erase_or {left : Os.Mat} {i : Nat} (hi : i < left.length) {r : List Rat} (h : r ∈ left) : r = left[i] ∨ r ∈ left.eraseIdx i := by
  obtain ⟨j, hj, rfl⟩ := List.mem_iff_getElem.mp h
  by_cases c : j = i
  · subst c; exact .inl rfl
  · refine .inr ?_
    rw [List.mem_eraseIdx_iff_getElem]
    exact ⟨j, hj, c, rfl⟩
theorem sol_step {N c n : Nat} {done left : Os.Mat} (g : GJ N c n done left) {i : Nat} (hi : i < left.length) (hp : (left.getD i []).getD c 0 ≠ 0) (y : Nat → Rat) :
    Sol (done.map (Os.clear c (Os.scaleRow (1 / (left.getD i []).getD c 0) (left.getD i []))) ++ [Os.scaleRow (1 / (left.getD i []).getD c 0) (left.getD i [])] ++ (left.eraseIdx i).map (Os.clear c (Os.scaleRow (1 / (left.getD i []).getD c 0) (left.getD i [])))) y ↔ Sol (done ++ left) y := by
  have hg : left.getD i [] = left[i] := by rw [List.getD_eq_getElem?_getD, List.getElem?_eq_getElem hi]; rfl
  have hm : left.getD i [] ∈ left := by rw [hg]; exact List.getElem_mem _
  have hlen : (left.getD i []).length = N := g.len _ (List.mem_append.mpr (.inr hm))
  generalize hL : left.getD i [] = L at hp hg hm hlen ⊢
  generalize hP : Os.scaleRow (1 / L.getD c 0) L = p
  have hpl : p.length = N := by rw [← hP, scale_len, hlen]
  have hpd : dv p y = 1 / L.getD c 0 * dv L y := by rw [← hP, dv_scale]
  constructor
  · intro h
    have h1 : dv p y = 0 := h p (by simp)
    have hL0 : dv L y = 0 := by
      rw [hpd] at h1
      rcases Rat.mul_eq_zero.mp h1 with z | z
      · exact absurd z (by grind)
      · exact z
    intro r hr
    rcases List.mem_append.mp hr with hr | hr
    · have h2 := h (Os.clear c p r) (List.mem_append.mpr (.inl (List.mem_append.mpr (.inl (List.mem_map.mpr ⟨r, hr, rfl⟩)))))
      rw [dv_clear (by rw [hpl]; exact g.len r (List.mem_append.mpr (.inl hr))), h1] at h2
      grind
    · rcases mem_erase_or hi hr with z | z
      · rw [z, ← hg]; exact hL0
      · have h2 := h (Os.clear c p r) (List.mem_append.mpr (.inr (List.mem_map.mpr ⟨r, z, rfl⟩)))
        rw [dv_clear (by rw [hpl]; exact g.len r (List.mem_append.mpr (.inr hr))), h1] at h2
        grind
  · intro h
    have hL0 : dv L y = 0 := h L (List.mem_append.mpr (.inr hm))
    have h1 : dv p y = 0 := by rw [hpd, hL0, Rat.mul_zero]
    intro r hr
    rcases List.mem_append.mp hr with hr | hr
    · rcases List.mem_append.mp hr with hr | hr
      · obtain ⟨r0, h0, rfl⟩ := List.mem_map.mp hr
        rw [dv_clear (by rw [hpl]; exact g.len r0 (List.mem_append.mpr (.inl h0))), h1, h r0 (List.mem_append.mpr (.inl h0))]
        grind
      · rw [List.mem_singleton.mp hr]; exact h1
    · obtain ⟨r0, h0, rfl⟩ := List.mem_map.mp hr
      have hm0 := List.mem_of_mem_eraseIdx h0
      rw [dv_clear (by rw [hpl]; exact g.len r0 (List.mem_append.mpr (.inr hm0))), h1, h r0 (List.mem_append.mpr (.inr hm0))]
      grind
theorem gj_step {N c n : Nat} {done left : Os.Mat} (g : GJ N c n done left) {i : Nat} (hi : i < left.length) (hp : (left.getD i []).getD c 0 ≠ 0) :
    GJ N (c + 1) n (done.map (Os.clear c (Os.scaleRow (1 / (left.getD i []).getD c 0) (left.getD i []))) ++ [Os.scaleRow (1 / (left.getD i []).getD c 0) (left.getD i [])]) ((left.eraseIdx i).map (Os.clear c (Os.scaleRow (1 / (left.getD i []).getD c 0) (left.getD i [])))) := by
  have hg : left.getD i [] = left[i] := by rw [List.getD_eq_getElem?_getD, List.getElem?_eq_getElem hi]; rfl
  have hm : left.getD i [] ∈ left := by rw [hg]; exact List.getElem_mem _
  have hlen : (left.getD i []).length = N := g.len _ (List.mem_append.mpr (.inr hm))
  have hz := g.zero _ hm
  generalize hL : left.getD i [] = L at hp hg hm hlen hz ⊢
  generalize hP : Os.scaleRow (1 / L.getD c 0) L = p
  have hpl : p.length = N := by rw [← hP, scale_len, hlen]
  have hpj : ∀ j, j < c → p.getD j 0 = 0 := fun j hj => by rw [← hP, scale_at, hz j hj, Rat.mul_zero]
  have hpc : p.getD c 0 = 1 := by rw [← hP, scale_at]; grind
  refine ⟨by rw [List.length_append, List.length_map, g.lenD]; rfl, ?_, ?_, ?_, ?_⟩
  · have := g.lenL
    rw [List.length_append, List.length_map, List.length_map, List.length_eraseIdx, if_pos hi]
    show done.length + 1 + (left.length - 1) = n
    omega
  · intro r hr
    rcases List.mem_append.mp hr with hr | hr
    · rcases List.mem_append.mp hr with hr | hr
      · obtain ⟨r0, h0, rfl⟩ := List.mem_map.mp hr
        rw [clear_len (by rw [hpl]; exact g.len r0 (List.mem_append.mpr (.inl h0))), hpl]
      · rw [List.mem_singleton.mp hr, hpl]
    · obtain ⟨r0, h0, rfl⟩ := List.mem_map.mp hr
      rw [clear_len (by rw [hpl]; exact g.len r0 (List.mem_append.mpr (.inr (List.mem_of_mem_eraseIdx h0)))), hpl]
  · intro k r hr j hj
    rcases Nat.lt_trichotomy k done.length with q | q | q
    · rw [List.getElem?_append_left (by rw [List.length_map]; exact q), List.getElem?_map] at hr
      cases w : done[k]? with
      | none => rw [w] at hr; cases hr
      | some r0 =>
        rw [w] at hr
        cases hr
        have hu := g.unit k r0 w
        have hm0 : r0 ∈ done := List.mem_of_getElem? w
        rw [clear_at (by rw [hpl]; exact g.len r0 (List.mem_append.mpr (.inl hm0)))]
        by_cases hjc : j < c
        · rw [hu j hjc, hpj j hjc]
          grind
        · have : j = c := by omega
          subst this
          have hd := g.lenD
          rw [hpc, if_neg (by omega)]
          grind
    · subst q
      rw [List.getElem?_append_right (by rw [List.length_map]; exact Nat.le_refl _), List.length_map, Nat.sub_self] at hr
      cases hr
      have hd := g.lenD
      by_cases hjc : j < c
      · rw [hpj j hjc, if_neg (by omega)]
      · have : j = c := by omega
        subst this
        rw [hpc, if_pos hd.symm]
    · rw [List.getElem?_eq_none (by rw [List.length_append, List.length_map]; show done.length + 1 ≤ k; omega)] at hr
      cases hr
  · intro r hr j hj
    obtain ⟨r0, h0, rfl⟩ := List.mem_map.mp hr
    have hm0 := List.mem_of_mem_eraseIdx h0
    rw [clear_at (by rw [hpl]; exact g.len r0 (List.mem_append.mpr (.inr hm0)))]
    by_cases hjc : j < c
    · rw [g.zero r0 hm0 j hjc, hpj j hjc]
      grind
    · have : j = c := by omega
      subst this
      rw [hpc]
      grind
theorem reduce_bound : ∀ (f c : Nat) (done left : Os.Mat), (Os.reduceFrom f c done left).1.length ≤ done.length + f
  | 0, c, done, left => Nat.le_refl _
  | f + 1, c, done, left => by
    rw [Os.reduceFrom]
    split
    · have := reduce_bound f (c + 1) done left
      omega
    · rename_i i _
      refine Nat.le_trans (reduce_bound f (c + 1) _ _) ?_
      rw [List.length_append, List.length_map]
      show done.length + 1 + f ≤ _
      omega
def kvec (done : Os.Mat) (c : Nat) : Nat → Rat := fun k => if k < c then -((done.getD k []).getD c 0) else if k = c then 1 else 0
theorem kvec_lt {done : Os.Mat} {c k : Nat} (h : k < c) : kvec done c k = -((done.getD k []).getD c 0) := if_pos h
theorem kvec_eq {done : Os.Mat} {c : Nat} : kvec done c c = 1 := by unfold kvec; rw [if_neg (Nat.lt_irrefl c), if_pos rfl]
theorem kvec_gt {done : Os.Mat} {c k : Nat} (h : c < k) : kvec done c k = 0 := by unfold kvec; rw [if_neg (by omega), if_neg (by omega)]
/-- what comes out: every column had its pivot, or a column that hangs on those before it -/
theorem reduce_out {N n : Nat} (hN : n ≤ N) : ∀ (f c : Nat) (done left : Os.Mat), c + f = n → GJ N c n done left →
    (GJ N n n (Os.reduceFrom f c done left).1 (Os.reduceFrom f c done left).2 ∧ ∀ y, Sol ((Os.reduceFrom f c done left).1 ++ (Os.reduceFrom f c done left).2) y ↔ Sol (done ++ left) y) ∨
    ((Os.reduceFrom f c done left).1.length < n ∧ ∃ y : Nat → Rat, Sol (done ++ left) y ∧ (∃ k, k < n ∧ y k = 1) ∧ ∀ k, n ≤ k → y k = 0)
  | 0, c, done, left, hc, g => by
    have : c = n := by omega
    subst this
    exact .inl ⟨g, fun y => Iff.rfl⟩
  | f + 1, c, done, left, hc, g => by
    rw [Os.reduceFrom]
    cases hf : left.findIdx? (fun (r : List Rat) => decide (r.getD c 0 ≠ 0)) with
    | none =>
      refine .inr ⟨?_, ?_⟩
      · dsimp only
        have := reduce_bound f (c + 1) done left
        have := g.lenD
        omega
      · rw [List.findIdx?_eq_none_iff] at hf
        have hz : ∀ r ∈ left, ∀ j, j ≤ c → r.getD j 0 = 0 := fun r hr j hj => by
          by_cases q : j < c
          · exact g.zero r hr j q
          · have : j = c := by omega
            subst this
            have := hf r hr
            simpa using this
        refine ⟨kvec done c, ?_, ⟨c, by omega, kvec_eq⟩, fun k hk => kvec_gt (by omega)⟩
        · intro r hr
          have hrl := g.len r hr
          unfold dv
          rw [hrl]
          rcases List.mem_append.mp hr with hr | hr
          · obtain ⟨i, hi, rfl⟩ := List.mem_iff_getElem.mp hr
            have hiu := g.unit i _ (List.getElem?_eq_getElem hi)
            have hd := g.lenD
            have hgi : done.getD i [] = done[i] := by rw [List.getD_eq_getElem?_getD, List.getElem?_eq_getElem hi]; rfl
            rw [S_two (i := i) (c := c) (by omega) (by omega) (by omega)]
            · rw [hiu i (by omega), if_pos rfl, kvec_lt (by omega), kvec_eq, hgi]
              grind
            · intro j hj h1 h2
              by_cases q : j < c
              · rw [hiu j q, if_neg h1, Rat.zero_mul]
              · rw [kvec_gt (by omega), Rat.mul_zero]
          · refine S_zero fun j hj => ?_
            by_cases q : j ≤ c
            · rw [hz r hr j q, Rat.zero_mul]
            · rw [kvec_gt (by omega), Rat.mul_zero]
    | some i =>
      rw [List.findIdx?_eq_some_iff_getElem] at hf
      obtain ⟨hi, hpv, _⟩ := hf
      have hp : (left.getD i []).getD c 0 ≠ 0 := by
        have e : left.getD i [] = left[i] := by rw [List.getD_eq_getElem?_getD, List.getElem?_eq_getElem hi]; rfl
        rw [e]
        exact of_decide_eq_true hpv
      dsimp only
      rcases reduce_out hN f (c + 1) _ _ (by omega) (gj_step g hi hp) with ⟨h1, h2⟩ | ⟨h1, y, h2, h3⟩
      · exact .inl ⟨h1, fun y => (h2 y).trans (sol_step g hi hp y)⟩
      · exact .inr ⟨h1, y, (sol_step g hi hp y).mp h2, h3⟩
end Desk

namespace Desk
theorem dv_app (a b : List Rat) (y : Nat → Rat) : dv (a ++ b) y = dv a y + dv b (fun i => y (a.length + i)) := by
  unfold dv
  rw [List.length_append, S_split]
  congr 1
  · exact S_congr fun i hi => by
      rw [List.getD_eq_getElem?_getD, List.getD_eq_getElem?_getD, List.getElem?_append_left hi]
  · exact S_congr fun i hi => by
      rw [List.getD_eq_getElem?_getD, List.getD_eq_getElem?_getD, List.getElem?_append_right (Nat.le_add_right _ _), Nat.add_sub_cancel_left]
theorem dv_congr {r : List Rat} {y z : Nat → Rat} (h : ∀ i, i < r.length → y i = z i) : dv r y = dv r z := S_congr fun i hi => by rw [h i hi]
theorem drop_at (r : List Rat) (n j : Nat) : (r.drop n).getD j 0 = r.getD (n + j) 0 := by
  rw [List.getD_eq_getElem?_getD, List.getD_eq_getElem?_getD, List.getElem?_drop]
def colVec (z : Os.Mat) (n j : Nat) : Nat → Rat := fun c => if c < n then (z.getD c []).getD (n + j) 0 else if c = n + j then -1 else 0
theorem colVec_lt {z : Os.Mat} {n j c : Nat} (h : c < n) : colVec z n j c = (z.getD c []).getD (n + j) 0 := if_pos h
theorem colVec_eq {z : Os.Mat} {n j : Nat} : colVec z n j (n + j) = -1 := by unfold colVec; rw [if_neg (by omega), if_pos rfl]
theorem colVec_ne {z : Os.Mat} {n j c : Nat} (h : n ≤ c) (h2 : c ≠ n + j) : colVec z n j c = 0 := by unfold colVec; rw [if_neg (by omega), if_neg h2]
def cutVec (x : Nat → Rat) (n : Nat) : Nat → Rat := fun c => if c < n then x c else 0
theorem cutVec_lt {x : Nat → Rat} {n c : Nat} (h : c < n) : cutVec x n c = x c := if_pos h
theorem cutVec_ge {x : Nat → Rat} {n c : Nat} (h : n ≤ c) : cutVec x n c = 0 := if_neg (by omega)
/-- what solve comes to -/
theorem solve_out {n k : Nat} {A B : Os.Mat} (hA : A.length = n) (hAr : ∀ r ∈ A, r.length = n) (hB : B.length = n) (hBr : ∀ r ∈ B, r.length = k) :
    (∃ Z : Os.Mat, Os.solve n A B = some Z ∧ Z.length = n ∧ (∀ r ∈ Z, r.length = k) ∧
      (∀ j, j < k → ∀ (i : Nat) (a b : List Rat), A[i]? = some a → B[i]? = some b → dv a (fun c => (Z.getD c []).getD j 0) = b.getD j 0) ∧
      ∀ x : Nat → Rat, (∀ a ∈ A, dv a x = 0) → ∀ c, c < n → x c = 0) ∨
    (Os.solve n A B = none ∧ ∃ x : Nat → Rat, (∀ a ∈ A, dv a x = 0) ∧ ∃ c, c < n ∧ x c = 1) := by
  unfold Os.solve
  dsimp only
  have hM : ∀ (i : Nat) (r : List Rat), (List.zipWith (fun (r s : List Rat) => r ++ s) A B)[i]? = some r → ∃ a b, A[i]? = some a ∧ B[i]? = some b ∧ r = a ++ b := fun i r h => by
    rw [List.getElem?_zipWith] at h
    cases ha : A[i]? with
    | none => rw [ha] at h; cases h
    | some a =>
      cases hb : B[i]? with
      | none => rw [ha, hb] at h; cases h
      | some b =>
        rw [ha, hb] at h
        cases h
        exact ⟨a, b, rfl, rfl, rfl⟩
  have hM2 : ∀ (i : Nat) (a b : List Rat), A[i]? = some a → B[i]? = some b → a ++ b ∈ List.zipWith (fun (r s : List Rat) => r ++ s) A B := fun i a b ha hb => by
    refine List.mem_of_getElem? (i := i) ?_
    rw [List.getElem?_zipWith, ha, hb]
  have hpair : ∀ a ∈ A, ∃ (i : Nat) (b : List Rat), A[i]? = some a ∧ B[i]? = some b := fun a ha => by
    obtain ⟨i, hi, rfl⟩ := List.mem_iff_getElem.mp ha
    exact ⟨i, B[i]'(by omega), List.getElem?_eq_getElem hi, List.getElem?_eq_getElem (by omega)⟩
  have g0 : GJ (n + k) 0 n [] (List.zipWith (fun (r s : List Rat) => r ++ s) A B) := by
    refine ⟨rfl, ?_, ?_, fun i r h => by simp at h, fun r _ j hj => absurd hj (Nat.not_lt_zero _)⟩
    · show 0 + _ = n
      rw [List.length_zipWith, hA, hB, Nat.min_self, Nat.zero_add]
    · intro r hr
      rw [List.nil_append] at hr
      obtain ⟨i, hi, rfl⟩ := List.mem_iff_getElem.mp hr
      obtain ⟨a, b, ha, hb, e⟩ := hM i _ (List.getElem?_eq_getElem hi)
      rw [e, List.length_append, hAr a (List.mem_of_getElem? ha), hBr b (List.mem_of_getElem? hb)]
  have out := reduce_out (N := n + k) (Nat.le_add_right n k) n 0 [] _ (Nat.zero_add n) g0
  generalize Os.reduceFrom n 0 [] (List.zipWith (fun (r s : List Rat) => r ++ s) A B) = z at out ⊢
  rcases out with ⟨g, hs⟩ | ⟨hl, y, hy, hk, hyz⟩
  · left
    have hl := g.lenD
    have hz2 : z.2 = [] := List.length_eq_zero_iff.mp (by have := g.lenL; omega)
    rw [if_pos hl]
    rw [hz2, List.append_nil] at hs
    have hN : ∀ r ∈ z.1, r.length = n + k := fun r hr => g.len r (List.mem_append.mpr (.inl hr))
    have hs' : ∀ y, Sol z.1 y ↔ Sol (List.zipWith (fun (r s : List Rat) => r ++ s) A B) y := fun y => by rw [← List.nil_append (List.zipWith (fun (r s : List Rat) => r ++ s) A B)]; exact hs y
    refine ⟨_, rfl, by rw [List.length_map, hl], fun r hr => ?_, fun j hj i a b ha hb => ?_, fun x hx c hc => ?_⟩
    · obtain ⟨r0, h0, rfl⟩ := List.mem_map.mp hr
      rw [List.length_drop, hN r0 h0]
      omega
    · have hsol : Sol z.1 (colVec z.1 n j) := fun r hr => by
        obtain ⟨i', hi', rfl⟩ := List.mem_iff_getElem.mp hr
        have hu := g.unit i' _ (List.getElem?_eq_getElem hi')
        unfold dv
        rw [hN _ hr, S_two (i := i') (c := n + j) (by omega) (by omega) (by omega)]
        · rw [hu i' (by omega), if_pos rfl, colVec_lt (by omega), colVec_eq, List.getD_eq_getElem?_getD (l := z.1), List.getElem?_eq_getElem hi']
          show 1 * z.1[i'].getD (n + j) 0 + z.1[i'].getD (n + j) 0 * -1 = 0
          grind
        · intro c hc h1 h2
          by_cases q : c < n
          · rw [hu c q, if_neg h1, Rat.zero_mul]
          · rw [colVec_ne (by omega) h2, Rat.mul_zero]
      have h1 := (hs' _).mp hsol _ (hM2 i a b ha hb)
      have hal := hAr a (List.mem_of_getElem? ha)
      have hbl := hBr b (List.mem_of_getElem? hb)
      rw [dv_app, hal] at h1
      have h2 : dv b (fun i => colVec z.1 n j (n + i)) = -(b.getD j 0) := by
        unfold dv
        rw [hbl, S_one hj]
        · show b.getD j 0 * colVec z.1 n j (n + j) = _
          rw [colVec_eq]; grind
        · intro j' hj' hne
          show b.getD j' 0 * colVec z.1 n j (n + j') = 0
          rw [colVec_ne (by omega) (by omega), Rat.mul_zero]
      have h3 : dv a (colVec z.1 n j) = dv a (fun c => ((z.1.map fun (r : List Rat) => r.drop n).getD c []).getD j 0) := dv_congr fun c hc => by
        rw [colVec_lt (by omega), List.getD_eq_getElem?_getD (l := z.1.map _), List.getElem?_map, List.getElem?_eq_getElem (by omega), List.getD_eq_getElem?_getD (l := z.1), List.getElem?_eq_getElem (by omega)]
        exact (drop_at _ n j).symm
      rw [h2, h3] at h1
      grind
    · have hsol : Sol (List.zipWith (fun (r s : List Rat) => r ++ s) A B) (cutVec x n) := fun r hr => by
        obtain ⟨i, hi, rfl⟩ := List.mem_iff_getElem.mp hr
        obtain ⟨a, b, ha, hb, e⟩ := hM i _ (List.getElem?_eq_getElem hi)
        have hal := hAr a (List.mem_of_getElem? ha)
        rw [e, dv_app, hal]
        have h1 : dv a (cutVec x n) = dv a x := dv_congr fun c hc => cutVec_lt (by omega)
        have h2 : dv b (fun i => cutVec x n (n + i)) = 0 := S_zero fun c hc => by
          show _ * cutVec x n (n + c) = 0
          rw [cutVec_ge (by omega), Rat.mul_zero]
        rw [h1, h2, hx a (List.mem_of_getElem? ha), Rat.add_zero]
      have h1 := (hs' _).mpr hsol (z.1[c]'(by omega)) (List.getElem_mem _)
      have hu := g.unit c _ (List.getElem?_eq_getElem (by omega))
      unfold dv at h1
      rw [hN _ (List.getElem_mem _), S_one (i := c) (by omega)] at h1
      · rw [hu c hc, if_pos rfl, cutVec_lt hc, Rat.one_mul] at h1
        exact h1
      · intro j hj hne
        by_cases q : j < n
        · rw [hu j q, if_neg hne, Rat.zero_mul]
        · rw [cutVec_ge (by omega), Rat.mul_zero]
  · right
    rw [if_neg (by omega)]
    refine ⟨rfl, y, fun a ha => ?_, hk⟩
    obtain ⟨i, b, h1, h2⟩ := hpair a ha
    rw [List.nil_append] at hy
    have h3 := hy _ (hM2 i a b h1 h2)
    rw [dv_app, hAr a ha] at h3
    have h4 : dv b (fun i => y (n + i)) = 0 := S_zero fun c hc => by
      show _ * y (n + c) = 0
      rw [hyz _ (by omega), Rat.mul_zero]
    rw [h4, Rat.add_zero] at h3
    exact h3
/-! where the determinant is 0 something but 0 goes to 0 -/
theorem dv_cons (a : Rat) (r : List Rat) (y : Nat → Rat) : dv (a :: r) y = a * y 0 + dv r (fun i => y (i + 1)) := by
  have h := dv_app [a] r y
  have e : dv [a] y = a * y 0 := by
    show 0 + a * y 0 = a * y 0
    grind
  rw [e] at h
  show dv ([a] ++ r) y = _
  rw [h]
  congr 1
  exact dv_congr fun i _ => by
    show y (1 + i) = y (i + 1)
    rw [Nat.add_comm]
def consVec (x : Rat) (y : Nat → Rat) : Nat → Rat
  | 0 => x
  | i + 1 => y i
theorem ker_of_det : ∀ (n : Nat) (A : Os.Mat), A.length = n → (∀ r ∈ A, r.length = n) → Os.detFrom n A = 0 → ∃ x : Nat → Rat, (∀ a ∈ A, dv a x = 0) ∧ ∃ c, c < n ∧ x c ≠ 0
  | 0, A, _, _, h => absurd h (by show ¬ (1 : Rat) = 0; decide)
  | n + 1, A, hA, hr, h => by
    rw [Os.detFrom] at h
    cases hf : A.findIdx? (fun (r : List Rat) => decide (r.headD 0 ≠ 0)) with
    | none =>
      rw [List.findIdx?_eq_none_iff] at hf
      refine ⟨consVec 1 fun _ => 0, fun a ha => ?_, 0, Nat.succ_pos n, by show (1 : Rat) ≠ 0; decide⟩
      have h0 := hf a ha
      have hl := hr a ha
      cases a with
      | nil => cases hl
      | cons u r =>
        have h0 : u = 0 := by simpa using h0
        rw [dv_cons, h0, Rat.zero_mul, Rat.zero_add]
        exact S_zero fun i _ => Rat.mul_zero _
    | some i =>
      rw [hf] at h
      rw [List.findIdx?_eq_some_iff_getElem] at hf
      obtain ⟨hi, hp, _⟩ := hf
      dsimp only at h
      have hg : A.getD i [] = A[i] := by rw [List.getD_eq_getElem?_getD, List.getElem?_eq_getElem hi]; rfl
      have hp : (A.getD i []).headD 0 ≠ 0 := by rw [hg]; exact of_decide_eq_true hp
      have hpm : A.getD i [] ∈ A := by rw [hg]; exact List.getElem_mem _
      have hpl := hr _ hpm
      generalize hP : A.getD i [] = p at h hp hpm hpl hg
      cases p with
      | nil => cases hpl
      | cons p0 pt =>
        have hp : p0 ≠ 0 := hp
        have hptl : pt.length = n := by simpa using hpl
        have hd : Os.detFrom n ((A.eraseIdx i).map fun (r : List Rat) => Os.subRow (r.drop 1) (Os.scaleRow (r.headD 0 / (p0 :: pt).headD 0) ((p0 :: pt).drop 1))) = 0 := by
          rcases Rat.mul_eq_zero.mp h with z | z
          · exfalso; revert z; split <;> decide
          · rcases Rat.mul_eq_zero.mp z with z | z
            · exact absurd z hp
            · exact z
        have hrl : ∀ r ∈ A, (r.drop 1).length = pt.length := fun r h0 => by rw [List.length_drop, hr r h0, hptl]; omega
        obtain ⟨y, hy, c, hc, hyc⟩ := ker_of_det n _ (by rw [List.length_map, List.length_eraseIdx, if_pos hi]; omega) (fun r h0 => by
          obtain ⟨r0, h1, rfl⟩ := List.mem_map.mp h0
          have := hrl r0 (List.mem_of_mem_eraseIdx h1)
          rw [sub_len (by rw [scale_len]; exact this), this, hptl]) hd
        refine ⟨consVec (-(dv pt y) / p0) y, fun a ha => ?_, c + 1, by omega, hyc⟩
        have hal := hr a ha
        rcases mem_erase_or hi ha with z | z
        · rw [z, ← hg, dv_cons]
          show p0 * (-(dv pt y) / p0) + dv pt y = 0
          grind
        · have h1 := hy _ (List.mem_map.mpr ⟨a, z, rfl⟩)
          rw [dv_sub (by rw [scale_len]; exact hrl a ha), dv_scale] at h1
          cases a with
          | nil => cases hal
          | cons a0 at_ =>
            have h1 : dv at_ y - a0 / p0 * dv pt y = 0 := h1
            rw [dv_cons]
            show a0 * (-(dv pt y) / p0) + dv at_ y = 0
            grind
end Desk

namespace Desk
/-! Cramer's rule -/
def withColumnM (rows : MatI) (j : Nat) (col : List Int) : MatI := (List.range rows.length).map fun i => (rows.getD i []).set j (col.getD i 0)
def rowTimes (r : List Int) (z : Nat → Rat) : Rat := S r.length (fun c => ((r.getD c 0 : Int) : Rat) * z c)
theorem rt1 (a : Int) (z : Nat → Rat) : rowTimes [a] z = (a : Rat) * z 0 := by show 0 + (a : Rat) * z 0 = _; grind
theorem rt2 (a b : Int) (z : Nat → Rat) : rowTimes [a, b] z = (a : Rat) * z 0 + (b : Rat) * z 1 := by show 0 + (a : Rat) * z 0 + (b : Rat) * z 1 = _; grind
theorem rt3 (a b c : Int) (z : Nat → Rat) : rowTimes [a, b, c] z = (a : Rat) * z 0 + (b : Rat) * z 1 + (c : Rat) * z 2 := by show 0 + (a : Rat) * z 0 + (b : Rat) * z 1 + (c : Rat) * z 2 = _; grind
theorem rt4 (a b c d : Int) (z : Nat → Rat) : rowTimes [a, b, c, d] z = (a : Rat) * z 0 + (b : Rat) * z 1 + (c : Rat) * z 2 + (d : Rat) * z 3 := by show 0 + (a : Rat) * z 0 + (b : Rat) * z 1 + (c : Rat) * z 2 + (d : Rat) * z 3 = _; grind
/-- a square list of rows, written out -/
theorem rows_is {n : Nat} (h1 : 1 ≤ n) (h4 : n ≤ 4) {R : MatI} (hR : R.length = n) (hr : ∀ r ∈ R, r.length = n) :
    (n = 1 ∧ ∃ a, R = [[a]]) ∨ (n = 2 ∧ ∃ a b c d, R = [[a, b], [c, d]]) ∨ (n = 3 ∧ ∃ a b c d e f g h i, R = [[a, b, c], [d, e, f], [g, h, i]]) ∨
    (n = 4 ∧ ∃ a b c d e f g h i j k l m n' o p, R = [[a, b, c, d], [e, f, g, h], [i, j, k, l], [m, n', o, p]]) := by
  rcases size_cases h1 h4 with rfl | rfl | rfl | rfl
  · obtain ⟨r0, rfl⟩ := list_is1 hR
    obtain ⟨a, rfl⟩ := list_is1 (hr r0 (by simp))
    exact .inl ⟨rfl, a, rfl⟩
  · obtain ⟨r0, r1, rfl⟩ := list_is2 hR
    obtain ⟨a, b, rfl⟩ := list_is2 (hr r0 (by simp))
    obtain ⟨c, d, rfl⟩ := list_is2 (hr r1 (by simp))
    exact .inr (.inl ⟨rfl, a, b, c, d, rfl⟩)
  · obtain ⟨r0, r1, r2, rfl⟩ := list_is3 hR
    obtain ⟨a, b, c, rfl⟩ := list_is3 (hr r0 (by simp))
    obtain ⟨d, e, f, rfl⟩ := list_is3 (hr r1 (by simp))
    obtain ⟨g, h, i, rfl⟩ := list_is3 (hr r2 (by simp))
    exact .inr (.inr (.inl ⟨rfl, a, b, c, d, e, f, g, h, i, rfl⟩))
  · obtain ⟨r0, r1, r2, r3, rfl⟩ := list_is4 hR
    obtain ⟨a, b, c, d, rfl⟩ := list_is4 (hr r0 (by simp))
    obtain ⟨e, f, g, h, rfl⟩ := list_is4 (hr r1 (by simp))
    obtain ⟨i, j, k, l, rfl⟩ := list_is4 (hr r2 (by simp))
    obtain ⟨m, n', o, p, rfl⟩ := list_is4 (hr r3 (by simp))
    exact .inr (.inr (.inr ⟨rfl, a, b, c, d, e, f, g, h, i, j, k, l, m, n', o, p, rfl⟩))
set_option maxHeartbeats 8000000 in
theorem cramer {n : Nat} (h1 : 1 ≤ n) (h4 : n ≤ 4) {R : MatI} (hR : R.length = n) (hr : ∀ r ∈ R, r.length = n) {col : List Int} {z : Nat → Rat}
    (h : ∀ (i : Nat) (r : List Int), R[i]? = some r → rowTimes r z = ((col.getD i 0 : Int) : Rat)) : ∀ j, j < n → ((detM n (withColumnM R j col) : Int) : Rat) = z j * ((detM n R : Int) : Rat) := by
  intro j hj
  rcases rows_is h1 h4 hR hr with ⟨rfl, a, rfl⟩ | ⟨rfl, a, b, c, d, rfl⟩ | ⟨rfl, a, b, c, d, e, f, g, k, i, rfl⟩ | ⟨rfl, a, b, c, d, e, f, g, k, i, j', k', l, m, n', o, p, rfl⟩
  · have e0 := h 0 _ rfl
    rw [rt1] at e0
    obtain rfl : j = 0 := by omega
    show ((detM 1 [[col.getD 0 0]] : Int) : Rat) = _
    rw [detM1, detM1, ← e0]
    grind
  · have e0 := h 0 _ rfl
    have e1 := h 1 _ rfl
    rw [rt2] at e0 e1
    rcases (show j = 0 ∨ j = 1 by omega) with rfl | rfl
    · show ((detM 2 [[col.getD 0 0, b], [col.getD 1 0, d]] : Int) : Rat) = _
      rw [detM2, detM2]
      simp only [Rat.intCast_sub, Rat.intCast_mul, ← e0, ← e1]
      grind
    · show ((detM 2 [[a, col.getD 0 0], [c, col.getD 1 0]] : Int) : Rat) = _
      rw [detM2, detM2]
      simp only [Rat.intCast_sub, Rat.intCast_mul, ← e0, ← e1]
      grind
  · have e0 := h 0 _ rfl
    have e1 := h 1 _ rfl
    have e2 := h 2 _ rfl
    rw [rt3] at e0 e1 e2
    rcases (show j = 0 ∨ j = 1 ∨ j = 2 by omega) with rfl | rfl | rfl
    · show ((detM 3 [[col.getD 0 0, b, c], [col.getD 1 0, e, f], [col.getD 2 0, k, i]] : Int) : Rat) = _
      rw [detM3, detM3]
      simp only [Rat.intCast_sub, Rat.intCast_add, Rat.intCast_mul, ← e0, ← e1, ← e2]
      grind
    · show ((detM 3 [[a, col.getD 0 0, c], [d, col.getD 1 0, f], [g, col.getD 2 0, i]] : Int) : Rat) = _
      rw [detM3, detM3]
      simp only [Rat.intCast_sub, Rat.intCast_add, Rat.intCast_mul, ← e0, ← e1, ← e2]
      grind
    · show ((detM 3 [[a, b, col.getD 0 0], [d, e, col.getD 1 0], [g, k, col.getD 2 0]] : Int) : Rat) = _
      rw [detM3, detM3]
      simp only [Rat.intCast_sub, Rat.intCast_add, Rat.intCast_mul, ← e0, ← e1, ← e2]
      grind
  · have e0 := h 0 _ rfl
    have e1 := h 1 _ rfl
    have e2 := h 2 _ rfl
    have e3 := h 3 _ rfl
    rw [rt4] at e0 e1 e2 e3
    rcases (show j = 0 ∨ j = 1 ∨ j = 2 ∨ j = 3 by omega) with rfl | rfl | rfl | rfl
    · show ((detM 4 [[col.getD 0 0, b, c, d], [col.getD 1 0, f, g, k], [col.getD 2 0, j', k', l], [col.getD 3 0, n', o, p]] : Int) : Rat) = _
      rw [detM4, detM4]
      simp only [Rat.intCast_sub, Rat.intCast_add, Rat.intCast_mul, ← e0, ← e1, ← e2, ← e3]
      grind
    · show ((detM 4 [[a, col.getD 0 0, c, d], [e, col.getD 1 0, g, k], [i, col.getD 2 0, k', l], [m, col.getD 3 0, o, p]] : Int) : Rat) = _
      rw [detM4, detM4]
      simp only [Rat.intCast_sub, Rat.intCast_add, Rat.intCast_mul, ← e0, ← e1, ← e2, ← e3]
      grind
    · show ((detM 4 [[a, b, col.getD 0 0, d], [e, f, col.getD 1 0, k], [i, j', col.getD 2 0, l], [m, n', col.getD 3 0, p]] : Int) : Rat) = _
      rw [detM4, detM4]
      simp only [Rat.intCast_sub, Rat.intCast_add, Rat.intCast_mul, ← e0, ← e1, ← e2, ← e3]
      grind
    · show ((detM 4 [[a, b, c, col.getD 0 0], [e, f, g, col.getD 1 0], [i, j', k', col.getD 2 0], [m, n', o, col.getD 3 0]] : Int) : Rat) = _
      rw [detM4, detM4]
      simp only [Rat.intCast_sub, Rat.intCast_add, Rat.intCast_mul, ← e0, ← e1, ← e2, ← e3]
      grind
set_option maxHeartbeats 8000000 in
theorem det_col0 {n : Nat} (h1 : 1 ≤ n) (h4 : n ≤ 4) {R : MatI} (hR : R.length = n) (hr : ∀ r ∈ R, r.length = n) : ∀ j, j < n → detM n (withColumnM R j []) = 0 := by
  intro j hj
  rcases rows_is h1 h4 hR hr with ⟨rfl, a, rfl⟩ | ⟨rfl, a, b, c, d, rfl⟩ | ⟨rfl, a, b, c, d, e, f, g, k, i, rfl⟩ | ⟨rfl, a, b, c, d, e, f, g, k, i, j', k', l, m, n', o, p, rfl⟩
  · obtain rfl : j = 0 := by omega
    exact detM1 0
  · rcases (show j = 0 ∨ j = 1 by omega) with rfl | rfl
    · show detM 2 [[0, b], [0, d]] = 0
      rw [detM2]; grind
    · show detM 2 [[a, 0], [c, 0]] = 0
      rw [detM2]; grind
  · rcases (show j = 0 ∨ j = 1 ∨ j = 2 by omega) with rfl | rfl | rfl
    · show detM 3 [[0, b, c], [0, e, f], [0, k, i]] = 0
      rw [detM3]; grind
    · show detM 3 [[a, 0, c], [d, 0, f], [g, 0, i]] = 0
      rw [detM3]; grind
    · show detM 3 [[a, b, 0], [d, e, 0], [g, k, 0]] = 0
      rw [detM3]; grind
  · rcases (show j = 0 ∨ j = 1 ∨ j = 2 ∨ j = 3 by omega) with rfl | rfl | rfl | rfl
    · show detM 4 [[0, b, c, d], [0, f, g, k], [0, j', k', l], [0, n', o, p]] = 0
      rw [detM4]; grind
    · show detM 4 [[a, 0, c, d], [e, 0, g, k], [i, 0, k', l], [m, 0, o, p]] = 0
      rw [detM4]; grind
    · show detM 4 [[a, b, 0, d], [e, f, 0, k], [i, j', 0, l], [m, n', 0, p]] = 0
      rw [detM4]; grind
    · show detM 4 [[a, b, c, 0], [e, f, g, 0], [i, j', k', 0], [m, n', o, 0]] = 0
      rw [detM4]; grind
/-- whole numbers times one number -/
def scaleI (κ : Rat) (R : MatI) : Os.Mat := R.map fun r => r.map fun (x : Int) => κ * (x : Rat)
set_option maxHeartbeats 8000000 in
theorem det_scale {n : Nat} (h1 : 1 ≤ n) (h4 : n ≤ 4) {R : MatI} (hR : R.length = n) (hr : ∀ r ∈ R, r.length = n) (κ : Rat) : Os.detFrom n (scaleI κ R) = κ ^ n * ((detM n R : Int) : Rat) := by
  rcases rows_is h1 h4 hR hr with ⟨rfl, a, rfl⟩ | ⟨rfl, a, b, c, d, rfl⟩ | ⟨rfl, a, b, c, d, e, f, g, k, i, rfl⟩ | ⟨rfl, a, b, c, d, e, f, g, k, i, j', k', l, m, n', o, p, rfl⟩
  · show Os.detFrom 1 [[κ * (a : Rat)]] = _
    rw [detF1, detM1, Rat.pow_one]
  · show Os.detFrom 2 [[κ * (a : Rat), κ * (b : Rat)], [κ * (c : Rat), κ * (d : Rat)]] = _
    rw [detF2, detM2]
    simp only [Rat.intCast_sub, Rat.intCast_mul]
    grind
  · show Os.detFrom 3 [[κ * (a : Rat), κ * (b : Rat), κ * (c : Rat)], [κ * (d : Rat), κ * (e : Rat), κ * (f : Rat)], [κ * (g : Rat), κ * (k : Rat), κ * (i : Rat)]] = _
    rw [detF3, detM3]
    simp only [Rat.intCast_sub, Rat.intCast_add, Rat.intCast_mul]
    grind
  · show Os.detFrom 4 [[κ * (a : Rat), κ * (b : Rat), κ * (c : Rat), κ * (d : Rat)], [κ * (e : Rat), κ * (f : Rat), κ * (g : Rat), κ * (k : Rat)], [κ * (i : Rat), κ * (j' : Rat), κ * (k' : Rat), κ * (l : Rat)], [κ * (m : Rat), κ * (n' : Rat), κ * (o : Rat), κ * (p : Rat)]] = _
    rw [detF4, detM4]
    simp only [Rat.intCast_sub, Rat.intCast_add, Rat.intCast_mul]
    grind
theorem dv_scaleI (κ : Rat) (r : List Int) (z : Nat → Rat) : dv (r.map fun (x : Int) => κ * (x : Rat)) z = κ * rowTimes r z := by
  unfold dv rowTimes
  rw [List.length_map, ← S_mul]
  exact S_congr fun i _ => by rw [getD_map_mul, Rat.mul_assoc]
def colI (j : Nat) (B : MatI) : List Int := B.map fun r => r.getD j 0
theorem colI_at (j : Nat) (B : MatI) (i : Nat) : (colI j B).getD i 0 = (B.getD i []).getD j 0 := by
  unfold colI
  rw [List.getD_eq_getElem?_getD, List.getElem?_map, List.getD_eq_getElem?_getD (l := B)]
  cases B[i]? <;> rfl
/-- the specification's solve over whole numbers times one number -/
theorem solve_units {n k : Nat} (h1 : 1 ≤ n) (h4 : n ≤ 4) {R B : MatI} (hR : R.length = n) (hr : ∀ r ∈ R, r.length = n) (hB : B.length = n) (hb : ∀ r ∈ B, r.length = k) {κ : Rat} (hκ : κ ≠ 0) :
    (detM n R = 0 ∧ Os.solve n (scaleI κ R) (scaleI κ B) = none) ∨
    (detM n R ≠ 0 ∧ ∃ Z : Os.Mat, Os.solve n (scaleI κ R) (scaleI κ B) = some Z ∧ Z.length = n ∧ (∀ r ∈ Z, r.length = k) ∧ ∀ i, i < n → ∀ j, j < k → ((detM n (withColumnM R i (colI j B)) : Int) : Rat) = (Z.getD i []).getD j 0 * ((detM n R : Int) : Rat)) := by
  have lenS : ∀ (X : MatI) (q : Nat), (∀ r ∈ X, r.length = q) → ∀ r ∈ scaleI κ X, r.length = q := fun X q hq r hr => by
    unfold scaleI at hr
    obtain ⟨r0, h0, rfl⟩ := List.mem_map.mp hr
    rw [List.length_map, hq r0 h0]
  have atS : ∀ (X : MatI) (i : Nat) (r : List Int), X[i]? = some r → (scaleI κ X)[i]? = some (r.map fun (x : Int) => κ * (x : Rat)) := fun X i r h => by
    unfold scaleI
    rw [List.getElem?_map, h]
    rfl
  rcases solve_out (n := n) (k := k) (A := scaleI κ R) (B := scaleI κ B) (by unfold scaleI; rw [List.length_map, hR]) (lenS R n hr) (by unfold scaleI; rw [List.length_map, hB]) (lenS B k hb) with ⟨Z, e, hl, hrl, hs, hinj⟩ | ⟨e, x, hx, c, hc, hxc⟩
  · right
    have hd : detM n R ≠ 0 := fun z => by
      have hdf : Os.detFrom n (scaleI κ R) = 0 := by rw [det_scale h1 h4 hR hr, z, Rat.intCast_zero, Rat.mul_zero]
      obtain ⟨x, hx, c, hc, hxc⟩ := ker_of_det n _ (by unfold scaleI; rw [List.length_map, hR]) (lenS R n hr) hdf
      exact hxc (hinj x hx c hc)
    refine ⟨hd, Z, e, hl, hrl, fun i hi j hj => ?_⟩
    refine cramer h1 h4 hR hr (col := colI j B) (z := fun c => (Z.getD c []).getD j 0) (fun i' r hr' => ?_) i hi
    have hi' : i' < n := by have := (List.getElem?_eq_some_iff.mp hr').1; omega
    have hB' : B[i']? = some (B.getD i' []) := by
      rw [List.getD_eq_getElem?_getD, List.getElem?_eq_getElem (by omega)]
      rfl
    have q := hs j hj i' _ _ (atS R i' r hr') (atS B i' _ hB')
    rw [dv_scaleI, getD_map_mul, ← colI_at] at q
    have := Rat.mul_eq_zero (a := κ) (b := rowTimes r (fun c => (Z.getD c []).getD j 0) - (((colI j B).getD i' 0 : Int) : Rat))
    have q2 : κ * (rowTimes r (fun c => (Z.getD c []).getD j 0) - (((colI j B).getD i' 0 : Int) : Rat)) = 0 := by rw [← Rat.sub_self (a := κ * rowTimes r (fun c => (Z.getD c []).getD j 0))]; grind
    rcases this.mp q2 with z | z
    · exact absurd z hκ
    · grind
  · left
    refine ⟨?_, e⟩
    have hz : ∀ (i : Nat) (r : List Int), R[i]? = some r → rowTimes r x = ((([] : List Int).getD i 0 : Int) : Rat) := fun i r h => by
      have q := hx _ (List.mem_of_getElem? (atS R i r h))
      rw [dv_scaleI] at q
      rcases Rat.mul_eq_zero.mp q with z | z
      · exact absurd z hκ
      · rw [z]
        rfl
    have q := cramer h1 h4 hR hr hz c hc
    have z0 := det_col0 h1 h4 hR hr c hc
    rw [z0, hxc, Rat.intCast_zero, Rat.one_mul] at q
    exact Rat.intCast_eq_zero_iff.mp q.symm
end Desk

namespace Desk
/-! solve -/
def badColumn (m : Int) (ns : List Int) : Bool := !decide ((ns.length : Int) = m) || !(ns.all isFin)
theorem badColumn_iff {m : Int} {ns : List Int} : badColumn m ns = true ↔ ¬ (ns.length : Int) = m ∨ ¬ ns.all isFin = true := by
  unfold badColumn
  by_cases c : (ns.length : Int) = m
  · rw [decide_eq_true c]
    cases ns.all isFin <;> simp [c]
  · rw [decide_eq_false c]
    simp [c]
theorem matIn_scale (a : List Int) (m n : Nat) : Os.matIn m n (a.map valOf) = scaleI (1 / UP) (rowsOf (a.map unitsOf) m n) := by
  unfold Os.matIn Os.matOf scaleI rowsOf
  rw [List.map_map]
  apply List.map_congr_left
  intro i _
  show (List.range n).map _ = ((List.range n).map _).map _
  rw [List.map_map]
  apply List.map_congr_left
  intro j _
  exact getD_units a (n * i + j)
theorem inv_up_ne : (1 : Rat) / UP ≠ 0 := by have := UP_ne; grind
/-- the numbers told as quotients -/
def quotients (mode : Int) (tops : List Int) (bottom : Int) : List Int := answer mode (tops.map fun t => ratioSide (t * bottom.sign) (bottom.natAbs : Int))
theorem quotients_told {mode : Int} (h0 : 0 ≤ mode) (h3 : mode ≤ 3) {tops : List Int} {bottom : Int} (hb : bottom ≠ 0) {qs : List Rat} (hl : tops.length = qs.length) (h : ∀ i, i < tops.length → ((tops.getD i 0 : Int) : Rat) = qs.getD i 0 * UP * (bottom : Rat)) :
    quotients mode tops bottom = OsNeutral.shown (Os.ofRats mode.toNat qs) := by
  have key := answer_told h0 h3 (List.zipWith (fun t q => (ratioSide (t * bottom.sign) (bottom.natAbs : Int), Os.ofRat q)) tops qs) (fun p hp => by
    obtain ⟨i, hi, rfl⟩ := List.mem_iff_getElem.mp hp
    rw [List.length_zipWith] at hi
    rw [List.getElem_zipWith]
    have hi1 : i < tops.length := by omega
    have hi2 : i < qs.length := by omega
    have e := h i hi1
    rw [List.getD_eq_getElem?_getD, List.getElem?_eq_getElem hi1, List.getD_eq_getElem?_getD, List.getElem?_eq_getElem hi2] at e
    have e : ((tops[i] : Int) : Rat) = qs[i] * UP * (bottom : Rat) := e
    refine cut_ratio (by omega) ?_
    rw [Rat.intCast_mul, e]
    have hs : ((bottom.natAbs : Int) : Rat) = (bottom : Rat) * ((bottom.sign : Int) : Rat) := by
      rw [← Rat.intCast_mul]
      congr 1
      rcases Int.lt_trichotomy bottom 0 with c | c | c
      · rw [Int.sign_eq_neg_one_of_neg c]; omega
      · exact absurd c hb
      · rw [Int.sign_eq_one_of_pos c]; omega
    show _ = qs[i] * UP * ((bottom.natAbs : Int) : Rat)
    rw [hs]
    grind)
  have e1 : (List.zipWith (fun t q => (ratioSide (t * bottom.sign) (bottom.natAbs : Int), Os.ofRat q)) tops qs).map (·.1) = tops.map fun t => ratioSide (t * bottom.sign) (bottom.natAbs : Int) := by
    rw [List.map_zipWith]
    apply List.ext_getElem?
    intro i
    rw [List.getElem?_zipWith, List.getElem?_map]
    by_cases hi : i < tops.length
    · rw [List.getElem?_eq_getElem hi, List.getElem?_eq_getElem (by omega)]
      rfl
    · rw [List.getElem?_eq_none (by omega)]
      rfl
  have e2 : (List.zipWith (fun t q => (ratioSide (t * bottom.sign) (bottom.natAbs : Int), Os.ofRat q)) tops qs).map (·.2) = qs.map Os.ofRat := by
    rw [List.map_zipWith]
    apply List.ext_getElem?
    intro i
    rw [List.getElem?_zipWith, List.getElem?_map]
    by_cases hi : i < tops.length
    · rw [List.getElem?_eq_getElem hi, List.getElem?_eq_getElem (by omega)]
      rfl
    · rw [List.getElem?_eq_none (show qs.length ≤ i by omega), List.getElem?_eq_none (show tops.length ≤ i by omega)]
      rfl
  rw [e1, e2] at key
  unfold quotients
  rw [key]
  unfold Os.ofRats
  rw [List.map_map]
  rfl
theorem flat_rows {k : Nat} : ∀ {Z : Os.Mat}, (∀ r ∈ Z, r.length = k) → Z.flatten = (List.range Z.length).flatMap fun i => (List.range k).map fun j => (Z.getD i []).getD j 0
  | [], _ => rfl
  | r :: Z, h => by
    have ih := flat_rows (Z := Z) fun x hx => h x (List.mem_cons_of_mem _ hx)
    have hr := h r (List.mem_cons_self ..)
    rw [List.flatten_cons, ih, List.length_cons, List.range_succ_eq_map, List.flatMap_cons, List.flatMap_map]
    congr 1
    apply List.ext_getElem?
    intro j
    show r[j]? = ((List.range k).map fun j => r.getD j 0)[j]?
    rw [List.getElem?_map]
    by_cases hj : j < k
    · rw [List.getElem?_range hj, List.getElem?_eq_getElem (by omega)]
      show _ = some (r.getD j 0)
      rw [List.getD_eq_getElem?_getD, List.getElem?_eq_getElem (by omega)]
      rfl
    · rw [List.getElem?_eq_none (by omega), List.getElem?_eq_none (by rw [List.length_range]; omega)]
      rfl
/-- a column of numbers -/
theorem flat_col {n : Nat} {Z : Os.Mat} (hl : Z.length = n) (h : ∀ r ∈ Z, r.length = 1) : Z.flatten = (List.range n).map fun i => (Z.getD i []).getD 0 0 := by
  rw [flat_rows h, hl]
  show (List.range n).flatMap (fun i => [(Z.getD i []).getD 0 0]) = _
  exact List.map_eq_flatMap.symm
theorem getD_range {α : Type} {n i : Nat} (f : Nat → α) (d : α) (h : i < n) : ((List.range n).map f).getD i d = f i := by
  rw [List.getD_eq_getElem?_getD, List.getElem?_map, List.getElem?_range h]
  rfl
def UP2 : Int := UPi
def solveOf (mode n : Int) (a b : List Int) : List Int :=
  if (decide (3 < mode) || (badMatrix n n 4 a || badColumn n b)) = true then [-1]
  else if detM n.toNat (rowsOf (a.map unitsOf) n.toNat n.toNat) = 0 then [-2]
  else quotients mode ((List.range n.toNat).map fun j => detM n.toNat (withColumnM (rowsOf (a.map unitsOf) n.toNat n.toNat) j (b.map unitsOf)) * UPi) (detM n.toNat (rowsOf (a.map unitsOf) n.toNat n.toNat))
theorem rowsOf_len (u : List Int) (m n : Nat) : (rowsOf u m n).length = m := by unfold rowsOf; rw [List.length_map, List.length_range]
theorem rowsOf_row (u : List Int) (m n : Nat) : ∀ r ∈ rowsOf u m n, r.length = n := fun r hr => by
  unfold rowsOf at hr
  obtain ⟨i, _, rfl⟩ := List.mem_map.mp hr
  rw [List.length_map, List.length_range]
theorem colI_rowsOf {u : List Int} {n : Nat} (h : u.length = n) : colI 0 (rowsOf u n 1) = u := by
  unfold colI rowsOf
  rw [List.map_map]
  apply List.ext_getElem?
  intro i
  rw [List.getElem?_map]
  by_cases hi : i < n
  · rw [List.getElem?_range hi, List.getElem?_eq_getElem (by omega)]
    show some (u.getD (1 * i + 0) 0) = _
    rw [Nat.one_mul, Nat.add_zero, List.getD_eq_getElem?_getD, List.getElem?_eq_getElem (by omega)]
    rfl
  · rw [List.getElem?_eq_none (by rw [List.length_range]; omega), List.getElem?_eq_none (by omega)]
    rfl
/-- the specification's answer of a system of equations, in units -/
theorem solve_told {mode : Int} (h0 : 0 ≤ mode) (h3 : mode ≤ 3) {n : Nat} (h1 : 1 ≤ n) (h4 : n ≤ 4) {R : MatI} {bu : List Int} (hR : R.length = n) (hr : ∀ r ∈ R, r.length = n) (hb : bu.length = n) {κ : Rat} (hκ : κ ≠ 0) :
    OsNeutral.shown (match Os.solve n (scaleI κ R) (scaleI κ (rowsOf bu n 1)) with | none => Os.no 2 | some z => Os.ofRats mode.toNat z.flatten) =
      if detM n R = 0 then [-2] else quotients mode ((List.range n).map fun j => detM n (withColumnM R j bu) * UPi) (detM n R) := by
  rcases solve_units (k := 1) h1 h4 hR hr (rowsOf_len bu n 1) (rowsOf_row bu n 1) hκ with ⟨d, e⟩ | ⟨d, Z, e, hl, hrl, hz⟩
  · rw [e, if_pos d]
    rfl
  · rw [e, if_neg d]
    dsimp only
    rw [flat_col hl hrl]
    refine (quotients_told h0 h3 d (by rw [List.length_map, List.length_map]) fun i hi => ?_).symm
    rw [List.length_map, List.length_range] at hi
    have q := hz i hi 0 (by decide)
    rw [colI_rowsOf hb] at q
    rw [getD_range _ _ hi, getD_range _ _ hi, Rat.intCast_mul, q, UPi_cast]
    grind
theorem solve_law {mode n : Int} {a b : List Int} (hm : In64 mode) (hn : In64 n) (ha : ∀ x ∈ a, In64 x) (hb : ∀ x ∈ b, In64 x) : solveOf mode n a b = PyWqambd.solve mode n a b := by
  show _ = OsNeutral.shown (Os.answer (.solve mode.toNat n.toNat (OsNeutral.nats a) (OsNeutral.nats b)))
  unfold solveOf Os.answer
  dsimp only
  rw [refuse_square hm hn ha]
  by_cases c1 : (decide (3 < mode) || badMatrix n n 4 a) = true
  · rw [if_pos c1, if_pos]
    · rfl
    · rw [Bool.or_eq_true] at c1 ⊢
      exact c1.imp id fun z => by rw [z, Bool.true_or]
  · rw [if_neg c1]
    obtain ⟨h3, k, rfl, k1, k4, kl⟩ := square_of hn c1
    rw [Int.toNat_natCast, ofRow_eq hb]
    by_cases c2 : b.length = k ∧ b.all isFin = true
    · rw [if_pos c2, if_neg]
      · rw [matIn_scale, matIn_scale]
        exact (solve_told hm.1 h3 k1 k4 (rowsOf_len _ k k) (rowsOf_row _ k k) (by rw [List.length_map]; exact c2.1) inv_up_ne).symm
      · intro z
        rw [← Bool.or_assoc, Bool.or_eq_true] at z
        rcases z with z | z
        · exact c1 z
        · rcases badColumn_iff.mp z with q | q
          · exact q (by omega)
          · exact q c2.2
    · rw [if_neg c2, if_pos]
      · rfl
      · rw [← Bool.or_assoc, Bool.or_eq_true]
        refine .inr (badColumn_iff.mpr ?_)
        by_cases q : b.length = k
        · exact .inr fun z => c2 ⟨q, z⟩
        · exact .inl (by omega)
/-! inverse -/
def idI (n : Nat) : MatI := (List.range n).map fun i => (List.range n).map fun j => if i = j then UPi else 0
def adjM (R : MatI) (n : Nat) : List Int := (List.range n).flatMap fun i => (List.range n).map fun j => signedM (i + j) (detM (n - 1) (minorM R j i))
def inverseOf (mode n : Int) (a : List Int) : List Int :=
  if (decide (3 < mode) || badMatrix n n 4 a) = true then [-1]
  else if detM n.toNat (rowsOf (a.map unitsOf) n.toNat n.toNat) = 0 then [-2]
  else quotients mode ((adjM (rowsOf (a.map unitsOf) n.toNat n.toNat) n.toNat).map fun t => t * (UPi * UPi)) (detM n.toNat (rowsOf (a.map unitsOf) n.toNat n.toNat))
set_option maxHeartbeats 8000000 in
theorem cof_col {n : Nat} (h1 : 1 ≤ n) (h4 : n ≤ 4) {R : MatI} (hR : R.length = n) (hr : ∀ r ∈ R, r.length = n) : ∀ i j, i < n → j < n → detM n (withColumnM R i (colI j (idI n))) = UPi * signedM (i + j) (detM (n - 1) (minorM R j i)) := by
  intro x y hx hy
  rcases rows_is h1 h4 hR hr with ⟨rfl, a, rfl⟩ | ⟨rfl, a, b, c, d, rfl⟩ | ⟨rfl, a, b, c, d, e, f, g, k, i, rfl⟩ | ⟨rfl, a, b, c, d, e, f, g, k, i, j', k', l, m, n', o, p, rfl⟩
  · obtain rfl : x = 0 := by omega
    obtain rfl : y = 0 := by omega
    show detM 1 [[UPi]] = UPi * 1
    rw [detM1, Int.mul_one]
  · rcases (show x = 0 ∨ x = 1 by omega) with rfl | rfl
    · rcases (show y = 0 ∨ y = 1 by omega) with rfl | rfl
      · show detM 2 [[UPi, b], [0, d]] = UPi * (detM 1 [[d]])
        rw [detM2, detM1]
        generalize UPi = u
        grind
      · show detM 2 [[0, b], [UPi, d]] = UPi * -(detM 1 [[b]])
        rw [detM2, detM1]
        generalize UPi = u
        grind
    · rcases (show y = 0 ∨ y = 1 by omega) with rfl | rfl
      · show detM 2 [[a, UPi], [c, 0]] = UPi * -(detM 1 [[c]])
        rw [detM2, detM1]
        generalize UPi = u
        grind
      · show detM 2 [[a, 0], [c, UPi]] = UPi * (detM 1 [[a]])
        rw [detM2, detM1]
        generalize UPi = u
        grind
  · rcases (show x = 0 ∨ x = 1 ∨ x = 2 by omega) with rfl | rfl | rfl
    · rcases (show y = 0 ∨ y = 1 ∨ y = 2 by omega) with rfl | rfl | rfl
      · show detM 3 [[UPi, b, c], [0, e, f], [0, k, i]] = UPi * (detM 2 [[e, f], [k, i]])
        rw [detM3, detM2]
        generalize UPi = u
        grind
      · show detM 3 [[0, b, c], [UPi, e, f], [0, k, i]] = UPi * -(detM 2 [[b, c], [k, i]])
        rw [detM3, detM2]
        generalize UPi = u
        grind
      · show detM 3 [[0, b, c], [0, e, f], [UPi, k, i]] = UPi * (detM 2 [[b, c], [e, f]])
        rw [detM3, detM2]
        generalize UPi = u
        grind
    · rcases (show y = 0 ∨ y = 1 ∨ y = 2 by omega) with rfl | rfl | rfl
      · show detM 3 [[a, UPi, c], [d, 0, f], [g, 0, i]] = UPi * -(detM 2 [[d, f], [g, i]])
        rw [detM3, detM2]
        generalize UPi = u
        grind
      · show detM 3 [[a, 0, c], [d, UPi, f], [g, 0, i]] = UPi * (detM 2 [[a, c], [g, i]])
        rw [detM3, detM2]
        generalize UPi = u
        grind
      · show detM 3 [[a, 0, c], [d, 0, f], [g, UPi, i]] = UPi * -(detM 2 [[a, c], [d, f]])
        rw [detM3, detM2]
        generalize UPi = u
        grind
    · rcases (show y = 0 ∨ y = 1 ∨ y = 2 by omega) with rfl | rfl | rfl
      · show detM 3 [[a, b, UPi], [d, e, 0], [g, k, 0]] = UPi * (detM 2 [[d, e], [g, k]])
        rw [detM3, detM2]
        generalize UPi = u
        grind
      · show detM 3 [[a, b, 0], [d, e, UPi], [g, k, 0]] = UPi * -(detM 2 [[a, b], [g, k]])
        rw [detM3, detM2]
        generalize UPi = u
        grind
      · show detM 3 [[a, b, 0], [d, e, 0], [g, k, UPi]] = UPi * (detM 2 [[a, b], [d, e]])
        rw [detM3, detM2]
        generalize UPi = u
        grind
  · rcases (show x = 0 ∨ x = 1 ∨ x = 2 ∨ x = 3 by omega) with rfl | rfl | rfl | rfl
    · rcases (show y = 0 ∨ y = 1 ∨ y = 2 ∨ y = 3 by omega) with rfl | rfl | rfl | rfl
      · show detM 4 [[UPi, b, c, d], [0, f, g, k], [0, j', k', l], [0, n', o, p]] = UPi * (detM 3 [[f, g, k], [j', k', l], [n', o, p]])
        rw [detM4, detM3]
        generalize UPi = u
        grind
      · show detM 4 [[0, b, c, d], [UPi, f, g, k], [0, j', k', l], [0, n', o, p]] = UPi * -(detM 3 [[b, c, d], [j', k', l], [n', o, p]])
        rw [detM4, detM3]
        generalize UPi = u
        grind
      · show detM 4 [[0, b, c, d], [0, f, g, k], [UPi, j', k', l], [0, n', o, p]] = UPi * (detM 3 [[b, c, d], [f, g, k], [n', o, p]])
        rw [detM4, detM3]
        generalize UPi = u
        grind
      · show detM 4 [[0, b, c, d], [0, f, g, k], [0, j', k', l], [UPi, n', o, p]] = UPi * -(detM 3 [[b, c, d], [f, g, k], [j', k', l]])
        rw [detM4, detM3]
        generalize UPi = u
        grind
    · rcases (show y = 0 ∨ y = 1 ∨ y = 2 ∨ y = 3 by omega) with rfl | rfl | rfl | rfl
      · show detM 4 [[a, UPi, c, d], [e, 0, g, k], [i, 0, k', l], [m, 0, o, p]] = UPi * -(detM 3 [[e, g, k], [i, k', l], [m, o, p]])
        rw [detM4, detM3]
        generalize UPi = u
        grind
      · show detM 4 [[a, 0, c, d], [e, UPi, g, k], [i, 0, k', l], [m, 0, o, p]] = UPi * (detM 3 [[a, c, d], [i, k', l], [m, o, p]])
        rw [detM4, detM3]
        generalize UPi = u
        grind
      · show detM 4 [[a, 0, c, d], [e, 0, g, k], [i, UPi, k', l], [m, 0, o, p]] = UPi * -(detM 3 [[a, c, d], [e, g, k], [m, o, p]])
        rw [detM4, detM3]
        generalize UPi = u
        grind
      · show detM 4 [[a, 0, c, d], [e, 0, g, k], [i, 0, k', l], [m, UPi, o, p]] = UPi * (detM 3 [[a, c, d], [e, g, k], [i, k', l]])
        rw [detM4, detM3]
        generalize UPi = u
        grind
    · rcases (show y = 0 ∨ y = 1 ∨ y = 2 ∨ y = 3 by omega) with rfl | rfl | rfl | rfl
      · show detM 4 [[a, b, UPi, d], [e, f, 0, k], [i, j', 0, l], [m, n', 0, p]] = UPi * (detM 3 [[e, f, k], [i, j', l], [m, n', p]])
        rw [detM4, detM3]
        generalize UPi = u
        grind
      · show detM 4 [[a, b, 0, d], [e, f, UPi, k], [i, j', 0, l], [m, n', 0, p]] = UPi * -(detM 3 [[a, b, d], [i, j', l], [m, n', p]])
        rw [detM4, detM3]
        generalize UPi = u
        grind
      · show detM 4 [[a, b, 0, d], [e, f, 0, k], [i, j', UPi, l], [m, n', 0, p]] = UPi * (detM 3 [[a, b, d], [e, f, k], [m, n', p]])
        rw [detM4, detM3]
        generalize UPi = u
        grind
      · show detM 4 [[a, b, 0, d], [e, f, 0, k], [i, j', 0, l], [m, n', UPi, p]] = UPi * -(detM 3 [[a, b, d], [e, f, k], [i, j', l]])
        rw [detM4, detM3]
        generalize UPi = u
        grind
    · rcases (show y = 0 ∨ y = 1 ∨ y = 2 ∨ y = 3 by omega) with rfl | rfl | rfl | rfl
      · show detM 4 [[a, b, c, UPi], [e, f, g, 0], [i, j', k', 0], [m, n', o, 0]] = UPi * -(detM 3 [[e, f, g], [i, j', k'], [m, n', o]])
        rw [detM4, detM3]
        generalize UPi = u
        grind
      · show detM 4 [[a, b, c, 0], [e, f, g, UPi], [i, j', k', 0], [m, n', o, 0]] = UPi * (detM 3 [[a, b, c], [i, j', k'], [m, n', o]])
        rw [detM4, detM3]
        generalize UPi = u
        grind
      · show detM 4 [[a, b, c, 0], [e, f, g, 0], [i, j', k', UPi], [m, n', o, 0]] = UPi * -(detM 3 [[a, b, c], [e, f, g], [m, n', o]])
        rw [detM4, detM3]
        generalize UPi = u
        grind
      · show detM 4 [[a, b, c, 0], [e, f, g, 0], [i, j', k', 0], [m, n', o, UPi]] = UPi * (detM 3 [[a, b, c], [e, f, g], [i, j', k']])
        rw [detM4, detM3]
        generalize UPi = u
        grind
theorem id_scale (n : Nat) : (Os.matOf n n fun (i j : Nat) => if i = j then 1 else 0) = scaleI (1 / UP) (idI n) := by
  unfold Os.matOf scaleI idI
  rw [List.map_map]
  apply List.map_congr_left
  intro i _
  show (List.range n).map _ = ((List.range n).map _).map _
  rw [List.map_map]
  apply List.map_congr_left
  intro j _
  show (if i = j then (1 : Rat) else 0) = 1 / UP * (((if i = j then UPi else 0 : Int)) : Rat)
  have := UP_ne
  split
  · rw [UPi_cast]; grind
  · rw [Rat.intCast_zero]; grind
theorem flat_len {α : Type} (n k : Nat) (f : Nat → Nat → α) : ((List.range n).flatMap fun i => (List.range k).map (f i)).length = n * k := by
  induction n with
  | zero => simp
  | succ n ih =>
    rw [List.range_succ, List.flatMap_append, List.length_append, ih]
    simp [Nat.add_mul]
theorem flat_get {α : Type} (d : α) (k : Nat) (f : Nat → Nat → α) : ∀ (n i j : Nat), i < n → j < k → ((List.range n).flatMap fun i => (List.range k).map (f i)).getD (i * k + j) d = f i j := by
  intro n i j hi hj
  induction n with
  | zero => omega
  | succ n ih =>
    rw [List.range_succ, List.flatMap_append, List.getD_eq_getElem?_getD]
    by_cases c : i < n
    · have hlt : i * k + j < n * k := by
        have : (i + 1) * k ≤ n * k := Nat.mul_le_mul_right k c
        rw [Nat.add_mul] at this
        omega
      rw [List.getElem?_append_left (by rw [flat_len]; exact hlt), ← List.getD_eq_getElem?_getD]
      exact ih c
    · obtain rfl : i = n := by omega
      rw [List.getElem?_append_right (by rw [flat_len]; omega), flat_len, Nat.add_sub_cancel_left]
      show (([i].flatMap fun i => (List.range k).map (f i))[j]?).getD d = _
      rw [List.flatMap_singleton, List.getElem?_map, List.getElem?_range hj]
      rfl
theorem inverse_law {mode n : Int} {a : List Int} (hm : In64 mode) (hn : In64 n) (ha : ∀ x ∈ a, In64 x) : inverseOf mode n a = PyWqambd.inverse mode n a := by
  show _ = OsNeutral.shown (Os.answer (.inverse mode.toNat n.toNat (OsNeutral.nats a)))
  unfold inverseOf Os.answer
  dsimp only
  rw [refuse_square hm hn ha]
  by_cases c1 : (decide (3 < mode) || badMatrix n n 4 a) = true
  · rw [if_pos c1, if_pos c1]
    rfl
  · rw [if_neg c1, if_neg c1]
    obtain ⟨h3, k, rfl, k1, k4, kl⟩ := square_of hn c1
    rw [Int.toNat_natCast, matIn_scale, id_scale]
    have hil : (idI k).length = k := by unfold idI; rw [List.length_map, List.length_range]
    have hir : ∀ r ∈ idI k, r.length = k := fun r hr => by
      unfold idI at hr
      obtain ⟨i, _, rfl⟩ := List.mem_map.mp hr
      rw [List.length_map, List.length_range]
    have hRl := rowsOf_len (a.map unitsOf) k k
    have hRr := rowsOf_row (a.map unitsOf) k k
    rcases solve_units (k := k) k1 k4 hRl hRr hil hir inv_up_ne with ⟨d, e⟩ | ⟨d, Z, e, hl, hrl, hz⟩
    · rw [e, if_pos d]
      rfl
    · rw [e, if_neg d]
      dsimp only
      rw [flat_rows hrl, hl]
      refine quotients_told hm.1 h3 d (by unfold adjM; rw [List.length_map, flat_len, flat_len]) fun i hi => ?_
      unfold adjM at hi ⊢
      rw [List.length_map, flat_len] at hi
      have hkp : 0 < k := k1
      have e0 : i = (i / k) * k + i % k := by rw [Nat.mul_comm]; exact (Nat.div_add_mod i k).symm
      have hq : i / k < k := Nat.div_lt_of_lt_mul hi
      have hmod : i % k < k := Nat.mod_lt _ hkp
      generalize i / k = x at e0 hq
      generalize i % k = y at e0 hmod
      subst e0
      have q := hz x hq y hmod
      rw [cof_col k1 k4 hRl hRr x y hq hmod] at q
      have eg : (((List.range k).flatMap fun i => (List.range k).map fun j => signedM (i + j) (detM (k - 1) (minorM (rowsOf (a.map unitsOf) k k) j i))).map fun t => t * (UPi * UPi)).getD (x * k + y) 0 = signedM (x + y) (detM (k - 1) (minorM (rowsOf (a.map unitsOf) k k) y x)) * (UPi * UPi) := by
        have w := flat_get (0 : Int) k (fun i j => signedM (i + j) (detM (k - 1) (minorM (rowsOf (a.map unitsOf) k k) j i))) k x y hq hmod
        rw [List.getD_eq_getElem?_getD] at w ⊢
        rw [List.getElem?_map]
        have hlt : x * k + y < ((List.range k).flatMap fun i => (List.range k).map fun j => signedM (i + j) (detM (k - 1) (minorM (rowsOf (a.map unitsOf) k k) j i))).length := by rw [flat_len]; exact hi
        rw [List.getElem?_eq_getElem hlt] at w ⊢
        show _ * (UPi * UPi) = _
        rw [← w]
        rfl
      rw [eg, flat_get (0 : Rat) k (fun i j => (Z.getD i []).getD j 0) k x y hq hmod]
      rw [Rat.intCast_mul, UPi_cast] at q
      rw [Rat.intCast_mul, Rat.intCast_mul, UPi_cast]
      generalize ((signedM (x + y) (detM (k - 1) (minorM (rowsOf (a.map unitsOf) k k) y x)) : Int) : Rat) = s at q ⊢
      generalize ((detM k (rowsOf (a.map unitsOf) k k) : Int) : Rat) = t at q ⊢
      generalize (Z.getD x []).getD y 0 = zz at q ⊢
      generalize UP = u at q ⊢
      grind
/-! least squares -/
def gramM (R : MatI) (n : Nat) : MatI := (List.range n).map fun i => (List.range n).map fun j => productSum (colI i R) (colI j R)
def againstM (R : MatI) (n : Nat) (b : List Int) : List Int := (List.range n).map fun j => productSum (colI j R) b
def leastOf (mode m n : Int) (a b : List Int) : List Int :=
  if (decide (3 < mode) || (badMatrix m n 6 a || (decide (m < n) || badColumn m b))) = true then [-1]
  else if detM n.toNat (gramM (rowsOf (a.map unitsOf) m.toNat n.toNat) n.toNat) = 0 then [-2]
  else quotients mode ((List.range n.toNat).map fun j => detM n.toNat (withColumnM (gramM (rowsOf (a.map unitsOf) m.toNat n.toNat) n.toNat) j (againstM (rowsOf (a.map unitsOf) m.toNat n.toNat) n.toNat (b.map unitsOf))) * UPi) (detM n.toNat (gramM (rowsOf (a.map unitsOf) m.toNat n.toNat) n.toNat))
theorem dot_scale (κ : Rat) : ∀ r s : List Int, Os.dot (r.map fun (x : Int) => κ * (x : Rat)) (s.map fun (x : Int) => κ * (x : Rat)) = κ * κ * ((productSum r s : Int) : Rat)
  | [], s => by unfold Os.dot productSum prods; rw [total_eq]; simp
  | x :: r, [] => by unfold Os.dot productSum prods; rw [total_eq]; simp
  | x :: r, y :: s => by
    have ih := dot_scale κ r s
    unfold productSum prods Os.dot at ih ⊢
    rw [total_eq] at ih ⊢
    rw [List.map_cons, List.map_cons, List.zipWith_cons_cons, List.zipWith_cons_cons, List.sum_cons, List.sum_cons, ih, Rat.intCast_add, Rat.intCast_mul]
    grind
theorem entry_scale (κ : Rat) (R : MatI) (i j : Nat) : Os.entry (scaleI κ R) i j = κ * (((R.getD i []).getD j 0 : Int) : Rat) := by
  unfold Os.entry Os.row scaleI
  rw [List.getD_eq_getElem?_getD (l := List.map _ R), List.getElem?_map, List.getD_eq_getElem?_getD (l := R)]
  cases R[i]? with
  | none =>
    show (0 : Rat) = κ * ((0 : Int) : Rat)
    rw [Rat.intCast_zero, Rat.mul_zero]
  | some r => exact getD_map_mul
theorem turned_row {κ : Rat} {R : MatI} {n i : Nat} (hi : i < n) : Os.row (Os.turned n (scaleI κ R)) i = (colI i R).map fun (x : Int) => κ * (x : Rat) := by
  unfold Os.turned Os.matOf Os.row colI
  rw [getD_range _ _ hi, List.map_map]
  have e : (scaleI κ R).length = R.length := by unfold scaleI; rw [List.length_map]
  rw [e]
  apply List.ext_getElem?
  intro k
  rw [List.getElem?_map, List.getElem?_map]
  by_cases hk : k < R.length
  · rw [List.getElem?_range hk, List.getElem?_eq_getElem hk]
    show some (Os.entry (scaleI κ R) k i) = some (κ * (((R[k]).getD i 0 : Int) : Rat))
    rw [entry_scale, List.getD_eq_getElem?_getD (l := R), List.getElem?_eq_getElem hk]
    rfl
  · rw [List.getElem?_eq_none (by rw [List.length_range]; omega), List.getElem?_eq_none (by omega)]
    rfl
theorem col_scale (κ : Rat) (R : MatI) (j : Nat) : (scaleI κ R).map (fun (r : List Rat) => r.getD j 0) = (colI j R).map fun (x : Int) => κ * (x : Rat) := by
  unfold scaleI colI
  rw [List.map_map, List.map_map]
  apply List.map_congr_left
  intro r _
  exact getD_map_mul
theorem times_scale (κ : Rat) (R B : MatI) (n k : Nat) : Os.times (Os.turned n (scaleI κ R)) (scaleI κ B) k = scaleI (κ * κ) ((List.range n).map fun i => (List.range k).map fun j => productSum (colI i R) (colI j B)) := by
  have e : (Os.turned n (scaleI κ R)).length = n := by unfold Os.turned Os.matOf; rw [List.length_map, List.length_range]
  unfold Os.times
  rw [e]
  unfold Os.matOf scaleI
  rw [List.map_map]
  apply List.map_congr_left
  intro i hi
  have hi := List.mem_range.mp hi
  show (List.range k).map _ = ((List.range k).map _).map _
  rw [List.map_map]
  apply List.map_congr_left
  intro j _
  show Os.dot (Os.row (Os.turned n (scaleI κ R)) i) ((scaleI κ B).map fun (r : List Rat) => r.getD j 0) = _
  rw [turned_row hi, col_scale, dot_scale]
  rfl
theorem against_rows {R : MatI} {n : Nat} {bu : List Int} {m : Nat} (hb : bu.length = m) : ((List.range n).map fun i => (List.range 1).map fun j => productSum (colI i R) (colI j (rowsOf bu m 1))) = rowsOf (againstM R n bu) n 1 := by
  unfold rowsOf
  apply List.map_congr_left
  intro i hi
  have hi := List.mem_range.mp hi
  apply List.map_congr_left
  intro j hj
  have hj := List.mem_range.mp hj
  obtain rfl : j = 0 := by omega
  have e := colI_rowsOf hb
  unfold rowsOf at e
  rw [e]
  unfold againstM
  rw [Nat.one_mul, Nat.add_zero, getD_range _ _ hi]
theorem least_law {mode m n : Int} {a b : List Int} (hm : In64 mode) (hm2 : In64 m) (hn : In64 n) (ha : ∀ x ∈ a, In64 x) (hb : ∀ x ∈ b, In64 x) : leastOf mode m n a b = PyWqambd.least mode m n a b := by
  show _ = OsNeutral.shown (Os.answer (.least mode.toNat m.toNat n.toNat (OsNeutral.nats a) (OsNeutral.nats b)))
  unfold leastOf Os.answer
  dsimp only
  rw [withMode_eq hm.1, few_iff hn, ofRow_eq ha]
  have eb : ∀ f : List Rat → Os.Answer, Os.ofRow m.toNat (OsNeutral.nats b) f = if b.length = m.toNat ∧ b.all isFin = true then f (b.map valOf) else Os.no 1 := fun f => ofRow_eq hb _ f
  simp only [eb]
  have en : (a.length : Int) = m * n ↔ a.length = m.toNat * n.toNat := by
    have hn0 := hn.1
    have hm0 := hm2.1
    rw [show m * n = ((m.toNat * n.toNat : Nat) : Int) by rw [Int.natCast_mul]; congr 1 <;> omega]
    omega
  have hm0 := hm2.1
  have hn0 := hn.1
  by_cases good : mode ≤ 3 ∧ badSize n 4 = false ∧ n ≤ m ∧ m ≤ 6 ∧ (a.length = m.toNat * n.toNat ∧ a.all isFin = true) ∧ (b.length = m.toNat ∧ b.all isFin = true)
  · obtain ⟨g1, g2, g3, g4, g5, g6⟩ := good
    have c2 : 1 ≤ n ∧ n ≤ 4 := by
      unfold badSize at g2
      rw [Bool.or_eq_false_iff] at g2
      have h1 := of_decide_eq_false g2.1
      have h2 := of_decide_eq_false g2.2
      omega
    have gm : badSize m 6 = false := by
      unfold badSize
      rw [decide_eq_false (by omega), decide_eq_false (by omega)]
      rfl
    rw [if_neg (show ¬ (decide (3 < mode) || (badMatrix m n 6 a || (decide (m < n) || badColumn m b))) = true from fun z => by
      rw [Bool.or_eq_true, Bool.or_eq_true, Bool.or_eq_true] at z
      rcases z with z | z | z | z
      · have := of_decide_eq_true z; omega
      · rcases badMatrix_iff.mp z with q | q | q | q
        · rw [gm] at q; cases q
        · rw [g2] at q; cases q
        · exact q (en.mpr g5.1)
        · exact q g5.2
      · have := of_decide_eq_true z; omega
      · rcases badColumn_iff.mp z with q | q
        · exact q (by omega)
        · exact q g6.2), if_neg (show ¬ (3 < mode ∨ (!badSize n 4 && (decide (n.toNat ≤ m.toNat) && decide (m.toNat ≤ 6))) = false) from by
      rw [g2, decide_eq_true (by omega), decide_eq_true (by omega)]
      rintro (z | z)
      · omega
      · cases z), if_pos g5, if_pos g6]
    rw [matIn_scale, matIn_scale, times_scale, times_scale, against_rows (by rw [List.length_map]; exact g6.1)]
    have hne : (1 : Rat) / UP * (1 / UP) ≠ 0 := fun z => by
      rcases Rat.mul_eq_zero.mp z with z | z <;> exact inv_up_ne z
    refine (solve_told hm.1 g1 (n := n.toNat) (by omega) (by omega) (R := gramM (rowsOf (a.map unitsOf) m.toNat n.toNat) n.toNat) (by unfold gramM; rw [List.length_map, List.length_range]) (fun r hr => ?_) (by unfold againstM; rw [List.length_map, List.length_range]) hne).symm
    unfold gramM at hr
    obtain ⟨i, _, rfl⟩ := List.mem_map.mp hr
    rw [List.length_map, List.length_range]
  · have bad : (decide (3 < mode) || (badMatrix m n 6 a || (decide (m < n) || badColumn m b))) = true := by
      apply Classical.byContradiction
      intro z
      apply good
      have z1 : ¬ 3 < mode := fun q => z (by rw [decide_eq_true q]; rfl)
      have z2 : ¬ badMatrix m n 6 a = true := fun q => z (by rw [q]; simp)
      have z3 : ¬ m < n := fun q => z (by rw [decide_eq_true q]; simp)
      have z4 : ¬ badColumn m b = true := fun q => z (by rw [q]; simp)
      have y := fun q => z2 (badMatrix_iff.mpr q)
      have y4 := fun q => z4 (badColumn_iff.mpr q)
      have w1 : ¬ badSize m 6 = true := fun q => y (.inl q)
      have w2 : ¬ badSize n 4 = true := fun q => y (.inr (.inl q))
      have w3 : (a.length : Int) = m * n := Classical.byContradiction fun q => y (.inr (.inr (.inl q)))
      have w4 : a.all isFin = true := Classical.byContradiction fun q => y (.inr (.inr (.inr q)))
      have w5 : (b.length : Int) = m := Classical.byContradiction fun q => y4 (.inl q)
      have w6 : b.all isFin = true := Classical.byContradiction fun q => y4 (.inr q)
      have w7 : ¬ 6 < m := fun q => w1 (by unfold badSize; rw [decide_eq_true q, Bool.or_true])
      exact ⟨by omega, by simpa using w2, by omega, by omega, ⟨en.mp w3, w4⟩, by omega, w6⟩
    rw [if_pos bad]
    by_cases z1 : 3 < mode ∨ (!badSize n 4 && (decide (n.toNat ≤ m.toNat) && decide (m.toNat ≤ 6))) = false
    · rw [if_pos z1]; rfl
    · rw [if_neg z1]
      by_cases z2 : a.length = m.toNat * n.toNat ∧ a.all isFin = true
      · rw [if_pos z2]
        by_cases z3 : b.length = m.toNat ∧ b.all isFin = true
        · exfalso
          apply good
          have w1 : ¬ 3 < mode := fun q => z1 (.inl q)
          have w2 : badSize n 4 = false := by
            cases q : badSize n 4 with
            | false => rfl
            | true => exact absurd (.inr (by rw [q]; rfl)) z1
          have w3 : n.toNat ≤ m.toNat := Classical.byContradiction fun q => z1 (.inr (by rw [decide_eq_false q]; simp))
          have w4 : m.toNat ≤ 6 := Classical.byContradiction fun q => z1 (.inr (by rw [decide_eq_false q]; simp))
          exact ⟨by omega, w2, by omega, by omega, z2, z3⟩
        · rw [if_neg z3]; rfl
      · rw [if_neg z2]; rfl
end Desk

namespace Desk
/-! polynomials as functions -/
abbrev Pol := List Rat
abbrev ev (p : Pol) (x : Rat) : Rat := Os.polyAt p x
theorem ev_nil (x : Rat) : ev [] x = 0 := rfl
theorem ev_cons (c : Rat) (p : Pol) (x : Rat) : ev (c :: p) x = c + x * ev p x := rfl
theorem ev_map (k : Rat) : ∀ (p : Pol) (x : Rat), ev (p.map fun c => k * c) x = k * ev p x
  | [], x => by rw [List.map_nil, ev_nil, Rat.mul_zero]
  | c :: p, x => by rw [List.map_cons, ev_cons, ev_cons, ev_map k p]; grind
theorem ev_negp (p : Pol) (x : Rat) : ev (p.map fun c => -c) x = -(ev p x) := by
  induction p with
  | nil => rw [List.map_nil, ev_nil]; rfl
  | cons c p ih => rw [List.map_cons, ev_cons, ev_cons, ih]; grind
theorem ev_append : ∀ (p q : Pol) (x : Rat), ev (p ++ q) x = ev p x + x ^ p.length * ev q x
  | [], q, x => by
    show ev q x = 0 + x ^ 0 * ev q x
    rw [Rat.pow_zero]; grind
  | c :: p, q, x => by
    rw [List.cons_append, ev_cons, ev_cons, ev_append p q, List.length_cons, Rat.pow_succ]
    grind
/-- no coefficient but 0 -/
def Zr (p : Pol) : Prop := ∀ c ∈ p, c = 0
theorem ev_zr {p : Pol} (h : Zr p) (x : Rat) : ev p x = 0 := by
  induction p with
  | nil => rfl
  | cons c p ih => rw [ev_cons, h c (List.mem_cons_self ..), ih fun d hd => h d (List.mem_cons_of_mem _ hd)]; grind
/-! sizes -/
def ab (x : Rat) : Rat := if x < 0 then -x else x
theorem ab_nn (x : Rat) : 0 ≤ ab x := by unfold ab; split <;> grind
theorem ab_le {x B : Rat} : ab x ≤ B ↔ -B ≤ x ∧ x ≤ B := by
  unfold ab
  split
  · constructor
    · intro h; constructor <;> grind
    · intro h; grind
  · constructor
    · intro h; constructor <;> grind
    · intro h; grind
theorem ab_mul (x y : Rat) : ab (x * y) = ab x * ab y := by
  have key : ∀ a b : Rat, 0 ≤ a → 0 ≤ b → ¬ a * b < 0 := fun a b ha hb h => by
    have := Rat.mul_nonneg ha hb
    grind
  unfold ab
  by_cases hx : x < 0 <;> by_cases hy : y < 0
  · have := key (-x) (-y) (by grind) (by grind)
    rw [if_pos hx, if_pos hy, if_neg (by grind)]
    grind
  · have := key (-x) y (by grind) (by grind)
    rw [if_pos hx, if_neg hy]
    by_cases h : x * y < 0
    · rw [if_pos h]; grind
    · rw [if_neg h]; grind
  · have := key x (-y) (by grind) (by grind)
    rw [if_neg hx, if_pos hy]
    by_cases h : x * y < 0
    · rw [if_pos h]; grind
    · rw [if_neg h]; grind
  · have := key x y (by grind) (by grind)
    rw [if_neg hx, if_neg hy, if_neg (by grind)]
theorem ab_add (x y : Rat) : ab (x + y) ≤ ab x + ab y := by
  unfold ab
  split <;> split <;> split <;> grind
theorem ab_neg (x : Rat) : ab (-x) = ab x := by
  unfold ab
  split <;> split <;> grind
theorem mul_le_mul2 {a b c d : Rat} (h1 : a ≤ b) (h2 : c ≤ d) (ha : 0 ≤ a) (hd : 0 ≤ d) : a * c ≤ b * d :=
  Rat.le_trans (Rat.mul_le_mul_of_nonneg_left h2 ha) (Rat.mul_le_mul_of_nonneg_right h1 hd)
/-- a bound on a bounded stretch -/
theorem ev_bound (p : Pol) (M : Rat) (hM : 0 ≤ M) : ∃ B : Rat, 0 ≤ B ∧ ∀ x, ab x ≤ M → ab (ev p x) ≤ B := by
  induction p with
  | nil => exact ⟨0, Rat.le_refl, fun x _ => by rw [ev_nil]; decide⟩
  | cons c p ih =>
    obtain ⟨B, hB, h⟩ := ih
    refine ⟨ab c + M * B, Rat.add_nonneg (ab_nn c) (Rat.mul_nonneg hM hB), fun x hx => ?_⟩
    rw [ev_cons]
    have h1 := ab_add c (x * ev p x)
    have h2 : ab (x * ev p x) ≤ M * B := by
      rw [ab_mul]
      exact mul_le_mul2 hx (h x hx) (ab_nn x) hB
    grind
/-! the slope -/
def Der (f g : Rat → Rat) : Prop := ∀ M : Rat, 0 ≤ M → ∃ K : Rat, 0 ≤ K ∧ ∀ x y, ab x ≤ M → ab y ≤ M → ab (f y - f x - (y - x) * g x) ≤ K * ((y - x) * (y - x))
def Bd (f : Rat → Rat) : Prop := ∀ M : Rat, 0 ≤ M → ∃ B : Rat, 0 ≤ B ∧ ∀ x, ab x ≤ M → ab (f x) ≤ B
theorem sq_nn (x : Rat) : 0 ≤ x * x := by
  rcases Rat.le_total (a := 0) (b := x) with h | h
  · exact Rat.mul_nonneg h h
  · have := Rat.mul_nonneg (a := -x) (b := -x) (by grind) (by grind)
    grind
theorem der_mul {f f' g g' : Rat → Rat} (hf : Der f f') (hg : Der g g') (bf : Bd f) (bg : Bd g) (bf' : Bd f') (bg' : Bd g') : Der (fun x => f x * g x) (fun x => f' x * g x + f x * g' x) := by
  intro M hM
  obtain ⟨K1, k1, h1⟩ := hf M hM
  obtain ⟨K2, k2, h2⟩ := hg M hM
  obtain ⟨B1, b1, c1⟩ := bf M hM
  obtain ⟨B2, b2, c2⟩ := bg M hM
  obtain ⟨B3, b3, c3⟩ := bf' M hM
  obtain ⟨B4, b4, c4⟩ := bg' M hM
  -- f y g y - f x g x = (f y - f x - d f') g y + d f' (g y - g x - d g') + d f' d g' + f x (g y - g x - d g') + d (f' g + f g')
  refine ⟨K1 * B2 + (M + M) * B3 * K2 + B3 * B4 + B1 * K2, ?_, fun x y hx hy => ?_⟩
  · have := Rat.mul_nonneg k1 b2
    have := Rat.mul_nonneg (Rat.mul_nonneg (Rat.add_nonneg hM hM) b3) k2
    have := Rat.mul_nonneg b3 b4
    have := Rat.mul_nonneg b1 k2
    grind
  · have e1 := h1 x y hx hy
    have e2 := h2 x y hx hy
    have q1 := c1 x hx
    have q2 := c2 y hy
    have q3 := c3 x hx
    have q4 := c4 x hx
    have dd : ab (y - x) ≤ M + M := by
      have := ab_add y (-x)
      rw [ab_neg] at this
      have e : y + -x = y - x := by grind
      rw [e] at this
      grind
    have sq := sq_nn (y - x)
    have id1 : f y * g y - f x * g x - (y - x) * (f' x * g x + f x * g' x) = (f y - f x - (y - x) * f' x) * g y + ((y - x) * f' x * (g y - g x - (y - x) * g' x) + ((y - x) * (y - x)) * (f' x * g' x)) + f x * (g y - g x - (y - x) * g' x) := by grind
    show ab (f y * g y - f x * g x - (y - x) * (f' x * g x + f x * g' x)) ≤ _
    rw [id1]
    generalize hu : f y - f x - (y - x) * f' x = u at e1
    generalize hv : g y - g x - (y - x) * g' x = v at e2
    generalize hs : (y - x) * (y - x) = s at e1 e2 sq
    have t1 : ab (u * g y) ≤ K1 * s * B2 := by rw [ab_mul]; exact mul_le_mul2 e1 q2 (ab_nn _) b2
    have t2 : ab ((y - x) * f' x * v) ≤ (M + M) * B3 * (K2 * s) := by
      rw [ab_mul, ab_mul]
      exact mul_le_mul2 (mul_le_mul2 dd q3 (ab_nn _) b3) e2 (Rat.mul_nonneg (ab_nn _) (ab_nn _)) (Rat.mul_nonneg k2 sq)
    have t3 : ab (s * (f' x * g' x)) ≤ s * (B3 * B4) := by
      rw [ab_mul, ab_mul]
      have : ab s = s := by unfold ab; rw [if_neg (by grind)]
      rw [this]
      exact mul_le_mul2 Rat.le_refl (mul_le_mul2 q3 q4 (ab_nn _) b4) sq (Rat.mul_nonneg b3 b4)
    have t4 : ab (f x * v) ≤ B1 * (K2 * s) := by rw [ab_mul]; exact mul_le_mul2 q1 e2 (ab_nn _) (Rat.mul_nonneg k2 sq)
    have a1 := ab_add (u * g y + ((y - x) * f' x * v + s * (f' x * g' x))) (f x * v)
    have a2 := ab_add (u * g y) ((y - x) * f' x * v + s * (f' x * g' x))
    have a3 := ab_add ((y - x) * f' x * v) (s * (f' x * g' x))
    have fin : (K1 * B2 + (M + M) * B3 * K2 + B3 * B4 + B1 * K2) * s = K1 * s * B2 + (M + M) * B3 * (K2 * s) + s * (B3 * B4) + B1 * (K2 * s) := by grind
    rw [fin]
    grind
theorem der_const (c : Rat) : Der (fun _ => c) (fun _ => 0) := fun M hM => ⟨0, Rat.le_refl, fun x y _ _ => by
  have e : c - c - (y - x) * 0 = 0 := by grind
  rw [e, Rat.zero_mul]
  decide⟩
theorem der_id : Der (fun x => x) (fun _ => 1) := fun M hM => ⟨0, Rat.le_refl, fun x y _ _ => by
  have e : y - x - (y - x) * 1 = 0 := by grind
  rw [e, Rat.zero_mul]
  decide⟩
theorem der_add {f f' g g' : Rat → Rat} (hf : Der f f') (hg : Der g g') : Der (fun x => f x + g x) (fun x => f' x + g' x) := by
  intro M hM
  obtain ⟨K1, k1, h1⟩ := hf M hM
  obtain ⟨K2, k2, h2⟩ := hg M hM
  refine ⟨K1 + K2, Rat.add_nonneg k1 k2, fun x y hx hy => ?_⟩
  have e1 := h1 x y hx hy
  have e2 := h2 x y hx hy
  have a := ab_add (f y - f x - (y - x) * f' x) (g y - g x - (y - x) * g' x)
  have e : f y + g y - (f x + g x) - (y - x) * (f' x + g' x) = f y - f x - (y - x) * f' x + (g y - g x - (y - x) * g' x) := by grind
  show ab (f y + g y - (f x + g x) - (y - x) * (f' x + g' x)) ≤ _
  rw [e, Rat.add_mul]
  grind
theorem bd_ev (p : Pol) : Bd (ev p) := fun M hM => ev_bound p M hM
theorem bd_id : Bd (fun x => x) := fun M hM => ⟨M, hM, fun x hx => hx⟩
theorem bd_const (c : Rat) : Bd (fun _ => c) := fun M hM => ⟨ab c, ab_nn c, fun x _ => Rat.le_refl⟩
theorem bd_mul {f g : Rat → Rat} (hf : Bd f) (hg : Bd g) : Bd (fun x => f x * g x) := fun M hM => by
  obtain ⟨B1, b1, c1⟩ := hf M hM
  obtain ⟨B2, b2, c2⟩ := hg M hM
  exact ⟨B1 * B2, Rat.mul_nonneg b1 b2, fun x hx => by show ab (f x * g x) ≤ _; rw [ab_mul]; exact mul_le_mul2 (c1 x hx) (c2 x hx) (ab_nn _) b2⟩
theorem bd_add {f g : Rat → Rat} (hf : Bd f) (hg : Bd g) : Bd (fun x => f x + g x) := fun M hM => by
  obtain ⟨B1, b1, c1⟩ := hf M hM
  obtain ⟨B2, b2, c2⟩ := hg M hM
  exact ⟨B1 + B2, Rat.add_nonneg b1 b2, fun x hx => by
    have := ab_add (f x) (g x)
    have := c1 x hx
    have := c2 x hx
    show ab (f x + g x) ≤ _
    grind⟩
/-- the slope is one -/
theorem der_uniq {f g h : Rat → Rat} (a : Der f g) (b : Der f h) (x : Rat) : g x = h x := by
  apply Classical.byContradiction
  intro hne
  have hM : 0 ≤ ab x + 1 := by have := ab_nn x; grind
  obtain ⟨K1, k1, h1⟩ := a (ab x + 1) hM
  obtain ⟨K2, k2, h2⟩ := b (ab x + 1) hM
  -- (y - x) (g x - h x) is at most (K1 + K2) (y - x)^2; y = x + d with d small
  have key : ∀ d : Rat, 0 < d → d ≤ 1 → d * ab (g x - h x) ≤ (K1 + K2) * (d * d) := fun d hd h1' => by
    have hy : ab (x + d) ≤ ab x + 1 := by
      have := ab_add x d
      have : ab d = d := by unfold ab; rw [if_neg (by grind)]
      grind
    have hx : ab x ≤ ab x + 1 := by grind
    have e1 := h1 x (x + d) hx hy
    have e2 := h2 x (x + d) hx hy
    have s : (x + d - x) = d := by grind
    rw [s] at e1 e2
    have t := ab_add (f (x + d) - f x - d * h x) (-(f (x + d) - f x - d * g x))
    rw [ab_neg] at t
    have e3 : f (x + d) - f x - d * h x + -(f (x + d) - f x - d * g x) = d * (g x - h x) := by grind
    rw [e3, ab_mul] at t
    have : ab d = d := by unfold ab; rw [if_neg (by grind)]
    rw [this] at t
    rw [Rat.add_mul]
    grind
  have hpos : 0 < ab (g x - h x) := by
    unfold ab
    split
    · grind
    · grind
  generalize ab (g x - h x) = e at key hpos
  have hK : 0 ≤ K1 + K2 := Rat.add_nonneg k1 k2
  generalize K1 + K2 = K at key hK
  -- d := e / (2 (K + e + 1))
  have hD : 0 < K + e + 1 := by grind
  have hd0 : 0 < e / (2 * (K + e + 1)) := by
    rw [Rat.lt_div_iff (by grind)]
    grind
  have hd1 : e / (2 * (K + e + 1)) ≤ 1 := by
    have : e / (2 * (K + e + 1)) < 1 := by
      rw [Rat.div_lt_iff (by grind)]
      grind
    grind
  have q := key _ hd0 hd1
  have hd : e / (2 * (K + e + 1)) * (2 * (K + e + 1)) = e := Rat.div_mul_cancel (by grind)
  generalize e / (2 * (K + e + 1)) = d at hd0 hd1 q hd
  have q2 : e ≤ K * d := by
    have h3 : d * e ≤ d * (K * d) := by
      have : K * (d * d) = d * (K * d) := by grind
      rw [← this]; exact q
    exact Rat.le_of_mul_le_mul_left h3 hd0
  have q3 : K * d ≤ (K + e + 1) * d := Rat.mul_le_mul_of_nonneg_right (by grind) (Rat.le_of_lt hd0)
  have q4 : d * (2 * (K + e + 1)) = 2 * ((K + e + 1) * d) := by grind
  rw [q4] at hd
  grind
/-- the specification's slope -/
theorem slope_cons (c : Rat) (p : Pol) (x : Rat) : ev (Os.slope (c :: p)) x = ev p x + x * ev (Os.slope p) x := by
  have gen : ∀ (q : Pol) (k : Nat) (x : Rat), ev ((List.range q.length).map fun (i : Nat) => ((i + 1 + k : Nat) : Rat) * q.getD i 0) x = ev q x + ev ((List.range q.length).map fun (i : Nat) => ((i + k : Nat) : Rat) * q.getD i 0) x := by
    intro q
    induction q with
    | nil => intro k x; show (0 : Rat) = 0 + 0; grind
    | cons a q ih =>
      intro k x
      rw [List.length_cons, List.range_succ_eq_map, List.map_cons, List.map_cons, List.map_map, List.map_map, ev_cons, ev_cons, ev_cons]
      have e1 : (List.range q.length).map ((fun (i : Nat) => ((i + 1 + k : Nat) : Rat) * (a :: q).getD i 0) ∘ Nat.succ) = (List.range q.length).map fun (i : Nat) => ((i + 1 + (k + 1) : Nat) : Rat) * q.getD i 0 := by
        apply List.map_congr_left
        intro i _
        show ((i + 1 + 1 + k : Nat) : Rat) * q.getD i 0 = _
        rw [show i + 1 + 1 + k = i + 1 + (k + 1) by omega]
      have e2 : (List.range q.length).map ((fun (i : Nat) => ((i + k : Nat) : Rat) * (a :: q).getD i 0) ∘ Nat.succ) = (List.range q.length).map fun (i : Nat) => ((i + (k + 1) : Nat) : Rat) * q.getD i 0 := by
        apply List.map_congr_left
        intro i _
        show ((i + 1 + k : Nat) : Rat) * q.getD i 0 = _
        rw [show i + 1 + k = i + (k + 1) by omega]
      rw [e1, e2, ih (k + 1) x]
      show ((0 + 1 + k : Nat) : Rat) * a + _ = _
      have : ((0 + 1 + k : Nat) : Rat) = 1 + ((0 + k : Nat) : Rat) := by
        rw [show 0 + 1 + k = 1 + k by omega, show 0 + k = k by omega, Rat.natCast_add]
        rfl
      rw [this]
      show _ = a + x * ev q x + (((0 + k : Nat) : Rat) * a + x * _)
      grind
  have g := gen p 0 x
  have e0 : ev (Os.slope (c :: p)) x = ev ((List.range p.length).map fun (i : Nat) => ((i + 1 + 0 : Nat) : Rat) * p.getD i 0) x := by
    unfold Os.slope
    rfl
  rw [e0, g]
  congr 1
  cases p with
  | nil => show (0 : Rat) = x * 0; grind
  | cons a q =>
    rw [List.length_cons, List.range_succ_eq_map, List.map_cons, List.map_map, ev_cons]
    have e3 : (List.range q.length).map ((fun (i : Nat) => ((i + 0 : Nat) : Rat) * (a :: q).getD i 0) ∘ Nat.succ) = Os.slope (a :: q) := by
      unfold Os.slope
      apply List.map_congr_left
      intro i _
      rfl
    rw [e3]
    show ((0 : Nat) : Rat) * a + _ = _
    rw [show ((0 : Nat) : Rat) = 0 from rfl]
    grind
theorem der_slope : ∀ p : Pol, Der (ev p) (ev (Os.slope p))
  | [] => by
    have := der_const 0
    exact this
  | c :: p => by
    have ih := der_slope p
    have h := der_add (der_const c) (der_mul der_id ih bd_id (bd_ev p) (bd_const 1) (bd_ev (Os.slope p)))
    have e1 : (fun x => c + x * ev p x) = ev (c :: p) := rfl
    have e2 : (fun x => 0 + (1 * ev p x + x * ev (Os.slope p) x)) = ev (Os.slope (c :: p)) := by
      funext x
      rw [slope_cons]
      grind
    rw [e1, e2] at h
    exact h
end Desk

namespace Desk
/-! polynomial functions -/
def Pl (f : Rat → Rat) : Prop := ∃ p : Pol, ∀ x, f x = ev p x
def Nz (f : Rat → Rat) : Prop := ∃ x, f x ≠ 0
theorem pl_ev (p : Pol) : Pl (ev p) := ⟨p, fun _ => rfl⟩
theorem pl_of {f g : Rat → Rat} (h : Pl g) (e : ∀ x, f x = g x) : Pl f := by
  obtain ⟨p, hp⟩ := h
  exact ⟨p, fun x => (e x).trans (hp x)⟩
theorem pl_const (c : Rat) : Pl fun _ => c := ⟨[c], fun x => by rw [ev_cons, ev_nil]; grind⟩
theorem pl_id : Pl fun x => x := ⟨[0, 1], fun x => by rw [ev_cons, ev_cons, ev_nil]; grind⟩
theorem ex_add : ∀ p q : Pol, ∃ r : Pol, ∀ x, ev p x + ev q x = ev r x
  | [], q => ⟨q, fun x => by rw [ev_nil, Rat.zero_add]⟩
  | c :: p, [] => ⟨c :: p, fun x => by rw [ev_nil, Rat.add_zero]⟩
  | c :: p, d :: q => by
    obtain ⟨r, hr⟩ := ex_add p q
    exact ⟨(c + d) :: r, fun x => by rw [ev_cons, ev_cons, ev_cons, ← hr]; grind⟩
theorem pl_add {f g : Rat → Rat} : Pl f → Pl g → Pl fun x => f x + g x
  | ⟨p, hp⟩, ⟨q, hq⟩ => by
    obtain ⟨r, hr⟩ := ex_add p q
    exact ⟨r, fun x => by show f x + g x = _; rw [hp, hq, hr]⟩
theorem pl_smul (c : Rat) {f : Rat → Rat} : Pl f → Pl fun x => c * f x
  | ⟨p, hp⟩ => ⟨p.map fun a => c * a, fun x => by show c * f x = _; rw [ev_map, hp]⟩
theorem pl_xmul {f : Rat → Rat} : Pl f → Pl fun x => x * f x
  | ⟨p, hp⟩ => ⟨0 :: p, fun x => by show x * f x = _; rw [ev_cons, hp, Rat.zero_add]⟩
theorem pl_mul {f g : Rat → Rat} : Pl f → Pl g → Pl fun x => f x * g x
  | ⟨p, hp⟩, hg => by
    have : ∀ p : Pol, Pl fun x => ev p x * g x := by
      intro p
      induction p with
      | nil => exact pl_of (pl_const 0) fun x => by rw [ev_nil, Rat.zero_mul]
      | cons c p ih => exact pl_of (pl_add (pl_smul c hg) (pl_xmul ih)) fun x => by rw [ev_cons]; grind
    exact pl_of (this p) fun x => by rw [hp]
theorem pl_neg {f : Rat → Rat} (h : Pl f) : Pl fun x => -(f x) := pl_of (pl_smul (-1) h) fun x => by grind
theorem pl_sub {f g : Rat → Rat} (h : Pl f) (k : Pl g) : Pl fun x => f x - g x := pl_of (pl_add h (pl_neg k)) fun x => by grind
theorem pl_pow {f : Rat → Rat} (h : Pl f) : ∀ k : Nat, Pl fun x => f x ^ k
  | 0 => pl_of (pl_const 1) fun x => Rat.pow_zero _
  | k + 1 => pl_of (pl_mul (pl_pow h k) h) fun x => Rat.pow_succ ..
/-! trimming -/
theorem trim_spec (p : Pol) : (Zr p ∧ Os.trim p = []) ∨ ∃ l c, c ≠ 0 ∧ Os.trim p = l ++ [c] ∧ ∃ z, Zr z ∧ p = l ++ [c] ++ z := by
  have h : ∀ q : Pol, (Zr q ∧ (q.dropWhile fun (x : Rat) => decide (x = 0)) = []) ∨ ∃ l c, c ≠ 0 ∧ (q.dropWhile fun (x : Rat) => decide (x = 0)) = c :: l ∧ ∃ z, Zr z ∧ q = z ++ (c :: l) := by
    intro q
    induction q with
    | nil => exact .inl ⟨(fun c hc => by cases hc), rfl⟩
    | cons a q ih =>
      by_cases ha : a = 0
      · have e : ((a :: q).dropWhile fun (x : Rat) => decide (x = 0)) = q.dropWhile fun (x : Rat) => decide (x = 0) := by
          rw [List.dropWhile_cons, if_pos (decide_eq_true ha)]
        rw [e]
        rcases ih with ⟨h1, h2⟩ | ⟨l, c, hc, h2, z, hz, h3⟩
        · exact .inl ⟨fun c hc => by rcases List.mem_cons.1 hc with r | r; exact r ▸ ha; exact h1 c r, h2⟩
        · exact .inr ⟨l, c, hc, h2, a :: z, (fun d hd => by rcases List.mem_cons.1 hd with r | r; exact r ▸ ha; exact hz d r), by rw [h3]; rfl⟩
      · exact .inr ⟨q, a, ha, by rw [List.dropWhile_cons, if_neg (by simp [ha])], [], (fun c hc => by cases hc), rfl⟩
  unfold Os.trim
  rcases h p.reverse with ⟨h1, h2⟩ | ⟨l, c, hc, h2, z, hz, h3⟩
  · exact .inl ⟨fun c hc => h1 c (List.mem_reverse.2 hc), by rw [h2]; rfl⟩
  · refine .inr ⟨l.reverse, c, hc, by rw [h2]; simp, z.reverse, fun d hd => hz d (List.mem_reverse.1 hd), ?_⟩
    have := congrArg List.reverse h3
    rw [List.reverse_reverse] at this
    rw [this]
    simp
theorem ev_trim (p : Pol) (x : Rat) : ev (Os.trim p) x = ev p x := by
  rcases trim_spec p with ⟨h, e⟩ | ⟨l, c, hc, e, z, hz, h⟩
  · rw [e, ev_zr h]; rfl
  · rw [e]
    rw [h, ev_append (l ++ [c]) z, ev_zr hz]
    grind
theorem trim_of_last (l : Pol) (c : Rat) (hc : c ≠ 0) : Os.trim (l ++ [c]) = l ++ [c] := by
  unfold Os.trim
  rw [List.reverse_append, List.reverse_singleton, List.singleton_append, List.dropWhile_cons, if_neg (by simp [hc])]
  simp
theorem trim_zr {p : Pol} (h : Zr p) : Os.trim p = [] := by
  rcases trim_spec p with ⟨_, e⟩ | ⟨l, c, hc, e, z, hz, h'⟩
  · exact e
  · exact absurd (h c (by rw [h']; simp)) hc
theorem trim_trim (p : Pol) : Os.trim (Os.trim p) = Os.trim p := by
  rcases trim_spec p with ⟨h, e⟩ | ⟨l, c, hc, e, z, hz, h⟩
  · rw [e]; rfl
  · rw [e, trim_of_last _ _ hc]
theorem lead_of (l : Pol) (c : Rat) {p : Pol} (e : Os.trim p = l ++ [c]) : Os.lead p = c := by
  unfold Os.lead
  rw [e, List.getLast?_append]
  rfl
theorem trim_append_zr {p z : Pol} (hz : Zr z) : Os.trim (p ++ z) = Os.trim p := by
  rcases trim_spec p with ⟨h, e⟩ | ⟨l, c, hc, e, y, hy, h⟩
  · rw [e, trim_zr]
    intro c hc
    rcases List.mem_append.1 hc with r | r
    exact h c r
    exact hz c r
  · rw [e, h]
    unfold Os.trim
    have : (l ++ [c] ++ y ++ z).reverse.dropWhile (fun (x : Rat) => decide (x = 0)) = c :: l.reverse := by
      rw [List.append_assoc, List.reverse_append]
      have hyz : ∀ q : Pol, Zr q → ∀ r : Pol, (q ++ r).dropWhile (fun (x : Rat) => decide (x = 0)) = r.dropWhile fun (x : Rat) => decide (x = 0) := by
        intro q hq r
        induction q with
        | nil => rfl
        | cons a q ih =>
          rw [List.cons_append, List.dropWhile_cons, if_pos (decide_eq_true (hq a (List.mem_cons_self ..)))]
          exact ih fun d hd => hq d (List.mem_cons_of_mem _ hd)
      rw [hyz]
      · rw [List.reverse_append, List.reverse_singleton, List.singleton_append, List.dropWhile_cons, if_neg (by simp [hc])]
      · intro d hd
        rw [List.mem_reverse] at hd
        rcases List.mem_append.1 hd with r | r
        exact hy d r
        exact hz d r
    rw [this]
    simp
/-- values of a list by its places -/
theorem ev_range (n : Nat) (f : Nat → Rat) (x : Rat) : ev ((List.range (n + 1)).map f) x = ev ((List.range n).map f) x + x ^ n * f n := by
  rw [List.range_succ, List.map_append, ev_append, List.length_map, List.length_range]
  show _ + x ^ n * (f n + x * 0) = _
  grind
theorem ev_getD (p : Pol) (n : Nat) (h : p.length ≤ n) (x : Rat) : ev ((List.range n).map fun i => p.getD i 0) x = ev p x := by
  have : (List.range n).map (fun i => p.getD i 0) = p ++ List.replicate (n - p.length) 0 := by
    apply List.ext_getElem
    · simp; omega
    · intro i h1 h2
      rw [List.getElem_map, List.getElem_range, List.getElem_append]
      split
      · rename_i hi
        rw [List.getD_eq_getElem?_getD, List.getElem?_eq_getElem hi]
        rfl
      · rename_i hi
        rw [List.getElem_replicate]
        rw [List.getD_eq_getElem?_getD, List.getElem?_eq_none (by omega)]
        rfl
  rw [this, ev_append, ev_zr (p := List.replicate _ 0) fun c hc => (List.mem_replicate.1 hc).2]
  grind
theorem ev_range_add (n : Nat) (f g : Nat → Rat) (x : Rat) : ev ((List.range n).map fun i => f i - g i) x = ev ((List.range n).map f) x - ev ((List.range n).map g) x := by
  induction n with
  | zero => show (0 : Rat) = 0 - 0; grind
  | succ n ih => rw [ev_range, ev_range, ev_range, ih]; grind
theorem ev_range_mul (n : Nat) (k : Rat) (f : Nat → Rat) (x : Rat) : ev ((List.range n).map fun i => k * f i) x = k * ev ((List.range n).map f) x := by
  induction n with
  | zero => show (0 : Rat) = k * 0; grind
  | succ n ih => rw [ev_range, ev_range, ih]; grind
theorem pow_add' (x : Rat) (a b : Nat) : x ^ (a + b) = x ^ a * x ^ b := by
  induction b with
  | zero => rw [Rat.pow_zero, Nat.add_zero]; grind
  | succ b ih => rw [← Nat.add_assoc, Rat.pow_succ, ih, Rat.pow_succ]; grind
/-- moved up by k places -/
theorem ev_shift (k n : Nat) (f : Nat → Rat) (x : Rat) : ev ((List.range (k + n)).map fun i => if i < k then 0 else f (i - k)) x = x ^ k * ev ((List.range n).map f) x := by
  induction n with
  | zero =>
    rw [ev_zr]
    · show (0 : Rat) = x ^ k * 0; grind
    · intro c hc
      obtain ⟨i, hi, e⟩ := List.mem_map.1 hc
      rw [if_pos (by have := List.mem_range.1 hi; omega)] at e
      exact e.symm
  | succ n ih =>
    rw [← Nat.add_assoc, ev_range, ev_range, ih, if_neg (by omega), pow_add', show k + n - k = n by omega]
    grind

/-! division -/
theorem getD_trim (p : Pol) (i : Nat) (h : i < (Os.trim p).length) : p.getD i 0 = (Os.trim p).getD i 0 := by
  rcases trim_spec p with ⟨hz, e⟩ | ⟨l, c, hc, e, z, hz, h'⟩
  · rw [e] at h
    exact absurd h (by simp)
  · rw [e] at h ⊢
    rw [h', List.getD_eq_getElem?_getD, List.getD_eq_getElem?_getD, List.getElem?_append_left h]
theorem getD_lead (p : Pol) (h : Os.trim p ≠ []) : (Os.trim p).getD ((Os.trim p).length - 1) 0 = Os.lead p := by
  rcases trim_spec p with ⟨hz, e⟩ | ⟨l, c, hc, e, z, hz, h'⟩
  · exact absurd e h
  · rw [lead_of l c e, e]
    simp
theorem lead_ne (p : Pol) (h : Os.trim p ≠ []) : Os.lead p ≠ 0 := by
  rcases trim_spec p with ⟨hz, e⟩ | ⟨l, c, hc, e, z, hz, h'⟩
  · exact absurd e h
  · rw [lead_of l c e]; exact hc
theorem trim_le (p : Pol) : (Os.trim p).length ≤ p.length := by
  rcases trim_spec p with ⟨hz, e⟩ | ⟨l, c, hc, e, z, hz, h'⟩
  · rw [e]; exact Nat.zero_le _
  · rw [e, h', List.length_append (bs := z)]; exact Nat.le_add_right _ _
theorem trim_lt_of_last {n : Nat} (f : Nat → Rat) (h : f n = 0) : (Os.trim ((List.range (n + 1)).map f)).length ≤ n := by
  rw [List.range_succ, List.map_append]
  have : Zr ([n].map f) := fun c hc => by
    rw [List.map_cons, List.map_nil, List.mem_singleton] at hc
    rw [hc, h]
  rw [trim_append_zr this]
  have := trim_le ((List.range n).map f)
  rw [List.length_map, List.length_range] at this
  exact this
theorem lowered_trim (p q : Pol) : Os.trim (Os.lowered p q) = Os.lowered p q := by unfold Os.lowered; exact trim_trim _
theorem lowered_lt {p q : Pol} (hp : Os.trim p ≠ []) (hq : Os.trim q ≠ []) (h : (Os.trim q).length ≤ (Os.trim p).length) : (Os.trim (Os.lowered p q)).length < (Os.trim p).length := by
  have h1 : 0 < (Os.trim p).length := List.length_pos_iff.2 hp
  have h2 : 0 < (Os.trim q).length := List.length_pos_iff.2 hq
  rw [lowered_trim]
  unfold Os.lowered
  generalize hn : (Os.trim p).length - 1 = n
  have hn' : (Os.trim p).length = n + 1 := by omega
  have key := trim_lt_of_last (n := n) (fun (i : Nat) => p.getD i 0 - (if i + (Os.trim q).length < (Os.trim p).length then 0 else Os.lead p / Os.lead q * q.getD (i + (Os.trim q).length - (Os.trim p).length) 0)) (by
    show p.getD n 0 - (if n + (Os.trim q).length < (Os.trim p).length then 0 else Os.lead p / Os.lead q * q.getD (n + (Os.trim q).length - (Os.trim p).length) 0) = 0
    rw [if_neg (by omega), getD_trim p n (by omega), show n + (Os.trim q).length - (Os.trim p).length = (Os.trim q).length - 1 by omega, getD_trim q _ (by omega), getD_lead q hq]
    have := getD_lead p hp
    rw [hn] at this
    rw [this, Rat.div_mul_cancel (lead_ne q hq)]
    grind)
  rw [← hn'] at key
  have e : (Os.trim ((List.range (Os.trim p).length).map fun (i : Nat) => p.getD i 0 - (if i + (Os.trim q).length < (Os.trim p).length then 0 else Os.lead p / Os.lead q * q.getD (i + (Os.trim q).length - (Os.trim p).length) 0))).length ≤ n := key
  omega
theorem ev_lowered {p q : Pol} (h : (Os.trim q).length ≤ (Os.trim p).length) (x : Rat) : ev (Os.lowered p q) x = ev p x - Os.lead p / Os.lead q * (x ^ ((Os.trim p).length - (Os.trim q).length) * ev q x) := by
  unfold Os.lowered
  rw [ev_trim]
  rw [ev_range_add]
  have e1 : ev ((List.range (Os.trim p).length).map fun i => p.getD i 0) x = ev p x := by
    rw [← ev_trim p, ← ev_getD (Os.trim p) _ (Nat.le_refl _)]
    congr 1
    apply List.map_congr_left
    intro i hi
    exact getD_trim p i (List.mem_range.1 hi)
  have e2 : ev ((List.range (Os.trim q).length).map fun i => q.getD i 0) x = ev q x := by
    rw [← ev_trim q, ← ev_getD (Os.trim q) _ (Nat.le_refl _)]
    congr 1
    apply List.map_congr_left
    intro i hi
    exact getD_trim q i (List.mem_range.1 hi)
  rw [e1]
  congr 1
  generalize hk : (Os.trim p).length - (Os.trim q).length = k
  have : (Os.trim p).length = k + (Os.trim q).length := by omega
  rw [this, ← e2, ← ev_shift, ← ev_range_mul]
  congr 1
  apply List.map_congr_left
  intro i _
  show (if i + (Os.trim q).length < k + (Os.trim q).length then 0 else Os.lead p / Os.lead q * q.getD (i + (Os.trim q).length - (k + (Os.trim q).length)) 0) = Os.lead p / Os.lead q * (if i < k then 0 else q.getD (i - k) 0)
  by_cases hi : i < k
  · rw [if_pos (by omega), if_pos hi, Rat.mul_zero]
  · rw [if_neg (by omega), if_neg hi, show i + (Os.trim q).length - (k + (Os.trim q).length) = i - k by omega]
/-- a division with what is left shorter -/
theorem divideF {q : Pol} (hq : Os.trim q ≠ []) : ∀ (f : Nat) (p : Pol), (Os.trim p).length < f → (∀ x, ev p x = ev (Os.quotFrom f p q) x * ev q x + ev (Os.restFrom f p q) x) ∧ (Os.trim (Os.restFrom f p q)).length < (Os.trim q).length ∧ ((Os.trim q).length ≤ (Os.trim p).length → (Os.quotFrom f p q).length = (Os.trim p).length - (Os.trim q).length + 1) ∧ ((Os.trim p).length < (Os.trim q).length → Os.quotFrom f p q = []) := by
  have h2 : 0 < (Os.trim q).length := List.length_pos_iff.2 hq
  intro f
  induction f with
  | zero => intro p h; omega
  | succ f ih =>
    intro p hf
    unfold Os.quotFrom Os.restFrom
    by_cases hs : (Os.trim p).length < (Os.trim q).length ∨ (Os.trim p).isEmpty = true
    · rw [if_pos hs, if_pos hs]
      have hl : (Os.trim p).length < (Os.trim q).length := by
        rcases hs with h | h
        · exact h
        · rw [List.isEmpty_iff.1 h]; exact h2
      refine ⟨fun x => by rw [ev_nil, ev_trim]; grind, by rw [trim_trim]; exact hl, fun h => by omega, fun _ => rfl⟩
    · rw [if_neg hs, if_neg hs]
      have hp : Os.trim p ≠ [] := fun h => hs (.inr (by rw [h]; rfl))
      have hle : (Os.trim q).length ≤ (Os.trim p).length := by
        have := fun h => hs (.inl h)
        omega
      have lt := lowered_lt hp hq hle
      obtain ⟨i1, i2, i3, i4⟩ := ih (Os.lowered p q) (by omega)
      refine ⟨fun x => ?_, i2, fun _ => ?_, fun h => by omega⟩
      · have hv := i1 x
        rw [ev_lowered hle] at hv
        show _ = ev ((List.range ((Os.trim p).length - (Os.trim q).length + 1)).map fun (i : Nat) => if i = (Os.trim p).length - (Os.trim q).length then Os.lead p / Os.lead q else (Os.quotFrom f (Os.lowered p q) q).getD i 0) x * ev q x + _
        rw [ev_range, if_pos rfl]
        have e : ev ((List.range ((Os.trim p).length - (Os.trim q).length)).map fun (i : Nat) => if i = (Os.trim p).length - (Os.trim q).length then Os.lead p / Os.lead q else (Os.quotFrom f (Os.lowered p q) q).getD i 0) x = ev (Os.quotFrom f (Os.lowered p q) q) x := by
          rw [← ev_getD (Os.quotFrom f (Os.lowered p q) q) ((Os.trim p).length - (Os.trim q).length) (by
            by_cases c : (Os.trim q).length ≤ (Os.trim (Os.lowered p q)).length
            · rw [i3 c]; omega
            · rw [i4 (by omega)]; exact Nat.zero_le _)]
          congr 1
          apply List.map_congr_left
          intro i hi
          rw [if_neg (by have := List.mem_range.1 hi; omega)]
        rw [e]
        grind
      · show ((List.range ((Os.trim p).length - (Os.trim q).length + 1)).map _).length = _
        rw [List.length_map, List.length_range]
theorem divide {q : Pol} (hq : Os.trim q ≠ []) (p : Pol) : (∀ x, ev p x = ev (Os.quot p q) x * ev q x + ev (Os.rest p q) x) ∧ (Os.trim (Os.rest p q)).length < (Os.trim q).length := by
  have := divideF hq (p.length + 1) p (by have := trim_le p; omega)
  exact ⟨this.1, this.2.1⟩
/-! what two have in common -/
def Dv (f g : Rat → Rat) : Prop := ∃ q, Pl q ∧ ∀ x, g x = q x * f x
theorem dv_refl (f : Rat → Rat) : Dv f f := ⟨_, pl_const 1, fun x => by grind⟩
theorem gcdF : ∀ (f : Nat) (p q : Pol), (Os.trim q).length < f → (Os.trim p ≠ [] ∨ Os.trim q ≠ []) → ∃ u v, Pl u ∧ Pl v ∧ (∀ x, ev (Os.gcdFrom f p q) x = u x * ev p x + v x * ev q x) ∧ Dv (ev (Os.gcdFrom f p q)) (ev p) ∧ Dv (ev (Os.gcdFrom f p q)) (ev q) ∧ Os.trim (Os.gcdFrom f p q) ≠ [] := by
  intro f
  induction f with
  | zero => intro p q h; omega
  | succ f ih =>
    intro p q hf hn
    unfold Os.gcdFrom
    by_cases hq : (Os.trim q).isEmpty = true
    · rw [if_pos hq]
      have hq' := List.isEmpty_iff.1 hq
      have hp : Os.trim p ≠ [] := by
        rcases hn with h | h
        · exact h
        · exact absurd hq' h
      have hl := lead_ne p hp
      have e : ∀ x, ev ((Os.trim p).map fun (x : Rat) => x / Os.lead p) x = 1 / Os.lead p * ev p x := fun x => by
        have : ((Os.trim p).map fun (x : Rat) => x / Os.lead p) = (Os.trim p).map fun (x : Rat) => 1 / Os.lead p * x := by
          apply List.map_congr_left
          intro c _
          rw [Rat.div_def, Rat.div_def]; grind
        rw [this, ev_map, ev_trim]
      refine ⟨_, _, pl_const (1 / Os.lead p), pl_const 0, fun x => by rw [e]; grind, ⟨_, pl_const (Os.lead p), fun x => ?_⟩, ⟨_, pl_const 0, fun x => ?_⟩, ?_⟩
      · rw [e]
        have : Os.lead p * (1 / Os.lead p) = 1 := by rw [Rat.mul_comm]; exact Rat.div_mul_cancel hl
        grind
      · have : Zr q := by
          rcases trim_spec q with ⟨h, _⟩ | ⟨l, c, hc, h, _⟩
          · exact h
          · rw [hq'] at h; exact absurd h (by simp)
        rw [ev_zr this]
        grind
      · rcases trim_spec p with ⟨h, h'⟩ | ⟨l, c, hc, h, _⟩
        · exact absurd h' hp
        · rw [h, List.map_append]
          show Os.trim (_ ++ [c / Os.lead p]) ≠ []
          rw [trim_of_last]
          · simp
          · intro h0
            apply hc
            rw [← Rat.div_mul_cancel (a := c) hl, h0, Rat.zero_mul]
    · rw [if_neg hq]
      have hq' : Os.trim q ≠ [] := fun h => hq (by rw [h]; rfl)
      obtain ⟨d1, d2⟩ := divide hq' p
      obtain ⟨u, v, pu, pv, h1, ⟨a, pa, ha⟩, ⟨b, pb, hb⟩, h4⟩ := ih q (Os.rest p q) (by omega) (.inl hq')
      refine ⟨v, fun x => u x - v x * ev (Os.quot p q) x, pv, pl_sub pu (pl_mul pv (pl_ev _)), fun x => ?_, ⟨fun x => ev (Os.quot p q) x * a x + b x, pl_add (pl_mul (pl_ev _) pa) pb, fun x => ?_⟩, ⟨a, pa, ha⟩, h4⟩
      · have := d1 x
        rw [h1]
        grind
      · have := d1 x
        have := ha x
        have := hb x
        grind
end Desk

namespace Desk
/-! cuts of the rationals -/
structure Ct (L : Rat → Prop) : Prop where
  down : ∀ x y, x ≤ y → L y → L x
  low : ∃ a, L a
  high : ∃ b, ¬ L b
def Near (L : Rat → Prop) (Q : Rat → Prop) : Prop := ∃ a b, L a ∧ ¬ L b ∧ ∀ x, a ≤ x → x ≤ b → Q x
theorem ct_lt {L : Rat → Prop} (h : Ct L) {a b : Rat} (ha : L a) (hb : ¬ L b) : a < b := by
  rcases Rat.le_total (a := b) (b := a) with r | r
  · exact absurd (h.down b a r ha) hb
  · rcases Rat.le_iff_lt_or_eq.1 r with s | s
    · exact s
    · exact absurd (s ▸ ha) hb
theorem near_mono {L Q R : Rat → Prop} (h : ∀ x, Q x → R x) : Near L Q → Near L R
  | ⟨a, b, ha, hb, k⟩ => ⟨a, b, ha, hb, fun x h1 h2 => h x (k x h1 h2)⟩
theorem near_and {L Q R : Rat → Prop} (hL : Ct L) : Near L Q → Near L R → Near L fun x => Q x ∧ R x
  | ⟨a, b, ha, hb, k⟩, ⟨c, d, hc, hd, l⟩ => by
    refine ⟨if a ≤ c then c else a, if b ≤ d then b else d, ?_, ?_, fun x h1 h2 => ⟨k x ?_ ?_, l x ?_ ?_⟩⟩
    · split <;> assumption
    · split <;> assumption
    all_goals (split at h1 <;> split at h2 <;> grind)
theorem near_all {L Q : Rat → Prop} (hL : Ct L) (h : ∀ x, Q x) : Near L Q := by
  obtain ⟨a, ha⟩ := hL.low
  obtain ⟨b, hb⟩ := hL.high
  exact ⟨a, b, ha, hb, fun x _ _ => h x⟩
theorem nat_above (q : Rat) : ∃ n : Nat, q ≤ (n : Rat) := by
  refine ⟨q.ceil.toNat, ?_⟩
  have h1 := Rat.le_ceil (x := q)
  have h2 : (q.ceil : Rat) ≤ ((q.ceil.toNat : Int) : Rat) := Rat.intCast_le_intCast.2 (by omega)
  have h3 : ((q.ceil.toNat : Int) : Rat) = ((q.ceil.toNat : Nat) : Rat) := by rw [Rat.intCast_natCast]
  rw [h3] at h2
  exact Rat.le_trans h1 h2
theorem pow_above (q : Rat) : ∃ n : Nat, q ≤ (2 : Rat) ^ n := by
  obtain ⟨n, hn⟩ := nat_above q
  refine ⟨n, Rat.le_trans hn ?_⟩
  clear hn
  induction n with
  | zero => rw [Rat.pow_zero]; decide
  | succ n ih =>
    rw [Rat.pow_succ]
    have : ((n + 1 : Nat) : Rat) = (n : Rat) + 1 := by rw [Rat.natCast_add]; rfl
    rw [this]
    have h1 : (1 : Rat) ≤ 2 ^ n := by
      clear ih this
      induction n with
      | zero => rw [Rat.pow_zero]; decide
      | succ n ih => rw [Rat.pow_succ]; grind
    grind
/-- as short as you like -/
theorem ct_small {L : Rat → Prop} (hL : Ct L) {Q : Rat → Prop} (hQ : Near L Q) {d : Rat} (hd : 0 < d) : ∃ a b, L a ∧ ¬ L b ∧ b - a ≤ d ∧ ∀ x, a ≤ x → x ≤ b → Q x := by
  obtain ⟨a, b, ha, hb, h⟩ := hQ
  have half : ∀ n : Nat, ∃ a' b', L a' ∧ ¬ L b' ∧ (2 : Rat) ^ n * (b' - a') ≤ b - a ∧ ∀ x, a' ≤ x → x ≤ b' → Q x := by
    intro n
    induction n with
    | zero => exact ⟨a, b, ha, hb, by rw [Rat.pow_zero]; grind, h⟩
    | succ n ih =>
      obtain ⟨a', b', ha', hb', h1, h2⟩ := ih
      have lt := ct_lt hL ha' hb'
      have e1 : (2 : Rat) ^ (n + 1) * (b' - (a' + b') / 2) = 2 ^ n * (b' - a') := by rw [Rat.pow_succ]; grind
      have e2 : (2 : Rat) ^ (n + 1) * ((a' + b') / 2 - a') = 2 ^ n * (b' - a') := by rw [Rat.pow_succ]; grind
      by_cases hm : L ((a' + b') / 2)
      · exact ⟨(a' + b') / 2, b', hm, hb', by rw [e1]; exact h1, fun x x1 x2 => h2 x (by grind) x2⟩
      · exact ⟨a', (a' + b') / 2, ha', hm, by rw [e2]; exact h1, fun x x1 x2 => h2 x x1 (by grind)⟩
  obtain ⟨n, hn⟩ := pow_above ((b - a) / d)
  obtain ⟨a', b', ha', hb', h1, h2⟩ := half n
  refine ⟨a', b', ha', hb', ?_, h2⟩
  have h3 : b - a ≤ 2 ^ n * d := by
    have := Rat.mul_le_mul_of_nonneg_right hn (Rat.le_of_lt hd)
    rw [Rat.div_mul_cancel (by grind)] at this
    exact this
  have h4 : (2 : Rat) ^ n * (b' - a') ≤ 2 ^ n * d := Rat.le_trans h1 h3
  exact Rat.le_of_mul_le_mul_left h4 (Rat.pow_pos (by decide))
/-- from near each cut to everywhere -/
theorem everywhere (G : Rat → Rat → Prop) (refl : ∀ x, G x x) (trans : ∀ x y z, x ≤ y → y ≤ z → G x y → G y z → G x z)
    (loc : ∀ L, Ct L → ∃ a b, L a ∧ ¬ L b ∧ ∀ x y, a ≤ x → x ≤ y → y ≤ b → G x y) (u v : Rat) (huv : u ≤ v) : G u v := by
  apply Classical.byContradiction
  intro hG
  let L : Rat → Prop := fun q => q ≤ u ∨ ∃ q', q ≤ q' ∧ u ≤ q' ∧ q' ≤ v ∧ G u q'
  have hv : ¬ L v := by
    intro h
    rcases h with h | ⟨q', h1, h2, h3, h4⟩
    · exact hG ((by grind : u = v) ▸ refl u)
    · exact hG ((by grind : q' = v) ▸ h4)
  have hc : Ct L := ⟨fun x y hxy hy => by
    rcases hy with h | ⟨q', h1, h2⟩
    · exact .inl (Rat.le_trans hxy h)
    · exact .inr ⟨q', Rat.le_trans hxy h1, h2⟩, ⟨u, .inl Rat.le_refl⟩, ⟨v, hv⟩⟩
  obtain ⟨a, b, ha, hb, h⟩ := loc L hc
  -- some q' from a on with G u q'
  have : ∃ q', a ≤ q' ∧ u ≤ q' ∧ q' ≤ v ∧ G u q' := by
    rcases ha with h | ⟨q', h1, h2⟩
    · exact ⟨u, h, Rat.le_refl, huv, refl u⟩
    · exact ⟨q', h1, h2⟩
  obtain ⟨q', q1, q2, q3, q4⟩ := this
  have hq' : L q' := .inr ⟨q', Rat.le_refl, q2, q3, q4⟩
  have lt := ct_lt hc hq' hb
  by_cases hbv : b ≤ v
  · apply hb
    exact .inr ⟨b, Rat.le_refl, by grind, hbv, trans u q' b q2 (by grind) q4 (h q' b q1 (by grind) Rat.le_refl)⟩
  · exact hG (trans u q' v q2 q3 q4 (h q' v q1 q3 (by grind)))
/-! a polynomial near a cut -/
theorem lip (p : Pol) (M : Rat) (hM : 0 ≤ M) : ∃ K : Rat, 0 ≤ K ∧ ∀ x y, ab x ≤ M → ab y ≤ M → ab (ev p y - ev p x) ≤ K * ab (y - x) := by
  induction p with
  | nil => exact ⟨0, Rat.le_refl, fun x y _ _ => by rw [ev_nil, ev_nil, Rat.zero_mul]; unfold ab; split <;> grind⟩
  | cons c p ih =>
    obtain ⟨K, k, h⟩ := ih
    obtain ⟨B, b, g⟩ := ev_bound p M hM
    refine ⟨M * K + B, Rat.add_nonneg (Rat.mul_nonneg hM k) b, fun x y hx hy => ?_⟩
    have e : ev (c :: p) y - ev (c :: p) x = y * (ev p y - ev p x) + (y - x) * ev p x := by rw [ev_cons, ev_cons]; grind
    rw [e]
    have h1 := ab_add (y * (ev p y - ev p x)) ((y - x) * ev p x)
    have h2 : ab (y * (ev p y - ev p x)) ≤ M * (K * ab (y - x)) := by
      rw [ab_mul]
      exact mul_le_mul2 hy (h x y hx hy) (ab_nn _) (Rat.mul_nonneg k (ab_nn _))
    have h3 : ab ((y - x) * ev p x) ≤ ab (y - x) * B := by
      rw [ab_mul]
      exact mul_le_mul2 Rat.le_refl (g x hx) (ab_nn _) b
    have e2 : (M * K + B) * ab (y - x) = M * (K * ab (y - x)) + ab (y - x) * B := by grind
    rw [e2]
    grind
def Van (L : Rat → Prop) (f : Rat → Rat) : Prop := ∀ e : Rat, 0 < e → Near L fun x => ab (f x) ≤ e
def One (t : Rat) : Prop := t = 1 ∨ t = -1
def Sg (L : Rat → Prop) (t : Rat) (f : Rat → Rat) : Prop := ∃ e : Rat, 0 < e ∧ Near L fun x => e ≤ t * f x
theorem ab_of_le {a b x : Rat} (h1 : a ≤ x) (h2 : x ≤ b) : ab x ≤ ab a + ab b := by
  unfold ab
  split <;> split <;> split <;> grind
theorem near_bd {L : Rat → Prop} (hL : Ct L) : ∃ M : Rat, 0 ≤ M ∧ Near L fun x => ab x ≤ M := by
  obtain ⟨a, ha⟩ := hL.low
  obtain ⟨b, hb⟩ := hL.high
  exact ⟨ab a + ab b, Rat.add_nonneg (ab_nn a) (ab_nn b), a, b, ha, hb, fun x h1 h2 => ab_of_le h1 h2⟩
theorem near_bound {L : Rat → Prop} (hL : Ct L) {f : Rat → Rat} : Pl f → ∃ B : Rat, 0 ≤ B ∧ Near L fun x => ab (f x) ≤ B
  | ⟨p, hp⟩ => by
    obtain ⟨M, hM, n⟩ := near_bd hL
    obtain ⟨B, hB, h⟩ := ev_bound p M hM
    exact ⟨B, hB, near_mono (fun x hx => by rw [hp]; exact h x hx) n⟩
theorem trich {L : Rat → Prop} (hL : Ct L) {f : Rat → Rat} (hf : Pl f) : Van L f ∨ ∃ t, One t ∧ Sg L t f := by
  obtain ⟨p, hp⟩ := hf
  apply Classical.byContradiction
  intro hn
  have hv : ¬ Van L f := fun h => hn (.inl h)
  apply hn
  right
  have : ∃ e : Rat, 0 < e ∧ ¬ Near L fun x => ab (f x) ≤ e := by
    apply Classical.byContradiction
    intro h
    apply hv
    intro e he
    apply Classical.byContradiction
    intro hx
    exact h ⟨e, he, hx⟩
  obtain ⟨e, he, hne⟩ := this
  obtain ⟨M, hM, nM⟩ := near_bd hL
  obtain ⟨K, hK, hl⟩ := lip p M hM
  have hd : 0 < e / (2 * (K + 1)) := by
    rw [Rat.lt_div_iff (by grind)]
    grind
  obtain ⟨a, b, ha, hb, hab, hin⟩ := ct_small hL nM hd
  have : ∃ x, a ≤ x ∧ x ≤ b ∧ e < ab (f x) := by
    apply Classical.byContradiction
    intro h
    apply hne
    refine ⟨a, b, ha, hb, fun x h1 h2 => ?_⟩
    apply Classical.byContradiction
    intro hx
    exact h ⟨x, h1, h2, by grind⟩
  obtain ⟨x, x1, x2, hx⟩ := this
  have close : ∀ y, a ≤ y → y ≤ b → ab (f y - f x) ≤ e / 2 := by
    intro y y1 y2
    have h := hl x y (hin x x1 x2) (hin y y1 y2)
    rw [← hp, ← hp] at h
    have h1 : ab (y - x) ≤ e / (2 * (K + 1)) := by
      rw [ab_le]
      constructor <;> grind
    have h2 : K * ab (y - x) ≤ (K + 1) * (e / (2 * (K + 1))) := mul_le_mul2 (by grind) h1 hK (Rat.le_of_lt hd)
    have h3 : e / (2 * (K + 1)) * (2 * (K + 1)) = e := Rat.div_mul_cancel (by grind)
    grind
  by_cases hs : f x < 0
  · refine ⟨-1, .inr rfl, e / 2, by grind, a, b, ha, hb, fun y y1 y2 => ?_⟩
    have := (ab_le.1 (close y y1 y2)).2
    have : ab (f x) = -(f x) := by unfold ab; rw [if_pos hs]
    grind
  · refine ⟨1, .inl rfl, e / 2, by grind, a, b, ha, hb, fun y y1 y2 => ?_⟩
    have := (ab_le.1 (close y y1 y2)).1
    have : ab (f x) = f x := by unfold ab; rw [if_neg hs]
    grind
theorem near_ex {L Q : Rat → Prop} (hL : Ct L) : Near L Q → ∃ x, Q x
  | ⟨a, b, ha, hb, h⟩ => ⟨a, h a Rat.le_refl (Rat.le_of_lt (ct_lt hL ha hb))⟩
theorem sg_not_van {L : Rat → Prop} (hL : Ct L) {f : Rat → Rat} {t : Rat} (ht : One t) : Sg L t f → ¬ Van L f := by
  rintro ⟨e, he, h⟩ hv
  obtain ⟨x, h1, h2⟩ := near_ex hL (near_and hL h (hv (e / 2) (by grind)))
  have := ab_le.1 h2
  rcases ht with r | r <;> subst r <;> grind
theorem sg_uniq {L : Rat → Prop} (hL : Ct L) {f : Rat → Rat} {t u : Rat} (ht : One t) (hu : One u) : Sg L t f → Sg L u f → t = u := by
  rintro ⟨e, he, h⟩ ⟨d, hd, g⟩
  obtain ⟨x, h1, h2⟩ := near_ex hL (near_and hL h g)
  rcases ht with r | r <;> rcases hu with s | s <;> subst r <;> subst s <;> grind
theorem sg_mul {L : Rat → Prop} (hL : Ct L) {f g : Rat → Rat} {t u : Rat} : Sg L t f → Sg L u g → Sg L (t * u) fun x => f x * g x := by
  rintro ⟨e, he, h⟩ ⟨d, hd, g'⟩
  refine ⟨e * d, Rat.mul_pos he hd, near_mono (fun x hx => ?_) (near_and hL h g')⟩
  have := mul_le_mul2 hx.1 hx.2 (Rat.le_of_lt he) (by grind)
  have e : t * u * (f x * g x) = t * f x * (u * g x) := by grind
  rw [e]
  exact this
theorem one_mul {t u : Rat} (ht : One t) (hu : One u) : One (t * u) := by
  rcases ht with r | r <;> rcases hu with s | s <;> subst r <;> subst s
  · exact .inl (by grind)
  · exact .inr (by grind)
  · exact .inr (by grind)
  · exact .inl (by grind)
theorem van_add {L : Rat → Prop} (hL : Ct L) {f g : Rat → Rat} (hf : Van L f) (hg : Van L g) : Van L fun x => f x + g x := by
  intro e he
  refine near_mono (fun x hx => ?_) (near_and hL (hf (e / 2) (by grind)) (hg (e / 2) (by grind)))
  have := ab_add (f x) (g x)
  have := hx.1
  have := hx.2
  grind
theorem van_mul {L : Rat → Prop} (hL : Ct L) {f g : Rat → Rat} (hf : Pl f) (hg : Van L g) : Van L fun x => f x * g x := by
  intro e he
  obtain ⟨B, hB, n⟩ := near_bound hL hf
  have hd : 0 < e / (B + 1) := by
    rw [Rat.lt_div_iff (by grind)]
    grind
  refine near_mono (fun x hx => ?_) (near_and hL n (hg _ hd))
  rw [ab_mul]
  have := mul_le_mul2 hx.1 hx.2 (ab_nn _) (Rat.le_of_lt hd)
  have h3 : e / (B + 1) * (B + 1) = e := Rat.div_mul_cancel (by grind)
  grind
theorem van_of {L : Rat → Prop} {f g : Rat → Rat} (hf : Van L f) (h : ∀ x, g x = f x) : Van L g := fun e he => near_mono (fun x hx => by rw [h]; exact hx) (hf e he)
theorem van_neg {L : Rat → Prop} {f : Rat → Rat} (hf : Van L f) : Van L fun x => -(f x) := fun e he => near_mono (fun x hx => by rw [ab_neg]; exact hx) (hf e he)
theorem van_sub {L : Rat → Prop} (hL : Ct L) {f g : Rat → Rat} (hf : Van L f) (hg : Van L g) : Van L fun x => f x - g x := van_of (van_add hL hf (van_neg hg)) fun x => by grind
theorem sg_of {L : Rat → Prop} {f g : Rat → Rat} {t : Rat} (hf : Sg L t f) (h : ∀ x, g x = f x) : Sg L t g := by
  obtain ⟨e, he, n⟩ := hf
  exact ⟨e, he, near_mono (fun x hx => by rw [h]; exact hx) n⟩
/-- one that stays off 0 and one that goes to 0 -/
theorem sg_add_van {L : Rat → Prop} (hL : Ct L) {f g : Rat → Rat} {t : Rat} (ht : One t) (hf : Sg L t f) (hg : Van L g) : Sg L t fun x => f x + g x := by
  obtain ⟨e, he, n⟩ := hf
  refine ⟨e / 2, by grind, near_mono (fun x hx => ?_) (near_and hL n (hg (e / 2) (by grind)))⟩
  have h1 := hx.1
  have h2 := ab_le.1 hx.2
  rcases ht with r | r <;> subst r <;> grind
/-- the cut at a point -/
theorem ct_at (r : Rat) : Ct fun q => q ≤ r := ⟨fun x y h k => Rat.le_trans h k, ⟨r, Rat.le_refl⟩, ⟨r + 1, by grind⟩⟩
theorem ct_under (r : Rat) : Ct fun q => q < r := ⟨fun x y h k => by grind, ⟨r - 1, by grind⟩, ⟨r, by grind⟩⟩
theorem near_at {r : Rat} {Q : Rat → Prop} : Near (fun q => q ≤ r) Q → Q r ∧ ∃ b, r < b ∧ ∀ x, r ≤ x → x ≤ b → Q x
  | ⟨a, b, ha, hb, h⟩ => ⟨h r ha (by grind), b, by grind, fun x h1 h2 => h x (by grind) h2⟩
theorem near_under {r : Rat} {Q : Rat → Prop} : Near (fun q => q < r) Q → Q r ∧ ∃ a, a < r ∧ ∀ x, a ≤ x → x ≤ r → Q x
  | ⟨a, b, ha, hb, h⟩ => ⟨h r (by grind) (by grind), a, ha, fun x h1 h2 => h x h1 (by grind)⟩
theorem van_at {r : Rat} {f : Rat → Rat} (hf : Pl f) : Van (fun q => q ≤ r) f ↔ f r = 0 := by
  constructor
  · intro h
    apply Classical.byContradiction
    intro hne
    have hp : 0 < ab (f r) := by unfold ab; split <;> grind
    have := (near_at (h (ab (f r) / 2) (by grind))).1
    grind
  · intro h
    rcases trich (ct_at r) hf with g | ⟨t, ht, e, he, n⟩
    · exact g
    · have := (near_at n).1
      rw [h, Rat.mul_zero] at this
      grind
theorem van_under {r : Rat} {f : Rat → Rat} (hf : Pl f) : Van (fun q => q < r) f ↔ f r = 0 := by
  constructor
  · intro h
    apply Classical.byContradiction
    intro hne
    have hp : 0 < ab (f r) := by unfold ab; split <;> grind
    have := (near_under (h (ab (f r) / 2) (by grind))).1
    grind
  · intro h
    rcases trich (ct_under r) hf with g | ⟨t, ht, e, he, n⟩
    · exact g
    · have := (near_under n).1
      rw [h, Rat.mul_zero] at this
      grind
end Desk

namespace Desk
/-! a zero at a cut -/
structure Germ (L : Rat → Prop) (π ρ : Rat → Rat) : Prop where
  pl : Pl π
  plr : Pl ρ
  der : Der π ρ
  van : Van L π
  up : Sg L 1 ρ
  fac : ∀ f, Pl f → Nz f → ∃ (k : Nat) (w : Rat → Rat), Pl w ∧ (∀ x, f x = π x ^ k * w x) ∧ ∃ t, One t ∧ Sg L t w
theorem nz_trim {p : Pol} : Nz (ev p) → Os.trim p ≠ [] := by
  rintro ⟨x, hx⟩ h
  rcases trim_spec p with ⟨hz, _⟩ | ⟨l, c, hc, e, _⟩
  · exact hx (ev_zr hz x)
  · rw [e] at h; exact absurd h (by simp)
theorem least_nat (P : Nat → Prop) (n : Nat) (h : P n) : ∃ m, P m ∧ ∀ k, k < m → ¬ P k := by
  induction n using Nat.strongRecOn with
  | _ n ih =>
    by_cases h' : ∃ k, k < n ∧ P k
    · obtain ⟨k, hk, pk⟩ := h'
      exact ih k hk pk
    · exact ⟨n, h, fun k hk pk => h' ⟨k, hk, pk⟩⟩
/-- far up and far down a polynomial has a sign -/
theorem far_up (l : Pol) (c : Rat) (hc : c ≠ 0) : ∃ M e : Rat, 0 < M ∧ 0 < e ∧ ∀ x, M ≤ x → e ≤ (if c < 0 then -1 else 1) * ev (l ++ [c]) x := by
  induction l with
  | nil =>
    refine ⟨1, ab c, by decide, by unfold ab; split <;> grind, fun x _ => ?_⟩
    rw [List.nil_append, ev_cons, ev_nil]
    unfold ab
    split <;> grind
  | cons a l ih =>
    obtain ⟨M, e, hM, he, h⟩ := ih
    refine ⟨M + (ab a + e) / e, e, ?_, he, fun x hx => ?_⟩
    · have : 0 ≤ (ab a + e) / e := Rat.le_of_lt (by rw [Rat.lt_div_iff he]; have := ab_nn a; grind)
      grind
    · have hq : 0 ≤ (ab a + e) / e := Rat.le_of_lt (by rw [Rat.lt_div_iff he]; have := ab_nn a; grind)
      have h1 := h x (by grind)
      rw [List.cons_append, ev_cons]
      generalize ht : (if c < 0 then (-1 : Rat) else 1) = t at h1 ⊢
      have ht' : t = 1 ∨ t = -1 := by rw [← ht]; split <;> simp
      have h2 : (ab a + e) / e * e ≤ x * (t * ev (l ++ [c]) x) := mul_le_mul2 (by grind) h1 hq (by grind)
      rw [Rat.div_mul_cancel (by grind)] at h2
      have h3 : t * a ≥ -ab a := by
        rcases ht' with r | r <;> subst r <;> unfold ab <;> split <;> grind
      grind
theorem far_down (l : Pol) (c : Rat) (hc : c ≠ 0) : ∃ M e : Rat, 0 < M ∧ 0 < e ∧ ∀ x, x ≤ -M → e ≤ (if c < 0 then -1 else 1) * ((if l.length % 2 = 0 then 1 else -1) * ev (l ++ [c]) x) := by
  induction l with
  | nil =>
    refine ⟨1, ab c, by decide, by unfold ab; split <;> grind, fun x _ => ?_⟩
    rw [List.nil_append, ev_cons, ev_nil, if_pos (show ([] : Pol).length % 2 = 0 from rfl)]
    unfold ab
    split <;> grind
  | cons a l ih =>
    obtain ⟨M, e, hM, he, h⟩ := ih
    refine ⟨M + (ab a + e) / e, e, ?_, he, fun x hx => ?_⟩
    · have : 0 ≤ (ab a + e) / e := Rat.le_of_lt (by rw [Rat.lt_div_iff he]; have := ab_nn a; grind)
      grind
    · have hq : 0 ≤ (ab a + e) / e := Rat.le_of_lt (by rw [Rat.lt_div_iff he]; have := ab_nn a; grind)
      have h1 := h x (by grind)
      rw [List.cons_append, ev_cons]
      have e3 : (if (a :: l).length % 2 = 0 then (1 : Rat) else -1) = -(if l.length % 2 = 0 then 1 else -1) := by
        rw [List.length_cons]
        by_cases hl : l.length % 2 = 0
        · rw [if_pos hl, if_neg (by omega)]
        · rw [if_neg hl, if_pos (by omega)]; grind
      rw [e3]
      generalize ht : (if c < 0 then (-1 : Rat) else 1) = t at h1 ⊢
      have ht' : t = 1 ∨ t = -1 := by rw [← ht]; split <;> simp
      generalize hs : (if l.length % 2 = 0 then (1 : Rat) else -1) = s at h1 ⊢
      have hs' : s = 1 ∨ s = -1 := by rw [← hs]; split <;> simp
      have h2 : (ab a + e) / e * e ≤ -x * (t * (s * ev (l ++ [c]) x)) := mul_le_mul2 (by grind) h1 hq (by grind)
      rw [Rat.div_mul_cancel (by grind)] at h2
      have h3 : t * (s * a) ≤ ab a := by
        rcases ht' with r | r <;> rcases hs' with q | q <;> subst r <;> subst q <;> unfold ab <;> split <;> grind
      grind
theorem zr_of_zero {p : Pol} (h : ∀ x, ev p x = 0) : Os.trim p = [] := by
  rcases trim_spec p with ⟨_, e⟩ | ⟨l, c, hc, e, z, hz, _⟩
  · exact e
  · obtain ⟨M, d, hM, hd, g⟩ := far_up l c hc
    have := g M Rat.le_refl
    rw [← e, ev_trim, h, Rat.mul_zero] at this
    grind
theorem trim_nz {p : Pol} (h : Os.trim p ≠ []) : Nz (ev p) := by
  apply Classical.byContradiction
  intro hn
  exact h (zr_of_zero fun x => Classical.byContradiction fun hx => hn ⟨x, hx⟩)
theorem nz_mul {f g : Rat → Rat} (hf : Pl f) (hg : Pl g) : Nz f → Nz g → Nz fun x => f x * g x := by
  obtain ⟨p, hp⟩ := hf
  obtain ⟨q, hq⟩ := hg
  rintro nf ng
  have np : Os.trim p ≠ [] := nz_trim (by obtain ⟨x, hx⟩ := nf; exact ⟨x, by rw [← hp]; exact hx⟩)
  have nq : Os.trim q ≠ [] := nz_trim (by obtain ⟨x, hx⟩ := ng; exact ⟨x, by rw [← hq]; exact hx⟩)
  rcases trim_spec p with ⟨_, e⟩ | ⟨l, c, hc, e, _⟩
  · exact absurd e np
  rcases trim_spec q with ⟨_, e'⟩ | ⟨l', c', hc', e', _⟩
  · exact absurd e' nq
  obtain ⟨M, d, hM, hd, g⟩ := far_up l c hc
  obtain ⟨M', d', hM', hd', g'⟩ := far_up l' c' hc'
  refine ⟨M + M', ?_⟩
  have h1 := g (M + M') (by grind)
  have h2 := g' (M + M') (by grind)
  rw [← e, ev_trim, ← hp] at h1
  rw [← e', ev_trim, ← hq] at h2
  intro h0
  rcases Rat.mul_eq_zero.1 h0 with r | r
  · rw [r, Rat.mul_zero] at h1; grind
  · rw [r, Rat.mul_zero] at h2; grind
theorem slope_trim (l : Pol) (c : Rat) (hc : c ≠ 0) (hl : l ≠ []) : Os.trim (Os.slope (l ++ [c])) = Os.slope (l ++ [c]) ∧ (Os.slope (l ++ [c])).length = l.length := by
  have hn : 0 < l.length := List.length_pos_iff.2 hl
  constructor
  · obtain ⟨n, hn'⟩ : ∃ n, l.length = n + 1 := ⟨l.length - 1, by omega⟩
    unfold Os.slope
    rw [List.length_append, List.length_singleton, Nat.add_sub_cancel, hn', List.range_succ, List.map_append]
    show Os.trim (_ ++ [((n + 1 : Nat) : Rat) * (l ++ [c]).getD (n + 1) 0]) = _
    rw [trim_of_last]
    · rfl
    · have : (l ++ [c]).getD (n + 1) 0 = c := by
        rw [List.getD_eq_getElem?_getD, ← hn', List.getElem?_append_right (Nat.le_refl _)]
        simp
      rw [this]
      intro h0
      rcases Rat.mul_eq_zero.1 h0 with r | r
      · have : (0 : Rat) < ((n + 1 : Nat) : Rat) := by
          have := Rat.natCast_lt_natCast.2 (show 0 < n + 1 by omega)
          exact this
        grind
      · exact hc r
  · unfold Os.slope
    rw [List.length_map, List.length_range, List.length_append, List.length_singleton, Nat.add_sub_cancel]
theorem sg_neg_of {L : Rat → Prop} {f : Rat → Rat} (h : Sg L (-1) f) : Sg L 1 fun x => -(f x) := by
  obtain ⟨e, he, n⟩ := h
  exact ⟨e, he, near_mono (fun x hx => by grind) n⟩
theorem germ {L : Rat → Prop} (hL : Ct L) : (∀ f, Pl f → Nz f → ¬ Van L f) ∨ ∃ π ρ, Germ L π ρ := by
  by_cases hex : ∃ f, Pl f ∧ Nz f ∧ Van L f
  case neg =>
    left
    intro f h1 h2 h3
    exact hex ⟨f, h1, h2, h3⟩
  right
  obtain ⟨f, ⟨p, hp⟩, hn, hv⟩ := hex
  have hpn : Os.trim p ≠ [] := nz_trim (by obtain ⟨x, hx⟩ := hn; exact ⟨x, by rw [← hp]; exact hx⟩)
  have hpv : Van L (ev p) := van_of hv fun x => (hp x).symm
  clear hp hn hv f
  obtain ⟨m, ⟨q, hq1, hq2, hq3⟩, hmin⟩ := least_nat (fun n => ∃ q : Pol, (Os.trim q).length = n ∧ Os.trim q ≠ [] ∧ Van L (ev q)) _ ⟨p, rfl, hpn, hpv⟩
  clear hpn hpv p
  have short : ∀ r : Pol, (Os.trim r).length < m → Van L (ev r) → Os.trim r = [] := fun r h1 h2 => Classical.byContradiction fun h3 => hmin _ h1 ⟨r, rfl, h3, h2⟩
  rcases trim_spec q with ⟨_, e⟩ | ⟨l, c, hc, e, _⟩
  · exact absurd e hq2
  have hvt : Van L (ev (l ++ [c])) := van_of hq3 fun x => by rw [← e, ev_trim]
  have hl : l ≠ [] := by
    intro h0
    subst h0
    have : Van L fun _ => c := van_of hvt fun x => by rw [List.nil_append, ev_cons, ev_nil]; grind
    obtain ⟨x, hx⟩ := near_ex hL (this (ab c / 2) (by unfold ab; split <;> grind))
    have : 0 < ab c := by unfold ab; split <;> grind
    grind
  obtain ⟨s1, s2⟩ := slope_trim l c hc hl
  have hm : m = l.length + 1 := by rw [← hq1, e, List.length_append, List.length_singleton]
  have snv : ¬ Van L (ev (Os.slope (l ++ [c]))) := fun h => by
    have := short _ (by rw [s1, s2, hm]; exact Nat.lt_succ_self _) h
    rw [s1] at this
    have := congrArg List.length this
    rw [s2] at this
    exact hl (List.eq_nil_of_length_eq_zero this)
  rcases trich hL (pl_ev (Os.slope (l ++ [c]))) with h | ⟨t, ht, hs⟩
  · exact absurd h snv
  -- factoring by q
  have facq : ∀ (n : Nat) (r : Pol), (Os.trim r).length ≤ n → Os.trim r ≠ [] → ∃ (k : Nat) (w : Rat → Rat), Pl w ∧ (∀ x, ev r x = ev (l ++ [c]) x ^ k * w x) ∧ ∃ t, One t ∧ Sg L t w := by
    intro n
    induction n with
    | zero => intro r h1 h2; exact absurd (List.eq_nil_of_length_eq_zero (by omega)) h2
    | succ n ih =>
      intro r h1 h2
      rcases trich hL (pl_ev r) with h | ⟨u, hu, hsu⟩
      · have hqt : Os.trim (l ++ [c]) = l ++ [c] := trim_of_last l c hc
        have hqn : Os.trim (l ++ [c]) ≠ [] := by rw [hqt]; simp
        obtain ⟨d1, d2, d3, d4⟩ := divideF hqn (r.length + 1) r (by have := trim_le r; omega)
        generalize hQ : Os.quotFrom (r.length + 1) r (l ++ [c]) = Q at d1 d3 d4
        generalize hR : Os.restFrom (r.length + 1) r (l ++ [c]) = R at d1 d2
        have vR : Van L (ev R) := van_of (van_sub hL h (van_mul hL (pl_ev Q) hvt)) fun x => by
          have := d1 x
          grind
        have zR : Os.trim R = [] := short R (by rw [hqt, List.length_append, List.length_singleton] at d2; omega) vR
        have zR' : ∀ x, ev R x = 0 := fun x => by rw [← ev_trim, zR]; rfl
        have hQl : (Os.trim Q).length ≤ n := by
          by_cases c' : (Os.trim (l ++ [c])).length ≤ (Os.trim r).length
          · have := d3 c'
            have := trim_le Q
            have : 0 < l.length := List.length_pos_iff.2 hl
            rw [hqt, List.length_append, List.length_singleton] at *
            omega
          · rw [d4 (by omega)]
            exact Nat.zero_le _
        have hQn : Os.trim Q ≠ [] := by
          intro h0
          apply h2
          apply zr_of_zero
          intro x
          rw [d1, zR', ← ev_trim Q, h0, ev_nil]
          grind
        obtain ⟨k, w, pw, hw, hsw⟩ := ih Q hQl hQn
        refine ⟨k + 1, w, pw, fun x => ?_, hsw⟩
        rw [d1, zR', hw, Rat.pow_succ]
        grind
      · exact ⟨0, ev r, pl_ev r, (fun x => by rw [Rat.pow_zero]; grind), u, hu, hsu⟩
  have facf : ∀ f, Pl f → Nz f → ∃ (k : Nat) (w : Rat → Rat), Pl w ∧ (∀ x, f x = ev (l ++ [c]) x ^ k * w x) ∧ ∃ t, One t ∧ Sg L t w := by
    rintro f ⟨r, hr⟩ hn
    have hrn : Os.trim r ≠ [] := nz_trim (by obtain ⟨x, hx⟩ := hn; exact ⟨x, by rw [← hr]; exact hx⟩)
    obtain ⟨k, w, h1, h2, h3⟩ := facq _ r (Nat.le_refl _) hrn
    exact ⟨k, w, h1, fun x => by rw [hr, h2], h3⟩
  rcases ht with r | r
  · subst r
    exact ⟨ev (l ++ [c]), ev (Os.slope (l ++ [c])), pl_ev _, pl_ev _, der_slope _, hvt, hs, facf⟩
  · subst r
    refine ⟨fun x => -(ev (l ++ [c]) x), fun x => -(ev (Os.slope (l ++ [c])) x), pl_neg (pl_ev _), pl_neg (pl_ev _), ?_, van_neg hvt, sg_neg_of hs, ?_⟩
    · intro M hM
      obtain ⟨K, hK, h⟩ := der_slope (l ++ [c]) M hM
      refine ⟨K, hK, fun x y hx hy => ?_⟩
      have := h x y hx hy
      rw [← ab_neg] at this
      have e : -(ev (l ++ [c]) y) - -(ev (l ++ [c]) x) - (y - x) * -(ev (Os.slope (l ++ [c])) x) = -(ev (l ++ [c]) y - ev (l ++ [c]) x - (y - x) * ev (Os.slope (l ++ [c])) x) := by grind
      show ab (-(ev (l ++ [c]) y) - -(ev (l ++ [c]) x) - (y - x) * -(ev (Os.slope (l ++ [c])) x)) ≤ _
      rw [e]
      exact this
    · intro f hf hn
      obtain ⟨k, w, h1, h2, t, ht, hst⟩ := facf f hf hn
      have sgn : ∀ k : Nat, (fun x : Rat => (-1 : Rat) ^ k * (-x) ^ k) = fun x => x ^ k := by
        intro k
        funext x
        induction k with
        | zero => rw [Rat.pow_zero, Rat.pow_zero, Rat.pow_zero]; grind
        | succ k ih => rw [Rat.pow_succ, Rat.pow_succ, Rat.pow_succ]; grind
      have one : ∀ k : Nat, One ((-1 : Rat) ^ k) := by
        intro k
        induction k with
        | zero => rw [Rat.pow_zero]; exact .inl rfl
        | succ k ih => rw [Rat.pow_succ]; exact one_mul ih (.inr rfl)
      refine ⟨k, fun x => (-1) ^ k * w x, pl_smul _ h1, fun x => ?_, (-1) ^ k * t, one_mul (one k) ht, ?_⟩
      · have := congrFun (sgn k) (ev (l ++ [c]) x)
        have h2' := h2 x
        show f x = (-ev (l ++ [c]) x) ^ k * ((-1) ^ k * w x)
        rw [h2', ← this]
        grind
      · obtain ⟨e, he, n⟩ := hst
        refine ⟨e, he, near_mono (fun x hx => ?_) n⟩
        have o : (-1 : Rat) ^ k * (-1) ^ k = 1 := by
          rcases one k with r | r <;> rw [r] <;> grind
        have : (-1) ^ k * t * ((-1) ^ k * w x) = ((-1) ^ k * (-1) ^ k) * (t * w x) := by grind
        rw [this, o]
        grind
end Desk

namespace Desk
/-- rising near the cut -/
theorem germ_inc {L : Rat → Prop} (hL : Ct L) {π ρ : Rat → Rat} (g : Germ L π ρ) : ∃ a b, L a ∧ ¬ L b ∧ ∀ x y, a ≤ x → x < y → y ≤ b → π x < π y := by
  obtain ⟨e, he, n⟩ := g.up
  obtain ⟨M, hM, nM⟩ := near_bd hL
  obtain ⟨K, hK, hd⟩ := g.der M hM
  have hw : 0 < e / (K + 1) := by rw [Rat.lt_div_iff (by grind)]; grind
  obtain ⟨a, b, ha, hb, hab, h⟩ := ct_small hL (near_and hL n nM) (d := e / (K + 1) / 2) (by grind)
  refine ⟨a, b, ha, hb, fun x y h1 h2 h3 => ?_⟩
  obtain ⟨p1, p2⟩ := h x h1 (by grind)
  obtain ⟨q1, q2⟩ := h y (by grind) h3
  have k := (ab_le.1 (hd x y p2 q2)).1
  have hyx : 0 < y - x := by grind
  have hle : y - x ≤ e / (K + 1) / 2 := by grind
  have h4 : (K + 1) * (y - x) ≤ e / 2 := by
    have := Rat.mul_le_mul_of_nonneg_left hle (show 0 ≤ K + 1 by grind)
    have h5 : e / (K + 1) * (K + 1) = e := Rat.div_mul_cancel (by grind)
    grind
  have h6 : K * ((y - x) * (y - x)) ≤ (y - x) * (e / 2) := by
    have := Rat.mul_le_mul_of_nonneg_left h4 (Rat.le_of_lt hyx)
    have : 0 ≤ (y - x) * (y - x) := sq_nn _
    grind
  have h7 : (y - x) * e ≤ (y - x) * ρ x := Rat.mul_le_mul_of_nonneg_left (by grind) (Rat.le_of_lt hyx)
  have h8 : 0 < (y - x) * e := Rat.mul_pos hyx he
  grind
def sg (x : Rat) : Rat := if x < 0 then -1 else if x = 0 then 0 else 1
theorem sg_mulr (x y : Rat) : sg (x * y) = sg x * sg y := by
  have pp : ∀ a b : Rat, 0 < a → 0 < b → 0 < a * b := fun a b h1 h2 => Rat.mul_pos h1 h2
  unfold sg
  by_cases hx : x < 0
  · by_cases hy : y < 0
    · have := pp (-x) (-y) (by grind) (by grind)
      grind
    · by_cases hy0 : y = 0
      · subst hy0; grind
      · have := pp (-x) y (by grind) (by grind)
        grind
  · by_cases hx0 : x = 0
    · subst hx0; grind
    · by_cases hy : y < 0
      · have := pp x (-y) (by grind) (by grind)
        grind
      · by_cases hy0 : y = 0
        · subst hy0; grind
        · have := pp x y (by grind) (by grind)
          grind
theorem sg_powr (x : Rat) (k : Nat) : sg (x ^ k) = sg x ^ k := by
  induction k with
  | zero => rw [Rat.pow_zero, Rat.pow_zero]; rfl
  | succ k ih => rw [Rat.pow_succ, Rat.pow_succ, sg_mulr, ih]
theorem sg_near {L : Rat → Prop} {f : Rat → Rat} {t : Rat} (ht : One t) (h : Sg L t f) : Near L fun x => sg (f x) = t := by
  obtain ⟨e, he, n⟩ := h
  refine near_mono (fun x hx => ?_) n
  unfold sg
  rcases ht with r | r <;> subst r <;> split <;> (try split) <;> grind
def Gm (L : Rat → Prop) (π : Rat → Rat) (f : Rat → Rat) (k : Nat) (t : Rat) : Prop := ∃ w : Rat → Rat, Pl w ∧ (∀ x, f x = π x ^ k * w x) ∧ One t ∧ Sg L t w
section
variable {L : Rat → Prop} (hL : Ct L) {π ρ : Rat → Rat} (g : Germ L π ρ)
include hL g
theorem gm_ex {f : Rat → Rat} (hf : Pl f) (hn : Nz f) : ∃ k t, Gm L π f k t := by
  obtain ⟨k, w, h1, h2, t, h3, h4⟩ := g.fac f hf hn
  exact ⟨k, t, w, h1, h2, h3, h4⟩
theorem gm_mul {f h : Rat → Rat} {j k : Nat} {t u : Rat} : Gm L π f j t → Gm L π h k u → Gm L π (fun x => f x * h x) (j + k) (t * u) := by
  rintro ⟨w, a1, a2, a3, a4⟩ ⟨v, b1, b2, b3, b4⟩
  exact ⟨_, pl_mul a1 b1, fun x => by show f x * h x = _; rw [pow_add', a2, b2]; grind, one_mul a3 b3, sg_mul hL a4 b4⟩
theorem gm_of {f h : Rat → Rat} {j : Nat} {t : Rat} (e : ∀ x, h x = f x) : Gm L π f j t → Gm L π h j t := by
  rintro ⟨w, a1, a2, a3, a4⟩
  exact ⟨w, a1, fun x => by rw [e, a2], a3, a4⟩
theorem gm_scale {f : Rat → Rat} {j : Nat} {t c : Rat} (hc : 0 < c) : Gm L π f j t → Gm L π (fun x => c * f x) j t := by
  rintro ⟨w, a1, a2, a3, e, he, n⟩
  refine ⟨fun x => c * w x, pl_smul c a1, fun x => by show c * f x = _; rw [a2]; grind, a3, c * e, Rat.mul_pos hc he, near_mono (fun x hx => ?_) n⟩
  have := Rat.mul_le_mul_of_nonneg_left hx (Rat.le_of_lt hc)
  grind
/-- not 0 somewhere near -/
theorem germ_ne {Q : Rat → Prop} (n : Near L Q) : ∃ x, Q x ∧ π x ≠ 0 := by
  obtain ⟨a, b, ha, hb, h⟩ := germ_inc hL g
  obtain ⟨a', b', ha', hb', h'⟩ := near_and hL n ⟨a, b, ha, hb, fun x h1 h2 => And.intro h1 h2⟩
  have lt := ct_lt hL ha' hb'
  have h1 := h' a' Rat.le_refl (Rat.le_of_lt lt)
  have h2 := h' b' (Rat.le_of_lt lt) Rat.le_refl
  have := h a' b' h1.2.1 lt h2.2.2
  by_cases h0 : π a' = 0
  · exact ⟨b', h2.1, by grind⟩
  · exact ⟨a', h1.1, h0⟩
theorem gm_le {f : Rat → Rat} {j k : Nat} {t u : Rat} (h1 : Gm L π f j t) (h2 : Gm L π f k u) : k ≤ j := by
  obtain ⟨w, a1, a2, a3, a4⟩ := h1
  obtain ⟨v, b1, b2, b3, b4⟩ := h2
  apply Nat.le_of_not_lt
  intro hlt
  obtain ⟨d, hd⟩ : ∃ d, k = j + (d + 1) := ⟨k - j - 1, by omega⟩
  subst hd
  obtain ⟨e, he, n⟩ := a4
  have vv : Van L fun x => (π x ^ d * v x) * π x := van_mul hL (pl_mul (pl_pow g.pl d) b1) g.van
  obtain ⟨x, ⟨x1, x2⟩, x3⟩ := germ_ne hL g (near_and hL n (vv (e / 2) (by grind)))
  have eq : π x ^ j * w x = π x ^ (j + (d + 1)) * v x := by rw [← a2, ← b2]
  rw [pow_add', Rat.pow_succ] at eq
  have hj : π x ^ j ≠ 0 := fun h0 => by
    clear eq vv a2 b2 x1 x2
    induction j with
    | zero => rw [Rat.pow_zero] at h0; exact absurd h0 (by decide)
    | succ j ih =>
      rw [Rat.pow_succ] at h0
      rcases Rat.mul_eq_zero.1 h0 with r | r
      · exact ih (by omega) r
      · exact x3 r
  have ew : w x = (π x ^ d * v x) * π x := by
    have : π x ^ j * (w x - (π x ^ d * v x) * π x) = 0 := by grind
    rcases Rat.mul_eq_zero.1 this with r | r
    · exact absurd r hj
    · grind
  have x2 : ab ((π x ^ d * v x) * π x) ≤ e / 2 := x2
  rw [← ew] at x2
  have := ab_le.1 x2
  rcases a3 with r | r <;> subst r <;> grind
theorem gm_uniq {f : Rat → Rat} {j k : Nat} {t u : Rat} (h1 : Gm L π f j t) (h2 : Gm L π f k u) : j = k ∧ t = u := by
  have e : j = k := Nat.le_antisymm (gm_le hL g h2 h1) (gm_le hL g h1 h2)
  subst e
  refine ⟨rfl, ?_⟩
  obtain ⟨w, a1, a2, a3, a4⟩ := h1
  obtain ⟨v, b1, b2, b3, b4⟩ := h2
  obtain ⟨x, ⟨x1, x2⟩, x3⟩ := germ_ne hL g (near_and hL (sg_near a3 a4) (sg_near b3 b4))
  have eq : π x ^ j * w x = π x ^ j * v x := by rw [← a2, ← b2]
  have hj : π x ^ j ≠ 0 := fun h0 => by
    clear eq a2 b2
    induction j with
    | zero => rw [Rat.pow_zero] at h0; exact absurd h0 (by decide)
    | succ j ih =>
      rw [Rat.pow_succ] at h0
      rcases Rat.mul_eq_zero.1 h0 with r | r
      · exact ih r
      · exact x3 r
  have : π x ^ j * (w x - v x) = 0 := by grind
  rcases Rat.mul_eq_zero.1 this with r | r
  · exact absurd r hj
  · rw [← x1, ← x2, show w x = v x by grind]
theorem gm_van {f : Rat → Rat} {k : Nat} {t : Rat} (h : Gm L π f k t) : Van L f ↔ k ≠ 0 := by
  obtain ⟨w, a1, a2, a3, a4⟩ := h
  constructor
  · intro hv h0
    subst h0
    exact sg_not_van hL a3 a4 (van_of hv fun x => by rw [a2, Rat.pow_zero]; grind)
  · intro hk
    obtain ⟨d, rfl⟩ : ∃ d, k = d + 1 := ⟨k - 1, by omega⟩
    exact van_of (van_mul hL (pl_mul (pl_pow g.pl d) a1) g.van) fun x => by rw [a2, Rat.pow_succ]; grind
theorem gm_sg {f : Rat → Rat} {k : Nat} {t : Rat} (h : Gm L π f k t) : Near L fun x => sg (f x) = sg (π x) ^ k * t := by
  obtain ⟨w, a1, a2, a3, a4⟩ := h
  refine near_mono (fun x hx => ?_) (sg_near a3 a4)
  rw [a2, sg_mulr, sg_powr, hx]
theorem gm_zero {f : Rat → Rat} {t : Rat} (h : Gm L π f 0 t) : Sg L t f := by
  obtain ⟨w, a1, a2, a3, a4⟩ := h
  exact sg_of a4 fun x => by rw [a2, Rat.pow_zero]; grind
/-- the slope has one fewer, on the same side -/
theorem gm_der {f f' : Rat → Rat} {k : Nat} {t : Rat} (hd : Der f f') (h : Gm L π f (k + 1) t) : Gm L π f' k t := by
  obtain ⟨w, ⟨p, hp⟩, a2, a3, a4⟩ := h
  obtain ⟨pp, hpp⟩ := g.pl
  obtain ⟨pr, hpr⟩ := g.plr
  have ew : w = ev p := funext hp
  subst ew
  have eπ : π = ev pp := funext hpp
  have dpow : ∀ n : Nat, Der (fun x => π x ^ (n + 1)) (fun x => ((n + 1 : Nat) : Rat) * π x ^ n * ρ x) := by
    intro n
    induction n with
    | zero =>
      have : Der π ρ := g.der
      have e1 : (fun x => π x ^ (0 + 1)) = π := by funext x; rw [Rat.pow_succ, Rat.pow_zero]; grind
      have e2 : (fun x => ((0 + 1 : Nat) : Rat) * π x ^ 0 * ρ x) = ρ := by
        funext x
        rw [Rat.pow_zero]
        show ((1 : Nat) : Rat) * 1 * ρ x = ρ x
        have : ((1 : Nat) : Rat) = 1 := rfl
        rw [this]; grind
      rw [e1, e2]
      exact this
    | succ n ih =>
      have bp : ∀ f : Rat → Rat, Pl f → Bd f := by
        rintro f ⟨q, hq⟩
        rw [show f = ev q from funext hq]
        exact bd_ev q
      have := der_mul ih g.der (bp _ (pl_pow g.pl _)) (bp _ g.pl) (bp _ (pl_mul (pl_smul _ (pl_pow g.pl n)) g.plr)) (bp _ g.plr)
      have e1 : (fun x => π x ^ (n + 1) * π x) = fun x => π x ^ (n + 1 + 1) := by funext x; rw [Rat.pow_succ (π x) (n + 1)]
      have e2 : (fun x => ((n + 1 : Nat) : Rat) * π x ^ n * ρ x * π x + π x ^ (n + 1) * ρ x) = fun x => ((n + 1 + 1 : Nat) : Rat) * π x ^ (n + 1) * ρ x := by
        funext x
        have : ((n + 1 + 1 : Nat) : Rat) = ((n + 1 : Nat) : Rat) + 1 := by rw [Rat.natCast_add]; rfl
        rw [this, Rat.pow_succ]
        grind
      rw [e1, e2] at this
      exact this
  have bp : ∀ f : Rat → Rat, Pl f → Bd f := by
    rintro f ⟨q, hq⟩
    rw [show f = ev q from funext hq]
    exact bd_ev q
  have hprod := der_mul (dpow k) (der_slope p) (bp _ (pl_pow g.pl _)) (bd_ev p) (bp _ (pl_mul (pl_smul _ (pl_pow g.pl k)) g.plr)) (bd_ev _)
  have ef : f = fun x => π x ^ (k + 1) * ev p x := funext a2
  rw [ef] at hd
  have eq := fun x => der_uniq hd hprod x
  refine ⟨fun x => ((k + 1 : Nat) : Rat) * (ρ x * ev p x) + ev (Os.slope p) x * π x, ?_, fun x => ?_, a3, ?_⟩
  · exact pl_add (pl_smul _ (pl_mul g.plr (pl_ev p))) (pl_mul (pl_ev _) g.pl)
  · rw [eq, Rat.pow_succ]
    grind
  · refine sg_add_van hL a3 ?_ (van_mul hL (pl_ev _) g.van)
    have h1 := sg_mul hL g.up a4
    obtain ⟨e, he, n⟩ := h1
    have hk : (1 : Rat) ≤ ((k + 1 : Nat) : Rat) := by
      have := Rat.natCast_le_natCast.2 (show 1 ≤ k + 1 by omega)
      exact this
    refine ⟨e, he, near_mono (fun x hx => ?_) n⟩
    have h2 : 1 * t * (ρ x * ev p x) = t * (ρ x * ev p x) := by grind
    rw [h2] at hx
    have h3 := mul_le_mul2 hk (Rat.le_trans (Rat.le_of_lt he) hx : 0 ≤ t * (ρ x * ev p x)) (by decide) (by grind)
    have h4 := mul_le_mul2 hk hx (by decide) (by grind)
    grind
end
end Desk

namespace Desk
/-! chains of rests -/
inductive Stu (P : (Rat → Rat) → Prop) : (Rat → Rat) → (Rat → Rat) → List (Rat → Rat) → Prop
  | last {p q : Rat → Rat} : Pl p → P p → (∀ x, q x = 0) → Stu P p q [p]
  | step {p q r Q : Rat → Rat} {l : List (Rat → Rat)} {a : Rat} : Pl p → Pl q → Pl Q → 0 < a → (∀ x, a * p x = Q x * q x - r x) → Stu P q r l → Stu P p q (p :: l)
theorem stu_cons {P : (Rat → Rat) → Prop} {p q : Rat → Rat} {l : List (Rat → Rat)} : Stu P p q l → ∃ l', l = p :: l' := by
  intro h
  cases h with
  | last => exact ⟨[], rfl⟩
  | step => exact ⟨_, rfl⟩
theorem stu_pl {P : (Rat → Rat) → Prop} {p q : Rat → Rat} {l : List (Rat → Rat)} : Stu P p q l → Pl p := by
  intro h
  cases h with
  | last h => exact h
  | step h => exact h
/-- what is common to all taken out -/
theorem stu_red {p q : Rat → Rat} {l : List (Rat → Rat)} (hs : Stu Nz p q l) : ∃ (h dp dq : Rat → Rat) (dl : List (Rat → Rat)), Pl h ∧ Nz h ∧ Pl dp ∧ Pl dq ∧ (∀ x, p x = dp x * h x) ∧ (∀ x, q x = dq x * h x) ∧ Stu (fun f => ∀ x, f x = 1) dp dq dl ∧ ∀ x, l.map (fun f => f x) = (dl.map fun f => f x).map fun v => h x * v := by
  induction hs with
  | @last p q h1 h2 h3 =>
    exact ⟨p, fun _ => 1, fun _ => 0, [fun _ => 1], h1, h2, pl_const 1, pl_const 0, fun x => by grind, fun x => by rw [h3]; grind, .last (pl_const 1) (fun _ => rfl) (fun _ => rfl), fun x => by
      show [p x] = [p x * 1]
      rw [Rat.mul_one]⟩
  | @step p q r Q l a h1 h2 h3 h4 h5 h6 ih =>
    obtain ⟨h, dq, dr, dl, k1, k2, k3, k4, k5, k6, k7, k8⟩ := ih
    have e : ∀ x, p x = 1 / a * (Q x * dq x - dr x) * h x := fun x => by
      have := h5 x
      have ha : 1 / a * a = 1 := Rat.div_mul_cancel (by grind)
      rw [k5, k6] at this
      have : p x = 1 / a * a * p x := by rw [ha, Rat.one_mul]
      grind
    refine ⟨h, fun x => 1 / a * (Q x * dq x - dr x), dq, _ :: dl, k1, k2, pl_smul _ (pl_sub (pl_mul h3 k3) k4), k3, e, k5, .step (a := a) (pl_smul _ (pl_sub (pl_mul h3 k3) k4)) k3 h3 h4 (fun x => ?_) k7, fun x => ?_⟩
    · have ha : 1 / a * a = 1 := Rat.div_mul_cancel (by grind)
      show a * (1 / a * (Q x * dq x - dr x)) = Q x * dq x - dr x
      have : a * (1 / a * (Q x * dq x - dr x)) = 1 / a * a * (Q x * dq x - dr x) := by grind
      rw [this, ha, Rat.one_mul]
    · rw [List.map_cons, List.map_cons, List.map_cons, k8, e]
      congr 1
      grind
/-! sign changes -/
def ti (t : Rat) : Int := if t < 0 then -1 else 1
theorem ti_1 : ti 1 = 1 := by unfold ti; rw [if_neg (by decide)]
theorem ti_m1 : ti (-1) = -1 := by unfold ti; rw [if_pos (by decide)]
theorem ti_mul {a b : Rat} (ha : One a) (hb : One b) : ti (a * b) = ti a * ti b := by
  rcases ha with q | q <;> rcases hb with r | r <;> subst q <;> subst r
  · rw [show (1 : Rat) * 1 = 1 by grind, ti_1]; rfl
  · rw [show (1 : Rat) * -1 = -1 by grind, ti_1, ti_m1]; rfl
  · rw [show (-1 : Rat) * 1 = -1 by grind, ti_1, ti_m1]; rfl
  · rw [show (-1 : Rat) * -1 = 1 by grind, ti_1, ti_m1]; rfl
theorem cf_zero (s : Int) {x : Rat} (r : List Rat) (h : x = 0) : Os.changesFrom s (x :: r) = Os.changesFrom s r := by
  rw [Os.changesFrom, if_pos h]
theorem cf_sg (s : Int) {x t : Rat} (r : List Rat) (ht : One t) (h : sg x = t) : Os.changesFrom s (x :: r) = (if s = -(ti t) then 1 else 0) + Os.changesFrom (ti t) r := by
  have e : (if x < 0 then (-1 : Int) else 1) = ti t := by
    unfold sg at h
    unfold ti
    rcases ht with q | q <;> subst q <;> (by_cases c : x < 0)
    · rw [if_pos c] at h; exact absurd h (by decide)
    · rw [if_neg c, if_neg (by decide)]
    · rw [if_pos c, if_pos (by decide)]
    · rw [if_neg c] at h
      by_cases d : x = 0
      · rw [if_pos d] at h; exact absurd h (by decide)
      · rw [if_neg d] at h; exact absurd h (by decide)
  have hx : x ≠ 0 := fun h0 => by
    subst h0
    have : sg 0 = 0 := by unfold sg; rw [if_neg (by decide), if_pos rfl]
    rw [this] at h
    rcases ht with q | q <;> subst q <;> exact absurd h (by decide)
  rw [Os.changesFrom, if_neg hx]
  show (if s = -(if x < 0 then (-1 : Int) else 1) then 1 else 0) + Os.changesFrom (if x < 0 then (-1 : Int) else 1) r = _
  rw [e]
theorem sg_three (x : Rat) : sg x = 0 ∧ x = 0 ∨ One (sg x) := by
  unfold sg
  unfold One
  by_cases c : x < 0
  · rw [if_pos c]; right; right; rfl
  · rw [if_neg c]
    by_cases d : x = 0
    · rw [if_pos d]; exact .inl ⟨rfl, d⟩
    · rw [if_neg d]; right; left; rfl
theorem cf_congr : ∀ (s : Int) (l m : List Rat), l.map sg = m.map sg → Os.changesFrom s l = Os.changesFrom s m
  | _, [], [], _ => rfl
  | _, [], _ :: _, h => by cases h
  | _, _ :: _, [], h => by cases h
  | s, x :: l, y :: m, h => by
    rw [List.map_cons, List.map_cons, List.cons.injEq] at h
    rcases sg_three x with ⟨h1, h2⟩ | h1
    · rcases sg_three y with ⟨h3, h4⟩ | h3
      · rw [cf_zero s l h2, cf_zero s m h4, cf_congr s l m h.2]
      · rw [← h.1, h1] at h3
        rcases h3 with q | q <;> exact absurd q (by decide)
    · rw [cf_sg s l h1 rfl, cf_sg s m (h.1 ▸ h1 : One (sg y)) rfl, h.1, cf_congr _ l m h.2]
theorem cf_scale (k : Rat) (hk : k ≠ 0) : ∀ (l : List Rat), Os.changesFrom 0 (l.map fun v => k * v) = Os.changesFrom 0 l := by
  have gen : ∀ (s : Rat) (l : List Rat), One s → Os.changesFrom (ti (sg k * s)) (l.map fun v => k * v) = Os.changesFrom (ti s) l := by
    have ok : One (sg k) := by
      rcases sg_three k with ⟨_, h⟩ | h
      · exact absurd h hk
      · exact h
    intro s l
    induction l generalizing s with
    | nil => intro _; rfl
    | cons x l ih =>
      intro hs
      rw [List.map_cons]
      rcases sg_three x with ⟨h1, h2⟩ | h1
      · rw [cf_zero _ _ h2, cf_zero _ _ (by rw [h2, Rat.mul_zero]), ih s hs]
      · rw [cf_sg (t := sg x) _ _ h1 rfl, cf_sg (t := sg k * sg x) _ _ (one_mul ok h1) (sg_mulr k x), ih _ h1]
        congr 1
        rw [ti_mul ok hs, ti_mul ok h1]
        rcases ok with a | a <;> rcases h1 with b | b <;> rcases hs with c | c <;> rw [a, b, c] <;> simp only [ti_1, ti_m1] <;> decide
  intro l
  induction l with
  | nil => rfl
  | cons x l ih =>
    rw [List.map_cons]
    have ok : One (sg k) := by
      rcases sg_three k with ⟨_, h⟩ | h
      · exact absurd h hk
      · exact h
    rcases sg_three x with ⟨h1, h2⟩ | h1
    · rw [cf_zero _ _ h2, cf_zero _ _ (by rw [h2, Rat.mul_zero]), ih]
    · rw [cf_sg (t := sg x) _ _ h1 rfl, cf_sg (t := sg k * sg x) _ _ (one_mul ok h1) (sg_mulr k x), gen _ _ h1]
      congr 1
      have z : ∀ t : Rat, One t → (0 : Int) ≠ -(ti t) := by
        intro t ht
        rcases ht with a | a <;> rw [a] <;> simp only [ti_1, ti_m1] <;> decide
      rw [if_neg (z _ h1), if_neg (z _ (one_mul ok h1))]
section
variable {L : Rat → Prop} (hL : Ct L) {P : (Rat → Rat) → Prop} (hP : ∀ f, P f → ¬ Van L f)
include hL hP
theorem stu_not_both {p q : Rat → Rat} {l : List (Rat → Rat)} (hs : Stu P p q l) : ¬ (Van L p ∧ Van L q) := by
  induction hs with
  | last h1 h2 h3 => exact fun h => hP _ h2 h.1
  | @step p q r Q l a h1 h2 h3 h4 h5 h6 ih =>
    intro h
    exact ih ⟨h.2, van_of (van_sub hL (van_mul hL h3 h.2) (van_mul hL (pl_const a) h.1)) fun x => by have := h5 x; grind⟩
theorem stu_local {p q : Rat → Rat} {l : List (Rat → Rat)} (hs : Stu P p q l) : (∀ t, One t → Sg L t p → ∃ m : Nat, Near L fun x => Os.changesFrom (ti t) (l.tail.map fun f => f x) = m) ∧ (Van L p → ∀ u, One u → Sg L u q → ∃ m : Nat, Near L fun x => Os.changesFrom (-(ti u)) (l.map fun f => f x) = 1 + m ∧ Os.changesFrom 0 (l.map fun f => f x) = (if sg (p x) = -u then 1 else 0) + m) := by
  induction hs with
  | last h1 h2 h3 =>
    refine ⟨fun t _ _ => ⟨0, near_all hL fun x => rfl⟩, fun hv => absurd hv (hP _ h2)⟩
  | @step p q r Q l a h1 h2 h3 h4 h5 h6 ih =>
    obtain ⟨ihA, ihB⟩ := ih
    obtain ⟨l', hl'⟩ := stu_cons h6
    subst hl'
    refine ⟨fun t ht hsg => ?_, fun hv u hu hsq => ?_⟩
    · show ∃ m : Nat, Near L fun x => Os.changesFrom (ti t) ((q :: l').map fun f => f x) = m
      rcases trich hL h2 with hq | ⟨u, hu, hsu⟩
      · -- q goes to 0: then r has the other side
        have hrp : ∀ x, r x = Q x * q x - a * p x := fun x => by have := h5 x; grind
        have hr : Sg L (-t) r := by
          have s1 : Sg L (-t) fun x => -(a * p x) := by
            obtain ⟨e, he, n⟩ := hsg
            refine ⟨a * e, Rat.mul_pos h4 he, near_mono (fun x hx => ?_) n⟩
            have := Rat.mul_le_mul_of_nonneg_left hx (Rat.le_of_lt h4)
            grind
          exact sg_of (sg_add_van hL (one_mul (.inr rfl : One (-1)) ht |> fun h => by rwa [show (-1) * t = -t by grind] at h) s1 (van_mul hL h3 hq)) fun x => by rw [hrp]; grind
        have ont : One (-t) := by rcases ht with q | q <;> subst q; exact .inr rfl; exact .inl (by decide)
        obtain ⟨m, hm⟩ := ihB hq (-t) ont hr
        refine ⟨1 + m, near_mono (fun x hx => ?_) hm⟩
        have e : -(ti (-t)) = ti t := by
          rcases ht with q | q <;> subst q
          · rw [ti_1, ti_m1]; rfl
          · rw [show -(-1 : Rat) = 1 by grind, ti_1, ti_m1]
        rw [← hx.1, e]
      · obtain ⟨m, hm⟩ := ihA u hu hsu
        refine ⟨(if ti t = -(ti u) then 1 else 0) + m, near_mono (fun x hx => ?_) (near_and hL hm (sg_near hu hsu))⟩
        rw [List.map_cons, cf_sg _ _ hu hx.2, ← hx.1]
        rfl
    · obtain ⟨m, hm⟩ := ihA u hu hsq
      refine ⟨m, near_mono (fun x hx => ?_) (near_and hL hm (sg_near hu hsq))⟩
      have hx1 : Os.changesFrom (ti u) (l'.map fun f => f x) = m := hx.1
      rw [List.map_cons, List.map_cons]
      rcases sg_three (p x) with ⟨k1, k2⟩ | k1
      · rw [cf_zero _ _ k2, cf_zero _ _ k2, cf_sg _ _ hu hx.2, cf_sg _ _ hu hx.2, hx1, k1]
        rcases hu with q | q <;> subst q
        · exact ⟨by rw [if_pos rfl], by rw [ti_1, if_neg (by decide), if_neg (by decide)]⟩
        · exact ⟨by rw [if_pos rfl], by rw [ti_m1, if_neg (by decide), if_neg (by decide)]⟩
      · rw [cf_sg (t := sg (p x)) _ _ k1 rfl, cf_sg (t := sg (p x)) _ _ k1 rfl, cf_sg _ _ hu hx.2, hx1]
        rcases hu with q | q <;> subst q <;> rcases k1 with k | k <;> rw [k] <;> simp only [ti_1, ti_m1]
        · exact ⟨by simp, by rw [if_neg (by decide : ¬ (1 : Rat) = -1)]; simp⟩
        · exact ⟨by simp, by simp⟩
        · exact ⟨by simp, by simp⟩
        · exact ⟨by simp, by rw [if_neg (by decide : ¬ (-1 : Rat) = - -1)]; simp⟩
end
end Desk

namespace Desk
/-- a count that falls by one at each zero of f, and only there -/
structure Count (f : Rat → Rat) (V : Rat → Nat) : Prop where
  off : ∀ L, Ct L → ¬ Van L f → ∃ m, Near L fun x => V x = m
  on : ∀ L π ρ, Ct L → Germ L π ρ → Van L f → ∃ m, Near L fun x => V x = (if π x < 0 then 1 else 0) + m
theorem one_not_van {L : Rat → Prop} (hL : Ct L) (f : Rat → Rat) (h : ∀ x, f x = 1) : ¬ Van L f := fun hv => by
  obtain ⟨x, hx⟩ := near_ex hL (hv (1 / 2) (by grind))
  rw [h] at hx
  have : ab (1 : Rat) = 1 := by unfold ab; rw [if_neg (by decide)]
  rw [this] at hx
  grind
theorem one_ne {t : Rat} (h : One t) : t ≠ 0 := by rcases h with r | r <;> subst r <;> decide
theorem one_sq {t : Rat} (h : One t) : t * t = 1 := by rcases h with r | r <;> subst r <;> grind
theorem gm_one {L : Rat → Prop} {π f : Rat → Rat} {k : Nat} {t : Rat} : Gm L π f k t → One t := by
  rintro ⟨w, a1, a2, a3, a4⟩
  exact a3
theorem nz_of_mul {f a b : Rat → Rat} (h : ∀ x, f x = a x * b x) (hn : Nz f) : Nz a ∧ Nz b := by
  obtain ⟨x, hx⟩ := hn
  rw [h] at hx
  exact ⟨⟨x, fun h0 => hx (by rw [h0, Rat.zero_mul])⟩, ⟨x, fun h0 => hx (by rw [h0, Rat.mul_zero])⟩⟩
theorem nz_of_gm {L : Rat → Prop} (hL : Ct L) {π ρ f : Rat → Rat} (g : Germ L π ρ) {k : Nat} {t : Rat} (h : Gm L π f k t) : Nz f := by
  obtain ⟨x, hx, h0⟩ := germ_ne hL g (gm_sg hL g h)
  refine ⟨x, fun h1 => ?_⟩
  rw [h1] at hx
  have z : sg 0 = 0 := by unfold sg; rw [if_neg (by decide), if_pos rfl]
  rw [z] at hx
  have on : One (sg (π x)) := by
    rcases sg_three (π x) with ⟨_, r⟩ | r
    · exact absurd r h0
    · exact r
  have : ∀ k : Nat, One (sg (π x) ^ k) := by
    intro k
    induction k with
    | zero => rw [Rat.pow_zero]; exact .inl rfl
    | succ k ih => rw [Rat.pow_succ]; exact one_mul ih on
  exact one_ne (one_mul (this k) (gm_one h)) hx.symm
theorem stu_count {f f' f1 : Rat → Rat} {l : List (Rat → Rat)} {b : Rat} (hf : Pl f) (hn : Nz f) (hd : Der f f') (hb : 0 < b) (h1 : ∀ x, f1 x = b * f' x) (hs : Stu Nz f f1 l) :
    ∃ (h dp dq : Rat → Rat) (V : Rat → Nat), Pl h ∧ Nz h ∧ Count f V ∧ (∀ x, h x ≠ 0 → Os.changesFrom 0 (l.map fun f => f x) = V x) ∧ Pl dp ∧ Pl dq ∧ (∀ x, f x = dp x * h x) ∧ ∀ x, f1 x = dq x * h x := by
  obtain ⟨h, dp, dq, dl, k1, k2, k3, k4, k5, k6, k7, k8⟩ := stu_red hs
  refine ⟨h, dp, dq, fun x => Os.changesFrom 0 (dl.map fun f => f x), k1, k2, ⟨fun L hL hv => ?_, fun L π ρ hL g hv => ?_⟩, fun x hx => by rw [k8, cf_scale _ hx], k3, k4, k5, k6⟩
  · obtain ⟨A, B⟩ := stu_local hL (fun f hf => one_not_van hL f hf) k7
    have hdv : ¬ Van L dp := fun h' => hv (van_of (van_mul hL k1 h') fun x => by rw [k5]; grind)
    rcases trich hL k3 with r | ⟨t, ht, hst⟩
    · exact absurd r hdv
    · obtain ⟨m, hm⟩ := A t ht hst
      refine ⟨m, near_mono (fun x hx => ?_) (near_and hL hm (sg_near ht hst))⟩
      obtain ⟨l', hl'⟩ := stu_cons k7
      subst hl'
      show Os.changesFrom 0 ((dp :: l').map fun f => f x) = m
      rw [List.map_cons, cf_sg _ _ ht hx.2, if_neg (by rcases ht with q | q <;> subst q <;> simp only [ti_1, ti_m1] <;> decide), Nat.zero_add]
      exact hx.1
  · obtain ⟨A, B⟩ := stu_local hL (fun f hf => one_not_van hL f hf) k7
    -- the orders
    obtain ⟨kf, t, gf⟩ := gm_ex hL g hf hn
    have hk : kf ≠ 0 := (gm_van hL g gf).1 hv
    obtain ⟨k, rfl⟩ : ∃ k, kf = k + 1 := ⟨kf - 1, by omega⟩
    have gf1 : Gm L π f1 k t := gm_of hL g h1 (gm_scale hL g hb (gm_der hL g hd gf))
    obtain ⟨kh, th, gh⟩ := gm_ex hL g k1 k2
    obtain ⟨i, u, gp⟩ := gm_ex hL g k3 (nz_of_mul k5 hn).1
    obtain ⟨j, v, gq⟩ := gm_ex hL g k4 (nz_of_mul k6 (nz_of_gm hL g gf1)).1
    obtain ⟨e1, e2⟩ := gm_uniq hL g gf (gm_of hL g k5 (gm_mul hL g gp gh))
    obtain ⟨e3, e4⟩ := gm_uniq hL g gf1 (gm_of hL g k6 (gm_mul hL g gq gh))
    have huv : u = v := by
      have := one_sq (gm_one gh)
      have : u * th * th = v * th * th := by rw [← e2, ← e4]
      grind
    have hij : i = j + 1 := by omega
    have hj : j = 0 := by
      apply Classical.byContradiction
      intro hj
      exact stu_not_both hL (fun f hf => one_not_van hL f hf) k7 ⟨(gm_van hL g gp).2 (by omega), (gm_van hL g gq).2 hj⟩
    subst hj
    subst hij
    subst huv
    have on := gm_one gp
    obtain ⟨m, hm⟩ := B ((gm_van hL g gp).2 (by decide)) u on (gm_zero hL g gq)
    refine ⟨m, near_mono (fun x hx => ?_) (near_and hL hm (gm_sg hL g gp))⟩
    show Os.changesFrom 0 (dl.map fun f => f x) = _
    rw [hx.1.2]
    congr 1
    have e : sg (dp x) = sg (π x) * u := by
      rw [hx.2, Rat.pow_succ, Rat.pow_zero, Rat.one_mul]
    rw [e]
    have key : (sg (π x) * u = -u) ↔ π x < 0 := by
      have := one_sq on
      constructor
      · intro h
        have : sg (π x) = -1 := by grind
        unfold sg at this
        by_cases c : π x < 0
        · exact c
        · rw [if_neg c] at this
          by_cases d : π x = 0
          · rw [if_pos d] at this; exact absurd this (by decide)
          · rw [if_neg d] at this; exact absurd this (by decide)
      · intro h
        have : sg (π x) = -1 := by unfold sg; rw [if_pos h]
        rw [this]
        grind
    by_cases c : π x < 0
    · rw [if_pos c, if_pos (key.2 c)]
    · rw [if_neg c, if_neg (fun h => c (key.1 h))]
/-- near a cut: either steady or stepping down -/
theorem count_near {f : Rat → Rat} {V : Rat → Nat} (hf : Pl f) (hn : Nz f) (c : Count f V) {L : Rat → Prop} (hL : Ct L) : (¬ Van L f ∧ ∃ m, Near L fun x => V x = m) ∨ (Van L f ∧ ∃ π ρ, Germ L π ρ ∧ ∃ m, Near L fun x => V x = (if π x < 0 then 1 else 0) + m) := by
  by_cases hv : Van L f
  · rcases germ hL with h | ⟨π, ρ, g⟩
    · exact absurd hv (h f hf hn)
    · exact .inr ⟨hv, π, ρ, g, c.on L π ρ hL g hv⟩
  · exact .inl ⟨hv, c.off L hL hv⟩
theorem count_mono {f : Rat → Rat} {V : Rat → Nat} (hf : Pl f) (hn : Nz f) (c : Count f V) {u v : Rat} (h : u ≤ v) : V v ≤ V u := by
  refine everywhere (fun x y => V y ≤ V x) (fun x => Nat.le_refl _) (fun x y z _ _ a b => Nat.le_trans b a) (fun L hL => ?_) u v h
  rcases count_near hf hn c hL with ⟨_, m, a, b, ha, hb, k⟩ | ⟨_, π, ρ, g, m, n⟩
  · exact ⟨a, b, ha, hb, fun x y h1 h2 h3 => by rw [k x h1 (by grind), k y (by grind) h3]; exact Nat.le_refl _⟩
  · obtain ⟨a', b', ha', hb', inc⟩ := germ_inc hL g
    obtain ⟨a, b, ha, hb, k⟩ := near_and hL n ⟨a', b', ha', hb', fun x h1 h2 => And.intro h1 h2⟩
    refine ⟨a, b, ha, hb, fun x y h1 h2 h3 => ?_⟩
    have k1 := k x h1 (by grind)
    have k2 := k y (by grind) h3
    rw [k1.1, k2.1]
    rcases Rat.le_iff_lt_or_eq.1 h2 with s | s
    · have := inc x y k1.2.1 s k2.2.2
      by_cases c1 : π y < 0
      · rw [if_pos c1, if_pos (by grind)]
        exact Nat.le_refl _
      · rw [if_neg c1]
        split <;> omega
    · rw [s]
      exact Nat.le_refl _
/-- just above a point -/
theorem count_right {f : Rat → Rat} {V : Rat → Nat} (hf : Pl f) (hn : Nz f) (c : Count f V) (r : Rat) : ∃ b, r < b ∧ ∀ y, r ≤ y → y ≤ b → V y = V r := by
  rcases count_near hf hn c (ct_at r) with ⟨_, m, n⟩ | ⟨hv, π, ρ, g, m, n⟩
  · obtain ⟨h0, b, hb, h⟩ := near_at n
    exact ⟨b, hb, fun y h1 h2 => by rw [h y h1 h2, h0]⟩
  · obtain ⟨a', b', ha', hb', inc⟩ := germ_inc (ct_at r) g
    have z : π r = 0 := (van_at g.pl).1 g.van
    obtain ⟨h0, b, hb, h⟩ := near_at (near_and (ct_at r) n ⟨a', b', ha', hb', fun x h1 h2 => And.intro h1 h2⟩)
    refine ⟨b, hb, fun y h1 h2 => ?_⟩
    have k := h y h1 h2
    rw [k.1, h0.1]
    congr 1
    rcases Rat.le_iff_lt_or_eq.1 h1 with s | s
    · have := inc r y h0.2.1 s k.2.2
      rw [if_neg (by grind), if_neg (by grind)]
    · rw [s]
/-- a zero makes it fall -/
theorem count_strict {f : Rat → Rat} {V : Rat → Nat} (hf : Pl f) (hn : Nz f) (c : Count f V) {u v : Rat} (h : u < v) (hz : f v = 0) : V v < V u := by
  have hv : Van (fun q => q < v) f := (van_under hf).2 hz
  rcases count_near hf hn c (ct_under v) with ⟨h1, _⟩ | ⟨_, π, ρ, g, m, n⟩
  · exact absurd hv h1
  · obtain ⟨a', b', ha', hb', inc⟩ := germ_inc (ct_under v) g
    have z : π v = 0 := (van_under g.pl).1 g.van
    obtain ⟨h0, a, ha, k⟩ := near_under (near_and (ct_under v) n ⟨a', b', ha', hb', fun x h1 h2 => And.intro h1 h2⟩)
    -- a point between
    have hw : ∃ w, u ≤ w ∧ a ≤ w ∧ w < v := by
      by_cases q : a ≤ u
      · exact ⟨u, Rat.le_refl, q, h⟩
      · exact ⟨a, by grind, Rat.le_refl, ha⟩
    obtain ⟨w, w1, w2, w3⟩ := hw
    have kw := k w w2 (by grind)
    have := inc w v kw.2.1 w3 h0.2.2
    have e1 : V w = 1 + m := by rw [kw.1, if_pos (by grind)]
    have e2 : V v = 0 + m := by rw [h0.1, if_neg (by grind)]
    have := count_mono hf hn c w1
    omega
/-- two that vanish at the same cuts -/
theorem count_same {f g : Rat → Rat} {V W : Rat → Nat} (hf : Pl f) (hn : Nz f) (c : Count f V) (hg : Pl g) (hm : Nz g) (d : Count g W) (same : ∀ L, Ct L → (Van L f ↔ Van L g)) (x y : Rat) : V x + W y = V y + W x := by
  have step : ∀ u v : Rat, u ≤ v → V u + W v = V v + W u := by
    intro u v huv
    refine everywhere (fun u v => V u + W v = V v + W u) (fun x => rfl) (fun x y z _ _ a b => by omega) (fun L hL => ?_) u v huv
    by_cases hv : Van L f
    · rcases germ hL with h | ⟨π, ρ, gm⟩
      · exact absurd hv (h f hf hn)
      · obtain ⟨m, h1⟩ := c.on L π ρ hL gm hv
        obtain ⟨k, h2⟩ := d.on L π ρ hL gm ((same L hL).1 hv)
        obtain ⟨a, b, ha, hb, h⟩ := near_and hL h1 h2
        refine ⟨a, b, ha, hb, fun x y a1 a2 a3 => ?_⟩
        obtain ⟨p1, p2⟩ := h x a1 (by grind)
        obtain ⟨q1, q2⟩ := h y (by grind) a3
        omega
    · obtain ⟨m, h1⟩ := c.off L hL hv
      obtain ⟨k, h2⟩ := d.off L hL fun h => hv ((same L hL).2 h)
      obtain ⟨a, b, ha, hb, h⟩ := near_and hL h1 h2
      refine ⟨a, b, ha, hb, fun x y a1 a2 a3 => ?_⟩
      obtain ⟨p1, p2⟩ := h x a1 (by grind)
      obtain ⟨q1, q2⟩ := h y (by grind) a3
      omega
  rcases Rat.le_total (a := x) (b := y) with h | h
  · exact step x y h
  · exact (step y x h).symm
/-- not 0 just above a point -/
theorem ne_right {h : Rat → Rat} (ph : Pl h) (nh : Nz h) (r : Rat) : ∃ b, r < b ∧ ∀ y, r < y → y ≤ b → h y ≠ 0 := by
  rcases germ (ct_at r) with k | ⟨π, ρ, g⟩
  · rcases trich (ct_at r) ph with hv | ⟨t, ht, hs⟩
    · exact absurd hv (k h ph nh)
    · obtain ⟨_, b, hb, k⟩ := near_at (sg_near ht hs)
      refine ⟨b, hb, fun y h1 h2 h0 => ?_⟩
      have := k y (by grind) h2
      rw [h0] at this
      have z : sg 0 = 0 := by unfold sg; rw [if_neg (by decide), if_pos rfl]
      rw [z] at this
      exact one_ne ht this.symm
  · obtain ⟨k, t, gh⟩ := gm_ex (ct_at r) g ph nh
    obtain ⟨a', b', ha', hb', inc⟩ := germ_inc (ct_at r) g
    have z : π r = 0 := (van_at g.pl).1 g.van
    obtain ⟨h0, b, hb, hh⟩ := near_at (near_and (ct_at r) (gm_sg (ct_at r) g gh) ⟨a', b', ha', hb', fun x h1 h2 => And.intro h1 h2⟩)
    refine ⟨b, hb, fun y h1 h2 hy => ?_⟩
    have q := hh y (by grind) h2
    have pos := inc r y h0.2.1 h1 q.2.2
    have e1 : sg (π y) = 1 := by unfold sg; rw [if_neg (by grind), if_neg (by grind)]
    have e2 : ∀ k : Nat, (1 : Rat) ^ k = 1 := by
      intro k
      induction k with
      | zero => exact Rat.pow_zero _
      | succ k ih => rw [Rat.pow_succ, ih]; grind
    have := q.1
    rw [hy, e1, e2] at this
    have zz : sg 0 = 0 := by unfold sg; rw [if_neg (by decide), if_pos rfl]
    rw [zz, Rat.one_mul] at this
    exact one_ne (gm_one gh) this.symm
end Desk

namespace Desk
/-! degrees: what is a multiple is not shorter -/
theorem pow_ge_one {x : Rat} (h : 1 ≤ x) : ∀ n : Nat, 1 ≤ x ^ n
  | 0 => by rw [Rat.pow_zero]; exact Rat.le_refl
  | n + 1 => by
    rw [Rat.pow_succ]
    have := mul_le_mul2 (pow_ge_one h n) h (by decide) (by have := pow_ge_one h n; grind)
    grind
theorem grow_low (l : Pol) (c : Rat) (hc : c ≠ 0) : ∃ M e : Rat, 1 ≤ M ∧ 0 < e ∧ ∀ x, M ≤ x → e * x ^ l.length ≤ (if c < 0 then -1 else 1) * ev (l ++ [c]) x := by
  induction l with
  | nil =>
    refine ⟨1, ab c, by decide, by unfold ab; split <;> grind, fun x _ => ?_⟩
    rw [List.nil_append, ev_cons, ev_nil, List.length_nil, Rat.pow_zero]
    unfold ab
    split <;> grind
  | cons a l ih =>
    obtain ⟨M, e, hM, he, h⟩ := ih
    have hq : 0 ≤ 2 * ab a / e := by
      by_cases h0 : ab a = 0
      · rw [h0, Rat.div_def]; grind
      · have := ab_nn a
        exact Rat.le_of_lt (by rw [Rat.lt_div_iff he]; grind)
    refine ⟨M + 2 * ab a / e, e / 2, by grind, by grind, fun x hx => ?_⟩
    have h1 := h x (by grind)
    have hx1 : 1 ≤ x := by grind
    rw [List.cons_append, ev_cons, List.length_cons, Rat.pow_succ]
    generalize ht : (if c < 0 then (-1 : Rat) else 1) = t at h1 ⊢
    have ht' : t = 1 ∨ t = -1 := by rw [← ht]; split <;> simp
    have p1 := pow_ge_one hx1 l.length
    generalize x ^ l.length = y at h1 p1 ⊢
    have h2 : x * (e * y) ≤ x * (t * ev (l ++ [c]) x) := Rat.mul_le_mul_of_nonneg_left h1 (by grind)
    have h4 : 2 * ab a / e ≤ x * y := by
      have := mul_le_mul2 (show 2 * ab a / e ≤ x by grind) p1 hq (by grind)
      have e : 2 * ab a / e * 1 = 2 * ab a / e := by grind
      grind
    have h5 : 2 * ab a ≤ x * y * e := by
      have := Rat.mul_le_mul_of_nonneg_right h4 (Rat.le_of_lt he)
      rw [Rat.div_mul_cancel (by grind)] at this
      exact this
    have h3 : t * a ≥ -ab a := by
      rcases ht' with r | r <;> subst r <;> unfold ab <;> split <;> grind
    grind
theorem grow_high (r : Pol) : ∀ n : Nat, r.length ≤ n + 1 → ∃ B : Rat, 0 ≤ B ∧ ∀ x, 1 ≤ x → ab (ev r x) ≤ B * x ^ n := by
  induction r with
  | nil =>
    intro n _
    refine ⟨0, Rat.le_refl, fun x _ => ?_⟩
    rw [ev_nil, Rat.zero_mul]
    unfold ab
    split <;> grind
  | cons a r ih =>
    intro n hn
    cases n with
    | zero =>
      have : r = [] := List.eq_nil_of_length_eq_zero (by rw [List.length_cons] at hn; omega)
      subst this
      refine ⟨ab a, ab_nn a, fun x _ => ?_⟩
      rw [ev_cons, ev_nil, Rat.pow_zero]
      have : a + x * 0 = a := by grind
      rw [this]
      grind
    | succ n =>
      obtain ⟨B, hB, h⟩ := ih n (by rw [List.length_cons] at hn; omega)
      refine ⟨ab a + B, by have := ab_nn a; grind, fun x hx => ?_⟩
      rw [ev_cons, Rat.pow_succ]
      have h1 := h x hx
      have h2 := ab_add a (x * ev r x)
      have ax : ab x = x := by unfold ab; rw [if_neg (by grind)]
      rw [ab_mul, ax] at h2
      have p1 := pow_ge_one hx n
      generalize x ^ n = y at h1 p1 ⊢
      have h3 : x * ab (ev r x) ≤ x * (B * y) := Rat.mul_le_mul_of_nonneg_left h1 (by grind)
      have h4 : 1 ≤ y * x := by
        have := mul_le_mul2 p1 hx (by decide) (by grind)
        grind
      have h5 : ab a * 1 ≤ ab a * (y * x) := Rat.mul_le_mul_of_nonneg_left h4 (ab_nn a)
      grind
theorem mul_long {g r : Pol} (hd : Dv (ev g) (ev r)) (h : (Os.trim r).length < (Os.trim g).length) : Os.trim r = [] := by
  apply Classical.byContradiction
  intro hr
  obtain ⟨b, ⟨q, hq⟩, hb⟩ := hd
  have nr := trim_nz hr
  have hg : Os.trim g ≠ [] := by intro h0; rw [h0] at h; simp at h
  have hqn : Os.trim q ≠ [] := nz_trim (by
    obtain ⟨x, hx⟩ := (nz_of_mul hb nr).1
    exact ⟨x, by rw [← hq]; exact hx⟩)
  rcases trim_spec g with ⟨_, e⟩ | ⟨l, c, hc, e, _⟩
  · exact absurd e hg
  rcases trim_spec q with ⟨_, e'⟩ | ⟨l', c', hc', e', _⟩
  · exact absurd e' hqn
  obtain ⟨M, d, hM, hd, k⟩ := grow_low l c hc
  obtain ⟨M', d', hM', hd', k'⟩ := grow_low l' c' hc'
  have hl : 0 < l.length := by
    rw [e, List.length_append, List.length_singleton] at h
    have := List.length_pos_iff.2 hr
    omega
  obtain ⟨n, hn⟩ : ∃ n, l.length = n + 1 := ⟨l.length - 1, by omega⟩
  obtain ⟨B, hB, kk⟩ := grow_high (Os.trim r) n (by rw [e, List.length_append, List.length_singleton] at h; omega)
  -- at a point far out
  have hx : ∃ x, M ≤ x ∧ M' ≤ x ∧ B < d * d' * x := by
    refine ⟨M + M' + B / (d * d') , ?_, ?_, ?_⟩
    all_goals
      have hdd := Rat.mul_pos hd hd'
      have hq0 : 0 ≤ B / (d * d') := by
        by_cases h0 : B = 0
        · rw [h0, Rat.div_def]; grind
        · exact Rat.le_of_lt (by rw [Rat.lt_div_iff hdd]; grind)
    · grind
    · grind
    · have h1 : B / (d * d') * (d * d') = B := Rat.div_mul_cancel (by grind)
      have h2 : 0 < d * d' * (M + M') := Rat.mul_pos hdd (by grind)
      grind
  obtain ⟨x, x1, x2, x3⟩ := hx
  have a1 := k x x1
  have a2 := k' x x2
  have a3 := kk x (by grind)
  rw [ev_trim, hb, hq] at a3
  rw [← e, ev_trim] at a1
  rw [← e', ev_trim] at a2
  have p1 := pow_ge_one (show 1 ≤ x by grind) n
  have p2 := pow_ge_one (show 1 ≤ x by grind) l'.length
  rw [hn, Rat.pow_succ] at a1
  generalize x ^ n = y at *
  generalize x ^ l'.length = z at *
  have lab : ∀ (t v : Rat), (t = 1 ∨ t = -1) → t * v ≤ ab v := fun t v ht => by
    rcases ht with r | r <;> subst r <;> unfold ab <;> split <;> grind
  have b1 : d * (y * x) ≤ ab (ev g x) := Rat.le_trans a1 (lab _ _ (by split <;> simp))
  have b2 : d' * z ≤ ab (ev q x) := Rat.le_trans a2 (lab _ _ (by split <;> simp))
  have yx : 0 ≤ y * x := Rat.mul_nonneg (by grind) (by grind)
  have b3 := mul_le_mul2 b2 b1 (Rat.mul_nonneg (Rat.le_of_lt hd') (by grind)) (ab_nn _)
  rw [ab_mul] at a3
  have b4 : d' * z * (d * (y * x)) ≤ B * y := Rat.le_trans b3 a3
  have b5 : d' * 1 * (d * (y * x)) ≤ d' * z * (d * (y * x)) := by
    apply Rat.mul_le_mul_of_nonneg_right
    · exact Rat.mul_le_mul_of_nonneg_left p2 (Rat.le_of_lt hd')
    · exact Rat.mul_nonneg (Rat.le_of_lt hd) yx
  have b6 : y * (d * d' * x) ≤ y * B := by grind
  have b7 := Rat.le_of_mul_le_mul_left b6 (by grind)
  grind
theorem quot_exact {p g : Pol} (hg : Os.trim g ≠ []) (hd : Dv (ev g) (ev p)) (x : Rat) : ev p x = ev (Os.quot p g) x * ev g x := by
  obtain ⟨d1, d2⟩ := divide hg p
  obtain ⟨a, pa, ha⟩ := hd
  have : Dv (ev g) (ev (Os.rest p g)) := ⟨fun x => a x - ev (Os.quot p g) x, pl_sub pa (pl_ev _), fun x => by
    have := d1 x
    have := ha x
    grind⟩
  have z := mul_long this d2
  have := d1 x
  rw [← ev_trim (Os.rest p g), z, ev_nil] at this
  grind
/-! each zero once -/
theorem gm_ge {L : Rat → Prop} (hL : Ct L) {π ρ f v : Rat → Rat} (g : Germ L π ρ) {j k : Nat} {t : Rat} (h1 : Gm L π f j t) (pv : Pl v) (b2 : ∀ x, f x = π x ^ k * v x) : k ≤ j := by
  by_cases hv : Nz v
  · obtain ⟨i, u, gv⟩ := gm_ex hL g pv hv
    obtain ⟨w, a1, a2, a3, a4⟩ := gv
    have : Gm L π f (k + i) u := ⟨w, a1, fun x => by rw [b2, a2, pow_add']; grind, a3, a4⟩
    have := (gm_uniq hL g h1 this).1
    omega
  · obtain ⟨x, hx⟩ := nz_of_gm hL g h1
    exfalso
    apply hx
    rw [b2]
    have : v x = 0 := Classical.byContradiction fun h => hv ⟨x, h⟩
    rw [this, Rat.mul_zero]
section
variable {p : Pol} (hp : Os.trim p ≠ [])
include hp
theorem gcd_slope : ∃ u v, Pl u ∧ Pl v ∧ (∀ x, ev (Os.gcd p (Os.slope p)) x = u x * ev p x + v x * ev (Os.slope p) x) ∧ Dv (ev (Os.gcd p (Os.slope p))) (ev p) ∧ Dv (ev (Os.gcd p (Os.slope p))) (ev (Os.slope p)) ∧ Os.trim (Os.gcd p (Os.slope p)) ≠ [] := by
  unfold Os.gcd
  exact gcdF _ p (Os.slope p) (by have := trim_le (Os.slope p); omega) (.inl hp)
theorem single_mul (x : Rat) : ev p x = ev (Os.single p) x * ev (Os.gcd p (Os.slope p)) x := by
  obtain ⟨u, v, h1, h2, h3, h4, h5, h6⟩ := gcd_slope hp
  exact quot_exact h6 h4 x
theorem single_nz : Nz (ev (Os.single p)) ∧ Nz (ev (Os.gcd p (Os.slope p))) := nz_of_mul (single_mul hp) (trim_nz hp)
/-- the order of the common part is one less -/
theorem gcd_gm {L : Rat → Prop} (hL : Ct L) {π ρ : Rat → Rat} (g : Germ L π ρ) {k : Nat} {t : Rat} (h : Gm L π (ev p) (k + 1) t) : ∃ u, Gm L π (ev (Os.gcd p (Os.slope p))) k u := by
  obtain ⟨u, v, h1, h2, h3, h4, ⟨b, pb, hb⟩, h6⟩ := gcd_slope hp
  obtain ⟨i, w, gg⟩ := gm_ex hL g (pl_ev _) (trim_nz h6)
  have gs := gm_der hL g (der_slope p) h
  obtain ⟨j, w', gb⟩ := gm_ex hL g pb (nz_of_mul hb (nz_of_gm hL g gs)).1
  have e1 := (gm_uniq hL g gs (gm_of hL g hb (gm_mul hL g gb gg))).1
  have e2 : k ≤ i := by
    obtain ⟨a, pa, ha, _⟩ := h
    obtain ⟨c, pc, hc, _⟩ := gs
    refine gm_ge hL g gg (v := fun x => u x * (π x * a x) + v x * c x) (pl_add (pl_mul h1 (pl_mul g.pl pa)) (pl_mul h2 pc)) fun x => ?_
    rw [h3, ha, hc, Rat.pow_succ]
    grind
  have : i = k := by omega
  subst this
  exact ⟨w, gg⟩
theorem single_gm {L : Rat → Prop} (hL : Ct L) {π ρ : Rat → Rat} (g : Germ L π ρ) (hv : Van L (ev p)) : ∃ t, Gm L π (ev (Os.single p)) 1 t := by
  obtain ⟨k, t, gp⟩ := gm_ex hL g (pl_ev p) (trim_nz hp)
  have := (gm_van hL g gp).1 hv
  obtain ⟨d, rfl⟩ : ∃ d, k = d + 1 := ⟨k - 1, by omega⟩
  obtain ⟨u, gg⟩ := gcd_gm hp hL g gp
  obtain ⟨i, w, gs⟩ := gm_ex hL g (pl_ev _) (single_nz hp).1
  have e := (gm_uniq hL g gp (gm_of hL g (single_mul hp) (gm_mul hL g gs gg))).1
  have : i = 1 := by omega
  subst this
  exact ⟨w, gs⟩
theorem single_van {L : Rat → Prop} (hL : Ct L) : Van L (ev (Os.single p)) ↔ Van L (ev p) := by
  constructor
  · intro h
    exact van_of (van_mul hL (pl_ev (Os.gcd p (Os.slope p))) h) fun x => by rw [single_mul hp]; grind
  · intro h
    rcases germ hL with k | ⟨π, ρ, g⟩
    · exact absurd h (k _ (pl_ev p) (trim_nz hp))
    · obtain ⟨t, gs⟩ := single_gm hp hL g h
      exact (gm_van hL g gs).2 (by decide)
theorem single_zero (x : Rat) : ev (Os.single p) x = 0 ↔ ev p x = 0 := by
  rw [← van_at (pl_ev _), ← van_at (pl_ev _)]
  exact single_van hp (ct_at x)
end
/-! the specification's chain -/
theorem neg_len (p : Pol) : (Os.trim (p.map fun (x : Rat) => -x)).length = (Os.trim p).length ∧ (Os.trim (p.map fun (x : Rat) => -x) = [] ↔ Os.trim p = []) := by
  rcases trim_spec p with ⟨h, e⟩ | ⟨l, c, hc, e, z, hz, h⟩
  · rw [e, trim_zr]
    · exact ⟨rfl, Iff.rfl⟩
    · intro c hc
      obtain ⟨d, hd, e⟩ := List.mem_map.1 hc
      rw [← e, h d hd]
      rfl
  · rw [e, h, List.map_append, trim_append_zr, List.map_append]
    · show (Os.trim (_ ++ [-c])).length = _ ∧ _
      rw [List.map_singleton, trim_of_last _ _ (by grind)]
      simp
    · intro c hc
      obtain ⟨d, hd, e⟩ := List.mem_map.1 hc
      rw [← e, hz d hd]
      rfl
theorem chainF : ∀ (f : Nat) (p q : Pol), (Os.trim q).length < f → Os.trim p ≠ [] → Stu Nz (ev p) (ev q) ((Os.chainFrom f p q).map ev) ∧ ∀ r ∈ Os.chainFrom f p q, Os.trim r ≠ [] := by
  intro f
  induction f with
  | zero => intro p q h; omega
  | succ f ih =>
    intro p q hf hp
    unfold Os.chainFrom
    by_cases hq : (Os.trim q).isEmpty = true
    · rw [if_pos hq]
      have hq' := List.isEmpty_iff.1 hq
      exact ⟨.last (pl_ev p) (trim_nz hp) fun x => by rw [← ev_trim, hq']; rfl, fun r hr => by rw [List.mem_singleton.1 hr]; exact hp⟩
    · rw [if_neg hq]
      have hq' : Os.trim q ≠ [] := fun h => hq (by rw [h]; rfl)
      obtain ⟨d1, d2⟩ := divide hq' p
      have nl := neg_len (Os.rest p q)
      obtain ⟨i1, i2⟩ := ih q ((Os.rest p q).map fun (x : Rat) => -x) (by rw [nl.1]; omega) hq'
      refine ⟨.step (a := 1) (pl_ev p) (pl_ev q) (pl_ev (Os.quot p q)) (by decide) (fun x => ?_) i1, fun r hr => ?_⟩
      · rw [ev_negp, d1]
        grind
      · rcases List.mem_cons.1 hr with h | h
        · rw [h]; exact hp
        · exact i2 r h
theorem chain_stu {p : Pol} (hp : Os.trim p ≠ []) : Stu Nz (ev p) (ev (Os.slope p)) ((Os.chain p).map ev) ∧ ∀ r ∈ Os.chain p, Os.trim r ≠ [] := by
  unfold Os.chain
  refine chainF _ p (Os.slope p) ?_ hp
  have := trim_le (Os.slope p)
  have : (Os.slope p).length ≤ p.length := by unfold Os.slope; rw [List.length_map, List.length_range]; omega
  omega
/-! far out -/
theorem far_sg {p : Pol} (hp : Os.trim p ≠ []) : ∃ M : Rat, 0 < M ∧ (∀ x, x ≤ -M → sg (ev p x) = sg (Os.atMinus p)) ∧ ∀ x, M ≤ x → sg (ev p x) = sg (Os.lead p) := by
  rcases trim_spec p with ⟨_, e⟩ | ⟨l, c, hc, e, _⟩
  · exact absurd e hp
  obtain ⟨M, d, hM, hd, k⟩ := far_up l c hc
  obtain ⟨M', d', hM', hd', k'⟩ := far_down l c hc
  have hl := lead_of l c e
  refine ⟨M + M', by grind, fun x hx => ?_, fun x hx => ?_⟩
  · have := k' x (by grind)
    rw [← e, ev_trim] at this
    unfold Os.atMinus
    rw [hl, e, List.length_append, List.length_singleton]
    by_cases hlen : l.length % 2 = 0
    · rw [if_pos hlen] at this
      rw [if_neg (by omega)]
      unfold sg
      by_cases h0 : c < 0
      · rw [if_pos h0] at this ⊢
        rw [if_pos (by grind)]
      · rw [if_neg h0] at this ⊢
        rw [if_neg (by grind), if_neg (by grind), if_neg hc]
    · rw [if_neg hlen] at this
      rw [if_pos (by omega)]
      unfold sg
      by_cases h0 : c < 0
      · rw [if_pos h0] at this
        rw [if_neg (by grind), if_neg (by grind), if_neg (by grind), if_neg (by grind)]
      · rw [if_neg h0] at this
        rw [if_pos (by grind), if_pos (by grind)]
  · have := k x (by grind)
    rw [← e, ev_trim] at this
    rw [hl]
    unfold sg
    by_cases h0 : c < 0
    · rw [if_pos h0] at this ⊢
      rw [if_pos (by grind)]
    · rw [if_neg h0] at this ⊢
      rw [if_neg (by grind), if_neg (by grind), if_neg hc]
theorem far_all : ∀ R : List Pol, (∀ r ∈ R, Os.trim r ≠ []) → ∃ M : Rat, 0 < M ∧ (∀ x, x ≤ -M → (R.map fun r => ev r x).map sg = (R.map Os.atMinus).map sg) ∧ ∀ x, M ≤ x → (R.map fun r => ev r x).map sg = (R.map Os.lead).map sg
  | [], _ => ⟨1, by decide, fun _ _ => rfl, fun _ _ => rfl⟩
  | r :: R, h => by
    obtain ⟨M, m0, m1, m2⟩ := far_all R fun q hq => h q (List.mem_cons_of_mem _ hq)
    obtain ⟨N, n0, n1, n2⟩ := far_sg (h r (List.mem_cons_self ..))
    refine ⟨M + N, by grind, fun x hx => ?_, fun x hx => ?_⟩
    · show sg (ev r x) :: _ = sg (Os.atMinus r) :: _
      rw [n1 x (by grind), m1 x (by grind)]
    · show sg (ev r x) :: _ = sg (Os.lead r) :: _
      rw [n2 x (by grind), m2 x (by grind)]
/-- a chain of rows, counted -/
theorem rows_count {f : Rat → Rat} {R : List Pol} {f1 f' : Rat → Rat} {b : Rat} (hf : Pl f) (hn : Nz f) (hd : Der f f') (hb : 0 < b) (h1 : ∀ x, f1 x = b * f' x) (hs : Stu Nz f f1 (R.map ev)) (hR : ∀ r ∈ R, Os.trim r ≠ []) :
    ∃ (h dp dq : Rat → Rat) (V : Rat → Nat), Pl h ∧ Nz h ∧ Count f V ∧ (∀ x, h x ≠ 0 → Os.changesFrom 0 (R.map fun r => ev r x) = V x) ∧ (Pl dp ∧ Pl dq ∧ (∀ x, f x = dp x * h x) ∧ ∀ x, f1 x = dq x * h x) ∧ (∀ x, ∃ b, x < b ∧ ∀ y, x < y → y ≤ b → Os.changesFrom 0 (R.map fun r => ev r y) = V x) ∧ ∃ M : Rat, 0 < M ∧ (∀ x, x ≤ -M → V x = Os.changesFrom 0 (R.map Os.atMinus)) ∧ ∀ x, M ≤ x → V x = Os.changesFrom 0 (R.map Os.lead) := by
  obtain ⟨h, dp, dq, V, k1, k2, k3, k4, k5, k6, k7, k8⟩ := stu_count hf hn hd hb h1 hs
  have k4' : ∀ x, h x ≠ 0 → Os.changesFrom 0 (R.map fun r => ev r x) = V x := fun x hx => by
    rw [← k4 x hx, List.map_map]
    rfl
  refine ⟨h, dp, dq, V, k1, k2, k3, k4', ⟨k5, k6, k7, k8⟩, fun x => ?_, ?_⟩
  · obtain ⟨b1, p1, p2⟩ := count_right hf hn k3 x
    obtain ⟨b2, q1, q2⟩ := ne_right k1 k2 x
    refine ⟨if b1 ≤ b2 then b1 else b2, by split <;> assumption, fun y y1 y2 => ?_⟩
    rw [k4' y (q2 y y1 (by split at y2 <;> grind)), p2 y (by grind) (by split at y2 <;> grind)]
  · obtain ⟨M, m0, m1, m2⟩ := far_all R hR
    obtain ⟨ph, hph⟩ := k1
    obtain ⟨N, n0, n1, n2⟩ := far_sg (p := ph) (nz_trim (by obtain ⟨x, hx⟩ := k2; exact ⟨x, by rw [← hph]; exact hx⟩))
    have hpn : Os.trim ph ≠ [] := nz_trim (by obtain ⟨x, hx⟩ := k2; exact ⟨x, by rw [← hph]; exact hx⟩)
    have sz : ∀ v : Rat, sg v = 0 ↔ v = 0 := fun v => by
      unfold sg
      by_cases c : v < 0
      · rw [if_pos c]; constructor
        · intro h; exact absurd h (by decide)
        · intro h; grind
      · rw [if_neg c]
        by_cases d : v = 0
        · rw [if_pos d]; exact ⟨fun _ => d, fun _ => rfl⟩
        · rw [if_neg d]; constructor
          · intro h; exact absurd h (by decide)
          · intro h; exact absurd h d
    have ln := lead_ne ph hpn
    have an : Os.atMinus ph ≠ 0 := by unfold Os.atMinus; split <;> grind
    refine ⟨M + N, by grind, fun x hx => ?_, fun x hx => ?_⟩
    · rw [← k4' x (fun h0 => an ((sz _).1 (by rw [← n1 x (by grind), ← hph, h0]; exact (sz 0).2 rfl)))]
      exact cf_congr _ _ _ (m1 x (by grind))
    · rw [← k4' x (fun h0 => ln ((sz _).1 (by rw [← n2 x (by grind), ← hph, h0]; exact (sz 0).2 rfl)))]
      exact cf_congr _ _ _ (m2 x (by grind))
/-- the specification's counts -/
theorem spec_count {p : Pol} (hp : Os.trim p ≠ []) : ∃ V : Rat → Nat, Count (ev (Os.single p)) V ∧ (∀ x, Os.changesFrom 0 ((Os.chain (Os.single p)).map fun r => ev r x) = V x) ∧ ∃ M : Rat, 0 < M ∧ (∀ x, x ≤ -M → V x = Os.changesFrom 0 ((Os.chain (Os.single p)).map Os.atMinus)) ∧ ∀ x, M ≤ x → V x = Os.changesFrom 0 ((Os.chain (Os.single p)).map Os.lead) := by
  have hs : Os.trim (Os.single p) ≠ [] := nz_trim (single_nz hp).1
  obtain ⟨c1, c2⟩ := chain_stu hs
  obtain ⟨h, dp, dq, V, k1, k2, k3, k4, ⟨k5, k6, k7, k8⟩, k9, k10⟩ := rows_count (pl_ev _) (single_nz hp).1 (der_slope (Os.single p)) (b := 1) (by decide) (fun x => by rw [Rat.one_mul]) c1 c2
  refine ⟨V, k3, fun x => k4 x fun h0 => ?_, k10⟩
  -- what is common to the single one and its slope is nowhere 0
  have hv : Van (fun q => q ≤ x) h := (van_at k1).2 h0
  rcases germ (ct_at x) with k | ⟨π, ρ, g⟩
  · exact k h k1 k2 hv
  · have sv : Van (fun q => q ≤ x) (ev (Os.single p)) := van_of (van_mul (ct_at x) k5 hv) k7
    obtain ⟨t, gs⟩ := single_gm hp (ct_at x) g ((single_van hp (ct_at x)).1 sv)
    have gd := gm_der (ct_at x) g (der_slope (Os.single p)) gs
    exact (gm_van (ct_at x) g gd).1 (van_of (van_mul (ct_at x) k6 hv) k8) rfl
end Desk

namespace Desk
/-! the program's rows over the whole numbers -/
def c2 (p : List Int) : Pol := p.map fun (n : Int) => (n : Rat)
def szN (p : List Int) : Nat → Nat
  | 0 => 0
  | n + 1 => if p.getD n 0 ≠ 0 then n + 1 else szN p n
def trimI (p : List Int) : List Int := p.take (szN p p.length)
def derivI (p : List Int) : List Int := (List.range (p.length - 1)).map fun i => ((i + 1 : Nat) : Int) * p.getD (i + 1) 0
def contI (p : List Int) : Int := p.foldl (fun d n => (Int.gcd n d : Int)) 0
def primI (p : List Int) : List Int := p.map fun n => n / contI p
def lastI (g : List Int) : Int := g.getD (g.length - 1) 0
def stepI (g : List Int) (top : Nat) (rest : List Int) : List Int := (List.range rest.length).map fun i => (lastI g).natAbs * rest.getD i 0 - (if i + g.length < top + 1 then 0 else rest.getD top 0 * (lastI g).sign * g.getD (i + g.length - (top + 1)) 0)
def remN (f g : List Int) : Nat → List Int
  | 0 => f
  | j + 1 => stepI g (f.length - 1 - j) (remN f g j)
def remI (f g : List Int) : List Int := trimI (remN f g (f.length + 1 - g.length))
def rowsF : Nat → List Int → List Int → List (List Int)
  | 0, p, _ => [p]
  | f + 1, p, q => if q = [] then [p] else p :: rowsF f q (primI ((remI p q).map fun n => -n))
def sturmI (p : List Int) : List (List Int) := rowsF (p.length + 1) (primI p) (primI (derivI p))
/-! facts -/
theorem c2_nil : c2 [] = [] := rfl
theorem c2_len (p : List Int) : (c2 p).length = p.length := List.length_map _
theorem c2_getD (p : List Int) (i : Nat) : (c2 p).getD i 0 = (p.getD i 0 : Rat) := by
  unfold c2
  rw [List.getD_eq_getElem?_getD, List.getD_eq_getElem?_getD, List.getElem?_map]
  cases p[i]? <;> rfl
theorem szN_le (p : List Int) : ∀ n, szN p n ≤ n
  | 0 => Nat.le_refl _
  | n + 1 => by
    unfold szN
    split
    · exact Nat.le_refl _
    · exact Nat.le_succ_of_le (szN_le p n)
theorem szN_zero (p : List Int) : ∀ n i, szN p n ≤ i → i < n → p.getD i 0 = 0
  | 0, i, _, h => absurd h (by omega)
  | n + 1, i, h1, h2 => by
    unfold szN at h1
    by_cases c : p.getD n 0 ≠ 0
    · rw [if_pos c] at h1; omega
    · rw [if_neg c] at h1
      by_cases e : i = n
      · rw [e]; exact Classical.byContradiction c
      · exact szN_zero p n i h1 (by omega)
theorem szN_last (p : List Int) : ∀ n, szN p n ≠ 0 → p.getD (szN p n - 1) 0 ≠ 0
  | 0, h => absurd rfl h
  | n + 1, h => by
    unfold szN at h ⊢
    by_cases c : p.getD n 0 ≠ 0
    · rw [if_pos c]; exact c
    · rw [if_neg c] at h ⊢; exact szN_last p n h
theorem trimI_len (p : List Int) : (trimI p).length = szN p p.length := by
  unfold trimI
  rw [List.length_take]
  have := szN_le p p.length
  omega
theorem trim_c2 (p : List Int) : Os.trim (c2 p) = c2 (trimI p) := by
  have hle := szN_le p p.length
  have e : c2 p = c2 (trimI p) ++ c2 (p.drop (szN p p.length)) := by
    unfold c2 trimI
    rw [← List.map_append, List.take_append_drop]
  have hz : Zr (c2 (p.drop (szN p p.length))) := by
    intro c hc
    obtain ⟨n, hn, rfl⟩ := List.mem_map.1 hc
    obtain ⟨i, hi, hi2⟩ := List.getElem_of_mem hn
    rw [List.getElem_drop] at hi2
    rw [List.length_drop] at hi
    have := szN_zero p p.length (szN p p.length + i) (by omega) (by omega)
    rw [List.getD_eq_getElem?_getD, List.getElem?_eq_getElem (by omega)] at this
    have h0 : n = 0 := by rw [← hi2]; exact this
    rw [h0]; rfl
  rw [e, trim_append_zr hz]
  by_cases h0 : szN p p.length = 0
  · have : trimI p = [] := by unfold trimI; rw [h0]; rfl
    rw [this]; rfl
  · have hl := szN_last p p.length h0
    obtain ⟨k, hk⟩ : ∃ k, szN p p.length = k + 1 := ⟨szN p p.length - 1, by omega⟩
    have e2 : trimI p = p.take k ++ [p.getD k 0] := by
      unfold trimI
      rw [hk, List.take_add_one, List.getD_eq_getElem?_getD]
      congr 1
      rw [List.getElem?_eq_getElem (by omega)]
      rfl
    have e3 : c2 (trimI p) = c2 (p.take k) ++ [((p.getD k 0 : Int) : Rat)] := by rw [e2]; unfold c2; rw [List.map_append]; rfl
    rw [e3]
    refine trim_of_last _ _ ?_
    rw [hk, Nat.add_sub_cancel] at hl
    intro h
    exact hl (Rat.intCast_eq_zero_iff.1 h)
theorem trimI_nil {p : List Int} : trimI p = [] ↔ Os.trim (c2 p) = [] := by
  rw [trim_c2]
  constructor
  · intro h; rw [h]; rfl
  · intro h; exact List.map_eq_nil_iff.1 h
/-- trimmed -/
def Tm (p : List Int) : Prop := Os.trim (c2 p) = c2 p
theorem tm_trimI (p : List Int) : Tm (trimI p) := by unfold Tm; rw [← trim_c2, trim_trim]
theorem tm_nil : Tm [] := rfl
theorem tm_last {p : List Int} : Tm p ↔ p = [] ∨ lastI p ≠ 0 := by
  unfold Tm
  rcases List.eq_nil_or_concat p with h | ⟨l, c, h⟩
  · subst h
    exact ⟨fun _ => .inl rfl, fun _ => rfl⟩
  · have hc : lastI p = c := by subst h; unfold lastI; simp
    have hp : p = l ++ [c] := by rw [h, List.concat_eq_append]
    have e : c2 p = c2 l ++ [(c : Rat)] := by rw [hp]; unfold c2; rw [List.map_append]; rfl
    rw [hc]
    constructor
    · intro h1
      right
      intro h0
      have : Os.trim (c2 p) = Os.trim (c2 l) := by
        rw [e, h0]
        exact trim_append_zr fun d hd => by rw [List.mem_singleton.1 hd]; rfl
      rw [this] at h1
      have h2 := trim_le (c2 l)
      rw [h1, e, List.length_append, List.length_singleton] at h2
      omega
    · intro h1
      rcases h1 with h1 | h1
      · rw [hp] at h1; simp at h1
      · rw [e]
        exact trim_of_last _ _ fun h0 => h1 (Rat.intCast_eq_zero_iff.1 h0)
theorem tm_nz {p : List Int} (h : Tm p) (h0 : p ≠ []) : Os.trim (c2 p) ≠ [] := by
  rw [h]
  intro h1
  exact h0 (List.map_eq_nil_iff.1 h1)
theorem deriv_c2 (p : List Int) : c2 (derivI p) = Os.slope (c2 p) := by
  unfold derivI Os.slope
  unfold c2
  rw [List.map_map, List.length_map]
  apply List.map_congr_left
  intro i _
  show ((((i + 1 : Nat) : Int) * p.getD (i + 1) 0 : Int) : Rat) = _
  have := c2_getD p (i + 1)
  unfold c2 at this
  rw [this, Rat.intCast_mul, Rat.intCast_natCast]
theorem tm_deriv {p : List Int} (h : Tm p) : Tm (derivI p) := by
  unfold Tm
  rw [deriv_c2]
  rcases List.eq_nil_or_concat p with h0 | ⟨l, c, h0⟩
  · subst h0; rfl
  · have hp : p = l ++ [c] := by rw [h0, List.concat_eq_append]
    by_cases hl : l = []
    · subst hl; subst hp; rfl
    · have e : c2 p = c2 l ++ [(c : Rat)] := by rw [hp]; unfold c2; rw [List.map_append]; rfl
      rw [e]
      refine (slope_trim _ _ ?_ ?_).1
      · intro hc
        have := tm_last.1 h
        rcases this with r | r
        · rw [hp] at r; simp at r
        · apply r
          have : lastI p = c := by rw [hp]; unfold lastI; simp
          rw [this]
          exact Rat.intCast_eq_zero_iff.1 hc
      · intro h1; exact hl (List.map_eq_nil_iff.1 h1)
/-! the content -/
theorem cont_fold (p : List Int) : ∀ d : Int, 0 ≤ d → 0 ≤ p.foldl (fun d n => (Int.gcd n d : Int)) d ∧ (p.foldl (fun d n => (Int.gcd n d : Int)) d ∣ d) ∧ ∀ n ∈ p, p.foldl (fun d n => (Int.gcd n d : Int)) d ∣ n := by
  induction p with
  | nil => intro d hd; exact ⟨hd, Int.dvd_refl _, fun n hn => by cases hn⟩
  | cons a p ih =>
    intro d hd
    obtain ⟨i1, i2, i3⟩ := ih (Int.gcd a d : Int) (by omega)
    refine ⟨i1, Int.dvd_trans i2 (Int.gcd_dvd_right ..), fun n hn => ?_⟩
    rcases List.mem_cons.1 hn with r | r
    · rw [r]; exact Int.dvd_trans i2 (Int.gcd_dvd_left ..)
    · exact i3 n r
theorem cont_nn (p : List Int) : 0 ≤ contI p := (cont_fold p 0 (by omega)).1
theorem cont_dvd {p : List Int} {n : Int} (h : n ∈ p) : contI p ∣ n := (cont_fold p 0 (by omega)).2.2 n h
theorem cont_pos {p : List Int} (h : Tm p) (h0 : p ≠ []) : 0 < contI p := by
  have := cont_nn p
  rcases Int.lt_or_eq_of_le this with r | r
  · exact r
  · exfalso
    rcases tm_last.1 h with q | q
    · exact h0 q
    · apply q
      have hm : lastI p ∈ p := by
        unfold lastI
        have : 0 < p.length := List.length_pos_iff.2 h0
        rw [List.getD_eq_getElem?_getD, List.getElem?_eq_getElem (by omega)]
        exact List.getElem_mem _
      have := cont_dvd hm
      rw [← r] at this
      exact Int.zero_dvd.1 this
theorem prim_mul (p : List Int) (h : Tm p) (x : Rat) : ev (c2 p) x = (contI p : Rat) * ev (c2 (primI p)) x := by
  by_cases h0 : p = []
  · subst h0; show (0 : Rat) = _ * 0; grind
  have hp := cont_pos h h0
  rw [← ev_map]
  congr 1
  unfold primI c2
  rw [List.map_map, List.map_map]
  apply List.map_congr_left
  intro n hn
  show (n : Rat) = (contI p : Rat) * ((n / contI p : Int) : Rat)
  rw [← Rat.intCast_mul, Int.mul_ediv_cancel' (cont_dvd hn)]
theorem prim_len (p : List Int) : (primI p).length = p.length := List.length_map _
theorem tm_prim {p : List Int} (h : Tm p) : Tm (primI p) := by
  rw [tm_last] at h ⊢
  rcases h with r | r
  · left; rw [r]; rfl
  · right
    by_cases h0 : p = []
    · rw [h0] at r; exact absurd rfl r
    have hp := cont_pos (tm_last.2 (.inr r)) h0
    have hl : 0 < p.length := List.length_pos_iff.2 h0
    have e : lastI (primI p) = lastI p / contI p := by
      unfold lastI primI
      rw [List.length_map, List.getD_eq_getElem?_getD, List.getD_eq_getElem?_getD, List.getElem?_map, List.getElem?_eq_getElem (by omega)]
      rfl
    rw [e]
    intro hz
    have hm : lastI p ∈ p := by
      unfold lastI
      rw [List.getD_eq_getElem?_getD, List.getElem?_eq_getElem (by omega)]
      exact List.getElem_mem _
    have := Int.mul_ediv_cancel' (cont_dvd hm)
    rw [hz] at this
    apply r
    rw [← this]; simp
theorem tm_neg {p : List Int} (h : Tm p) : Tm (p.map fun n => -n) := by
  rw [tm_last] at h ⊢
  rcases h with r | r
  · left; rw [r]; rfl
  · right
    by_cases h0 : p = []
    · rw [h0] at r; exact absurd rfl r
    have hl : 0 < p.length := List.length_pos_iff.2 h0
    have e : lastI (p.map fun n => -n) = -lastI p := by
      unfold lastI
      rw [List.length_map, List.getD_eq_getElem?_getD, List.getD_eq_getElem?_getD, List.getElem?_map, List.getElem?_eq_getElem (by omega)]
      rfl
    rw [e]
    omega
theorem neg_c2 (p : List Int) (x : Rat) : ev (c2 (p.map fun n => -n)) x = -(ev (c2 p) x) := by
  rw [← ev_negp]
  congr 1
  unfold c2
  rw [List.map_map, List.map_map]
  apply List.map_congr_left
  intro n _
  show ((-n : Int) : Rat) = -(n : Rat)
  rw [Rat.intCast_neg]
/-! the remainder -/
theorem step_len (g : List Int) (top : Nat) (rest : List Int) : (stepI g top rest).length = rest.length := by unfold stepI; rw [List.length_map, List.length_range]
theorem remN_len (f g : List Int) : ∀ j, (remN f g j).length = f.length
  | 0 => rfl
  | j + 1 => by show (stepI g (f.length - 1 - j) (remN f g j)).length = _; rw [step_len, remN_len f g j]
theorem step_ev (g rest : List Int) (top : Nat) (h1 : g.length ≤ top + 1) (h2 : top < rest.length) (x : Rat) : ev (c2 (stepI g top rest)) x = ((lastI g).natAbs : Int) * ev (c2 rest) x - ((rest.getD top 0 * (lastI g).sign : Int) : Rat) * x ^ (top + 1 - g.length) * ev (c2 g) x := by
  have e : c2 (stepI g top rest) = (List.range rest.length).map fun i => (((lastI g).natAbs : Int) : Rat) * (c2 rest).getD i 0 - (if i < top + 1 - g.length then 0 else ((rest.getD top 0 * (lastI g).sign : Int) : Rat) * (c2 g).getD (i - (top + 1 - g.length)) 0) := by
    unfold stepI
    show ((List.range rest.length).map _).map (fun (n : Int) => (n : Rat)) = _
    rw [List.map_map]
    apply List.map_congr_left
    intro i _
    show ((((lastI g).natAbs : Int) * rest.getD i 0 - (if i + g.length < top + 1 then 0 else rest.getD top 0 * (lastI g).sign * g.getD (i + g.length - (top + 1)) 0) : Int) : Rat) = _
    rw [Rat.intCast_sub, Rat.intCast_mul, c2_getD, c2_getD]
    congr 1
    by_cases c : i + g.length < top + 1
    · rw [if_pos c, if_pos (by omega)]; rfl
    · rw [if_neg c, if_neg (by omega), Rat.intCast_mul, show i + g.length - (top + 1) = i - (top + 1 - g.length) by omega]
  rw [e, ev_range_add, ev_range_mul, ev_getD _ _ (by rw [c2_len]; exact Nat.le_refl _)]
  congr 1
  generalize hk : top + 1 - g.length = k
  have hn : rest.length = k + (rest.length - k) := by omega
  have sh := ev_shift k (rest.length - k) (fun i => ((rest.getD top 0 * (lastI g).sign : Int) : Rat) * (c2 g).getD i 0) x
  rw [hn, sh, ev_range_mul, ev_getD _ _ (by rw [c2_len]; omega)]
  grind
theorem rem_inv (f g : List Int) (hg : lastI g ≠ 0) : ∀ j, j ≤ f.length + 1 - g.length → (∃ (a : Rat) (Q : Rat → Rat), 0 < a ∧ Pl Q ∧ ∀ x, ev (c2 (remN f g j)) x = a * ev (c2 f) x - Q x * ev (c2 g) x) ∧ ∀ i, f.length - j ≤ i → (remN f g j).getD i 0 = 0 := by
  have hgl : 0 < g.length := by
    apply Nat.pos_of_ne_zero
    intro h0
    apply hg
    rw [List.eq_nil_of_length_eq_zero h0]
    rfl
  intro j
  induction j with
  | zero =>
    intro _
    refine ⟨⟨1, fun _ => 0, by decide, pl_const 0, fun x => by show ev (c2 f) x = _; grind⟩, fun i hi => ?_⟩
    show f.getD i 0 = 0
    rw [List.getD_eq_getElem?_getD, List.getElem?_eq_none (by omega)]
    rfl
  | succ j ih =>
    intro hj
    obtain ⟨⟨a, Q, ha, pQ, hQ⟩, hz⟩ := ih (by omega)
    have hl := remN_len f g j
    have hA : (0 : Rat) < (((lastI g).natAbs : Int) : Rat) := Rat.intCast_pos.2 (by omega)
    refine ⟨⟨(((lastI g).natAbs : Int) : Rat) * a, fun x => (((lastI g).natAbs : Int) : Rat) * Q x + (((remN f g j).getD (f.length - 1 - j) 0 * (lastI g).sign : Int) : Rat) * x ^ (f.length - 1 - j + 1 - g.length), Rat.mul_pos hA ha, ?_, fun x => ?_⟩, fun i hi => ?_⟩
    · exact pl_add (pl_smul _ pQ) (pl_smul _ (pl_pow pl_id _))
    · show ev (c2 (stepI g (f.length - 1 - j) (remN f g j))) x = _
      rw [step_ev g _ _ (by omega) (by omega), hQ]
      grind
    · show (stepI g (f.length - 1 - j) (remN f g j)).getD i 0 = 0
      unfold stepI
      rw [List.getD_eq_getElem?_getD, List.getElem?_map]
      by_cases hi2 : i < (remN f g j).length
      · rw [List.getElem?_range hi2]
        show ((lastI g).natAbs : Int) * (remN f g j).getD i 0 - (if i + g.length < f.length - 1 - j + 1 then 0 else _) = 0
        rw [if_neg (by omega)]
        by_cases e : i = f.length - 1 - j
        · rw [e, show f.length - 1 - j + g.length - (f.length - 1 - j + 1) = g.length - 1 by omega]
          have : g.getD (g.length - 1) 0 = lastI g := rfl
          rw [this]
          have h4 : (lastI g).sign * lastI g = ((lastI g).natAbs : Int) := Int.sign_mul_self _
          rw [Int.mul_assoc, h4, Int.mul_comm]
          omega
        · rw [hz i (by omega)]
          rw [show g.getD (i + g.length - (f.length - 1 - j + 1)) 0 = 0 by rw [List.getD_eq_getElem?_getD, List.getElem?_eq_none (by omega)]; rfl]
          simp
      · rw [List.getElem?_eq_none (by rw [List.length_range]; omega)]
        rfl
theorem remI_len (f g : List Int) (hg : lastI g ≠ 0) : (remI f g).length < g.length := by
  have hgl : 0 < g.length := by
    apply Nat.pos_of_ne_zero
    intro h0
    apply hg
    rw [List.eq_nil_of_length_eq_zero h0]
    rfl
  have h := (rem_inv f g hg (f.length + 1 - g.length) (Nat.le_refl _)).2
  unfold remI
  rw [trimI_len]
  generalize remN f g (f.length + 1 - g.length) = r at h
  apply Classical.byContradiction
  intro hc
  have h0 : szN r r.length ≠ 0 := by omega
  have := szN_last r r.length h0
  apply this
  by_cases hfg : f.length + 1 ≤ g.length
  · exact h _ (by
      omega)
  · exact h _ (by omega)
/-! the rows are a chain -/
theorem rows_stu : ∀ (n : Nat) (p q : List Int), q.length < n → Tm p → p ≠ [] → Tm q → Stu Nz (ev (c2 p)) (ev (c2 q)) ((rowsF n p q).map fun r => ev (c2 r)) ∧ ∀ r ∈ rowsF n p q, Tm r ∧ r ≠ [] := by
  intro n
  induction n with
  | zero => intro p q h; omega
  | succ n ih =>
    intro p q hn hp hp0 hq
    unfold rowsF
    by_cases h0 : q = []
    · rw [if_pos h0]
      subst h0
      exact ⟨.last (pl_ev _) (trim_nz (tm_nz hp hp0)) fun x => rfl, fun r hr => by rw [List.mem_singleton.1 hr]; exact ⟨hp, hp0⟩⟩
    · rw [if_neg h0]
      have hl : lastI q ≠ 0 := by
        rcases tm_last.1 hq with r | r
        · exact absurd r h0
        · exact r
      obtain ⟨⟨a, Q, ha, pQ, hQ⟩, _⟩ := rem_inv p q hl (p.length + 1 - q.length) (Nat.le_refl _)
      have tr : Tm ((remI p q).map fun n => -n) := tm_neg (tm_trimI _)
      obtain ⟨i1, i2⟩ := ih q (primI ((remI p q).map fun n => -n)) (by rw [prim_len, List.length_map]; have := remI_len p q hl; omega) hq h0 (tm_prim tr)
      have er : ∀ x, ev (c2 (remI p q)) x = a * ev (c2 p) x - Q x * ev (c2 q) x := fun x => by
        unfold remI
        rw [← trim_c2, ev_trim, hQ]
      by_cases hz : (remI p q) = []
      · -- the rest is nothing
        refine ⟨.step (a := a) (Q := Q) (pl_ev _) (pl_ev _) pQ ha (fun x => ?_) i1, ?_⟩
        · have := er x
          rw [hz] at this ⊢
          show _ = _ - (0 : Rat)
          have h : (0 : Rat) = a * ev (c2 p) x - Q x * ev (c2 q) x := this
          grind
        · intro r hr
          rcases List.mem_cons.1 hr with h | h
          · rw [h]; exact ⟨hp, hp0⟩
          · exact i2 r h
      · have hm0 : (remI p q).map (fun n => -n) ≠ [] := fun h => hz (List.map_eq_nil_iff.1 h)
        have cp := cont_pos tr hm0
        have cpr : (0 : Rat) < (contI ((remI p q).map fun n => -n) : Rat) := Rat.intCast_pos.2 cp
        generalize hd : contI ((remI p q).map fun n => -n) = d at cpr
        have hdi : (0 : Rat) < 1 / (d : Rat) := by rw [Rat.lt_div_iff cpr]; grind
        have hd1 : 1 / (d : Rat) * (d : Rat) = 1 := Rat.div_mul_cancel (by grind)
        refine ⟨.step (a := 1 / (d : Rat) * a) (Q := fun x => 1 / (d : Rat) * Q x) (pl_ev _) (pl_ev _) (pl_smul _ pQ) (Rat.mul_pos hdi ha) (fun x => ?_) i1, ?_⟩
        · have h1 := prim_mul _ tr x
          rw [neg_c2, er, hd] at h1
          generalize ev (c2 (primI ((remI p q).map fun n => -n))) x = v at h1 ⊢
          have h2 : v = 1 / (d : Rat) * (d : Rat) * v := by rw [hd1, Rat.one_mul]
          grind
        · intro r hr
          rcases List.mem_cons.1 hr with h | h
          · rw [h]; exact ⟨hp, hp0⟩
          · exact i2 r h
end Desk

namespace Desk
/-! counting at a point -/
def horI (m : Int) (s : Nat) : List Int → Int × List Int
  | [] => (0, [])
  | [a] => (a, [])
  | a :: b :: p => ((horI m s (b :: p)).1 * m * 2 ^ s + a, (horI m s (b :: p)).1 :: (horI m s (b :: p)).2)
def aboveF (m : Int) (s : Nat) : Nat → List Int → Int
  | 0, _ => 0
  | f + 1, p => if p = [] then 0 else if (horI m s p).1 ≠ 0 then (horI m s p).1.sign else aboveF m s f (horI m s p).2
def aboveI (m : Int) (s : Nat) (p : List Int) : Int := aboveF m s p.length p
def farI (p : List Int) : Int := if p.length % 2 = 0 then -(lastI p).sign else (lastI p).sign
def chgI (l : List Int) : Nat := Os.changesFrom 0 (c2 l)
def zerosUpTo (rows : List (List Int)) (m : Int) (s : Nat) : Int := (chgI (rows.map farI) : Int) - (chgI (rows.map (aboveI m s)) : Int)
def zerosAll (rows : List (List Int)) : Int := (chgI (rows.map farI) : Int) - (chgI (rows.map lastI) : Int)
def sideZ (rows : List (List Int)) (number : Int) : Side := fun m s => if number > zerosUpTo rows m s then 1 else if number = zerosUpTo rows m s ∧ polyVal (rows.getD 0 []) m s = 0 then 0 else -1
def rootsOf (mode : Int) (p : List Int) : List Int :=
  if badList mode p 6 = true then [-1]
  else if trimI (p.map unitsOf) = [] then [-2]
  else answer mode ((List.range (zerosAll ((sturmI (trimI (p.map unitsOf))).map stretched)).toNat).map fun (k : Nat) => sideZ ((sturmI (trimI (p.map unitsOf))).map stretched) ((k : Int) + 1))
theorem c2_cons (a : Int) (p : List Int) : c2 (a :: p) = (a : Rat) :: c2 p := rfl
theorem hor_len (m : Int) (s : Nat) : ∀ p : List Int, (horI m s p).2.length = p.length - 1
  | [] => rfl
  | [a] => rfl
  | a :: b :: p => by
    show ((horI m s (b :: p)).1 :: (horI m s (b :: p)).2).length = _
    rw [List.length_cons, hor_len m s (b :: p)]
    simp
theorem hor_ev (m : Int) (s : Nat) (y : Rat) : ∀ p : List Int, ev (c2 p) y = ((horI m s p).1 : Rat) + (y - ((m * 2 ^ s : Int) : Rat)) * ev (c2 (horI m s p).2) y
  | [] => by
    show (0 : Rat) = ((0 : Int) : Rat) + _ * 0
    rw [Rat.mul_zero, Rat.add_zero]; rfl
  | [a] => by
    show (a : Rat) + y * 0 = (a : Rat) + (y - ((m * 2 ^ s : Int) : Rat)) * 0
    rw [Rat.mul_zero, Rat.mul_zero]
  | a :: b :: p => by
    have ih := hor_ev m s y (b :: p)
    rw [c2_cons a (b :: p), ev_cons, ih]
    show _ = (((horI m s (b :: p)).1 * m * 2 ^ s + a : Int) : Rat) + _ * ev (c2 ((horI m s (b :: p)).1 :: (horI m s (b :: p)).2)) y
    rw [c2_cons (horI m s (b :: p)).1 _, ev_cons, Int.mul_assoc, Rat.intCast_add, Rat.intCast_mul _ (m * 2 ^ s)]
    generalize ((m * 2 ^ s : Int) : Rat) = X
    grind
theorem sg_zero : sg 0 = 0 := by unfold sg; rw [if_neg (by decide), if_pos rfl]
theorem sg_pos {x : Rat} (h : 0 < x) : sg x = 1 := by unfold sg; rw [if_neg (by grind), if_neg (by grind)]
theorem sg_sign (n : Int) : sg ((n.sign : Int) : Rat) = sg (n : Rat) := by
  rcases Int.lt_trichotomy n 0 with h | h | h
  · rw [Int.sign_eq_neg_one_of_neg h]
    have h1 := Rat.intCast_neg_iff.mpr h
    unfold sg
    rw [if_pos h1, if_pos (by decide)]
  · rw [h]; rfl
  · rw [Int.sign_eq_one_of_pos h, sg_pos (Rat.intCast_pos.2 h)]
    exact sg_pos (by decide)
/-- the sign just above a point -/
theorem above_right (m : Int) (s : Nat) : ∀ (f : Nat) (p : List Int), p.length ≤ f → ∃ b : Rat, ((m * 2 ^ s : Int) : Rat) < b ∧ ∀ y, ((m * 2 ^ s : Int) : Rat) < y → y ≤ b → sg (ev (c2 p) y) = sg ((aboveF m s f p : Int) : Rat) := by
  generalize hX : ((m * 2 ^ s : Int) : Rat) = X
  intro f
  induction f with
  | zero =>
    intro p hp
    have : p = [] := List.eq_nil_of_length_eq_zero (by omega)
    subst this
    exact ⟨X + 1, by grind, fun y _ _ => rfl⟩
  | succ f ih =>
    intro p hp
    by_cases h0 : p = []
    · subst h0
      exact ⟨X + 1, by grind, fun y _ _ => by unfold aboveF; rw [if_pos rfl]; rfl⟩
    unfold aboveF
    rw [if_neg h0]
    have hv := fun y => hor_ev m s y p
    rw [hX] at hv
    by_cases ht : (horI m s p).1 ≠ 0
    · rw [if_pos ht, sg_sign]
      have hx : ev (c2 p) X = ((horI m s p).1 : Rat) := by rw [hv]; grind
      have hne : ev (c2 p) X ≠ 0 := by rw [hx]; exact fun h => ht (Rat.intCast_eq_zero_iff.1 h)
      rcases trich (ct_at X) (pl_ev (c2 p)) with v | ⟨t, ht, hs⟩
      · exact absurd ((van_at (pl_ev _)).1 v) hne
      · obtain ⟨k0, b, hb, k⟩ := near_at (sg_near ht hs)
        exact ⟨b, hb, fun y h1 h2 => by rw [k y (Rat.le_of_lt h1) h2, ← hx, k0]⟩
    · rw [if_neg ht]
      have ht : (horI m s p).1 = 0 := Classical.byContradiction ht
      obtain ⟨b, hb, k⟩ := ih (horI m s p).2 (by
        rw [hor_len]; omega)
      refine ⟨b, hb, fun y h1 h2 => ?_⟩
      rw [hv, ht]
      have e : (((0 : Int) : Rat)) + (y - X) * ev (c2 (horI m s p).2) y = (y - X) * ev (c2 (horI m s p).2) y := by
        show (0 : Rat) + _ = _
        rw [Rat.zero_add]
      rw [e, sg_mulr, sg_pos (by grind), k y h1 h2, Rat.one_mul]
/-! units -/
theorem stretched_len (p : List Int) : (stretched p).length = p.length := by unfold stretched; rw [List.length_map, List.length_range]
theorem stretched_ev (y : Rat) : ∀ p : List Int, ev (c2 (stretched p)) (y * UP) * UP = UP ^ p.length * ev (c2 p) y
  | [] => by
    show (0 : Rat) * UP = _ * 0
    rw [Rat.zero_mul, Rat.mul_zero]
  | c :: p => by
    have ih := stretched_ev y p
    rw [stretched_cons, c2_cons, c2_cons, ev_cons, ev_cons, Rat.intCast_mul, UP_pow, List.length_cons, Rat.pow_succ]
    generalize UP ^ p.length = u at ih ⊢
    grind
theorem UP_pow_pos (n : Nat) : (0 : Rat) < UP ^ n := Rat.pow_pos UP_pos
theorem stretched_sg (y : Rat) (p : List Int) : sg (ev (c2 (stretched p)) (y * UP)) = sg (ev (c2 p) y) := by
  have h := congrArg sg (stretched_ev y p)
  rw [sg_mulr, sg_mulr, sg_pos UP_pos, sg_pos (UP_pow_pos _), Rat.mul_one, Rat.one_mul] at h
  exact h
theorem stretched_last (p : List Int) : lastI (stretched p) = lastI p := by
  unfold lastI
  rw [stretched_len]
  by_cases h : p = []
  · subst h; rfl
  · have hl : 0 < p.length := List.length_pos_iff.2 h
    unfold stretched
    rw [List.getD_eq_getElem?_getD, List.getElem?_map, List.getElem?_range (by omega)]
    show p.getD (p.length - 1) 0 * 2 ^ (1075 * (p.length - 1 - (p.length - 1))) = _
    rw [Nat.sub_self]
    show p.getD (p.length - 1) 0 * 1 = _
    rw [Int.mul_one]
theorem polyVal_ev (m : Int) (s : Nat) : ∀ p : List Int, ((polyVal p m s : Int) : Rat) = ev (c2 p) ((m * 2 ^ s : Int) : Rat)
  | [] => rfl
  | c :: p => by
    have ih := polyVal_ev m s p
    rw [c2_cons, ev_cons, ← ih, ← Rat.intCast_mul]
    show ((polyVal p m s * m * 2 ^ s + c : Int) : Rat) = _
    rw [← Rat.intCast_add]
    congr 1
    rw [Int.mul_assoc, Int.mul_comm, Int.add_comm]
theorem poly_zero (m : Int) (s : Nat) (p : List Int) : polyVal (stretched p) m s = 0 ↔ ev (c2 p) (((m * 2 ^ s : Int) : Rat) / UP) = 0 := by
  have h := stretched_ev (((m * 2 ^ s : Int) : Rat) / UP) p
  rw [Rat.div_mul_cancel UP_ne, ← polyVal_ev] at h
  have hp := UP_pow_pos p.length
  constructor
  · intro h0
    rw [h0] at h
    have : UP ^ p.length * ev (c2 p) (((m * 2 ^ s : Int) : Rat) / UP) = 0 := by rw [← h]; exact Rat.zero_mul _
    rcases Rat.mul_eq_zero.1 this with r | r
    · grind
    · exact r
  · intro h0
    rw [h0, Rat.mul_zero] at h
    rcases Rat.mul_eq_zero.1 h with r | r
    · exact Rat.intCast_eq_zero_iff.1 r
    · exact absurd r UP_ne
theorem rows_above (m : Int) (s : Nat) : ∀ R : List (List Int), ∃ b : Rat, ((m * 2 ^ s : Int) : Rat) / UP < b ∧ ∀ y, ((m * 2 ^ s : Int) : Rat) / UP < y → y ≤ b → (R.map fun r => ev (c2 r) y).map sg = (c2 ((R.map stretched).map (aboveI m s))).map sg
  | [] => ⟨((m * 2 ^ s : Int) : Rat) / UP + 1, by grind, fun _ _ _ => rfl⟩
  | r :: R => by
    obtain ⟨b1, p1, p2⟩ := rows_above m s R
    obtain ⟨b2, q1, q2⟩ := above_right m s (stretched r).length (stretched r) (Nat.le_refl _)
    have q3 : ((m * 2 ^ s : Int) : Rat) / UP < b2 / UP := by
      rw [Rat.div_lt_iff UP_pos, Rat.div_mul_cancel UP_ne]
      exact q1
    refine ⟨if b1 ≤ b2 / UP then b1 else b2 / UP, by split <;> assumption, fun y h1 h2 => ?_⟩
    show sg (ev (c2 r) y) :: _ = sg ((aboveI m s (stretched r) : Int) : Rat) :: _
    rw [p2 y h1 (by split at h2 <;> grind)]
    congr 1
    rw [← stretched_sg]
    refine q2 (y * UP) ?_ ?_
    · exact (Rat.div_lt_iff UP_pos).1 h1
    · have : y ≤ b2 / UP := by split at h2 <;> grind
      have h3 := Rat.mul_le_mul_of_nonneg_right this (Rat.le_of_lt UP_pos)
      rw [Rat.div_mul_cancel UP_ne] at h3
      exact h3
theorem sg_negr (x : Rat) : sg (-x) = -(sg x) := by
  have : -x = -1 * x := by grind
  rw [this, sg_mulr]
  have : sg (-1) = -1 := by unfold sg; rw [if_pos (by decide)]
  rw [this]
  grind
theorem lead_c2 {r : List Int} (h : Tm r) (h0 : r ≠ []) : Os.lead (c2 r) = (lastI r : Rat) := by
  have hl : 0 < r.length := List.length_pos_iff.2 h0
  have := getD_lead (c2 r) (tm_nz h h0)
  rw [← this, h, c2_len, c2_getD]
  rfl
theorem far_sg2 {r : List Int} (h : Tm r) (h0 : r ≠ []) : sg (Os.atMinus (c2 r)) = sg ((farI (stretched r) : Int) : Rat) := by
  unfold Os.atMinus farI
  rw [lead_c2 h h0, h, c2_len, stretched_len, stretched_last]
  by_cases c : r.length % 2 = 0
  · rw [if_pos c, if_pos c, Rat.intCast_neg, sg_negr, sg_negr, sg_sign]
  · rw [if_neg c, if_neg c, sg_sign]
theorem rows_far : ∀ R : List (List Int), (∀ r ∈ R, Tm r ∧ r ≠ []) → ((R.map c2).map Os.atMinus).map sg = (c2 ((R.map stretched).map farI)).map sg ∧ ((R.map c2).map Os.lead).map sg = (c2 ((R.map stretched).map lastI)).map sg
  | [], _ => ⟨rfl, rfl⟩
  | r :: R, h => by
    have ih := rows_far R fun q hq => h q (List.mem_cons_of_mem _ hq)
    have hr := h r (List.mem_cons_self ..)
    constructor
    · show sg (Os.atMinus (c2 r)) :: _ = sg ((farI (stretched r) : Int) : Rat) :: _
      rw [ih.1, far_sg2 hr.1 hr.2]
      rfl
    · show sg (Os.lead (c2 r)) :: _ = sg ((lastI (stretched r) : Int) : Rat) :: _
      rw [ih.2, lead_c2 hr.1 hr.2, stretched_last]
      rfl
theorem rowsF_head (n : Nat) (p q : List Int) : ∃ t, rowsF n p q = p :: t := by
  cases n with
  | zero => exact ⟨[], rfl⟩
  | succ n =>
    unfold rowsF
    split
    · exact ⟨[], rfl⟩
    · exact ⟨_, rfl⟩
theorem der_smul (c : Rat) {f g : Rat → Rat} (h : Der f g) (bf : Bd f) (bg : Bd g) : Der (fun x => c * f x) (fun x => c * g x) := by
  have := der_mul (der_const c) h (bd_const c) bf (bd_const 0) bg
  have e : (fun x => 0 * f x + c * g x) = fun x => c * g x := by funext x; grind
  rw [e] at this
  exact this
theorem van_smul {L : Rat → Prop} (hL : Ct L) {c : Rat} (hc : c ≠ 0) {f : Rat → Rat} (hf : Pl f) : Van L (fun x => c * f x) ↔ Van L f := by
  constructor
  · intro h
    refine van_of (van_mul hL (pl_const (1 / c)) h) fun x => ?_
    have : 1 / c * c = 1 := Rat.div_mul_cancel hc
    have e : 1 / c * (c * f x) = 1 / c * c * f x := by grind
    rw [e, this, Rat.one_mul]
  · intro h
    exact van_mul hL (pl_const c) h
/-- the program's count is the specification's -/
theorem roots_count {w : List Int} {q : Pol} {k : Rat} (hk : 0 < k) (hw : Tm w) (hw0 : w ≠ []) (hq : ∀ x, ev (c2 w) x = k * ev q x) (hq0 : Os.trim q ≠ []) :
    (∀ m s, zerosUpTo ((sturmI w).map stretched) m s = (Os.upTo (Os.chain (Os.single q)) (((m * 2 ^ s : Int) : Rat) / UP) : Int)) ∧ zerosAll ((sturmI w).map stretched) = (Os.howMany (Os.chain (Os.single q)) : Int) ∧
    (∀ m s, polyVal (((sturmI w).map stretched).getD 0 []) m s = 0 ↔ ev (Os.single q) (((m * 2 ^ s : Int) : Rat) / UP) = 0) ∧
    ∀ (i : Nat) r r', r < r' → Os.zeroAt (Os.single q) (Os.chain (Os.single q)) i r = 0 → Os.zeroAt (Os.single q) (Os.chain (Os.single q)) i r' < 0 := by
  have cw := cont_pos hw hw0
  have cwr : (0 : Rat) < (contI w : Rat) := Rat.intCast_pos.2 cw
  have tp := tm_prim hw
  have tp0 : primI w ≠ [] := fun h => hw0 (List.map_eq_nil_iff.1 h)
  have ci : 1 / (contI w : Rat) * (contI w : Rat) = 1 := Rat.div_mul_cancel (by grind)
  have cip : (0 : Rat) < 1 / (contI w : Rat) := by rw [Rat.lt_div_iff cwr]; grind
  have ef : ∀ x, ev (c2 (primI w)) x = 1 / (contI w : Rat) * ev (c2 w) x := fun x => by
    rw [prim_mul w hw]
    generalize ev (c2 (primI w)) x = v
    have : 1 / (contI w : Rat) * ((contI w : Rat) * v) = 1 / (contI w : Rat) * (contI w : Rat) * v := by grind
    rw [this, ci, Rat.one_mul]
  obtain ⟨st, all⟩ := rows_stu (w.length + 1) (primI w) (primI (derivI w)) (by rw [prim_len]; unfold derivI; rw [List.length_map, List.length_range]; omega) tp tp0 (tm_prim (tm_deriv hw))
  have hd : Der (ev (c2 (primI w))) (fun x => 1 / (contI w : Rat) * ev (Os.slope (c2 w)) x) := by
    have := der_smul (1 / (contI w : Rat)) (der_slope (c2 w)) (bd_ev _) (bd_ev _)
    rw [show ev (c2 (primI w)) = fun x => 1 / (contI w : Rat) * ev (c2 w) x from funext ef]
    exact this
  have hf1 : ∃ b : Rat, 0 < b ∧ ∀ x, ev (c2 (primI (derivI w))) x = b * (1 / (contI w : Rat) * ev (Os.slope (c2 w)) x) := by
    by_cases h0 : derivI w = []
    · refine ⟨1, by decide, fun x => ?_⟩
      rw [← deriv_c2, h0]
      show (0 : Rat) = 1 * (_ * 0)
      grind
    · have cd := cont_pos (tm_deriv hw) h0
      have cdr : (0 : Rat) < (contI (derivI w) : Rat) := Rat.intCast_pos.2 cd
      have di : 1 / (contI (derivI w) : Rat) * (contI (derivI w) : Rat) = 1 := Rat.div_mul_cancel (by grind)
      have dip : (0 : Rat) < 1 / (contI (derivI w) : Rat) := by rw [Rat.lt_div_iff cdr]; grind
      refine ⟨(contI w : Rat) * (1 / (contI (derivI w) : Rat)), Rat.mul_pos cwr dip, fun x => ?_⟩
      rw [← deriv_c2, prim_mul _ (tm_deriv hw)]
      generalize ev (c2 (primI (derivI w))) x = v
      generalize (1 / (contI (derivI w) : Rat)) = a at di ⊢
      generalize (1 / (contI w : Rat)) = b at ci ⊢
      have : (contI w : Rat) * a * (b * ((contI (derivI w) : Rat) * v)) = (b * (contI w : Rat)) * (a * (contI (derivI w) : Rat)) * v := by grind
      rw [this, ci, di]
      grind
  obtain ⟨b, hb, h1⟩ := hf1
  have st' : Stu Nz (ev (c2 (primI w))) (ev (c2 (primI (derivI w)))) (((sturmI w).map c2).map ev) := by
    rw [List.map_map]
    exact st
  obtain ⟨h, dp, dq, V, k1, k2, k3, k4, k5, k6, M, m0, m1, m2⟩ := rows_count (pl_ev _) (trim_nz (tm_nz tp tp0)) hd hb h1 st' (fun r hr => by
    obtain ⟨r', hr', rfl⟩ := List.mem_map.1 hr
    exact tm_nz (all r' hr').1 (all r' hr').2)
  obtain ⟨W, w1, w2, N, n0, n1, n2⟩ := spec_count hq0
  have ns := (single_nz hq0).1
  have nf := trim_nz (tm_nz tp tp0)
  have same : ∀ L, Ct L → (Van L (ev (c2 (primI w))) ↔ Van L (ev (Os.single q))) := fun L hL => by
    rw [single_van hq0 hL, show ev (c2 (primI w)) = fun x => (1 / (contI w : Rat) * k) * ev q x from funext fun x => by rw [ef, hq]; grind]
    exact van_smul hL (by have := Rat.mul_pos cip hk; grind) (pl_ev q)
  have cs := fun x y => count_same (pl_ev _) nf k3 (pl_ev _) ns w1 same x y
  have fa := rows_far (sturmI w) all
  have F1 : chgI (((sturmI w).map stretched).map farI) = Os.changesFrom 0 (((sturmI w).map c2).map Os.atMinus) := (cf_congr _ _ _ fa.1).symm
  have F2 : chgI (((sturmI w).map stretched).map lastI) = Os.changesFrom 0 (((sturmI w).map c2).map Os.lead) := (cf_congr _ _ _ fa.2).symm
  have up : ∀ x, (Os.upTo (Os.chain (Os.single q)) x : Int) = (Os.changesFrom 0 ((Os.chain (Os.single q)).map Os.atMinus) : Int) - (W x : Int) := fun x => by
    have e : Os.upTo (Os.chain (Os.single q)) x = Os.changesFrom 0 ((Os.chain (Os.single q)).map Os.atMinus) - W x := by rw [← w2]; rfl
    have le : W x ≤ Os.changesFrom 0 ((Os.chain (Os.single q)).map Os.atMinus) := by
      by_cases c : x ≤ -N
      · rw [n1 x c]; exact Nat.le_refl _
      · rw [← n1 (-N) Rat.le_refl]
        exact count_mono (pl_ev _) ns w1 (by grind)
    omega
  refine ⟨fun m s => ?_, ?_, fun m s => ?_, fun i r r' hr h0 => ?_⟩
  · rw [up]
    unfold zerosUpTo
    rw [F1]
    have hV : chgI (((sturmI w).map stretched).map (aboveI m s)) = V (((m * 2 ^ s : Int) : Rat) / UP) := by
      obtain ⟨b1, p1, p2⟩ := k6 (((m * 2 ^ s : Int) : Rat) / UP)
      obtain ⟨b2, q1, q2⟩ := rows_above m s (sturmI w)
      have hy : ∃ y, ((m * 2 ^ s : Int) : Rat) / UP < y ∧ y ≤ b1 ∧ y ≤ b2 := by
        by_cases c : b1 ≤ b2
        · exact ⟨b1, p1, Rat.le_refl, c⟩
        · exact ⟨b2, q1, by grind, Rat.le_refl⟩
      obtain ⟨y, y1, y2, y3⟩ := hy
      rw [← p2 y y1 y2]
      refine (cf_congr _ _ _ ?_).symm
      have := q2 y y1 y3
      have e : ((sturmI w).map c2).map (fun r => ev r y) = (sturmI w).map fun r => ev (c2 r) y := by rw [List.map_map]; rfl
      rw [e, ← this]
    rw [hV]
    have hy : ∃ y, y ≤ -M ∧ y ≤ -N := ⟨-M - N, by grind, by grind⟩
    obtain ⟨y, y1, y2⟩ := hy
    have := cs (((m * 2 ^ s : Int) : Rat) / UP) y
    have e1 := m1 y y1
    have e2 := n1 y y2
    omega
  · unfold zerosAll
    rw [F1, F2]
    have hy : ∃ y, y ≤ -M ∧ y ≤ -N := ⟨-M - N, by grind, by grind⟩
    have hz : ∃ y, M ≤ y ∧ N ≤ y := ⟨M + N, by grind, by grind⟩
    obtain ⟨y, y1, y2⟩ := hy
    obtain ⟨z, z1, z2⟩ := hz
    have := cs z y
    have e1 := m1 y y1
    have e2 := n1 y y2
    have e3 := m2 z z1
    have e4 := n2 z z2
    have e5 := count_mono (pl_ev _) ns w1 (show y ≤ z by grind)
    unfold Os.howMany
    omega
  · obtain ⟨t, ht⟩ := rowsF_head (w.length + 1) (primI w) (primI (derivI w))
    have : ((sturmI w).map stretched).getD 0 [] = stretched (primI w) := by unfold sturmI; rw [ht]; rfl
    rw [this, poly_zero, single_zero hq0, ef, hq]
    constructor
    · intro h
      rcases Rat.mul_eq_zero.1 h with r | r
      · grind
      · rcases Rat.mul_eq_zero.1 r with r | r
        · grind
        · exact r
    · intro h
      rw [h, Rat.mul_zero, Rat.mul_zero]
  · unfold Os.zeroAt at h0 ⊢
    have ur := up r
    have ur' := up r'
    by_cases c1 : Os.upTo (Os.chain (Os.single q)) r ≤ i
    · rw [if_pos c1] at h0; exact absurd h0 (by decide)
    · rw [if_neg c1] at h0
      by_cases c2 : Os.polyAt (Os.single q) r = 0 ∧ Os.upTo (Os.chain (Os.single q)) r = i + 1
      · have mono := count_mono (pl_ev _) ns w1 (Rat.le_of_lt hr)
        rw [if_neg (by omega)]
        by_cases c3 : Os.polyAt (Os.single q) r' = 0
        · have := count_strict (pl_ev _) ns w1 hr c3
          rw [if_neg (by omega)]
          decide
        · rw [if_neg fun h => c3 h.1]
          decide
      · rw [if_neg c2] at h0; exact absurd h0 (by decide)
theorem zero_cut {R : List (List Int)} {q : Pol} (r1 : ∀ m s, zerosUpTo R m s = (Os.upTo (Os.chain (Os.single q)) (((m * 2 ^ s : Int) : Rat) / UP) : Int))
    (r3 : ∀ m s, polyVal (R.getD 0 []) m s = 0 ↔ ev (Os.single q) (((m * 2 ^ s : Int) : Rat) / UP) = 0)
    (r4 : ∀ (i : Nat) r r', r < r' → Os.zeroAt (Os.single q) (Os.chain (Os.single q)) i r = 0 → Os.zeroAt (Os.single q) (Os.chain (Os.single q)) i r' < 0) (k : Nat) : Cut (sideZ R ((k : Int) + 1)) (Os.zeroAt (Os.single q) (Os.chain (Os.single q)) k) := by
  refine ⟨fun m s => ?_, fun r r' hr h1 => r4 k r r' hr h1⟩
  have h1 := r1 m s
  have h3 := r3 m s
  unfold sideZ Os.zeroAt
  generalize (((m * 2 ^ s : Int) : Rat) / UP) = x at h1 h3 ⊢
  generalize zerosUpTo R m s = z at h1 ⊢
  generalize polyVal (R.getD 0 []) m s = v at h3 ⊢
  have e : Os.polyAt (Os.single q) x = ev (Os.single q) x := rfl
  rw [e]
  generalize Os.upTo (Os.chain (Os.single q)) x = u at h1 ⊢
  generalize ev (Os.single q) x = y at h3 ⊢
  by_cases d1 : u ≤ k
  · rw [if_pos d1, if_pos (by omega)]
  · rw [if_neg d1, if_neg (by omega)]
    by_cases d2 : y = 0 ∧ u = k + 1
    · rw [if_pos d2, if_pos ⟨by omega, h3.2 d2.1⟩]
    · rw [if_neg d2, if_neg fun h => d2 ⟨h3.1 h.2, by omega⟩]
theorem roots_law {mode : Int} {p : List Int} (hm : In64 mode) (ha : ∀ b ∈ p, In64 b) : rootsOf mode p = PyWqambd.roots mode p := by
  show _ = OsNeutral.shown (Os.answer (.roots mode.toNat (OsNeutral.nats p)))
  unfold rootsOf Os.answer
  dsimp only
  rw [withMode_eq hm.1, nats_len, ofRow_self ha]
  by_cases hb : badList mode p 6 = true
  · rw [if_pos hb]
    rcases bad_iff.mp hb with c | c | c
    · rw [if_pos (.inl c)]; rfl
    · rw [if_pos (.inr (decide_eq_false (by omega)))]; rfl
    · rw [if_neg c]
      split <;> rfl
  · rw [if_neg hb]
    have hb := fun z => hb (bad_iff.mpr z)
    have c1 : ¬ 3 < mode := fun z => hb (.inl z)
    have c2' : ¬ (6 : Int) < (p.length : Int) := fun z => hb (.inr (.inl z))
    have c3 : p.all isFin = true := Classical.byContradiction fun z => hb (.inr (.inr z))
    rw [if_neg (show ¬ (3 < mode ∨ decide (p.length ≤ 6) = false) from by
      rintro (z | z)
      · exact c1 z
      · have := of_decide_eq_false z
        omega), if_pos c3]
    have eu : ∀ x, ev (c2 (p.map unitsOf)) x = UP * ev (p.map valOf) x := fun x => by
      rw [← ev_map]
      congr 1
      unfold c2
      rw [List.map_map, List.map_map]
      apply List.map_congr_left
      intro b _
      show ((unitsOf b : Int) : Rat) = UP * valOf b
      rw [← valOf_units, Rat.mul_comm]
    have ew : ∀ x, ev (c2 (trimI (p.map unitsOf))) x = UP * ev (p.map valOf) x := fun x => by rw [← trim_c2, ev_trim, eu]
    by_cases h0 : trimI (p.map unitsOf) = []
    · rw [if_pos h0]
      have : Os.trim (p.map valOf) = [] := zr_of_zero fun x => by
        have := ew x
        rw [h0] at this
        have h1 : (0 : Rat) = UP * ev (p.map valOf) x := this
        rcases Rat.mul_eq_zero.1 h1.symm with r | r
        · exact absurd r UP_ne
        · exact r
      rw [this]
      rfl
    · rw [if_neg h0]
      have hq0 : Os.trim (p.map valOf) ≠ [] := by
        intro h1
        obtain ⟨x, hx⟩ := trim_nz (tm_nz (tm_trimI (p.map unitsOf)) h0)
        apply hx
        rw [ew, ← ev_trim (p.map valOf), h1, ev_nil, Rat.mul_zero]
      rw [if_neg (by rw [List.isEmpty_iff]; exact hq0)]
      obtain ⟨r1, r2, r3, r4⟩ := roots_count UP_pos (tm_trimI (p.map unitsOf)) h0 ew hq0
      generalize (sturmI (trimI (p.map unitsOf))).map stretched = R at r1 r2 r3 ⊢
      generalize p.map valOf = q at r1 r2 r3 r4 ⊢
      have ez : (zerosAll R).toNat = Os.howMany (Os.chain (Os.single q)) := by omega
      rw [ez]
      have zc := fun k => zero_cut r1 r3 r4 k
      unfold Os.zeros
      dsimp only
      generalize Os.howMany (Os.chain (Os.single q)) = n
      generalize Os.zeroAt (Os.single q) (Os.chain (Os.single q)) = wz at zc ⊢
      generalize hsd : (fun (k : Nat) => sideZ R ((k : Int) + 1)) = sd
      have zc' : ∀ k, Cut (sd k) (wz k) := fun k => by rw [← hsd]; exact zc k
      have := answer_told (mode := mode) hm.1 (Int.not_lt.mp c1) ((List.range n).map fun (k : Nat) => (sd k, wz k)) (fun z hz => by
        obtain ⟨k, _, rfl⟩ := List.mem_map.1 hz
        exact zc' k)
      rw [List.map_map, List.map_map, List.map_map] at this
      exact this
end Desk

namespace Desk
/-! one step of the remainder, place by place -/
def mixI (g : List Int) (top : Nat) (rest : List Int) (at_ : Nat) : List Int := (List.range rest.length).map fun i => (lastI g).natAbs * rest.getD i 0 - (if i + g.length < top + 1 ∨ top + 1 - g.length + at_ ≤ i then 0 else rest.getD top 0 * (lastI g).sign * g.getD (i + g.length - (top + 1)) 0)
theorem mix_len (g : List Int) (top : Nat) (rest : List Int) (k : Nat) : (mixI g top rest k).length = rest.length := by unfold mixI; rw [List.length_map, List.length_range]
theorem mix_get (g : List Int) (top : Nat) (rest : List Int) (k i : Nat) (h : i < rest.length) : (mixI g top rest k).getD i 0 = (lastI g).natAbs * rest.getD i 0 - (if i + g.length < top + 1 ∨ top + 1 - g.length + k ≤ i then 0 else rest.getD top 0 * (lastI g).sign * g.getD (i + g.length - (top + 1)) 0) := by
  unfold mixI
  rw [List.getD_eq_getElem?_getD, List.getElem?_map, List.getElem?_range h]
  rfl
theorem mix_at (g : List Int) (top : Nat) (rest : List Int) (k i : Nat) (h : i < rest.length) : (mixI g top rest k)[i]? = some ((lastI g).natAbs * rest.getD i 0 - (if i + g.length < top + 1 ∨ top + 1 - g.length + k ≤ i then 0 else rest.getD top 0 * (lastI g).sign * g.getD (i + g.length - (top + 1)) 0)) := by
  unfold mixI
  rw [List.getElem?_map, List.getElem?_range h]
  rfl
theorem mix_zero (g : List Int) (top : Nat) (rest : List Int) (h : g.length ≤ top + 1) : mixI g top rest 0 = rest.map fun n => ((lastI g).natAbs : Int) * n := by
  apply List.ext_getElem?
  intro i
  by_cases hi : i < rest.length
  · rw [mix_at _ _ _ _ _ hi, List.getElem?_map, List.getElem?_eq_getElem hi, if_pos (by omega), Int.sub_zero, List.getD_eq_getElem?_getD, List.getElem?_eq_getElem hi]
    rfl
  · rw [List.getElem?_eq_none (by rw [mix_len]; omega), List.getElem?_eq_none (by rw [List.length_map]; omega)]
theorem mix_step (g : List Int) (top : Nat) (rest : List Int) (k : Nat) (h : g.length ≤ top + 1) (ht : top < rest.length) (hk : k < g.length) :
    (mixI g top rest k).set (top + 1 - g.length + k) ((mixI g top rest k).getD (top + 1 - g.length + k) 0 - rest.getD top 0 * (lastI g).sign * g.getD k 0) = mixI g top rest (k + 1) := by
  apply List.ext_getElem?
  intro i
  by_cases hi : i < rest.length
  · rw [mix_at _ _ _ _ _ hi, List.getElem?_set]
    by_cases e : top + 1 - g.length + k = i
    · rw [if_pos e, if_pos (by rw [mix_len]; omega), mix_get _ _ _ _ _ (by omega)]
      subst e
      rw [if_pos (by omega), if_neg (by omega), Int.sub_zero, show top + 1 - g.length + k + g.length - (top + 1) = k by omega]
    · rw [if_neg e, mix_at _ _ _ _ _ hi]
      congr 2
      by_cases c : i + g.length < top + 1 ∨ top + 1 - g.length + k ≤ i
      · rw [if_pos c, if_pos (by omega)]
      · rw [if_neg c, if_neg (by omega)]
  · rw [List.getElem?_eq_none (by rw [List.length_set, mix_len]; omega), List.getElem?_eq_none (by rw [mix_len]; omega)]
theorem mix_end (g : List Int) (top : Nat) (rest : List Int) (h : g.length ≤ top + 1) : mixI g top rest g.length = stepI g top rest := by
  unfold mixI stepI
  apply List.map_congr_left
  intro i _
  congr 1
  by_cases c : i + g.length < top + 1
  · rw [if_pos (.inl c), if_pos c]
  · rw [if_neg c]
    by_cases d : top + 1 - g.length + g.length ≤ i
    · rw [if_pos (.inr d)]
      have : g.getD (i + g.length - (top + 1)) 0 = 0 := by
        rw [List.getD_eq_getElem?_getD, List.getElem?_eq_none (by omega)]
        rfl
      rw [this, Int.mul_zero]
    · rw [if_neg (by omega)]
/-! sizes in bits -/
def Bt (b : Nat) (ns : List Int) : Prop := ∀ n ∈ ns, n.natAbs < 2 ^ b
theorem Bt.up {b c : Nat} {ns : List Int} (h : Bt b ns) (hb : b ≤ c) : Bt c ns := fun n hn => Nat.lt_of_lt_of_le (h n hn) (Nat.pow_le_pow_right (by decide) hb)
theorem Bt.get {b : Nat} {ns : List Int} (h : Bt b ns) (i : Nat) : (ns.getD i 0).natAbs < 2 ^ b := by
  by_cases c : i < ns.length
  · rw [List.getD_eq_getElem?_getD, List.getElem?_eq_getElem c]
    exact h _ (List.getElem_mem c)
  · rw [List.getD_eq_getElem?_getD, List.getElem?_eq_none (by omega)]
    exact Nat.pow_pos (by decide)
theorem mul_bits {i j : Int} {a b : Nat} (ha : i.natAbs < 2 ^ a) (hb : j.natAbs < 2 ^ b) : (i * j).natAbs < 2 ^ (a + b) := by
  rw [Int.natAbs_mul, Nat.pow_add]
  exact Nat.mul_lt_mul'' ha hb
theorem sub_bits {i j : Int} {a : Nat} (ha : i.natAbs < 2 ^ a) (hb : j.natAbs < 2 ^ a) : (i - j).natAbs < 2 ^ (a + 1) := by
  rw [Nat.pow_succ]
  omega
theorem add_bits {i j : Int} {a : Nat} (ha : i.natAbs < 2 ^ a) (hb : j.natAbs < 2 ^ a) : (i + j).natAbs < 2 ^ (a + 1) := by
  rw [Nat.pow_succ]
  omega
theorem sgn_abs (i : Int) : i.sign.natAbs ≤ 1 := by
  rcases Int.lt_trichotomy i 0 with h | h | h
  · rw [Int.sign_eq_neg_one_of_neg h]; decide
  · rw [h]; decide
  · rw [Int.sign_eq_one_of_pos h]; decide
theorem mul_sgn {i j : Int} {a : Nat} (ha : i.natAbs < 2 ^ a) : (i * j.sign).natAbs < 2 ^ a := by
  rw [Int.natAbs_mul]
  have := Nat.mul_le_mul_left i.natAbs (sgn_abs j)
  omega
theorem stp_bits {g rest : List Int} {b c top : Nat} (hg : Bt c g) (hr : Bt b rest) : Bt (b + c + 1) (stepI g top rest) := fun n hn => by
  unfold stepI at hn
  obtain ⟨i, _, rfl⟩ := List.mem_map.1 hn
  refine sub_bits ?_ ?_
  · rw [Nat.add_comm b c]
    exact mul_bits (by rw [Int.natAbs_natCast]; exact hg.get _) (hr.get i)
  · split
    · exact Nat.pow_pos (by decide)
    · exact mul_bits (mul_sgn (hr.get top)) (hg.get _)
theorem remN_bits {f g : List Int} {b c : Nat} (hf : Bt b f) (hg : Bt c g) : ∀ j, Bt (b + j * (c + 1)) (remN f g j)
  | 0 => by rw [Nat.zero_mul]; exact hf
  | j + 1 => (stp_bits hg (remN_bits hf hg j)).up (by rw [Nat.add_mul]; omega)
theorem trim_bits {p : List Int} {b : Nat} (h : Bt b p) : Bt b (trimI p) := fun n hn => h n (List.mem_of_mem_take hn)
theorem remI_bits {f g : List Int} {b c : Nat} (hf : Bt b f) (hg : Bt c g) : Bt (b + (f.length + 1 - g.length) * (c + 1)) (remI f g) := trim_bits (remN_bits hf hg _)
theorem prim_bits {p : List Int} {b : Nat} (h : Bt b p) : Bt b (primI p) := fun n hn => by
  unfold primI at hn
  obtain ⟨m, hm, rfl⟩ := List.mem_map.1 hn
  refine Nat.lt_of_le_of_lt ?_ (h m hm)
  have hd := cont_nn p
  obtain ⟨d, hd'⟩ : ∃ d : Nat, contI p = (d : Int) := ⟨(contI p).natAbs, by omega⟩
  rw [hd']
  rcases Int.le_total 0 m with r | r
  · obtain ⟨k, rfl⟩ : ∃ k : Nat, m = (k : Int) := ⟨m.natAbs, by omega⟩
    rw [← Int.natCast_ediv, Int.natAbs_natCast, Int.natAbs_natCast]
    exact Nat.div_le_self _ _
  · have dv : contI p ∣ m := cont_dvd hm
    rw [hd'] at dv
    obtain ⟨k, rfl⟩ := dv
    by_cases h0 : d = 0
    · subst h0; simp
    · rw [Int.mul_ediv_cancel_left _ (by omega), Int.natAbs_mul, Int.natAbs_natCast]
      exact Nat.le_mul_of_pos_left _ (by omega)
theorem deriv_bits {p : List Int} {b : Nat} (h : Bt b p) (hl : p.length ≤ 1000) : Bt (b + 10) (derivI p) := fun n hn => by
  unfold derivI at hn
  obtain ⟨i, hi, rfl⟩ := List.mem_map.1 hn
  have := List.mem_range.1 hi
  rw [Nat.add_comm b 10]
  exact mul_bits (by rw [Int.natAbs_natCast]; omega) (h.get _)
theorem neg_bits {p : List Int} {b : Nat} (h : Bt b p) : Bt b (p.map fun n => -n) := fun n hn => by
  obtain ⟨m, hm, rfl⟩ := List.mem_map.1 hn
  rw [Int.natAbs_neg]
  exact h m hm
end Desk

namespace Desk
/-! Horner's sums -/
theorem hor_val (m : Int) (s : Nat) : ∀ p : List Int, (horI m s p).1 = polyVal p m s
  | [] => rfl
  | [a] => by
    show a = 0 * m * 2 ^ s + a
    rw [Int.zero_mul, Int.zero_mul, Int.zero_add]
  | a :: b :: p => by
    have ih := hor_val m s (b :: p)
    show (horI m s (b :: p)).1 * m * 2 ^ s + a = polyVal (b :: p) m s * m * 2 ^ s + a
    rw [ih]
theorem hor_rest (m : Int) (s : Nat) : ∀ p : List Int, (horI m s p).2 = (List.range (p.length - 1)).map fun i => polyVal (p.drop (i + 1)) m s
  | [] => rfl
  | [a] => rfl
  | a :: b :: p => by
    have ih := hor_rest m s (b :: p)
    show (horI m s (b :: p)).1 :: (horI m s (b :: p)).2 = _
    rw [ih, hor_val]
    rw [show (a :: b :: p).length - 1 = ((b :: p).length - 1) + 1 by simp, List.range_succ_eq_map, List.map_cons, List.map_map]
    rfl
/-- the sums in the order in which they come -/
def sumsN (p : List Int) (m : Int) (s : Nat) (i : Nat) : List Int := (List.range i).map fun j => polyVal (p.drop (p.length - (j + 1))) m s
theorem sums_succ (p : List Int) (m : Int) (s i : Nat) : sumsN p m s (i + 1) = sumsN p m s i ++ [polyVal (p.drop (p.length - (i + 1))) m s] := by
  unfold sumsN
  rw [List.range_succ, List.map_append]
  rfl
theorem sums_rev (p : List Int) (m : Int) (s : Nat) : (sumsN p m s (p.length - 1)).reverse = (horI m s p).2 := by
  rw [hor_rest]
  unfold sumsN
  apply List.ext_getElem?
  intro i
  by_cases hi : i < p.length - 1
  · rw [List.getElem?_reverse (by rw [List.length_map, List.length_range]; exact hi), List.length_map, List.length_range, List.getElem?_map, List.getElem?_map, List.getElem?_range (by omega), List.getElem?_range hi]
    show some (polyVal (p.drop (p.length - (p.length - 1 - 1 - i + 1))) m s) = some (polyVal (p.drop (i + 1)) m s)
    rw [show p.length - (p.length - 1 - 1 - i + 1) = i + 1 by omega]
  · rw [List.getElem?_eq_none (by rw [List.length_reverse, List.length_map, List.length_range]; omega), List.getElem?_eq_none (by rw [List.length_map, List.length_range]; omega)]
end Desk

namespace Desk
/-! sign changes along a list, as the program counts them -/
def signsI (ns : List Int) : List Int := (ns.filter fun n => decide (n ≠ 0)).map Int.sign
def adj : List Int → Nat
  | [] => 0
  | [_] => 0
  | a :: b :: l => (if b ≠ a then 1 else 0) + adj (b :: l)
theorem signs_cons (n : Int) (ns : List Int) : signsI (n :: ns) = if n = 0 then signsI ns else n.sign :: signsI ns := by
  unfold signsI
  by_cases c : n = 0
  · rw [if_pos c, List.filter_cons, if_neg (by simp [c])]
  · rw [if_neg c, List.filter_cons, if_pos (by simp [c])]
    rfl
theorem cf_adj (t : Int) (ht : t = 1 ∨ t = -1) : ∀ ns : List Int, Os.changesFrom t (c2 ns) = adj (t :: signsI ns)
  | [] => rfl
  | n :: ns => by
    rw [signs_cons, c2_cons, Os.changesFrom]
    by_cases c : n = 0
    · rw [if_pos c, if_pos (by rw [c]; rfl)]
      exact cf_adj t ht ns
    · rw [if_neg c, if_neg (fun h => c (Rat.intCast_eq_zero_iff.1 h))]
      show (if t = -(if (n : Rat) < 0 then (-1 : Int) else 1) then 1 else 0) + Os.changesFrom (if (n : Rat) < 0 then (-1 : Int) else 1) (c2 ns) = (if n.sign ≠ t then 1 else 0) + adj (n.sign :: signsI ns)
      by_cases d : n < 0
      · rw [if_pos (Rat.intCast_neg_iff.mpr d), Int.sign_eq_neg_one_of_neg d, cf_adj (-1) (.inr rfl) ns]
        congr 1
        rcases ht with h | h <;> subst h <;> decide
      · rw [if_neg (fun h => d (Rat.intCast_neg_iff.mp h)), Int.sign_eq_one_of_pos (by omega), cf_adj 1 (.inl rfl) ns]
        congr 1
        rcases ht with h | h <;> subst h <;> decide
theorem chg_adj : ∀ ns : List Int, chgI ns = adj (signsI ns)
  | [] => rfl
  | n :: ns => by
    have ih := chg_adj ns
    unfold chgI at ih ⊢
    rw [signs_cons, c2_cons, Os.changesFrom]
    by_cases c : n = 0
    · rw [if_pos c, if_pos (by rw [c]; rfl)]
      exact ih
    · rw [if_neg c, if_neg (fun h => c (Rat.intCast_eq_zero_iff.1 h))]
      show (if (0 : Int) = -(if (n : Rat) < 0 then (-1 : Int) else 1) then 1 else 0) + Os.changesFrom (if (n : Rat) < 0 then (-1 : Int) else 1) (c2 ns) = adj (n.sign :: signsI ns)
      by_cases d : n < 0
      · rw [if_pos (Rat.intCast_neg_iff.mpr d), Int.sign_eq_neg_one_of_neg d, cf_adj (-1) (.inr rfl) ns, if_neg (by decide), Nat.zero_add]
      · rw [if_neg (fun h => d (Rat.intCast_neg_iff.mp h)), Int.sign_eq_one_of_pos (by omega), cf_adj 1 (.inl rfl) ns, if_neg (by decide), Nat.zero_add]
theorem adj_count : ∀ l : List Int, ((List.range (l.length - 1)).filter fun i => decide (l.getD (i + 1) 0 ≠ l.getD i 0)).length = adj l
  | [] => rfl
  | [_] => rfl
  | a :: b :: l => by
    have ih := adj_count (b :: l)
    rw [show (a :: b :: l).length - 1 = ((b :: l).length - 1) + 1 by simp, List.range_succ_eq_map, List.filter_cons, List.filter_map, adj]
    have e : ((fun i => decide ((a :: b :: l).getD (i + 1) 0 ≠ (a :: b :: l).getD i 0)) ∘ Nat.succ) = fun i => decide ((b :: l).getD (i + 1) 0 ≠ (b :: l).getD i 0) := rfl
    by_cases c : b ≠ a
    · rw [if_pos (show decide ((a :: b :: l).getD (0 + 1) 0 ≠ (a :: b :: l).getD 0 0) = true from decide_eq_true c), if_pos c, List.length_cons, List.length_map, e, ih, Nat.add_comm]
    · rw [if_neg (show ¬ decide ((a :: b :: l).getD (0 + 1) 0 ≠ (a :: b :: l).getD 0 0) = true from fun h => c (of_decide_eq_true h)), if_neg c, List.length_map, e, ih, Nat.zero_add]
end Desk

namespace Desk
/-! how many zeros at most -/
theorem adj_le : ∀ l : List Int, adj l ≤ l.length
  | [] => Nat.le_refl _
  | [_] => Nat.zero_le _
  | a :: b :: l => by
    have ih := adj_le (b :: l)
    rw [adj, List.length_cons]
    split <;> omega
theorem chg_le (ns : List Int) : chgI ns ≤ ns.length := by
  rw [chg_adj]
  refine Nat.le_trans (adj_le _) ?_
  unfold signsI
  rw [List.length_map]
  exact List.length_filter_le _ _
theorem zerosAll_le (rows : List (List Int)) : zerosAll rows ≤ (rows.length : Int) ∧ -(rows.length : Int) ≤ zerosAll rows := by
  unfold zerosAll
  have h1 := chg_le (rows.map farI)
  have h2 := chg_le (rows.map lastI)
  rw [List.length_map] at h1 h2
  omega
theorem rowsF_len : ∀ (n : Nat) (p q : List Int), (rowsF n p q).length ≤ n + 1
  | 0, p, q => Nat.le_refl _
  | n + 1, p, q => by
    rw [rowsF]
    split
    · simp
    · have := rowsF_len n q (primI ((remI p q).map fun n => -n))
      rw [List.length_cons]
      omega
theorem sturmI_len (p : List Int) : (sturmI p).length ≤ p.length + 2 := rowsF_len _ _ _
theorem sturmI_ne (p : List Int) : sturmI p ≠ [] := by
  obtain ⟨t, ht⟩ := rowsF_head (p.length + 1) (primI p) (primI (derivI p))
  unfold sturmI
  rw [ht]
  exact List.cons_ne_nil _ _
theorem sturmI_full {p : List Int} (h : Tm p) (h0 : p ≠ []) : ∀ r ∈ sturmI p, r ≠ [] := fun r hr =>
  ((rows_stu (p.length + 1) (primI p) (primI (derivI p)) (by rw [prim_len]; unfold derivI; rw [List.length_map, List.length_range]; omega) (tm_prim h) (fun z => h0 (List.map_eq_nil_iff.1 z)) (tm_prim (tm_deriv h))).2 r hr).2
theorem stretched_bits {p : List Int} {b : Nat} (h : Bt b p) (hl : p.length ≤ 20) : Bt (b + 30000) (stretched p) := fun n hn => by
  unfold stretched at hn
  obtain ⟨i, hi, rfl⟩ := List.mem_map.1 hn
  have hi := List.mem_range.1 hi
  rw [Int.natAbs_mul, Int.natAbs_pow, Nat.pow_add]
  refine Nat.lt_of_lt_of_le (Nat.mul_lt_mul_of_pos_right (h.get i) (Nat.pow_pos (by decide))) (Nat.mul_le_mul_left _ ?_)
  exact Nat.pow_le_pow_right (by decide) (by omega)
end Desk

namespace Desk
/-! sign changes along the slopes -/
inductive Dch : (Rat → Rat) → List (Rat → Rat) → Prop
  | last {f : Rat → Rat} (c : Rat) : Pl f → c ≠ 0 → (∀ x, f x = c) → Dch f [f]
  | step {f f' f1 : Rat → Rat} {l : List (Rat → Rat)} {b : Rat} : Pl f → Nz f → Der f f' → 0 < b → (∀ x, f1 x = b * f' x) → Dch f1 l → Dch f (f :: l)
theorem dch_pl {f : Rat → Rat} {l : List (Rat → Rat)} (h : Dch f l) : Pl f ∧ Nz f := by
  cases h with
  | last c h1 h2 h3 => exact ⟨h1, 0, by rw [h3]; exact h2⟩
  | step h1 h2 => exact ⟨h1, h2⟩
/-- what follows begins with the sign t, and changes m times -/
structure Fst (t : Rat) (l : List Rat) (m : Nat) : Prop where
  same : Os.changesFrom (ti t) l = m
  turn : Os.changesFrom (-(ti t)) l = 1 + m
  zero : Os.changesFrom 0 l = m
theorem ti_ne {t : Rat} (ht : One t) : ti t ≠ -(ti t) ∧ (0 : Int) ≠ -(ti t) := by
  rcases ht with r | r <;> subst r
  · rw [ti_1]; exact ⟨by decide, by decide⟩
  · rw [ti_m1]; exact ⟨by decide, by decide⟩
theorem fst_one {x u : Rat} (hu : One u) (h : sg x = u) : Fst u [x] 0 := by
  have z := ti_ne hu
  refine ⟨?_, ?_, ?_⟩
  · rw [cf_sg _ _ hu h, if_neg z.1]; rfl
  · rw [cf_sg _ _ hu h, if_pos rfl]; rfl
  · rw [cf_sg _ _ hu h, if_neg z.2]; rfl
theorem fst_zero {x t : Rat} {l : List Rat} {m : Nat} (h : Fst t l m) (hx : x = 0) : Fst t (x :: l) m :=
  ⟨by rw [cf_zero _ _ hx]; exact h.same, by rw [cf_zero _ _ hx]; exact h.turn, by rw [cf_zero _ _ hx]; exact h.zero⟩
theorem fst_cons {x t u : Rat} {l : List Rat} {m : Nat} (ht : One t) (hu : One u) (h : Fst t l m) (hx : sg x = u) : Fst u (x :: l) ((if u = t then 0 else 1) + m) := by
  have z := ti_ne hu
  have e : Os.changesFrom (ti u) l = (if u = t then 0 else 1) + m := by
    by_cases c : u = t
    · rw [if_pos c, c, Nat.zero_add]; exact h.same
    · rw [if_neg c]
      have : ti u = -(ti t) := by
        rcases ht with a | a <;> rcases hu with b | b <;> subst a <;> subst b
        · exact absurd rfl c
        · rw [ti_1, ti_m1]
        · rw [ti_1, ti_m1]; rfl
        · exact absurd rfl c
      rw [this]; exact h.turn
  refine ⟨?_, ?_, ?_⟩
  · rw [cf_sg _ _ hu hx, if_neg z.1, e, Nat.zero_add]
  · rw [cf_sg _ _ hu hx, if_pos rfl, e]
  · rw [cf_sg _ _ hu hx, if_neg z.2, e, Nat.zero_add]
theorem m1_one : ∀ k : Nat, One ((-1 : Rat) ^ k)
  | 0 => by rw [Rat.pow_zero]; exact .inl rfl
  | k + 1 => by rw [Rat.pow_succ]; exact one_mul (m1_one k) (.inr rfl)
theorem p1_one (k : Nat) : (1 : Rat) ^ k = 1 := by
  induction k with
  | zero => exact Rat.pow_zero _
  | succ k ih => rw [Rat.pow_succ, ih]; grind
theorem sg_lt {x : Rat} (h : x < 0) : sg x = -1 := by unfold sg; rw [if_pos h]
theorem sg_gt {x : Rat} (h : ¬ x < 0) (h0 : x ≠ 0) : sg x = 1 := by unfold sg; rw [if_neg h, if_neg h0]
/-- near a cut where something vanishes -/
theorem budan_at {L : Rat → Prop} (hL : Ct L) {π ρ : Rat → Rat} (g : Germ L π ρ) {f : Rat → Rat} {l : List (Rat → Rat)} (h : Dch f l) : ∀ (k : Nat) (t : Rat), Gm L π f k t →
    ∃ ml mr : Nat, mr ≤ ml ∧ Near L fun x => (π x < 0 → Fst ((-1) ^ k * t) (l.map fun f => f x) (k + ml)) ∧ (¬ π x < 0 → Fst t (l.map fun f => f x) mr) := by
  induction h with
  | @last f c h1 h2 h3 =>
    intro k t gf
    have hk : k = 0 := Classical.byContradiction fun hk => by
      have hv := (gm_van hL g gf).2 hk
      obtain ⟨x, hx⟩ := near_ex hL (hv (ab c / 2) (by unfold ab; split <;> grind))
      rw [h3] at hx
      have : 0 < ab c := by unfold ab; split <;> grind
      grind
    subst hk
    refine ⟨0, 0, Nat.le_refl _, near_mono (fun x hx => ?_) (gm_sg hL g gf)⟩
    rw [Rat.pow_zero, Rat.one_mul] at hx
    have := fst_one (gm_one gf) hx
    refine ⟨fun _ => ?_, fun _ => this⟩
    rw [Rat.pow_zero, Rat.one_mul]
    exact this
  | @step f f' f1 l b h1 h2 h3 h4 h5 h6 ih =>
    intro k t gf
    have ot := gm_one gf
    cases k with
    | succ k =>
      have g1 : Gm L π f1 k t := gm_of hL g h5 (gm_scale hL g h4 (gm_der hL g h3 gf))
      obtain ⟨ml, mr, hm, n⟩ := ih k t g1
      refine ⟨ml, mr, hm, near_mono (fun x hx => ?_) (near_and hL n (gm_sg hL g gf))⟩
      obtain ⟨⟨a1, a2⟩, a3⟩ := hx
      refine ⟨fun c => ?_, fun c => ?_⟩
      · rw [sg_lt c] at a3
        have := fst_cons (one_mul (m1_one k) ot) (one_mul (m1_one (k + 1)) ot) (a1 c) a3
        rw [if_neg (by
          rw [Rat.pow_succ]
          rcases one_mul (m1_one k) ot with r | r <;> grind)] at this
        rw [show k + 1 + ml = 1 + (k + ml) by omega]
        exact this
      · by_cases d : π x = 0
        · have : f x = 0 := by
            obtain ⟨w, b1, b2, _⟩ := gf
            rw [b2, d, Rat.pow_succ]; grind
          exact fst_zero (a2 c) this
        · rw [sg_gt c d, p1_one, Rat.one_mul] at a3
          have := fst_cons ot ot (a2 c) a3
          rw [if_pos rfl, Nat.zero_add] at this
          exact this
    | zero =>
      obtain ⟨p1, z1⟩ := dch_pl h6
      obtain ⟨k1, u, g1⟩ := gm_ex hL g p1 z1
      obtain ⟨ml, mr, hm, n⟩ := ih k1 u g1
      have ou := gm_one g1
      refine ⟨(if t = (-1) ^ k1 * u then 0 else 1) + (k1 + ml), (if t = u then 0 else 1) + mr, ?_, near_mono (fun x hx => ?_) (near_and hL n (gm_sg hL g gf))⟩
      · cases k1 with
        | zero => rw [Rat.pow_zero, Rat.one_mul]; omega
        | succ k1 => split <;> split <;> omega
      · obtain ⟨⟨a1, a2⟩, a3⟩ := hx
        rw [Rat.pow_zero, Rat.one_mul] at a3
        refine ⟨fun c => ?_, fun c => ?_⟩
        · rw [Rat.pow_zero, Rat.one_mul, Nat.zero_add]
          exact fst_cons (one_mul (m1_one k1) ou) ot (a1 c) a3
        · exact fst_cons ou ot (a2 c) a3
theorem budan_off {L : Rat → Prop} (hL : Ct L) (hn : ∀ f, Pl f → Nz f → ¬ Van L f) {f : Rat → Rat} {l : List (Rat → Rat)} (h : Dch f l) : ∃ t m, One t ∧ Near L fun x => Fst t (l.map fun f => f x) m := by
  induction h with
  | @last f c h1 h2 h3 =>
    rcases trich hL h1 with r | ⟨t, ht, hs⟩
    · exact absurd r (hn _ h1 ⟨0, by rw [h3]; exact h2⟩)
    · exact ⟨t, 0, ht, near_mono (fun x hx => fst_one ht hx) (sg_near ht hs)⟩
  | @step f f' f1 l b h1 h2 h3 h4 h5 h6 ih =>
    obtain ⟨u, m, ou, n⟩ := ih
    rcases trich hL h1 with r | ⟨t, ht, hs⟩
    · exact absurd r (hn _ h1 h2)
    · exact ⟨t, _, ht, near_mono (fun x hx => fst_cons ou ht hx.1 hx.2) (near_and hL n (sg_near ht hs))⟩
/-- a count that falls by the order of f -/
structure Mult (f : Rat → Rat) (V : Rat → Nat) : Prop where
  off : ∀ L, Ct L → (∀ h, Pl h → Nz h → ¬ Van L h) → ∃ m, Near L fun x => V x = m
  on : ∀ L π ρ k t, Ct L → Germ L π ρ → Gm L π f k t → ∃ m, Near L fun x => V x = (if π x < 0 then k else 0) + m
theorem budan {f : Rat → Rat} {l : List (Rat → Rat)} {V : Rat → Nat} (h : Dch f l) (hV : Mult f V) {u v : Rat} (huv : u ≤ v) :
    Os.changesFrom 0 (l.map fun f => f v) + V u ≤ Os.changesFrom 0 (l.map fun f => f u) + V v := by
  refine everywhere (fun u v => Os.changesFrom 0 (l.map fun f => f v) + V u ≤ Os.changesFrom 0 (l.map fun f => f u) + V v) (fun x => Nat.le_refl _) (fun x y z _ _ a b => by omega) (fun L hL => ?_) u v huv
  rcases germ hL with hn | ⟨π, ρ, g⟩
  · obtain ⟨t, m, ht, n⟩ := budan_off hL hn h
    obtain ⟨r, n2⟩ := hV.off L hL hn
    obtain ⟨a, b, ha, hb, k⟩ := near_and hL n n2
    refine ⟨a, b, ha, hb, fun x y h1 h2 h3 => ?_⟩
    obtain ⟨p1, p2⟩ := k x h1 (by grind)
    obtain ⟨q1, q2⟩ := k y (by grind) h3
    rw [p1.zero, q1.zero, p2, q2]
    exact Nat.le_refl _
  · obtain ⟨p1, z1⟩ := dch_pl h
    obtain ⟨k, t, gf⟩ := gm_ex hL g p1 z1
    obtain ⟨ml, mr, hm, n⟩ := budan_at hL g h k t gf
    obtain ⟨r, n2⟩ := hV.on L π ρ k t hL g gf
    obtain ⟨a', b', ha', hb', inc⟩ := germ_inc hL g
    obtain ⟨a, b, ha, hb, kk⟩ := near_and hL (near_and hL n n2) ⟨a', b', ha', hb', fun x h1 h2 => And.intro h1 h2⟩
    refine ⟨a, b, ha, hb, fun x y h1 h2 h3 => ?_⟩
    obtain ⟨⟨p1, p2⟩, p3⟩ := kk x h1 (by grind)
    obtain ⟨⟨q1, q2⟩, q3⟩ := kk y (by grind) h3
    have mono : π y < 0 → π x < 0 := fun hy => by
      rcases Rat.le_iff_lt_or_eq.1 h2 with s | s
      · have := inc x y p3.1 s q3.2; grind
      · rw [s]; exact hy
    rw [p2, q2]
    by_cases c : π y < 0
    · have c' := mono c
      rw [(p1.1 c').zero, (q1.1 c).zero, if_pos c, if_pos c']
      exact Nat.le_refl _
    · rw [(q1.2 c).zero, if_neg c]
      by_cases c' : π x < 0
      · rw [(p1.1 c').zero, if_pos c']; omega
      · rw [(p1.2 c').zero, if_neg c']; exact Nat.le_refl _
end Desk

namespace Desk
/-! lengths -/
theorem len_le {g r : Pol} (hd : Dv (ev g) (ev r)) (hr : Os.trim r ≠ []) : (Os.trim g).length ≤ (Os.trim r).length :=
  Nat.le_of_not_lt fun h => hr (mul_long hd h)
theorem len_eq {g r : Pol} (h : ∀ x, ev g x = ev r x) : (Os.trim g).length = (Os.trim r).length := by
  by_cases hg : Os.trim g = []
  · have : Os.trim r = [] := zr_of_zero fun x => by rw [← h, ← ev_trim, hg]; rfl
    rw [hg, this]
  · have hr : Os.trim r ≠ [] := fun hr => hg (zr_of_zero fun x => by rw [h, ← ev_trim, hr]; rfl)
    exact Nat.le_antisymm (len_le ⟨_, pl_const 1, fun x => by rw [h]; grind⟩ hr) (len_le ⟨_, pl_const 1, fun x => by rw [h]; grind⟩ hg)
theorem len_pos {p : Pol} (h : Os.trim p ≠ []) : 0 < (Os.trim p).length := List.length_pos_iff.2 h
theorem slope_len {p : Pol} (hp : Os.trim p ≠ []) : (Os.trim (Os.slope p)).length + 1 = (Os.trim p).length := by
  rcases trim_spec p with ⟨_, e⟩ | ⟨l, c, hc, e, _⟩
  · exact absurd e hp
  have same : ∀ x, ev (Os.slope p) x = ev (Os.slope (l ++ [c])) x := fun x => by
    have d1 := der_slope p
    have d2 := der_slope (l ++ [c])
    have : ev (l ++ [c]) = ev p := funext fun x => by rw [← e, ev_trim]
    rw [this] at d2
    exact der_uniq d1 d2 x
  rw [len_eq same, e, List.length_append, List.length_singleton]
  by_cases hl : l = []
  · subst hl
    rfl
  · obtain ⟨s1, s2⟩ := slope_trim l c hc hl
    rw [s1, s2]
theorem const_of_len {p : Pol} (hp : Os.trim p ≠ []) (h : (Os.trim p).length ≤ 1) : ∃ c, c ≠ 0 ∧ ∀ x, ev p x = c := by
  rcases trim_spec p with ⟨_, e⟩ | ⟨l, c, hc, e, _⟩
  · exact absurd e hp
  have hl : l = [] := by
    rw [e, List.length_append, List.length_singleton] at h
    exact List.eq_nil_of_length_eq_zero (by omega)
  subst hl
  refine ⟨c, hc, fun x => ?_⟩
  rw [← ev_trim, e, List.nil_append, ev_cons, ev_nil]
  grind
theorem gm_const {L : Rat → Prop} (hL : Ct L) {π ρ : Rat → Rat} (g : Germ L π ρ) {f : Rat → Rat} {c : Rat} (hc : c ≠ 0) (h : ∀ x, f x = c) {k : Nat} {t : Rat} (gf : Gm L π f k t) : k = 0 := Classical.byContradiction fun hk => by
  have hv := (gm_van hL g gf).2 hk
  obtain ⟨x, hx⟩ := near_ex hL (hv (ab c / 2) (by unfold ab; split <;> grind))
  rw [h] at hx
  have : 0 < ab c := by unfold ab; split <;> grind
  grind
theorem gcd_len {p : Pol} (hp : Os.trim p ≠ []) (h : ¬ (Os.trim p).length ≤ 1) : Os.trim (Os.gcd p (Os.slope p)) ≠ [] ∧ (Os.trim (Os.gcd p (Os.slope p))).length < (Os.trim p).length := by
  obtain ⟨u, v, h1, h2, h3, h4, h5, h6⟩ := gcd_slope hp
  have sl := slope_len hp
  refine ⟨h6, ?_⟩
  have : Os.trim (Os.slope p) ≠ [] := fun h0 => by rw [h0] at sl; simp at sl; omega
  have := len_le h5 this
  omega
/-! the levels -/
def cnt (p : Pol) (x : Rat) : Nat := Os.changesFrom 0 ((Os.chain (Os.single p)).map fun r => ev r x)
def cnts (l : List Pol) (x : Rat) : Nat := (l.map fun p => cnt p x).sum
theorem cnts_cons (p : Pol) (l : List Pol) (x : Rat) : cnts (p :: l) x = cnt p x + cnts l x := by unfold cnts; rw [List.map_cons, List.sum_cons]
theorem cnt_count {p : Pol} (hp : Os.trim p ≠ []) : Count (ev (Os.single p)) (cnt p) := by
  obtain ⟨V, c, e, _⟩ := spec_count hp
  have : cnt p = V := funext fun x => e x
  rw [this]
  exact c
theorem lev_mult : ∀ (f : Nat) (p : Pol), (Os.trim p).length ≤ f → Os.trim p ≠ [] → Mult (ev p) (cnts (Os.levels f p)) := by
  intro f
  induction f with
  | zero => intro p h hp; have := len_pos hp; omega
  | succ f ih =>
    intro p h hp
    unfold Os.levels
    by_cases c : (Os.trim p).length ≤ 1
    · rw [if_pos c]
      obtain ⟨a, ha, e⟩ := const_of_len hp c
      refine ⟨fun L hL _ => ⟨0, near_all hL fun x => rfl⟩, fun L π ρ k t hL g gf => ⟨0, near_all hL fun x => ?_⟩⟩
      have := gm_const hL g ha e gf
      subst this
      show (0 : Nat) = _
      split <;> rfl
    · rw [if_neg c]
      obtain ⟨gn, gl⟩ := gcd_len hp c
      have M := ih (Os.gcd p (Os.slope p)) (by omega) gn
      have C := cnt_count hp
      refine ⟨fun L hL hn => ?_, fun L π ρ k t hL g gf => ?_⟩
      · obtain ⟨m, n⟩ := M.off L hL hn
        obtain ⟨r, n2⟩ := C.off L hL (hn _ (pl_ev _) (single_nz hp).1)
        exact ⟨r + m, near_mono (fun x hx => by rw [cnts_cons, hx.1, hx.2]) (near_and hL n2 n)⟩
      · cases k with
        | zero =>
          obtain ⟨i, u, gg⟩ := gm_ex hL g (pl_ev _) (trim_nz gn)
          obtain ⟨j, w, gs⟩ := gm_ex hL g (pl_ev _) (single_nz hp).1
          have e := (gm_uniq hL g gf (gm_of hL g (single_mul hp) (gm_mul hL g gs gg))).1
          have : i = 0 := by omega
          subst this
          obtain ⟨m, n⟩ := M.on L π ρ 0 u hL g gg
          obtain ⟨r, n2⟩ := C.off L hL fun hv => by
            have := (gm_van hL g gs).1 hv
            omega
          exact ⟨r + m, near_mono (fun x hx => by rw [cnts_cons, hx.1, hx.2]; split <;> omega) (near_and hL n2 n)⟩
        | succ k =>
          obtain ⟨u, gg⟩ := gcd_gm hp hL g gf
          obtain ⟨m, n⟩ := M.on L π ρ k u hL g gg
          obtain ⟨r, n2⟩ := C.on L π ρ hL g ((single_van hp hL).2 ((gm_van hL g gf).2 (by omega)))
          exact ⟨r + m, near_mono (fun x hx => by rw [cnts_cons, hx.1, hx.2]; split <;> omega) (near_and hL n2 n)⟩
/-! all in all -/
def Tot (V : Rat → Nat) (N : Nat) : Prop := ∃ M : Rat, 0 < M ∧ ∀ x y, x ≤ -M → M ≤ y → V x = V y + N
theorem tot_uniq {V : Rat → Nat} {N N' : Nat} : Tot V N → Tot V N' → N = N'
  | ⟨M, m0, m⟩, ⟨K, k0, k⟩ => by
    have h1 := m (-M - K) (M + K) (by grind) (by grind)
    have h2 := k (-M - K) (M + K) (by grind) (by grind)
    omega
theorem tot_add {V W : Rat → Nat} {N K : Nat} : Tot V N → Tot W K → Tot (fun x => V x + W x) (N + K)
  | ⟨M, m0, m⟩, ⟨P, k0, k⟩ => ⟨M + P, by grind, fun x y hx hy => by
    have h1 := m x y (by grind) (by grind)
    have h2 := k x y (by grind) (by grind)
    show V x + W x = V y + W y + _
    omega⟩
theorem tot_same {f g : Rat → Rat} {V W : Rat → Nat} {N : Nat} (hf : Pl f) (hn : Nz f) (c : Count f V) (hg : Pl g) (hm : Nz g) (d : Count g W) (same : ∀ L, Ct L → (Van L f ↔ Van L g)) : Tot V N → Tot W N
  | ⟨M, m0, m⟩ => ⟨M, m0, fun x y hx hy => by
    have h1 := m x y hx hy
    have h2 := count_same hf hn c hg hm d same x y
    omega⟩
theorem chain_len : ∀ (f : Nat) (p q : Pol), (Os.chainFrom f p q).length ≤ 1 + (Os.trim q).length := by
  intro f
  induction f with
  | zero => intro p q; exact Nat.zero_le _
  | succ f ih =>
    intro p q
    unfold Os.chainFrom
    by_cases hq : (Os.trim q).isEmpty = true
    · rw [if_pos hq]; simp
    · rw [if_neg hq]
      have hq' : Os.trim q ≠ [] := fun h => hq (by rw [h]; rfl)
      have d := (divide hq' p).2
      have := ih q ((Os.rest p q).map fun (x : Rat) => -x)
      rw [(neg_len (Os.rest p q)).1] at this
      rw [List.length_cons]
      omega
theorem cf_len (s : Int) (l : List Rat) : Os.changesFrom s l ≤ l.length := by
  induction l generalizing s with
  | nil => exact Nat.le_refl _
  | cons x l ih =>
    rw [Os.changesFrom, List.length_cons]
    by_cases c : x = 0
    · rw [if_pos c]; have := ih s; omega
    · rw [if_neg c]
      have key : ∀ t : Int, (if s = -t then 1 else 0) + Os.changesFrom t l ≤ l.length + 1 := fun t => by
        have := ih t
        split <;> omega
      exact key _
theorem cf_len0 (l : List Rat) : Os.changesFrom 0 l ≤ l.length - 1 := by
  induction l with
  | nil => exact Nat.le_refl _
  | cons x l ih =>
    rw [Os.changesFrom, List.length_cons]
    by_cases c : x = 0
    · rw [if_pos c]; omega
    · rw [if_neg c]
      have := cf_len (if x < 0 then -1 else 1) l
      show (if (0 : Int) = -(if x < 0 then (-1 : Int) else 1) then 1 else 0) + _ ≤ _
      rw [if_neg (by split <;> decide)]
      omega
/-- a polynomial has a count, and not more zeros than its length allows -/
theorem count_ex {q : Pol} (hq : Os.trim q ≠ []) : ∃ V N, Count (ev q) V ∧ Tot V N ∧ N + 1 ≤ (Os.trim q).length := by
  obtain ⟨c1, c2⟩ := chain_stu hq
  obtain ⟨h, dp, dq, V, k1, k2, k3, k4, _, _, M, m0, m1, m2⟩ := rows_count (pl_ev _) (trim_nz hq) (der_slope q) (b := 1) (by decide) (fun x => by rw [Rat.one_mul]) c1 c2
  have hl := chain_len (q.length + 2) q (Os.slope q)
  have sl := slope_len hq
  have hc : (Os.chain q).length ≤ (Os.trim q).length := by unfold Os.chain; omega
  have b := cf_len0 ((Os.chain q).map Os.atMinus)
  rw [List.length_map] at b
  have mono := count_mono (pl_ev q) (trim_nz hq) k3 (u := -M) (v := M) (by grind)
  rw [m1 (-M) Rat.le_refl, m2 M Rat.le_refl] at mono
  have := len_pos hq
  refine ⟨V, Os.changesFrom 0 ((Os.chain q).map Os.atMinus) - Os.changesFrom 0 ((Os.chain q).map Os.lead), k3, ⟨M, m0, fun x y hx hy => ?_⟩, by omega⟩
  rw [m1 x hx, m2 y hy]
  omega
theorem count_le {q : Pol} (hq : Os.trim q ≠ []) {V : Rat → Nat} {N : Nat} (c : Count (ev q) V) (t : Tot V N) : N + 1 ≤ (Os.trim q).length := by
  obtain ⟨W, K, d, s, h⟩ := count_ex hq
  have := tot_uniq (tot_same (pl_ev q) (trim_nz hq) c (pl_ev q) (trim_nz hq) d (fun _ _ => Iff.rfl) t) s
  omega
end Desk

namespace Desk
/-! all zeros there -/
def Simple (f : Rat → Rat) : Prop := ∀ L π ρ k t, Ct L → Germ L π ρ → Gm L π f k t → k ≤ 1
theorem simple_single {p : Pol} (hp : Os.trim p ≠ []) : Simple (ev (Os.single p)) := fun L π ρ k t hL g h => by
  by_cases hv : Van L (ev p)
  · obtain ⟨u, gs⟩ := single_gm hp hL g hv
    have := (gm_uniq hL g h gs).1
    omega
  · have : ¬ Van L (ev (Os.single p)) := fun h => hv ((single_van hp hL).1 h)
    apply Nat.le_of_not_lt
    intro hk
    exact this ((gm_van hL g h).2 (by omega))
theorem count_split {s a b : Rat → Rat} {V W : Rat → Nat} (pa : Pl a) (pb : Pl b) (hn : Nz s) (e : ∀ x, s x = a x * b x) (sim : Simple s) (ca : Count a V) (cb : Count b W) : Count s fun x => V x + W x := by
  obtain ⟨na, nb⟩ := nz_of_mul e hn
  refine ⟨fun L hL hv => ?_, fun L π ρ hL g hv => ?_⟩
  · obtain ⟨m, n⟩ := ca.off L hL fun h => hv (van_of (van_mul hL pb h) fun x => by rw [e]; grind)
    obtain ⟨r, n2⟩ := cb.off L hL fun h => hv (van_of (van_mul hL pa h) fun x => e x)
    exact ⟨m + r, near_mono (fun x hx => by rw [hx.1, hx.2]) (near_and hL n n2)⟩
  · obtain ⟨i, t, ga⟩ := gm_ex hL g pa na
    obtain ⟨j, u, gb⟩ := gm_ex hL g pb nb
    have gs : Gm L π s (i + j) (t * u) := gm_of hL g e (gm_mul hL g ga gb)
    have h1 := sim L π ρ _ _ hL g gs
    have h2 := (gm_van hL g gs).1 hv
    by_cases hi : i = 0
    · obtain ⟨m, n⟩ := ca.off L hL fun h => (gm_van hL g ga).1 h hi
      obtain ⟨r, n2⟩ := cb.on L π ρ hL g ((gm_van hL g gb).2 (by omega))
      exact ⟨m + r, near_mono (fun x hx => by rw [hx.1, hx.2]; omega) (near_and hL n n2)⟩
    · obtain ⟨m, n⟩ := ca.on L π ρ hL g ((gm_van hL g ga).2 hi)
      obtain ⟨r, n2⟩ := cb.off L hL fun h => by
        have := (gm_van hL g gb).1 h
        omega
      exact ⟨m + r, near_mono (fun x hx => by rw [hx.1, hx.2]; omega) (near_and hL n n2)⟩
theorem quot_len {p q : Pol} (hq : Os.trim q ≠ []) (h : (Os.trim q).length ≤ (Os.trim p).length) : (Os.trim (Os.quot p q)).length = (Os.trim p).length - (Os.trim q).length + 1 := by
  have hp : Os.trim p ≠ [] := fun z => by
    rw [z] at h
    exact hq (List.eq_nil_of_length_eq_zero (by simpa using h))
  have e : Os.quot p q = (List.range ((Os.trim p).length - (Os.trim q).length)).map (fun (i : Nat) => if i = (Os.trim p).length - (Os.trim q).length then Os.lead p / Os.lead q else (Os.quotFrom p.length (Os.lowered p q) q).getD i 0) ++ [Os.lead p / Os.lead q] := by
    unfold Os.quot
    rw [Os.quotFrom, if_neg (by
      rintro (z | z)
      · omega
      · exact hp (List.isEmpty_iff.1 z))]
    dsimp only
    rw [List.range_succ, List.map_append, List.map_singleton, if_pos rfl]
  rw [e, trim_of_last, List.length_append, List.length_map, List.length_range, List.length_singleton]
  intro z
  have l1 := lead_ne p hp
  have l2 := lead_ne q hq
  have : Os.lead p / Os.lead q * Os.lead q = Os.lead p := Rat.div_mul_cancel l2
  rw [z, Rat.zero_mul] at this
  exact l1 this.symm
theorem cancel {f g : Rat → Rat} (pf : Pl f) (pg : Pl g) (ng : Nz g) (h : ∀ x, f x * g x = 0) (x : Rat) : f x = 0 :=
  Classical.byContradiction fun hx => by
    obtain ⟨y, hy⟩ := nz_mul pf pg ⟨x, hx⟩ ng
    exact hy (h y)
/-- the single part of what is common divides the single part -/
theorem single_div {p : Pol} (hp : Os.trim p ≠ []) (hg : Os.trim (Os.gcd p (Os.slope p)) ≠ []) : Dv (ev (Os.single (Os.gcd p (Os.slope p)))) (ev (Os.single p)) := by
  obtain ⟨_, _, _, _, _, _, ⟨h, ph, eh⟩, _⟩ := gcd_slope hp
  have sm := single_mul hp
  generalize Os.gcd p (Os.slope p) = g at hg eh sm ⊢
  generalize Os.single p = s at sm ⊢
  obtain ⟨u, v, pu, pv, eg, _, ⟨h1, ph1, eh1⟩, g2n⟩ := gcd_slope hg
  have sm1 := single_mul hg
  generalize Os.gcd g (Os.slope g) = g2 at eg eh1 g2n sm1
  generalize Os.single g = s1 at sm1 ⊢
  have d1 : ∀ x, ev (Os.slope p) x = ev (Os.slope s) x * ev g x + ev s x * ev (Os.slope g) x := by
    have dm := der_mul (der_slope s) (der_slope g) (bd_ev s) (bd_ev g) (bd_ev (Os.slope s)) (bd_ev (Os.slope g))
    have : (fun x => ev s x * ev g x) = ev p := funext fun x => (sm x).symm
    rw [this] at dm
    exact fun x => der_uniq (der_slope p) dm x
  have n2 := trim_nz g2n
  have one : ∀ x, u x * ev s1 x + v x * h1 x - 1 = 0 := by
    refine cancel (pl_sub (pl_add (pl_mul pu (pl_ev s1)) (pl_mul pv ph1)) (pl_const 1)) (pl_ev g2) n2 fun x => ?_
    have a1 := eg x
    rw [eh1 x, sm1 x] at a1
    grind
  have two : ∀ x, h x * ev s1 x - ev (Os.slope s) x * ev s1 x - ev s x * h1 x = 0 := by
    refine cancel (pl_sub (pl_sub (pl_mul ph (pl_ev s1)) (pl_mul (pl_ev _) (pl_ev s1))) (pl_mul (pl_ev s) ph1)) (pl_ev g2) n2 fun x => ?_
    have a1 := d1 x
    rw [eh x, eh1 x, sm1 x] at a1
    grind
  refine ⟨fun x => u x * ev s x + v x * (h x - ev (Os.slope s) x), pl_add (pl_mul pu (pl_ev s)) (pl_mul pv (pl_sub ph (pl_ev _))), fun x => ?_⟩
  have o := one x
  have t := two x
  have e1 : ev s x = ev s x * (u x * ev s1 x + v x * h1 x) := by
    have : u x * ev s1 x + v x * h1 x = 1 := by grind
    rw [this]; grind
  have e2 : ev s x * h1 x = (h x - ev (Os.slope s) x) * ev s1 x := by grind
  have e3 : ev s x * (u x * ev s1 x + v x * h1 x) = u x * ev s x * ev s1 x + v x * (ev s x * h1 x) := by grind
  rw [e3, e2] at e1
  rw [e1]
  grind
theorem rr_div {s a : Pol} {V W : Rat → Nat} {N : Nat} (hs : Os.trim s ≠ []) (ha : Os.trim a ≠ []) (d : Dv (ev a) (ev s)) (sim : Simple (ev s)) (c : Count (ev s) V) (t : Tot V N) (hN : N + 1 = (Os.trim s).length) (ca : Count (ev a) W) : ∃ K, Tot W K ∧ K + 1 = (Os.trim a).length := by
  have hl := len_le d hs
  have ql := quot_len ha hl
  have qe := quot_exact ha d
  generalize Os.quot s a = b at ql qe
  have nb := (nz_of_mul qe (trim_nz hs)).1
  have hb := nz_trim nb
  obtain ⟨U, K1, cb, tb, lb⟩ := count_ex hb
  obtain ⟨W', K, ca', ta, la⟩ := count_ex ha
  have sp := count_split (pl_ev b) (pl_ev a) (trim_nz hs) qe sim cb ca'
  have := tot_uniq (tot_same (pl_ev s) (trim_nz hs) sp (pl_ev s) (trim_nz hs) c (fun _ _ => Iff.rfl) (tot_add tb ta)) t
  exact ⟨K, tot_same (pl_ev a) (trim_nz ha) ca' (pl_ev a) (trim_nz ha) ca (fun _ _ => Iff.rfl) ta, by omega⟩
theorem single_len {p : Pol} (hp : Os.trim p ≠ []) : (Os.trim (Os.single p)).length + (Os.trim (Os.gcd p (Os.slope p))).length = (Os.trim p).length + 1 := by
  obtain ⟨_, _, _, _, _, h4, _, h6⟩ := gcd_slope hp
  have hl := len_le h4 hp
  have := quot_len h6 hl
  unfold Os.single
  omega
theorem lev_tot : ∀ (f : Nat) (p : Pol), (Os.trim p).length ≤ f → Os.trim p ≠ [] → (∃ N, Tot (cnt p) N ∧ N + 1 = (Os.trim (Os.single p)).length) → ∃ K, Tot (cnts (Os.levels f p)) K ∧ K + 1 = (Os.trim p).length := by
  intro f
  induction f with
  | zero => intro p h hp; have := len_pos hp; omega
  | succ f ih =>
    intro p h hp hN
    obtain ⟨N, t, hN⟩ := hN
    unfold Os.levels
    by_cases c : (Os.trim p).length ≤ 1
    · rw [if_pos c]
      have := len_pos hp
      exact ⟨0, ⟨1, by decide, fun x y _ _ => rfl⟩, by omega⟩
    · rw [if_neg c]
      obtain ⟨gn, gl⟩ := gcd_len hp c
      have sl := single_len hp
      have sd := single_div hp gn
      have sim := simple_single hp
      have cc := cnt_count hp
      have sn := nz_trim (single_nz hp).1
      generalize Os.gcd p (Os.slope p) = g at gn gl sl sd ⊢
      obtain ⟨K, tk, hk⟩ := ih g (by omega) gn (rr_div sn (nz_trim (single_nz gn).1) sd sim cc t hN (cnt_count gn))
      refine ⟨N + K, ?_, by omega⟩
      have := tot_add t tk
      have e : cnts (p :: Os.levels f g) = fun x => cnt p x + cnts (Os.levels f g) x := funext fun x => cnts_cons _ _ x
      rw [e]
      exact this
/-- from any count of p itself -/
theorem rr_of {p : Pol} (hp : Os.trim p ≠ []) {V : Rat → Nat} {r : Nat} (c : Count (ev p) V) (t : Tot V r) (h : (Os.trim p).length ≤ r + (Os.trim (Os.gcd p (Os.slope p))).length) : ∃ N, Tot (cnt p) N ∧ N + 1 = (Os.trim (Os.single p)).length := by
  have sn := nz_trim (single_nz hp).1
  have t2 := tot_same (pl_ev p) (trim_nz hp) c (pl_ev _) (single_nz hp).1 (cnt_count hp) (fun L hL => (single_van hp hL).symm) t
  have := count_le sn (cnt_count hp) t2
  have := single_len hp
  exact ⟨r, t2, by omega⟩
end Desk

namespace Desk
/-! sums against a row of moments; the chain that they give -/
def Sm : (Nat → Rat) → Pol → Rat
  | _, [] => 0
  | μ, a :: p => a * μ 0 + Sm (fun k => μ (k + 1)) p
def Gf : (Nat → Rat) → Pol → Rat → Rat
  | _, [], _ => 0
  | μ, a :: p, x => μ 0 * ev (a :: p) x + Gf (fun k => μ (k + 1)) p x
def mu (t : Nat → Rat) (v : Pol) (m : Nat) : Rat := Sm (fun k => t (m + k)) v
theorem sm_lin (a b : Rat) : ∀ (p : Pol) (f g : Nat → Rat), Sm (fun k => a * f k + b * g k) p = a * Sm f p + b * Sm g p
  | [], f, g => by unfold Sm; grind
  | c :: p, f, g => by
    rw [Sm, Sm, Sm, sm_lin a b p (fun k => f (k + 1)) fun k => g (k + 1)]
    grind
theorem gf_lin (a b : Rat) (x : Rat) : ∀ (p : Pol) (f g : Nat → Rat), Gf (fun k => a * f k + b * g k) p x = a * Gf f p x + b * Gf g p x
  | [], f, g => by unfold Gf; grind
  | c :: p, f, g => by
    rw [Gf, Gf, Gf, gf_lin a b x p (fun k => f (k + 1)) fun k => g (k + 1)]
    grind
theorem sm_append (a : Rat) : ∀ (p : Pol) (f : Nat → Rat), Sm f (p ++ [a]) = Sm f p + a * f p.length
  | [], f => by
    show a * f 0 + 0 = 0 + a * f 0
    grind
  | c :: p, f => by
    rw [List.cons_append, Sm, Sm, sm_append a p fun k => f (k + 1), List.length_cons]
    grind
theorem sm_zero : ∀ (p : Pol) (f : Nat → Rat), (∀ k, k < p.length → f k = 0) → Sm f p = 0
  | [], f, _ => rfl
  | c :: p, f, h => by
    rw [Sm, h 0 (by simp), sm_zero p _ fun k hk => h (k + 1) (by rw [List.length_cons]; omega)]
    grind
theorem gf_zero (x : Rat) : ∀ (p : Pol) (f : Nat → Rat), (∀ k, k < p.length → f k = 0) → Gf f p x = 0
  | [], f, _ => rfl
  | c :: p, f, h => by
    rw [Gf, h 0 (by simp), gf_zero x p _ fun k hk => h (k + 1) (by rw [List.length_cons]; omega)]
    grind
theorem pl_gf : ∀ (p : Pol) (f : Nat → Rat), Pl (Gf f p)
  | [], f => pl_of (pl_const 0) fun x => rfl
  | c :: p, f => pl_of (pl_add (pl_smul (f 0) (pl_ev (c :: p))) (pl_gf p fun k => f (k + 1))) fun x => rfl
/-- times x -/
theorem gf_shift (x : Rat) : ∀ (p : Pol) (c : Rat) (f : Nat → Rat), Gf (fun k => f (k + 1)) p x = x * Gf f p x - f 0 * ev (c :: p) x + Sm f (c :: p)
  | [], c, f => by
    show (0 : Rat) = x * 0 - f 0 * (c + x * 0) + (c * f 0 + 0)
    grind
  | a :: p, c, f => by
    have ih := gf_shift x p a fun k => f (k + 1)
    rw [Gf, Gf, ih]
    show _ = x * (f 0 * ev (a :: p) x + Gf (fun k => f (k + 1)) p x) - f 0 * (c + x * ev (a :: p) x) + (c * f 0 + Sm (fun k => f (k + 1)) (a :: p))
    grind
/-! sums of rows -/
def addL : Pol → Pol → Pol
  | [], q => q
  | p, [] => p
  | a :: p, b :: q => (a + b) :: addL p q
theorem sm_add : ∀ (p q : Pol) (f : Nat → Rat), Sm f (addL p q) = Sm f p + Sm f q
  | [], q, f => by
    have : addL [] q = q := by cases q <;> rfl
    rw [this]
    show _ = 0 + _
    grind
  | a :: p, [], f => by
    show Sm f (a :: p) = Sm f (a :: p) + 0
    grind
  | a :: p, b :: q, f => by
    show (a + b) * f 0 + Sm (fun k => f (k + 1)) (addL p q) = a * f 0 + Sm (fun k => f (k + 1)) p + (b * f 0 + Sm (fun k => f (k + 1)) q)
    rw [sm_add p q]
    grind
theorem ev_addL : ∀ (p q : Pol) (x : Rat), ev (addL p q) x = ev p x + ev q x
  | [], q, x => by
    have : addL [] q = q := by cases q <;> rfl
    rw [this, ev_nil]
    grind
  | a :: p, [], x => by
    show ev (a :: p) x = ev (a :: p) x + 0
    grind
  | a :: p, b :: q, x => by
    show (a + b) + x * ev (addL p q) x = a + x * ev p x + (b + x * ev q x)
    rw [ev_addL p q]
    grind
theorem addL_len : ∀ (p q : Pol), q.length ≤ p.length → (addL p q).length = p.length
  | [], q, h => by
    have : q = [] := List.eq_nil_of_length_eq_zero (by simpa using h)
    subst this
    rfl
  | a :: p, [], _ => rfl
  | a :: p, b :: q, h => by
    show (addL p q).length + 1 = _
    rw [addL_len p q (by simpa using h)]
    rfl
theorem addL_len2 : ∀ (p q : Pol) (n : Nat), p.length ≤ n → q.length ≤ n → (addL p q).length ≤ n
  | [], q, n, _, h => by
    have : addL [] q = q := by cases q <;> rfl
    rw [this]; exact h
  | a :: p, [], n, h, _ => h
  | a :: p, b :: q, n, h1, h2 => by
    show (addL p q).length + 1 ≤ n
    rw [List.length_cons] at h1 h2
    have := addL_len2 p q (n - 1) (by omega) (by omega)
    omega
theorem addL_app (c : Rat) : ∀ (p q : Pol), q.length ≤ p.length → addL (p ++ [c]) q = addL p q ++ [c]
  | [], q, h => by
    have : q = [] := List.eq_nil_of_length_eq_zero (by simpa using h)
    subst this
    rfl
  | a :: p, [], _ => rfl
  | a :: p, b :: q, h => by
    show (a + b) :: addL (p ++ [c]) q = (a + b) :: (addL p q ++ [c])
    rw [addL_app c p q (by simpa using h)]
theorem sm_map (k : Rat) : ∀ (p : Pol) (f : Nat → Rat), Sm f (p.map fun c => k * c) = k * Sm f p
  | [], f => by unfold Sm; grind
  | c :: p, f => by rw [List.map_cons, Sm, Sm, sm_map k p]; grind
/-! as a row of coefficients -/
theorem gf_low : ∀ (p : Pol) (f : Nat → Rat), ∃ r : Pol, r.length = p.length ∧ ∀ x, Gf f p x = ev r x
  | [], f => ⟨[], rfl, fun x => rfl⟩
  | a :: p, f => by
    obtain ⟨r, h1, h2⟩ := gf_low p fun k => f (k + 1)
    refine ⟨addL ((a :: p).map fun c => f 0 * c) r, ?_, fun x => ?_⟩
    · rw [addL_len _ _ (by rw [List.length_map, List.length_cons]; omega), List.length_map]
    · rw [ev_addL, ev_map, Gf, h2]
theorem gf_lead : ∀ (j : Nat) (p : Pol) (f : Nat → Rat), j < p.length → (∃ l, p = l ++ [1]) → (∀ k, k < j → f k = 0) → ∃ l : Pol, l.length = p.length - 1 - j ∧ ∀ x, Gf f p x = ev (l ++ [f j]) x
  | 0, [], f, h, _, _ => absurd h (by simp)
  | 0, a :: p, f, _, hm, _ => by
    obtain ⟨l, hl⟩ := hm
    obtain ⟨r, h1, h2⟩ := gf_low p fun k => f (k + 1)
    have e : l.length = p.length := by
      have := congrArg List.length hl
      rw [List.length_append, List.length_singleton, List.length_cons] at this
      omega
    refine ⟨addL (l.map fun c => f 0 * c) r, ?_, fun x => ?_⟩
    · rw [addL_len _ _ (by rw [List.length_map]; omega), List.length_map, List.length_cons]; omega
    · rw [Gf, h2, ← addL_app _ _ _ (by rw [List.length_map]; omega), ev_addL, hl, ← ev_map, List.map_append, List.map_singleton, Rat.mul_one]
  | j + 1, [], f, h, _, _ => absurd h (by simp)
  | j + 1, a :: p, f, h, hm, hz => by
    obtain ⟨l, hl⟩ := hm
    rw [List.length_cons] at h
    have hp : ∃ l, p = l ++ [1] := by
      cases l with
      | nil =>
        have := congrArg List.length hl
        rw [List.nil_append, List.length_singleton, List.length_cons] at this
        omega
      | cons b l =>
        rw [List.cons_append, List.cons.injEq] at hl
        exact ⟨l, hl.2⟩
    obtain ⟨r, h1, h2⟩ := gf_lead j p (fun k => f (k + 1)) (by omega) hp fun k hk => hz (k + 1) (by omega)
    refine ⟨r, by rw [h1, List.length_cons]; omega, fun x => ?_⟩
    rw [Gf, h2, hz 0 (by omega)]
    grind
/-! chains whose lengths fall by one, with all leads above 0 -/
inductive Desc : Nat → List Pol → Prop
  | last {d : Nat} {l : Pol} {c : Rat} : l.length = d → 0 < c → Desc d [l ++ [c]]
  | step {d : Nat} {l : Pol} {c : Rat} {R : List Pol} : l.length = d + 1 → 0 < c → Desc d R → Desc (d + 1) ((l ++ [c]) :: R)
theorem lead_snoc {l : Pol} {c : Rat} (hc : 0 < c) : Os.lead (l ++ [c]) = c ∧ Os.trim (l ++ [c]) = l ++ [c] := by
  have := trim_of_last l c (by grind)
  exact ⟨lead_of l c this, this⟩
theorem minus_snoc {l : Pol} {c : Rat} (hc : 0 < c) : sg (Os.atMinus (l ++ [c])) = (-1) ^ l.length := by
  have par : ∀ n : Nat, (-1 : Rat) ^ n = if n % 2 = 0 then 1 else -1 := by
    intro n
    induction n with
    | zero => rw [Rat.pow_zero]; rfl
    | succ n ih =>
      rw [Rat.pow_succ, ih]
      by_cases h : n % 2 = 0
      · rw [if_pos h, if_neg (by omega)]; grind
      · rw [if_neg h, if_pos (by omega)]; grind
  unfold Os.atMinus
  rw [(lead_snoc hc).1, (lead_snoc hc).2, List.length_append, List.length_singleton, par]
  by_cases h : l.length % 2 = 0
  · rw [if_neg (by omega), if_pos h]
    exact sg_gt (by grind) (by grind)
  · rw [if_pos (by omega), if_neg h]
    exact sg_lt (by grind)
theorem desc_facts {d : Nat} {R : List Pol} (h : Desc d R) : (∀ r ∈ R, Os.trim r ≠ []) ∧ Fst 1 (R.map Os.lead) 0 ∧ Fst ((-1) ^ d) (R.map Os.atMinus) (R.length - 1) ∧ 1 ≤ R.length ∧ R.length ≤ d + 1 ∧ ∃ r, R.getLast? = some r ∧ (Os.trim r).length + R.length = d + 2 := by
  induction h with
  | @last d l c h1 h2 =>
    have ls := lead_snoc (l := l) h2
    refine ⟨fun r hr => by rw [List.mem_singleton.1 hr, ls.2]; simp, fst_one (.inl rfl) (by rw [ls.1]; exact sg_gt (by grind) (by grind)), fst_one (m1_one d) (by rw [minus_snoc h2, h1]), by simp, by simp, l ++ [c], rfl, ?_⟩
    rw [ls.2, List.length_append, List.length_singleton, List.length_singleton, h1]
  | @step d l c R h1 h2 h3 ih =>
    obtain ⟨i1, i2, i3, i4, i5, r, i6, i7⟩ := ih
    have ls := lead_snoc (l := l) h2
    refine ⟨fun r hr => ?_, ?_, ?_, by simp, by rw [List.length_cons]; omega, r, ?_, by rw [List.length_cons]; omega⟩
    · rcases List.mem_cons.1 hr with h | h
      · rw [h, ls.2]; simp
      · exact i1 r h
    · have := fst_cons (u := 1) (.inl rfl) (.inl rfl) i2 (show sg (Os.lead (l ++ [c])) = 1 by rw [ls.1]; exact sg_gt (by grind) (by grind))
      rw [if_pos rfl] at this
      exact this
    · have := fst_cons (m1_one d) (m1_one (d + 1)) i3 (show sg (Os.atMinus (l ++ [c])) = (-1) ^ (d + 1) by rw [minus_snoc h2, h1])
      rw [if_neg (by
        rw [Rat.pow_succ]
        rcases m1_one d with r | r <;> rw [r] <;> grind)] at this
      rw [List.length_cons, show R.length + 1 - 1 = 1 + (R.length - 1) by omega]
      exact this
    · rw [List.getLast?_cons, i6]; rfl
theorem stu_last {P : (Rat → Rat) → Prop} {p q : Rat → Rat} {l : List (Rat → Rat)} (h : Stu P p q l) : ∃ r, l.getLast? = some r ∧ Dv r p ∧ Dv r q := by
  induction h with
  | @last p q h1 h2 h3 => exact ⟨p, rfl, dv_refl p, ⟨fun _ => 0, pl_const 0, fun x => by rw [h3]; grind⟩⟩
  | @step p q r Q l a h1 h2 h3 h4 h5 h6 ih =>
    obtain ⟨s, e, ⟨u, pu, hu⟩, ⟨v, pv, hv⟩⟩ := ih
    refine ⟨s, by rw [List.getLast?_cons, e]; rfl, ⟨fun x => 1 / a * (Q x * u x - v x), pl_smul _ (pl_sub (pl_mul h3 pu) pv), fun x => ?_⟩, ⟨u, pu, hu⟩⟩
    have k := h5 x
    rw [hu, hv] at k
    have ha : 1 / a * a = 1 := Rat.div_mul_cancel (by grind)
    have : p x = 1 / a * a * p x := by rw [ha, Rat.one_mul]
    grind
/-! moments that come of a symmetric matrix -/
structure Herm (n : Nat) (c0 : Rat) (p : Pol) (t : Nat → Rat) : Prop where
  pos1 : 1 ≤ n
  len : p.length = n
  monic : ∃ l, p = l ++ [1]
  newton : ∀ x, ev (Os.slope (c0 :: p)) x = Gf t p x
  ann : ∀ m, Sm (fun k => t (m + k)) (c0 :: p) = 0
  pos : ∀ v : Pol, v.length ≤ n → 0 ≤ Sm (mu t v) v ∧ (Sm (mu t v) v = 0 → ∀ m, m < n → mu t v m = 0)
  t0 : 0 < t 0
section
variable {n : Nat} {c0 : Rat} {p : Pol} {t : Nat → Rat} (H : Herm n c0 p t)
include H
theorem mu_ann : ∀ (v : Pol) (m : Nat), Sm (fun j => Sm (fun k => t (m + j + k)) v) (c0 :: p) = 0
  | [], m => sm_zero _ _ fun k _ => rfl
  | a :: v, m => by
    have e : (fun j => Sm (fun k => t (m + j + k)) (a :: v)) = fun j => a * t (m + j) + 1 * Sm (fun k => t (m + 1 + j + k)) v := by
      funext j
      rw [Sm]
      have : (fun k => t (m + j + (k + 1))) = fun k => t (m + 1 + j + k) := funext fun k => congrArg t (by omega)
      rw [this, Rat.one_mul]
      rfl
    rw [e, sm_lin, H.ann, mu_ann v (m + 1)]
    grind
theorem mu_ann0 (v : Pol) : Sm (mu t v) (c0 :: p) = 0 := by
  have := mu_ann H v 0
  have e : (fun j => Sm (fun k => t (0 + j + k)) v) = mu t v := by
    funext j
    unfold mu
    congr 1
    funext k
    rw [Nat.zero_add]
  rw [e] at this
  exact this
theorem lanc : ∀ (d i : Nat) (l W : Pol), i + d = n → 1 ≤ i → l.length = i → W.length ≤ i → (∀ k, k < i - 1 → mu t W k = 0) → 0 < mu t W (i - 1) → (∀ k, k < i → mu t (l ++ [1]) k = 0) →
    ∃ R : List Pol, Stu Nz (Gf (mu t W) p) (Gf (mu t (l ++ [1])) p) (R.map ev) ∧ Desc (n - i) R := by
  intro d
  induction d with
  | zero =>
    intro i l W hi h1 hl hW hz hp hv
    obtain ⟨r, r1, r2⟩ := gf_lead (i - 1) p (mu t W) (by rw [H.len]; omega) H.monic hz
    have ef : Gf (mu t W) p = ev (r ++ [mu t W (i - 1)]) := funext r2
    have hd := Desc.last (d := n - i) (l := r) (c := mu t W (i - 1)) (by rw [r1, H.len]; omega) hp
    refine ⟨[r ++ [mu t W (i - 1)]], ?_, hd⟩
    rw [ef]
    exact .last (pl_ev _) (trim_nz ((desc_facts hd).1 _ (List.mem_singleton.2 rfl))) fun x => gf_zero x p _ fun k hk => hv k (by rw [H.len] at hk; omega)
  | succ d ih =>
    intro i l W hi h1 hl hW hz hp hv
    obtain ⟨r, r1, r2⟩ := gf_lead (i - 1) p (mu t W) (by rw [H.len]; omega) H.monic hz
    have ef : Gf (mu t W) p = ev (r ++ [mu t W (i - 1)]) := funext r2
    have hQ : Sm (mu t (l ++ [1])) (l ++ [1]) = mu t (l ++ [1]) i := by
      rw [sm_append, sm_zero l _ fun k hk => hv k (by omega), hl]
      grind
    have P := H.pos (l ++ [1]) (by rw [List.length_append, List.length_singleton]; omega)
    rw [hQ] at P
    by_cases c : mu t (l ++ [1]) i = 0
    · have z := P.2 c
      have hd := Desc.last (d := n - i) (l := r) (c := mu t W (i - 1)) (by rw [r1, H.len]; omega) hp
      refine ⟨[r ++ [mu t W (i - 1)]], ?_, hd⟩
      rw [ef]
      exact .last (pl_ev _) (trim_nz ((desc_facts hd).1 _ (List.mem_singleton.2 rfl))) fun x => gf_zero x p _ fun k hk => z k (by rw [H.len] at hk; exact hk)
    · have hN : 0 < mu t (l ++ [1]) i := by have := P.1; grind
      -- the next row
      generalize hβ : mu t (l ++ [1]) i / mu t W (i - 1) = β
      have hβ2 : β * mu t W (i - 1) = mu t (l ++ [1]) i := by rw [← hβ]; exact Rat.div_mul_cancel (by grind)
      have hβ0 : 0 < β := by rw [← hβ, Rat.lt_div_iff hp]; grind
      generalize hα : (mu t (l ++ [1]) (i + 1) - β * mu t W i) / mu t (l ++ [1]) i = α
      have hα2 : α * mu t (l ++ [1]) i = mu t (l ++ [1]) (i + 1) - β * mu t W i := by rw [← hα]; exact Rat.div_mul_cancel c
      have hl2 : (addL ((l ++ [1]).map fun c => -α * c) (W.map fun c => -β * c)).length ≤ (0 :: l).length := addL_len2 _ _ _ (by rw [List.length_map, List.length_append, List.length_singleton, List.length_cons]; exact Nat.le_refl _) (by rw [List.length_map, List.length_cons]; omega)
      generalize hl3 : addL (0 :: l) (addL ((l ++ [1]).map fun c => -α * c) (W.map fun c => -β * c)) = l3
      have l3len : l3.length = i + 1 := by rw [← hl3, addL_len _ _ hl2, List.length_cons, hl]
      have hmu : ∀ f : Nat → Rat, Sm f (l3 ++ [1]) = Sm (fun k => f (k + 1)) (l ++ [1]) - α * Sm f (l ++ [1]) - β * Sm f W := fun f => by
        rw [← hl3, ← addL_app _ _ _ hl2, sm_add, sm_add, sm_map, sm_map]
        show 0 * f 0 + Sm (fun k => f (k + 1)) (l ++ [1]) + _ = _
        grind
      have hm : mu t (l3 ++ [1]) = fun k => mu t (l ++ [1]) (k + 1) - α * mu t (l ++ [1]) k - β * mu t W k := by
        funext k
        unfold mu
        rw [hmu]
        have : (fun j => t (k + (j + 1))) = fun j => t (k + 1 + j) := funext fun j => congrArg t (by omega)
        rw [this]
      obtain ⟨R, s, ds⟩ := ih (i + 1) l3 (l ++ [1]) (by omega) (by omega) l3len (by rw [List.length_append, List.length_singleton]; omega) (fun k hk => hv k (by omega)) hN (fun k hk => by
        rw [hm]
        show mu t (l ++ [1]) (k + 1) - α * mu t (l ++ [1]) k - β * mu t W k = 0
        rcases Nat.lt_trichotomy k (i - 1) with h | h | h
        · rw [hv (k + 1) (by omega), hv k (by omega), hz k h]; grind
        · rw [h, hβ2, hv (i - 1) (by omega), show i - 1 + 1 = i by omega]; grind
        · have : k = i := by omega
          rw [this, hα2]; grind)
      have hd : Desc (n - i) ((r ++ [mu t W (i - 1)]) :: R) := by
        have e : n - i = n - (i + 1) + 1 := by omega
        rw [e]
        exact .step (by rw [r1, H.len]; omega) hp ds
      refine ⟨(r ++ [mu t W (i - 1)]) :: R, ?_, hd⟩
      rw [List.map_cons, ← ef]
      refine .step (a := β) (Q := fun x => x - α) (pl_gf p _) (pl_gf p _) (pl_sub pl_id (pl_const α)) hβ0 (fun x => ?_) s
      have e1 : Gf (mu t (l3 ++ [1])) p x = Gf (fun k => mu t (l ++ [1]) (k + 1)) p x - α * Gf (mu t (l ++ [1])) p x - β * Gf (mu t W) p x := by
        have e2 : mu t (l3 ++ [1]) = fun k => 1 * (1 * mu t (l ++ [1]) (k + 1) + (-α) * mu t (l ++ [1]) k) + (-β) * mu t W k := by
          rw [hm]; funext k; grind
        rw [e2, gf_lin 1 (-β) x p (fun k => 1 * mu t (l ++ [1]) (k + 1) + (-α) * mu t (l ++ [1]) k) (mu t W), gf_lin 1 (-α) x p (fun k => mu t (l ++ [1]) (k + 1)) (mu t (l ++ [1]))]
        grind
      have e3 := gf_shift x p c0 (mu t (l ++ [1]))
      rw [mu_ann0 H, hv 0 (by omega)] at e3
      rw [e1, e3]
      grind
theorem herm_count : ∃ V r, Count (ev (c0 :: p)) V ∧ Tot V r ∧ (Os.trim (c0 :: p)).length ≤ r + (Os.trim (Os.gcd (c0 :: p) (Os.slope (c0 :: p)))).length := by
  obtain ⟨l0, hl0⟩ := H.monic
  have ht : Os.trim (c0 :: p) = c0 :: p := by
    rw [hl0]
    exact trim_of_last (c0 :: l0) 1 (by decide)
  have hn : Os.trim (c0 :: p) ≠ [] := by rw [ht]; simp
  have m1 : mu t [1] = t := by
    funext k
    show 1 * t (k + 0) + 0 = t k
    rw [Nat.add_zero]; grind
  have h0 := H.t0
  generalize hα : t 1 / t 0 = α
  have hα2 : α * t 0 = t 1 := by rw [← hα]; exact Rat.div_mul_cancel (by grind)
  have m2 : mu t ([-α] ++ [1]) = fun k => t (k + 1) - α * t k := by
    funext k
    show -α * t (k + 0) + (1 * t (k + (0 + 1)) + 0) = _
    rw [Nat.add_zero, Nat.zero_add]
    grind
  obtain ⟨R, s, ds⟩ := lanc H (n - 1) 1 [-α] [1] (by have := H.pos1; omega) (Nat.le_refl _) rfl (Nat.le_refl _) (fun k hk => absurd hk (by omega)) (by rw [m1]; exact h0) (fun k hk => by
    have : k = 0 := by omega
    subst this
    rw [m2]
    show t (0 + 1) - α * t 0 = 0
    rw [hα2]; grind)
  have n1 := H.pos1
  have hd : Desc n ((c0 :: p) :: R) := by
    have e : n = n - 1 + 1 := by omega
    have e2 : c0 :: p = (c0 :: l0) ++ [1] := by rw [hl0]; rfl
    rw [e2, e]
    refine .step ?_ (by decide) ds
    have := H.len
    rw [hl0, List.length_append, List.length_singleton] at this
    rw [List.length_cons]; omega
  have st : Stu Nz (ev (c0 :: p)) (ev (Os.slope (c0 :: p))) (((c0 :: p) :: R).map ev) := by
    have es : ev (Os.slope (c0 :: p)) = Gf t p := funext H.newton
    rw [m1] at s
    rw [es, List.map_cons]
    refine .step (a := t 0) (Q := fun x => x - α) (pl_ev _) (pl_gf p _) (pl_sub pl_id (pl_const α)) h0 (fun x => ?_) s
    have e2 : mu t ([-α] ++ [1]) = fun k => 1 * t (k + 1) + (-α) * t k := by rw [m2]; funext k; grind
    rw [e2, gf_lin 1 (-α) x p (fun k => t (k + 1)) t, gf_shift x p c0 t]
    have := H.ann 0
    have e4 : (fun k => t (0 + k)) = t := funext fun k => by rw [Nat.zero_add]
    rw [e4] at this
    rw [this]
    grind
  obtain ⟨f1, f2, f3, f4, f5, r, f6, f7⟩ := desc_facts hd
  obtain ⟨_, _, _, V, _, _, k3, _, _, _, M, q0, q1, q2⟩ := rows_count (pl_ev _) (trim_nz hn) (der_slope (c0 :: p)) (b := 1) (by decide) (fun x => by rw [Rat.one_mul]) st f1
  refine ⟨V, ((c0 :: p) :: R).length - 1, k3, ⟨M, q0, fun x y hx hy => by rw [q1 x hx, q2 y hy, f2.zero, f3.zero, Nat.zero_add]⟩, ?_⟩
  obtain ⟨w, w1, w2, w3⟩ := stu_last st
  rw [List.getLast?_map, f6] at w1
  have w1 : ev r = w := Option.some.inj w1
  subst w1
  obtain ⟨u, v, g1, g2, g3, _, _, g6⟩ := gcd_slope hn
  obtain ⟨a, pa, ha⟩ := w2
  obtain ⟨b, pb, hb⟩ := w3
  have dg : Dv (ev r) (ev (Os.gcd (c0 :: p) (Os.slope (c0 :: p)))) := ⟨fun x => u x * a x + v x * b x, pl_add (pl_mul g1 pa) (pl_mul g2 pb), fun x => by rw [g3, ha, hb]; grind⟩
  have := len_le dg g6
  rw [ht, List.length_cons, H.len]
  omega
end
end Desk

namespace Desk
/-! sums, matrices as functions -/
def sumN : Nat → (Nat → Rat) → Rat
  | 0, _ => 0
  | n + 1, f => sumN n f + f n
theorem sumN_congr : ∀ (n : Nat) (f g : Nat → Rat), (∀ i, i < n → f i = g i) → sumN n f = sumN n g
  | 0, _, _, _ => rfl
  | n + 1, f, g, h => by rw [sumN, sumN, sumN_congr n f g fun i hi => h i (by omega), h n (by omega)]
theorem sumN_zero : ∀ (n : Nat) (f : Nat → Rat), (∀ i, i < n → f i = 0) → sumN n f = 0
  | 0, _, _ => rfl
  | n + 1, f, h => by rw [sumN, sumN_zero n f fun i hi => h i (by omega), h n (by omega)]; grind
theorem sumN_add : ∀ (n : Nat) (f g : Nat → Rat), sumN n (fun i => f i + g i) = sumN n f + sumN n g
  | 0, _, _ => by unfold sumN; grind
  | n + 1, f, g => by rw [sumN, sumN, sumN, sumN_add n f g]; grind
theorem sumN_mul (k : Rat) : ∀ (n : Nat) (f : Nat → Rat), sumN n (fun i => k * f i) = k * sumN n f
  | 0, _ => by unfold sumN; grind
  | n + 1, f => by rw [sumN, sumN, sumN_mul k n f]; grind
theorem sumN_swap (m : Nat) (f : Nat → Nat → Rat) : ∀ n : Nat, sumN n (fun i => sumN m fun j => f i j) = sumN m fun j => sumN n fun i => f i j
  | 0 => (sumN_zero m _ fun _ _ => rfl).symm
  | n + 1 => by
    rw [sumN, sumN_swap m f n, ← sumN_add]
    rfl
theorem sumN_nn : ∀ (n : Nat) (f : Nat → Rat), (∀ i, i < n → 0 ≤ f i) → 0 ≤ sumN n f ∧ (sumN n f = 0 → ∀ i, i < n → f i = 0)
  | 0, f, _ => ⟨Rat.le_refl, fun _ i hi => absurd hi (by omega)⟩
  | n + 1, f, h => by
    obtain ⟨h1, h2⟩ := sumN_nn n f fun i hi => h i (by omega)
    have h3 := h n (by omega)
    rw [sumN]
    refine ⟨by grind, fun e i hi => ?_⟩
    by_cases c : i = n
    · rw [c]; grind
    · exact h2 (by grind) i (by omega)
def mulN (n : Nat) (A X : Nat → Nat → Rat) : Nat → Nat → Rat := fun i j => sumN n fun l => A i l * X l j
def pw (n : Nat) (A : Nat → Nat → Rat) : Nat → Nat → Nat → Rat
  | 0 => fun i j => if i = j then 1 else 0
  | k + 1 => mulN n A (pw n A k)
def inn (n : Nat) (X Y : Nat → Nat → Rat) : Rat := sumN n fun i => sumN n fun j => X i j * Y i j
theorem inn_adj {n : Nat} {A : Nat → Nat → Rat} (hA : ∀ i j, i < n → j < n → A i j = A j i) (X Y : Nat → Nat → Rat) : inn n (mulN n A X) Y = inn n X (mulN n A Y) := by
  unfold inn mulN
  have e1 : (sumN n fun i => sumN n fun j => (sumN n fun l => A i l * X l j) * Y i j) = sumN n fun i => sumN n fun j => sumN n fun l => A i l * X l j * Y i j :=
    sumN_congr n _ _ fun i _ => sumN_congr n _ _ fun j _ => by
      rw [Rat.mul_comm, ← sumN_mul]
      exact sumN_congr n _ _ fun l _ => by grind
  have e2 : (sumN n fun i => sumN n fun j => X i j * sumN n fun l => A i l * Y l j) = sumN n fun i => sumN n fun j => sumN n fun l => X i j * (A i l * Y l j) :=
    sumN_congr n _ _ fun i _ => sumN_congr n _ _ fun j _ => (sumN_mul _ _ _).symm
  rw [e1, e2]
  have s1 : (sumN n fun i => sumN n fun j => sumN n fun l => A i l * X l j * Y i j) = sumN n fun i => sumN n fun l => sumN n fun j => A i l * X l j * Y i j := sumN_congr n _ _ fun i _ => sumN_swap n _ n
  have s2 : (sumN n fun i => sumN n fun j => sumN n fun l => X i j * (A i l * Y l j)) = sumN n fun i => sumN n fun l => sumN n fun j => X i j * (A i l * Y l j) := sumN_congr n _ _ fun i _ => sumN_swap n _ n
  rw [s1, s2, sumN_swap]
  exact sumN_congr n _ _ fun i hi => sumN_congr n _ _ fun l hl => sumN_congr n _ _ fun j _ => by rw [hA l i hl hi]; grind
theorem inn_pw {n : Nat} {A : Nat → Nat → Rat} (hA : ∀ i j, i < n → j < n → A i j = A j i) : ∀ m k : Nat, inn n (pw n A m) (pw n A k) = inn n (pw n A 0) (pw n A (m + k))
  | 0, k => by rw [Nat.zero_add]
  | m + 1, k => by
    show inn n (mulN n A (pw n A m)) (pw n A k) = _
    rw [inn_adj hA]
    show inn n (pw n A m) (pw n A (k + 1)) = _
    rw [inn_pw hA m (k + 1), show m + (k + 1) = m + 1 + k by omega]
theorem sm_sum (n : Nat) : ∀ (p : Pol) (f : Nat → Nat → Rat), Sm (fun k => sumN n fun i => f k i) p = sumN n fun i => Sm (fun k => f k i) p
  | [], f => (sumN_zero n _ fun _ _ => rfl).symm
  | a :: p, f => by
    rw [Sm, sm_sum n p fun k i => f (k + 1) i, ← sumN_mul, ← sumN_add]
    rfl
theorem sm_smul (c : Rat) : ∀ (p : Pol) (f : Nat → Rat), Sm (fun k => c * f k) p = c * Sm f p
  | [], f => by unfold Sm; grind
  | a :: p, f => by rw [Sm, Sm, sm_smul c p fun k => f (k + 1)]; grind
theorem sm_mulr (c : Rat) (p : Pol) (f : Nat → Rat) : Sm (fun k => f k * c) p = Sm f p * c := by
  have : (fun k => f k * c) = fun k => c * f k := funext fun k => Rat.mul_comm ..
  rw [this, sm_smul, Rat.mul_comm]
theorem inn_sm (n : Nat) (X : Nat → Nat → Rat) (Y : Nat → Nat → Nat → Rat) (p : Pol) : Sm (fun k => inn n X (Y k)) p = inn n X fun i j => Sm (fun k => Y k i j) p := by
  unfold inn
  rw [sm_sum]
  exact sumN_congr n _ _ fun i _ => by
    rw [sm_sum]
    exact sumN_congr n _ _ fun j _ => sm_smul _ _ _
theorem inn_sml (n : Nat) (X : Nat → Nat → Rat) (Y : Nat → Nat → Nat → Rat) (p : Pol) : Sm (fun k => inn n (Y k) X) p = inn n (fun i j => Sm (fun k => Y k i j) p) X := by
  unfold inn
  rw [sm_sum]
  exact sumN_congr n _ _ fun i _ => by
    rw [sm_sum]
    exact sumN_congr n _ _ fun j _ => sm_mulr _ _ _
theorem herm_of {n : Nat} {A : Nat → Nat → Rat} {c0 : Rat} {p : Pol} (hA : ∀ i j, i < n → j < n → A i j = A j i) (n1 : 1 ≤ n) (hl : p.length = n) (hm : ∃ l, p = l ++ [1]) (h0 : 0 < inn n (pw n A 0) (pw n A 0))
    (hN : ∀ x, ev (Os.slope (c0 :: p)) x = Gf (fun k => inn n (pw n A 0) (pw n A k)) p x) (hC : ∀ i j, i < n → j < n → Sm (fun k => pw n A k i j) (c0 :: p) = 0) : Herm n c0 p fun k => inn n (pw n A 0) (pw n A k) := by
  have hmu : ∀ (v : Pol) (m : Nat), mu (fun k => inn n (pw n A 0) (pw n A k)) v m = inn n (pw n A m) fun i j => Sm (fun k => pw n A k i j) v := fun v m => by
    unfold mu
    have e : (fun k => inn n (pw n A 0) (pw n A (m + k))) = fun k => inn n (pw n A m) (pw n A k) := funext fun k => (inn_pw hA m k).symm
    rw [e, inn_sm]
  refine ⟨n1, hl, hm, hN, fun m => ?_, fun v _ => ?_, h0⟩
  · have := hmu (c0 :: p) m
    unfold mu at this
    rw [this]
    exact sumN_zero n _ fun i hi => sumN_zero n _ fun j hj => by
      show pw n A m i j * Sm (fun k => pw n A k i j) (c0 :: p) = 0
      rw [hC i j hi hj, Rat.mul_zero]
  · have e : mu (fun k => inn n (pw n A 0) (pw n A k)) v = fun m => inn n (pw n A m) fun i j => Sm (fun k => pw n A k i j) v := funext (hmu v)
    rw [e, inn_sml]
    generalize (fun i j => Sm (fun k => pw n A k i j) v) = X
    have nn : ∀ i, 0 ≤ sumN n (fun j => X i j * X i j) ∧ (sumN n (fun j => X i j * X i j) = 0 → ∀ j, j < n → X i j * X i j = 0) := fun i => sumN_nn n _ fun j _ => sq_nn _
    have n2 := sumN_nn n (fun i => sumN n fun j => X i j * X i j) fun i _ => (nn i).1
    refine ⟨n2.1, fun h m _ => ?_⟩
    have z := n2.2 h
    exact sumN_zero n _ fun i hi => sumN_zero n _ fun j hj => by
      have := (nn i).2 (z i hi) j hj
      rcases Rat.mul_eq_zero.1 this with r | r <;> rw [r, Rat.mul_zero]
end Desk

namespace Desk
/-! cuts in their order -/
structure Wh (z : Os.Where) : Prop where
  val : ∀ r, z r = 1 ∨ z r = 0 ∨ z r = -1
  fall : ∀ r r', r < r' → z r ≤ 0 → z r' = -1
def Lw (z z' : Os.Where) : Prop := ∀ x, z x ≤ z' x
theorem lw_total {z z' : Os.Where} (h : Wh z) (h' : Wh z') : Lw z z' ∨ Lw z' z := by
  by_cases c : Lw z z'
  · exact .inl c
  · right
    have : ∃ x, ¬ z x ≤ z' x := Classical.byContradiction fun hn => c fun x => Classical.byContradiction fun hx => hn ⟨x, hx⟩
    obtain ⟨x, hx⟩ := this
    intro y
    apply Classical.byContradiction
    intro hy
    have v1 := h.val x
    have v2 := h'.val x
    have v3 := h.val y
    have v4 := h'.val y
    by_cases e : x = y
    · subst e; omega
    · by_cases l : x < y
      · have := h'.fall x y l (by omega)
        omega
      · have := h.fall y x (by grind) (by omega)
        omega
theorem lw_trans {a b c : Os.Where} (h : Lw a b) (k : Lw b c) : Lw a c := fun x => Int.le_trans (h x) (k x)
theorem lw_insert (z : Os.Where) (hz : Wh z) : ∀ l : List Os.Where, (∀ y ∈ l, Wh y) → l.Pairwise Lw → ∃ m : List Os.Where, m.Perm (z :: l) ∧ m.Pairwise Lw
  | [], _, _ => ⟨[z], .refl _, List.pairwise_singleton ..⟩
  | y :: l, h, s => by
    by_cases c : Lw z y
    · refine ⟨z :: y :: l, .refl _, List.pairwise_cons.2 ⟨fun u hu => ?_, s⟩⟩
      rcases List.mem_cons.1 hu with e | e
      · rw [e]; exact c
      · exact lw_trans c ((List.pairwise_cons.1 s).1 u e)
    · have c' : Lw y z := (lw_total hz (h y (List.mem_cons_self ..))).resolve_left c
      obtain ⟨m, p, sm⟩ := lw_insert z hz l (fun u hu => h u (List.mem_cons_of_mem _ hu)) (List.pairwise_cons.1 s).2
      refine ⟨y :: m, ((p.cons y).trans (.swap ..)), List.pairwise_cons.2 ⟨fun u hu => ?_, sm⟩⟩
      rcases List.mem_cons.1 (p.mem_iff.1 hu) with e | e
      · rw [e]; exact c'
      · exact (List.pairwise_cons.1 s).1 u e
theorem lw_sort : ∀ l : List Os.Where, (∀ y ∈ l, Wh y) → ∃ m : List Os.Where, m.Perm l ∧ m.Pairwise Lw
  | [], _ => ⟨[], .refl _, .nil⟩
  | z :: l, h => by
    obtain ⟨m, p, s⟩ := lw_sort l fun y hy => h y (List.mem_cons_of_mem _ hy)
    obtain ⟨k, q, t⟩ := lw_insert z (h z (List.mem_cons_self ..)) m (fun y hy => h y (List.mem_cons_of_mem _ (p.mem_iff.1 hy))) s
    exact ⟨k, q.trans (p.cons z), t⟩
def atMost (l : List Os.Where) (x : Rat) : Nat := l.countP fun z => decide (z x ≤ 0)
def under (l : List Os.Where) (x : Rat) : Nat := l.countP fun z => decide (z x < 0)
theorem atMost_cons (a : Os.Where) (l : List Os.Where) (x : Rat) : atMost (a :: l) x = atMost l x + if a x ≤ 0 then 1 else 0 := by
  unfold atMost
  rw [List.countP_cons]
  congr 1
  by_cases c : a x ≤ 0
  · rw [if_pos c, if_pos (decide_eq_true c)]
  · rw [if_neg c, if_neg (by simp [c])]
theorem under_cons (a : Os.Where) (l : List Os.Where) (x : Rat) : under (a :: l) x = under l x + if a x < 0 then 1 else 0 := by
  unfold under
  rw [List.countP_cons]
  congr 1
  by_cases c : a x < 0
  · rw [if_pos c, if_pos (decide_eq_true c)]
  · rw [if_neg c, if_neg (by simp [c])]
theorem head_le {a b : Os.Where} {l m : List Os.Where} (ha : Wh a) (hb : Wh b) (s : (b :: m).Pairwise Lw) (h1 : ∀ x, atMost (a :: l) x = atMost (b :: m) x) (h2 : ∀ x, under (a :: l) x = under (b :: m) x) (x : Rat) : b x ≤ a x := by
  apply Classical.byContradiction
  intro hx
  have v1 := ha.val x
  have v2 := hb.val x
  have low : ∀ y ∈ b :: m, b x ≤ y x := fun y hy => by
    rcases List.mem_cons.1 hy with e | e
    · rw [e]; exact Int.le_refl _
    · exact (List.pairwise_cons.1 s).1 y e x
  by_cases c : a x = -1
  · have p : 0 < under (a :: l) x := by rw [under_cons, if_pos (by omega)]; omega
    rw [h2 x] at p
    obtain ⟨y, hy, hyx⟩ := List.countP_pos_iff.1 p
    have := low y hy
    have := of_decide_eq_true hyx
    omega
  · have p : 0 < atMost (a :: l) x := by rw [atMost_cons, if_pos (by omega)]; omega
    rw [h1 x] at p
    obtain ⟨y, hy, hyx⟩ := List.countP_pos_iff.1 p
    have := low y hy
    have := of_decide_eq_true hyx
    omega
theorem sorted_eq : ∀ l m : List Os.Where, l.length = m.length → (∀ y ∈ l, Wh y) → (∀ y ∈ m, Wh y) → l.Pairwise Lw → m.Pairwise Lw → (∀ x, atMost l x = atMost m x) → (∀ x, under l x = under m x) → l = m
  | [], [], _, _, _, _, _, _, _ => rfl
  | [], _ :: _, h, _, _, _, _, _, _ => by simp at h
  | _ :: _, [], h, _, _, _, _, _, _ => by simp at h
  | a :: l, b :: m, h, hl, hm, sl, sm, h1, h2 => by
    have wa := hl a (List.mem_cons_self ..)
    have wb := hm b (List.mem_cons_self ..)
    have e : a = b := funext fun x => Int.le_antisymm (head_le wb wa sl (fun x => (h1 x).symm) (fun x => (h2 x).symm) x) (head_le wa wb sm h1 h2 x)
    subst e
    congr 1
    refine sorted_eq l m (by simpa using h) (fun y hy => hl y (List.mem_cons_of_mem _ hy)) (fun y hy => hm y (List.mem_cons_of_mem _ hy)) (List.pairwise_cons.1 sl).2 (List.pairwise_cons.1 sm).2 (fun x => ?_) (fun x => ?_)
    · have := h1 x
      rw [atMost_cons, atMost_cons] at this
      omega
    · have := h2 x
      rw [under_cons, under_cons] at this
      omega
/-! rounding keeps the order -/
theorem search_facts (w : Os.Where) : ∀ (f : Nat) (lo hi : Int), lo < hi → hi - lo ≤ 2 ^ f → lo ≤ Os.searchFrom w f lo hi ∧ Os.searchFrom w f lo hi < hi ∧ (Os.searchFrom w f lo hi = lo ∨ 0 ≤ w (Os.valueAt (Os.searchFrom w f lo hi))) ∧ (Os.searchFrom w f lo hi + 1 = hi ∨ w (Os.valueAt (Os.searchFrom w f lo hi + 1)) < 0)
  | 0, lo, hi, h1, h2 => by
    have : hi = lo + 1 := by
      have : (2 : Int) ^ 0 = 1 := rfl
      omega
    show lo ≤ lo ∧ lo < hi ∧ (lo = lo ∨ _) ∧ (lo + 1 = hi ∨ _)
    exact ⟨Int.le_refl _, h1, .inl rfl, .inl this.symm⟩
  | f + 1, lo, hi, h1, h2 => by
    have p2 : (2 : Int) ^ (f + 1) = 2 ^ f * 2 := Int.pow_succ ..
    rw [p2] at h2
    rw [Os.searchFrom]
    by_cases c : hi ≤ lo + 1
    · rw [if_pos c]
      exact ⟨Int.le_refl _, h1, .inl rfl, .inl (by omega)⟩
    · rw [if_neg c]
      generalize hm : (lo + hi) / 2 = m
      by_cases d : w (Os.valueAt m) < 0
      · rw [if_pos d]
        obtain ⟨a1, a2, a3, a4⟩ := search_facts w f lo m (by omega) (by omega)
        refine ⟨a1, by omega, a3, ?_⟩
        rcases a4 with a4 | a4
        · exact .inr (by rw [a4]; exact d)
        · exact .inr a4
      · rw [if_neg d]
        obtain ⟨a1, a2, a3, a4⟩ := search_facts w f m hi (by omega) (by omega)
        refine ⟨by omega, a2, ?_, a4⟩
        rcases a3 with a3 | a3
        · exact .inr (by rw [a3]; omega)
        · exact .inr a3
theorem floor_facts (w : Os.Where) : -Os.MOST - 1 ≤ Os.floorOf w ∧ Os.floorOf w < Os.MOST + 1 ∧ (Os.floorOf w = -Os.MOST - 1 ∨ 0 ≤ w (Os.valueAt (Os.floorOf w))) ∧ (Os.floorOf w + 1 = Os.MOST + 1 ∨ w (Os.valueAt (Os.floorOf w + 1)) < 0) :=
  search_facts w 66 _ _ (by decide) (by decide)
theorem floor_mono {w w' : Os.Where} (h' : Wh w') (h : Lw w w') : Os.floorOf w ≤ Os.floorOf w' := by
  obtain ⟨a1, a2, a3, a4⟩ := floor_facts w
  obtain ⟨b1, b2, b3, b4⟩ := floor_facts w'
  apply Classical.byContradiction
  intro hn
  have k1 : 0 ≤ w (Os.valueAt (Os.floorOf w)) := a3.resolve_left (by omega)
  have k2 : w' (Os.valueAt (Os.floorOf w' + 1)) < 0 := b4.resolve_left (by omega)
  have k3 := h (Os.valueAt (Os.floorOf w))
  by_cases e : Os.floorOf w' + 1 = Os.floorOf w
  · rw [e] at k2; omega
  · have := h'.fall _ _ (valueAt_mono (show Os.floorOf w' + 1 < Os.floorOf w by omega)) (by omega)
    omega
theorem order_bits {j : Int} (h1 : -Os.MOST - 1 ≤ j) (h2 : j ≤ Os.MOST + 1) (b : Bool) (e : Bool) (s : Int) : Os.orderOf ⟨if b = true ∧ j = 0 then Os.SIGN else Os.bitsAt j, e, s⟩ = j := by
  unfold Os.orderOf
  dsimp only
  unfold Os.MOST at h1 h2
  by_cases c : b = true ∧ j = 0
  · rw [if_pos c, if_pos (Nat.le_refl _), Nat.sub_self]; omega
  · rw [if_neg c]
    unfold Os.bitsAt
    by_cases n : j < 0
    · rw [if_pos n, if_pos (by omega)]; omega
    · rw [if_neg n, if_neg (by unfold Os.SIGN; omega)]; omega
def exactAt (w : Os.Where) : Prop := -Os.MOST ≤ Os.floorOf w ∧ w (Os.valueAt (Os.floorOf w)) = 0
def upAt (mode : Nat) (w : Os.Where) : Bool :=
  if mode = 0 then decide (0 < w ((Os.valueAt (Os.floorOf w) + Os.valueAt (Os.floorOf w + 1)) / 2)) || (decide (w ((Os.valueAt (Os.floorOf w) + Os.valueAt (Os.floorOf w + 1)) / 2) = 0) && decide (Os.floorOf w % 2 ≠ 0)) else if mode = 1 then false else if mode = 2 then true else decide (w 0 < 0)
theorem round_exact {mode : Nat} {w : Os.Where} (h : exactAt w) : Os.round mode w = ⟨Os.bitsAt (Os.floorOf w), true, 0⟩ := by
  unfold Os.round
  exact if_pos h
theorem round_up {mode : Nat} {w : Os.Where} (h : ¬ exactAt w) (u : upAt mode w = true) : Os.round mode w = ⟨if decide (w 0 < 0) = true ∧ Os.floorOf w + 1 = 0 then Os.SIGN else Os.bitsAt (Os.floorOf w + 1), false, -1⟩ := by
  unfold Os.round
  unfold upAt at u
  unfold exactAt at h
  dsimp only
  rw [if_neg h]
  simp only [u, if_true]
theorem round_down {mode : Nat} {w : Os.Where} (h : ¬ exactAt w) (u : upAt mode w = false) : Os.round mode w = ⟨if decide (w 0 < 0) = true ∧ Os.floorOf w = 0 then Os.SIGN else Os.bitsAt (Os.floorOf w), false, 1⟩ := by
  unfold Os.round
  unfold upAt at u
  unfold exactAt at h
  dsimp only
  rw [if_neg h]
  simp only [u, if_false, Bool.false_eq_true]
/-- which way, told once -/
theorem round_three (mode : Nat) (w : Os.Where) : (exactAt w ∧ Os.orderOf (Os.round mode w) = Os.floorOf w ∧ (Os.round mode w).side = 0) ∨ (¬ exactAt w ∧ upAt mode w = true ∧ Os.orderOf (Os.round mode w) = Os.floorOf w + 1 ∧ (Os.round mode w).side = -1) ∨ (¬ exactAt w ∧ upAt mode w = false ∧ Os.orderOf (Os.round mode w) = Os.floorOf w ∧ (Os.round mode w).side = 1) := by
  obtain ⟨a1, a2, _, _⟩ := floor_facts w
  by_cases e : exactAt w
  · left
    rw [round_exact e]
    refine ⟨e, ?_, rfl⟩
    have := order_bits (j := Os.floorOf w) a1 (by omega) false true 0
    rw [if_neg (by simp)] at this
    exact this
  · right
    cases u : upAt mode w with
    | true =>
      left
      rw [round_up e u]
      exact ⟨e, rfl, order_bits (by omega) (by omega) _ _ _, rfl⟩
    | false =>
      right
      rw [round_down e u]
      exact ⟨e, rfl, order_bits a1 (by omega) _ _ _, rfl⟩
def kle (t x : Os.Told) : Prop := Os.orderOf t < Os.orderOf x ∨ (Os.orderOf t = Os.orderOf x ∧ t.side ≤ x.side)
theorem valueAt_zero : Os.valueAt 0 = 0 := by
  have := valueAt_eq 0
  have z : unitsAt 0 = 0 := by decide
  rw [z] at this
  rcases Rat.mul_eq_zero.1 this with r | r
  · exact r
  · exact absurd r UP_ne
theorem floor_neg {w : Os.Where} (h : Wh w) : w 0 < 0 ↔ Os.floorOf w < 0 := by
  obtain ⟨a1, a2, a3, a4⟩ := floor_facts w
  have m1 : (0 : Int) < Os.MOST := by decide
  constructor
  · intro hw
    apply Classical.byContradiction
    intro hn
    have k1 := a3.resolve_left (by omega)
    by_cases e : Os.floorOf w = 0
    · rw [e, valueAt_zero] at k1; omega
    · have := h.fall 0 (Os.valueAt (Os.floorOf w)) (by rw [← valueAt_zero]; exact valueAt_mono (by omega)) (by omega)
      omega
  · intro hf
    have k2 := a4.resolve_left (by omega)
    by_cases e : Os.floorOf w + 1 = 0
    · rw [e, valueAt_zero] at k2; exact k2
    · have := h.fall (Os.valueAt (Os.floorOf w + 1)) 0 (by rw [← valueAt_zero]; exact valueAt_mono (by omega)) (by omega)
      omega
theorem round_mono (mode : Nat) {w w' : Os.Where} (h : Wh w) (h' : Wh w') (l : Lw w w') : kle (Os.round mode w) (Os.round mode w') := by
  have fm := floor_mono h' l
  obtain ⟨a1, a2, a3, a4⟩ := floor_facts w
  have t1 := round_three mode w
  have t2 := round_three mode w'
  unfold kle
  by_cases e : Os.floorOf w = Os.floorOf w'
  · -- the same gap
    have lv := l (Os.valueAt (Os.floorOf w))
    have v' := h'.val (Os.valueAt (Os.floorOf w))
    rcases t1 with ⟨e1, o1, s1⟩ | ⟨e1, u1, o1, s1⟩ | ⟨e1, u1, o1, s1⟩
    · rcases t2 with ⟨e2, o2, s2⟩ | ⟨e2, u2, o2, s2⟩ | ⟨e2, u2, o2, s2⟩
      · right; rw [o1, o2, s1, s2]; exact ⟨e, Int.le_refl _⟩
      · left; omega
      · right; rw [o1, o2, s1, s2]; exact ⟨e, by decide⟩
    · -- up: the other one goes up too
      have ne2 : ¬ exactAt w' := fun z => by
        obtain ⟨z1, z2⟩ := z
        rw [← e] at z1 z2
        have := a3.resolve_left (by omega)
        exact e1 ⟨z1, by omega⟩
      have u2 : upAt mode w' = true := by
        have lm := l ((Os.valueAt (Os.floorOf w) + Os.valueAt (Os.floorOf w + 1)) / 2)
        have n1 := floor_neg h
        have n2 := floor_neg h'
        unfold upAt at u1 ⊢
        rw [← e]
        by_cases m0 : mode = 0
        · rw [if_pos m0] at u1 ⊢
          simp only [Bool.or_eq_true, Bool.and_eq_true, decide_eq_true_eq] at u1 ⊢
          rcases u1 with u | ⟨u, o⟩
          · left; omega
          · by_cases c : 0 < w' ((Os.valueAt (Os.floorOf w) + Os.valueAt (Os.floorOf w + 1)) / 2)
            · exact .inl c
            · exact .inr ⟨by omega, o⟩
        · rw [if_neg m0] at u1 ⊢
          by_cases m1 : mode = 1
          · rw [if_pos m1] at u1; cases u1
          · rw [if_neg m1] at u1 ⊢
            by_cases m2 : mode = 2
            · rw [if_pos m2]
            · rw [if_neg m2] at u1 ⊢
              have := n1.1 (of_decide_eq_true u1)
              exact decide_eq_true (n2.2 (by omega))
      rcases t2 with ⟨e2, o2, s2⟩ | ⟨e2, _, o2, s2⟩ | ⟨e2, u2', o2, s2⟩
      · exact absurd e2 ne2
      · right; rw [o1, o2, s1, s2, e]; exact ⟨rfl, Int.le_refl _⟩
      · rw [u2] at u2'; cases u2'
    · rcases t2 with ⟨e2, o2, s2⟩ | ⟨e2, u2, o2, s2⟩ | ⟨e2, u2, o2, s2⟩
      · exfalso
        obtain ⟨z1, z2⟩ := e2
        rw [← e] at z1 z2
        have := a3.resolve_left (by omega)
        exact e1 ⟨z1, by omega⟩
      · left; omega
      · right; rw [o1, o2, s1, s2]; exact ⟨e, Int.le_refl _⟩
  · rcases t1 with ⟨e1, o1, s1⟩ | ⟨e1, u1, o1, s1⟩ | ⟨e1, u1, o1, s1⟩ <;> rcases t2 with ⟨e2, o2, s2⟩ | ⟨e2, u2, o2, s2⟩ | ⟨e2, u2, o2, s2⟩ <;> rw [o1, o2, s1, s2] <;> omega
theorem round_key (mode : Nat) {w w' : Os.Where} (h : Wh w) (h' : Wh w') (l : kle (Os.round mode w) (Os.round mode w')) (l' : kle (Os.round mode w') (Os.round mode w)) : Os.round mode w = Os.round mode w' := by
  have o : Os.orderOf (Os.round mode w) = Os.orderOf (Os.round mode w') ∧ (Os.round mode w).side = (Os.round mode w').side := by
    unfold kle at l l'
    omega
  obtain ⟨o1, o2⟩ := o
  have n1 := floor_neg h
  have n2 := floor_neg h'
  rcases round_three mode w with ⟨e1, p1, s1⟩ | ⟨e1, u1, p1, s1⟩ | ⟨e1, u1, p1, s1⟩ <;> rcases round_three mode w' with ⟨e2, p2, s2⟩ | ⟨e2, u2, p2, s2⟩ | ⟨e2, u2, p2, s2⟩ <;> rw [s1, s2] at o2 <;> rw [p1, p2] at o1 <;> (try (exact absurd o2 (by decide)))
  · rw [round_exact e1, round_exact e2, o1]
  · rw [round_up e1 u1, round_up e2 u2]
    have fe : Os.floorOf w = Os.floorOf w' := by omega
    have : decide (w 0 < 0) = decide (w' 0 < 0) := by
      rw [decide_eq_decide, n1, n2, fe]
    rw [this, fe]
  · rw [round_down e1 u1, round_down e2 u2]
    have : decide (w 0 < 0) = decide (w' 0 < 0) := by
      rw [decide_eq_decide, n1, n2, o1]
    rw [this, o1]
/-! putting in -/
theorem ins_facts (t : Os.Told) : ∀ l : List Os.Told, l.Pairwise kle → (Os.insertTold t l).Perm (t :: l) ∧ (Os.insertTold t l).Pairwise kle
  | [], _ => ⟨.refl _, List.pairwise_singleton ..⟩
  | x :: l, s => by
    rw [Os.insertTold]
    have tr : ∀ a b c : Os.Told, kle a b → kle b c → kle a c := fun a b c h k => by
      unfold kle at *
      omega
    by_cases c : Os.orderOf t < Os.orderOf x ∨ (Os.orderOf t = Os.orderOf x ∧ t.side < x.side)
    · rw [if_pos c]
      refine ⟨.refl _, List.pairwise_cons.2 ⟨fun u hu => ?_, s⟩⟩
      have tx : kle t x := by unfold kle; omega
      rcases List.mem_cons.1 hu with e | e
      · rw [e]; exact tx
      · exact tr _ _ _ tx ((List.pairwise_cons.1 s).1 u e)
    · rw [if_neg c]
      obtain ⟨p, q⟩ := ins_facts t l (List.pairwise_cons.1 s).2
      have xt : kle x t := by unfold kle; omega
      refine ⟨(p.cons x).trans (.swap ..), List.pairwise_cons.2 ⟨fun u hu => ?_, q⟩⟩
      rcases List.mem_cons.1 (p.mem_iff.1 hu) with e | e
      · rw [e]; exact xt
      · exact (List.pairwise_cons.1 s).1 u e
theorem fold_facts : ∀ (l acc : List Os.Told), acc.Pairwise kle → (l.foldl (fun (l : List Os.Told) (t : Os.Told) => Os.insertTold t l) acc).Perm (l ++ acc) ∧ (l.foldl (fun (l : List Os.Told) (t : Os.Told) => Os.insertTold t l) acc).Pairwise kle
  | [], acc, s => ⟨.refl _, s⟩
  | t :: l, acc, s => by
    obtain ⟨p, q⟩ := ins_facts t acc s
    obtain ⟨p2, q2⟩ := fold_facts l (Os.insertTold t acc) q
    exact ⟨p2.trans ((List.Perm.append_left l p).trans List.perm_middle), q2⟩
theorem perm_sorted : ∀ l m : List Os.Told, l.Perm m → l.Pairwise kle → m.Pairwise kle → (∀ a ∈ m, ∀ b ∈ m, kle a b → kle b a → a = b) → l = m
  | [], m, p, _, _, _ => (p.symm.eq_nil).symm
  | a :: l, [], p, _, _, _ => p.eq_nil
  | a :: l, b :: m, p, s, t, anti => by
    have e : a = b := by
      have ha : a ∈ b :: m := p.mem_iff.1 (List.mem_cons_self ..)
      have hb : b ∈ a :: l := p.mem_iff.2 (List.mem_cons_self ..)
      rcases List.mem_cons.1 ha with h | h
      · exact h
      · rcases List.mem_cons.1 hb with k | k
        · exact k.symm
        · exact anti a ha b (List.mem_cons_self ..) ((List.pairwise_cons.1 s).1 b k) ((List.pairwise_cons.1 t).1 a h)
    subst e
    rw [perm_sorted l m (p.cons_inv) (List.pairwise_cons.1 s).2 (List.pairwise_cons.1 t).2 fun x hx y hy => anti x (List.mem_cons_of_mem _ hx) y (List.mem_cons_of_mem _ hy)]
/-- the specification's order, from the counts -/
theorem told_sorted (mode : Nat) (zs ws : List Os.Where) (hz : ∀ z ∈ zs, Wh z) (hw : ∀ w ∈ ws, Wh w) (sw : ws.Pairwise Lw) (hl : zs.length = ws.length) (h1 : ∀ x, atMost zs x = atMost ws x) (h2 : ∀ x, under zs x = under ws x) :
    (zs.map (Os.round mode)).foldl (fun (l : List Os.Told) (t : Os.Told) => Os.insertTold t l) [] = ws.map (Os.round mode) := by
  obtain ⟨m, p, s⟩ := lw_sort zs hz
  have hm : ∀ y ∈ m, Wh y := fun y hy => hz y (p.mem_iff.1 hy)
  have e : m = ws := sorted_eq m ws (p.length_eq.trans hl) hm hw s sw (fun x => (p.countP_eq _).trans (h1 x)) (fun x => (p.countP_eq _).trans (h2 x))
  subst e
  obtain ⟨q, r⟩ := fold_facts (zs.map (Os.round mode)) [] .nil
  rw [List.append_nil] at q
  refine perm_sorted _ _ (q.trans (p.map _).symm) r ?_ ?_
  · have : ∀ l : List Os.Where, (∀ y ∈ l, Wh y) → l.Pairwise Lw → (l.map (Os.round mode)).Pairwise kle := by
      intro l
      induction l with
      | nil => intro _ _; exact .nil
      | cons a l ih =>
        intro h t
        rw [List.map_cons]
        refine List.pairwise_cons.2 ⟨fun u hu => ?_, ih (fun y hy => h y (List.mem_cons_of_mem _ hy)) (List.pairwise_cons.1 t).2⟩
        obtain ⟨y, hy, rfl⟩ := List.mem_map.1 hu
        exact round_mono mode (h a (List.mem_cons_self ..)) (h y (List.mem_cons_of_mem _ hy)) ((List.pairwise_cons.1 t).1 y hy)
    exact this m hm s
  · intro a ha b hb
    obtain ⟨x, hx, rfl⟩ := List.mem_map.1 ha
    obtain ⟨y, hy, rfl⟩ := List.mem_map.1 hb
    exact round_key mode (hm x hx) (hm y hy)
end Desk

namespace Desk
/-! the slopes of a row, at a stretched place -/
theorem der_scale {f g : Rat → Rat} (h : Der f g) {k : Rat} (hk : 0 < k) : Der (fun x => f (k * x)) fun x => k * g (k * x) := fun M hM => by
  obtain ⟨K, hK, e⟩ := h (k * M) (Rat.mul_nonneg (Rat.le_of_lt hk) hM)
  have ak : ab k = k := by unfold ab; rw [if_neg (by grind)]
  refine ⟨K * (k * k), Rat.mul_nonneg hK (sq_nn k), fun x y hx hy => ?_⟩
  have b : ∀ z, ab z ≤ M → ab (k * z) ≤ k * M := fun z hz => by rw [ab_mul, ak]; exact Rat.mul_le_mul_of_nonneg_left hz (Rat.le_of_lt hk)
  have := e (k * x) (k * y) (b x hx) (b y hy)
  have e1 : f (k * y) - f (k * x) - (y - x) * (k * g (k * x)) = f (k * y) - f (k * x) - (k * y - k * x) * g (k * x) := by grind
  have e2 : K * (k * k) * ((y - x) * (y - x)) = K * ((k * y - k * x) * (k * y - k * x)) := by grind
  rw [e1, e2]
  exact this
theorem pl_scale (k : Rat) {f : Rat → Rat} : Pl f → Pl fun x => f (k * x)
  | ⟨p, hp⟩ => by
    have : ∀ p : Pol, Pl fun x => ev p (k * x) := by
      intro p
      induction p with
      | nil => exact pl_const 0
      | cons c p ih => exact pl_of (pl_add (pl_const c) (pl_mul (pl_smul k pl_id) ih)) fun x => rfl
    exact pl_of (this p) fun x => hp _
def sl : Nat → Pol → Pol
  | 0, p => p
  | i + 1, p => Os.slope (sl i p)
theorem sl_in (p : Pol) : ∀ i : Nat, sl i (Os.slope p) = sl (i + 1) p
  | 0 => rfl
  | i + 1 => by
    show Os.slope (sl i (Os.slope p)) = Os.slope (sl (i + 1) p)
    rw [sl_in p i]
theorem dch_of {k : Rat} (hk : 0 < k) : ∀ (d : Nat) (p : Pol), Os.trim p = p → p.length = d + 1 → Dch (fun x => ev p (k * x)) ((List.range (d + 1)).map fun i => fun x => ev (sl i p) (k * x))
  | 0, p, h1, h2 => by
    obtain ⟨c, rfl⟩ : ∃ c, p = [c] := by
      cases p with
      | nil => simp at h2
      | cons c p =>
        have : p = [] := List.eq_nil_of_length_eq_zero (by simpa using h2)
        exact ⟨c, by rw [this]⟩
    obtain ⟨a, ha, e⟩ := const_of_len (p := [c]) (by rw [h1]; simp) (by rw [h1]; simp)
    exact .last a (pl_scale k (pl_ev _)) ha fun x => e _
  | d + 1, p, h1, h2 => by
    have hp : Os.trim p ≠ [] := by
      rw [h1]
      intro h
      rw [h] at h2
      simp at h2
    rcases trim_spec p with ⟨_, e⟩ | ⟨l, c, hc, e, _⟩
    · exact absurd e hp
    rw [h1] at e
    have hl : l.length = d + 1 := by
      rw [e, List.length_append, List.length_singleton] at h2
      omega
    obtain ⟨s1, s2⟩ := slope_trim l c hc fun h => by rw [h] at hl; simp at hl
    rw [← e] at s1 s2
    have ih := dch_of hk d (Os.slope p) s1 (by omega)
    have e2 : (List.range (d + 1)).map (fun i => fun x => ev (sl i (Os.slope p)) (k * x)) = (List.range (d + 1)).map ((fun i => fun x => ev (sl i p) (k * x)) ∘ Nat.succ) := List.map_congr_left fun i _ => by
      show (fun x => ev (sl i (Os.slope p)) (k * x)) = fun x => ev (sl (i + 1) p) (k * x)
      rw [sl_in]
    rw [e2, ← List.map_map] at ih
    rw [List.range_succ_eq_map, List.map_cons]
    refine .step (b := 1 / k) (pl_scale k (pl_ev p)) ?_ (der_scale (der_slope p) hk) ?_ (fun x => ?_) ih
    · obtain ⟨x, hx⟩ := trim_nz hp
      refine ⟨1 / k * x, ?_⟩
      have : k * (1 / k * x) = 1 / k * k * x := by grind
      show ev p (k * (1 / k * x)) ≠ 0
      rw [this, Rat.div_mul_cancel (by grind), Rat.one_mul]
      exact hx
    · rw [Rat.lt_div_iff hk]; grind
    · have : 1 / k * (k * ev (Os.slope p) (k * x)) = 1 / k * k * ev (Os.slope p) (k * x) := by grind
      rw [this, Rat.div_mul_cancel (by grind), Rat.one_mul]
/-! the program's numbers at a place -/
def taylorF (m : Int) (s : Nat) : Nat → List Int → List Int
  | 0, _ => []
  | f + 1, p => if p = [] then [] else (horI m s p).1 :: taylorF m s f (horI m s p).2
def taylorI (m : Int) (s : Nat) (p : List Int) : List Int := taylorF m s p.length p
def leadI : List Int → Nat
  | [] => 0
  | a :: l => if a ≠ 0 then 0 else leadI l + 1
theorem taylor_cons (m : Int) (s : Nat) {p : List Int} (h : p ≠ []) : taylorI m s p = (horI m s p).1 :: taylorI m s (horI m s p).2 := by
  unfold taylorI
  obtain ⟨n, hn⟩ : ∃ n, p.length = n + 1 := ⟨p.length - 1, by have := List.length_pos_iff.2 h; omega⟩
  rw [hn, taylorF, if_neg h, hor_len, hn, Nat.add_sub_cancel]
theorem taylor_len (m : Int) (s : Nat) : ∀ (n : Nat) (p : List Int), p.length = n → (taylorI m s p).length = n
  | 0, p, h => by
    have : p = [] := List.eq_nil_of_length_eq_zero h
    subst this
    rfl
  | n + 1, p, h => by
    rw [taylor_cons m s (fun z => by rw [z] at h; simp at h), List.length_cons, taylor_len m s n _ (by rw [hor_len]; omega)]
theorem sl_step {P Q : Pol} {a y0 : Rat} (h : ∀ y, ev P y = a + (y - y0) * ev Q y) : ∀ (i : Nat) (y : Rat), ev (sl (i + 1) P) y = ((i + 1 : Nat) : Rat) * ev (sl i Q) y + (y - y0) * ev (sl (i + 1) Q) y
  | 0, y => by
    have d := der_add (der_const a) (der_mul (der_add der_id (der_const (-y0))) (der_slope Q) (bd_add bd_id (bd_const _)) (bd_ev Q) (bd_add (bd_const 1) (bd_const 0)) (bd_ev (Os.slope Q)))
    have e : (fun x => a + (x + -y0) * ev Q x) = ev P := funext fun x => by rw [h]; grind
    rw [e] at d
    have := der_uniq (der_slope P) d y
    show ev (Os.slope P) y = ((1 : Nat) : Rat) * ev Q y + (y - y0) * ev (Os.slope Q) y
    rw [this, show ((1 : Nat) : Rat) = 1 from rfl]
    grind
  | i + 1, y => by
    have d := der_add (der_mul (der_const ((i + 1 : Nat) : Rat)) (der_slope (sl i Q)) (bd_const _) (bd_ev _) (bd_const _) (bd_ev _)) (der_mul (der_add der_id (der_const (-y0))) (der_slope (sl (i + 1) Q)) (bd_add bd_id (bd_const _)) (bd_ev _) (bd_add (bd_const 1) (bd_const 0)) (bd_ev _))
    have e : (fun x => ((i + 1 : Nat) : Rat) * ev (sl i Q) x + (x + -y0) * ev (sl (i + 1) Q) x) = ev (sl (i + 1) P) := funext fun x => by rw [sl_step h i x]; grind
    rw [e] at d
    have := der_uniq (der_slope (sl (i + 1) P)) d y
    show ev (Os.slope (sl (i + 1) P)) y = ((i + 1 + 1 : Nat) : Rat) * ev (Os.slope (sl i Q)) y + (y - y0) * ev (Os.slope (sl (i + 1) Q)) y
    have c : ((i + 1 + 1 : Nat) : Rat) = ((i + 1 : Nat) : Rat) + 1 := by rw [Rat.natCast_add]; rfl
    have es : sl (i + 1) Q = Os.slope (sl i Q) := rfl
    rw [this, c, es]
    grind
theorem taylor_sl (m : Int) (s : Nat) : ∀ (i : Nat) (p : List Int), i < p.length → ∃ k : Rat, 0 < k ∧ ev (sl i (c2 p)) ((m * 2 ^ s : Int) : Rat) = k * (((taylorI m s p).getD i 0 : Int) : Rat)
  | 0, p, h => by
    have hp : p ≠ [] := fun z => by rw [z] at h; simp at h
    refine ⟨1, by decide, ?_⟩
    rw [taylor_cons m s hp]
    show ev (c2 p) _ = 1 * (((horI m s p).1 : Int) : Rat)
    rw [hor_ev m s _ p]
    grind
  | i + 1, p, h => by
    have hp : p ≠ [] := fun z => by rw [z] at h; simp at h
    obtain ⟨k, hk, e⟩ := taylor_sl m s i (horI m s p).2 (by rw [hor_len]; omega)
    have st := sl_step (fun y => hor_ev m s y p) i ((m * 2 ^ s : Int) : Rat)
    have hi : (0 : Rat) < ((i + 1 : Nat) : Rat) := Rat.natCast_lt_natCast.2 (show 0 < i + 1 by omega)
    refine ⟨((i + 1 : Nat) : Rat) * k, Rat.mul_pos hi hk, ?_⟩
    rw [taylor_cons m s hp, st, e]
    show _ = _ * (((taylorI m s (horI m s p).2).getD i 0 : Int) : Rat)
    grind
theorem sg_pos_mul {k x : Rat} (hk : 0 < k) : sg (k * x) = sg x := by
  rw [sg_mulr, sg_gt (by grind) (by grind), Rat.one_mul]
theorem taylor_sg (m : Int) (s : Nat) (p : List Int) : ((List.range p.length).map fun i => ev (sl i (c2 p)) ((m * 2 ^ s : Int) : Rat)).map sg = (c2 (taylorI m s p)).map sg := by
  have hl := taylor_len m s p.length p rfl
  apply List.ext_getElem?
  intro i
  by_cases hi : i < p.length
  · obtain ⟨k, hk, e⟩ := taylor_sl m s i p hi
    rw [List.getElem?_map, List.getElem?_map, List.getElem?_range hi, List.getElem?_map]
    unfold c2
    rw [List.getElem?_map, List.getElem?_eq_getElem (by omega)]
    have g : (taylorI m s p).getD i 0 = (taylorI m s p)[i]'(by omega) := by rw [List.getD_eq_getElem?_getD, List.getElem?_eq_getElem (by omega)]; rfl
    rw [g] at e
    show some (sg (ev (sl i (c2 p)) ((m * 2 ^ s : Int) : Rat))) = some (sg _)
    rw [e, sg_pos_mul hk]
  · rw [List.getElem?_eq_none (by rw [List.length_map, List.length_map, List.length_range]; omega), List.getElem?_eq_none (by rw [List.length_map, c2_len]; omega)]
/-- zeros that lead -/
def leadR : List Rat → Nat
  | [] => 0
  | a :: l => if a ≠ 0 then 0 else leadR l + 1
theorem lead_sg : ∀ (l : List Rat) (m : List Int), l.map sg = (c2 m).map sg → leadR l = leadI m
  | [], [], _ => rfl
  | [], _ :: _, h => by cases h
  | _ :: _, [], h => by cases h
  | a :: l, b :: m, h => by
    rw [c2_cons, List.map_cons, List.map_cons, List.cons.injEq] at h
    have ih := lead_sg l m h.2
    have z : a = 0 ↔ b = 0 := by
      have sz : ∀ v : Rat, sg v = 0 ↔ v = 0 := fun v => by
        constructor
        · intro h0
          rcases sg_three v with ⟨_, r⟩ | r
          · exact r
          · rw [h0] at r; rcases r with q | q <;> exact absurd q (by decide)
        · intro h0; rw [h0]; exact sg_zero
      rw [← sz a, h.1, sz]
      exact Rat.intCast_eq_zero_iff
    rw [leadR, leadI, ih]
    by_cases c : a = 0
    · rw [if_neg (by simp [c]), if_neg (by simp [z.1 c])]
    · rw [if_pos c, if_pos fun h => c (z.2 h)]
theorem dch_lead {r : Rat} {π ρ : Rat → Rat} (g : Germ (fun q => q ≤ r) π ρ) {f : Rat → Rat} {l : List (Rat → Rat)} (h : Dch f l) : ∀ (k : Nat) (t : Rat), Gm (fun q => q ≤ r) π f k t → leadR (l.map fun f => f r) = k := by
  have hL := ct_at r
  induction h with
  | @last f c h1 h2 h3 =>
    intro k t gf
    have := gm_const hL g h2 h3 gf
    subst this
    show (if f r ≠ 0 then 0 else _) = 0
    rw [if_pos (by rw [h3]; exact h2)]
  | @step f f' f1 l b h1 h2 h3 h4 h5 h6 ih =>
    intro k t gf
    rw [List.map_cons, leadR]
    cases k with
    | zero =>
      have : f r ≠ 0 := fun h0 => (gm_van hL g gf).1 ((van_at h1).2 h0) rfl
      rw [if_pos this]
    | succ k =>
      have : f r = 0 := (van_at h1).1 ((gm_van hL g gf).2 (by omega))
      rw [if_neg (by simp [this]), ih k t (gm_of hL g h5 (gm_scale hL g h4 (gm_der hL g h3 gf)))]
theorem dch_lead0 {r : Rat} (hn : ∀ f, Pl f → Nz f → ¬ Van (fun q => q ≤ r) f) {f : Rat → Rat} {l : List (Rat → Rat)} (h : Dch f l) : leadR (l.map fun f => f r) = 0 := by
  have key : f r ≠ 0 := fun h0 => hn f (dch_pl h).1 (dch_pl h).2 ((van_at (dch_pl h).1).2 h0)
  cases h with
  | last c h1 h2 h3 => rw [List.map_cons, leadR, if_pos key]
  | step h1 h2 h3 h4 h5 h6 => rw [List.map_cons, leadR, if_pos key]
end Desk

namespace Desk
/-! the zeros of the levels, in their order -/
abbrev upT (p : Pol) (x : Rat) : Nat := Os.upTo (Os.chain (Os.single p)) x
abbrev many (p : Pol) : Nat := Os.howMany (Os.chain (Os.single p))
abbrev zw (p : Pol) (k : Nat) : Os.Where := Os.zeroAt (Os.single p) (Os.chain (Os.single p)) k
theorem lev_facts {p : Pol} (hp : Os.trim p ≠ []) : ∃ (T : Nat) (M : Rat), 0 < M ∧ (∀ x, upT p x + cnt p x = T) ∧ (∀ x, x ≤ -M → cnt p x = T) ∧ (∀ y, M ≤ y → cnt p y + many p = T) ∧ (∀ x, upT p x ≤ many p) ∧ (∀ r r', r < r' → upT p r + (if ev (Os.single p) r' = 0 then 1 else 0) ≤ upT p r') ∧ ∀ x, ev (Os.single p) x = 0 → 1 ≤ upT p x := by
  obtain ⟨V, c, e, M, m0, m1, m2⟩ := spec_count hp
  have ce : ∀ x, cnt p x = V x := e
  have ns := (single_nz hp).1
  have mono : ∀ {u v : Rat}, u ≤ v → V v ≤ V u := fun h => count_mono (pl_ev _) ns c h
  have strict : ∀ {u v : Rat}, u < v → ev (Os.single p) v = 0 → V v < V u := fun h z => count_strict (pl_ev _) ns c h z
  have a1 : V (-M) = Os.changesFrom 0 ((Os.chain (Os.single p)).map Os.atMinus) := m1 _ Rat.le_refl
  have a2 : V M = Os.changesFrom 0 ((Os.chain (Os.single p)).map Os.lead) := m2 _ Rat.le_refl
  have hi : ∀ x, V x ≤ V (-M) := fun x => by
    rw [a1, ← m1 (-M - ab x) (by have := ab_nn x; grind)]
    refine mono ?_
    unfold ab
    split <;> grind
  have lo : ∀ x, V M ≤ V x := fun x => by
    rw [a2, ← m2 (M + ab x) (by have := ab_nn x; grind)]
    refine mono ?_
    unfold ab
    split <;> grind
  have u : ∀ x, upT p x = V (-M) - V x := fun x => by
    show Os.upTo _ _ = _
    unfold Os.upTo
    rw [e, a1]
  have mn : many p = V (-M) - V M := by
    show Os.howMany _ = _
    unfold Os.howMany
    rw [a1, a2]
  refine ⟨V (-M), M, m0, fun x => ?_, fun x hx => ?_, fun y hy => ?_, fun x => ?_, fun r r' h => ?_, fun x hx => ?_⟩
  · rw [u, ce]; have := hi x; omega
  · rw [ce, m1 x hx, a1]
  · rw [ce, mn, m2 y hy, a2]; have := hi M; rw [a2] at this; omega
  · rw [u, mn]; have := lo x; omega
  · rw [u, u]
    have := hi r
    by_cases z : ev (Os.single p) r' = 0
    · rw [if_pos z]; have := strict h z; omega
    · rw [if_neg z]; have := mono (Rat.le_of_lt h); omega
  · rw [u]
    have := strict (show x - 1 < x by grind) hx
    have := hi (x - 1)
    omega
/-- one place, told by the count there and whether it is a zero -/
def zf (U k : Nat) (v : Rat) : Int := if U ≤ k then 1 else if v = 0 ∧ U = k + 1 then 0 else -1
theorem zw_eq (p : Pol) (k : Nat) (x : Rat) : zw p k x = zf (upT p x) k (ev (Os.single p) x) := rfl
theorem zf_val (U k : Nat) (v : Rat) : zf U k v = 1 ∨ zf U k v = 0 ∨ zf U k v = -1 := by
  unfold zf
  split
  · exact .inl rfl
  · split
    · exact .inr (.inl rfl)
    · exact .inr (.inr rfl)
theorem zf_most (U k : Nat) (v : Rat) : zf U k v ≤ 0 ↔ k < U := by
  unfold zf
  by_cases c : U ≤ k
  · rw [if_pos c]; exact ⟨fun h => absurd h (by decide), fun h => by omega⟩
  · rw [if_neg c]
    refine ⟨fun _ => by omega, fun _ => ?_⟩
    split <;> decide
theorem zf_under (U k : Nat) (v : Rat) : zf U k v < 0 ↔ k < U - (if v = 0 then 1 else 0) := by
  unfold zf
  by_cases c : U ≤ k
  · rw [if_pos c]
    exact ⟨fun h => absurd h (by decide), fun h => absurd h (by split <;> omega)⟩
  · rw [if_neg c]
    by_cases z : v = 0
    · rw [if_pos z]
      by_cases d : U = k + 1
      · rw [if_pos ⟨z, d⟩]
        exact ⟨fun h => absurd h (by decide), fun h => absurd h (by omega)⟩
      · rw [if_neg fun h => d h.2]
        exact ⟨fun _ => by omega, fun _ => by decide⟩
    · rw [if_neg z, if_neg fun h => z h.1]
      exact ⟨fun _ => by omega, fun _ => by decide⟩
theorem wh_zero {p : Pol} (hp : Os.trim p ≠ []) (k : Nat) : Wh (zw p k) := by
  obtain ⟨T, M, m0, f1, f2, f3, f4, f5, f6⟩ := lev_facts hp
  refine ⟨fun r => by rw [zw_eq]; exact zf_val _ _ _, fun r r' h hz => ?_⟩
  rw [zw_eq, zf_most] at hz
  rw [zw_eq]
  have h5 := f5 r r' h
  generalize upT p r = a at hz h5
  generalize upT p r' = b at h5 ⊢
  generalize ev (Os.single p) r' = v at h5 ⊢
  unfold zf
  by_cases z : v = 0
  · rw [if_pos z] at h5
    rw [if_neg (by omega), if_neg (by omega)]
  · rw [if_neg z] at h5
    rw [if_neg (by omega), if_neg fun h => z h.1]
theorem range_lt (u : Nat) : ∀ N : Nat, (List.range N).countP (fun k => decide (k < u)) = min N u
  | 0 => by simp
  | N + 1 => by
    rw [List.range_succ, List.countP_append, range_lt u N, List.countP_cons, List.countP_nil]
    by_cases c : N < u
    · rw [if_pos (decide_eq_true c)]; omega
    · rw [if_neg (by simp [c])]; omega
def zlist (p : Pol) : List Os.Where := (List.range (many p)).map (zw p)
theorem zlist_most {p : Pol} (hp : Os.trim p ≠ []) (x : Rat) : atMost (zlist p) x = upT p x := by
  obtain ⟨T, M, m0, f1, f2, f3, f4, f5, f6⟩ := lev_facts hp
  unfold atMost zlist
  rw [List.countP_map]
  have e : ((fun z : Os.Where => decide (z x ≤ 0)) ∘ zw p) = fun k => decide (k < upT p x) := by
    funext k
    rw [Function.comp_apply]
    exact (decide_eq_decide (p := zw p k x ≤ 0)).2 (by rw [zw_eq]; exact zf_most _ _ _)
  rw [e, range_lt]
  have := f4 x
  omega
theorem zlist_under {p : Pol} (hp : Os.trim p ≠ []) (x : Rat) : under (zlist p) x + (if ev (Os.single p) x = 0 then 1 else 0) = upT p x := by
  obtain ⟨T, M, m0, f1, f2, f3, f4, f5, f6⟩ := lev_facts hp
  unfold under zlist
  rw [List.countP_map]
  have e : ((fun z : Os.Where => decide (z x < 0)) ∘ zw p) = fun k => decide (k < upT p x - (if ev (Os.single p) x = 0 then 1 else 0)) := by
    funext k
    rw [Function.comp_apply]
    exact (decide_eq_decide (p := zw p k x < 0)).2 (by rw [zw_eq]; exact zf_under _ _ _)
  rw [e, range_lt]
  have h4 := f4 x
  have h6 := f6 x
  generalize ev (Os.single p) x = v at h6 ⊢
  generalize upT p x = U at h4 h6 ⊢
  by_cases z : v = 0
  · have := h6 z
    rw [if_pos z]
    omega
  · rw [if_neg z]
    omega
def zs (ls : List Pol) : List Os.Where := ls.flatMap zlist
def Rr (ls : List Pol) (x : Rat) : Nat := (ls.map fun p => upT p x).sum
def Dd (ls : List Pol) (x : Rat) : Nat := ls.countP fun p => decide (ev (Os.single p) x = 0)
theorem dd_cons (p : Pol) (ls : List Pol) (x : Rat) : Dd (p :: ls) x = Dd ls x + if ev (Os.single p) x = 0 then 1 else 0 := by
  unfold Dd
  rw [List.countP_cons]
  congr 1
  by_cases c : ev (Os.single p) x = 0
  · rw [if_pos c, if_pos (decide_eq_true c)]
  · rw [if_neg c, if_neg (by simp [c])]
theorem rr_cons (p : Pol) (ls : List Pol) (x : Rat) : Rr (p :: ls) x = upT p x + Rr ls x := by unfold Rr; rw [List.map_cons, List.sum_cons]
theorem zs_cons (p : Pol) (ls : List Pol) : zs (p :: ls) = zlist p ++ zs ls := rfl
theorem levs_facts : ∀ ls : List Pol, (∀ p ∈ ls, Os.trim p ≠ []) → (∀ z ∈ zs ls, Wh z) ∧ (∀ x, atMost (zs ls) x = Rr ls x) ∧ (∀ x, under (zs ls) x + Dd ls x = Rr ls x) ∧ (∀ r r', r < r' → Rr ls r + Dd ls r' ≤ Rr ls r') ∧ ∃ (T : Nat) (M : Rat), 0 < M ∧ (∀ x, Rr ls x + cnts ls x = T) ∧ (∀ x, x ≤ -M → cnts ls x = T) ∧ ∀ y, M ≤ y → cnts ls y + (zs ls).length = T
  | [], _ => ⟨fun z hz => (by cases hz), fun x => rfl, fun x => rfl, fun r r' _ => Nat.le_refl _, 0, 1, by decide, fun x => rfl, fun x _ => rfl, fun y _ => rfl⟩
  | p :: ls, h => by
    obtain ⟨i1, i2, i3, i4, T, M, m0, i5, i6, i7⟩ := levs_facts ls fun q hq => h q (List.mem_cons_of_mem _ hq)
    have hp := h p (List.mem_cons_self ..)
    obtain ⟨T', M', m0', f1, f2, f3, f4, f5, f6⟩ := lev_facts hp
    refine ⟨fun z hz => ?_, fun x => ?_, fun x => ?_, fun r r' hr => ?_, T' + T, M + M', by grind, fun x => ?_, fun x hx => ?_, fun y hy => ?_⟩
    · rw [zs_cons] at hz
      rcases List.mem_append.1 hz with q | q
      · obtain ⟨k, _, rfl⟩ := List.mem_map.1 q
        exact wh_zero hp k
      · exact i1 z q
    · rw [zs_cons, rr_cons, ← i2, ← zlist_most hp]
      unfold atMost
      rw [List.countP_append]
    · rw [zs_cons, rr_cons, ← i3, ← zlist_under hp, dd_cons]
      unfold under
      rw [List.countP_append]
      omega
    · have := i4 r r' hr
      have := f5 r r' hr
      rw [rr_cons, rr_cons, dd_cons]
      omega
    · have := i5 x
      have := f1 x
      rw [rr_cons, cnts_cons]
      omega
    · rw [cnts_cons, f2 x (by grind), i6 x (by grind)]
    · have := i7 y (by grind)
      have := f3 y (by grind)
      rw [cnts_cons, zs_cons, List.length_append]
      have : (zlist p).length = many p := by unfold zlist; rw [List.length_map, List.length_range]
      omega
theorem lev_nz : ∀ (f : Nat) (p : Pol), Os.trim p ≠ [] → ∀ q ∈ Os.levels f p, Os.trim q ≠ []
  | 0, p, _, q, hq => by cases hq
  | f + 1, p, hp, q, hq => by
    unfold Os.levels at hq
    by_cases c : (Os.trim p).length ≤ 1
    · rw [if_pos c] at hq; cases hq
    · rw [if_neg c] at hq
      rcases List.mem_cons.1 hq with h | h
      · rw [h]; exact hp
      · exact lev_nz f _ (gcd_len hp c).1 q h
theorem lev_zeros {r : Rat} {π ρ : Rat → Rat} (g : Germ (fun q => q ≤ r) π ρ) : ∀ (f : Nat) (p : Pol), (Os.trim p).length ≤ f → Os.trim p ≠ [] → ∀ (k : Nat) (t : Rat), Gm (fun q => q ≤ r) π (ev p) k t → Dd (Os.levels f p) r = k := by
  have hL := ct_at r
  intro f
  induction f with
  | zero => intro p h hp; have := len_pos hp; omega
  | succ f ih =>
    intro p h hp k t gf
    unfold Os.levels
    by_cases c : (Os.trim p).length ≤ 1
    · rw [if_pos c]
      obtain ⟨a, ha, e⟩ := const_of_len hp c
      have := gm_const hL g ha e gf
      subst this
      rfl
    · rw [if_neg c, dd_cons]
      obtain ⟨gn, gl⟩ := gcd_len hp c
      cases k with
      | zero =>
        obtain ⟨i, u, gg⟩ := gm_ex hL g (pl_ev _) (trim_nz gn)
        obtain ⟨j, w, gs⟩ := gm_ex hL g (pl_ev _) (single_nz hp).1
        have e := (gm_uniq hL g gf (gm_of hL g (single_mul hp) (gm_mul hL g gs gg))).1
        have hi : i = 0 := by omega
        have hj : j = 0 := by omega
        subst hi
        subst hj
        rw [ih _ (by omega) gn 0 u gg, if_neg fun h0 => (gm_van hL g gs).1 ((van_at (pl_ev _)).2 h0) rfl]
      | succ k =>
        obtain ⟨u, gg⟩ := gcd_gm hp hL g gf
        rw [ih _ (by omega) gn k u gg, if_pos ((van_at (pl_ev _)).1 ((single_van hp hL).2 ((gm_van hL g gf).2 (by omega))))]
theorem dd_zero {r : Rat} (hn : ∀ f, Pl f → Nz f → ¬ Van (fun q => q ≤ r) f) (ls : List Pol) (h : ∀ p ∈ ls, Os.trim p ≠ []) : Dd ls r = 0 := by
  unfold Dd
  rw [List.countP_eq_zero]
  intro p hp h0
  exact hn _ (pl_ev _) (single_nz (h p hp)).1 ((van_at (pl_ev _)).2 (of_decide_eq_true h0))
/-- where eigenvalue k + 1 stands -/
def wk (ls : List Pol) (k : Nat) : Os.Where := fun x => if Rr ls x ≤ k then 1 else if Rr ls x ≤ k + Dd ls x then 0 else -1
theorem wk_wh {ls : List Pol} (h4 : ∀ r r', r < r' → Rr ls r + Dd ls r' ≤ Rr ls r') (k : Nat) : Wh (wk ls k) := by
  refine ⟨fun r => ?_, fun r r' h hz => ?_⟩
  · unfold wk
    split
    · exact .inl rfl
    · split
      · exact .inr (.inl rfl)
      · exact .inr (.inr rfl)
  · have := h4 r r' h
    unfold wk at hz ⊢
    by_cases c : Rr ls r ≤ k
    · rw [if_pos c] at hz; exact absurd hz (by decide)
    · rw [if_neg (by omega), if_neg (by omega)]
theorem eig_sorted (mode : Nat) {ls : List Pol} {n : Nat} (h : ∀ p ∈ ls, Os.trim p ≠ []) (hl : (zs ls).length = n) (hR : ∀ x, Rr ls x ≤ n) :
    ((zs ls).map (Os.round mode)).foldl (fun (l : List Os.Told) (t : Os.Told) => Os.insertTold t l) [] = ((List.range n).map (wk ls)).map (Os.round mode) := by
  obtain ⟨i1, i2, i3, i4, _⟩ := levs_facts ls h
  refine told_sorted mode (zs ls) ((List.range n).map (wk ls)) i1 (fun w hw => ?_) ?_ (by rw [hl, List.length_map, List.length_range]) (fun x => ?_) (fun x => ?_)
  · obtain ⟨k, _, rfl⟩ := List.mem_map.1 hw
    exact wk_wh i4 k
  · rw [List.pairwise_map]
    refine (List.pairwise_lt_range (n := n)).imp fun {a b} hab x => ?_
    unfold wk
    by_cases c1 : Rr ls x ≤ a
    · rw [if_pos c1, if_pos (by omega)]; exact Int.le_refl _
    · rw [if_neg c1]
      by_cases c2 : Rr ls x ≤ b
      · rw [if_pos c2]; split <;> decide
      · rw [if_neg c2]
        by_cases c3 : Rr ls x ≤ a + Dd ls x
        · rw [if_pos c3, if_pos (by omega)]; exact Int.le_refl _
        · rw [if_neg c3]; split <;> decide
  · rw [i2]
    unfold atMost
    rw [List.countP_map]
    have e : ((fun z : Os.Where => decide (z x ≤ 0)) ∘ wk ls) = fun k => decide (k < Rr ls x) := by
      funext k
      show decide (wk ls k x ≤ 0) = _
      rw [decide_eq_decide]
      unfold wk
      by_cases c : Rr ls x ≤ k
      · rw [if_pos c]; exact ⟨fun h => absurd h (by decide), fun h => by omega⟩
      · rw [if_neg c]
        refine ⟨fun _ => by omega, fun _ => ?_⟩
        split <;> decide
    rw [e, range_lt]
    have := hR x
    omega
  · have hx := i3 x
    unfold under at hx ⊢
    rw [List.countP_map]
    have e : ((fun z : Os.Where => decide (z x < 0)) ∘ wk ls) = fun k => decide (k < Rr ls x - Dd ls x) := by
      funext k
      show decide (wk ls k x < 0) = _
      rw [decide_eq_decide]
      unfold wk
      by_cases c : Rr ls x ≤ k
      · rw [if_pos c]; exact ⟨fun h => absurd h (by decide), fun h => by omega⟩
      · rw [if_neg c]
        by_cases d : Rr ls x ≤ k + Dd ls x
        · rw [if_pos d]; exact ⟨fun h => absurd h (by decide), fun h => by omega⟩
        · rw [if_neg d]; exact ⟨fun _ => by omega, fun _ => by decide⟩
    rw [e, range_lt]
    have := hR x
    omega
/-- the count of the levels and the sign changes along the slopes -/
theorem eig_count {p : Pol} {n : Nat} (hp : Os.trim p ≠ []) (hl : (Os.trim p).length = n + 1) {f : Rat → Rat} {l : List (Rat → Rat)} {c : Rat} (hc : 0 < c) (hf : ∀ x, f x = c * ev p x) (d : Dch f l) (dl : l.length = n + 1)
    (rr : ∃ N, Tot (cnt p) N ∧ N + 1 = (Os.trim (Os.single p)).length) :
    (zs (Os.levels (n + 1) p)).length = n ∧ ∀ x, Rr (Os.levels (n + 1) p) x + Os.changesFrom 0 (l.map fun f => f x) = n ∧ Dd (Os.levels (n + 1) p) x = leadR (l.map fun f => f x) := by
  obtain ⟨K, tk, hk⟩ := lev_tot (n + 1) p (by omega) hp rr
  have ml := lev_mult (n + 1) p (by omega) hp
  have nz := lev_nz (n + 1) p hp
  have lz := fun {r π ρ} g => @lev_zeros r π ρ g (n + 1) p (by omega) hp
  generalize Os.levels (n + 1) p = ls at *
  obtain ⟨i1, i2, i3, i4, T, M, m0, i5, i6, i7⟩ := levs_facts ls nz
  have hK : K = n := by omega
  subst hK
  have tz : Tot (cnts ls) (zs ls).length := ⟨M, m0, fun x y hx hy => by rw [i6 x hx, i7 y hy]⟩
  have hlen : (zs ls).length = K := tot_uniq tz tk
  refine ⟨hlen, fun x => ⟨?_, ?_⟩⟩
  · have mf : Mult f (cnts ls) := ⟨ml.off, fun L π ρ k t hL g gf => by
      obtain ⟨j, u, gp⟩ := gm_ex hL g (pl_ev p) (trim_nz hp)
      have e := (gm_uniq hL g gf (gm_of hL g hf (gm_scale hL g hc gp))).1
      rw [e]
      exact ml.on L π ρ j u hL g gp⟩
    have b1 := budan d mf (u := -M - ab x) (v := x) (by unfold ab; split <;> grind)
    have b2 := budan d mf (u := x) (v := M + ab x) (by unfold ab; split <;> grind)
    have n1 := ab_nn x
    have e1 := i6 (-M - ab x) (by grind)
    have e2 := i7 (M + ab x) (by grind)
    have e3 := i5 x
    have w := cf_len0 (l.map fun f => f (-M - ab x))
    rw [List.length_map, dl] at w
    omega
  · rcases germ (ct_at x) with hn | ⟨π, ρ, g⟩
    · rw [dch_lead0 hn d, dd_zero hn ls nz]
    · obtain ⟨k, t, gp⟩ := gm_ex (ct_at x) g (pl_ev p) (trim_nz hp)
      rw [lz g k t gp, dch_lead g d k t (gm_of (ct_at x) g hf (gm_scale (ct_at x) g hc gp))]
end Desk

namespace Desk
/-! matrices of up to four rows, written out -/
def aF (M : Os.Mat) : Nat → Nat → Rat := fun i j => Os.entry M i j

theorem cp1 {a c0 : Rat} (h0 : c0 = -(a)) : Os.charPoly 1 [[a]] = [c0, 1] := by
  have s1 : Os.charFrom 1 [[a]] 1 = ([[1]], [c0, 1]) := by
    simp only [Os.charFrom, Os.matOf, Os.times, Os.dot, Os.total, Os.row, Os.entry, List.range, List.range.loop, List.map, List.zipWith, List.foldl, List.getD, List.getElem?_cons_zero, List.getElem?_cons_succ, List.headD, List.length, Option.getD]
    simp
    grind
  unfold Os.charPoly
  rw [s1]
theorem herm1 {a c0 : Rat} (h0 : c0 = -(a)) : ∃ t, Herm 1 c0 [1] t := by
  have e00 : aF [[a]] 0 0 = a := rfl
  generalize aF [[a]] = A at e00
  refine ⟨_, herm_of (A := A) ?_ (by decide) rfl ⟨[], rfl⟩ ?_ (fun x => ?_) ?_⟩
  · intro i j hi hj
    have hi : i = 0 := by omega
    have hj : j = 0 := by omega
    subst hi; subst hj; rfl
  · simp only [inn, pw, sumN]; simp; grind
  · simp only [Os.slope, List.length, List.range, List.range.loop, List.map, Gf, inn, pw, mulN, sumN, ev, Os.polyAt, List.foldr, e00]
    simp
    grind
  · intro i j hi hj
    have hi : i = 0 := by omega
    have hj : j = 0 := by omega
    subst hi; subst hj; (simp only [Sm, pw, mulN, sumN, e00]; simp only [if_pos]; subst h0; grind)
theorem cp2 {a b c c0 c1 : Rat} (h0 : c0 = (a * c - b * b)) (h1 : c1 = -(a + c)) : Os.charPoly 2 [[a, b], [b, c]] = [c0, c1, 1] := by
  have s1 : Os.charFrom 2 [[a, b], [b, c]] 1 = ([[1, 0], [0, 1]], [c1, 1]) := by
    simp only [Os.charFrom, Os.matOf, Os.times, Os.dot, Os.total, Os.row, Os.entry, List.range, List.range.loop, List.map, List.zipWith, List.foldl, List.getD, List.getElem?_cons_zero, List.getElem?_cons_succ, List.headD, List.length, Option.getD]
    simp
    grind
  have s2 : Os.charFrom 2 [[a, b], [b, c]] 2 = ([[(a * 1 + c1), (b * 1)], [(b * 1), (c * 1 + c1)]], [c0, c1, 1]) := by
    rw [Os.charFrom, s1]
    simp only [Os.charFrom, Os.matOf, Os.times, Os.dot, Os.total, Os.row, Os.entry, List.range, List.range.loop, List.map, List.zipWith, List.foldl, List.getD, List.getElem?_cons_zero, List.getElem?_cons_succ, List.headD, List.length, Option.getD]
    simp
    grind
  unfold Os.charPoly
  rw [s2]
theorem herm2 {a b c c0 c1 : Rat} (h0 : c0 = (a * c - b * b)) (h1 : c1 = -(a + c)) : ∃ t, Herm 2 c0 [c1, 1] t := by
  have e00 : aF [[a, b], [b, c]] 0 0 = a := rfl
  have e01 : aF [[a, b], [b, c]] 0 1 = b := rfl
  have e10 : aF [[a, b], [b, c]] 1 0 = b := rfl
  have e11 : aF [[a, b], [b, c]] 1 1 = c := rfl
  generalize aF [[a, b], [b, c]] = A at e00 e01 e10 e11
  refine ⟨_, herm_of (A := A) ?_ (by decide) rfl ⟨[c1], rfl⟩ ?_ (fun x => ?_) ?_⟩
  · intro i j hi hj
    have hi : i = 0 ∨ i = 1 := by omega
    have hj : j = 0 ∨ j = 1 := by omega
    rcases hi with r | r <;> rcases hj with s | s <;> subst r <;> subst s <;> simp only [e00, e01, e10, e11]
  · simp only [inn, pw, sumN]; simp; grind
  · simp only [Os.slope, List.length, List.range, List.range.loop, List.map, Gf, inn, pw, mulN, sumN, ev, Os.polyAt, List.foldr, e00, e01, e10, e11]
    simp
    grind
  · intro i j hi hj
    have hi : i = 0 ∨ i = 1 := by omega
    have hj : j = 0 ∨ j = 1 := by omega
    rcases hi with r | r <;> rcases hj with s | s <;> subst r <;> subst s <;> (simp only [Sm, pw, mulN, sumN, e00, e01, e10, e11]; simp only [if_pos]; subst h0 h1; grind)
theorem cp3 {a b c d e f c0 c1 c2 : Rat} (h0 : c0 = -((a * (d * f - e * e) - b * (b * f - e * c) + c * (b * e - d * c)))) (h1 : c1 = (a * d - b * b) + (a * f - c * c) + (d * f - e * e)) (h2 : c2 = -(a + d + f)) : Os.charPoly 3 [[a, b, c], [b, d, e], [c, e, f]] = [c0, c1, c2, 1] := by
  have s1 : Os.charFrom 3 [[a, b, c], [b, d, e], [c, e, f]] 1 = ([[1, 0, 0], [0, 1, 0], [0, 0, 1]], [c2, 1]) := by
    simp only [Os.charFrom, Os.matOf, Os.times, Os.dot, Os.total, Os.row, Os.entry, List.range, List.range.loop, List.map, List.zipWith, List.foldl, List.getD, List.getElem?_cons_zero, List.getElem?_cons_succ, List.headD, List.length, Option.getD]
    simp
    grind
  have s2 : Os.charFrom 3 [[a, b, c], [b, d, e], [c, e, f]] 2 = ([[(a * 1 + c2), (b * 1), (c * 1)], [(b * 1), (d * 1 + c2), (e * 1)], [(c * 1), (e * 1), (f * 1 + c2)]], [c1, c2, 1]) := by
    rw [Os.charFrom, s1]
    simp only [Os.charFrom, Os.matOf, Os.times, Os.dot, Os.total, Os.row, Os.entry, List.range, List.range.loop, List.map, List.zipWith, List.foldl, List.getD, List.getElem?_cons_zero, List.getElem?_cons_succ, List.headD, List.length, Option.getD]
    simp
    grind
  have s3 : Os.charFrom 3 [[a, b, c], [b, d, e], [c, e, f]] 3 = ([[(a * (a * 1 + c2) + b * (b * 1) + c * (c * 1) + c1), (a * (b * 1) + b * (d * 1 + c2) + c * (e * 1)), (a * (c * 1) + b * (e * 1) + c * (f * 1 + c2))], [(b * (a * 1 + c2) + d * (b * 1) + e * (c * 1)), (b * (b * 1) + d * (d * 1 + c2) + e * (e * 1) + c1), (b * (c * 1) + d * (e * 1) + e * (f * 1 + c2))], [(c * (a * 1 + c2) + e * (b * 1) + f * (c * 1)), (c * (b * 1) + e * (d * 1 + c2) + f * (e * 1)), (c * (c * 1) + e * (e * 1) + f * (f * 1 + c2) + c1)]], [c0, c1, c2, 1]) := by
    rw [Os.charFrom, s2]
    simp only [Os.charFrom, Os.matOf, Os.times, Os.dot, Os.total, Os.row, Os.entry, List.range, List.range.loop, List.map, List.zipWith, List.foldl, List.getD, List.getElem?_cons_zero, List.getElem?_cons_succ, List.headD, List.length, Option.getD]
    simp
    grind
  unfold Os.charPoly
  rw [s3]
theorem herm3 {a b c d e f c0 c1 c2 : Rat} (h0 : c0 = -((a * (d * f - e * e) - b * (b * f - e * c) + c * (b * e - d * c)))) (h1 : c1 = (a * d - b * b) + (a * f - c * c) + (d * f - e * e)) (h2 : c2 = -(a + d + f)) : ∃ t, Herm 3 c0 [c1, c2, 1] t := by
  have e00 : aF [[a, b, c], [b, d, e], [c, e, f]] 0 0 = a := rfl
  have e01 : aF [[a, b, c], [b, d, e], [c, e, f]] 0 1 = b := rfl
  have e02 : aF [[a, b, c], [b, d, e], [c, e, f]] 0 2 = c := rfl
  have e10 : aF [[a, b, c], [b, d, e], [c, e, f]] 1 0 = b := rfl
  have e11 : aF [[a, b, c], [b, d, e], [c, e, f]] 1 1 = d := rfl
  have e12 : aF [[a, b, c], [b, d, e], [c, e, f]] 1 2 = e := rfl
  have e20 : aF [[a, b, c], [b, d, e], [c, e, f]] 2 0 = c := rfl
  have e21 : aF [[a, b, c], [b, d, e], [c, e, f]] 2 1 = e := rfl
  have e22 : aF [[a, b, c], [b, d, e], [c, e, f]] 2 2 = f := rfl
  generalize aF [[a, b, c], [b, d, e], [c, e, f]] = A at e00 e01 e02 e10 e11 e12 e20 e21 e22
  refine ⟨_, herm_of (A := A) ?_ (by decide) rfl ⟨[c1, c2], rfl⟩ ?_ (fun x => ?_) ?_⟩
  · intro i j hi hj
    have hi : i = 0 ∨ i = 1 ∨ i = 2 := by omega
    have hj : j = 0 ∨ j = 1 ∨ j = 2 := by omega
    rcases hi with r | r | r <;> rcases hj with s | s | s <;> subst r <;> subst s <;> simp only [e00, e01, e02, e10, e11, e12, e20, e21, e22]
  · simp only [inn, pw, sumN]; simp; grind
  · simp only [Os.slope, List.length, List.range, List.range.loop, List.map, Gf, inn, pw, mulN, sumN, ev, Os.polyAt, List.foldr, e00, e01, e02, e10, e11, e12, e20, e21, e22]
    simp
    grind
  · intro i j hi hj
    have hi : i = 0 ∨ i = 1 ∨ i = 2 := by omega
    have hj : j = 0 ∨ j = 1 ∨ j = 2 := by omega
    rcases hi with r | r | r <;> rcases hj with s | s | s <;> subst r <;> subst s <;> (simp only [Sm, pw, mulN, sumN, e00, e01, e02, e10, e11, e12, e20, e21, e22]; simp only [if_pos]; subst h0 h1 h2; grind)
theorem cp4 {a b c d e f g h i j c0 c1 c2 c3 : Rat} (h0 : c0 = (a * (e * (h * j - i * i) - f * (f * j - i * g) + g * (f * i - h * g)) - b * (b * (h * j - i * i) - f * (c * j - i * d) + g * (c * i - h * d)) + c * (b * (f * j - i * g) - e * (c * j - i * d) + g * (c * g - f * d)) - d * (b * (f * i - h * g) - e * (c * i - h * d) + f * (c * g - f * d)))) (h1 : c1 = -((a * (e * h - f * f) - b * (b * h - f * c) + c * (b * f - e * c)) + (a * (e * j - g * g) - b * (b * j - g * d) + d * (b * g - e * d)) + (a * (h * j - i * i) - c * (c * j - i * d) + d * (c * i - h * d)) + (e * (h * j - i * i) - f * (f * j - i * g) + g * (f * i - h * g)))) (h2 : c2 = (a * e - b * b) + (a * h - c * c) + (a * j - d * d) + (e * h - f * f) + (e * j - g * g) + (h * j - i * i)) (h3 : c3 = -(a + e + h + j)) : Os.charPoly 4 [[a, b, c, d], [b, e, f, g], [c, f, h, i], [d, g, i, j]] = [c0, c1, c2, c3, 1] := by
  have s1 : Os.charFrom 4 [[a, b, c, d], [b, e, f, g], [c, f, h, i], [d, g, i, j]] 1 = ([[1, 0, 0, 0], [0, 1, 0, 0], [0, 0, 1, 0], [0, 0, 0, 1]], [c3, 1]) := by
    simp only [Os.charFrom, Os.matOf, Os.times, Os.dot, Os.total, Os.row, Os.entry, List.range, List.range.loop, List.map, List.zipWith, List.foldl, List.getD, List.getElem?_cons_zero, List.getElem?_cons_succ, List.headD, List.length, Option.getD]
    simp
    grind
  have s2 : Os.charFrom 4 [[a, b, c, d], [b, e, f, g], [c, f, h, i], [d, g, i, j]] 2 = ([[(a * 1 + c3), (b * 1), (c * 1), (d * 1)], [(b * 1), (e * 1 + c3), (f * 1), (g * 1)], [(c * 1), (f * 1), (h * 1 + c3), (i * 1)], [(d * 1), (g * 1), (i * 1), (j * 1 + c3)]], [c2, c3, 1]) := by
    rw [Os.charFrom, s1]
    simp only [Os.charFrom, Os.matOf, Os.times, Os.dot, Os.total, Os.row, Os.entry, List.range, List.range.loop, List.map, List.zipWith, List.foldl, List.getD, List.getElem?_cons_zero, List.getElem?_cons_succ, List.headD, List.length, Option.getD]
    simp
    grind
  have s3 : Os.charFrom 4 [[a, b, c, d], [b, e, f, g], [c, f, h, i], [d, g, i, j]] 3 = ([[(a * (a * 1 + c3) + b * (b * 1) + c * (c * 1) + d * (d * 1) + c2), (a * (b * 1) + b * (e * 1 + c3) + c * (f * 1) + d * (g * 1)), (a * (c * 1) + b * (f * 1) + c * (h * 1 + c3) + d * (i * 1)), (a * (d * 1) + b * (g * 1) + c * (i * 1) + d * (j * 1 + c3))], [(b * (a * 1 + c3) + e * (b * 1) + f * (c * 1) + g * (d * 1)), (b * (b * 1) + e * (e * 1 + c3) + f * (f * 1) + g * (g * 1) + c2), (b * (c * 1) + e * (f * 1) + f * (h * 1 + c3) + g * (i * 1)), (b * (d * 1) + e * (g * 1) + f * (i * 1) + g * (j * 1 + c3))], [(c * (a * 1 + c3) + f * (b * 1) + h * (c * 1) + i * (d * 1)), (c * (b * 1) + f * (e * 1 + c3) + h * (f * 1) + i * (g * 1)), (c * (c * 1) + f * (f * 1) + h * (h * 1 + c3) + i * (i * 1) + c2), (c * (d * 1) + f * (g * 1) + h * (i * 1) + i * (j * 1 + c3))], [(d * (a * 1 + c3) + g * (b * 1) + i * (c * 1) + j * (d * 1)), (d * (b * 1) + g * (e * 1 + c3) + i * (f * 1) + j * (g * 1)), (d * (c * 1) + g * (f * 1) + i * (h * 1 + c3) + j * (i * 1)), (d * (d * 1) + g * (g * 1) + i * (i * 1) + j * (j * 1 + c3) + c2)]], [c1, c2, c3, 1]) := by
    rw [Os.charFrom, s2]
    simp only [Os.charFrom, Os.matOf, Os.times, Os.dot, Os.total, Os.row, Os.entry, List.range, List.range.loop, List.map, List.zipWith, List.foldl, List.getD, List.getElem?_cons_zero, List.getElem?_cons_succ, List.headD, List.length, Option.getD]
    simp
    grind
  have s4 : Os.charFrom 4 [[a, b, c, d], [b, e, f, g], [c, f, h, i], [d, g, i, j]] 4 = ([[(a * (a * (a * 1 + c3) + b * (b * 1) + c * (c * 1) + d * (d * 1) + c2) + b * (b * (a * 1 + c3) + e * (b * 1) + f * (c * 1) + g * (d * 1)) + c * (c * (a * 1 + c3) + f * (b * 1) + h * (c * 1) + i * (d * 1)) + d * (d * (a * 1 + c3) + g * (b * 1) + i * (c * 1) + j * (d * 1)) + c1), (a * (a * (b * 1) + b * (e * 1 + c3) + c * (f * 1) + d * (g * 1)) + b * (b * (b * 1) + e * (e * 1 + c3) + f * (f * 1) + g * (g * 1) + c2) + c * (c * (b * 1) + f * (e * 1 + c3) + h * (f * 1) + i * (g * 1)) + d * (d * (b * 1) + g * (e * 1 + c3) + i * (f * 1) + j * (g * 1))), (a * (a * (c * 1) + b * (f * 1) + c * (h * 1 + c3) + d * (i * 1)) + b * (b * (c * 1) + e * (f * 1) + f * (h * 1 + c3) + g * (i * 1)) + c * (c * (c * 1) + f * (f * 1) + h * (h * 1 + c3) + i * (i * 1) + c2) + d * (d * (c * 1) + g * (f * 1) + i * (h * 1 + c3) + j * (i * 1))), (a * (a * (d * 1) + b * (g * 1) + c * (i * 1) + d * (j * 1 + c3)) + b * (b * (d * 1) + e * (g * 1) + f * (i * 1) + g * (j * 1 + c3)) + c * (c * (d * 1) + f * (g * 1) + h * (i * 1) + i * (j * 1 + c3)) + d * (d * (d * 1) + g * (g * 1) + i * (i * 1) + j * (j * 1 + c3) + c2))], [(b * (a * (a * 1 + c3) + b * (b * 1) + c * (c * 1) + d * (d * 1) + c2) + e * (b * (a * 1 + c3) + e * (b * 1) + f * (c * 1) + g * (d * 1)) + f * (c * (a * 1 + c3) + f * (b * 1) + h * (c * 1) + i * (d * 1)) + g * (d * (a * 1 + c3) + g * (b * 1) + i * (c * 1) + j * (d * 1))), (b * (a * (b * 1) + b * (e * 1 + c3) + c * (f * 1) + d * (g * 1)) + e * (b * (b * 1) + e * (e * 1 + c3) + f * (f * 1) + g * (g * 1) + c2) + f * (c * (b * 1) + f * (e * 1 + c3) + h * (f * 1) + i * (g * 1)) + g * (d * (b * 1) + g * (e * 1 + c3) + i * (f * 1) + j * (g * 1)) + c1), (b * (a * (c * 1) + b * (f * 1) + c * (h * 1 + c3) + d * (i * 1)) + e * (b * (c * 1) + e * (f * 1) + f * (h * 1 + c3) + g * (i * 1)) + f * (c * (c * 1) + f * (f * 1) + h * (h * 1 + c3) + i * (i * 1) + c2) + g * (d * (c * 1) + g * (f * 1) + i * (h * 1 + c3) + j * (i * 1))), (b * (a * (d * 1) + b * (g * 1) + c * (i * 1) + d * (j * 1 + c3)) + e * (b * (d * 1) + e * (g * 1) + f * (i * 1) + g * (j * 1 + c3)) + f * (c * (d * 1) + f * (g * 1) + h * (i * 1) + i * (j * 1 + c3)) + g * (d * (d * 1) + g * (g * 1) + i * (i * 1) + j * (j * 1 + c3) + c2))], [(c * (a * (a * 1 + c3) + b * (b * 1) + c * (c * 1) + d * (d * 1) + c2) + f * (b * (a * 1 + c3) + e * (b * 1) + f * (c * 1) + g * (d * 1)) + h * (c * (a * 1 + c3) + f * (b * 1) + h * (c * 1) + i * (d * 1)) + i * (d * (a * 1 + c3) + g * (b * 1) + i * (c * 1) + j * (d * 1))), (c * (a * (b * 1) + b * (e * 1 + c3) + c * (f * 1) + d * (g * 1)) + f * (b * (b * 1) + e * (e * 1 + c3) + f * (f * 1) + g * (g * 1) + c2) + h * (c * (b * 1) + f * (e * 1 + c3) + h * (f * 1) + i * (g * 1)) + i * (d * (b * 1) + g * (e * 1 + c3) + i * (f * 1) + j * (g * 1))), (c * (a * (c * 1) + b * (f * 1) + c * (h * 1 + c3) + d * (i * 1)) + f * (b * (c * 1) + e * (f * 1) + f * (h * 1 + c3) + g * (i * 1)) + h * (c * (c * 1) + f * (f * 1) + h * (h * 1 + c3) + i * (i * 1) + c2) + i * (d * (c * 1) + g * (f * 1) + i * (h * 1 + c3) + j * (i * 1)) + c1), (c * (a * (d * 1) + b * (g * 1) + c * (i * 1) + d * (j * 1 + c3)) + f * (b * (d * 1) + e * (g * 1) + f * (i * 1) + g * (j * 1 + c3)) + h * (c * (d * 1) + f * (g * 1) + h * (i * 1) + i * (j * 1 + c3)) + i * (d * (d * 1) + g * (g * 1) + i * (i * 1) + j * (j * 1 + c3) + c2))], [(d * (a * (a * 1 + c3) + b * (b * 1) + c * (c * 1) + d * (d * 1) + c2) + g * (b * (a * 1 + c3) + e * (b * 1) + f * (c * 1) + g * (d * 1)) + i * (c * (a * 1 + c3) + f * (b * 1) + h * (c * 1) + i * (d * 1)) + j * (d * (a * 1 + c3) + g * (b * 1) + i * (c * 1) + j * (d * 1))), (d * (a * (b * 1) + b * (e * 1 + c3) + c * (f * 1) + d * (g * 1)) + g * (b * (b * 1) + e * (e * 1 + c3) + f * (f * 1) + g * (g * 1) + c2) + i * (c * (b * 1) + f * (e * 1 + c3) + h * (f * 1) + i * (g * 1)) + j * (d * (b * 1) + g * (e * 1 + c3) + i * (f * 1) + j * (g * 1))), (d * (a * (c * 1) + b * (f * 1) + c * (h * 1 + c3) + d * (i * 1)) + g * (b * (c * 1) + e * (f * 1) + f * (h * 1 + c3) + g * (i * 1)) + i * (c * (c * 1) + f * (f * 1) + h * (h * 1 + c3) + i * (i * 1) + c2) + j * (d * (c * 1) + g * (f * 1) + i * (h * 1 + c3) + j * (i * 1))), (d * (a * (d * 1) + b * (g * 1) + c * (i * 1) + d * (j * 1 + c3)) + g * (b * (d * 1) + e * (g * 1) + f * (i * 1) + g * (j * 1 + c3)) + i * (c * (d * 1) + f * (g * 1) + h * (i * 1) + i * (j * 1 + c3)) + j * (d * (d * 1) + g * (g * 1) + i * (i * 1) + j * (j * 1 + c3) + c2) + c1)]], [c0, c1, c2, c3, 1]) := by
    rw [Os.charFrom, s3]
    simp only [Os.charFrom, Os.matOf, Os.times, Os.dot, Os.total, Os.row, Os.entry, List.range, List.range.loop, List.map, List.zipWith, List.foldl, List.getD, List.getElem?_cons_zero, List.getElem?_cons_succ, List.headD, List.length, Option.getD]
    simp
    grind
  unfold Os.charPoly
  rw [s4]
theorem herm4 {a b c d e f g h i j c0 c1 c2 c3 : Rat} (h0 : c0 = (a * (e * (h * j - i * i) - f * (f * j - i * g) + g * (f * i - h * g)) - b * (b * (h * j - i * i) - f * (c * j - i * d) + g * (c * i - h * d)) + c * (b * (f * j - i * g) - e * (c * j - i * d) + g * (c * g - f * d)) - d * (b * (f * i - h * g) - e * (c * i - h * d) + f * (c * g - f * d)))) (h1 : c1 = -((a * (e * h - f * f) - b * (b * h - f * c) + c * (b * f - e * c)) + (a * (e * j - g * g) - b * (b * j - g * d) + d * (b * g - e * d)) + (a * (h * j - i * i) - c * (c * j - i * d) + d * (c * i - h * d)) + (e * (h * j - i * i) - f * (f * j - i * g) + g * (f * i - h * g)))) (h2 : c2 = (a * e - b * b) + (a * h - c * c) + (a * j - d * d) + (e * h - f * f) + (e * j - g * g) + (h * j - i * i)) (h3 : c3 = -(a + e + h + j)) : ∃ t, Herm 4 c0 [c1, c2, c3, 1] t := by
  have e00 : aF [[a, b, c, d], [b, e, f, g], [c, f, h, i], [d, g, i, j]] 0 0 = a := rfl
  have e01 : aF [[a, b, c, d], [b, e, f, g], [c, f, h, i], [d, g, i, j]] 0 1 = b := rfl
  have e02 : aF [[a, b, c, d], [b, e, f, g], [c, f, h, i], [d, g, i, j]] 0 2 = c := rfl
  have e03 : aF [[a, b, c, d], [b, e, f, g], [c, f, h, i], [d, g, i, j]] 0 3 = d := rfl
  have e10 : aF [[a, b, c, d], [b, e, f, g], [c, f, h, i], [d, g, i, j]] 1 0 = b := rfl
  have e11 : aF [[a, b, c, d], [b, e, f, g], [c, f, h, i], [d, g, i, j]] 1 1 = e := rfl
  have e12 : aF [[a, b, c, d], [b, e, f, g], [c, f, h, i], [d, g, i, j]] 1 2 = f := rfl
  have e13 : aF [[a, b, c, d], [b, e, f, g], [c, f, h, i], [d, g, i, j]] 1 3 = g := rfl
  have e20 : aF [[a, b, c, d], [b, e, f, g], [c, f, h, i], [d, g, i, j]] 2 0 = c := rfl
  have e21 : aF [[a, b, c, d], [b, e, f, g], [c, f, h, i], [d, g, i, j]] 2 1 = f := rfl
  have e22 : aF [[a, b, c, d], [b, e, f, g], [c, f, h, i], [d, g, i, j]] 2 2 = h := rfl
  have e23 : aF [[a, b, c, d], [b, e, f, g], [c, f, h, i], [d, g, i, j]] 2 3 = i := rfl
  have e30 : aF [[a, b, c, d], [b, e, f, g], [c, f, h, i], [d, g, i, j]] 3 0 = d := rfl
  have e31 : aF [[a, b, c, d], [b, e, f, g], [c, f, h, i], [d, g, i, j]] 3 1 = g := rfl
  have e32 : aF [[a, b, c, d], [b, e, f, g], [c, f, h, i], [d, g, i, j]] 3 2 = i := rfl
  have e33 : aF [[a, b, c, d], [b, e, f, g], [c, f, h, i], [d, g, i, j]] 3 3 = j := rfl
  generalize aF [[a, b, c, d], [b, e, f, g], [c, f, h, i], [d, g, i, j]] = A at e00 e01 e02 e03 e10 e11 e12 e13 e20 e21 e22 e23 e30 e31 e32 e33
  refine ⟨_, herm_of (A := A) ?_ (by decide) rfl ⟨[c1, c2, c3], rfl⟩ ?_ (fun x => ?_) ?_⟩
  · intro i j hi hj
    have hi : i = 0 ∨ i = 1 ∨ i = 2 ∨ i = 3 := by omega
    have hj : j = 0 ∨ j = 1 ∨ j = 2 ∨ j = 3 := by omega
    rcases hi with r | r | r | r <;> rcases hj with s | s | s | s <;> subst r <;> subst s <;> simp only [e00, e01, e02, e03, e10, e11, e12, e13, e20, e21, e22, e23, e30, e31, e32, e33]
  · simp only [inn, pw, sumN]; simp; grind
  · simp only [Os.slope, List.length, List.range, List.range.loop, List.map, Gf, inn, pw, mulN, sumN, ev, Os.polyAt, List.foldr, e00, e01, e02, e03, e10, e11, e12, e13, e20, e21, e22, e23, e30, e31, e32, e33]
    simp
    grind
  · intro i j hi hj
    have hi : i = 0 ∨ i = 1 ∨ i = 2 ∨ i = 3 := by omega
    have hj : j = 0 ∨ j = 1 ∨ j = 2 ∨ j = 3 := by omega
    rcases hi with r | r | r | r <;> rcases hj with s | s | s | s <;> subst r <;> subst s <;> (simp only [Sm, pw, mulN, sumN, e00, e01, e02, e03, e10, e11, e12, e13, e20, e21, e22, e23, e30, e31, e32, e33]; simp only [if_pos]; subst h0 h1 h2 h3; grind)
end Desk

namespace Desk
/-! the program's characteristic polynomial -/
def keptL (size c : Nat) : List Nat := (List.range size).filter fun i => decide (c / 2 ^ i % 2 = 1)
def partM (rows : MatI) (kept : List Nat) : MatI := kept.map fun i => kept.map fun j => (rows.getD i []).getD j 0
def charStep (rows : MatI) (p : List Int) (c : Nat) : List Int :=
  p.set (rows.length - (keptL rows.length c).length) (p.getD (rows.length - (keptL rows.length c).length) 0 + signedM (keptL rows.length c).length (detM (keptL rows.length c).length (partM rows (keptL rows.length c))))
def charN (rows : MatI) : Nat → List Int
  | 0 => List.replicate (rows.length + 1) 0
  | c + 1 => charStep rows (charN rows c) c
def charI (rows : MatI) : List Int := charN rows (2 ^ rows.length)
theorem chI1 {a c0 : Int} (h0 : c0 = -(a)) : charI [[a]] = [c0, 1] := by
  have s0 : charN [[a]] 0 = [0, 0] := rfl
  have s1 : charN [[a]] 1 = [0, (0 + signedM 0 (detM 0 []))] := by
    rw [charN, s0, charStep, show ([[a]] : MatI).length = 1 from rfl, show keptL 1 0 = [] by decide]
    rfl
  have s2 : charN [[a]] 2 = [(0 + signedM 1 (detM 1 [[a]])), (0 + signedM 0 (detM 0 []))] := by
    rw [charN, s1, charStep, show ([[a]] : MatI).length = 1 from rfl, show keptL 1 1 = [0] by decide]
    rfl
  have e : charI [[a]] = charN [[a]] 2 := rfl
  rw [e, s2]
  have d0 : detM 0 [] = 1 := rfl
  simp only [signedM, detM1, detM2, detM3, detM4, d0]
  simp
  grind
theorem chI2 {a b c c0 c1 : Int} (h0 : c0 = (a * c - b * b)) (h1 : c1 = -(a + c)) : charI [[a, b], [b, c]] = [c0, c1, 1] := by
  have s0 : charN [[a, b], [b, c]] 0 = [0, 0, 0] := rfl
  have s1 : charN [[a, b], [b, c]] 1 = [0, 0, (0 + signedM 0 (detM 0 []))] := by
    rw [charN, s0, charStep, show ([[a, b], [b, c]] : MatI).length = 2 from rfl, show keptL 2 0 = [] by decide]
    rfl
  have s2 : charN [[a, b], [b, c]] 2 = [0, (0 + signedM 1 (detM 1 [[a]])), (0 + signedM 0 (detM 0 []))] := by
    rw [charN, s1, charStep, show ([[a, b], [b, c]] : MatI).length = 2 from rfl, show keptL 2 1 = [0] by decide]
    rfl
  have s3 : charN [[a, b], [b, c]] 3 = [0, ((0 + signedM 1 (detM 1 [[a]])) + signedM 1 (detM 1 [[c]])), (0 + signedM 0 (detM 0 []))] := by
    rw [charN, s2, charStep, show ([[a, b], [b, c]] : MatI).length = 2 from rfl, show keptL 2 2 = [1] by decide]
    rfl
  have s4 : charN [[a, b], [b, c]] 4 = [(0 + signedM 2 (detM 2 [[a, b], [b, c]])), ((0 + signedM 1 (detM 1 [[a]])) + signedM 1 (detM 1 [[c]])), (0 + signedM 0 (detM 0 []))] := by
    rw [charN, s3, charStep, show ([[a, b], [b, c]] : MatI).length = 2 from rfl, show keptL 2 3 = [0, 1] by decide]
    rfl
  have e : charI [[a, b], [b, c]] = charN [[a, b], [b, c]] 4 := rfl
  rw [e, s4]
  have d0 : detM 0 [] = 1 := rfl
  simp only [signedM, detM1, detM2, detM3, detM4, d0]
  simp
  grind
theorem chI3 {a b c d e f c0 c1 c2 : Int} (h0 : c0 = -((a * (d * f - e * e) - b * (b * f - e * c) + c * (b * e - d * c)))) (h1 : c1 = (a * d - b * b) + (a * f - c * c) + (d * f - e * e)) (h2 : c2 = -(a + d + f)) : charI [[a, b, c], [b, d, e], [c, e, f]] = [c0, c1, c2, 1] := by
  have s0 : charN [[a, b, c], [b, d, e], [c, e, f]] 0 = [0, 0, 0, 0] := rfl
  have s1 : charN [[a, b, c], [b, d, e], [c, e, f]] 1 = [0, 0, 0, (0 + signedM 0 (detM 0 []))] := by
    rw [charN, s0, charStep, show ([[a, b, c], [b, d, e], [c, e, f]] : MatI).length = 3 from rfl, show keptL 3 0 = [] by decide]
    rfl
  have s2 : charN [[a, b, c], [b, d, e], [c, e, f]] 2 = [0, 0, (0 + signedM 1 (detM 1 [[a]])), (0 + signedM 0 (detM 0 []))] := by
    rw [charN, s1, charStep, show ([[a, b, c], [b, d, e], [c, e, f]] : MatI).length = 3 from rfl, show keptL 3 1 = [0] by decide]
    rfl
  have s3 : charN [[a, b, c], [b, d, e], [c, e, f]] 3 = [0, 0, ((0 + signedM 1 (detM 1 [[a]])) + signedM 1 (detM 1 [[d]])), (0 + signedM 0 (detM 0 []))] := by
    rw [charN, s2, charStep, show ([[a, b, c], [b, d, e], [c, e, f]] : MatI).length = 3 from rfl, show keptL 3 2 = [1] by decide]
    rfl
  have s4 : charN [[a, b, c], [b, d, e], [c, e, f]] 4 = [0, (0 + signedM 2 (detM 2 [[a, b], [b, d]])), ((0 + signedM 1 (detM 1 [[a]])) + signedM 1 (detM 1 [[d]])), (0 + signedM 0 (detM 0 []))] := by
    rw [charN, s3, charStep, show ([[a, b, c], [b, d, e], [c, e, f]] : MatI).length = 3 from rfl, show keptL 3 3 = [0, 1] by decide]
    rfl
  have s5 : charN [[a, b, c], [b, d, e], [c, e, f]] 5 = [0, (0 + signedM 2 (detM 2 [[a, b], [b, d]])), (((0 + signedM 1 (detM 1 [[a]])) + signedM 1 (detM 1 [[d]])) + signedM 1 (detM 1 [[f]])), (0 + signedM 0 (detM 0 []))] := by
    rw [charN, s4, charStep, show ([[a, b, c], [b, d, e], [c, e, f]] : MatI).length = 3 from rfl, show keptL 3 4 = [2] by decide]
    rfl
  have s6 : charN [[a, b, c], [b, d, e], [c, e, f]] 6 = [0, ((0 + signedM 2 (detM 2 [[a, b], [b, d]])) + signedM 2 (detM 2 [[a, c], [c, f]])), (((0 + signedM 1 (detM 1 [[a]])) + signedM 1 (detM 1 [[d]])) + signedM 1 (detM 1 [[f]])), (0 + signedM 0 (detM 0 []))] := by
    rw [charN, s5, charStep, show ([[a, b, c], [b, d, e], [c, e, f]] : MatI).length = 3 from rfl, show keptL 3 5 = [0, 2] by decide]
    rfl
  have s7 : charN [[a, b, c], [b, d, e], [c, e, f]] 7 = [0, (((0 + signedM 2 (detM 2 [[a, b], [b, d]])) + signedM 2 (detM 2 [[a, c], [c, f]])) + signedM 2 (detM 2 [[d, e], [e, f]])), (((0 + signedM 1 (detM 1 [[a]])) + signedM 1 (detM 1 [[d]])) + signedM 1 (detM 1 [[f]])), (0 + signedM 0 (detM 0 []))] := by
    rw [charN, s6, charStep, show ([[a, b, c], [b, d, e], [c, e, f]] : MatI).length = 3 from rfl, show keptL 3 6 = [1, 2] by decide]
    rfl
  have s8 : charN [[a, b, c], [b, d, e], [c, e, f]] 8 = [(0 + signedM 3 (detM 3 [[a, b, c], [b, d, e], [c, e, f]])), (((0 + signedM 2 (detM 2 [[a, b], [b, d]])) + signedM 2 (detM 2 [[a, c], [c, f]])) + signedM 2 (detM 2 [[d, e], [e, f]])), (((0 + signedM 1 (detM 1 [[a]])) + signedM 1 (detM 1 [[d]])) + signedM 1 (detM 1 [[f]])), (0 + signedM 0 (detM 0 []))] := by
    rw [charN, s7, charStep, show ([[a, b, c], [b, d, e], [c, e, f]] : MatI).length = 3 from rfl, show keptL 3 7 = [0, 1, 2] by decide]
    rfl
  have e : charI [[a, b, c], [b, d, e], [c, e, f]] = charN [[a, b, c], [b, d, e], [c, e, f]] 8 := rfl
  rw [e, s8]
  have d0 : detM 0 [] = 1 := rfl
  simp only [signedM, detM1, detM2, detM3, detM4, d0]
  simp
  grind
theorem chI4 {a b c d e f g h i j c0 c1 c2 c3 : Int} (h0 : c0 = (a * (e * (h * j - i * i) - f * (f * j - i * g) + g * (f * i - h * g)) - b * (b * (h * j - i * i) - f * (c * j - i * d) + g * (c * i - h * d)) + c * (b * (f * j - i * g) - e * (c * j - i * d) + g * (c * g - f * d)) - d * (b * (f * i - h * g) - e * (c * i - h * d) + f * (c * g - f * d)))) (h1 : c1 = -((a * (e * h - f * f) - b * (b * h - f * c) + c * (b * f - e * c)) + (a * (e * j - g * g) - b * (b * j - g * d) + d * (b * g - e * d)) + (a * (h * j - i * i) - c * (c * j - i * d) + d * (c * i - h * d)) + (e * (h * j - i * i) - f * (f * j - i * g) + g * (f * i - h * g)))) (h2 : c2 = (a * e - b * b) + (a * h - c * c) + (a * j - d * d) + (e * h - f * f) + (e * j - g * g) + (h * j - i * i)) (h3 : c3 = -(a + e + h + j)) : charI [[a, b, c, d], [b, e, f, g], [c, f, h, i], [d, g, i, j]] = [c0, c1, c2, c3, 1] := by
  have s0 : charN [[a, b, c, d], [b, e, f, g], [c, f, h, i], [d, g, i, j]] 0 = [0, 0, 0, 0, 0] := rfl
  have s1 : charN [[a, b, c, d], [b, e, f, g], [c, f, h, i], [d, g, i, j]] 1 = [0, 0, 0, 0, (0 + signedM 0 (detM 0 []))] := by
    rw [charN, s0, charStep, show ([[a, b, c, d], [b, e, f, g], [c, f, h, i], [d, g, i, j]] : MatI).length = 4 from rfl, show keptL 4 0 = [] by decide]
    rfl
  have s2 : charN [[a, b, c, d], [b, e, f, g], [c, f, h, i], [d, g, i, j]] 2 = [0, 0, 0, (0 + signedM 1 (detM 1 [[a]])), (0 + signedM 0 (detM 0 []))] := by
    rw [charN, s1, charStep, show ([[a, b, c, d], [b, e, f, g], [c, f, h, i], [d, g, i, j]] : MatI).length = 4 from rfl, show keptL 4 1 = [0] by decide]
    rfl
  have s3 : charN [[a, b, c, d], [b, e, f, g], [c, f, h, i], [d, g, i, j]] 3 = [0, 0, 0, ((0 + signedM 1 (detM 1 [[a]])) + signedM 1 (detM 1 [[e]])), (0 + signedM 0 (detM 0 []))] := by
    rw [charN, s2, charStep, show ([[a, b, c, d], [b, e, f, g], [c, f, h, i], [d, g, i, j]] : MatI).length = 4 from rfl, show keptL 4 2 = [1] by decide]
    rfl
  have s4 : charN [[a, b, c, d], [b, e, f, g], [c, f, h, i], [d, g, i, j]] 4 = [0, 0, (0 + signedM 2 (detM 2 [[a, b], [b, e]])), ((0 + signedM 1 (detM 1 [[a]])) + signedM 1 (detM 1 [[e]])), (0 + signedM 0 (detM 0 []))] := by
    rw [charN, s3, charStep, show ([[a, b, c, d], [b, e, f, g], [c, f, h, i], [d, g, i, j]] : MatI).length = 4 from rfl, show keptL 4 3 = [0, 1] by decide]
    rfl
  have s5 : charN [[a, b, c, d], [b, e, f, g], [c, f, h, i], [d, g, i, j]] 5 = [0, 0, (0 + signedM 2 (detM 2 [[a, b], [b, e]])), (((0 + signedM 1 (detM 1 [[a]])) + signedM 1 (detM 1 [[e]])) + signedM 1 (detM 1 [[h]])), (0 + signedM 0 (detM 0 []))] := by
    rw [charN, s4, charStep, show ([[a, b, c, d], [b, e, f, g], [c, f, h, i], [d, g, i, j]] : MatI).length = 4 from rfl, show keptL 4 4 = [2] by decide]
    rfl
  have s6 : charN [[a, b, c, d], [b, e, f, g], [c, f, h, i], [d, g, i, j]] 6 = [0, 0, ((0 + signedM 2 (detM 2 [[a, b], [b, e]])) + signedM 2 (detM 2 [[a, c], [c, h]])), (((0 + signedM 1 (detM 1 [[a]])) + signedM 1 (detM 1 [[e]])) + signedM 1 (detM 1 [[h]])), (0 + signedM 0 (detM 0 []))] := by
    rw [charN, s5, charStep, show ([[a, b, c, d], [b, e, f, g], [c, f, h, i], [d, g, i, j]] : MatI).length = 4 from rfl, show keptL 4 5 = [0, 2] by decide]
    rfl
  have s7 : charN [[a, b, c, d], [b, e, f, g], [c, f, h, i], [d, g, i, j]] 7 = [0, 0, (((0 + signedM 2 (detM 2 [[a, b], [b, e]])) + signedM 2 (detM 2 [[a, c], [c, h]])) + signedM 2 (detM 2 [[e, f], [f, h]])), (((0 + signedM 1 (detM 1 [[a]])) + signedM 1 (detM 1 [[e]])) + signedM 1 (detM 1 [[h]])), (0 + signedM 0 (detM 0 []))] := by
    rw [charN, s6, charStep, show ([[a, b, c, d], [b, e, f, g], [c, f, h, i], [d, g, i, j]] : MatI).length = 4 from rfl, show keptL 4 6 = [1, 2] by decide]
    rfl
  have s8 : charN [[a, b, c, d], [b, e, f, g], [c, f, h, i], [d, g, i, j]] 8 = [0, (0 + signedM 3 (detM 3 [[a, b, c], [b, e, f], [c, f, h]])), (((0 + signedM 2 (detM 2 [[a, b], [b, e]])) + signedM 2 (detM 2 [[a, c], [c, h]])) + signedM 2 (detM 2 [[e, f], [f, h]])), (((0 + signedM 1 (detM 1 [[a]])) + signedM 1 (detM 1 [[e]])) + signedM 1 (detM 1 [[h]])), (0 + signedM 0 (detM 0 []))] := by
    rw [charN, s7, charStep, show ([[a, b, c, d], [b, e, f, g], [c, f, h, i], [d, g, i, j]] : MatI).length = 4 from rfl, show keptL 4 7 = [0, 1, 2] by decide]
    rfl
  have s9 : charN [[a, b, c, d], [b, e, f, g], [c, f, h, i], [d, g, i, j]] 9 = [0, (0 + signedM 3 (detM 3 [[a, b, c], [b, e, f], [c, f, h]])), (((0 + signedM 2 (detM 2 [[a, b], [b, e]])) + signedM 2 (detM 2 [[a, c], [c, h]])) + signedM 2 (detM 2 [[e, f], [f, h]])), ((((0 + signedM 1 (detM 1 [[a]])) + signedM 1 (detM 1 [[e]])) + signedM 1 (detM 1 [[h]])) + signedM 1 (detM 1 [[j]])), (0 + signedM 0 (detM 0 []))] := by
    rw [charN, s8, charStep, show ([[a, b, c, d], [b, e, f, g], [c, f, h, i], [d, g, i, j]] : MatI).length = 4 from rfl, show keptL 4 8 = [3] by decide]
    rfl
  have s10 : charN [[a, b, c, d], [b, e, f, g], [c, f, h, i], [d, g, i, j]] 10 = [0, (0 + signedM 3 (detM 3 [[a, b, c], [b, e, f], [c, f, h]])), ((((0 + signedM 2 (detM 2 [[a, b], [b, e]])) + signedM 2 (detM 2 [[a, c], [c, h]])) + signedM 2 (detM 2 [[e, f], [f, h]])) + signedM 2 (detM 2 [[a, d], [d, j]])), ((((0 + signedM 1 (detM 1 [[a]])) + signedM 1 (detM 1 [[e]])) + signedM 1 (detM 1 [[h]])) + signedM 1 (detM 1 [[j]])), (0 + signedM 0 (detM 0 []))] := by
    rw [charN, s9, charStep, show ([[a, b, c, d], [b, e, f, g], [c, f, h, i], [d, g, i, j]] : MatI).length = 4 from rfl, show keptL 4 9 = [0, 3] by decide]
    rfl
  have s11 : charN [[a, b, c, d], [b, e, f, g], [c, f, h, i], [d, g, i, j]] 11 = [0, (0 + signedM 3 (detM 3 [[a, b, c], [b, e, f], [c, f, h]])), (((((0 + signedM 2 (detM 2 [[a, b], [b, e]])) + signedM 2 (detM 2 [[a, c], [c, h]])) + signedM 2 (detM 2 [[e, f], [f, h]])) + signedM 2 (detM 2 [[a, d], [d, j]])) + signedM 2 (detM 2 [[e, g], [g, j]])), ((((0 + signedM 1 (detM 1 [[a]])) + signedM 1 (detM 1 [[e]])) + signedM 1 (detM 1 [[h]])) + signedM 1 (detM 1 [[j]])), (0 + signedM 0 (detM 0 []))] := by
    rw [charN, s10, charStep, show ([[a, b, c, d], [b, e, f, g], [c, f, h, i], [d, g, i, j]] : MatI).length = 4 from rfl, show keptL 4 10 = [1, 3] by decide]
    rfl
  have s12 : charN [[a, b, c, d], [b, e, f, g], [c, f, h, i], [d, g, i, j]] 12 = [0, ((0 + signedM 3 (detM 3 [[a, b, c], [b, e, f], [c, f, h]])) + signedM 3 (detM 3 [[a, b, d], [b, e, g], [d, g, j]])), (((((0 + signedM 2 (detM 2 [[a, b], [b, e]])) + signedM 2 (detM 2 [[a, c], [c, h]])) + signedM 2 (detM 2 [[e, f], [f, h]])) + signedM 2 (detM 2 [[a, d], [d, j]])) + signedM 2 (detM 2 [[e, g], [g, j]])), ((((0 + signedM 1 (detM 1 [[a]])) + signedM 1 (detM 1 [[e]])) + signedM 1 (detM 1 [[h]])) + signedM 1 (detM 1 [[j]])), (0 + signedM 0 (detM 0 []))] := by
    rw [charN, s11, charStep, show ([[a, b, c, d], [b, e, f, g], [c, f, h, i], [d, g, i, j]] : MatI).length = 4 from rfl, show keptL 4 11 = [0, 1, 3] by decide]
    rfl
  have s13 : charN [[a, b, c, d], [b, e, f, g], [c, f, h, i], [d, g, i, j]] 13 = [0, ((0 + signedM 3 (detM 3 [[a, b, c], [b, e, f], [c, f, h]])) + signedM 3 (detM 3 [[a, b, d], [b, e, g], [d, g, j]])), ((((((0 + signedM 2 (detM 2 [[a, b], [b, e]])) + signedM 2 (detM 2 [[a, c], [c, h]])) + signedM 2 (detM 2 [[e, f], [f, h]])) + signedM 2 (detM 2 [[a, d], [d, j]])) + signedM 2 (detM 2 [[e, g], [g, j]])) + signedM 2 (detM 2 [[h, i], [i, j]])), ((((0 + signedM 1 (detM 1 [[a]])) + signedM 1 (detM 1 [[e]])) + signedM 1 (detM 1 [[h]])) + signedM 1 (detM 1 [[j]])), (0 + signedM 0 (detM 0 []))] := by
    rw [charN, s12, charStep, show ([[a, b, c, d], [b, e, f, g], [c, f, h, i], [d, g, i, j]] : MatI).length = 4 from rfl, show keptL 4 12 = [2, 3] by decide]
    rfl
  have s14 : charN [[a, b, c, d], [b, e, f, g], [c, f, h, i], [d, g, i, j]] 14 = [0, (((0 + signedM 3 (detM 3 [[a, b, c], [b, e, f], [c, f, h]])) + signedM 3 (detM 3 [[a, b, d], [b, e, g], [d, g, j]])) + signedM 3 (detM 3 [[a, c, d], [c, h, i], [d, i, j]])), ((((((0 + signedM 2 (detM 2 [[a, b], [b, e]])) + signedM 2 (detM 2 [[a, c], [c, h]])) + signedM 2 (detM 2 [[e, f], [f, h]])) + signedM 2 (detM 2 [[a, d], [d, j]])) + signedM 2 (detM 2 [[e, g], [g, j]])) + signedM 2 (detM 2 [[h, i], [i, j]])), ((((0 + signedM 1 (detM 1 [[a]])) + signedM 1 (detM 1 [[e]])) + signedM 1 (detM 1 [[h]])) + signedM 1 (detM 1 [[j]])), (0 + signedM 0 (detM 0 []))] := by
    rw [charN, s13, charStep, show ([[a, b, c, d], [b, e, f, g], [c, f, h, i], [d, g, i, j]] : MatI).length = 4 from rfl, show keptL 4 13 = [0, 2, 3] by decide]
    rfl
  have s15 : charN [[a, b, c, d], [b, e, f, g], [c, f, h, i], [d, g, i, j]] 15 = [0, ((((0 + signedM 3 (detM 3 [[a, b, c], [b, e, f], [c, f, h]])) + signedM 3 (detM 3 [[a, b, d], [b, e, g], [d, g, j]])) + signedM 3 (detM 3 [[a, c, d], [c, h, i], [d, i, j]])) + signedM 3 (detM 3 [[e, f, g], [f, h, i], [g, i, j]])), ((((((0 + signedM 2 (detM 2 [[a, b], [b, e]])) + signedM 2 (detM 2 [[a, c], [c, h]])) + signedM 2 (detM 2 [[e, f], [f, h]])) + signedM 2 (detM 2 [[a, d], [d, j]])) + signedM 2 (detM 2 [[e, g], [g, j]])) + signedM 2 (detM 2 [[h, i], [i, j]])), ((((0 + signedM 1 (detM 1 [[a]])) + signedM 1 (detM 1 [[e]])) + signedM 1 (detM 1 [[h]])) + signedM 1 (detM 1 [[j]])), (0 + signedM 0 (detM 0 []))] := by
    rw [charN, s14, charStep, show ([[a, b, c, d], [b, e, f, g], [c, f, h, i], [d, g, i, j]] : MatI).length = 4 from rfl, show keptL 4 14 = [1, 2, 3] by decide]
    rfl
  have s16 : charN [[a, b, c, d], [b, e, f, g], [c, f, h, i], [d, g, i, j]] 16 = [(0 + signedM 4 (detM 4 [[a, b, c, d], [b, e, f, g], [c, f, h, i], [d, g, i, j]])), ((((0 + signedM 3 (detM 3 [[a, b, c], [b, e, f], [c, f, h]])) + signedM 3 (detM 3 [[a, b, d], [b, e, g], [d, g, j]])) + signedM 3 (detM 3 [[a, c, d], [c, h, i], [d, i, j]])) + signedM 3 (detM 3 [[e, f, g], [f, h, i], [g, i, j]])), ((((((0 + signedM 2 (detM 2 [[a, b], [b, e]])) + signedM 2 (detM 2 [[a, c], [c, h]])) + signedM 2 (detM 2 [[e, f], [f, h]])) + signedM 2 (detM 2 [[a, d], [d, j]])) + signedM 2 (detM 2 [[e, g], [g, j]])) + signedM 2 (detM 2 [[h, i], [i, j]])), ((((0 + signedM 1 (detM 1 [[a]])) + signedM 1 (detM 1 [[e]])) + signedM 1 (detM 1 [[h]])) + signedM 1 (detM 1 [[j]])), (0 + signedM 0 (detM 0 []))] := by
    rw [charN, s15, charStep, show ([[a, b, c, d], [b, e, f, g], [c, f, h, i], [d, g, i, j]] : MatI).length = 4 from rfl, show keptL 4 15 = [0, 1, 2, 3] by decide]
    rfl
  have e : charI [[a, b, c, d], [b, e, f, g], [c, f, h, i], [d, g, i, j]] = charN [[a, b, c, d], [b, e, f, g], [c, f, h, i], [d, g, i, j]] 16 := rfl
  rw [e, s16]
  have d0 : detM 0 [] = 1 := rfl
  simp only [signedM, detM1, detM2, detM3, detM4, d0]
  simp
  grind
end Desk

namespace Desk
def isSymM (rows : MatI) : Bool := (List.range rows.length).all fun i => (List.range i).all fun j => decide ((rows.getD i []).getD j 0 = (rows.getD j []).getD i 0)
theorem isSym_iff {rows : MatI} : isSymM rows = true ↔ ∀ i, i < rows.length → ∀ j, j < i → (rows.getD i []).getD j 0 = (rows.getD j []).getD i 0 := by
  unfold isSymM
  rw [List.all_eq_true]
  constructor
  · intro h i hi j hj
    have := List.all_eq_true.1 (h i (List.mem_range.2 hi)) j (List.mem_range.2 hj)
    exact of_decide_eq_true this
  · intro h i hi
    rw [List.all_eq_true]
    intro j hj
    exact decide_eq_true (h i (List.mem_range.1 hi) j (List.mem_range.1 hj))
theorem val_of_units {x y : Int} (h : unitsOf x = unitsOf y) : valOf x = valOf y := by
  have e : valOf x * UP = valOf y * UP := by rw [← units_cast, ← units_cast, h]
  have : (valOf x - valOf y) * UP = 0 := by grind
  rcases Rat.mul_eq_zero.1 this with r | r
  · grind
  · exact absurd r UP_ne

theorem chS1 {a : Int} {a' : Rat} (ha : (a : Rat) = a' * UP) : ∀ x : Rat, ev (c2 [-(a), 1]) (UP * x) = UP ^ 1 * ev [-(a'), 1] x := by
  intro x
  unfold c2
  simp only [List.map_cons, List.map_nil, ev_cons, ev_nil, Rat.intCast_sub, Rat.intCast_add, Rat.intCast_mul, Rat.intCast_neg, ha]
  have h1 : ((1 : Int) : Rat) = 1 := rfl
  rw [h1]
  generalize UP = u
  grind
theorem chS2 {a b c : Int} {a' b' c' : Rat} (ha : (a : Rat) = a' * UP) (hb : (b : Rat) = b' * UP) (hc : (c : Rat) = c' * UP) : ∀ x : Rat, ev (c2 [(a * c - b * b), -(a + c), 1]) (UP * x) = UP ^ 2 * ev [(a' * c' - b' * b'), -(a' + c'), 1] x := by
  intro x
  unfold c2
  simp only [List.map_cons, List.map_nil, ev_cons, ev_nil, Rat.intCast_sub, Rat.intCast_add, Rat.intCast_mul, Rat.intCast_neg, ha, hb, hc]
  have h1 : ((1 : Int) : Rat) = 1 := rfl
  rw [h1]
  generalize UP = u
  grind
theorem chS3 {a b c d e f : Int} {a' b' c' d' e' f' : Rat} (ha : (a : Rat) = a' * UP) (hb : (b : Rat) = b' * UP) (hc : (c : Rat) = c' * UP) (hd : (d : Rat) = d' * UP) (he : (e : Rat) = e' * UP) (hf : (f : Rat) = f' * UP) : ∀ x : Rat, ev (c2 [-((a * (d * f - e * e) - b * (b * f - e * c) + c * (b * e - d * c))), (a * d - b * b) + (a * f - c * c) + (d * f - e * e), -(a + d + f), 1]) (UP * x) = UP ^ 3 * ev [-((a' * (d' * f' - e' * e') - b' * (b' * f' - e' * c') + c' * (b' * e' - d' * c'))), (a' * d' - b' * b') + (a' * f' - c' * c') + (d' * f' - e' * e'), -(a' + d' + f'), 1] x := by
  intro x
  unfold c2
  simp only [List.map_cons, List.map_nil, ev_cons, ev_nil, Rat.intCast_sub, Rat.intCast_add, Rat.intCast_mul, Rat.intCast_neg, ha, hb, hc, hd, he, hf]
  have h1 : ((1 : Int) : Rat) = 1 := rfl
  rw [h1]
  generalize UP = u
  grind
theorem chS4 {a b c d e f g h i j : Int} {a' b' c' d' e' f' g' h' i' j' : Rat} (ha : (a : Rat) = a' * UP) (hb : (b : Rat) = b' * UP) (hc : (c : Rat) = c' * UP) (hd : (d : Rat) = d' * UP) (he : (e : Rat) = e' * UP) (hf : (f : Rat) = f' * UP) (hg : (g : Rat) = g' * UP) (hh : (h : Rat) = h' * UP) (hi : (i : Rat) = i' * UP) (hj : (j : Rat) = j' * UP) : ∀ x : Rat, ev (c2 [(a * (e * (h * j - i * i) - f * (f * j - i * g) + g * (f * i - h * g)) - b * (b * (h * j - i * i) - f * (c * j - i * d) + g * (c * i - h * d)) + c * (b * (f * j - i * g) - e * (c * j - i * d) + g * (c * g - f * d)) - d * (b * (f * i - h * g) - e * (c * i - h * d) + f * (c * g - f * d))), -((a * (e * h - f * f) - b * (b * h - f * c) + c * (b * f - e * c)) + (a * (e * j - g * g) - b * (b * j - g * d) + d * (b * g - e * d)) + (a * (h * j - i * i) - c * (c * j - i * d) + d * (c * i - h * d)) + (e * (h * j - i * i) - f * (f * j - i * g) + g * (f * i - h * g))), (a * e - b * b) + (a * h - c * c) + (a * j - d * d) + (e * h - f * f) + (e * j - g * g) + (h * j - i * i), -(a + e + h + j), 1]) (UP * x) = UP ^ 4 * ev [(a' * (e' * (h' * j' - i' * i') - f' * (f' * j' - i' * g') + g' * (f' * i' - h' * g')) - b' * (b' * (h' * j' - i' * i') - f' * (c' * j' - i' * d') + g' * (c' * i' - h' * d')) + c' * (b' * (f' * j' - i' * g') - e' * (c' * j' - i' * d') + g' * (c' * g' - f' * d')) - d' * (b' * (f' * i' - h' * g') - e' * (c' * i' - h' * d') + f' * (c' * g' - f' * d'))), -((a' * (e' * h' - f' * f') - b' * (b' * h' - f' * c') + c' * (b' * f' - e' * c')) + (a' * (e' * j' - g' * g') - b' * (b' * j' - g' * d') + d' * (b' * g' - e' * d')) + (a' * (h' * j' - i' * i') - c' * (c' * j' - i' * d') + d' * (c' * i' - h' * d')) + (e' * (h' * j' - i' * i') - f' * (f' * j' - i' * g') + g' * (f' * i' - h' * g'))), (a' * e' - b' * b') + (a' * h' - c' * c') + (a' * j' - d' * d') + (e' * h' - f' * f') + (e' * j' - g' * g') + (h' * j' - i' * i'), -(a' + e' + h' + j'), 1] x := by
  intro x
  unfold c2
  simp only [List.map_cons, List.map_nil, ev_cons, ev_nil, Rat.intCast_sub, Rat.intCast_add, Rat.intCast_mul, Rat.intCast_neg, ha, hb, hc, hd, he, hf, hg, hh, hi, hj]
  have h1 : ((1 : Int) : Rat) = 1 := rfl
  rw [h1]
  generalize UP = u
  grind
/-- what the spectrum rests on -/
structure Chr (n : Nat) (χ : Pol) (P : List Int) : Prop where
  herm : ∃ c0 p t, χ = c0 :: p ∧ Herm n c0 p t
  len : P.length = n + 1
  one : ∃ l, P = l ++ [1]
  sc : ∀ x, ev (c2 P) (UP * x) = UP ^ n * ev χ x
theorem chr1 {a : List Int} (hl : a.length = 1) (hs : isSymM (rowsOf (a.map unitsOf) 1 1) = true) : Chr 1 (Os.charPoly 1 (Os.matIn 1 1 (a.map valOf))) (charI (rowsOf (a.map unitsOf) 1 1)) := by
  obtain ⟨x0, rfl⟩ := list_is1 hl
  have sy := isSym_iff.1 hs
  have eR : rowsOf ([x0].map unitsOf) 1 1 = [[unitsOf x0]] := rfl
  have eM : Os.matIn 1 1 ([x0].map valOf) = [[valOf x0]] := rfl
  rw [eR, eM, cp1 rfl, chI1 rfl]
  obtain ⟨t, H⟩ := herm1 (a := valOf x0) rfl
  exact ⟨⟨_, _, t, rfl, H⟩, rfl, ⟨[_], rfl⟩, chS1 (units_cast _)⟩
theorem chr2 {a : List Int} (hl : a.length = 4) (hs : isSymM (rowsOf (a.map unitsOf) 2 2) = true) : Chr 2 (Os.charPoly 2 (Os.matIn 2 2 (a.map valOf))) (charI (rowsOf (a.map unitsOf) 2 2)) := by
  obtain ⟨x0, x1, x2, x3, rfl⟩ := list_is4 hl
  have sy := isSym_iff.1 hs
  have u10 : unitsOf x2 = unitsOf x1 := sy 1 (show 1 < 2 by decide) 0 (by decide)
  have v10 := val_of_units u10
  have eR : rowsOf ([x0, x1, x2, x3].map unitsOf) 2 2 = [[unitsOf x0, unitsOf x1], [unitsOf x2, unitsOf x3]] := rfl
  have eM : Os.matIn 2 2 ([x0, x1, x2, x3].map valOf) = [[valOf x0, valOf x1], [valOf x2, valOf x3]] := rfl
  rw [u10] at eR
  rw [v10] at eM
  rw [eR, eM, cp2 rfl rfl, chI2 rfl rfl]
  obtain ⟨t, H⟩ := herm2 (a := valOf x0) (b := valOf x1) (c := valOf x3) rfl rfl
  exact ⟨⟨_, _, t, rfl, H⟩, rfl, ⟨[_, _], rfl⟩, chS2 (units_cast _) (units_cast _) (units_cast _)⟩
theorem chr3 {a : List Int} (hl : a.length = 9) (hs : isSymM (rowsOf (a.map unitsOf) 3 3) = true) : Chr 3 (Os.charPoly 3 (Os.matIn 3 3 (a.map valOf))) (charI (rowsOf (a.map unitsOf) 3 3)) := by
  obtain ⟨x0, x1, x2, x3, x4, x5, x6, x7, x8, rfl⟩ := list_is9 hl
  have sy := isSym_iff.1 hs
  have u10 : unitsOf x3 = unitsOf x1 := sy 1 (show 1 < 3 by decide) 0 (by decide)
  have v10 := val_of_units u10
  have u20 : unitsOf x6 = unitsOf x2 := sy 2 (show 2 < 3 by decide) 0 (by decide)
  have v20 := val_of_units u20
  have u21 : unitsOf x7 = unitsOf x5 := sy 2 (show 2 < 3 by decide) 1 (by decide)
  have v21 := val_of_units u21
  have eR : rowsOf ([x0, x1, x2, x3, x4, x5, x6, x7, x8].map unitsOf) 3 3 = [[unitsOf x0, unitsOf x1, unitsOf x2], [unitsOf x3, unitsOf x4, unitsOf x5], [unitsOf x6, unitsOf x7, unitsOf x8]] := rfl
  have eM : Os.matIn 3 3 ([x0, x1, x2, x3, x4, x5, x6, x7, x8].map valOf) = [[valOf x0, valOf x1, valOf x2], [valOf x3, valOf x4, valOf x5], [valOf x6, valOf x7, valOf x8]] := rfl
  rw [u10, u20, u21] at eR
  rw [v10, v20, v21] at eM
  rw [eR, eM, cp3 rfl rfl rfl, chI3 rfl rfl rfl]
  obtain ⟨t, H⟩ := herm3 (a := valOf x0) (b := valOf x1) (c := valOf x2) (d := valOf x4) (e := valOf x5) (f := valOf x8) rfl rfl rfl
  exact ⟨⟨_, _, t, rfl, H⟩, rfl, ⟨[_, _, _], rfl⟩, chS3 (units_cast _) (units_cast _) (units_cast _) (units_cast _) (units_cast _) (units_cast _)⟩
theorem chr4 {a : List Int} (hl : a.length = 16) (hs : isSymM (rowsOf (a.map unitsOf) 4 4) = true) : Chr 4 (Os.charPoly 4 (Os.matIn 4 4 (a.map valOf))) (charI (rowsOf (a.map unitsOf) 4 4)) := by
  obtain ⟨x0, x1, x2, x3, x4, x5, x6, x7, x8, x9, x10, x11, x12, x13, x14, x15, rfl⟩ := list_is16 hl
  have sy := isSym_iff.1 hs
  have u10 : unitsOf x4 = unitsOf x1 := sy 1 (show 1 < 4 by decide) 0 (by decide)
  have v10 := val_of_units u10
  have u20 : unitsOf x8 = unitsOf x2 := sy 2 (show 2 < 4 by decide) 0 (by decide)
  have v20 := val_of_units u20
  have u21 : unitsOf x9 = unitsOf x6 := sy 2 (show 2 < 4 by decide) 1 (by decide)
  have v21 := val_of_units u21
  have u30 : unitsOf x12 = unitsOf x3 := sy 3 (show 3 < 4 by decide) 0 (by decide)
  have v30 := val_of_units u30
  have u31 : unitsOf x13 = unitsOf x7 := sy 3 (show 3 < 4 by decide) 1 (by decide)
  have v31 := val_of_units u31
  have u32 : unitsOf x14 = unitsOf x11 := sy 3 (show 3 < 4 by decide) 2 (by decide)
  have v32 := val_of_units u32
  have eR : rowsOf ([x0, x1, x2, x3, x4, x5, x6, x7, x8, x9, x10, x11, x12, x13, x14, x15].map unitsOf) 4 4 = [[unitsOf x0, unitsOf x1, unitsOf x2, unitsOf x3], [unitsOf x4, unitsOf x5, unitsOf x6, unitsOf x7], [unitsOf x8, unitsOf x9, unitsOf x10, unitsOf x11], [unitsOf x12, unitsOf x13, unitsOf x14, unitsOf x15]] := rfl
  have eM : Os.matIn 4 4 ([x0, x1, x2, x3, x4, x5, x6, x7, x8, x9, x10, x11, x12, x13, x14, x15].map valOf) = [[valOf x0, valOf x1, valOf x2, valOf x3], [valOf x4, valOf x5, valOf x6, valOf x7], [valOf x8, valOf x9, valOf x10, valOf x11], [valOf x12, valOf x13, valOf x14, valOf x15]] := rfl
  rw [u10, u20, u21, u30, u31, u32] at eR
  rw [v10, v20, v21, v30, v31, v32] at eM
  rw [eR, eM, cp4 rfl rfl rfl rfl, chI4 rfl rfl rfl rfl]
  obtain ⟨t, H⟩ := herm4 (a := valOf x0) (b := valOf x1) (c := valOf x2) (d := valOf x3) (e := valOf x5) (f := valOf x6) (g := valOf x7) (h := valOf x10) (i := valOf x11) (j := valOf x15) rfl rfl rfl rfl
  exact ⟨⟨_, _, t, rfl, H⟩, rfl, ⟨[_, _, _, _], rfl⟩, chS4 (units_cast _) (units_cast _) (units_cast _) (units_cast _) (units_cast _) (units_cast _) (units_cast _) (units_cast _) (units_cast _) (units_cast _)⟩
theorem chr_all {n : Nat} (h1 : 1 ≤ n) (h4 : n ≤ 4) {a : List Int} (hl : a.length = n * n) (hs : isSymM (rowsOf (a.map unitsOf) n n) = true) : Chr n (Os.charPoly n (Os.matIn n n (a.map valOf))) (charI (rowsOf (a.map unitsOf) n n)) := by
  rcases size_cases h1 h4 with rfl | rfl | rfl | rfl
  · exact chr1 hl hs
  · exact chr2 hl hs
  · exact chr3 hl hs
  · exact chr4 hl hs
end Desk

namespace Desk
/-! eigenvalues -/
def eigSide (p : List Int) (number : Int) : Side := fun m s =>
  if number > (p.length : Int) - 1 - (chgI (taylorI m s p) : Int) then 1 else if number > (p.length : Int) - 1 - (chgI (taylorI m s p) : Int) - (leadI (taylorI m s p) : Int) then 0 else -1
def eigenOf (mode n : Int) (a : List Int) : List Int :=
  if (decide (3 < mode) || badMatrix n n 4 a) = true then [-1]
  else if isSymM (rowsOf (a.map unitsOf) n.toNat n.toNat) = false then [-3]
  else answer mode ((List.range n.toNat).map fun (k : Nat) => eigSide (charI (rowsOf (a.map unitsOf) n.toNat n.toNat)) ((k : Int) + 1))
theorem sym_eq (a : List Int) (n : Nat) : ((List.range n).all (fun (i : Nat) => (List.range n).all fun (j : Nat) => decide ((a.map valOf).getD (n * i + j) 0 = (a.map valOf).getD (n * j + i) 0))) = isSymM (rowsOf (a.map unitsOf) n n) := by
  have get : ∀ i j, i < n → j < n → ((rowsOf (a.map unitsOf) n n).getD i []).getD j 0 = (a.map unitsOf).getD (n * i + j) 0 := fun i j hi hj => by
    unfold rowsOf
    rw [List.getD_eq_getElem?_getD (l := List.map _ (List.range n)), List.getElem?_map, List.getElem?_range hi]
    show (List.map (fun j => (a.map unitsOf).getD (n * i + j) 0) (List.range n)).getD j 0 = _
    rw [List.getD_eq_getElem?_getD, List.getElem?_map, List.getElem?_range hj]
    rfl
  have len : (rowsOf (a.map unitsOf) n n).length = n := by unfold rowsOf; rw [List.length_map, List.length_range]
  have val : ∀ i j : Nat, (a.map valOf).getD i 0 = (a.map valOf).getD j 0 ↔ (a.map unitsOf).getD i 0 = (a.map unitsOf).getD j 0 := fun i j => by
    rw [getD_units, getD_units]
    generalize (a.map unitsOf).getD i 0 = u
    generalize (a.map unitsOf).getD j 0 = v
    constructor
    · intro h
      have e : UP * (1 / UP * (u : Rat)) = UP * (1 / UP * (v : Rat)) := by rw [h]
      have k : 1 / UP * UP = 1 := Rat.div_mul_cancel UP_ne
      have e1 : ∀ w : Rat, UP * (1 / UP * w) = w := fun w => by
        have : UP * (1 / UP * w) = 1 / UP * UP * w := by grind
        rw [this, k, Rat.one_mul]
      rw [e1, e1] at e
      exact Rat.intCast_inj.1 e
    · intro h; rw [h]
  rw [Bool.eq_iff_iff, isSym_iff, len]
  simp only [List.all_eq_true, List.mem_range, decide_eq_true_eq]
  constructor
  · intro h i hi j hj
    rw [get i j hi (by omega), get j i (by omega) hi]
    exact (val _ _).1 (h i hi j (by omega))
  · intro h i hi j hj
    rw [val]
    rcases Nat.lt_trichotomy i j with c | c | c
    · have := h j hj i c
      rw [get i j hi hj, get j i hj hi] at this
      exact this.symm
    · rw [c]
    · have := h i hi j c
      rw [get i j hi hj, get j i hj hi] at this
      exact this
theorem zeros_eq (mode : Nat) (p : Pol) : Os.zeros mode p = (zlist p).map (Os.round mode) := by
  have e : Os.zeros mode p = (List.range (many p)).map fun k => Os.round mode (zw p k) := by unfold Os.zeros; exact rfl
  rw [e]
  unfold zlist
  rw [List.map_map]
  exact List.map_congr_left fun k _ => (Function.comp_apply (f := Os.round mode) (g := zw p) (x := k)).symm
theorem map_zeros (mode : Nat) : ∀ ls : List Pol, ls.flatMap (Os.zeros mode) = (zs ls).map (Os.round mode)
  | [] => rfl
  | p :: ls => by
    rw [zs_cons, List.map_append, List.flatMap_cons, map_zeros mode ls, zeros_eq]
theorem eig_told {n : Nat} (h1 : 1 ≤ n) {M : Os.Mat} {P : List Int} (C : Chr n (Os.charPoly n M) P) (mode : Nat) :
    ∃ ls : List Pol, Os.eigen mode n M = ((List.range n).map (wk ls)).map (Os.round mode) ∧ ∀ k : Nat, Cut (eigSide P ((k : Int) + 1)) (wk ls k) := by
  obtain ⟨c0, p, t, e, H⟩ := C.herm
  have sc := C.sc
  have hlen := C.len
  have hone := C.one
  refine ⟨Os.levels (n + 1) (Os.charPoly n M), ?_⟩
  unfold Os.eigen
  rw [map_zeros]
  rw [e] at sc ⊢
  obtain ⟨l0, hl0⟩ := H.monic
  have ht : Os.trim (c0 :: p) = c0 :: p := by
    rw [hl0]
    exact trim_of_last (c0 :: l0) 1 (by decide)
  have hp : Os.trim (c0 :: p) ≠ [] := by rw [ht]; simp
  have hl : (Os.trim (c0 :: p)).length = n + 1 := by rw [ht, List.length_cons, H.len]
  obtain ⟨V, r, cV, tV, hr⟩ := herm_count H
  have rr := rr_of hp cV tV hr
  obtain ⟨q, hq⟩ := hone
  have tP : Os.trim (c2 P) = c2 P := by
    rw [hq]
    unfold c2
    rw [List.map_append]
    exact trim_of_last _ _ (by decide)
  have d := dch_of UP_pos n (c2 P) tP (by rw [c2_len, hlen])
  obtain ⟨cz, cn⟩ := eig_count hp hl (Rat.pow_pos UP_pos (n := n)) sc d (by rw [List.length_map, List.length_range]) rr
  have nz := lev_nz (n + 1) (c0 :: p) hp
  generalize Os.levels (n + 1) (c0 :: p) = ls at cz cn nz ⊢
  refine ⟨eig_sorted mode nz cz fun x => by have := (cn x).1; omega, fun k => ⟨fun m s => ?_, fun r r' hr h0 => ?_⟩⟩
  · have key : ((List.range (n + 1)).map fun i => fun x : Rat => ev (sl i (c2 P)) (UP * x)).map (fun f => f (((m * 2 ^ s : Int) : Rat) / UP)) = (List.range P.length).map fun i => ev (sl i (c2 P)) ((m * 2 ^ s : Int) : Rat) := by
      rw [List.map_map, hlen]
      apply List.map_congr_left
      intro i _
      show ev (sl i (c2 P)) (UP * (((m * 2 ^ s : Int) : Rat) / UP)) = _
      rw [Rat.mul_comm, Rat.div_mul_cancel UP_ne]
    have sgs := taylor_sg m s P
    obtain ⟨b1, b2⟩ := cn (((m * 2 ^ s : Int) : Rat) / UP)
    rw [key] at b1 b2
    rw [cf_congr 0 _ _ sgs] at b1
    rw [lead_sg _ _ sgs] at b2
    have e3 : Os.changesFrom 0 (c2 (taylorI m s P)) = chgI (taylorI m s P) := rfl
    rw [e3] at b1
    unfold eigSide wk
    rw [hlen, b2]
    generalize Rr ls (((m * 2 ^ s : Int) : Rat) / UP) = R at b1 ⊢
    generalize chgI (taylorI m s P) = W at b1 ⊢
    generalize leadI (taylorI m s P) = D
    by_cases d1 : R ≤ k
    · rw [if_pos d1, if_pos (by omega)]
    · rw [if_neg d1, if_neg (by omega)]
      by_cases d2 : R ≤ k + D
      · rw [if_pos d2, if_pos (by omega)]
      · rw [if_neg d2, if_neg (by omega)]
  · have := (wk_wh (levs_facts ls nz).2.2.2.1 k).fall r r' hr (by omega)
    omega
theorem eigen_law {mode n : Int} {a : List Int} (hm : In64 mode) (hn : In64 n) (ha : ∀ b ∈ a, In64 b) : eigenOf mode n a = PyWqambd.eigen mode n a := by
  show _ = OsNeutral.shown (Os.answer (.eigen mode.toNat n.toNat (OsNeutral.nats a)))
  unfold eigenOf Os.answer
  dsimp only
  rw [refuse_square hm hn ha]
  by_cases hb : (decide (3 < mode) || badMatrix n n 4 a) = true
  · rw [if_pos hb, if_pos hb]; rfl
  · rw [if_neg hb, if_neg hb]
    obtain ⟨m3, k, rfl, k1, k4, hl⟩ := square_of hn hb
    rw [Int.toNat_natCast, sym_eq]
    by_cases hs : isSymM (rowsOf (a.map unitsOf) k k) = false
    · rw [if_pos hs, if_pos hs]; rfl
    · rw [if_neg hs, if_neg hs]
      have hs : isSymM (rowsOf (a.map unitsOf) k k) = true := by simpa using hs
      obtain ⟨ls, e, cut⟩ := eig_told k1 (chr_all k1 k4 hl hs) mode.toNat
      rw [e]
      have := answer_told (mode := mode) hm.1 m3 ((List.range k).map fun (i : Nat) => (eigSide (charI (rowsOf (a.map unitsOf) k k)) ((i : Int) + 1), wk ls i)) (fun z hz => by
        obtain ⟨i, _, rfl⟩ := List.mem_map.1 hz
        exact cut i)
      rw [List.map_map, List.map_map, List.map_map] at this
      rw [List.map_map]
      exact this
end Desk

namespace Desk
open PySem PySem.Spec PyProof.Rows L2 Evl
/-! words for walks -/
def Has (P : Program) (w : World) (K : PySem.W.Frag) (mg : Str → Option Value) (base : Heap) (k : Nat) (x : Str) (ps : List Str) (sp : Sp) : Prop :=
  ∃ (f : Addr) (fd : FuncData), FnOk P w K mg base CX0 k f fd ps sp ∧ mg x = some (.ref f) ∧ PySem.W.keepIn K (.ref f) = true ∧ Binds K fd ps []
/-- a module's whole number -/
def CI (mg : Str → Option Value) (x : Str) (n : Int) : Prop := ∃ t, mg x = some (.int n t)
section
variable {X : Cx} {x : Str} {p pos : Pos} {e : Expr} {es : List Expr} {t : TA}
theorem pe_callH {k j : Nat} {ps : List Str} {sp : Sp} (h : Has X.prog X.w X.K X.mg X.base k x ps sp) (hr : Room j X.A) (ha : PA X (e :: es) t) (hk : k ≤ j := by decide) (hg : Gl X x := by rfl) (hdb : (x == ("__debug__" : Str)) = false := by decide)
    (he : starEach (e :: es) X.env = (false, eval e X.env) :: starEach es X.env := by rfl) (hpl : (backTo pos (starEach es X.env)).any (·.1) = false := by rfl) : PE X (.Call (.Name x p) (e :: es) [] pos) (tCall sp [] E0 t) := by
  obtain ⟨f, fd, F, hm, hkp, hb⟩ := h
  exact pe_call F (hr.mono hk) hg hm hkp hb .nil pass0 ha hdb he hpl
theorem pe_ci {n : Int} (h : CI X.mg x n) (hg : Gl X x := by rfl) (hd : (x == ("__debug__" : Str)) = false := by decide) : PE X (.Name x p) (tC (.int n)) := by
  obtain ⟨t, h⟩ := h
  exact pe_glob hg h ⟨t, rfl⟩ hd
end
section
variable {K : PySem.W.Frag} {σ : L2.St} {H H' : Hp} {ta tb te : TE} {v x y : V} {D : Ends} {tz : TS}
def SpU (sp : Sp) (vs : List V) (H : Hp) (xs : List V) : Prop := ∀ H1, Ex H H1 → ∀ Q : VK, (∀ p H2, H1 p = none → Ex H1 H2 → H2 p = some (.tup xs) → Q (.ref p) H2) → ∀ E : XK, sp vs H1 Q E
def RetU (xs : List V) (H : Hp) (Q : VK) : Prop := ∀ p H2, H p = none → Ex H H2 → H2 p = some (.tup xs) → Q (.ref p) H2
theorem RetU.go {xs : List V} {Q : VK} (k : RetU xs H Q) (e : Ex H H') {p : Addr} {H2 : Hp} (hp : H' p = none) (e2 : Ex H' H2) (h : H2 p = some (.tup xs)) : Q (.ref p) H2 := k p H2 (fresh_back e hp) (e.trans e2) h
theorem eu_call {sp : Sp} {dvs vs xs : List V} {E : XK} {ta : TA} (h : EvA ta σ H vs) (hs : SpU sp (vs ++ dvs) H xs) : EvU (tCall sp dvs E ta) σ H xs := fun H1 e Q q =>
  h H1 e _ fun H2 e2 => hs H2 (e.trans e2) Q (fun p H3 hp e3 h3 => q p H3 (fresh_back e2 hp) (e2.trans e3) h3) E
theorem EvU.mono {xs : List V} (e : Ex H H') (h : EvU te σ H xs) : EvU te σ H' xs := fun H1 a Q q => h H1 (e.trans a) Q q
/-- a, b = e, e a new tuple -/
theorem s_unp {i j : Nat} (h : EvU te σ H [x, y]) (k : ∀ H1, Ex H H1 → D.nx ((σ.set i (some x)).set j (some y)) H1) : tAsg te (gTup K 2 (gCons (gName i) (gCons (gName j) gNil))) D σ H :=
  h H (Ex.refl H) _ fun p H1 _ e1 hp => ⟨p, [x, y], rfl, st_of hp, rfl, x, [y], rfl, y, [], rfl, rfl, k H1 e1⟩
theorem q_unp {i j : Nat} (h : EvU te σ H [x, y]) (k : ∀ H1, Ex H H1 → tz D ((σ.set i (some x)).set j (some y)) H1) : tSeq (tAsg te (gTup K 2 (gCons (gName i) (gCons (gName j) gNil)))) tz D σ H := s_unp (D := { D with nx := tz D }) h k
/-- a, b = e1, e2 -/
theorem s_par {i j : Nat} {t : TA} (h : EvA t σ H [x, y]) (k : ∀ H1, Ex H H1 → D.nx ((σ.set i (some x)).set j (some y)) H1) : tPar i j t D σ H :=
  h H (Ex.refl H) _ fun H1 e1 => ⟨x, y, rfl, k H1 e1⟩
theorem q_par {i j : Nat} {t : TA} (h : EvA t σ H [x, y]) (k : ∀ H1, Ex H H1 → tz D ((σ.set i (some x)).set j (some y)) H1) : tSeq (tPar i j t) tz D σ H := s_par (D := { D with nx := tz D }) h k
/-- the divmod of two whole numbers: a new tuple -/
def rDm : List V → Hp → VK → Prop := fun xs H Q => ∃ i j, xs = [.int i, .int j] ∧ CDivP i j ∧ ∀ p, H p = none → Q (.ref p) (upd H p (.tup [.int (i / j), .int (i % j)]))
theorem eu_dm {ta : TA} {i j : Int} (h : EvA ta σ H [.int i, .int j]) (hc : CDivP i j) : EvU (tCB rDm ta) σ H [.int (i / j), .int (i % j)] := fun H1 e Q q =>
  h H1 e _ fun H2 e2 => ⟨i, j, rfl, hc, fun p hp => q p _ (fresh_back e2 hp) (e2.trans (Ex.new hp)) upd_same⟩
def rAbs : List V → Hp → VK → Prop := fun xs H Q => ∃ i, xs = [.int i] ∧ Q (.int (if i < 0 then -i else i)) H
theorem ev_abs {ta : TA} {i : Int} (h : EvA ta σ H [.int i]) : Ev (tCB rAbs ta) σ H (.int (i.natAbs : Int)) := fun H1 e Q q =>
  h H1 e _ fun H2 e2 => ⟨i, rfl, by
    have e0 : (if i < 0 then -i else i) = (i.natAbs : Int) := by split <;> omega
    rw [e0]
    exact q H2 e2⟩
end
theorem small_div {i j : Int} (h0 : 0 < j) (h1 : j.natAbs.log2 < 9000) : CDivP i j := ⟨h0, PyProof.noPylong_of_log2 h1⟩
theorem fdiv_pos {i j : Int} (h : 0 < j) : i.fdiv j = i / j := Int.fdiv_eq_ediv_of_nonneg i (by omega)
theorem fmod_pos {i j : Int} (h : 0 < j) : i.fmod j = i % j := Int.fmod_eq_emod_of_nonneg i (by omega)

theorem len2 : 2 ≤ 100000 := by decide
theorem len1 : 1 ≤ 100000 := by decide
/-! ### values that are told by a property which stays; lists of them -/
/-- of H2: what stood in H, and what is new since H1 -/
def Fr (H H1 H2 : Hp) : Hp := fun a => if (H a).isSome = true ∨ H1 a = none then H2 a else none
theorem Fr.ex {H H1 H2 : Hp} : Ex (Fr H H1 H2) H2 := fun a o h => by
  unfold Fr at h
  split at h
  · exact h
  · cases h
theorem Fr.up {H H' H1 H2 : Hp} (e : Ex H H') : Ex (Fr H H1 H2) (Fr H' H1 H2) := fun a o h => by
  unfold Fr at h ⊢
  split at h
  · rename_i c
    rw [if_pos]
    · exact h
    · rcases c with c | c
      · left
        cases q : H a with
        | none => rw [q] at c; cases c
        | some u => rw [e a u q]; rfl
      · exact .inr c
  · cases h
theorem Fr.old {H H1 H2 : Hp} (e1 : Ex H H1) (e2 : Ex H1 H2) : Ex H (Fr H H1 H2) := fun a o h => by
  unfold Fr
  rw [if_pos (.inl (by rw [h]; rfl))]
  exact e2 a o (e1 a o h)
theorem Fr.new {H H1 H2 : Hp} {a : Addr} (h : H1 a = none) : Fr H H1 H2 a = H2 a := by
  unfold Fr
  rw [if_pos (.inr h)]
theorem Fr.trans {H H1 H2 H3 : Hp} (e1 : Ex H1 H2) : Ex (Fr H H2 H3) (Fr H H1 H3) := fun a o h => by
  unfold Fr at h ⊢
  split at h
  · rename_i c
    rw [if_pos]
    · exact h
    · rcases c with c | c
      · exact .inl c
      · exact .inr (fresh_back e1 c)
  · cases h
def St1 (R : V → Hp → Prop) : Prop := ∀ v H H', Ex H H' → R v H → R v H'
def EvP (te : TE) (σ : L2.St) (H : Hp) (R : V → Hp → Prop) : Prop := ∀ H1, Ex H H1 → ∀ Q : VK, (∀ v H2, Ex H1 H2 → R v (Fr H H1 H2) → Q v H2) → te σ H1 Q
def EvLP (te : TE) (σ : L2.St) (H : Hp) (n : Nat) (R : Nat → V → Hp → Prop) : Prop :=
  ∀ H1, Ex H H1 → ∀ Q : VK, (∀ p H2 (ys : List V), H1 p = none → Ex H1 H2 → H2 p = some (.lst ys) → ys.length = n → (∀ i y, ys[i]? = some y → R i y H2) → Q (.ref p) H2) → te σ H1 Q
section
variable {K : PySem.W.Frag} {σ : L2.St} {H H' : Hp} {ta tb te : TE} {v x y : V} {D : Ends} {tz : TS}
theorem Ev.p (h : Ev te σ H v) : EvP te σ H (fun u _ => u = v) := fun H1 a Q q => h H1 a Q fun H2 e => q v H2 e rfl
/-- a reference to a list of xs -/
def LstV (xs : List V) : V → Hp → Prop := fun u G => ∃ p, u = .ref p ∧ G p = some (.lst xs)
theorem LstV.st {xs : List V} : St1 (LstV xs) := fun _ _ _ e ⟨p, h1, h2⟩ => ⟨p, h1, e p _ h2⟩
theorem EvL.p {xs : List V} (h : EvL te σ H xs) : EvP te σ H (LstV xs) := fun H1 a Q q => h H1 a Q fun p H2 hn e hp => q _ H2 e ⟨p, rfl, by rw [Fr.new hn]; exact hp⟩
theorem et_yes : EvT tYes σ H true := fun H1 _ _ q => q H1 (Ex.refl H1)
/-- H without what stands at a -/
def less (H : Hp) (a : Addr) : Hp := fun b => if b = a then none else H b
theorem less_ex {H : Hp} {a : Addr} : Ex (less H a) H := fun b o h => by
  unfold less at h
  split at h
  · cases h
  · exact h
theorem less_up {H H' : Hp} {a : Addr} (e : Ex H H') : Ex (less H a) (less H' a) := fun b o h => by
  unfold less at h ⊢
  split at h
  · cases h
  · rename_i c
    rw [if_neg c]
    exact e b o h
theorem less_upd {H : Hp} {a : Addr} {o : HO} : less (upd H a o) a = less H a := by
  funext b
  unfold less
  split
  · rfl
  · rename_i c
    exact upd_ne c
theorem Fr_less {H H1 H2 : Hp} {a : Addr} {o : HO} (h0 : H a = none) (h1 : H1 a = some o) : Ex (Fr H H1 H2) (less H2 a) := fun b u h => by
  unfold Fr at h
  unfold less
  split at h
  · rename_i c
    rw [if_neg]
    · exact h
    · rintro rfl
      rw [h0, h1] at c
      rcases c with c | c <;> cases c
  · cases h
def Cp (H : Hp) (R : Nat → V → Hp → Prop) (Dl : Addr) (i : Nat) (H' : Hp) : Prop := H Dl = none ∧ Ex H H' ∧ ∃ ys : List V, H' Dl = some (.lst ys) ∧ ys.length = i ∧ ∀ j y, ys[j]? = some y → R j y (less H' Dl)
theorem cp_turn {R : Nat → V → Hp → Prop} {Dl : Addr} {i : Nat} {σ2 : L2.St} (hR : ∀ i, St1 (R i)) (p : Cp H R Dl i H') (hi : i < 50000) (he : EvP te σ2 H (R i)) :
    tYes σ2 H' fun b H3 => if b = true then te σ2 H3 fun y H4 => ∃ acc, H4 Dl = some (.lst acc) ∧ acc.length < sizeLine ∧ Cp H R Dl (i + 1) (upd H4 Dl (.lst (acc ++ [y]))) else Cp H R Dl (i + 1) H3 := by
  obtain ⟨p1, p2, ys, p3, p4, p5⟩ := p
  show te σ2 H' fun y H4 => ∃ acc, H4 Dl = some (.lst acc) ∧ acc.length < sizeLine ∧ Cp H R Dl (i + 1) (upd H4 Dl (.lst (acc ++ [y])))
  refine he H' p2 _ fun y H4 e4 r => ⟨ys, e4 Dl _ p3, sz_lt (by omega), p1, Ex.mut (p2.trans e4) p1, ys ++ [y], upd_same, by rw [List.length_append, p4]; rfl, fun j z hz => ?_⟩
  rw [less_upd]
  rcases Nat.lt_trichotomy j ys.length with c | c | c
  · rw [List.getElem?_append_left c] at hz
    exact hR j _ _ _ (less_up e4) (p5 j z hz)
  · subst c
    rw [List.getElem?_append_right (Nat.le_refl _), Nat.sub_self] at hz
    have e : y = z := Option.some.inj hz
    subst e
    rw [p4]
    exact hR i _ _ _ (Fr_less p1 p3) r
  · rw [List.getElem?_eq_none (by rw [List.length_append]; simp; omega)] at hz
    cases hz
theorem lp_list {a : Addr} {xs : List V} {tl : TE} {j : Nat} {vs : List Nat} (R : Nat → V → Hp → Prop) (hR : ∀ i, St1 (R i)) (h : Ev tl σ H (.ref a)) (hx : SqL K H a xs) (hz : xs.length ≤ 40000) (hw : ∀ x, wipe ((wipe σ vs).set j (some x)) vs = wipe σ vs)
    (he : ∀ (i : Nat) (x : V) H1, Ex H H1 → xs[i]? = some x → EvP te ((wipe σ vs).set j (some x)) H1 (R i)) : EvLP (tLc (iList K tl) (gName j) tYes te vs) σ H xs.length R := fun H0 e Q q => h H0 e _ fun H1 e1 => ⟨a, rfl, ⟨xs, ex_l (e.trans e1) hx⟩, fun Dl hD =>
  lc_list (xs := xs) (Cp H1 R Dl) ⟨hD, Ex.new hD, [], upd_same, rfl, fun j y hy => by simp at hy⟩ (fun i H' _ p => ex_l ((e.trans e1).trans p.2.1) hx) (fun i x H' hi p => ⟨hw x, cp_turn hR p (by have := (List.getElem?_eq_some_iff.mp hi).1; omega) (he i x H1 (e.trans e1) hi)⟩)
    (fun H' ⟨p1, p2, ys, p3, p4, p5⟩ => q Dl H' ys (fresh_back e1 p1) (e1.trans p2) p3 p4 fun i y hy => hR i _ _ _ less_ex (p5 i y hy))⟩
theorem lp_new {xs : List V} {tl : TE} {j : Nat} {vs : List Nat} (R : Nat → V → Hp → Prop) (hR : ∀ i, St1 (R i)) (h : EvL tl σ H xs) (hz : xs.length ≤ 40000) (hw : ∀ x, wipe ((wipe σ vs).set j (some x)) vs = wipe σ vs)
    (he : ∀ (i : Nat) (x : V) H1, Ex H H1 → xs[i]? = some x → EvP te ((wipe σ vs).set j (some x)) H1 (R i)) : EvLP (tLc (iList K tl) (gName j) tYes te vs) σ H xs.length R := fun H0 e Q q => h H0 e _ fun a H1 ha e1 hx => ⟨a, rfl, ⟨xs, sq_of hx⟩, fun Dl hD =>
  lc_list (xs := xs) (Cp H1 R Dl) ⟨hD, Ex.new hD, [], upd_same, rfl, fun j y hy => by simp at hy⟩ (fun i H' _ p => sq_of (p.2.1 a _ hx)) (fun i x H' hi p => ⟨hw x, cp_turn hR p (by have := (List.getElem?_eq_some_iff.mp hi).1; omega) (he i x H1 (e.trans e1) hi)⟩)
    (fun H' ⟨p1, p2, ys, p3, p4, p5⟩ => q Dl H' ys (fresh_back e1 p1) (e1.trans p2) p3 p4 fun i y hy => hR i _ _ _ less_ex (p5 i y hy))⟩
theorem lp_range {ta : TA} {j : Nat} {vs : List Nat} {n : Int} (R : Nat → V → Hp → Prop) (hR : ∀ i, St1 (R i)) (h : EvA ta σ H [.int n]) (hn : -40000 ≤ n ∧ n ≤ 40000) (hw : ∀ x, wipe ((wipe σ vs).set j (some x)) vs = wipe σ vs)
    (he : ∀ (i : Nat) H1, Ex H H1 → (i : Int) < n → EvP te ((wipe σ vs).set j (some (.int (i : Int)))) H1 (R i)) : EvLP (tLc (iRng1 ta) (gName j) tYes te vs) σ H n.toNat R := fun H0 e Q q => h H0 e _ fun H1 e1 => ⟨n, rfl, by omega, by omega, fun Dl hD =>
  lc_range (lo := 0) (n := n.toNat) (Cp H1 R Dl) ⟨hD, Ex.new hD, [], upd_same, rfl, fun j y hy => by simp at hy⟩ (fun i H' hi p => by
    have e0 : (0 : Int) + (i : Int) = (i : Int) := Int.zero_add _
    show wipe ((wipe σ vs).set j (some (.int ((0 : Int) + (i : Int))))) vs = wipe σ vs ∧ tYes ((wipe σ vs).set j (some (.int ((0 : Int) + (i : Int))))) H' fun b H3 => if b = true then te ((wipe σ vs).set j (some (.int ((0 : Int) + (i : Int))))) H3 fun y H4 => ∃ acc, H4 Dl = some (.lst acc) ∧ acc.length < sizeLine ∧ Cp H1 R Dl (i + 1) (upd H4 Dl (.lst (acc ++ [y]))) else Cp H1 R Dl (i + 1) H3
    rw [e0]
    exact ⟨hw _, cp_turn hR p (by omega) (he i H1 (e.trans e1) (by omega))⟩)
    (fun H' ⟨p1, p2, ys, p3, p4, p5⟩ => q Dl H' ys (fresh_back e1 p1) (e1.trans p2) p3 p4 fun i y hy => hR i _ _ _ less_ex (p5 i y hy))⟩
/-- items that are values -/
theorem EvLP.vals {n : Nat} {ys : List V} (h : EvLP te σ H n (fun i u _ => ys[i]? = some u)) (hl : ys.length = n) : EvL te σ H ys := fun H1 a Q q => h H1 a Q fun p H2 zs hn e hp hz hi => by
  have e0 : zs = ys := by
    apply List.ext_getElem?
    intro i
    rcases Nat.lt_or_ge i zs.length with c | c
    · have e1 : zs[i]? = some zs[i] := List.getElem?_eq_getElem c
      rw [e1, hi i _ e1]
    · rw [List.getElem?_eq_none c, List.getElem?_eq_none (by omega)]
  subst e0
  exact q p H2 hn e hp
theorem st_val {ys : List V} (i : Nat) : St1 (fun (u : V) (_ : Hp) => ys[i]? = some u) := fun _ _ _ _ r => r
/-- [F(n) for n in ns] -/
theorem el_ints {a : Addr} {ns : List Int} {tl : TE} {j : Nat} {vs : List Nat} (F : Int → V) (h : Ev tl σ H (.ref a)) (hx : SqL K H a (ns.map V.int)) (hz : ns.length ≤ 40000) (hw : ∀ x, wipe ((wipe σ vs).set j (some x)) vs = wipe σ vs)
    (he : ∀ n ∈ ns, ∀ H1, Ex H H1 → Ev te ((wipe σ vs).set j (some (.int n))) H1 (F n)) : EvL (tLc (iList K tl) (gName j) tYes te vs) σ H (ns.map F) :=
  (lp_list (fun i u _ => (ns.map F)[i]? = some u) st_val h hx (by rw [List.length_map]; exact hz) hw fun i x H1 e hi => by
    rw [List.getElem?_map] at hi
    cases q : ns[i]? with
    | none => rw [q] at hi; cases hi
    | some n =>
      rw [q] at hi
      cases hi
      refine fun H2 e2 Q k => he n (List.mem_of_getElem? q) H1 e H2 e2 Q fun H3 e3 => k _ H3 e3 ?_
      rw [List.getElem?_map, q]
      rfl).vals (by rw [List.length_map, List.length_map])
theorem el_rng {ta : TA} {j : Nat} {vs : List Nat} {n : Int} (ys : List V) (h : EvA ta σ H [.int n]) (hn : -40000 ≤ n ∧ n ≤ 40000) (hl : ys.length = n.toNat) (hw : ∀ x, wipe ((wipe σ vs).set j (some x)) vs = wipe σ vs)
    (he : ∀ (i : Nat) y H1, Ex H H1 → (i : Int) < n → ys[i]? = some y → Ev te ((wipe σ vs).set j (some (.int (i : Int)))) H1 y) : EvL (tLc (iRng1 ta) (gName j) tYes te vs) σ H ys :=
  (lp_range (fun i u _ => ys[i]? = some u) st_val h hn hw fun i H1 e hi => by
    obtain ⟨y, hy⟩ : ∃ y, ys[i]? = some y := ⟨ys[i]'(by omega), List.getElem?_eq_getElem (by omega)⟩
    exact fun H2 e2 Q k => he i y H1 e hi hy H2 e2 Q fun H3 e3 => k _ H3 e3 hy).vals hl
/-- a builtin of one new list -/
theorem ev_cbL {r : List V → Hp → VK → Prop} {xs : List V} (h : EvL te σ H xs) (hr : ∀ p H1, Ex H H1 → H1 p = some (.lst xs) → RC r [.ref p] H1 y) : Ev (tCB r (tCons te tNil)) σ H y := fun H1 e Q q =>
  h H1 e _ fun p H2 _ e2 hp => hr p H2 (e.trans e2) hp H2 (Ex.refl H2) Q fun H3 e3 => q H3 (e2.trans e3)
theorem rc_all {a : Addr} {bs : List Bool} (h : SqL K H a (bs.map V.bl)) : RC (rAll K) [.ref a] H (.bl (bs.all id)) := fun H1 e Q q => ⟨a, bs, rfl, ex_l e h, q H1 (Ex.refl H1)⟩
theorem rc_sum {a : Addr} {ns : List Int} (h : SqL K H a (ns.map V.int)) : RC (rSum K) [.ref a] H (.int ns.sum) := fun H1 e Q q => ⟨a, ns, rfl, ex_l e h, q H1 (Ex.refl H1)⟩
end

section
variable {K : PySem.W.Frag} {σ : L2.St} {H H' : Hp} {ta tb te : TE} {v x y : V} {D : Ends} {tz : TS}
theorem ev_shl {i : Int} {k : Nat} (ha : Ev ta σ H (.int i)) (hb : Ev tb σ H (.int (k : Int))) (hc : CShl i (k : Int)) :
    Ev (tOp (fun x y H Q => ∃ (i : Int) (k : Nat), x = .int i ∧ y = .int (k : Int) ∧ CShl i (k : Int) ∧ Q (.int (i * 2 ^ k)) H) ta tb) σ H (.int (i * 2 ^ k)) :=
  ev_op ha hb fun H1 e Q q => ⟨i, k, rfl, rfl, hc, q H1 (Ex.refl H1)⟩
theorem ev_one {k : Nat} (ha : Ev ta σ H (.int 1)) (hb : Ev tb σ H (.int (k : Int))) (hc : k ≤ 134217727) :
    Ev (tOp (fun x y H Q => ∃ k : Nat, x = .int 1 ∧ y = .int (k : Int) ∧ k ≤ 134217727 ∧ Q (.int (2 ^ k)) H) ta tb) σ H (.int (2 ^ k)) :=
  ev_op ha hb fun H1 e Q q => ⟨k, rfl, rfl, hc, q H1 (Ex.refl H1)⟩
theorem ev_add {i j : Int} (ha : Ev ta σ H (.int i)) (hb : Ev tb σ H (.int j)) : Ev (tOp (rI0 fun i j => .int (i + j)) ta tb) σ H (.int (i + j)) := ev_op ha hb rv_I0
theorem ev_sub {i j : Int} (ha : Ev ta σ H (.int i)) (hb : Ev tb σ H (.int j)) : Ev (tOp (rI0 fun i j => .int (i - j)) ta tb) σ H (.int (i - j)) := ev_op ha hb rv_I0
theorem ev_mul {i j : Int} {a b : Nat} (ha : Ev ta σ H (.int i)) (hb : Ev tb σ H (.int j)) (hi : i.natAbs < 2 ^ a) (hj : j.natAbs < 2 ^ b) (h : a + b ≤ 134217728) : Ev (tOp (rI CMulX fun i j => .int (i * j)) ta tb) σ H (.int (i * j)) := ev_op ha hb (rv_I (mulx_ok hi hj h))
theorem ev_neg {i : Int} (ha : Ev ta σ H (.int i)) : Ev (tUn (rU fun i => .int (-i)) ta) σ H (.int (-i)) := ev_un ha ru_neg
/-- the arguments: numbers and one new list among them -/
theorem call_L1 {sp : Sp} {E : XK} {xs : List V} {Q : VK} (h : EvL ta σ H xs) (hs : ∀ p H1, H p = none → Ex H H1 → H1 p = some (.lst xs) → sp [.ref p] H1 Q E) : tCall sp [] E (tCons ta tNil) σ H Q :=
  h H (Ex.refl H) _ fun p H1 hn e hp => hs p H1 hn e hp
end
abbrev IL (K : PySem.W.Frag) (H : Hp) (a : Addr) (ns : List Int) : Prop := SqL K H a (ns.map V.int)

section
variable {K : PySem.W.Frag} {σ : L2.St} {H H' : Hp} {ta tb te : TE} {v x y : V} {D : Ends} {tz : TS}
theorem ev_cmp {p : Int → Int → Bool} {i j : Int} (ha : Ev ta σ H (.int i)) (hb : Ev tb σ H (.int j)) : Ev (tCmp p ta tb) σ H (.bl (p i j)) := fun H1 e Q q =>
  ha H1 e _ fun H2 e2 => hb H2 (e.trans e2) _ fun H3 e3 => ⟨i, j, rfl, rfl, q H3 (e2.trans e3)⟩
theorem s_ext {l : Addr} {xs zs : List V} (hl : H l = some (.lst xs)) (ha : Ev ta σ H (.ref l)) (h : EvL te σ H zs) (hz : xs.length + zs.length ≤ 100000) (k : ∀ H1, Ex H H1 → D.nx σ (upd H1 l (.lst (xs ++ zs)))) :
    tDrop (tBM K "list" rExtend ta (tCons te tNil)) D σ H := ha H (Ex.refl H) _ fun H1 e1 =>
  ⟨Or.inl ⟨rfl, xs, sq_of (e1 l _ hl)⟩, h H1 e1 _ fun p H2 _ e2 hp => ⟨l, p, xs, zs, rfl, rfl, e2 l _ (e1 l _ hl), hp, sz_of hz, k H2 (e1.trans e2)⟩⟩
end

section
variable {K : PySem.W.Frag} {σ : L2.St} {H H' : Hp} {ta tb te : TE} {v x y : V} {D : Ends} {tz : TS}
/-- [e], e told by R -/
theorem lp_one {R : V → Hp → Prop} (h : EvP te σ H R) (hR : St1 R) : EvLP (tLst (tCons te tNil)) σ H 1 (fun _ => R) := fun H1 e Q q =>
  h H1 e _ fun v H2 e2 r => ⟨(by show 1 ≤ sizeLine; decide), fun p hp => q p _ [v] (fresh_back e2 hp) (e2.trans (Ex.new hp)) upd_same rfl fun i y hy => by
    cases i with
    | zero => cases hy; exact hR _ _ _ (Fr.ex.trans (Ex.new hp)) r
    | succ i => simp at hy⟩
end

section
variable {K : PySem.W.Frag} {σ : L2.St} {H H' : Hp} {ta tb te : TE} {v x y z : V} {D : Ends} {tz tu : TS} {g : TG}
theorem s_forRev {a : Addr} {xs : List V} {t : TA} (h : EvA t σ H [.ref a]) (hx : SqL K H a xs) (Pv : Nat → L2.St → Hp → Prop) (h0 : ∀ H1, Ex H H1 → Pv 0 σ H1) (hl : ∀ i σ' H', i ≤ xs.length → Pv i σ' H' → SqL K H' a xs)
    (hs : ∀ i x σ' H', i < xs.length → xs[xs.length - 1 - i]? = some x → Pv i σ' H' → g x σ' H' fun σ2 H2 => tu { D with nx := Pv (i + 1), ct := Pv (i + 1), bk := D.nx } σ2 H2) (hd : ∀ σ' H', Pv xs.length σ' H' → D.nx σ' H') : tFor (iRev K t) g tu D σ H :=
  h H (Ex.refl H) _ fun H1 e => ⟨a, xs, rfl, ex_l e hx, for_it walk_rev Pv (h0 H1 e) hl (fun i x σ' H0 H' hi p hy => by
    obtain ⟨e1, e2⟩ := hy
    subst e1
    exact hs i x σ' _ hi e2 p) hd⟩
theorem q_forRev {a : Addr} {xs : List V} {t : TA} (h : EvA t σ H [.ref a]) (hx : SqL K H a xs) (Pv : Nat → L2.St → Hp → Prop) (h0 : ∀ H1, Ex H H1 → Pv 0 σ H1) (hl : ∀ i σ' H', i ≤ xs.length → Pv i σ' H' → SqL K H' a xs)
    (hs : ∀ i x σ' H', i < xs.length → xs[xs.length - 1 - i]? = some x → Pv i σ' H' → g x σ' H' fun σ2 H2 => tu { D with nx := Pv (i + 1), ct := Pv (i + 1), bk := tz D } σ2 H2) (hd : ∀ σ' H', Pv xs.length σ' H' → tz D σ' H') : tSeq (tFor (iRev K t) g tu) tz D σ H :=
  s_forRev (D := { D with nx := tz D }) h hx Pv h0 hl hs hd
/-- a def's value at two new lists -/
theorem ev_callLL {sp : Sp} {E : XK} {xs ys : List V} (h1 : EvL ta σ H xs) (h2 : EvL tb σ H ys) (hs : ∀ p q H1, Ex H H1 → H1 p = some (.lst xs) → H1 q = some (.lst ys) → SpV sp [.ref p, .ref q] H1 z) : Ev (tCall sp [] E (tCons ta (tCons tb tNil))) σ H z := fun H1 e Q q =>
  h1 H1 e _ fun p H2 _ e2 hp => h2 H2 (e.trans e2) _ fun p' H3 _ e3 hp' => hs p p' H3 ((e.trans e2).trans e3) (e3 _ _ hp) hp' H3 (Ex.refl H3) Q (fun H4 e4 => q H4 ((e2.trans e3).trans e4)) E
theorem ev_fld {C a dx : Addr} {fs : List (Str × V)} {f : Str} (ho : Ev ta σ H (.ref a)) (h : H a = some (.ins C dx fs)) (cl : Cls K C) (nA : NoAttr K C f) (hl : fs.lookup f = some v) : Ev (tFld K ta f) σ H v := fun H1 e Q q =>
  ho H1 e _ fun H2 e2 => ⟨a, C, dx, fs, v, rfl, (e.trans e2) _ _ h, cl, nA, hl, q H2 e2⟩
theorem ev_ix {a : Addr} {xs : List V} {i : Int} {j : Nat} (h : Ev ta σ H (.ref a)) (hi : Ev tb σ H (.int i)) (hx : SqL K H a xs) (e : i = (j : Int)) (hv : xs[j]? = some v) : Ev (tOp (rIxL K) ta tb) σ H v := by
  subst e
  exact ev_op h hi (rv_ixL hx (atI_nat hv))
end

/-! the written part named, so that a comprehension's block may stand around -/
section
variable {X : Cx} {a b l e : Expr} {ta tb tl : TE} {pos p : Pos} {tg : Expr}
theorem pe_ixL (K : PySem.W.Frag) (ha : PE X a ta) (hb : PE X b tb) (hs : PlainIx b := by exact fun _ _ => rfl) (hK : X.K = K := by rfl) : PE X (.Subscript a b pos) (tOp (rIxL K) ta tb) := by
  subst hK
  exact pe_ix ix_list ha hb hs
theorem pe_lenL (K : PySem.W.Frag) (hm : X.mg "len" = none) (ha : PE X e ta) (hg : Gl X "len" := by rfl) (hs : starEach [e] X.env = (false, eval e X.env) :: starEach [] X.env := by rfl) (hpl : (backTo pos (starEach [] X.env)).any (·.1) = false := by rfl) (hK : X.K = K := by rfl) : PE X (.Call (.Name "len" p) [e] [] pos) (tCB (rLenS K) (tCons ta tNil)) := by
  subst hK
  exact pe_callB call_len_seq hg hm PySem.boot_len (pa_cons ha pa_nil hs) (by decide) (by decide) hs hpl
theorem pi_listL (K : PySem.W.Frag) (hl : PE X l tl) (hK : X.K = K := by rfl) : PI X tg l (iList K tl) := by
  subst hK
  exact pi_list hl
end

/-! lists of lists of whole numbers -/
def RowsAt (K : PySem.W.Frag) (H : Hp) (p : Addr) (rows : MatI) : Prop := ∃ as : List Addr, SqL K H p (as.map V.ref) ∧ as.length = rows.length ∧ ∀ (i : Nat) (a : Addr) (r : List Int), as[i]? = some a → rows[i]? = some r → IL K H a r
theorem ex_rows {K : PySem.W.Frag} {H H' : Hp} {p : Addr} {rows : MatI} (e : Ex H H') (h : RowsAt K H p rows) : RowsAt K H' p rows := by
  obtain ⟨as, h1, h2, h3⟩ := h
  exact ⟨as, ex_l e h1, h2, fun i a r ha hr => ex_l e (h3 i a r ha hr)⟩
def RowItem (K : PySem.W.Frag) (rows : MatI) (i : Nat) : V → Hp → Prop := fun u G => ∃ a r, u = .ref a ∧ rows[i]? = some r ∧ IL K G a r
theorem RowItem.st {K : PySem.W.Frag} {rows : MatI} (i : Nat) : St1 (RowItem K rows i) := fun _ _ _ e ⟨a, r, h1, h2, h3⟩ => ⟨a, r, h1, h2, ex_l e h3⟩
def adOf : V → Addr := fun v => match v with | .ref a => a | _ => 0
theorem rows_of_items {K : PySem.W.Frag} {H : Hp} {p : Addr} {ys : List V} {rows : MatI} (h1 : SqL K H p ys) (h2 : ys.length = rows.length) (h3 : ∀ i y, ys[i]? = some y → RowItem K rows i y H) : RowsAt K H p rows := by
  have e : ys = (ys.map adOf).map V.ref := by
    apply List.ext_getElem?
    intro i
    rw [List.getElem?_map, List.getElem?_map]
    cases q : ys[i]? with
    | none => rfl
    | some y =>
      obtain ⟨a, r, rfl, _⟩ := h3 i y q
      rfl
  refine ⟨ys.map adOf, by rw [← e]; exact h1, by rw [List.length_map, h2], fun i a r ha hr => ?_⟩
  rw [List.getElem?_map] at ha
  cases q : ys[i]? with
  | none => rw [q] at ha; cases ha
  | some y =>
    rw [q] at ha
    obtain ⟨a', r', rfl, hs, hn⟩ := h3 i y q
    cases ha
    rw [hr] at hs
    cases hs
    exact hn
/-- a new list of rows -/
def EvR (K : PySem.W.Frag) (te : TE) (σ : L2.St) (H : Hp) (rows : MatI) : Prop := ∀ H1, Ex H H1 → ∀ Q : VK, (∀ p H2, H1 p = none → Ex H1 H2 → RowsAt K H2 p rows → Q (.ref p) H2) → te σ H1 Q
def SpR (K : PySem.W.Frag) (sp : Sp) (vs : List V) (H : Hp) (rows : MatI) : Prop := ∀ H1, Ex H H1 → ∀ Q : VK, (∀ p H2, H1 p = none → Ex H1 H2 → RowsAt K H2 p rows → Q (.ref p) H2) → ∀ E : XK, sp vs H1 Q E
def RetR (K : PySem.W.Frag) (rows : MatI) (H : Hp) (Q : VK) : Prop := ∀ p H2, H p = none → Ex H H2 → RowsAt K H2 p rows → Q (.ref p) H2
section
variable {K : PySem.W.Frag} {σ : L2.St} {H H' : Hp} {ta tb tc te : TE} {v x y z : V} {D : Ends} {tz tu : TS} {g : TG}
theorem RetR.go {rows : MatI} {Q : VK} (k : RetR K rows H Q) (e : Ex H H') {p : Addr} {H2 : Hp} (hp : H' p = none) (e2 : Ex H' H2) (h : RowsAt K H2 p rows) : Q (.ref p) H2 := k p H2 (fresh_back e hp) (e.trans e2) h
theorem EvR.mono {rows : MatI} (e : Ex H H') (h : EvR K te σ H rows) : EvR K te σ H' rows := fun H1 a Q q => h H1 (e.trans a) Q q
theorem er_call {sp : Sp} {dvs vs : List V} {rows : MatI} {E : XK} {ta : TA} (h : EvA ta σ H vs) (hs : SpR K sp (vs ++ dvs) H rows) : EvR K (tCall sp dvs E ta) σ H rows := fun H1 e Q q =>
  h H1 e _ fun H2 e2 => hs H2 (e.trans e2) Q (fun p H3 hp e3 h3 => q p H3 (fresh_back e2 hp) (e2.trans e3) h3) E
theorem er_items {rows : MatI} {n : Nat} (h : EvLP te σ H n (RowItem K rows)) (hn : n = rows.length) : EvR K te σ H rows := fun H1 e Q q =>
  h H1 e Q fun p H2 ys hp e2 h2 hl hi => q p H2 hp e2 (rows_of_items (sq_of h2) (hl.trans hn) hi)
theorem s_retR {rows : MatI} (h : EvR K te σ H rows) (k : ∀ p H1, H p = none → Ex H H1 → RowsAt K H1 p rows → D.rt (.ref p) H1) : tRet te D σ H := h H (Ex.refl H) _ k
theorem s_asgR {i : Nat} {rows : MatI} (h : EvR K te σ H rows) (k : ∀ p H1, H p = none → Ex H H1 → RowsAt K H1 p rows → D.nx (σ.set i (some (.ref p))) H1) : tAsg te (gName i) D σ H := h H (Ex.refl H) _ k
theorem q_asgR {i : Nat} {rows : MatI} (h : EvR K te σ H rows) (k : ∀ p H1, H p = none → Ex H H1 → RowsAt K H1 p rows → tz D (σ.set i (some (.ref p))) H1) : tSeq (tAsg te (gName i)) tz D σ H := s_asgR (D := { D with nx := tz D }) h k
theorem rows_get {p : Addr} {rows : MatI} {i : Nat} {r : List Int} (h : RowsAt K H p rows) (hr : rows[i]? = some r) : ∃ (as : List Addr) (a : Addr), SqL K H p (as.map V.ref) ∧ (as.map V.ref)[i]? = some (.ref a) ∧ as.length = rows.length ∧ IL K H a r := by
  obtain ⟨as, h1, h2, h3⟩ := h
  have hi : i < as.length := by have := (List.getElem?_eq_some_iff.mp hr).1; omega
  exact ⟨as, as[i], h1, by rw [List.getElem?_map, List.getElem?_eq_getElem hi]; rfl, h2, h3 i _ r (List.getElem?_eq_getElem hi) hr⟩
/-- rows[i][j] -/
theorem ev_ix2 {p : Addr} {rows : MatI} {i j : Int} {i' j' : Nat} {r : List Int} {n : Int} (h : Ev ta σ H (.ref p)) (hi : Ev tb σ H (.int i)) (hj : Ev tc σ H (.int j)) (hR : RowsAt K H p rows) (ei : i = (i' : Int)) (ej : j = (j' : Int)) (hr : rows[i']? = some r) (hn : r[j']? = some n) :
    Ev (tOp (rIxL K) (tOp (rIxL K) ta tb) tc) σ H (.int n) := by
  obtain ⟨as, a, h1, h2, h3, h4⟩ := rows_get hR hr
  exact ev_ix (ev_ix h hi h1 ei h2) hj h4 ej (by rw [List.getElem?_map, hn]; rfl)
theorem ev_lenR {p : Addr} {rows : MatI} (ha : Ev ta σ H (.ref p)) (h : RowsAt K H p rows) : Ev (tCB (rLenS K) (tCons ta tNil)) σ H (.int (rows.length : Int)) := by
  obtain ⟨as, h1, h2, h3⟩ := h
  have := ev_len ha h1
  rw [List.length_map, h2] at this
  exact this
/-- a comprehension over range(lo, hi, c) -/
theorem lp_rangeC {ta : TA} {j : Nat} {vs : List Nat} {lo hi c : Int} {n : Nat} (R : Nat → V → Hp → Prop) (hR : ∀ i, St1 (R i)) (h : EvA ta σ H [.int lo, .int hi, .int c]) (hc : RgC lo hi c n) (hn : n ≤ 40000) (hw : ∀ x, wipe ((wipe σ vs).set j (some x)) vs = wipe σ vs)
    (he : ∀ (i : Nat) H1, Ex H H1 → i < n → EvP te ((wipe σ vs).set j (some (.int (lo + (i : Int) * c)))) H1 (R i)) : EvLP (tLc (iRng3 ta) (gName j) tYes te vs) σ H n R := fun H0 e Q q => h H0 e _ fun H1 e1 => ⟨lo, hi, c, n, rfl, hc, fun Dl hD =>
  lc_it walk_rangeC (Cp H1 R Dl) ⟨hD, Ex.new hD, [], upd_same, rfl, fun j y hy => by simp at hy⟩ (fun _ _ _ _ => trivial) (fun i x H0' H' hi' p hy => by
    obtain ⟨e5, e6⟩ := hy
    subst e5; subst e6
    exact ⟨hw _, cp_turn hR p (by omega) (he i H1 (e.trans e1) hi')⟩)
    (fun H' ⟨p1, p2, ys, p3, p4, p5⟩ => q Dl H' ys (fresh_back e1 p1) (e1.trans p2) p3 p4 fun i y hy => hR i _ _ _ less_ex (p5 i y hy))⟩
/-- xs + ys, two new lists -/
theorem el_cat {xs ys : List V} (h1 : EvL ta σ H xs) (h2 : EvL tb σ H ys) (hz : xs.length + ys.length ≤ 100000) : EvL (tOp rCat ta tb) σ H (xs ++ ys) := fun H1 e Q q =>
  h1 H1 e _ fun p H2 hp e2 h2' => h2 H2 (e.trans e2) _ fun p' H3 hp' e3 h3' => ⟨p, p', xs, ys, rfl, rfl, e3 _ _ h2', h3', sz_of hz, fun r hr => q r _ (fresh_back (e2.trans e3) hr) ((e2.trans e3).trans (Ex.new hr)) upd_same⟩
end
section
variable {X : Cx} {a b l e : Expr} {ta tb tl te : TE} {pos p p2 : Pos} {tg : Expr} {lo hi : Option Expr} {t1 t2 : TO}
theorem pe_sliceL (K : PySem.W.Frag) (he : PE X e te) (hl : PO X lo t1) (hu : PO X hi t2) (hK : X.K = K := by rfl) : PE X (.Subscript e (.Slice lo hi none p2) pos) (tSl (rSlL K) te t1 t2) := by
  subst hK
  exact pe_slice sl_list he hl hu
end
theorem cutV_mid {xs : List V} {a b : Nat} (h1 : a ≤ b) (h2 : b ≤ xs.length) : cutV xs (some (a : Int)) (some (b : Int)) = (xs.drop a).take (b - a) := by
  unfold cutV
  rw [HT.sIx_nat, HT.sIx_nat, Nat.min_eq_left h2, Nat.min_eq_left (Nat.le_trans h1 h2)]
theorem cutV_to {xs : List V} {b : Nat} (h2 : b ≤ xs.length) : cutV xs none (some (b : Int)) = xs.take b := by
  unfold cutV
  rw [HT.sIx_nat, HT.sIx_none, Nat.min_eq_left h2]
  rfl
theorem cutV_from {xs : List V} {a : Nat} (h1 : a ≤ xs.length) : cutV xs (some (a : Int)) none = xs.drop a := by
  unfold cutV
  rw [HT.sIx_nat, HT.sIx_none, Nat.min_eq_left h1]
  exact List.take_of_length_le (by rw [List.length_drop]; omega)
theorem take_drop_erase {α : Type} (l : List α) (i : Nat) : l.take i ++ l.drop (i + 1) = l.eraseIdx i := (List.eraseIdx_eq_take_drop_succ l i).symm

section
variable {K : PySem.W.Frag} {σ : L2.St} {H H' : Hp} {ta tb tc te : TE} {v x y z : V} {D : Ends} {tz tu : TS} {g : TG}
/-- a def's value at one new list of rows -/
theorem ev_callR {sp : Sp} {E : XK} {rows : MatI} (h1 : EvR K ta σ H rows) (hs : ∀ p H1, Ex H H1 → RowsAt K H1 p rows → SpV sp [.ref p] H1 z) : Ev (tCall sp [] E (tCons ta tNil)) σ H z := fun H1 e Q q =>
  h1 H1 e _ fun p H2 _ e2 hp => hs p H2 (e.trans e2) hp H2 (Ex.refl H2) Q (fun H3 e3 => q H3 (e2.trans e3)) E
/-- an item of the references with one left out -/
theorem erase_item {p : Addr} {rows : MatI} {as : List Addr} {k i : Nat} (h2 : as.length = rows.length) (h3 : ∀ (i : Nat) (a : Addr) (r : List Int), as[i]? = some a → rows[i]? = some r → IL K H a r) (hx : ((as.map V.ref).eraseIdx k)[i]? = some x) :
    ∃ a r, x = .ref a ∧ (rows.eraseIdx k)[i]? = some r ∧ IL K H a r := by
  rw [List.getElem?_eraseIdx, List.getElem?_map, List.getElem?_map] at hx
  rw [List.getElem?_eraseIdx]
  split at hx
  · rename_i z
    rw [if_pos z]
    cases w1 : as[i]? with
    | none => rw [w1] at hx; cases hx
    | some a =>
      rw [w1] at hx
      cases hx
      have hi' : i < rows.length := by have := (List.getElem?_eq_some_iff.mp w1).1; omega
      exact ⟨a, _, rfl, List.getElem?_eq_getElem hi', h3 i a _ w1 (List.getElem?_eq_getElem hi')⟩
  · rename_i z
    rw [if_neg z]
    cases w1 : as[i + 1]? with
    | none => rw [w1] at hx; cases hx
    | some a =>
      rw [w1] at hx
      cases hx
      have hi' : i + 1 < rows.length := by have := (List.getElem?_eq_some_iff.mp w1).1; omega
      exact ⟨a, _, rfl, List.getElem?_eq_getElem hi', h3 (i + 1) a _ w1 (List.getElem?_eq_getElem hi')⟩
/-- l[:k] + l[k + 1:] -/
theorem el_erase {a : Addr} {xs : List V} {k : Nat} (h1 : Ev ta σ H (.ref a)) (h2 : Ev tb σ H (.int (k : Int))) (h3 : Ev tc σ H (.int (k : Int))) (hx : SqL K H a xs) (hk : k < xs.length) (hl : xs.length ≤ 10000) :
    EvL (tOp rCat (tSl (rSlL K) ta tNoPart (tPart tb)) (tSl (rSlL K) ta (tPart (tOp (rI0 fun i j => .int (i + j)) tc (tC (.int 1)))) tNoPart)) σ H (xs.eraseIdx k) := by
  have hs1 := el_sl (lo := none) (hi := some (k : Int)) (tl := tNoPart) (th := tPart tb) h1 eo_none (eo_some h2) hx
  have hs2 := el_sl (lo := some ((k + 1 : Nat) : Int)) (hi := none) (tl := tPart (tOp (rI0 fun i j => .int (i + j)) tc (tC (.int 1)))) (th := tNoPart) h1 (eo_some (ev_is (ev_add h3 (ev_c (v := .int 1))) (by congr 1))) eo_none hx
  have hc := el_cat hs1 hs2 (by
    have z1 := cutV_length xs none (some (k : Int))
    have z2 := cutV_length xs (some ((k + 1 : Nat) : Int)) none
    omega)
  rw [cutV_to (by omega), cutV_from (by omega), take_drop_erase] at hc
  exact hc
end
end Desk

namespace Desk
open PySem PySem.Spec PyProof.Rows L2 Evl
/-! ### // of great whole numbers: what it asks of the run -/
/-- floor division by any divisor but 0, where the model's long way has room -/
theorem op_fdivB {X : Cx} {env : Env} {l : List Env} (sn : X.base.NoSeer) (tr : X.prog.given.tree = none) (hs : X.stack = env :: l) (hd : X.A.depth + Builtin.pylongFrames < recursionLimit)
    (hg : env.scope.isGenerator = false := by rfl) (hc : env.scope.isCoroutine = false := by rfl) (hb : env.builtins = builtinsNs := by rfl) (hm : env.globals = mainGlobals := by rfl) :
    OpR X (binaryOp .FloorDiv) (rI (fun _ j => 0 < j) fun i j => .int (i / j)) := by
  intro pins s σ H x y v u Q I rx ry h
  obtain ⟨i, j, rfl, rfl, h0, q⟩ := h
  obtain ⟨t, rfl⟩ := rx
  obtain ⟨t', rfl⟩ := ry
  have room : PylongRoom (model X.prog X.w) X.A s := PylongRoom.of I.nolimit hd (SeerAt.of (sn.keeps I.bk) tr (I.ok.frames.trans (congrArg some hs)) hg hc hb hm)
  refine floordiv_int (by omega) ?_ (.inr room)
  rw [fdiv_pos h0]
  exact ⟨.int (i / j), H, I.tok _, ⟨_, rfl⟩, q⟩
/-! ### a written part with more behind it -/
section
variable {K E : PySem.W.Frag}
theorem up_look {a : Addr} {o : Obj} (h : K.lookup a = some o) : (K ++ E).lookup a = some o := by
  rw [List.lookup_append, h]
  rfl
theorem up_ns {ns : Addr} {x : Str} {r : Option Value} (h : PySem.W.nsIn K ns x = some r) : PySem.W.nsIn (K ++ E) ns x = some r := by
  unfold PySem.W.nsIn at h ⊢
  cases q : K.lookup ns with
  | none => rw [q] at h; cases h
  | some o => rw [up_look q]; rw [q] at h; exact h
theorem up_own {x : Str} {v : Value} {r : Option Value} (h : PySem.W.ownIn K x v = some r) : PySem.W.ownIn (K ++ E) x v = some r := by
  cases v with
  | ref a =>
    unfold PySem.W.ownIn at h ⊢
    dsimp only at h ⊢
    cases q : K.lookup a with
    | none => rw [q] at h; cases h
    | some o =>
      rw [up_look q]
      rw [q] at h
      obtain ⟨c, d, b, sl⟩ := o
      cases b with
      | cls cd => exact up_ns h
      | _ => cases h
  | _ => exact h
theorem up_along {x : Str} : ∀ {l : List Value} {r : Option Value}, PySem.W.alongIn K x l = some r → PySem.W.alongIn (K ++ E) x l = some r
  | [], r, h => h
  | c :: l, r, h => by
    unfold PySem.W.alongIn at h ⊢
    cases q : PySem.W.ownIn K x c with
    | none => rw [q] at h; cases h
    | some o =>
      rw [up_own q]
      rw [q] at h
      cases o with
      | none => exact up_along h
      | some v => exact h
theorem up_find {v : Value} {x : Str} {r : Option Value} (h : PySem.W.findIn K v x = some r) : PySem.W.findIn (K ++ E) v x = some r := by
  cases v with
  | ref a =>
    unfold PySem.W.findIn at h ⊢
    dsimp only at h ⊢
    cases q : K.lookup a with
    | none => rw [q] at h; cases h
    | some o =>
      rw [up_look q]
      rw [q] at h
      obtain ⟨c, d, b, sl⟩ := o
      cases b with
      | cls cd => exact up_along h
      | _ => cases h
  | _ => exact h
theorem up_type {v t : Value} (h : PySem.W.typeIn K v = some t) : PySem.W.typeIn (K ++ E) v = some t := by
  cases v with
  | ref a =>
    unfold PySem.W.typeIn at h ⊢
    dsimp only at h ⊢
    cases q : K.lookup a with
    | none => rw [q] at h; cases h
    | some o => rw [up_look q]; rw [q] at h; exact h
  | _ => exact h
theorem up_special {v : Value} {x : Str} {r : Option Value} (h : PySem.W.specialIn K v x = some r) : PySem.W.specialIn (K ++ E) v x = some r := by
  unfold PySem.W.specialIn at h ⊢
  obtain ⟨t, a, b⟩ := Option.bind_eq_some_iff.mp h
  rw [up_type a]
  exact up_find b
theorem up_cls {C : Addr} {cd : ClassData} (h : PySem.W.clsIn K C = some cd) : PySem.W.clsIn (K ++ E) C = some cd := by
  unfold PySem.W.clsIn at h ⊢
  cases q : K.lookup C with
  | none => rw [q] at h; cases h
  | some o => rw [up_look q]; rw [q] at h; exact h
theorem up_any {C : Addr} {f : ClassData → Bool} (h : (PySem.W.clsIn K C).any f = true) : (PySem.W.clsIn (K ++ E) C).any f = true := by
  cases q : PySem.W.clsIn K C with
  | none => rw [q] at h; cases h
  | some cd => rw [up_cls q]; rw [q] at h; exact h
theorem up_hasDict {C : Addr} (h : PySem.W.hasDictIn K C = true) : PySem.W.hasDictIn (K ++ E) C = true := up_any h
theorem up_plainOver {C : Addr} (h : PySem.W.plainOver K C = true) : PySem.W.plainOver (K ++ E) C = true := up_any h
theorem up_plainGet {C : Addr} {x : Str} (h : PySem.W.plainGet K C x = true) : PySem.W.plainGet (K ++ E) C x = true := by
  unfold PySem.W.plainGet at h ⊢
  rw [Bool.and_eq_true] at h ⊢
  exact ⟨beq_iff_eq.mpr (up_find (beq_iff_eq.mp h.1)), beq_iff_eq.mpr (up_find (beq_iff_eq.mp h.2))⟩
theorem up_isFn {v : Value} (h : PySem.W.isFn K v = true) : PySem.W.isFn (K ++ E) v = true := by
  unfold PySem.W.isFn at h ⊢
  exact beq_iff_eq.mpr (up_type (beq_iff_eq.mp h))
theorem up_code {v : Value} {x : Str} (h : PySem.W.codeIn K v x = true) : PySem.W.codeIn (K ++ E) v x = true := by
  cases v with
  | ref a =>
    unfold PySem.W.codeIn at h ⊢
    dsimp only at h ⊢
    cases q : K.lookup a with
    | none => rw [q] at h; cases h
    | some o => rw [up_look q]; rw [q] at h; exact h
  | _ => exact h
theorem up_keep {v : Value} (h : PySem.W.keepIn K v = true) : PySem.W.keepIn (K ++ E) v = true := by
  cases v with
  | ref a =>
    unfold PySem.W.keepIn at h ⊢
    dsimp only at h ⊢
    cases q : K.lookup a with
    | none => rw [q] at h; cases h
    | some o =>
      rw [up_look q]
      rw [q] at h
      obtain ⟨c, d, b, sl⟩ := o
      cases b with
      | cls cd => exact beq_iff_eq.mpr (up_special (beq_iff_eq.mp h))
      | func fd => rfl
      | _ => cases h
  | _ => exact h
theorem up_mro {C : Addr} {v : Value} {r : Bool} (h : PySem.W.mroIn K C v = some r) : PySem.W.mroIn (K ++ E) C v = some r := by
  unfold PySem.W.mroIn at h ⊢
  obtain ⟨cd, a, b⟩ := Option.bind_eq_some_iff.mp h
  rw [up_cls a]
  exact b
theorem up_inst {v b : Value} {r : Bool} (h : PySem.W.instIn K v b = some r) : PySem.W.instIn (K ++ E) v b = some r := by
  unfold PySem.W.instIn at h ⊢
  obtain ⟨t, a, c⟩ := Option.bind_eq_some_iff.mp h
  rw [up_type a]
  show PySem.W.subIn (K ++ E) t b = some r
  have c : PySem.W.subIn K t b = some r := c
  cases t with
  | ref C => exact up_mro c
  | _ => exact c
theorem up_makes {C : Addr} (h : PySem.W.makesIn K C = true) : PySem.W.makesIn (K ++ E) C = true := by
  unfold PySem.W.makesIn at h ⊢
  cases q : K.lookup C with
  | none => rw [q] at h; cases h
  | some o =>
    rw [up_look q]
    rw [q] at h
    obtain ⟨c, d, b, sl⟩ := o
    cases b with
    | cls cd =>
      dsimp only at h ⊢
      simp only [Bool.and_eq_true, beq_iff_eq] at h ⊢
      exact ⟨⟨h.1.1, up_special h.1.2⟩, up_inst h.2⟩
    | _ => cases h
end
/-! ### the law's head, with what stood in the run's own places -/
theorem walk_seer {r : PySem.W.OpenSpec} {k : Nat} {q : Program} {loose : List Str} {XP : (Str → Option Value) → Heap → Prop} {YP : World → Heap → Prop} {d : DefRec} {K : Params → PySem.W.Frag} {CX : CXT} {ps : List Str} {sp : PySem.W.Frag → Sp}
    (hwell : r.wellSaid = true) (hdf : d.params.defaults = []) (hlen : r.args.length = ps.length) (hr : Room k callerA) (hi : importsNone q = true)
    (hY : ∀ (w : World) (h : Heap), YP w h → (K w.params).In h)
    (F : ∀ (w : World) (mg : Str → Option Value) (fa : Addr) (h : Heap) (E : PySem.W.Frag), (K w.params ++ E).In h → h.Ns mainGlobals mg → mg d.name = some (.ref fa) → (∀ base : Heap, (K w.params ++ E).In base → base.NoSeer) →
      ∃ fd : FuncData, (∀ (s : Shared) (us : List Value), us.length = ps.length → BindsTo s fd ⟨us, []⟩ (ps.zip us)) ∧
        ∀ base : Heap, (K w.params ++ E).In base → base.Ns mainGlobals mg → FnOk r.prog w (K w.params ++ E) mg base CX k fa fd ps (sp (K w.params ++ E)))
    (hsp : ∀ (K : PySem.W.Frag) (H : Hp) (xs : List V) (a : PySem.W.Codec.denoteAll r.args), OnlyF H → PySem.W.Codec.withinAll r.args a = true → PySem.W.Codec.app r.args r.asked a = true → DwAll K H xs (PySem.W.Codec.encAll r.args a) →
      sp K xs H (fun v H' => Dw K H' v (r.ret.enc (PySem.W.Codec.app r.args r.f a))) fun _ _ _ => False)
    (hCX : ∀ (H : Hp) (s : Shared) (e : Value) (s' : Shared), CX [] H s (fun _ _ _ => False) e s' → False) :
    PySem.W.WalkOS q loose XP YP r d [] (fun f vs => PySem.call f vs) := by
  intro w s₀ s₁ mg mb G Y fa o pm cd doc dV kV ho hd hcd hD hmg hg args vals as hpre hlay hrd hwl hlo
  obtain ⟨a, ea, eas⟩ := PySem.W.os_pre_some hpre
  obtain ⟨e3, within⟩ := PySem.W.Codec.encAll_of_decAll r.args args a ea
  cases e3
  have S := G.T.seer hi
  obtain ⟨mc, ⟨oc, esc, epc, gc, dc, rc⟩, c1, c2⟩ := S.statics
  obtain ⟨mm, ⟨om, esm, epm, gm, dm, rm⟩, m1⟩ := S.mods
  obtain ⟨mi, ⟨oi, esi, epi, gi, di, ri⟩, i1⟩ := S.imp
  obtain ⟨mn, bm, ob, ⟨on, esn, epn, gn, dn, rn⟩, n1, n2, n3, n4⟩ := S.main
  let E : PySem.W.Frag := [(cStatics, oc), (sysModules, om), (builtinsNs, oi), (mainGlobals, on), (bm, ob)]
  have hE : E.In s₁.heap := by
    intro b u hb
    have : ∀ L : PySem.W.Frag, (∀ p ∈ L, s₁.heap.get? p.1 = some p.2) → L.lookup b = some u → s₁.heap.get? b = some u := by
      intro L
      induction L with
      | nil => intro _ h; cases h
      | cons p L ih =>
        intro hL h
        obtain ⟨c, v⟩ := p
        rw [List.lookup_cons] at h
        split at h
        · rename_i z
          cases h
          rw [beq_iff_eq.mp z]
          exact hL _ (List.mem_cons_self ..)
        · exact ih (fun p hp => hL p (List.mem_cons_of_mem _ hp)) h
    refine this E ?_ hb
    intro p hp
    simp only [E, List.mem_cons, List.not_mem_nil, or_false] at hp
    rcases hp with z | z | z | z | z <;> subst z <;> assumption
  have KE : (K w.params ++ E).In s₁.heap := by
    intro b u hb
    rw [List.lookup_append] at hb
    cases z : (K w.params).lookup b with
    | none => rw [z] at hb; exact hE b u hb
    | some t => rw [z] at hb; cases hb; exact hY w _ Y b u z
  have at_ : ∀ b u, s₁.heap.get? b = some u → E.lookup b ≠ none → ∀ base : Heap, (K w.params ++ E).In base → base.get? b = some u := by
    intro b u hu hn base hB
    cases z : (K w.params ++ E).lookup b with
    | none =>
      rw [List.lookup_append] at z
      cases y : (K w.params).lookup b with
      | none => rw [y] at z; exact absurd z hn
      | some t => rw [y] at z; cases z
    | some t =>
      have e1 := KE b t z
      rw [hu] at e1
      cases e1
      exact hB b u z
  have mem : ∀ b u, (b, u) ∈ E → E.lookup b ≠ none := by
    intro b u hb hn
    have := List.lookup_eq_none_iff.mp hn _ hb
    simp at this
  have seer : ∀ base : Heap, (K w.params ++ E).In base → base.NoSeer := by
    intro base hB
    have tk := fun b u (hb : (b, u) ∈ E) (hu : s₁.heap.get? b = some u) => at_ b u hu (mem b u hb) base hB
    exact ⟨⟨mc, ⟨oc, esc, epc, tk _ _ (by simp [E]) gc, dc, rc⟩, c1, c2⟩, ⟨mm, ⟨om, esm, epm, tk _ _ (by simp [E]) gm, dm, rm⟩, m1⟩, ⟨mi, ⟨oi, esi, epi, tk _ _ (by simp [E]) gi, di, ri⟩, i1⟩,
      ⟨mn, bm, ob, ⟨on, esn, epn, tk _ _ (by simp [E]) gn, dn, rn⟩, n1, tk _ _ (by simp [E]) n2, n3, n4⟩⟩
  obtain ⟨fd, hbnd, fok⟩ := F w mg fa _ E KE G.T.g hmg seer
  have run := spec_call (R := []) (cl := classAt s₀.heap) (d0 := r.ret.enc (PySem.W.Codec.app r.args r.f a)) KE G.T.g G.T.b G.T.builtins G.T.nolimit hg hwl (pl_encAll _ _) (layable_weight hlay) hr fok hbnd
    (by rw [encAll_len]; exact hlen) (fun H xs hO hS => hsp _ H xs a hO within eas hS) (fun H e s' => hCX H s₁ e s')
  refine PySem.W.enter_call (codeAny_mono run fun r' s' hq => ?_)
  obtain ⟨u, as', e9, h1, h2, h3, h4⟩ := hq
  cases e9
  refine ⟨.inl ⟨u, _, as', rfl, fun _ => rfl, h1, ?_, fun z => ?_⟩, h2, h3, h4⟩
  rotate_left
  · have z : false = true := z
    cases z
  exact (PySem.W.OpenSpec.post_iff hwell within _ _).mpr rfl
end Desk

namespace Desk
open PySem PySem.Spec PyProof.Rows L2 Evl
/-! ### list(reversed(a list)) -/
section
variable {prog : Program} {w : World} {A : Around} {E : Value → Shared → Prop} {s : Shared}
/-- the items in their turned order, put behind an empty list -/
theorem rev_extend {R : Result → Shared → Prop} {it l S : Addr} {its : Array Value} (calm : A.handled = none) (ri : s.heap.IsRevIter it l ((its.size : Int) - 1)) (li : s.heap.IsList l its) (apart : l ≠ it) (fits : its.size ≤ sizeLine)
    (hS : s.heap.get? S = some { cls := .type "list", data := .seq #[] }) (hi : S ≠ it) (hl : S ≠ l)
    (k : ∀ (h' : Heap) (tk : Nat) (acc : Array Value) (c : Nat), (∀ b o, b ≠ S → b ≠ it → s.heap.get? b = some o → h'.get? b = some o) → h'.get? S = some { cls := .type "list", dict := none, data := .seq acc c, slots := #[] } →
      ItemsOf (fun i v => its[its.size - 1 - i]? = some v) acc its.size → R (.ok (.ret .none)) { s with heap := h', toks := tk }) :
    wpAny (model prog w) A.in1 (Builtin.List.listExtendWith (.ref S) (.ref it) .none) (fun fin s' => match fin with
      | .done f => R (.ok f) s'
      | .again c => c.quiet = true ∧ codeAny (model prog w) A c R s') (fun e s' => R (.error e) s') s := by
  have walk := (Walks.listRev (prog := prog) (w := w) (A := A.in1) calm it l apart its).toS
  have out : S ∉ [it, l] := by
    rw [List.mem_cons, List.mem_singleton]
    exact fun z => z.elim hi hl
  have ty : s.TypeIs (.ref it) "list_reverseiterator" := Heap.IsRevIter.typeIs ri
  have ns : Builtin.List.listSameRef (.ref S) (.ref it) = false := by simp [Builtin.List.listSameRef, hi]
  unfold Builtin.List.listExtendWith
  refine wpAny_bind (wpAny_typeOf ty ?_)
  rw [ns]
  rw [if_neg (by simp)]
  refine wpAny_bind (wpAny_pyIter_revIter ri ?_)
  refine wpAny_bind (wpAny_holding ?_)
  unfold Builtin.List.listLengthHint
  refine wpAny_bind (wpAny_specialOf ty RT.nolen_lri ?_)
  show wpAny _ _ (specialOf (Value.ref it) (Str.ofString "__length_hint__") >>= _) _ _ _
  refine wpAny_bind (wpAny_specialOf ty RT.hint_lri ?_)
  generalize hq : ("list_reverseiterator.__length_hint__" : String) = nm
  wp_delta
  rw [show splitId nm = some ("list_reverseiterator", "__length_hint__") from by subst hq; decide +kernel]
  subst hq
  refine wpAny_bind (wpAny_isInstance (b := true) ty (by rw [isSubtype_type]; kernel_rfl) (wpAny_pure ?_))
  rw [if_neg (by decide)]
  have z0 : ((its.size : Nat) : Int) - 1 = (its.size : Int) - 1 - ((0 : Nat) : Int) := by omega
  refine wpAny_pure ⟨plainId_quiet F.plain_extend_loop _, codeAny_extend_loopS walk fits _ out _ its.size 0 _ _ _ rfl (Nat.zero_le _) ⟨Nat.zero_le _, by rw [← z0]; exact ri, li⟩ hS (ItemsOf.nil _) fun t acc c mv hT got => ?_⟩
  rw [Moved.eq_with mv]
  refine k t.heap t.toks acc c (fun b o h1 h2 e => mv.heap b o (fun z => ?_) e) hT got
  rcases List.mem_cons.mp z with y | y
  · exact h1 y
  · exact h2 (List.mem_singleton.mp y)
theorem list_of_rev {it l : Addr} {its : Array Value} {Q : Value → Shared → Prop} (calm : A.handled = none) (ri : s.heap.IsRevIter it l ((its.size : Int) - 1)) (li : s.heap.IsList l its) (apart : l ≠ it) (fits : its.size ≤ sizeLine)
    (k : ∀ (h' : Heap) (tk : Nat) (acc : Array Value) (c : Nat), (∀ b o, b ≠ it → s.heap.get? b = some o → h'.get? b = some o) → h'.get? s.heap.objs.size = some { cls := .type "list", dict := none, data := .seq acc c, slots := #[] } →
      ItemsOf (fun i v => its[its.size - 1 - i]? = some v) acc its.size → Q (.ref s.heap.objs.size) { s with heap := h', toks := tk }) :
    wpAny (model prog w) A (call (.type "list") [.ref it]) Q E s := by
  obtain ⟨oi, ei, _⟩ := id ri
  obtain ⟨ol, el, _⟩ := id li
  refine callType_codes (Q₁ := fun obj t => obj = .ref s.heap.objs.size ∧ t = { s with heap := s.heap.push { cls := .type "list", data := .seq #[] } }) F.called_list (F.typeCall_list_1 _) F.entry_list_init (code_list_new _ ⟨rfl, rfl⟩) fun obj t ht => ?_
  obtain ⟨h1, h2⟩ := ht
  subst h1; subst h2
  have new : (s.heap.push { cls := .type "list", data := .seq #[] }).get? s.heap.objs.size = some { cls := .type "list", data := .seq #[] } := Heap.get?_push_size _ rfl
  have hi : s.heap.objs.size ≠ it := Nat.ne_of_gt (Heap.lt_size ei)
  have hl : s.heap.objs.size ≠ l := Nat.ne_of_gt (Heap.lt_size el)
  refine ⟨⟨_, new, rfl⟩, F.args_list_init_2 _ _, ?_⟩
  show wpAny _ _ (do let old ← Builtin.List.listItems (.ref s.heap.objs.size); Builtin.List.listUpdate (.ref s.heap.objs.size) (fun _ => #[]); letGo old.toList.reverse; Builtin.List.listExtendWith (.ref s.heap.objs.size) (.ref it) .none) _ _ _
  refine wpAny_bind ?_
  unfold Builtin.List.listItems
  refine wpAny_bind (wpAny_seqItems new rfl (wpAny_pure ?_))
  show wpAny _ _ (updateSeq s.heap.objs.size (fun _ => #[]) >>= fun _ => letGo (#[] : Array Value).toList.reverse >>= fun _ => Builtin.List.listExtendWith (.ref s.heap.objs.size) (.ref it) .none) _ _ _
  refine wpAny_bind (wpAny_updateSeq new rfl (wpAny_bind (wpAny_letGo ?_)))
  have other : ∀ b o, b ≠ s.heap.objs.size → s.heap.get? b = some o → ((s.heap.push { cls := .type "list", data := .seq #[] }).update s.heap.objs.size (Obj.mapSeq (fun _ => (#[] : Array Value)))).get? b = some o := fun b o hb e => by
    rw [Heap.get?_update_other _ _ (Ne.symm hb)]
    exact Heap.get?_push_of_some _ e
  refine rev_extend (s := { s with heap := (s.heap.push { cls := .type "list", data := .seq #[] }).update s.heap.objs.size (Obj.mapSeq (fun _ => (#[] : Array Value))) }) calm (ri.at fun o e => other it o (Ne.symm hi) e) ?_ apart fits (Heap.get?_update_self (Obj.mapSeq (fun _ => (#[] : Array Value))) new rfl) hi hl fun h' tk acc c kp hT got => ?_
  · obtain ⟨o, e, r⟩ := li
    exact ⟨o, other l o (Ne.symm hl) e, r⟩
  · exact ⟨rfl, k h' tk acc c (fun b o hb e => kp b o (Nat.ne_of_lt (Heap.lt_size e)) hb (other b o (Nat.ne_of_lt (Heap.lt_size e)) e)) hT got⟩
end
def tListRev (K : PySem.W.Frag) (te : TE) : TE := fun σ H Q => te σ H fun v H1 => ∃ (a : Addr) (xs : List V), v = .ref a ∧ SqL K H1 a xs ∧ ∀ q, H1 q = none → Q (.ref q) (upd H1 q (.lst xs.reverse))
theorem pe_listRev {X : Cx} {e : Expr} {te : TE} {p p2 pos pos2 : Pos} (hc : X.calm = true) (g1 : Gl X "list") (m1 : X.mg "list" = none) (g2 : Gl X "reversed") (m2 : X.mg "reversed" = none) (he : PE X e te)
    (s1 : starEach [e] X.env = (false, eval e X.env) :: starEach [] X.env := by rfl)
    (s2 : starEach [.Call (.Name "reversed" p2) [e] [] pos2] X.env = (false, eval (.Call (.Name "reversed" p2) [e] [] pos2) X.env) :: starEach [] X.env := by rfl) :
    PE X (.Call (.Name "list" p) [.Call (.Name "reversed" p2) [e] [] pos2] [] pos) (tListRev X.K te) := by
  refine ⟨fun pins s σ H Q I h => ?_⟩
  refine Call_ (ld_blt I g1 m1 (u := .type "list") (by decide +kernel) (callWith_type1 (args_cons (Call_ (ld_blt I g2 m2 boot_reversed (callWith_type1 (args_cons (thn (he.run pins s σ H _ I h) fun u t ⟨v, H1, J, r1, q1⟩ => args_nil ?_) s1) s1 rfl))) s2) s2 rfl))
  obtain ⟨a, xs, ev, hq, q⟩ := q1
  subst ev
  obtain rfl : u = Value.ref a := r1
  obtain ⟨its, rv, pl, hz⟩ := J.list hq
  refine call_reversed_list pl.isList (args_nil ?_)
  obtain ⟨ol, el, _⟩ := id pl.isList
  have ne : a ≠ t.heap.objs.size := Nat.ne_of_lt (Heap.lt_size el)
  have grow : ∀ b o, t.heap.get? b = some o → (t.heap.push (revObj a ((its.toArray.size : Int) - 1))).get? b = some o := fun b o e => Heap.get?_push_of_some _ e
  have up : t.heap.objs.size ≤ (t.heap.push (revObj a ((its.toArray.size : Int) - 1))).objs.size := by
    rw [show (t.heap.push (revObj a ((its.toArray.size : Int) - 1))).objs.size = t.heap.objs.size + 1 from Heap.size_push ..]
    exact Nat.le_succ _
  refine list_of_rev (s := { t with heap := t.heap.push (revObj a ((its.toArray.size : Int) - 1)) }) (its := its.toArray) (J.ok.hd hc) ⟨_, Heap.get?_push_size _ rfl, rfl, rfl⟩ (pl.isList.push _) ne (by rw [List.size_toArray, ← rv.length]; exact hz) fun h' tk acc c kp hT got => ?_
  have keep : ∀ b o, t.heap.get? b = some o → h'.get? b = some o := fun b o e => kp b o (Nat.ne_of_lt (Heap.lt_size e)) (grow b o e)
  refine ⟨.ref _, upd H1 _ (.lst xs.reverse), J.laid (t' := tk) keep up (show ObjOk X.prog X.w _ h' _ (.lst xs.reverse) from ⟨by rw [List.length_reverse]; exact hz, acc.toList, c, RT.vals_rev rv got, ?_⟩), rfl, q _ (J.hok.fresh up)⟩
  rw [Array.toArray_toList]
  exact hT
theorem el_listRev {K : PySem.W.Frag} {σ : L2.St} {H : Hp} {te : TE} {xs : List V} (h : EvL te σ H xs) : EvL (tListRev K te) σ H xs.reverse := fun H1 e Q q =>
  h H1 e _ fun p H2 hp e2 h2 => ⟨p, xs, rfl, sq_of h2, fun r hr => q r _ (fresh_back e2 hr) (e2.trans (Ex.new hr)) upd_same⟩
/-! ### a comprehension over range(lo, hi) -/
section
variable {K : PySem.W.Frag} {σ : L2.St} {H H' : Hp} {ta tb te : TE} {v x y : V} {D : Ends} {tz : TS}
theorem lp_range2 {ta : TA} {j : Nat} {vs : List Nat} {lo hi : Int} (R : Nat → V → Hp → Prop) (hR : ∀ i, St1 (R i)) (h : EvA ta σ H [.int lo, .int hi]) (hn : -40000 ≤ lo ∧ lo ≤ 40000 ∧ -40000 ≤ hi ∧ hi ≤ 40000 ∧ hi - lo ≤ 40000) (hw : ∀ x, wipe ((wipe σ vs).set j (some x)) vs = wipe σ vs)
    (he : ∀ (i : Nat) H1, Ex H H1 → lo + (i : Int) < hi → EvP te ((wipe σ vs).set j (some (.int (lo + (i : Int))))) H1 (R i)) : EvLP (tLc (iRng2 ta) (gName j) tYes te vs) σ H (hi - lo).toNat R := fun H0 e Q q => h H0 e _ fun H1 e1 => ⟨lo, hi, rfl, ⟨by omega, by omega, by omega, by omega⟩, fun Dl hD =>
  lc_range (lo := lo) (n := (hi - lo).toNat) (Cp H1 R Dl) ⟨hD, Ex.new hD, [], upd_same, rfl, fun j y hy => by simp at hy⟩ (fun i H' hi' p => ⟨hw _, cp_turn hR p (by omega) (he i H1 (e.trans e1) (by omega))⟩)
    (fun H' ⟨p1, p2, ys, p3, p4, p5⟩ => q Dl H' ys (fresh_back e1 p1) (e1.trans p2) p3 p4 fun i y hy => hR i _ _ _ less_ex (p5 i y hy))⟩
theorem el_rng2 {ta : TA} {j : Nat} {vs : List Nat} {lo hi : Int} (ys : List V) (h : EvA ta σ H [.int lo, .int hi]) (hn : -40000 ≤ lo ∧ lo ≤ 40000 ∧ -40000 ≤ hi ∧ hi ≤ 40000 ∧ hi - lo ≤ 40000) (hl : ys.length = (hi - lo).toNat) (hw : ∀ x, wipe ((wipe σ vs).set j (some x)) vs = wipe σ vs)
    (he : ∀ (i : Nat) y H1, Ex H H1 → lo + (i : Int) < hi → ys[i]? = some y → Ev te ((wipe σ vs).set j (some (.int (lo + (i : Int))))) H1 y) : EvL (tLc (iRng2 ta) (gName j) tYes te vs) σ H ys :=
  (lp_range2 (fun i u _ => ys[i]? = some u) st_val h hn hw fun i H1 e hi => by
    obtain ⟨y, hy⟩ : ∃ y, ys[i]? = some y := ⟨ys[i]'(by omega), List.getElem?_eq_getElem (by omega)⟩
    exact fun H2 e2 Q k => he i y H1 e hi hy H2 e2 Q fun H3 e3 => k _ H3 e3 hy).vals hl
/-- l[-1] -/
theorem atI_last {xs : List V} {x : V} (h : xs[xs.length - 1]? = some x) (h0 : 0 < xs.length) : atI xs (-1) = some x := by
  unfold atI
  have : ixN xs.length (-1) = some (xs.length - 1) := by
    unfold ixN
    simp
    omega
  rw [this]
  exact h
end
end Desk

namespace Desk
open PySem PySem.Spec PyProof.Rows L2 Evl
/-! the text by places -/
def top (i : Nat) : Stmt := PySem.Challenge.pw_onceroundeddesk_s11_eigen.main.body.getD i (.Pass ⟨0, 0, 0, 0⟩)
abbrev s_is_finite : Stmt := top 4
abbrev s_place_of : Stmt := top 5
abbrev s_point_at : Stmt := top 6
abbrev s_units_of : Stmt := top 7
abbrev s_all_units : Stmt := top 8
abbrev s_middle_above : Stmt := top 9
abbrev s_bits_of_lower : Stmt := top 10
abbrev s_bits_of_upper : Stmt := top 11
abbrev s_sign : Stmt := top 13
abbrev s_divided : Stmt := top 14
abbrev s_taylor : Stmt := top 15
abbrev s_changes : Stmt := top 16
abbrev s_leading_zeros : Stmt := top 19
abbrev s_rows_of : Stmt := top 21
abbrev s_minor : Stmt := top 22
abbrev s_determinant : Stmt := top 23
abbrev s_signed : Stmt := top 24
abbrev s_is_symmetric : Stmt := top 25
abbrev s_characteristic : Stmt := top 26
abbrev s_all_finite : Stmt := top 28
abbrev s_bad_size : Stmt := top 29
abbrev s_bad_matrix : Stmt := top 30
abbrev s_neighbours : Stmt := top 32
abbrev s_goes_up : Stmt := top 33
abbrev s_rounded : Stmt := top 34
abbrev s_answer : Stmt := top 35
abbrev s_eigen : Stmt := top 37
abbrev s_Eigenvalue___init__ : Stmt := inClass (top 18) 0
abbrev s_Eigenvalue_side : Stmt := inClass (top 18) 1
section
variable {P : Program} {w : World} {K : PySem.W.Frag} {mg : Str → Option Value} {base : Heap}
/-! doubles -/
def sp_is_finite : Sp := fun vs H Q _ => ∃ b : Int, vs = [.int b] ∧ RetV (.bl (isFin b)) H Q
theorem sv_is_finite {b : Int} {H : Hp} : SpV sp_is_finite [.int b] H (.bl (isFin b)) := fun _ _ _ q _ => ⟨b, rfl, q⟩
theorem sc_is_finite : FnScope ["bits"] ["bits"] (defScope s_is_finite) := ⟨rfl, rfl, rfl, by decide +kernel, rfl, by decide +kernel, by decide +kernel⟩
theorem ok_is_finite {f : Addr} {fd : FuncData} (F : Fun K "is_finite" "is_finite" s_is_finite f fd) (cS : CI mg "SIGN" SGN) (cI : CI mg "INFINITE" INF) : FnOk P w K mg base CX0 1 f fd ["bits"] sp_is_finite := by
  refine F.ok sc_is_finite (fun vs H Q E h => ?_) (fun cdv A outer s H vs Q E hr h => ?_)
  · obtain ⟨b, rfl, _⟩ := h
    rfl
  · obtain ⟨b, rfl, k⟩ := h
    refine ⟨_, pss_one (ps_ret (pe_cmpR op_lt (pe_op op_modN (pv 0) (pe_ci cS)) (pe_ci cI) (nomark _))), ?_⟩
    refine s_ret (ev_op (ev_op (ev_var rfl) ev_c (rv_I (by decide))) ev_c rv_I0) fun H1 e => ?_
    have e1 : b.fmod SGN = b % SGN := fmod_pos (by decide)
    rw [e1]
    exact k.go e
def sp_place_of : Sp := fun vs H Q _ => ∃ b : Int, vs = [.int b] ∧ RetV (.int (placeOf b)) H Q
theorem sv_place_of {b : Int} {H : Hp} : SpV sp_place_of [.int b] H (.int (placeOf b)) := fun _ _ _ q _ => ⟨b, rfl, q⟩
theorem sc_place_of : FnScope ["bits"] ["bits"] (defScope s_place_of) := ⟨rfl, rfl, rfl, by decide +kernel, rfl, by decide +kernel, by decide +kernel⟩
theorem ok_place_of {f : Addr} {fd : FuncData} (F : Fun K "place_of" "place_of" s_place_of f fd) (cS : CI mg "SIGN" SGN) : FnOk P w K mg base CX0 1 f fd ["bits"] sp_place_of := by
  refine F.ok sc_place_of (fun vs H Q E h => ?_) (fun cdv A outer s H vs Q E hr h => ?_)
  · obtain ⟨b, rfl, _⟩ := h
    rfl
  · obtain ⟨b, rfl, k⟩ := h
    refine ⟨_, pss_cons (ps_if (pt_cmpR op_ge (pv 0) (pe_ci cS) (nomark _)) (pss_one (ps_ret (pe_op op_sub (pe_ci cS) (pv 0)))) pss_nil) (pss_one (ps_ret (pv 0))), ?_⟩
    unfold placeOf at k
    refine q_when (et_test (ev_op (ev_var rfl) ev_c rv_I0)) (fun c H1 e => ?_) (fun c H1 e => ?_)
    · rw [if_pos (of_decide_eq_true c)] at k
      exact s_ret (ev_op ev_c (ev_var rfl) rv_I0) fun H2 e2 => k.go (e.trans e2)
    · rw [if_neg (of_decide_eq_false c)] at k
      exact s_ret (ev_var rfl) fun H2 e2 => k.go (e.trans e2)
def sp_point_at : Sp := fun vs H Q _ => ∃ pl : Int, vs = [.int pl] ∧ RetU [.int (pM pl), .int (pS pl)] H Q
theorem su_point_at {pl : Int} {H : Hp} : SpU sp_point_at [.int pl] H [.int (pM pl), .int (pS pl)] := fun _ _ _ q _ => ⟨pl, rfl, q⟩
theorem sc_point_at : FnScope ["place", "exponent", "fraction", "m", "s"] ["place"] (defScope s_point_at) := ⟨rfl, rfl, rfl, by decide +kernel, rfl, by decide +kernel, by decide +kernel⟩
theorem ok_point_at {f : Addr} {fd : FuncData} (F : Fun K "point_at" "point_at" s_point_at f fd) (cH : CI mg "HIDDEN" HID) (bD : mg "divmod" = none) (bA : mg "abs" = none) : FnOk P w K mg base CX0 1 f fd ["place"] sp_point_at := by
  refine F.ok sc_point_at (fun vs H Q E h => ?_) (fun cdv A outer s H vs Q E hr h => ?_)
  · obtain ⟨b, rfl, _⟩ := h
    rfl
  · obtain ⟨pl, rfl, k⟩ := h
    refine ⟨_, pss_cons (ps_asg (pe_callB call_divmodW (by rfl) bD (by decide +kernel) (pa_cons (pe_callB call_abs (by rfl) bA (by decide +kernel) (pa_cons (pv 0) pa_nil)) (pa_cons (pe_ci cH) pa_nil)))
        (pg_tup (by rfl) (pgs_cons (pg_name (i := 1) sc_point_at.nd rfl (.inl rfl)) (pgs_cons (pg_name (i := 2) sc_point_at.nd rfl (.inl rfl)) pgs_nil))))
      (pss_cons (ps_if (pt_cmpR op_eq (pv 1) pe_int (nomark _))
          (pss_one (ps_par (i := 3) (j := 4) (by rfl) sc_point_at.nd rfl rfl (by decide) rfl rfl (pa_cons (pv 2) (pa_cons pe_int pa_nil)) (by rfl)))
          (pss_one (ps_par (i := 3) (j := 4) (by rfl) sc_point_at.nd rfl rfl (by decide) rfl rfl (pa_cons (pe_op op_add (pe_ci cH) (pv 2)) (pa_cons (pv 1) pa_nil)) (by rfl))))
      (pss_cons (ps_if (pt_cmpR op_lt (pv 0) pe_int (nomark _)) (pss_one (ps_ret (pe_tup (pa_cons (pe_un un_neg (pv 3)) (pa_cons (pv 4) pa_nil))))) pss_nil)
      (pss_one (ps_ret (pe_tup (pa_cons (pv 3) (pa_cons (pv 4) pa_nil))))))), ?_⟩
    refine q_unp (eu_dm (ea_cons (ev_abs (ea_cons (ev_var rfl) ea_nil)) (ea_cons ev_c ea_nil)) (small_div (by decide) (by decide))) fun H1 e1 => ?_
    have e0 : ((pS pl : Nat) : Int) = if (pl.natAbs : Int) / HID = 0 then 1 else (pl.natAbs : Int) / HID := by
      unfold pS
      have : 0 ≤ (pl.natAbs : Int) / HID := Int.ediv_nonneg (by omega) (by decide)
      split <;> omega
    have eM : pM pl = if pl < 0 then -(if (pl.natAbs : Int) / HID = 0 then (pl.natAbs : Int) % HID else HID + (pl.natAbs : Int) % HID) else (if (pl.natAbs : Int) / HID = 0 then (pl.natAbs : Int) % HID else HID + (pl.natAbs : Int) % HID) := rfl
    rw [e0, eM] at k
    generalize (pl.natAbs : Int) / HID = q at k ⊢
    generalize (pl.natAbs : Int) % HID = r at k ⊢
    refine q_if (et_test (ev_op (ev_var rfl) ev_c (rv_eq rfl))) (fun c H2 e2 => ?_) (fun c H2 e2 => ?_)
    · have cq : q = 0 := by simpa using c
      rw [if_pos cq, if_pos cq] at k
      refine s_par (ea_cons (ev_var rfl) (ea_cons ev_c ea_nil)) fun H3 e3 => ?_
      refine q_when (et_test (ev_op (ev_var rfl) ev_c rv_I0)) (fun c4 H4 e4 => ?_) (fun c4 H4 e4 => ?_)
      · rw [if_pos (of_decide_eq_true c4)] at k
        exact s_retU (eu_tup (ea_cons (ev_un (ev_var rfl) ru_neg) (ea_cons (ev_var rfl) ea_nil)) len2) fun p H5 hp e5 h5 => k.go (((e1.trans e2).trans e3).trans e4) hp e5 h5
      · rw [if_neg (of_decide_eq_false c4)] at k
        exact s_retU (eu_tup (ea_cons (ev_var rfl) (ea_cons (ev_var rfl) ea_nil)) len2) fun p H5 hp e5 h5 => k.go (((e1.trans e2).trans e3).trans e4) hp e5 h5
    · have cq : ¬ q = 0 := by simpa using c
      rw [if_neg cq, if_neg cq] at k
      refine s_par (ea_cons (ev_op ev_c (ev_var rfl) rv_I0) (ea_cons (ev_var rfl) ea_nil)) fun H3 e3 => ?_
      refine q_when (et_test (ev_op (ev_var rfl) ev_c rv_I0)) (fun c4 H4 e4 => ?_) (fun c4 H4 e4 => ?_)
      · rw [if_pos (of_decide_eq_true c4)] at k
        exact s_retU (eu_tup (ea_cons (ev_un (ev_var rfl) ru_neg) (ea_cons (ev_var rfl) ea_nil)) len2) fun p H5 hp e5 h5 => k.go (((e1.trans e2).trans e3).trans e4) hp e5 h5
      · rw [if_neg (of_decide_eq_false c4)] at k
        exact s_retU (eu_tup (ea_cons (ev_var rfl) (ea_cons (ev_var rfl) ea_nil)) len2) fun p H5 hp e5 h5 => k.go (((e1.trans e2).trans e3).trans e4) hp e5 h5
/-! bounds of points -/
theorem natAbs_pA (pl : Int) : (pM pl).natAbs < 2 ^ 53 := by
  have h : 0 ≤ pA pl ∧ pA pl < 2 ^ 53 := by
    unfold pA HID
    split <;> omega
  unfold pM
  split <;> omega
theorem pS_le {pl : Int} (h : pl.natAbs < 9223372036854775809) : pS pl ≤ 2048 := by
  unfold pS HID
  split
  · omega
  · omega
theorem placeOf_le {b : Int} (h0 : 0 ≤ b) (h1 : b ≤ 18446744073709551615) : (placeOf b).natAbs < 9223372036854775809 := by
  unfold placeOf SGN
  split <;> omega
def sp_units_of : Sp := fun vs H Q _ => ∃ b : Int, vs = [.int b] ∧ In64 b ∧ RetV (.int (unitsOf b)) H Q
theorem sv_units_of {b : Int} {H : Hp} (hb : In64 b) : SpV sp_units_of [.int b] H (.int (unitsOf b)) := fun _ _ _ q _ => ⟨b, rfl, hb, q⟩
theorem sc_units_of : FnScope ["bits", "m", "s"] ["bits"] (defScope s_units_of) := ⟨rfl, rfl, rfl, by decide +kernel, rfl, by decide +kernel, by decide +kernel⟩
theorem ok_units_of {f : Addr} {fd : FuncData} (F : Fun K "units_of" "units_of" s_units_of f fd) (h1 : Has P w K mg base 1 "point_at" ["place"] sp_point_at) (h2 : Has P w K mg base 1 "place_of" ["bits"] sp_place_of) : FnOk P w K mg base CX0 2 f fd ["bits"] sp_units_of := by
  refine F.ok sc_units_of (fun vs H Q E h => ?_) (fun cdv A outer s H vs Q E hr h => ?_)
  · obtain ⟨b, rfl, _⟩ := h
    rfl
  · obtain ⟨b, rfl, hb, k⟩ := h
    refine ⟨_, pss_cons (ps_asg (pe_callH h1 hr (pa_cons (pe_callH h2 hr (pa_cons (pv 0) pa_nil)) pa_nil))
        (pg_tup (by rfl) (pgs_cons (pg_name (i := 1) sc_units_of.nd rfl (.inl rfl)) (pgs_cons (pg_name (i := 2) sc_units_of.nd rfl (.inl rfl)) pgs_nil))))
      (pss_one (ps_ret (pe_op op_shlN (pv 1) (pv 2)))), ?_⟩
    refine q_unp (eu_call (ea_cons (ev_call (ea_cons (ev_var rfl) ea_nil) sv_place_of) ea_nil) su_point_at) fun H1 e1 => ?_
    have hc : CShl (pM (placeOf b)) ((pS (placeOf b) : Nat) : Int) := shl_ok (natAbs_pA _) (by have := pS_le (placeOf_le hb.1 hb.2); omega)
    exact s_ret (ev_shl (ev_var rfl) (ev_var rfl) hc) fun H2 e2 => k.go (e1.trans e2)
def sp_all_units (K : PySem.W.Frag) : Sp := fun vs H Q _ => ∃ (a : Addr) (ns : List Int), vs = [.ref a] ∧ IL K H a ns ∧ ns.length ≤ 40000 ∧ (∀ n ∈ ns, In64 n) ∧ RetL ((ns.map unitsOf).map V.int) H Q
theorem sl_all_units {a : Addr} {ns : List Int} {H : Hp} (h1 : IL K H a ns) (h2 : ns.length ≤ 40000) (h3 : ∀ n ∈ ns, In64 n) : SpL (sp_all_units K) [.ref a] H ((ns.map unitsOf).map V.int) := fun _ e _ q _ => ⟨a, ns, rfl, ex_l e h1, h2, h3, q⟩
theorem sc_all_units : FnScope ["numbers", "bits"] ["numbers"] (defScope s_all_units) := ⟨rfl, rfl, rfl, by decide +kernel, rfl, by decide +kernel, by decide +kernel⟩
theorem ok_all_units {f : Addr} {fd : FuncData} (F : Fun K "all_units" "all_units" s_all_units f fd) (h1 : Has P w K mg base 2 "units_of" ["bits"] sp_units_of) : FnOk P w K mg base CX0 3 f fd ["numbers"] (sp_all_units K) := by
  refine F.ok sc_all_units (fun vs H Q E h => ?_) (fun cdv A outer s H vs Q E hr h => ?_)
  · obtain ⟨a, ns, rfl, _⟩ := h
    rfl
  · obtain ⟨a, ns, rfl, hS, hl, hn, k⟩ := h
    refine ⟨_, pss_one (ps_ret (pe_lc (own := [("bits", 1)]) (g := gName 1) (tt := tYes) rfl sc_all_units.nd (pi_list (pv 0)) (blkOk_by (own := [("bits", 1)]) (N := ["numbers", "bits"]) (sc := defScope s_all_units) (by decide +kernel))
      (fun _ _ _ _ _ => pg_name (i := 1) sc_all_units.nd rfl (Or.inl rfl)) (fun _ _ _ _ _ => pts_nil) (fun _ _ _ _ _ => pe_callH h1 hr (pa_cons (pv 1) pa_nil)))), ?_⟩
    rw [List.map_map] at k
    exact s_retL (el_ints (V.int ∘ unitsOf) (ev_var rfl) hS hl (fun x => rfl) fun n hm H1 e => ev_call (ea_cons (ev_var rfl) ea_nil) (sv_units_of (hn n hm))) fun p H1 hp e h => k p H1 hp e h
def sp_middle_above : Sp := fun vs H Q _ => ∃ pl : Int, vs = [.int pl] ∧ RetU [.int (midM pl), .int (midS pl)] H Q
theorem su_middle_above {pl : Int} {H : Hp} : SpU sp_middle_above [.int pl] H [.int (midM pl), .int (midS pl)] := fun _ _ _ q _ => ⟨pl, rfl, q⟩
theorem sc_middle_above : FnScope ["place", "m", "s"] ["place"] (defScope s_middle_above) := ⟨rfl, rfl, rfl, by decide +kernel, rfl, by decide +kernel, by decide +kernel⟩
theorem ok_middle_above {f : Addr} {fd : FuncData} (F : Fun K "middle_above" "middle_above" s_middle_above f fd) (h1 : Has P w K mg base 1 "point_at" ["place"] sp_point_at) : FnOk P w K mg base CX0 2 f fd ["place"] sp_middle_above := by
  refine F.ok sc_middle_above (fun vs H Q E h => ?_) (fun cdv A outer s H vs Q E hr h => ?_)
  · obtain ⟨b, rfl, _⟩ := h
    rfl
  · obtain ⟨pl, rfl, k⟩ := h
    refine ⟨_, pss_cons (ps_if (pt_cmpR op_ge (pv 0) pe_int (nomark _)) (pss_cons (ps_asg (pe_callH h1 hr (pa_cons (pv 0) pa_nil))
        (pg_tup (by rfl) (pgs_cons (pg_name (i := 1) sc_middle_above.nd rfl (.inl rfl)) (pgs_cons (pg_name (i := 2) sc_middle_above.nd rfl (.inl rfl)) pgs_nil))))
        (pss_one (ps_ret (pe_tup (pa_cons (pe_op op_add (pe_op op_mulX pe_int (pv 1)) pe_int) (pa_cons (pe_op op_sub (pv 2) pe_int) pa_nil)))))) pss_nil)
      (pss_cons (ps_asg (pe_callH h1 hr (pa_cons (pe_op op_add (pv 0) pe_int) pa_nil))
        (pg_tup (by rfl) (pgs_cons (pg_name (i := 1) sc_middle_above.nd rfl (.inl rfl)) (pgs_cons (pg_name (i := 2) sc_middle_above.nd rfl (.inl rfl)) pgs_nil))))
        (pss_one (ps_ret (pe_tup (pa_cons (pe_op op_sub (pe_op op_mulX pe_int (pv 1)) pe_int) (pa_cons (pe_op op_sub (pv 2) pe_int) pa_nil)))))), ?_⟩
    have e0 : ∀ pl : Int, ((pS pl : Nat) : Int) - 1 = ((pS pl - 1 : Nat) : Int) := fun pl => by have := pS_pos pl; omega
    unfold midM midS at k
    refine q_when (et_test (ev_op (ev_var rfl) ev_c rv_I0)) (fun c H1 e1 => ?_) (fun c H1 e1 => ?_)
    · have c := of_decide_eq_true c
      rw [if_pos c, if_pos c, ← e0] at k
      refine q_unp (eu_call (ea_cons (ev_var rfl) ea_nil) su_point_at) fun H2 e2 => ?_
      exact s_retU (eu_tup (ea_cons (ev_add (ev_mul (a := 2) (b := 53) ev_c (ev_var rfl) (by decide) (natAbs_pA _) (by decide)) ev_c) (ea_cons (ev_sub (ev_var rfl) ev_c) ea_nil)) len2) fun p H5 hp e5 h5 => k.go (e1.trans e2) hp e5 h5
    · have c := of_decide_eq_false c
      rw [if_neg c, if_neg c, ← e0] at k
      refine q_unp (eu_call (ea_cons (ev_add (ev_var rfl) ev_c) ea_nil) su_point_at) fun H2 e2 => ?_
      exact s_retU (eu_tup (ea_cons (ev_sub (ev_mul (a := 2) (b := 53) ev_c (ev_var rfl) (by decide) (natAbs_pA _) (by decide)) ev_c) (ea_cons (ev_sub (ev_var rfl) ev_c) ea_nil)) len2) fun p H5 hp e5 h5 => k.go (e1.trans e2) hp e5 h5
def sp_bits_of_lower : Sp := fun vs H Q _ => ∃ b : Int, vs = [.int b] ∧ RetV (.int (bitsLower b)) H Q
theorem sv_bits_of_lower {b : Int} {H : Hp} : SpV sp_bits_of_lower [.int b] H (.int (bitsLower b)) := fun _ _ _ q _ => ⟨b, rfl, q⟩
theorem sc_bits_of_lower : FnScope ["place"] ["place"] (defScope s_bits_of_lower) := ⟨rfl, rfl, rfl, by decide +kernel, rfl, by decide +kernel, by decide +kernel⟩
theorem ok_bits_of_lower {f : Addr} {fd : FuncData} (F : Fun K "bits_of_lower" "bits_of_lower" s_bits_of_lower f fd) (cS : CI mg "SIGN" SGN) : FnOk P w K mg base CX0 1 f fd ["place"] sp_bits_of_lower := by
  refine F.ok sc_bits_of_lower (fun vs H Q E h => ?_) (fun cdv A outer s H vs Q E hr h => ?_)
  · obtain ⟨b, rfl, _⟩ := h
    rfl
  · obtain ⟨b, rfl, k⟩ := h
    refine ⟨_, pss_cons (ps_if (pt_cmpR op_lt (pv 0) pe_int (nomark _)) (pss_one (ps_ret (pe_op op_sub (pe_ci cS) (pv 0)))) pss_nil) (pss_one (ps_ret (pv 0))), ?_⟩
    unfold bitsLower at k
    refine q_when (et_test (ev_op (ev_var rfl) ev_c rv_I0)) (fun c H1 e => ?_) (fun c H1 e => ?_)
    · rw [if_pos (of_decide_eq_true c)] at k
      exact s_ret (ev_op ev_c (ev_var rfl) rv_I0) fun H2 e2 => k.go (e.trans e2)
    · rw [if_neg (of_decide_eq_false c)] at k
      exact s_ret (ev_var rfl) fun H2 e2 => k.go (e.trans e2)
def sp_bits_of_upper : Sp := fun vs H Q _ => ∃ b : Int, vs = [.int b] ∧ RetV (.int (bitsUpper b)) H Q
theorem sv_bits_of_upper {b : Int} {H : Hp} : SpV sp_bits_of_upper [.int b] H (.int (bitsUpper b)) := fun _ _ _ q _ => ⟨b, rfl, q⟩
theorem sc_bits_of_upper : FnScope ["place"] ["place"] (defScope s_bits_of_upper) := ⟨rfl, rfl, rfl, by decide +kernel, rfl, by decide +kernel, by decide +kernel⟩
theorem ok_bits_of_upper {f : Addr} {fd : FuncData} (F : Fun K "bits_of_upper" "bits_of_upper" s_bits_of_upper f fd) (cS : CI mg "SIGN" SGN) : FnOk P w K mg base CX0 1 f fd ["place"] sp_bits_of_upper := by
  refine F.ok sc_bits_of_upper (fun vs H Q E h => ?_) (fun cdv A outer s H vs Q E hr h => ?_)
  · obtain ⟨b, rfl, _⟩ := h
    rfl
  · obtain ⟨b, rfl, k⟩ := h
    refine ⟨_, pss_cons (ps_if (pt_cmpR op_le (pv 0) pe_int (nomark _)) (pss_one (ps_ret (pe_op op_sub (pe_ci cS) (pv 0)))) pss_nil) (pss_one (ps_ret (pv 0))), ?_⟩
    unfold bitsUpper at k
    refine q_when (et_test (ev_op (ev_var rfl) ev_c rv_I0)) (fun c H1 e => ?_) (fun c H1 e => ?_)
    · rw [if_pos (of_decide_eq_true c)] at k
      exact s_ret (ev_op ev_c (ev_var rfl) rv_I0) fun H2 e2 => k.go (e.trans e2)
    · rw [if_neg (of_decide_eq_false c)] at k
      exact s_ret (ev_var rfl) fun H2 e2 => k.go (e.trans e2)
def sp_sign : Sp := fun vs H Q _ => ∃ b : Int, vs = [.int b] ∧ RetV (.int b.sign) H Q
theorem sv_sign {b : Int} {H : Hp} : SpV sp_sign [.int b] H (.int b.sign) := fun _ _ _ q _ => ⟨b, rfl, q⟩
theorem sc_sign : FnScope ["number"] ["number"] (defScope s_sign) := ⟨rfl, rfl, rfl, by decide +kernel, rfl, by decide +kernel, by decide +kernel⟩
theorem ok_sign {f : Addr} {fd : FuncData} (F : Fun K "sign" "sign" s_sign f fd) : FnOk P w K mg base CX0 1 f fd ["number"] sp_sign := by
  refine F.ok sc_sign (fun vs H Q E h => ?_) (fun cdv A outer s H vs Q E hr h => ?_)
  · obtain ⟨b, rfl, _⟩ := h
    rfl
  · obtain ⟨b, rfl, k⟩ := h
    refine ⟨_, pss_cons (ps_if (pt_cmpR op_gt (pv 0) pe_int (nomark _)) (pss_one (ps_ret pe_int)) pss_nil)
      (pss_cons (ps_if (pt_cmpR op_lt (pv 0) pe_int (nomark _)) (pss_one (ps_ret (pe_un un_neg pe_int))) pss_nil) (pss_one (ps_ret pe_int))), ?_⟩
    refine q_when (et_test (ev_op (ev_var rfl) ev_c rv_I0)) (fun c H1 e => ?_) (fun c H1 e => ?_)
    · rw [Int.sign_eq_one_of_pos (of_decide_eq_true c)] at k
      exact s_ret ev_c fun H2 e2 => k.go (e.trans e2)
    · refine q_when (et_test (ev_op (ev_var rfl) ev_c rv_I0)) (fun c2 H2 e2 => ?_) (fun c2 H2 e2 => ?_)
      · rw [Int.sign_eq_neg_one_of_neg (of_decide_eq_true c2)] at k
        exact s_ret (ev_neg ev_c) fun H3 e3 => k.go ((e.trans e2).trans e3)
      · have c := of_decide_eq_false c
        have c2 := of_decide_eq_false c2
        have e0 : b = 0 := by omega
        subst e0
        exact s_ret ev_c fun H3 e3 => k.go ((e.trans e2).trans e3)

/-! what is refused -/
def sp_all_finite (K : PySem.W.Frag) : Sp := fun vs H Q _ => ∃ (a : Addr) (ns : List Int), vs = [.ref a] ∧ IL K H a ns ∧ ns.length ≤ 40000 ∧ RetV (.bl (ns.all isFin)) H Q
theorem sv_all_finite {a : Addr} {ns : List Int} {H : Hp} (h1 : IL K H a ns) (h2 : ns.length ≤ 40000) : SpV (sp_all_finite K) [.ref a] H (.bl (ns.all isFin)) := fun _ e _ q _ => ⟨a, ns, rfl, ex_l e h1, h2, q⟩
theorem sc_all_finite : FnScope ["numbers", "bits"] ["numbers"] (defScope s_all_finite) := ⟨rfl, rfl, rfl, by decide +kernel, rfl, by decide +kernel, by decide +kernel⟩
theorem ok_all_finite {f : Addr} {fd : FuncData} (F : Fun K "all_finite" "all_finite" s_all_finite f fd) (h1 : Has P w K mg base 1 "is_finite" ["bits"] sp_is_finite) (bA : mg "all" = none) : FnOk P w K mg base CX0 2 f fd ["numbers"] (sp_all_finite K) := by
  refine F.ok sc_all_finite (fun vs H Q E h => ?_) (fun cdv A outer s H vs Q E hr h => ?_)
  · obtain ⟨a, ns, rfl, _⟩ := h
    rfl
  · obtain ⟨a, ns, rfl, hS, hl, k⟩ := h
    refine ⟨_, pss_one (ps_ret (pe_callB (cr_all rfl) (by rfl) bA (by decide +kernel) (pa_cons (pe_lc (own := [("bits", 1)]) (g := gName 1) (tt := tYes) rfl sc_all_finite.nd (pi_list (pv 0)) (blkOk_by (own := [("bits", 1)]) (N := ["numbers", "bits"]) (sc := defScope s_all_finite) (by decide +kernel))
      (fun _ _ _ _ _ => pg_name (i := 1) sc_all_finite.nd rfl (Or.inl rfl)) (fun _ _ _ _ _ => pts_nil) (fun _ _ _ _ _ => pe_callH h1 hr (pa_cons (pv 1) pa_nil))) pa_nil))), ?_⟩
    have e0 : ns.all isFin = (ns.map isFin).all id := by rw [List.all_map]; rfl
    rw [e0] at k
    have el := el_ints (V.bl ∘ isFin) (j := 1) (te := tCall sp_is_finite [] E0 (tCons (tVar 1) tNil)) (vs := [1]) (tl := tVar 0) (σ := start ["numbers", "bits"] [.ref a]) (ev_var rfl) hS hl (fun x => rfl) fun n hm H1 e => ev_call (ea_cons (ev_var rfl) ea_nil) sv_is_finite
    rw [← List.map_map] at el
    exact s_ret (ev_cbL el fun p H1 e hp => rc_all (sq_of hp)) fun H1 e => k.go e
/-! classes: in common -/
theorem lk_here {k : Str} {v : V} {r : List (Str × V)} : List.lookup k ((k, v) :: r) = some v := by
  have e : (k == k) = true := beq_self_eq_true k
  simp only [List.lookup, e]
theorem lk_past {k g : Str} {v : V} {r : List (Str × V)} (h : (k == g) = false) : List.lookup k ((g, v) :: r) = List.lookup k r := by
  simp only [List.lookup, h]
theorem put_past {f g : Str} {v x : V} {r : List (Str × V)} (h : ¬ g = f) : putF f v ((g, x) :: r) = (g, x) :: putF f v r := if_neg h
theorem pow_up {n k : Nat} (h : n < 2 ^ k) (hk : k ≤ 100000) : n < 2 ^ 100000 := Nat.lt_of_lt_of_le h (Nat.pow_le_pow_right (by decide) hk)
def sp_side (N : Hp → Addr → Side → Prop) : Sp := fun vs H Q _ => ∃ (a : Addr) (m : Int) (s : Nat) (sd : Side), vs = [.ref a, .int m, .int (s : Int)] ∧ N H a sd ∧ m.natAbs < 2 ^ 55 ∧ s ≤ 2048 ∧ RetV (.int (sd m s)) H Q
theorem sign_abs (b : Int) : b.sign.natAbs < 2 ^ 1 := by
  rcases Int.lt_trichotomy b 0 with h | h | h
  · rw [Int.sign_eq_neg_one_of_neg h]; decide
  · rw [h]; decide
  · rw [Int.sign_eq_one_of_pos h]; decide
/-! rounding -/
structure NumOk (P : Program) (w : World) (K : PySem.W.Frag) (mg : Str → Option Value) (base : Heap) (C : Addr) (N : Hp → Addr → Side → Prop) (kS : Nat) (pl : Prop) : Prop where
  cl : Cls K C
  meth : ∃ (f : Addr) (fd : FuncData), Meth K C "side" f ∧ FnOk P w K mg base CX0 kS f fd ["self", "m", "s"] (sp_side N) ∧ Binds K fd ["self", "m", "s"] []
  st : ∀ {H H' : Hp} {a : Addr} {sd : Side}, Ex H H' → N H a sd → N H' a sd
  ins : ∀ {H : Hp} {a : Addr} {sd : Side}, N H a sd → ∃ dx fs, H a = some (.ins C dx fs) ∧ fs.lookup ("side" : Str) = none
section
variable {C : Addr} {N : Hp → Addr → Side → Prop}
theorem ev_side {kS : Nat} {pl : Prop} {σ : L2.St} {H : Hp} {ta : TE} {t : TA} {a : Addr} {sd : Side} {m : Int} {s : Nat} (T : NumOk P w K mg base C N kS pl) (ho : Ev ta σ H (.ref a)) (ha : EvA t σ H [.int m, .int (s : Int)]) (hN : N H a sd) (hm : m.natAbs < 2 ^ 55) (hs : s ≤ 2048) :
    Ev (tMeth C "side" (sp_side N) [] E0 ta t) σ H (.int (sd m s)) := fun H1 e Q q => ho H1 e _ fun H2 e2 => by
  obtain ⟨dx, fs, h1, h2⟩ := T.ins (T.st (e.trans e2) hN)
  exact ⟨a, dx, fs, rfl, h1, h2, ha H2 (e.trans e2) _ fun H3 e3 => ⟨a, m, s, sd, rfl, T.st ((e.trans e2).trans e3) hN, hm, hs, fun H4 e4 => q H4 ((e2.trans e3).trans e4)⟩⟩
theorem nbr_in (sd : Side) : ∀ (f : Nat) (lo hi : Int), lo < hi → lo ≤ (nbr sd f lo hi).1 ∧ (nbr sd f lo hi).1 < hi
  | 0, lo, hi, h => ⟨Int.le_refl _, h⟩
  | f + 1, lo, hi, h => by
    unfold nbr
    by_cases c : hi - lo > 1
    · rw [if_pos c]
      dsimp only
      generalize hp : (lo + hi) / 2 = p
      split
      · exact ⟨by show lo ≤ p; omega, by show p < hi; omega⟩
      · split
        · have := nbr_in sd f lo p (by omega)
          omega
        · have := nbr_in sd f p hi (by omega)
          omega
    · rw [if_neg c]
      exact ⟨Int.le_refl _, h⟩
theorem nbr_end (sd : Side) (f : Nat) {lo hi : Int} (h : ¬ hi - lo > 1) : nbr sd f lo hi = (lo, hi) := by
  cases f with
  | zero => rfl
  | succ f => unfold nbr; rw [if_neg h]
def sp_neighbours (N : Hp → Addr → Side → Prop) : Sp := fun vs H Q _ => ∃ (a : Addr) (sd : Side), vs = [.ref a] ∧ N H a sd ∧ RetU [.int (neighbours sd).1, .int (neighbours sd).2] H Q
theorem sc_neighbours : FnScope ["number", "low", "high", "place", "m", "s", "side"] ["number"] (defScope s_neighbours) := ⟨rfl, rfl, rfl, by decide +kernel, rfl, by decide +kernel, by decide +kernel⟩
theorem ok_neighbours {f : Addr} {fd : FuncData} (F : Fun K "neighbours" "neighbours" s_neighbours f fd) (T : NumOk P w K mg base C N 8 True) (h1 : Has P w K mg base 1 "point_at" ["place"] sp_point_at) (cI : CI mg "INFINITE" INF) : FnOk P w K mg base CX0 9 f fd ["number"] (sp_neighbours N) := by
  obtain ⟨fS, fdS, mS, FS, bS⟩ := T.meth
  refine F.ok sc_neighbours (fun vs H Q E h => ?_) (fun cdv A outer s H vs Q E hr h => ?_)
  · obtain ⟨a, sd, rfl, _⟩ := h
    rfl
  · obtain ⟨a, sd, rfl, hN, k⟩ := h
    refine ⟨_, pss_cons (ps_set (i := 1) sc_neighbours.nd rfl (.inl rfl) (pe_un un_neg (pe_ci cI)))
      (pss_cons (ps_set (i := 2) sc_neighbours.nd rfl (.inl rfl) (pe_ci cI))
      (pss_cons (ps_while PassesOwn.never (pt_cmpR op_gt (pe_op op_sub (pv 2) (pv 1)) pe_int (nomark _))
        (pss_cons (ps_set (i := 3) sc_neighbours.nd rfl (.inl rfl) (pe_op op_fdiv (pe_op op_add (pv 1) (pv 2)) pe_int))
        (pss_cons (ps_asg (pe_callH h1 hr (pa_cons (pv 3) pa_nil)) (pg_tup (by rfl) (pgs_cons (pg_name (i := 4) sc_neighbours.nd rfl (.inl rfl)) (pgs_cons (pg_name (i := 5) sc_neighbours.nd rfl (.inl rfl)) pgs_nil))))
        (pss_cons (ps_set (i := 6) sc_neighbours.nd rfl (.inl rfl) (pe_meth (pv 0) T.cl mS FS hr bS .nil pass0 (pa_cons (pv 4) (pa_cons (pv 5) pa_nil))))
        (pss_cons (ps_if (pt_cmpR op_eq (pv 6) pe_int (nomark _)) (pss_one (ps_ret (pe_tup (pa_cons (pv 3) (pa_cons (pv 3) pa_nil))))) pss_nil)
        (pss_one (ps_if (pt_cmpR op_lt (pv 6) pe_int (nomark _)) (pss_one (ps_set (i := 2) sc_neighbours.nd rfl (.inl rfl) (pv 3))) (pss_one (ps_set (i := 1) sc_neighbours.nd rfl (.inl rfl) (pv 3))))))))))
      (pss_one (ps_ret (pe_tup (pa_cons (pv 1) (pa_cons (pv 2) pa_nil))))))), ?_⟩
    refine q_asg (ev_neg ev_c) fun H1 e1 => q_asg ev_c fun H2 e2 => ?_
    refine q_while (fun m σ' H' => ∃ (lo hi : Int) (v3 v4 v5 v6 : Option V), σ' = [some (.ref a), some (.int lo), some (.int hi), v3, v4, v5, v6] ∧ Ex H H' ∧ -INF ≤ lo ∧ hi ≤ INF ∧ lo < hi ∧ hi - lo ≤ 2 ^ m ∧ nbr sd m lo hi = neighbours sd) 66
      ⟨-INF, INF, none, none, none, none, rfl, e1.trans e2, Int.le_refl _, Int.le_refl _, by decide, by decide, rfl⟩ ?_
    rintro m σ' H' ⟨lo, hi, v3, v4, v5, v6, rfl, e3, b1, b2, b3, b4, b5⟩
    refine ⟨_, et_test (ev_op (ev_sub (ev_var rfl) (ev_var rfl)) ev_c rv_I0), fun c H4 e4 => ?_, fun c H4 e4 => ?_⟩
    · have c := of_decide_eq_true c
      obtain ⟨m', rfl⟩ : ∃ m', m = m' + 1 := by
        cases m with
        | zero =>
          have : hi - lo ≤ 1 := b4
          omega
        | succ m' => exact ⟨m', rfl⟩
      have hp2 : (2 : Int) ^ (m' + 1) = 2 ^ m' * 2 := Int.pow_succ ..
      rw [hp2] at b4
      unfold nbr at b5
      rw [if_pos c] at b5
      dsimp only at b5
      refine ⟨fun σ2 H2 => ∃ (lo hi : Int) (v3 v4 v5 v6 : Option V), σ2 = [some (.ref a), some (.int lo), some (.int hi), v3, v4, v5, v6] ∧ Ex H H2 ∧ -INF ≤ lo ∧ hi ≤ INF ∧ lo < hi ∧ hi - lo ≤ 2 ^ m' ∧ nbr sd m' lo hi = neighbours sd, fun σ2 H2 h => ⟨m', Nat.lt_succ_self _, h⟩, ?_⟩
      refine q_asg (ev_op (ev_add (ev_var rfl) (ev_var rfl)) ev_c (rv_I ⟨by decide, by decide⟩)) fun H5 e5 => ?_
      generalize hpl : (lo + hi) / 2 = pl at b5 ⊢
      have hb1 : lo < pl := by omega
      have hb2 : pl < hi := by omega
      have hpa : pl.natAbs < 9223372036854775809 := by unfold INF at b1 b2; omega
      refine q_unp (eu_call (ea_cons (ev_var rfl) ea_nil) su_point_at) fun H6 e6 => ?_
      have e06 : Ex H H6 := ((e3.trans e4).trans e5).trans e6
      refine q_asg (ev_side T (ev_var rfl) (ea_cons (ev_var rfl) (ea_cons (ev_var rfl) ea_nil)) (T.st e06 hN) (Nat.lt_trans (natAbs_pA pl) (by decide)) (pS_le hpa)) fun H7 e7 => ?_
      generalize ht : sd (pM pl) (pS pl) = t at b5 ⊢
      refine q_when (et_test (ev_op (ev_var rfl) ev_c (rv_eq rfl))) (fun c2 H8 e8 => ?_) (fun c2 H8 e8 => ?_)
      · have c2 : t = 0 := by simpa using c2
        rw [if_pos c2] at b5
        rw [← b5] at k
        exact s_retU (eu_tup (ea_cons (ev_var rfl) (ea_cons (ev_var rfl) ea_nil)) len2) fun p H9 hp e9 h9 => k.go ((e06.trans e7).trans e8) hp e9 h9
      · have c2 : ¬ t = 0 := by simpa using c2
        rw [if_neg c2] at b5
        refine s_if (et_test (ev_op (ev_var rfl) ev_c rv_I0)) (fun c3 H9 e9 => ?_) (fun c3 H9 e9 => ?_)
        · rw [if_pos (of_decide_eq_true c3)] at b5
          exact s_asg (ev_var rfl) fun H10 e10 => ⟨lo, pl, _, _, _, _, rfl, (((e06.trans e7).trans e8).trans e9).trans e10, b1, by omega, hb1, by omega, b5⟩
        · rw [if_neg (of_decide_eq_false c3)] at b5
          exact s_asg (ev_var rfl) fun H10 e10 => ⟨pl, hi, _, _, _, _, rfl, (((e06.trans e7).trans e8).trans e9).trans e10, by omega, b2, hb2, by omega, b5⟩
    · have c := of_decide_eq_false c
      rw [nbr_end sd m (by omega)] at b5
      rw [← b5] at k
      exact s_retU (eu_tup (ea_cons (ev_var rfl) (ea_cons (ev_var rfl) ea_nil)) len2) fun p H9 hp e9 h9 => k.go (e3.trans e4) hp e9 h9
def sp_goes_up (N : Hp → Addr → Side → Prop) : Sp := fun vs H Q _ => ∃ (mode : Int) (a : Addr) (lo : Int) (sd : Side), vs = [.int mode, .ref a, .int lo] ∧ N H a sd ∧ -INF ≤ lo ∧ lo < INF ∧ RetV (.bl (goesUp mode sd lo)) H Q
theorem sc_goes_up : FnScope ["mode", "number", "low", "m", "s", "side"] ["mode", "number", "low"] (defScope s_goes_up) := ⟨rfl, rfl, rfl, by decide +kernel, rfl, by decide +kernel, by decide +kernel⟩
theorem ok_goes_up {f : Addr} {fd : FuncData} (F : Fun K "goes_up" "goes_up" s_goes_up f fd) (T : NumOk P w K mg base C N 8 True) (h1 : Has P w K mg base 2 "middle_above" ["place"] sp_middle_above) : FnOk P w K mg base CX0 9 f fd ["mode", "number", "low"] (sp_goes_up N) := by
  obtain ⟨fS, fdS, mS, FS, bS⟩ := T.meth
  refine F.ok sc_goes_up (fun vs H Q E h => ?_) (fun cdv A outer s H vs Q E hr h => ?_)
  · obtain ⟨mode, a, lo, sd, rfl, _⟩ := h
    rfl
  · obtain ⟨mode, a, lo, sd, rfl, hN, b1, b2, k⟩ := h
    refine ⟨_, pss_cons (ps_if (pt_cmpR op_eq (pv 0) pe_int (nomark _)) (pss_one (ps_ret pe_bl)) pss_nil)
      (pss_cons (ps_if (pt_cmpR op_eq (pv 0) pe_int (nomark _)) (pss_one (ps_ret pe_bl)) pss_nil)
      (pss_cons (ps_if (pt_cmpR op_eq (pv 0) pe_int (nomark _)) (pss_one (ps_ret (pe_cmp (pc_lt (pv 2) pe_int) rfl))) pss_nil)
      (pss_cons (ps_asg (pe_callH h1 hr (pa_cons (pv 2) pa_nil)) (pg_tup (by rfl) (pgs_cons (pg_name (i := 3) sc_goes_up.nd rfl (.inl rfl)) (pgs_cons (pg_name (i := 4) sc_goes_up.nd rfl (.inl rfl)) pgs_nil))))
      (pss_cons (ps_set (i := 5) sc_goes_up.nd rfl (.inl rfl) (pe_meth (pv 1) T.cl mS FS hr bS .nil pass0 (pa_cons (pv 3) (pa_cons (pv 4) pa_nil))))
      (pss_cons (ps_if (pt_cmpR op_eq (pv 5) pe_int (nomark _)) (pss_one (ps_ret (pe_cmp (pc_eqI (pe_op op_mod (pv 2) pe_int) pe_int) rfl))) pss_nil)
      (pss_one (ps_ret (pe_cmp (pc_gt (pv 5) pe_int) rfl)))))))), ?_⟩
    unfold goesUp at k
    refine q_when (et_test (ev_op (ev_var rfl) ev_c (rv_eq rfl))) (fun c H1 e1 => ?_) (fun c H1 e1 => ?_)
    · have c : mode = 1 := by simpa using c
      rw [if_pos c] at k
      exact s_ret ev_c fun H2 e2 => k.go (e1.trans e2)
    have c : ¬ mode = 1 := by simpa using c
    rw [if_neg c] at k
    refine q_when (et_test (ev_op (ev_var rfl) ev_c (rv_eq rfl))) (fun c2 H2 e2 => ?_) (fun c2 H2 e2 => ?_)
    · have c2 : mode = 2 := by simpa using c2
      rw [if_pos c2] at k
      exact s_ret ev_c fun H3 e3 => k.go ((e1.trans e2).trans e3)
    have c2 : ¬ mode = 2 := by simpa using c2
    rw [if_neg c2] at k
    refine q_when (et_test (ev_op (ev_var rfl) ev_c (rv_eq rfl))) (fun c3 H3 e3 => ?_) (fun c3 H3 e3 => ?_)
    · have c3 : mode = 3 := by simpa using c3
      rw [if_pos c3] at k
      exact s_ret (ev_cmp (ev_var rfl) ev_c) fun H4 e4 => k.go (((e1.trans e2).trans e3).trans e4)
    have c3 : ¬ mode = 3 := by simpa using c3
    rw [if_neg c3] at k
    refine q_unp (eu_call (ea_cons (ev_var rfl) ea_nil) su_middle_above) fun H4 e4 => ?_
    have e04 : Ex H H4 := ((e1.trans e2).trans e3).trans e4
    have hm : (midM lo).natAbs < 2 ^ 55 := by
      have h1 := natAbs_pA lo
      have h2 := natAbs_pA (lo + 1)
      unfold midM
      split <;> omega
    have hs : midS lo ≤ 2048 := by
      unfold INF at b1 b2
      unfold midS
      split
      · have := pS_le (pl := lo) (by omega)
        omega
      · have := pS_le (pl := lo + 1) (by omega)
        omega
    refine q_asg (ev_side T (ev_var rfl) (ea_cons (ev_var rfl) (ea_cons (ev_var rfl) ea_nil)) (T.st e04 hN) hm hs) fun H5 e5 => ?_
    generalize sd (midM lo) (midS lo) = t at k ⊢
    refine q_when (et_test (ev_op (ev_var rfl) ev_c (rv_eq rfl))) (fun c6 H6 e6 => ?_) (fun c6 H6 e6 => ?_)
    · have c6 : t = 0 := by simpa using c6
      rw [if_pos c6] at k
      exact s_ret (ev_cmp (ev_op (ev_var rfl) ev_c (rv_I (by decide))) ev_c) fun H7 e7 => k.go (((e04.trans e5).trans e6).trans e7)
    · have c6 : ¬ t = 0 := by simpa using c6
      rw [if_neg c6] at k
      exact s_ret (ev_cmp (ev_var rfl) ev_c) fun H7 e7 => k.go (((e04.trans e5).trans e6).trans e7)
def sp_rounded (N : Hp → Addr → Side → Prop) : Sp := fun vs H Q _ => ∃ (mode : Int) (a : Addr) (sd : Side), vs = [.int mode, .ref a] ∧ N H a sd ∧ RetL ((rounded mode sd).map V.int) H Q
theorem sc_rounded : FnScope ["mode", "number", "low", "high"] ["mode", "number"] (defScope s_rounded) := ⟨rfl, rfl, rfl, by decide +kernel, rfl, by decide +kernel, by decide +kernel⟩
theorem ok_rounded {f : Addr} {fd : FuncData} (F : Fun K "rounded" "rounded" s_rounded f fd) (T : NumOk P w K mg base C N 8 True) (h1 : Has P w K mg base 9 "neighbours" ["number"] (sp_neighbours N)) (h2 : Has P w K mg base 9 "goes_up" ["mode", "number", "low"] (sp_goes_up N))
    (h3 : Has P w K mg base 1 "bits_of_lower" ["place"] sp_bits_of_lower) (h4 : Has P w K mg base 1 "bits_of_upper" ["place"] sp_bits_of_upper) : FnOk P w K mg base CX0 10 f fd ["mode", "number"] (sp_rounded N) := by
  refine F.ok sc_rounded (fun vs H Q E h => ?_) (fun cdv A outer s H vs Q E hr h => ?_)
  · obtain ⟨mode, a, sd, rfl, _⟩ := h
    rfl
  · obtain ⟨mode, a, sd, rfl, hN, k⟩ := h
    refine ⟨_, pss_cons (ps_asg (pe_callH h1 hr (pa_cons (pv 1) pa_nil)) (pg_tup (by rfl) (pgs_cons (pg_name (i := 2) sc_rounded.nd rfl (.inl rfl)) (pgs_cons (pg_name (i := 3) sc_rounded.nd rfl (.inl rfl)) pgs_nil))))
      (pss_cons (ps_if (pt_cmpR op_eq (pv 2) (pv 3) (nomark _)) (pss_one (ps_ret (pe_lst (pa_cons (pe_callH h3 hr (pa_cons (pv 2) pa_nil)) (pa_cons pe_int pa_nil))))) pss_nil)
      (pss_cons (ps_if (pt_val (pe_callH h2 hr (pa_cons (pv 0) (pa_cons (pv 1) (pa_cons (pv 2) pa_nil))))) (pss_one (ps_ret (pe_lst (pa_cons (pe_callH h4 hr (pa_cons (pv 3) pa_nil)) (pa_cons pe_int pa_nil))))) pss_nil)
      (pss_one (ps_ret (pe_lst (pa_cons (pe_callH h3 hr (pa_cons (pv 2) pa_nil)) (pa_cons pe_int pa_nil))))))), ?_⟩
    have hin : -INF ≤ (neighbours sd).1 ∧ (neighbours sd).1 < INF := nbr_in sd 66 (-INF) INF (by decide)
    unfold rounded at k
    dsimp only at k
    refine q_unp (eu_call (vs := [.ref a]) (xs := [.int (neighbours sd).1, .int (neighbours sd).2]) (ea_cons (ev_var rfl) ea_nil) fun H1 e _ q _ => ⟨a, sd, rfl, T.st e hN, q⟩) fun H1 e1 => ?_
    generalize neighbours sd = n at k hin ⊢
    refine q_when (et_test (ev_op (ev_var rfl) (ev_var rfl) (rv_eq rfl))) (fun c2 H2 e2 => ?_) (fun c2 H2 e2 => ?_)
    · have c2 : n.1 = n.2 := by simpa using c2
      rw [if_pos c2] at k
      exact s_retL (el_lst (ea_cons (ev_call (ea_cons (ev_var rfl) ea_nil) sv_bits_of_lower) (ea_cons ev_c ea_nil)) len2) fun p H3 hp e3 h3 => k.go (e1.trans e2) hp e3 h3
    have c2 : ¬ n.1 = n.2 := by simpa using c2
    rw [if_neg c2] at k
    refine q_when (et_B (ev_call (vs := [.int mode, .ref a, .int n.1]) (z := .bl (goesUp mode sd n.1)) (ea_cons (ev_var rfl) (ea_cons (ev_var rfl) (ea_cons (ev_var rfl) ea_nil))) fun H1' e _ q _ => ⟨mode, a, n.1, sd, rfl, T.st ((e1.trans e2).trans e) hN, hin.1, hin.2, q⟩)) (fun c3 H3 e3 => ?_) (fun c3 H3 e3 => ?_)
    · rw [if_pos c3] at k
      exact s_retL (el_lst (ea_cons (ev_call (ea_cons (ev_var rfl) ea_nil) sv_bits_of_upper) (ea_cons ev_c ea_nil)) len2) fun p H4 hp e4 h4 => k.go ((e1.trans e2).trans e3) hp e4 h4
    · rw [if_neg (by rw [c3]; decide)] at k
      exact s_retL (el_lst (ea_cons (ev_call (ea_cons (ev_var rfl) ea_nil) sv_bits_of_lower) (ea_cons ev_c ea_nil)) len2) fun p H4 hp e4 h4 => k.go ((e1.trans e2).trans e3) hp e4 h4
theorem rounded_len (mode : Int) (sd : Side) : (rounded mode sd).length = 2 := by
  unfold rounded
  dsimp only
  split
  · rfl
  · split <;> rfl
theorem answer_len (mode : Int) (l : List Side) : (answer mode l).length = 1 + 2 * l.length := by
  rw [answer_eq]
  have : ∀ l : List Side, (l.flatMap (rounded mode)).length = 2 * l.length := by
    intro l
    induction l with
    | nil => rfl
    | cons x r ih => rw [List.flatMap_cons, List.length_append, ih, rounded_len, List.length_cons]; omega
  rw [List.length_cons, this]
  omega
theorem take_snoc {α : Type} : ∀ {l : List α} {i : Nat} {x : α}, l[i]? = some x → l.take (i + 1) = l.take i ++ [x]
  | [], i, x, h => by simp at h
  | a :: l, 0, x, h => by
    have e : a = x := Option.some.inj h
    subst e
    rfl
  | a :: l, i + 1, x, h => by
    have ih := take_snoc (l := l) (i := i) (x := x) h
    show a :: l.take (i + 1) = a :: l.take i ++ [x]
    rw [ih]
    rfl
theorem answer_snoc (mode : Int) (l : List Side) (sd : Side) : answer mode (l ++ [sd]) = answer mode l ++ rounded mode sd := by
  unfold answer
  rw [List.foldl_append]
  rfl
/-- the list at l holds the numbers sds -/
def NumsAt (K : PySem.W.Frag) (N : Hp → Addr → Side → Prop) (H : Hp) (l : Addr) (sds : List Side) : Prop := ∃ as : List Addr, SqL K H l (as.map V.ref) ∧ as.length = sds.length ∧ ∀ (i : Nat) (a : Addr) (sd : Side), as[i]? = some a → sds[i]? = some sd → N H a sd
def sp_answer (K : PySem.W.Frag) (N : Hp → Addr → Side → Prop) : Sp := fun vs H Q _ => ∃ (mode : Int) (l : Addr) (sds : List Side), vs = [.int mode, .ref l] ∧ NumsAt K N H l sds ∧ sds.length ≤ 1000 ∧ RetL ((answer mode sds).map V.int) H Q
theorem sc_answer : FnScope ["mode", "numbers", "told", "number"] ["mode", "numbers"] (defScope s_answer) := ⟨rfl, rfl, rfl, by decide +kernel, rfl, by decide +kernel, by decide +kernel⟩
theorem ok_answer {f : Addr} {fd : FuncData} (F : Fun K "answer" "answer" s_answer f fd) (T : NumOk P w K mg base C N 8 True) (h1 : Has P w K mg base 10 "rounded" ["mode", "number"] (sp_rounded N)) : FnOk P w K mg base CX0 11 f fd ["mode", "numbers"] (sp_answer K N) := by
  refine F.ok sc_answer (fun vs H Q E h => ?_) (fun cdv A outer s H vs Q E hr h => ?_)
  · obtain ⟨mode, a, sds, rfl, _⟩ := h
    rfl
  · obtain ⟨mode, l, sds, rfl, ⟨as, hS, hl, hN⟩, hlen, k⟩ := h
    refine ⟨_, pss_cons (ps_set (i := 2) sc_answer.nd rfl (.inl rfl) (pe_lst (pa_cons pe_int pa_nil)))
      (pss_cons (ps_for PassesOwn.never rfl (pi_list (pv 1)) (pg_name (i := 3) sc_answer.nd rfl (Or.inl rfl))
        (pss_one (ps_expr (pe_bm PySem.F.plainAttrs_list PySem.F.slot_list_extend PySem.F.type_list_extend mt_extend (pv 2) (pa_cons (pe_callH h1 hr (pa_cons (pv 0) (pa_cons (pv 3) pa_nil))) pa_nil)))))
      (pss_one (ps_ret (pv 2)))), ?_⟩
    refine q_asgL (el_lst (ea_cons ev_c ea_nil) len1) fun q H1 hq e1 hq1 => ?_
    refine q_forL (ev_var rfl) (ex_l e1 hS) (fun i σ' H' => ∃ v : Option V, σ' = [some (.int mode), some (.ref l), some (.ref q), v] ∧ Ex H H' ∧ H' q = some (.lst ((answer mode (sds.take i)).map V.int)))
      (fun H2 e2 => ⟨none, rfl, e1.trans e2, e2 _ _ hq1⟩) (fun i σ' H' _ ⟨_, _, e, _⟩ => ex_l e hS) ?_ ?_
    · rintro i x σ' H' hi ⟨v, rfl, e, hq'⟩
      rw [List.getElem?_map] at hi
      obtain ⟨a, ha, rfl⟩ : ∃ a, as[i]? = some a ∧ x = V.ref a := by
        cases z : as[i]? with
        | none => rw [z] at hi; cases hi
        | some a => rw [z] at hi; exact ⟨a, rfl, (Option.some.inj hi).symm⟩
      obtain ⟨sd, hsd⟩ : ∃ sd, sds[i]? = some sd := by
        have := (List.getElem?_eq_some_iff.mp ha).1
        exact ⟨sds[i]'(by omega), List.getElem?_eq_getElem (by omega)⟩
      have hil := (List.getElem?_eq_some_iff.mp hsd).1
      refine s_ext hq' (ev_var rfl) (el_call (vs := [.int mode, .ref a]) (xs := (rounded mode sd).map V.int) (ea_cons (ev_var rfl) (ea_cons (ev_var rfl) ea_nil)) fun H1' e' _ q' _ => ⟨mode, a, sd, rfl, T.st (e.trans e') (hN i a sd ha hsd), q'⟩) ?_ fun H2 e2 => ?_
      · rw [List.length_map, List.length_map, answer_len, rounded_len, List.length_take]
        omega
      · refine ⟨_, rfl, Ex.mut (e.trans e2) hq, ?_⟩
        rw [upd_same, take_snoc hsd, answer_snoc, List.map_append]
    · rintro σ' H' ⟨v, rfl, e, hq'⟩
      rw [List.length_map, hl, List.take_length] at hq'
      exact s_ret (ev_var rfl) fun H2 e2 => k q H2 hq (e.trans e2) (e2 _ _ hq')
/-- an item of a list of numbers -/
def NumItem (N : Hp → Addr → Side → Prop) (sds : List Side) (i : Nat) : V → Hp → Prop := fun u G => ∃ a sd, u = .ref a ∧ sds[i]? = some sd ∧ N G a sd
theorem NumItem.st {kS : Nat} {pl : Prop} (T : NumOk P w K mg base C N kS pl) {sds : List Side} (i : Nat) : St1 (NumItem N sds i) := fun _ _ _ e ⟨a, sd, h1, h2, h3⟩ => ⟨a, sd, h1, h2, T.st e h3⟩
theorem nums_of {H : Hp} {p : Addr} {ys : List V} {sds : List Side} (h1 : H p = some (.lst ys)) (h2 : ys.length = sds.length) (h3 : ∀ i y, ys[i]? = some y → NumItem N sds i y H) : NumsAt K N H p sds := by
  let ad : V → Addr := fun v => match v with | .ref a => a | _ => 0
  have e : ys = (ys.map ad).map V.ref := by
    apply List.ext_getElem?
    intro i
    rw [List.getElem?_map, List.getElem?_map]
    cases q : ys[i]? with
    | none => rfl
    | some y =>
      obtain ⟨a, sd, rfl, _⟩ := h3 i y q
      rfl
  refine ⟨ys.map ad, by rw [← e]; exact sq_of h1, by rw [List.length_map, h2], fun i a sd ha hsd => ?_⟩
  rw [List.getElem?_map] at ha
  cases q : ys[i]? with
  | none => rw [q] at ha; cases ha
  | some y =>
    rw [q] at ha
    obtain ⟨a', sd', rfl, hs, hn⟩ := h3 i y q
    cases ha
    rw [hsd] at hs
    cases hs
    exact hn
theorem el_answer {kS : Nat} {pl : Prop} (T : NumOk P w K mg base C N kS pl) {σ : L2.St} {H : Hp} {ta te : TE} {mode : Int} {sds : List Side} (hm : Ev ta σ H (.int mode)) (h : EvLP te σ H sds.length (NumItem N sds)) (hl : sds.length ≤ 1000) :
    EvL (tCall (sp_answer K N) [] E0 (tCons ta (tCons te tNil))) σ H ((answer mode sds).map V.int) := fun H1 e Q q =>
  hm H1 e _ fun H2 e2 => h H2 (e.trans e2) _ fun p H3 ys hp e3 h3 hlen hi =>
    ⟨mode, p, sds, rfl, nums_of h3 hlen hi, hl, fun p' H4 hp' e4 h4 => q p' H4 (fresh_back (e2.trans e3) hp') ((e2.trans e3).trans e4) h4⟩
end

/-! sizes -/
def Big (n : Int) : Prop := n.natAbs < 2 ^ 50000
theorem big_up {n : Int} {k : Nat} (h : n.natAbs < 2 ^ k) (hk : k ≤ 50000) : Big n := Nat.lt_of_lt_of_le h (Nat.pow_le_pow_right (by decide) hk)
theorem unitsOf_lt {b : Int} (h : In64 b) : (unitsOf b).natAbs < 2 ^ 2101 := by
  unfold unitsOf unitsAt
  have h1 := natAbs_pA (placeOf b)
  have h2 := pS_le (placeOf_le h.1 h.2)
  rw [Int.natAbs_mul, Int.natAbs_pow]
  have h3 : Int.natAbs 2 ^ pS (placeOf b) ≤ 2 ^ 2048 := Nat.pow_le_pow_right (by decide) h2
  have e : (2 : Nat) ^ 2101 = 2 ^ 53 * 2 ^ 2048 := by rw [← Nat.pow_add]
  rw [e]
  exact Nat.lt_of_lt_of_le (Nat.mul_lt_mul_of_pos_right h1 (Nat.pow_pos (by decide))) (Nat.mul_le_mul_left _ h3)
theorem big_units {b : Int} (h : In64 b) : Big (unitsOf b) := big_up (unitsOf_lt h) (by decide)
theorem big_map {ns : List Int} (h : ∀ n ∈ ns, In64 n) : ∀ u ∈ ns.map unitsOf, Big u := fun u hu => by
  obtain ⟨b, hb, rfl⟩ := List.mem_map.mp hu
  exact big_units (h b hb)
theorem pow_abs {n k : Nat} (h : n < k) : (((2 ^ n : Int).natAbs : Nat) : Int).natAbs < 2 ^ k := by
  rw [Int.natAbs_natCast, Int.natAbs_pow]
  exact Nat.pow_lt_pow_right (by decide) h
def RectN (n : Nat) (rows : MatI) : Prop := ∀ r ∈ rows, r.length = n
def Small (b : Nat) (rows : MatI) : Prop := ∀ r ∈ rows, ∀ x ∈ r, x.natAbs < 2 ^ b
theorem rowsN_rect {u : List Int} {m n : Nat} : RectN n (rowsOf u m n) := fun r hr => by
  unfold rowsOf at hr
  obtain ⟨i, _, rfl⟩ := List.mem_map.mp hr
  rw [List.length_map, List.length_range]
theorem rowsN_bits {a : List Int} {m n : Nat} (ha : ∀ x ∈ a, In64 x) : Small 2101 (rowsOf (a.map unitsOf) m n) := fun r hr x hx => by
  unfold rowsOf at hr
  obtain ⟨i, _, rfl⟩ := List.mem_map.mp hr
  obtain ⟨j, _, rfl⟩ := List.mem_map.mp hx
  by_cases c : n * i + j < (a.map unitsOf).length
  · have hm : (a.map unitsOf).getD (n * i + j) 0 ∈ a.map unitsOf := by
      rw [List.getD_eq_getElem?_getD, List.getElem?_eq_getElem c]
      exact List.getElem_mem _
    obtain ⟨b, hb, e⟩ := List.mem_map.mp hm
    rw [← e]
    exact unitsOf_lt (ha b hb)
  · rw [List.getD_eq_getElem?_getD, List.getElem?_eq_none (by omega)]
    exact Nat.pow_pos (by decide)
theorem Small.up {b c : Nat} {rows : MatI} (h : Small b rows) (hb : b ≤ c) : Small c rows := fun r hr x hx => Nat.lt_of_lt_of_le (h r hr x hx) (Nat.pow_le_pow_right (by decide) hb)
theorem rowsN_small {a : List Int} {m n : Nat} (ha : ∀ x ∈ a, In64 x) : Small 20000 (rowsOf (a.map unitsOf) m n) := (rowsN_bits ha).up (by decide)
/-! sizes refused -/
def sp_bad_size : Sp := fun vs H Q _ => ∃ (n most : Int), vs = [.int n, .int most] ∧ RetV (.bl (badSize n most)) H Q
theorem sv_bad_size {n most : Int} {H : Hp} : SpV sp_bad_size [.int n, .int most] H (.bl (badSize n most)) := fun _ _ _ q _ => ⟨n, most, rfl, q⟩
theorem sc_bad_size : FnScope ["size", "most"] ["size", "most"] (defScope s_bad_size) := ⟨rfl, rfl, rfl, by decide +kernel, rfl, by decide +kernel, by decide +kernel⟩
theorem ok_bad_size {f : Addr} {fd : FuncData} (F : Fun K "bad_size" "bad_size" s_bad_size f fd) : FnOk P w K mg base CX0 1 f fd ["size", "most"] sp_bad_size := by
  refine F.ok sc_bad_size (fun vs H Q E h => ?_) (fun cdv A outer s H vs Q E hr h => ?_)
  · obtain ⟨n, most, rfl, _⟩ := h
    rfl
  · obtain ⟨n, most, rfl, k⟩ := h
    refine ⟨_, pss_one (ps_ret (pe_or (pe_cmpR op_lt (pv 0) pe_int (nomark _)) (pe_one (pe_cmpR op_gt (pv 0) (pv 1) (nomark _))))), ?_⟩
    exact s_ret (ev_orV (ev_op (ev_var rfl) ev_c rv_I0) fun _ => ev_op (ev_var rfl) (ev_var rfl) rv_I0) fun H1 e => k.go e
def sp_bad_matrix (K : PySem.W.Frag) : Sp := fun vs H Q _ => ∃ (m n most : Int) (a : Addr) (ns : List Int), vs = [.int m, .int n, .int most, .ref a] ∧ In64 m ∧ In64 n ∧ IL K H a ns ∧ ns.length ≤ 40000 ∧ RetV (.bl (badMatrix m n most ns)) H Q
theorem sv_bad_matrix {m n most : Int} {a : Addr} {ns : List Int} {H : Hp} (hm : In64 m) (hn : In64 n) (h1 : IL K H a ns) (h2 : ns.length ≤ 40000) : SpV (sp_bad_matrix K) [.int m, .int n, .int most, .ref a] H (.bl (badMatrix m n most ns)) := fun _ e _ q _ => ⟨m, n, most, a, ns, rfl, hm, hn, ex_l e h1, h2, q⟩
theorem sc_bad_matrix : FnScope ["m", "n", "most", "a"] ["m", "n", "most", "a"] (defScope s_bad_matrix) := ⟨rfl, rfl, rfl, by decide +kernel, rfl, by decide +kernel, by decide +kernel⟩
theorem dec_ne {i j : Int} : (!decide (V.int i = V.int j)) = !decide (i = j) := by
  by_cases c : i = j
  · rw [c]; simp
  · rw [decide_eq_false c]; simp [c]
theorem in64_lt {n : Int} (h : In64 n) : n.natAbs < 2 ^ 64 := by
  obtain ⟨h0, h1⟩ := h
  omega
theorem ok_bad_matrix {f : Addr} {fd : FuncData} (F : Fun K "bad_matrix" "bad_matrix" s_bad_matrix f fd) (h1 : Has P w K mg base 1 "bad_size" ["size", "most"] sp_bad_size) (h2 : Has P w K mg base 2 "all_finite" ["numbers"] (sp_all_finite K)) (bL : mg "len" = none) : FnOk P w K mg base CX0 3 f fd ["m", "n", "most", "a"] (sp_bad_matrix K) := by
  refine F.ok sc_bad_matrix (fun vs H Q E h => ?_) (fun cdv A outer s H vs Q E hr h => ?_)
  · obtain ⟨m, n, most, a, ns, rfl, _⟩ := h
    rfl
  · obtain ⟨m, n, most, a, ns, rfl, hm, hn, hS, hl, k⟩ := h
    refine ⟨_, pss_one (ps_ret (pe_or (pe_callH h1 hr (pa_cons (pv 0) (pa_cons (pv 2) pa_nil))) (pe_or (pe_callH h1 hr (pa_cons (pv 1) (pa_cons pe_int pa_nil))) (pe_or (pe_cmpR op_ne (pe_callB call_len_seq (by rfl) bL PySem.boot_len (pa_cons (pv 3) pa_nil)) (pe_op op_mulX (pv 0) (pv 1)) (nomark _)) (pe_one (pe_not (pe_callH h2 hr (pa_cons (pv 3) pa_nil)))))))), ?_⟩
    refine s_ret (ev_orV (ev_call (ea_cons (ev_var rfl) (ea_cons (ev_var rfl) ea_nil)) sv_bad_size) fun _ => ev_orV (ev_call (ea_cons (ev_var rfl) (ea_cons ev_c ea_nil)) sv_bad_size) fun _ => ev_orV (ev_op (ev_len (ev_var rfl) hS) (ev_mul (ev_var rfl) (ev_var rfl) (in64_lt hm) (in64_lt hn) (by decide)) (rv_ne rfl)) fun _ => ev_notV (ev_call (ea_cons (ev_var rfl) ea_nil) (sv_all_finite hS hl))) fun H1 e => ?_
    rw [dec_ne, List.length_map]
    exact k.go e
/-! rows -/
def sp_rows_of (K : PySem.W.Frag) : Sp := fun vs H Q _ => ∃ (a : Addr) (ns : List Int) (m n : Nat), vs = [.ref a, .int (n : Int)] ∧ IL K H a ns ∧ ns.length = m * n ∧ 1 ≤ n ∧ n ≤ 10 ∧ m ≤ 10 ∧ RetR K (rowsOf ns m n) H Q
theorem sr_rows_of {a : Addr} {ns : List Int} {m n : Nat} {H : Hp} (h1 : IL K H a ns) (h2 : ns.length = m * n) (h3 : 1 ≤ n) (h4 : n ≤ 10) (h5 : m ≤ 10) : SpR K (sp_rows_of K) [.ref a, .int (n : Int)] H (rowsOf ns m n) := fun _ e _ q _ => ⟨a, ns, m, n, rfl, ex_l e h1, h2, h3, h4, h5, q⟩
theorem sc_rows_of : FnScope ["a", "width", "at"] ["a", "width"] (defScope s_rows_of) := ⟨rfl, rfl, rfl, by decide +kernel, rfl, by decide +kernel, by decide +kernel⟩
theorem rgc_rows {m n : Nat} (h3 : 1 ≤ n) (h4 : n ≤ 10) (h5 : m ≤ 10) : RgC 0 ((m * n : Nat) : Int) (n : Int) m := by
  have hmn : m * n ≤ 100 := Nat.le_trans (Nat.mul_le_mul h5 h4) (by decide)
  have key : ∀ m' : Fin 11, ∀ n' : Fin 11, 1 ≤ n'.val → RgC 0 ((m'.val * n'.val : Nat) : Int) (n'.val : Int) m'.val := by
    intro m' n' hn
    refine ⟨by omega, by omega, ?_, ?_⟩
    · revert m' n'
      decide
    · revert m' n'
      decide
  exact key ⟨m, by omega⟩ ⟨n, by omega⟩ h3
theorem slice_row {ns : List Int} {m n i : Nat} (hl : ns.length = m * n) (hi : i < m) : (((ns.map V.int).drop (n * i)).take n) = ((List.range n).map fun j => ns.getD (n * i + j) 0).map V.int := by
  have hb : n * i + n ≤ ns.length := by
    rw [hl]
    have : n * (i + 1) ≤ n * m := Nat.mul_le_mul_left n hi
    rw [Nat.mul_comm m n]
    rw [Nat.mul_add] at this
    omega
  apply List.ext_getElem?
  intro j
  rw [List.getElem?_take, List.getElem?_map, List.getElem?_map, List.getElem?_drop, List.getElem?_map]
  by_cases hj : j < n
  · rw [if_pos hj, List.getElem?_range hj, List.getElem?_eq_getElem (show n * i + j < ns.length by omega)]
    show some (V.int _) = some (V.int (ns.getD (n * i + j) 0))
    rw [List.getD_eq_getElem?_getD, List.getElem?_eq_getElem (show n * i + j < ns.length by omega)]
    rfl
  · rw [if_neg hj, List.getElem?_eq_none (show (List.range n).length ≤ j by rw [List.length_range]; omega)]
    rfl
theorem ok_rows_of {f : Addr} {fd : FuncData} (F : Fun K "rows_of" "rows_of" s_rows_of f fd) (bR : mg "range" = none) (bL : mg "len" = none) : FnOk P w K mg base CX0 1 f fd ["a", "width"] (sp_rows_of K) := by
  refine F.ok sc_rows_of (fun vs H Q E h => ?_) (fun cdv A outer s H vs Q E hr h => ?_)
  · obtain ⟨a, ns, m, n, rfl, _⟩ := h
    rfl
  · obtain ⟨a, ns, m, n, rfl, hS, hl, h3, h4, h5, k⟩ := h
    refine ⟨_, pss_one (ps_ret (pe_lc (own := [("at", 2)]) (g := gName 2) (tt := tYes) rfl sc_rows_of.nd (pi_range3 (by rfl) bR (pa_cons pe_int (pa_cons (pe_callB call_len_seq (by rfl) bL PySem.boot_len (pa_cons (pv 0) pa_nil)) (pa_cons (pv 1) pa_nil)))) (blkOk_by (own := [("at", 2)]) (N := ["a", "width", "at"]) (sc := defScope s_rows_of) (by decide +kernel))
      (fun _ _ _ _ _ => pg_name (i := 2) sc_rows_of.nd rfl (Or.inl rfl)) (fun _ _ _ _ _ => pts_nil) (fun _ _ _ _ _ => pe_sliceL K (pv 0) (po_some (pv 2)) (po_some (pe_op op_add (pv 2) (pv 1)))))), ?_⟩
    have hrg := rgc_rows h3 h4 h5
    rw [← hl] at hrg
    refine s_retR (er_items (rows := rowsOf ns m n) (lp_rangeC (lo := 0) (hi := (ns.length : Int)) (c := (n : Int)) (n := m) (RowItem K (rowsOf ns m n)) RowItem.st (ea_cons ev_c (ea_cons (ev_is (ev_len (ev_var rfl) hS) (by rw [List.length_map])) (ea_cons (ev_var rfl) ea_nil))) hrg (by omega) (fun x => rfl) fun i H1 e hi => ?_) (by unfold rowsOf; rw [List.length_map, List.length_range])) fun p H1 hp e h => k p H1 hp e h
    have e1 : (0 : Int) + (i : Int) * (n : Int) = ((n * i : Nat) : Int) := by rw [Int.natCast_mul, Int.mul_comm]; omega
    have e2 : (0 : Int) + (i : Int) * (n : Int) + (n : Int) = ((n * i + n : Nat) : Int) := by rw [e1]; omega
    have hb : n * i + n ≤ (ns.map V.int).length := by
      rw [List.length_map, hl]
      have : n * (i + 1) ≤ n * m := Nat.mul_le_mul_left n hi
      rw [Nat.mul_comm m n]
      rw [Nat.mul_add] at this
      omega
    have el := el_sl (lo := some ((n * i : Nat) : Int)) (hi := some ((n * i + n : Nat) : Int)) (te := tVar 0) (tl := tPart (tVar 2)) (th := tPart (tOp (rI0 fun i j => .int (i + j)) (tVar 2) (tVar 1))) (σ := (wipe (start ["a", "width", "at"] [.ref a, .int (n : Int)]) [2]).set 2 (some (.int (0 + (i : Int) * (n : Int))))) (ev_var rfl) (eo_some (ev_is (ev_var rfl) (by rw [e1]))) (eo_some (ev_is (ev_add (ev_var rfl) (ev_var rfl)) (by rw [e2]))) (ex_l e hS)
    rw [cutV_mid (by omega) hb, show n * i + n - n * i = n by omega, slice_row hl hi] at el
    intro H2 e2 Q2 q2
    refine EvL.p el H2 e2 Q2 fun v H3 e3 hv => q2 v H3 e3 ?_
    obtain ⟨p, rfl, hp⟩ := hv
    refine ⟨p, (List.range n).map fun j => ns.getD (n * i + j) 0, rfl, ?_, sq_of hp⟩
    unfold rowsOf
    rw [List.getElem?_map, List.getElem?_range hi]
    rfl
theorem er_units {σ : L2.St} {H : Hp} {ta tb : TE} {l : Addr} {ns : List Int} {m n : Nat} (h1 : Ev ta σ H (.ref l)) (h2 : Ev tb σ H (.int (n : Int))) (hS : IL K H l ns) (hl : ns.length ≤ 40000) (hn : ∀ x ∈ ns, In64 x) (h : ns.length = m * n) (h3 : 1 ≤ n) (h4 : n ≤ 10) (h5 : m ≤ 10) :
    EvR K (tCall (sp_rows_of K) [] E0 (tCons (tCall (sp_all_units K) [] E0 (tCons ta tNil)) (tCons tb tNil))) σ H (rowsOf (ns.map unitsOf) m n) := fun H2 e2 Q2 q2 =>
  el_call (sp := sp_all_units K) (vs := [.ref l]) (xs := (ns.map unitsOf).map V.int) (ea_cons h1 ea_nil) (sl_all_units hS hl hn) H2 e2 _ fun p H3 _ e3 hp => h2 H3 (e2.trans e3) _ fun H3' e3' =>
    sr_rows_of (H := H3') (sq_of (e3' _ _ hp)) (by rw [List.length_map]; exact h) h3 h4 h5 H3' (Ex.refl H3') _ (fun p4 H4 hp4 e4 h4 => q2 p4 H4 (fresh_back (e3.trans e3') hp4) ((e3.trans e3').trans e4) h4) E0
theorem good_matrix {m n most : Int} {a : List Int} (hm : In64 m) (hn : In64 n) (hmost : most ≤ 6) (h : badMatrix m n most a = false) : ∃ m' n' : Nat, m = (m' : Int) ∧ n = (n' : Int) ∧ 1 ≤ m' ∧ (m' : Int) ≤ most ∧ 1 ≤ n' ∧ n' ≤ 4 ∧ a.length = m' * n' ∧ a.all isFin = true := by
  have hb : ∀ z : badSize m most = true ∨ badSize n 4 = true ∨ ¬ (a.length : Int) = m * n ∨ ¬ a.all isFin = true, False := fun z => by
    rw [badMatrix_iff.mpr z] at h
    exact Bool.noConfusion h
  have c1 : ¬ badSize m most = true := fun z => hb (.inl z)
  have c2 : ¬ badSize n 4 = true := fun z => hb (.inr (.inl z))
  have c3 : (a.length : Int) = m * n := Classical.byContradiction fun z => hb (.inr (.inr (.inl z)))
  have c4 : a.all isFin = true := Classical.byContradiction fun z => hb (.inr (.inr (.inr z)))
  unfold badSize at c1 c2
  simp only [Bool.or_eq_true, decide_eq_true_eq, not_or] at c1 c2
  refine ⟨m.toNat, n.toNat, by omega, by omega, by omega, by omega, by omega, by omega, ?_, c4⟩
  rw [show m * n = ((m.toNat * n.toNat : Nat) : Int) by rw [Int.natCast_mul]; congr 1 <;> omega] at c3
  omega

/-! determinants -/
def sp_signed : Sp := fun vs H Q _ => ∃ (p : Nat) (x : Int), vs = [.int (p : Int), .int x] ∧ RetV (.int (signedM p x)) H Q
theorem sv_signed {p : Nat} {x : Int} {H : Hp} : SpV sp_signed [.int (p : Int), .int x] H (.int (signedM p x)) := fun _ _ _ q _ => ⟨p, x, rfl, q⟩
theorem sc_signed : FnScope ["power", "number"] ["power", "number"] (defScope s_signed) := ⟨rfl, rfl, rfl, by decide +kernel, rfl, by decide +kernel, by decide +kernel⟩
theorem ok_signed {f : Addr} {fd : FuncData} (F : Fun K "signed" "signed" s_signed f fd) : FnOk P w K mg base CX0 1 f fd ["power", "number"] sp_signed := by
  refine F.ok sc_signed (fun vs H Q E h => ?_) (fun cdv A outer s H vs Q E hr h => ?_)
  · obtain ⟨p, x, rfl, _⟩ := h
    rfl
  · obtain ⟨p, x, rfl, k⟩ := h
    refine ⟨_, pss_cons (ps_if (pt_cmpR op_eq (pe_op op_mod (pv 0) pe_int) pe_int (nomark _)) (pss_one (ps_ret (pe_un un_neg (pv 1)))) pss_nil) (pss_one (ps_ret (pv 1))), ?_⟩
    unfold signedM at k
    refine q_when (et_test (ev_op (ev_op (ev_var rfl) ev_c (rv_I (by decide))) ev_c (rv_eq rfl))) (fun c H1 e => ?_) (fun c H1 e => ?_)
    · have c : ((p : Int) % 2) = 1 := by simpa using c
      rw [if_pos (by omega)] at k
      exact s_ret (ev_neg (ev_var rfl)) fun H2 e2 => k.go (e.trans e2)
    · have c : ¬ ((p : Int) % 2) = 1 := by simpa using c
      rw [if_neg (by omega)] at k
      exact s_ret (ev_var rfl) fun H2 e2 => k.go (e.trans e2)
def sp_minor (K : PySem.W.Frag) : Sp := fun vs H Q _ => ∃ (p : Addr) (rows : MatI) (i j n : Nat), vs = [.ref p, .int (i : Int), .int (j : Int)] ∧ RowsAt K H p rows ∧ rows.length ≤ 1000 ∧ RectN n rows ∧ n ≤ 1000 ∧ i < rows.length ∧ j < n ∧ RetR K (minorM rows i j) H Q
theorem sr_minor {p : Addr} {rows : MatI} {i j n : Nat} {H : Hp} (h1 : RowsAt K H p rows) (h2 : rows.length ≤ 1000) (h3 : RectN n rows) (h4 : n ≤ 1000) (h5 : i < rows.length) (h6 : j < n) : SpR K (sp_minor K) [.ref p, .int (i : Int), .int (j : Int)] H (minorM rows i j) := fun _ e _ q _ => ⟨p, rows, i, j, n, rfl, ex_rows e h1, h2, h3, h4, h5, h6, q⟩
theorem sc_minor : FnScope ["rows", "i", "j", "row"] ["rows", "i", "j"] (defScope s_minor) := ⟨rfl, rfl, rfl, by decide +kernel, rfl, by decide +kernel, by decide +kernel⟩
theorem map_erase {r : List Int} {j : Nat} : (r.map V.int).eraseIdx j = (r.eraseIdx j).map V.int := by
  induction r generalizing j with
  | nil => rfl
  | cons a r ih =>
    cases j with
    | zero => rfl
    | succ j => show V.int a :: (r.map V.int).eraseIdx j = V.int a :: (r.eraseIdx j).map V.int; rw [ih]
theorem ok_minor {f : Addr} {fd : FuncData} (F : Fun K "minor" "minor" s_minor f fd) : FnOk P w K mg base CX0 1 f fd ["rows", "i", "j"] (sp_minor K) := by
  refine F.ok sc_minor (fun vs H Q E h => ?_) (fun cdv A outer s H vs Q E hr h => ?_)
  · obtain ⟨p, rows, i, j, n, rfl, _⟩ := h
    rfl
  · obtain ⟨p, rows, i, j, n, rfl, ⟨as, a1, a2, a3⟩, hl, hn, hn2, hi, hj, k⟩ := h
    refine ⟨_, pss_one (ps_ret (pe_lc (own := [("row", 3)]) (g := gName 3) (tt := tYes) rfl sc_minor.nd
      (pi_list (pe_op op_cat (pe_slice sl_list (pv 0) po_none (po_some (pv 1))) (pe_slice sl_list (pv 0) (po_some (pe_op op_add (pv 1) pe_int)) po_none))) (blkOk_by (own := [("row", 3)]) (N := ["rows", "i", "j", "row"]) (sc := defScope s_minor) (by decide +kernel))
      (fun _ _ _ _ _ => pg_name (i := 3) sc_minor.nd rfl (Or.inl rfl)) (fun _ _ _ _ _ => pts_nil)
      (fun _ _ _ _ _ => pe_op op_cat (pe_sliceL K (pv 3) po_none (po_some (pv 2))) (pe_sliceL K (pv 3) (po_some (pe_op op_add (pv 2) pe_int)) po_none)))), ?_⟩
    have hc := el_erase (K := K) (ta := tVar 0) (tb := tVar 1) (tc := tVar 1) (σ := start ["rows", "i", "j", "row"] [.ref p, .int (i : Int), .int (j : Int)]) (k := i) (ev_var rfl) (ev_var rfl) (ev_var rfl) a1 (by rw [List.length_map]; omega) (by rw [List.length_map]; omega)
    have hlen : ((as.map V.ref).eraseIdx i).length = (minorM rows i j).length := by
      unfold minorM
      rw [List.length_map, List.length_eraseIdx, List.length_eraseIdx, List.length_map, a2]
    refine s_retR (er_items (lp_new (RowItem K (minorM rows i j)) RowItem.st hc (by rw [hlen]; unfold minorM; rw [List.length_map, List.length_eraseIdx]; split <;> omega) (fun x => rfl) fun i' x H1 e hx => ?_) hlen) fun p H1 hp e h => k p H1 hp e h
    obtain ⟨a, r, rfl, hr, hrL⟩ := erase_item (p := p) a2 a3 hx
    have hrn : r.length = n := hn r (List.mem_of_mem_eraseIdx (List.mem_of_getElem? hr))
    intro H2 e2 Q2 q2
    refine EvL.p (el_erase (K := K) (k := j) (ev_var rfl) (ev_var rfl) (ev_var rfl) (ex_l e hrL) (by rw [List.length_map]; omega) (by rw [List.length_map]; omega)) H2 e2 Q2 fun v H3 e3 hv => q2 v H3 e3 ?_
    obtain ⟨p3, rfl, hp3⟩ := hv
    refine ⟨p3, r.eraseIdx j, rfl, ?_, sq_of (by rw [hp3, map_erase])⟩
    unfold minorM
    rw [List.getElem?_map, hr]
    rfl
/-! its size -/
theorem fold_abs (f : Nat → Int) (M : Nat) : ∀ k : Nat, (∀ j, j < k → (f j).natAbs ≤ M) → ((List.range k).foldl (fun t j => t + f j) 0).natAbs ≤ k * M
  | 0, _ => by simp
  | k + 1, h => by
    have ih := fold_abs f M k fun j hj => h j (by omega)
    have h1 := h k (by omega)
    rw [List.range_succ, List.foldl_append]
    show ((List.range k).foldl (fun t j => t + f j) 0 + f k).natAbs ≤ _
    rw [Nat.add_mul]
    omega
theorem signed_abs (p : Nat) (x : Int) : (signedM p x).natAbs = x.natAbs := by
  unfold signedM
  split
  · rw [Int.natAbs_neg]
  · rfl
theorem minor_rect {n : Nat} {rows : MatI} {i j : Nat} (h : RectN (n + 1) rows) (hj : j < n + 1) : RectN n (minorM rows i j) := fun r hr => by
  unfold minorM at hr
  obtain ⟨r0, h0, rfl⟩ := List.mem_map.mp hr
  have := h r0 (List.mem_of_mem_eraseIdx h0)
  rw [List.length_eraseIdx, if_pos (by omega)]
  omega
theorem minor_len {n : Nat} {rows : MatI} {i j : Nat} (h : rows.length = n + 1) (hi : i < n + 1) : (minorM rows i j).length = n := by
  unfold minorM
  rw [List.length_map, List.length_eraseIdx, if_pos (by omega)]
  omega
theorem minor_small {b : Nat} {rows : MatI} {i j : Nat} (h : Small b rows) : Small b (minorM rows i j) := fun r hr x hx => by
  unfold minorM at hr
  obtain ⟨r0, h0, rfl⟩ := List.mem_map.mp hr
  exact h r0 (List.mem_of_mem_eraseIdx h0) x (List.mem_of_mem_eraseIdx hx)
theorem detM_abs {b : Nat} : ∀ (n : Nat) (rows : MatI), n ≤ 4 → rows.length = n → RectN n rows → Small b rows → (detM n rows).natAbs ≤ 2 ^ (n * (b + 2))
  | 0, rows, _, _, _, _ => by show (1 : Int).natAbs ≤ _; simp
  | n + 1, rows, h4, hl, hR, hS => by
    have h0 : rows[0]? = some (rows.getD 0 []) := by
      rw [List.getD_eq_getElem?_getD, List.getElem?_eq_getElem (by omega)]
      rfl
    have hm := List.mem_of_getElem? h0
    have hr := hR _ hm
    have key := fold_abs (fun j => signedM j ((rows.getD 0 []).getD j 0 * detM n (minorM rows 0 j))) (2 ^ b * 2 ^ (n * (b + 2))) (n + 1) fun j hj => by
      rw [signed_abs, Int.natAbs_mul]
      refine Nat.mul_le_mul (Nat.le_of_lt (hS _ hm _ ?_)) (detM_abs n _ (by omega) (minor_len hl (by omega)) (minor_rect hR hj) (minor_small hS))
      refine List.mem_of_getElem? (i := j) ?_
      rw [List.getD_eq_getElem?_getD (l := rows.getD 0 []), List.getElem?_eq_getElem (by omega)]
      rfl
    refine Nat.le_trans key ?_
    have e : (n + 1) * (b + 2) = b + n * (b + 2) + 2 := by rw [Nat.add_mul]; omega
    rw [e, Nat.pow_add 2 _ 2, Nat.pow_add 2 b]
    rw [Nat.mul_comm (2 ^ b * 2 ^ (n * (b + 2)))]
    exact Nat.mul_le_mul_right _ (by omega)
theorem detM_lt {b n : Nat} {rows : MatI} (h4 : n ≤ 4) (hl : rows.length = n) (hR : RectN n rows) (hS : Small b rows) (hb : b ≤ 20000) : (detM n rows).natAbs < 2 ^ 80009 := by
  refine Nat.lt_of_le_of_lt (detM_abs n rows h4 hl hR hS) (Nat.pow_lt_pow_right (by decide) ?_)
  have : n * (b + 2) ≤ 4 * 20002 := Nat.mul_le_mul h4 (by omega)
  omega
def sp_determinant (K : PySem.W.Frag) (n : Nat) : Sp := fun vs H Q _ => ∃ (p : Addr) (rows : MatI), vs = [.ref p] ∧ RowsAt K H p rows ∧ rows.length ≤ n ∧ RectN rows.length rows ∧ Small 20000 rows ∧ RetV (.int (detM rows.length rows)) H Q
theorem sv_determinant {p : Addr} {rows : MatI} {n : Nat} {H : Hp} (h1 : RowsAt K H p rows) (h2 : rows.length ≤ n) (h3 : RectN rows.length rows) (h4 : Small 20000 rows) : SpV (sp_determinant K n) [.ref p] H (.int (detM rows.length rows)) := fun _ e _ q _ => ⟨p, rows, rfl, ex_rows e h1, h2, h3, h4, q⟩
theorem sc_determinant : FnScope ["rows", "total", "j"] ["rows"] (defScope s_determinant) := ⟨rfl, rfl, rfl, by decide +kernel, rfl, by decide +kernel, by decide +kernel⟩
theorem ok_determinant {f : Addr} {fd : FuncData} (F : Fun K "determinant" "determinant" s_determinant f fd) (mgf : mg "determinant" = some (.ref f)) (kp : PySem.W.keepIn K (.ref f) = true) (b : Binds K fd ["rows"] []) (h1 : Has P w K mg base 1 "minor" ["rows", "i", "j"] (sp_minor K)) (h2 : Has P w K mg base 1 "signed" ["power", "number"] sp_signed) (bR : mg "range" = none) (bL : mg "len" = none) :
    ∀ n : Nat, n ≤ 4 → FnOk P w K mg base CX0 (2 + n) f fd ["rows"] (sp_determinant K n) := by
  intro n
  induction n with
  | zero =>
    intro _
    refine (F.ok (k := 1) sc_determinant (fun vs H Q E h => ?_) (fun cdv A outer s H vs Q E hr h => ?_))
    · obtain ⟨p, rows, rfl, _⟩ := h
      rfl
    · obtain ⟨p, rows, rfl, hR, hl, hn, hS, k⟩ := h
      refine ⟨_, pss_cons (ps_if (pt_cmpR op_eq (pe_callB call_len_seq (by rfl) bL PySem.boot_len (pa_cons (pv 0) pa_nil)) pe_int (nomark _)) (pss_one (ps_ret pe_int)) pss_nil) (pss_never), ?_⟩
      have h0 : rows.length = 0 := by omega
      rw [h0] at k
      refine q_when (et_test (ev_op (ev_lenR (ev_var rfl) hR) ev_c (rv_eq rfl))) (fun c H1 e => ?_) (fun c H1 e => ?_)
      · exact s_ret ev_c fun H2 e2 => k.go (e.trans e2)
      · rw [h0] at c
        exact absurd c (by decide)
  | succ n ih =>
    intro h4
    have hD : Has P w K mg base (2 + n) "determinant" ["rows"] (sp_determinant K n) := ⟨f, fd, ih (by omega), mgf, kp, b⟩
    refine (F.ok (k := 2 + n) sc_determinant (fun vs H Q E h => ?_) (fun cdv A outer s H vs Q E hr h => ?_))
    · obtain ⟨p, rows, rfl, _⟩ := h
      rfl
    · obtain ⟨p, rows, rfl, hR, hl, hn, hS, k⟩ := h
      have hr1 : Room 1 _ := hr.mono (by omega)
      refine ⟨_, pss_cons (ps_if (pt_cmpR op_eq (pe_callB call_len_seq (by rfl) bL PySem.boot_len (pa_cons (pv 0) pa_nil)) pe_int (nomark _)) (pss_one (ps_ret pe_int)) pss_nil)
        (pss_cons (ps_set (i := 1) sc_determinant.nd rfl (.inl rfl) pe_int)
        (pss_cons (ps_for PassesOwn.never rfl (pi_range1 (by rfl) bR (pa_cons (pe_callB call_len_seq (by rfl) bL PySem.boot_len (pa_cons (pv 0) pa_nil)) pa_nil)) (pg_name (i := 2) sc_determinant.nd rfl (Or.inl rfl))
          (pss_one (ps_if (pt_cmpR op_ne (pe_ix ix_list (pe_ix ix_list (pv 0) pe_int (fun _ _ => rfl)) (pv 2) (fun _ _ => rfl)) pe_int (nomark _))
            (pss_one (ps_aug (i := 1) sc_determinant.nd rfl (.inl rfl) (pe_callH h2 hr1 (pa_cons (pv 2) (pa_cons (pe_op op_mulX (pe_ix ix_list (pe_ix ix_list (pv 0) pe_int (fun _ _ => rfl)) (pv 2) (fun _ _ => rfl)) (pe_callH hD hr (pa_cons (pe_callH h1 hr1 (pa_cons (pv 0) (pa_cons pe_int (pa_cons (pv 2) pa_nil)))) pa_nil) (Nat.le_refl _))) pa_nil))) ip_add)) pss_nil)))
        (pss_one (ps_ret (pv 1))))), ?_⟩
      refine q_when (et_test (ev_op (ev_lenR (ev_var rfl) hR) ev_c (rv_eq rfl))) (fun c H1 e => ?_) (fun c H1 e => ?_)
      · have c : rows.length = 0 := by simpa using c
        rw [c] at k
        exact s_ret ev_c fun H2 e2 => k.go (e.trans e2)
      · have c : ¬ rows.length = 0 := by simpa using c
        obtain ⟨m, hm⟩ : ∃ m, rows.length = m + 1 := ⟨rows.length - 1, by omega⟩
        rw [hm] at k hn
        refine q_asg ev_c fun H2 e2 => ?_
        have e12 := e.trans e2
        have h0 : rows[0]? = some (rows.getD 0 []) := by
          rw [List.getD_eq_getElem?_getD, List.getElem?_eq_getElem (by omega)]
          rfl
        have hm0 := List.mem_of_getElem? h0
        have hr0 := hn _ hm0
        refine q_forR1 (ea_cons (ev_lenR (ev_var rfl) (ex_rows e12 hR)) ea_nil) (by omega) (fun i σ' H' => ∃ v : Option V, σ' = [some (.ref p), some (.int ((List.range i).foldl (fun t j => t + signedM j ((rows.getD 0 []).getD j 0 * detM m (minorM rows 0 j))) 0)), v] ∧ Ex H H')
          (fun H3 e3 => ⟨none, rfl, e12.trans e3⟩) ?_ ?_
        · rintro i σ' H' hi ⟨v, rfl, e3⟩
          have hi : i < m + 1 := by omega
          rw [List.range_succ, List.foldl_append]
          generalize (List.range i).foldl (fun t j => t + signedM j ((rows.getD 0 []).getD j 0 * detM m (minorM rows 0 j))) 0 = t
          have g0 : (rows.getD 0 [])[i]? = some ((rows.getD 0 []).getD i 0) := by
            rw [List.getD_eq_getElem?_getD (l := rows.getD 0 []), List.getElem?_eq_getElem (by omega)]
            rfl
          have ml := minor_len (j := i) hm (show 0 < m + 1 by omega)
          refine s_when (et_test (ev_op (ev_ix2 (i' := 0) (ev_var rfl) ev_c (ev_var rfl) (ex_rows e3 hR) rfl rfl h0 g0) ev_c (rv_ne rfl))) (fun c2 H4 e4 => ?_) (fun c2 H4 e4 => ?_)
          · have e34 := e3.trans e4
            have hdet := ev_callR (K := K) (sp := sp_determinant K n) (E := E0) (z := .int (detM m (minorM rows 0 i))) (er_call (sp := sp_minor K) (dvs := []) (vs := [.ref p, .int ((0 : Nat) : Int), .int (i : Int)]) (E := E0) (ta := tCons (tVar 0) (tCons (tC (.int 0)) (tCons (tVar 2) tNil))) (σ := [some (.ref p), some (.int t), some (.int (i : Int))]) (ea_cons (ev_var rfl) (ea_cons ev_c (ea_cons (ev_var rfl) ea_nil))) (sr_minor (ex_rows e34 hR) (by omega) hn (by omega) (by omega) hi))
              fun p5 H5 e5 h5 => by
                have q := sv_determinant (n := n) h5 (by rw [ml]; omega) (by rw [ml]; exact minor_rect hn hi) (minor_small hS)
                rw [ml] at q
                exact q
            refine s_aug rfl (ev_call (ea_cons (ev_var rfl) (ea_cons (ev_mul (ev_ix2 (i' := 0) (ev_var rfl) ev_c (ev_var rfl) (ex_rows e34 hR) rfl rfl h0 g0) hdet (hS _ hm0 _ (List.mem_of_getElem? g0)) (detM_lt (by omega) ml (minor_rect hn hi) (minor_small hS) (Nat.le_refl _)) (by decide)) ea_nil)) sv_signed) fun H5 e5 => ?_
            exact ⟨_, rfl, e34.trans e5⟩
          · have c2 : (rows.getD 0 []).getD i 0 = 0 := by simpa using c2
            refine ⟨some (.int (i : Int)), ?_, e3.trans e4⟩
            show [some (V.ref p), some (.int t), some (V.int (i : Int))] = [some (V.ref p), some (V.int (t + signedM i ((rows.getD 0 []).getD i 0 * detM m (minorM rows 0 i)))), some (V.int (i : Int))]
            rw [c2, Int.zero_mul]
            have : signedM i 0 = 0 := by unfold signedM; split <;> rfl
            rw [this, Int.add_zero]
        · rintro σ' H' ⟨v, rfl, e3⟩
          rw [hm]
          exact s_ret (ev_var rfl) fun H3 e4 => k.go (e3.trans e4)

/-! words for rows -/
theorem getDL_some {l : List Int} {i : Nat} (h : i < l.length) : l[i]? = some (l.getD i 0) := by
  rw [List.getElem?_eq_getElem h, List.getD_eq_getElem?_getD, List.getElem?_eq_getElem h]
  rfl
theorem getDL_mem {l : List Int} {i : Nat} (h : i < l.length) : l.getD i 0 ∈ l := List.mem_of_getElem? (getDL_some h)
theorem ev_atL {σ : L2.St} {H H1 : Hp} {ta tb : TE} {a : Addr} {ns : List Int} {i : Nat} (h : Ev ta σ H1 (.ref a)) (hi : Ev tb σ H1 (.int (i : Int))) (hS : IL K H a ns) (e : Ex H H1) (hl : i < ns.length) : Ev (tOp (rIxL K) ta tb) σ H1 (.int (ns.getD i 0)) :=
  ev_ix h hi (ex_l e hS) rfl (by rw [List.getElem?_map, getDL_some hl]; rfl)
theorem polyVal_lt {m : Int} {s B : Nat} (hm : m.natAbs < 2 ^ 55) (hs : s ≤ 2048) : ∀ ns : List Int, (∀ n ∈ ns, n.natAbs < 2 ^ B) → (polyVal ns m s).natAbs < 2 ^ (B + ns.length * 2105)
  | [], _ => Nat.pow_pos (by decide)
  | c :: r, h => by
    have ih := polyVal_lt hm hs r fun n hn => h n (List.mem_cons_of_mem _ hn)
    have hc := h c (List.mem_cons_self ..)
    show (polyVal r m s * m * 2 ^ s + c).natAbs < _
    have h1 : (polyVal r m s * m * 2 ^ s).natAbs < 2 ^ (B + r.length * 2105 + 55 + 2048) := by
      rw [Int.natAbs_mul, Int.natAbs_mul, Int.natAbs_pow, Nat.pow_add, Nat.pow_add 2 _ 55]
      refine Nat.lt_of_lt_of_le (Nat.mul_lt_mul_of_pos_right (Nat.mul_lt_mul'' ih hm) (Nat.pow_pos (by decide))) (Nat.mul_le_mul_left _ ?_)
      exact Nat.pow_le_pow_right (by decide) hs
    have h2 : c.natAbs < 2 ^ (B + r.length * 2105 + 55 + 2048) := Nat.lt_of_lt_of_le hc (Nat.pow_le_pow_right (by decide) (by omega))
    have h3 : 2 ^ (B + r.length * 2105 + 55 + 2048) * 2 ≤ 2 ^ (B + (r.length + 1) * 2105) := by
      rw [← Nat.pow_succ]
      exact Nat.pow_le_pow_right (by decide) (by omega)
    rw [List.length_cons]
    generalize 2 ^ (B + r.length * 2105 + 55 + 2048) = q at h1 h2 h3
    omega
theorem polyVal_drop {ns : List Int} {m : Int} {s i : Nat} {x : V} (hi : i < ns.length) (h : (ns.map V.int)[ns.length - 1 - i]? = some x) : ∃ c, x = .int c ∧ c ∈ ns ∧ polyVal (ns.drop (ns.length - (i + 1))) m s = polyVal (ns.drop (ns.length - i)) m s * m * 2 ^ s + c := by
  have hk : ns.length - 1 - i < ns.length := by omega
  rw [List.getElem?_map, List.getElem?_eq_getElem hk] at h
  cases h
  refine ⟨_, rfl, List.getElem_mem _, ?_⟩
  have e : ns.length - (i + 1) = ns.length - 1 - i := by omega
  have e2 : ns.length - i = ns.length - 1 - i + 1 := by omega
  rw [e, e2, List.drop_eq_getElem_cons hk]
  rfl
def rGetL (K : PySem.W.Frag) : V → V → Hp → VK → Prop := fun o i H Q => ∃ (p : Addr) (xs : List V) (j : Nat) (v : V), o = .ref p ∧ i = .int (j : Int) ∧ SqL K H p xs ∧ xs[j]? = some v ∧ Q v H
theorem get_listN {X : Cx} : PGet X (rGetL X.K) := by
  intro pins s σ H o i ov iv Q I ro ri h
  obtain ⟨p, xs, j, v, rfl, rfl, hq, hv, q⟩ := h
  cases ro
  obtain ⟨t, rfl⟩ := ri
  obtain ⟨its, r, pl, hz⟩ := I.list hq
  obtain ⟨u, eu, ru⟩ := r.get hv
  have hn := line63
  have hj : j < xs.length := (List.getElem?_eq_some_iff.mp hv).1
  exact wpAny_getItem_list pl.isList (by omega) (by omega) (by simpa using eu) ⟨v, H, I, ru, q⟩
theorem less_new {H1 H2 : Hp} {R p : Addr} {xs : List V} (hR : ∃ o, H1 R = some o) (hp : H1 p = none) (h : H2 p = some (.lst xs)) : SqL K (less H2 R) p xs := by
  refine sq_of ?_
  unfold less
  rw [if_neg]
  · exact h
  · rintro rfl
    obtain ⟨o, ho⟩ := hR
    rw [hp] at ho
    cases ho
theorem el_is {σ : L2.St} {H : Hp} {te : TE} {xs ys : List V} (h : EvL te σ H xs) (e : xs = ys) : EvL te σ H ys := e ▸ h
theorem s_addAt {σ : L2.St} {H : Hp} {to ti te : TE} {D : Ends} {l : Addr} {xs : List V} {j : Nat} {a b : Int} (hl : H l = some (.lst xs)) (ho : Ev to σ H (.ref l)) (hi : Ev ti σ H (.int (j : Int))) (hv : xs[j]? = some (.int a)) (he : Ev te σ H (.int b))
    (k : ∀ H1, Ex H H1 → D.nx σ (upd H1 l (.lst (xs.set j (.int (a + b)))))) : tAugS to ti te (rGetL K) (ipI fun i j => i + j) rSetL D σ H :=
  ho H (Ex.refl H) _ fun H1 e1 => hi H1 e1 _ fun H2 e2 => ⟨l, xs, j, .int a, rfl, rfl, sq_of ((e1.trans e2) _ _ hl), hv, he H2 (e1.trans e2) _ fun H3 e3 => ⟨a, b, rfl, rfl, l, xs, (j : Int), j, rfl, rfl, ((e1.trans e2).trans e3) _ _ hl, ixN_nat (List.getElem?_eq_some_iff.mp hv).1, k H3 ((e1.trans e2).trans e3)⟩⟩

/-! divided -/
def RetD (t : Int) (ns : List Int) (H : Hp) (Q : VK) : Prop := ∀ (T q : Addr) (H2 : Hp), H T = none → H q = none → Ex H H2 → H2 T = some (.tup [.int t, .ref q]) → H2 q = some (.lst (ns.map V.int)) → Q (.ref T) H2
def sp_divided (K : PySem.W.Frag) : Sp := fun vs H Q _ => ∃ (a : Addr) (ns : List Int) (m : Int) (s : Nat), vs = [.ref a, .int m, .int (s : Int)] ∧ IL K H a ns ∧ ns.length ≤ 20 ∧ Bt 9000000 ns ∧ m.natAbs < 2 ^ 55 ∧ s ≤ 2048 ∧ RetD (horI m s ns).1 (horI m s ns).2 H Q
theorem sc_divided : FnScope ["p", "m", "s", "sums", "total", "number"] ["p", "m", "s"] (defScope s_divided) := ⟨rfl, rfl, rfl, by decide +kernel, rfl, by decide +kernel, by decide +kernel⟩
theorem cutV_less {xs : List V} : cutV xs none (some (-1)) = xs.take (xs.length - 1) := by
  unfold cutV
  rw [HT.sIx_none]
  have : HT.sIx xs.length xs.length (some (-1)) = xs.length - 1 := by
    unfold HT.sIx
    simp
    omega
  rw [this]
  rfl
theorem pval_lt {ns : List Int} {m : Int} {s : Nat} (hl : ns.length ≤ 20) (hb : Bt 9000000 ns) (hm : m.natAbs < 2 ^ 55) (hs : s ≤ 2048) (i : Nat) : (polyVal (ns.drop i) m s).natAbs < 2 ^ 9100000 :=
  Nat.lt_of_lt_of_le (polyVal_lt (B := 9000000) hm hs (ns.drop i) fun n hn => hb n (List.mem_of_mem_drop hn)) (Nat.pow_le_pow_right (by decide) (by rw [List.length_drop]; omega))
theorem ok_divided {f : Addr} {fd : FuncData} (F : Fun K "divided" "divided" s_divided f fd) (bR : mg "reversed" = none) (bT : mg "list" = none) : FnOk P w K mg base CX0 1 f fd ["p", "m", "s"] (sp_divided K) := by
  refine F.ok sc_divided (fun vs H Q E h => ?_) (fun cdv A outer s H vs Q E hr h => ?_)
  · obtain ⟨a, ns, m, s, rfl, _⟩ := h
    rfl
  · obtain ⟨a, ns, m, s, rfl, h1, hl, hb, hm, hs, k⟩ := h
    refine ⟨_, pss_cons (ps_set (i := 3) sc_divided.nd rfl (.inl rfl) (pe_lst pa_nil))
      (pss_cons (ps_set (i := 4) sc_divided.nd rfl (.inl rfl) pe_int)
      (pss_cons (ps_for PassesOwn.never rfl (pi_reversed (by rfl) bR (pa_cons (pv 0) pa_nil)) (pg_name (i := 5) sc_divided.nd rfl (Or.inl rfl))
        (pss_cons (ps_set (i := 4) sc_divided.nd rfl (.inl rfl) (pe_op op_add (pe_op op_shlN (pe_op op_mulX (pv 4) (pv 1)) (pv 2)) (pv 5)))
        (pss_one (ps_expr (pe_bm PySem.F.plainAttrs_list PySem.F.slot_list_append PySem.F.type_list_append mt_append (pv 3) (pa_cons (pv 4) pa_nil))))))
      (pss_one (ps_ret (pe_tup (pa_cons (pv 4) (pa_cons (pe_listRev rfl (by rfl) bT (by rfl) bR (pe_sliceL K (pv 3) po_none (po_some (pe_un un_neg pe_int)))) pa_nil))))))), ?_⟩
    refine q_asgL (el_lst ea_nil (by decide)) fun S H1 hS1 e1 hSL => q_asg ev_c fun H2 e2 => ?_
    have hSn : H S = none := hS1
    refine q_forRev (ea_cons (ev_var rfl) ea_nil) (ex_l (e1.trans e2) h1) (fun i σ' H' => ∃ v : Option V, σ' = [some (.ref a), some (.int m), some (.int (s : Int)), some (.ref S), some (.int (polyVal (ns.drop (ns.length - i)) m s)), v] ∧ Ex H H' ∧ H' S = some (.lst ((sumsN ns m s i).map V.int)))
      (fun H3 e3 => ⟨none, by rw [Nat.sub_zero, List.drop_length]; rfl, (e1.trans e2).trans e3, e3 _ _ (e2 _ _ hSL)⟩) (fun i σ' H' _ ⟨_, _, e, _⟩ => ex_l e h1) ?_ ?_
    · rintro i x σ' H' hi hx ⟨v, rfl, e, hL⟩
      rw [List.length_map] at hi hx
      obtain ⟨c, rfl, hc, hs2⟩ := polyVal_drop (m := m) (s := s) hi hx
      have hb1 := pval_lt hl hb hm hs (ns.length - i)
      show tSeq _ _ _ _ _
      refine q_asg (ev_add (ev_shl (ev_mul (ev_var rfl) (ev_var rfl) hb1 hm (by decide)) (ev_var rfl) (shl_ok (wide_lt hb1 hm) (by omega))) (ev_var rfl)) fun H3 e3 => ?_
      refine s_app (e3 _ _ hL) (ev_var rfl) (ev_var rfl) (by rw [List.length_map]; unfold sumsN; rw [List.length_map, List.length_range]; omega) fun H4 e4 => ⟨some (.int c), by rw [hs2]; rfl, Ex.mut ((e.trans e3).trans e4) hSn, ?_⟩
      rw [upd_same, sums_succ, List.map_append, hs2]
      rfl
    · rintro σ' H' ⟨v, rfl, e, hL⟩
      rw [List.length_map] at hL ⊢
      rw [Nat.sub_self, List.drop_zero]
      have el := el_sl (K := K) (lo := none) (hi := some (-1)) (te := tVar 3) (tl := tNoPart) (th := tPart (tUn (rU fun i => .int (-i)) (tC (.int 1)))) (σ := [some (.ref a), some (.int m), some (.int (s : Int)), some (.ref S), some (.int (polyVal ns m s)), v]) (ev_var rfl) eo_none (eo_some (ev_neg ev_c)) (sq_of hL)
      rw [cutV_less, List.length_map, ← List.map_take] at el
      have e7 : (sumsN ns m s ns.length).take ((sumsN ns m s ns.length).length - 1) = sumsN ns m s (ns.length - 1) := by
        unfold sumsN
        rw [List.length_map, List.length_range, ← List.map_take, List.take_range, Nat.min_eq_left (by omega)]
      rw [e7] at el
      have er := el_listRev (K := K) el
      rw [← List.map_reverse, sums_rev] at er
      rw [hor_val] at k
      refine ⟨.int (polyVal ns m s), rfl, er H' (Ex.refl H') _ fun q H4 hq e4 hqL => ⟨(by show 2 ≤ sizeLine; decide), fun T hT => ?_⟩⟩
      exact k T q _ (fresh_back (e.trans e4) hT) (fresh_back e hq) ((e.trans e4).trans (Ex.new hT)) upd_same (Ex.new hT _ _ hqL)
/-! changes -/
theorem el_lcR2 {σ : L2.St} {H : Hp} {t : TT} {te : TE} {ta : TA} {j : Nat} {vs : List Nat} {lo hi : Int} (f : Nat → Bool) (v : Nat → V) (h : EvA ta σ H [.int lo, .int hi]) (hn : -40000 ≤ lo ∧ lo ≤ 40000 ∧ -40000 ≤ hi ∧ hi ≤ 40000 ∧ hi - lo ≤ 40000) (hw : ∀ x, wipe ((wipe σ vs).set j (some x)) vs = wipe σ vs)
    (ht : ∀ (i : Nat) H1, Ex H H1 → lo + (i : Int) < hi → EvT t ((wipe σ vs).set j (some (.int (lo + (i : Int))))) H1 (f i)) (he : ∀ (i : Nat) H1, Ex H H1 → lo + (i : Int) < hi → f i = true → Ev te ((wipe σ vs).set j (some (.int (lo + (i : Int))))) H1 (v i)) :
    EvL (tLc (iRng2 ta) (gName j) t te vs) σ H (given (hi - lo).toNat f v) := fun H0 e Q q => h H0 e _ fun H1 e1 => ⟨lo, hi, rfl, ⟨by omega, by omega, by omega, by omega⟩, fun Dl hD =>
  lc_range (lo := lo) (n := (hi - lo).toNat) (Cw H1 f v Dl) ⟨hD, Ex.new hD, upd_same⟩ (fun i H' hi' p => ⟨hw _, cw_turn p (by omega) (ht i H1 (e.trans e1) (by omega)) (fun hf => he i H1 (e.trans e1) (by omega) hf)⟩) (fun H' p => q Dl H' (fresh_back e1 p.1) (e1.trans p.2.1) p.2.2)⟩
theorem given_signs (ns : List Int) : given ns.length (fun i => decide (ns.getD i 0 ≠ 0)) (fun i => .int (ns.getD i 0).sign) = (signsI ns).map V.int := by
  have e : ns = (List.range ns.length).map fun i => ns.getD i 0 := by
    apply List.ext_getElem?
    intro i
    by_cases hi : i < ns.length
    · rw [List.getElem?_map, List.getElem?_range hi, getDL_some hi]
      rfl
    · rw [List.getElem?_eq_none (by omega), List.getElem?_eq_none (by rw [List.length_map, List.length_range]; omega)]
  have e2 : signsI ns = (((List.range ns.length).map fun i => ns.getD i 0).filter fun n => decide (n ≠ 0)).map Int.sign := by
    rw [← e]
    rfl
  rw [e2, List.filter_map, List.map_map, List.map_map]
  rfl
def sp_changes (K : PySem.W.Frag) : Sp := fun vs H Q _ => ∃ (a : Addr) (ns : List Int), vs = [.ref a] ∧ IL K H a ns ∧ ns.length ≤ 1000 ∧ RetV (.int (chgI ns : Int)) H Q
theorem sv_changes {a : Addr} {ns : List Int} {H : Hp} (h1 : IL K H a ns) (hl : ns.length ≤ 1000) : SpV (sp_changes K) [.ref a] H (.int (chgI ns : Int)) := fun _ e _ q _ => ⟨a, ns, rfl, ex_l e h1, hl, q⟩
theorem sc_changes : FnScope ["numbers", "signs", "number", "at"] ["numbers"] (defScope s_changes) := ⟨rfl, rfl, rfl, by decide +kernel, rfl, by decide +kernel, by decide +kernel⟩
theorem ok_changes {f : Addr} {fd : FuncData} (F : Fun K "changes" "changes" s_changes f fd) (h1 : Has P w K mg base 1 "sign" ["number"] sp_sign) (bR : mg "range" = none) (bL : mg "len" = none) : FnOk P w K mg base CX0 2 f fd ["numbers"] (sp_changes K) := by
  refine F.ok sc_changes (fun vs H Q E h => ?_) (fun cdv A outer s H vs Q E hr h => ?_)
  · obtain ⟨a, ns, rfl, _⟩ := h
    rfl
  · obtain ⟨a, ns, rfl, hS, hl, k⟩ := h
    refine ⟨_, pss_cons (ps_set (i := 1) sc_changes.nd rfl (.inr rfl) (pe_lc (own := [("number", 2)]) (g := gName 2) rfl sc_changes.nd (pi_list (pv 0)) (blkOk_by (own := [("number", 2)]) (N := ["numbers", "signs", "number", "at"]) (sc := defScope s_changes) (by decide +kernel))
        (fun _ _ _ _ _ => pg_name (i := 2) sc_changes.nd rfl (Or.inl rfl)) (fun _ _ _ _ _ => pts_one (pt_cmpR op_ne (pv 2) pe_int (nomark _))) (fun _ _ _ _ _ => pe_callH h1 hr (pa_cons (pv 2) pa_nil))))
      (pss_one (ps_ret (pe_callB call_len_seq (by rfl) bL PySem.boot_len (pa_cons (pe_lc (own := [("at", 3)]) (g := gName 3) rfl sc_changes.nd (pi_range2 (by rfl) bR (pa_cons pe_int (pa_cons (pe_callB call_len_seq (by rfl) bL PySem.boot_len (pa_cons (pv 1) pa_nil)) pa_nil))) (blkOk_by (own := [("at", 3)]) (N := ["numbers", "signs", "number", "at"]) (sc := defScope s_changes) (by decide +kernel))
        (fun _ _ _ _ _ => pg_name (i := 3) sc_changes.nd rfl (Or.inl rfl)) (fun _ _ _ _ _ => pts_one (pt_cmpR op_ne (pe_ixL K (pv 1) (pv 3)) (pe_ixL K (pv 1) (pe_op op_sub (pv 3) pe_int)) (nomark _))) (fun _ _ _ _ _ => pv 3)) pa_nil)))), ?_⟩
    refine q_asgL (el_is (ys := (signsI ns).map V.int) (el_lcL (fun i => decide (ns.getD i 0 ≠ 0)) (fun i => .int (ns.getD i 0).sign) (ev_var rfl) hS (by rw [List.length_map]; omega) (fun x => rfl) (fun i x H1 e hx => ?_) (fun i x H1 e hx hf => ?_)) (by rw [List.length_map]; exact given_signs ns)) fun q H1 hq e1 hqL => ?_
    · rw [List.getElem?_map] at hx
      cases w1 : ns[i]? with
      | none => rw [w1] at hx; cases hx
      | some n =>
        rw [w1] at hx
        cases hx
        have hd : ns.getD i 0 = n := by rw [List.getD_eq_getElem?_getD, w1]; rfl
        rw [hd]
        refine et_is (et_test (ev_op (ev_var rfl) ev_c (rv_ne rfl))) ?_
        by_cases c : n = 0
        · subst c; rfl
        · simp [c]
    · rw [List.getElem?_map] at hx
      cases w1 : ns[i]? with
      | none => rw [w1] at hx; cases hx
      | some n =>
        rw [w1] at hx
        cases hx
        have hd : ns.getD i 0 = n := by rw [List.getD_eq_getElem?_getD, w1]; rfl
        rw [hd]
        exact ev_call (ea_cons (ev_var rfl) ea_nil) (sv_sign (b := n))
    · have hsl : (signsI ns).length ≤ 1000 := by
        unfold signsI
        rw [List.length_map]
        exact Nat.le_trans (List.length_filter_le _ _) hl
      have il : IL K H1 q (signsI ns) := sq_of hqL
      rw [chg_adj, ← adj_count] at k
      generalize signsI ns = sg at il hsl k
      refine s_ret (ev_is (ev_lenN (el_lcR2 (lo := 1) (hi := (sg.length : Int)) (fun i => decide (sg.getD (i + 1) 0 ≠ sg.getD i 0)) (fun i => .int ((i + 1 : Nat) : Int)) (ea_cons ev_c (ea_cons (ev_is (ev_len (ev_var rfl) il) (by rw [List.length_map])) ea_nil)) (by omega) (fun x => rfl) (fun i H2 e2 hi => ?_) (fun i H2 e2 hi hf => ev_is (ev_var rfl) (by congr 1; omega)))) ?_) fun H3 e3 => k.go (e1.trans e3)
      · refine et_is (et_test (ev_op (ev_atL (i := i + 1) (ev_var rfl) (ev_is (ev_var rfl) (by congr 1; omega)) il e2 (by omega)) (ev_atL (i := i) (ev_var rfl) (ev_is (ev_sub (ev_var rfl) ev_c) (by congr 1; omega)) il e2 (by omega)) (rv_ne rfl))) ?_
        by_cases c : sg.getD (i + 1) 0 = sg.getD i 0
        · rw [c]; simp
        · simp [c]
      · unfold given
        rw [List.length_map, show ((sg.length : Int) - 1).toNat = sg.length - 1 by omega]

/-! taylor -/
def EvD (te : TE) (σ : L2.St) (H : Hp) (t : Int) (ns : List Int) : Prop := ∀ H1, Ex H H1 → ∀ Q : VK, (∀ (T q : Addr) (H2 : Hp), H1 T = none → H1 q = none → Ex H1 H2 → H2 T = some (.tup [.int t, .ref q]) → H2 q = some (.lst (ns.map V.int)) → Q (.ref T) H2) → te σ H1 Q
theorem ed_divided {σ : L2.St} {H : Hp} {ta : TA} {a : Addr} {ns : List Int} {m : Int} {s : Nat} (h : EvA ta σ H [.ref a, .int m, .int (s : Int)]) (hS : IL K H a ns) (hl : ns.length ≤ 20) (hb : Bt 9000000 ns) (hm : m.natAbs < 2 ^ 55) (hs : s ≤ 2048) :
    EvD (tCall (sp_divided K) [] E0 ta) σ H (horI m s ns).1 (horI m s ns).2 := fun H1 e Q q =>
  h H1 e _ fun H2 e2 => ⟨a, ns, m, s, rfl, ex_l (e.trans e2) hS, hl, hb, hm, hs, fun T r H3 h1 h2 e3 h3 h4 => q T r H3 (fresh_back e2 h1) (fresh_back e2 h2) (e2.trans e3) h3 h4⟩
theorem q_unpD {σ : L2.St} {H : Hp} {te : TE} {t : Int} {ns : List Int} {i j : Nat} {D : Ends} {tz : TS} (h : EvD te σ H t ns) (k : ∀ (q : Addr) H1, H q = none → Ex H H1 → H1 q = some (.lst (ns.map V.int)) → tz D ((σ.set i (some (.int t))).set j (some (.ref q))) H1) : tSeq (tAsg te (gTup K 2 (gCons (gName i) (gCons (gName j) gNil)))) tz D σ H :=
  h H (Ex.refl H) _ fun T q H1 _ hq e1 hT hL => ⟨T, [.int t, .ref q], rfl, st_of hT, rfl, .int t, [.ref q], rfl, .ref q, [], rfl, rfl, k q H1 hq e1 hL⟩
theorem hor_bits {ns : List Int} {m : Int} {s b : Nat} (hl : ns.length ≤ 20) (hb : Bt b ns) (hm : m.natAbs < 2 ^ 55) (hs : s ≤ 2048) : Bt (b + 50000) (horI m s ns).2 := fun n hn => by
  rw [hor_rest] at hn
  obtain ⟨i, _, rfl⟩ := List.mem_map.mp hn
  exact Nat.lt_of_lt_of_le (polyVal_lt (B := b) hm hs (ns.drop (i + 1)) fun n hn => hb n (List.mem_of_mem_drop hn)) (Nat.pow_le_pow_right (by decide) (by rw [List.length_drop]; omega))
theorem ex_less {H H2 : Hp} {S : Addr} (e : Ex H H2) (h : H S = none) : Ex H (less H2 S) := fun b o hb => by
  unfold less
  rw [if_neg]
  · exact e b o hb
  · rintro rfl
    rw [h] at hb
    cases hb
def sp_taylor (K : PySem.W.Frag) : Sp := fun vs H Q _ => ∃ (a : Addr) (ns : List Int) (m : Int) (s : Nat), vs = [.ref a, .int m, .int (s : Int)] ∧ IL K H a ns ∧ ns.length ≤ 20 ∧ Bt 8000000 ns ∧ m.natAbs < 2 ^ 55 ∧ s ≤ 2048 ∧ RetL ((taylorI m s ns).map V.int) H Q
theorem sl_taylor {a : Addr} {ns : List Int} {m : Int} {s : Nat} {H : Hp} (h1 : IL K H a ns) (hl : ns.length ≤ 20) (hb : Bt 8000000 ns) (hm : m.natAbs < 2 ^ 55) (hs : s ≤ 2048) : SpL (sp_taylor K) [.ref a, .int m, .int (s : Int)] H ((taylorI m s ns).map V.int) := fun _ e _ q _ => ⟨a, ns, m, s, rfl, ex_l e h1, hl, hb, hm, hs, q⟩
theorem sc_taylor : FnScope ["p", "m", "s", "numbers", "rest", "total"] ["p", "m", "s"] (defScope s_taylor) := ⟨rfl, rfl, rfl, by decide +kernel, rfl, by decide +kernel, by decide +kernel⟩
theorem ok_taylor {f : Addr} {fd : FuncData} (F : Fun K "taylor" "taylor" s_taylor f fd) (h1 : Has P w K mg base 1 "divided" ["p", "m", "s"] (sp_divided K)) (bL : mg "len" = none) : FnOk P w K mg base CX0 2 f fd ["p", "m", "s"] (sp_taylor K) := by
  refine F.ok sc_taylor (fun vs H Q E h => ?_) (fun cdv A outer s H vs Q E hr h => ?_)
  · obtain ⟨a, ns, m, s, rfl, _⟩ := h
    rfl
  · obtain ⟨a, ns, m, s, rfl, hS, hl, hb, hm, hs, k⟩ := h
    refine ⟨_, pss_cons (ps_set (i := 3) sc_taylor.nd rfl (.inl rfl) (pe_lst pa_nil))
      (pss_cons (ps_set (i := 4) sc_taylor.nd rfl (.inl rfl) (pv 0))
      (pss_cons (ps_while PassesOwn.never (pt_cmpR op_gt (pe_callB call_len_seq (by rfl) bL PySem.boot_len (pa_cons (pv 4) pa_nil)) pe_int (nomark _))
        (pss_cons (ps_asg (pe_callH h1 hr (pa_cons (pv 4) (pa_cons (pv 1) (pa_cons (pv 2) pa_nil)))) (pg_tup (by rfl) (pgs_cons (pg_name (i := 5) sc_taylor.nd rfl (.inl rfl)) (pgs_cons (pg_name (i := 4) sc_taylor.nd rfl (.inl rfl)) pgs_nil))))
        (pss_one (ps_expr (pe_bm PySem.F.plainAttrs_list PySem.F.slot_list_append PySem.F.type_list_append mt_append (pv 3) (pa_cons (pv 5) pa_nil))))))
      (pss_one (ps_ret (pv 3))))), ?_⟩
    refine q_asgL (el_lst ea_nil (by decide)) fun S H1 hS1 e1 hSL => q_asg (ev_var rfl) fun H2 e2 => ?_
    have hSn : H S = none := hS1
    refine q_while (fun n σ' H' => ∃ (r : Addr) (rest acc : List Int) (v : Option V), σ' = [some (.ref a), some (.int m), some (.int (s : Int)), some (.ref S), some (.ref r), v] ∧ Ex H H' ∧ H' S = some (.lst (acc.map V.int)) ∧ IL K (less H' S) r rest ∧ rest.length = n ∧ n + acc.length = ns.length ∧ Bt (8000000 + (20 - n) * 50000) rest ∧ taylorI m s ns = acc ++ taylorI m s rest) ns.length
      ⟨a, ns, [], none, rfl, e1.trans e2, e2 _ _ hSL, ex_l (ex_less (e1.trans e2) hSn) hS, rfl, rfl, hb.up (by omega), rfl⟩ ?_
    rintro n σ' H' ⟨r, rest, acc, v, rfl, e, hL, il, hn, hacc, hb2, eq⟩
    refine ⟨_, et_test (ev_op (ev_len (ev_var rfl) (ex_l less_ex il)) ev_c rv_I0), fun c H4 e4 => ?_, fun c H4 e4 => ?_⟩
    · have c := of_decide_eq_true c
      rw [List.length_map] at c
      obtain ⟨n', rfl⟩ : ∃ n', n = n' + 1 := ⟨n - 1, by omega⟩
      have r0 : rest ≠ [] := fun z => by rw [z] at hn; cases hn
      refine ⟨fun σ2 H2 => ∃ (r : Addr) (rest acc : List Int) (v : Option V), σ2 = [some (.ref a), some (.int m), some (.int (s : Int)), some (.ref S), some (.ref r), v] ∧ Ex H H2 ∧ H2 S = some (.lst (acc.map V.int)) ∧ IL K (less H2 S) r rest ∧ rest.length = n' ∧ n' + acc.length = ns.length ∧ Bt (8000000 + (20 - n') * 50000) rest ∧ taylorI m s ns = acc ++ taylorI m s rest, fun σ2 H2 h => ⟨n', Nat.lt_succ_self _, h⟩, ?_⟩
      refine q_unpD (ed_divided (ea_cons (ev_var rfl) (ea_cons (ev_var rfl) (ea_cons (ev_var rfl) ea_nil))) (ex_l e4 (ex_l less_ex il)) (by omega) (hb2.up (by omega)) hm hs) fun q H5 hq e5 hqL => ?_
      refine s_app ((e4.trans e5) _ _ hL) (ev_var rfl) (ev_var rfl) (by rw [List.length_map]; omega) fun H6 e6 => ⟨q, (horI m s rest).2, acc ++ [(horI m s rest).1], _, rfl, Ex.mut (((e.trans e4).trans e5).trans e6) hSn, ?_, ?_, by rw [hor_len]; omega, by rw [List.length_append, List.length_singleton]; omega, (hor_bits (by omega) hb2 hm hs).up (by omega), ?_⟩
      · rw [upd_same, List.map_append]
        rfl
      · rw [less_upd]
        exact ex_l (less_up e6) (less_new ⟨_, e4 _ _ hL⟩ hq hqL)
      · rw [eq, taylor_cons m s r0, List.append_assoc]
        rfl
    · have c := of_decide_eq_false c
      rw [List.length_map] at c
      have rn : rest = [] := List.eq_nil_of_length_eq_zero (by omega)
      subst rn
      have e9 : taylorI m s ns = acc := by
        rw [eq]
        exact List.append_nil _
      rw [e9] at k
      exact s_ret (ev_var rfl) fun H5 e5 => k S H5 hSn ((e.trans e4).trans e5) ((e4.trans e5) _ _ hL)
/-! leading_zeros -/
def sp_leading_zeros (K : PySem.W.Frag) : Sp := fun vs H Q _ => ∃ (a : Addr) (ns : List Int), vs = [.ref a] ∧ IL K H a ns ∧ ns.length ≤ 1000 ∧ RetV (.int (leadI ns : Int)) H Q
theorem sv_leading_zeros {a : Addr} {ns : List Int} {H : Hp} (h1 : IL K H a ns) (hl : ns.length ≤ 1000) : SpV (sp_leading_zeros K) [.ref a] H (.int (leadI ns : Int)) := fun _ e _ q _ => ⟨a, ns, rfl, ex_l e h1, hl, q⟩
theorem lead_drop : ∀ (i : Nat) (ns : List Int), i ≤ ns.length → (∀ j, j < i → ns.getD j 0 = 0) → leadI ns = i + leadI (ns.drop i)
  | 0, ns, _, _ => by rw [List.drop_zero, Nat.zero_add]
  | i + 1, [], h, _ => absurd h (by simp)
  | i + 1, a :: ns, h, hz => by
    have h0 : a = 0 := hz 0 (by omega)
    rw [leadI, if_neg (by simp [h0]), lead_drop i ns (by rw [List.length_cons] at h; omega) fun j hj => hz (j + 1) (by omega), List.drop_succ_cons]
    omega
theorem sc_leading_zeros : FnScope ["numbers", "at"] ["numbers"] (defScope s_leading_zeros) := ⟨rfl, rfl, rfl, by decide +kernel, rfl, by decide +kernel, by decide +kernel⟩
theorem ok_leading_zeros {f : Addr} {fd : FuncData} (F : Fun K "leading_zeros" "leading_zeros" s_leading_zeros f fd) (bR : mg "range" = none) (bL : mg "len" = none) : FnOk P w K mg base CX0 1 f fd ["numbers"] (sp_leading_zeros K) := by
  refine F.ok sc_leading_zeros (fun vs H Q E h => ?_) (fun cdv A outer s H vs Q E hr h => ?_)
  · obtain ⟨a, ns, rfl, _⟩ := h
    rfl
  · obtain ⟨a, ns, rfl, hS, hl, k⟩ := h
    refine ⟨_, pss_cons (ps_for PassesOwn.never rfl (pi_range1 (by rfl) bR (pa_cons (pe_callB call_len_seq (by rfl) bL PySem.boot_len (pa_cons (pv 0) pa_nil)) pa_nil)) (pg_name (i := 1) sc_leading_zeros.nd rfl (Or.inl rfl))
        (pss_one (ps_if (pt_cmpR op_ne (pe_ix ix_list (pv 0) (pv 1) (fun _ _ => rfl)) pe_int (nomark _)) (pss_one (ps_ret (pv 1))) pss_nil)))
      (pss_one (ps_ret (pe_callB call_len_seq (by rfl) bL PySem.boot_len (pa_cons (pv 0) pa_nil)))), ?_⟩
    refine q_forR1 (ea_cons (ev_len (ev_var rfl) hS) ea_nil) (by rw [List.length_map]; omega) (fun i σ' H' => ∃ v : Option V, σ' = [some (.ref a), v] ∧ Ex H H' ∧ ∀ j, j < i → ns.getD j 0 = 0)
      (fun H1 e1 => ⟨none, rfl, e1, fun j h => absurd h (Nat.not_lt_zero _)⟩) ?_ ?_
    · rintro i σ' H' hi ⟨v, rfl, e, hb⟩
      rw [List.length_map] at hi
      have hi : i < ns.length := by omega
      have ld := lead_drop i ns (by omega) hb
      refine s_when (et_test (ev_op (ev_atL (ev_var rfl) (ev_var rfl) hS e hi) ev_c (rv_ne rfl))) (fun c H2 e2 => ?_) (fun c H2 e2 => ?_)
      · have c : ns.getD i 0 ≠ 0 := by simpa using c
        have ez : leadI ns = i := by
          rw [ld]
          have : ns.drop i = ns.getD i 0 :: ns.drop (i + 1) := by
            rw [List.drop_eq_getElem_cons hi, List.getD_eq_getElem?_getD, List.getElem?_eq_getElem hi]
            rfl
          rw [this, leadI, if_pos c]
          rfl
        rw [ez] at k
        exact s_ret (ev_var rfl) fun H3 e3 => k.go ((e.trans e2).trans e3)
      · have c : ns.getD i 0 = 0 := by simpa using c
        refine ⟨_, rfl, e.trans e2, fun j h => ?_⟩
        by_cases z : j = i
        · rw [z]; exact c
        · exact hb j (by omega)
    · rintro σ' H' ⟨v, rfl, e, hb⟩
      rw [List.length_map, Int.toNat_natCast] at hb
      have ez : leadI ns = ns.length := by
        rw [lead_drop ns.length ns (Nat.le_refl _) hb, List.drop_length]
        rfl
      rw [ez] at k
      refine s_ret (ev_is (ev_len (ev_var rfl) (ex_l e hS)) (by rw [List.length_map])) fun H3 e3 => k.go (e.trans e3)
/-! an eigenvalue: the class -/
def gF (p : Addr) (n : Int) : List (Str × V) := [("p", .ref p), ("number", .int n)]
def EigAt (C p : Addr) (n : Int) : V → Hp → Prop := fun v H => ∃ a dx, v = .ref a ∧ H a = some (.ins C dx (gF p n))
theorem gF_p (p : Addr) (n : Int) : (gF p n).lookup ("p" : Str) = some (.ref p) := lk_here
theorem gF_number (p : Addr) (n : Int) : (gF p n).lookup ("number" : Str) = some (.int n) := (lk_past (by decide +kernel)).trans lk_here
theorem gF_side (p : Addr) (n : Int) : (gF p n).lookup ("side" : Str) = none := (lk_past (by decide +kernel)).trans ((lk_past (by decide +kernel)).trans rfl)
theorem gF_new (p : Addr) (n : Int) : putF "number" (.int n) (putF "p" (.ref p) []) = gF p n := (put_past (by decide +kernel)).trans rfl
structure TxtEigenvalue (K : PySem.W.Frag) (C : Addr) : Prop where
  cl : Cls K C
  nP : NoAttr K C "p"
  nN : NoAttr K C "number"
def sp_Eigenvalue_init (C : Addr) : Sp := fun vs H Q _ => ∃ (x dx p : Addr) (n : Int), vs = [.ref x, .ref p, .int n] ∧ H x = some (.ins C dx []) ∧
  ∀ H' : Hp, H' x = some (.ins C dx (gF p n)) → (∀ c o, H c = some o → c ≠ x → H' c = some o) → Q .non H'
theorem sc_Eigenvalue_init : FnScope ["self", "p", "number"] ["self", "p", "number"] (defScope s_Eigenvalue___init__) := ⟨rfl, rfl, rfl, by decide +kernel, rfl, by decide +kernel, by decide +kernel⟩
theorem ok_Eigenvalue_init {C : Addr} {f : Addr} {fd : FuncData} (F : Fun K "__init__" "Eigenvalue.__init__" s_Eigenvalue___init__ f fd) (T : TxtEigenvalue K C) : FnOk P w K mg base CX0 2 f fd ["self", "p", "number"] (sp_Eigenvalue_init C) := by
  refine (F.ok (k := 0) sc_Eigenvalue_init (fun vs H Q E h => ?_) (fun cdv A outer s H vs Q E hr h => ?_)).mono (by decide)
  · obtain ⟨x, dx, p, n, rfl, _⟩ := h
    rfl
  · obtain ⟨x, dx, p, n, rfl, hp, k⟩ := h
    refine ⟨_, pss_cons (ps_fld (pv 0) (pv 1) rfl) (pss_one (ps_fld (pv 0) (pv 2) rfl)), ?_⟩
    refine ⟨_, rfl, _, rfl, x, C, dx, [], rfl, hp, T.cl, T.nP, (by show 0 < 1000; decide), ?_⟩
    refine ⟨_, rfl, _, rfl, x, C, dx, _, rfl, upd_same, T.cl, T.nN, (by show 1 < 1000; decide), ?_⟩
    exact k _ (Eq.trans upd_same (congrArg (fun q => some (HO.ins C dx q)) (gF_new _ _))) fun c o hc hb => by
      rw [upd_ne hb, upd_ne hb]
      exact hc
structure EigNum (K : PySem.W.Frag) (C : Addr) (H : Hp) (a : Addr) (sd : Side) : Prop where
  ex : ∃ p n ns dx, H a = some (.ins C dx (gF p n)) ∧ IL K H p ns ∧ ns.length ≤ 20 ∧ Bt 8000000 ns ∧ sd = eigSide ns n
theorem sc_Eigenvalue_side : FnScope ["self", "m", "s", "numbers", "reached"] ["self", "m", "s"] (defScope s_Eigenvalue_side) := ⟨rfl, rfl, rfl, by decide +kernel, rfl, by decide +kernel, by decide +kernel⟩
theorem ok_Eigenvalue_side {C : Addr} {f : Addr} {fd : FuncData} (F : Fun K "side" "Eigenvalue.side" s_Eigenvalue_side f fd) (T : TxtEigenvalue K C) (h1 : Has P w K mg base 2 "taylor" ["p", "m", "s"] (sp_taylor K)) (h2 : Has P w K mg base 2 "changes" ["numbers"] (sp_changes K)) (h3 : Has P w K mg base 1 "leading_zeros" ["numbers"] (sp_leading_zeros K)) (bL : mg "len" = none) : FnOk P w K mg base CX0 4 f fd ["self", "m", "s"] (sp_side (EigNum K C)) := by
  refine F.ok sc_Eigenvalue_side (fun vs H Q E h => ?_) (fun cdv A outer s H vs Q E hr h => ?_)
  · obtain ⟨a, m, s, sd, rfl, _⟩ := h
    rfl
  · obtain ⟨a, m, s, sd, rfl, ⟨p, n, ns, dx, ha, hS, hl, hb, rfl⟩, hm, hs, k⟩ := h
    refine ⟨_, pss_cons (ps_set (i := 3) sc_Eigenvalue_side.nd rfl (.inl rfl) (pe_callH h1 hr (pa_cons (pe_fld (pv 0) rfl) (pa_cons (pv 1) (pa_cons (pv 2) pa_nil)))))
      (pss_cons (ps_set (i := 4) sc_Eigenvalue_side.nd rfl (.inl rfl) (pe_op op_sub (pe_op op_sub (pe_callB call_len_seq (by rfl) bL PySem.boot_len (pa_cons (pe_fld (pv 0) rfl) pa_nil)) pe_int) (pe_callH h2 hr (pa_cons (pv 3) pa_nil))))
      (pss_cons (ps_if (pt_cmpR op_gt (pe_fld (pv 0) rfl) (pv 4) (nomark _)) (pss_one (ps_ret pe_int)) pss_nil)
      (pss_cons (ps_if (pt_cmpR op_gt (pe_fld (pv 0) rfl) (pe_op op_sub (pv 4) (pe_callH h3 hr (pa_cons (pv 3) pa_nil))) (nomark _)) (pss_one (ps_ret pe_int)) pss_nil)
      (pss_one (ps_ret (pe_un un_neg pe_int)))))), ?_⟩
    have tl := taylor_len m s ns.length ns rfl
    unfold eigSide at k
    refine q_asgL (el_call (ea_cons (ev_fld (ev_var rfl) ha T.cl T.nP (gF_p p n)) (ea_cons (ev_var rfl) (ea_cons (ev_var rfl) ea_nil))) (sl_taylor hS hl hb hm hs)) fun q H1 hq e1 hqL => ?_
    generalize taylorI m s ns = nu at k tl hqL
    have il : IL K H1 q nu := sq_of hqL
    refine q_asg (ev_sub (ev_sub (ev_is (ev_len (ev_fld (ev_var rfl) (e1 _ _ ha) T.cl T.nP (gF_p p n)) (ex_l e1 hS)) (by rw [List.length_map])) ev_c) (ev_call (ea_cons (ev_var rfl) ea_nil) (sv_changes il (by omega)))) fun H2 e2 => ?_
    have e12 := e1.trans e2
    refine q_when (et_test (ev_op (ev_fld (ev_var rfl) (e12 _ _ ha) T.cl T.nN (gF_number p n)) (ev_var rfl) rv_I0)) (fun c H3 e3 => ?_) (fun c H3 e3 => ?_)
    · rw [if_pos (of_decide_eq_true c)] at k
      exact s_ret ev_c fun H4 e4 => k.go ((e12.trans e3).trans e4)
    · rw [if_neg (of_decide_eq_false c)] at k
      have e13 := e12.trans e3
      refine q_when (et_test (ev_op (ev_fld (ev_var rfl) (e13 _ _ ha) T.cl T.nN (gF_number p n)) (ev_sub (ev_var rfl) (ev_call (ea_cons (ev_var rfl) ea_nil) (sv_leading_zeros (ex_l (e2.trans e3) il) (by omega)))) rv_I0)) (fun c H4 e4 => ?_) (fun c H4 e4 => ?_)
      · rw [if_pos (of_decide_eq_true c)] at k
        exact s_ret ev_c fun H5 e5 => k.go ((e13.trans e4).trans e5)
      · rw [if_neg (of_decide_eq_false c)] at k
        exact s_ret (ev_neg ev_c) fun H5 e5 => k.go ((e13.trans e4).trans e5)
theorem EigNum.st {K : PySem.W.Frag} {C : Addr} {H H' : Hp} {a : Addr} {sd : Side} (e : Ex H H') (h : EigNum K C H a sd) : EigNum K C H' a sd := by
  obtain ⟨p, n, ns, dx, h1, h2, h3, h4, h5⟩ := h
  exact ⟨p, n, ns, dx, e _ _ h1, ex_l e h2, h3, h4, h5⟩
theorem EigNum.ins {K : PySem.W.Frag} {C : Addr} {H : Hp} {a : Addr} {sd : Side} (h : EigNum K C H a sd) : ∃ dx fs, H a = some (.ins C dx fs) ∧ fs.lookup ("side" : Str) = none := by
  obtain ⟨p, n, ns, dx, h1, _⟩ := h
  exact ⟨dx, _, h1, gF_side p n⟩
theorem ep_Eig {C : Addr} {σ : L2.St} {H : Hp} {ta : TA} {p : Addr} {n : Int} (h : EvA ta σ H [.ref p, .int n]) : EvP (tMake C (sp_Eigenvalue_init C) [] E0 ta) σ H (EigAt C p n) := fun H1 e Q q =>
  h H1 e _ fun H2 e2 => fun x dx hx hdx hne => ⟨x, dx, p, n, rfl, upd_same, fun H' hp hk => ⟨rfl, q _ H' (fun c o hc => hk c o (by
    have hc2 := e2 c o hc
    rw [upd_ne (ne_of_none hc2 hx), upd_ne (ne_of_none hc2 hdx)]
    exact hc2) (ne_of_none (e2 c o hc) hx)) ⟨x, dx, rfl, by rw [Fr.new (fresh_back e2 hx)]; exact hp⟩⟩⟩
/-! is_symmetric -/
def sp_is_symmetric (K : PySem.W.Frag) : Sp := fun vs H Q _ => ∃ (p : Addr) (rows : MatI), vs = [.ref p] ∧ RowsAt K H p rows ∧ rows.length ≤ 1000 ∧ RectN rows.length rows ∧ RetV (.bl (isSymM rows)) H Q
theorem sv_is_symmetric {p : Addr} {rows : MatI} {H : Hp} (h1 : RowsAt K H p rows) (h2 : rows.length ≤ 1000) (h3 : RectN rows.length rows) : SpV (sp_is_symmetric K) [.ref p] H (.bl (isSymM rows)) := fun _ e _ q _ => ⟨p, rows, rfl, ex_rows e h1, h2, h3, q⟩
theorem sc_is_symmetric : FnScope ["rows", "i", "j"] ["rows"] (defScope s_is_symmetric) := ⟨rfl, rfl, rfl, by decide +kernel, rfl, by decide +kernel, by decide +kernel⟩
theorem row_at {rows : MatI} {i : Nat} (h : i < rows.length) : rows[i]? = some (rows.getD i []) := by
  rw [List.getD_eq_getElem?_getD, List.getElem?_eq_getElem h]
  rfl
theorem ok_is_symmetric {f : Addr} {fd : FuncData} (F : Fun K "is_symmetric" "is_symmetric" s_is_symmetric f fd) (bR : mg "range" = none) (bL : mg "len" = none) : FnOk P w K mg base CX0 1 f fd ["rows"] (sp_is_symmetric K) := by
  refine F.ok sc_is_symmetric (fun vs H Q E h => ?_) (fun cdv A outer s H vs Q E hr h => ?_)
  · obtain ⟨p, rows, rfl, _⟩ := h
    rfl
  · obtain ⟨p, rows, rfl, hR, hl, hn, k⟩ := h
    refine ⟨_, pss_cons (ps_for PassesOwn.never rfl (pi_range1 (by rfl) bR (pa_cons (pe_callB call_len_seq (by rfl) bL PySem.boot_len (pa_cons (pv 0) pa_nil)) pa_nil)) (pg_name (i := 1) sc_is_symmetric.nd rfl (Or.inl rfl))
        (pss_one (ps_for PassesOwn.never rfl (pi_range1 (by rfl) bR (pa_cons (pv 1) pa_nil)) (pg_name (i := 2) sc_is_symmetric.nd rfl (Or.inl rfl))
          (pss_one (ps_if (pt_cmpR op_ne (pe_ix ix_list (pe_ix ix_list (pv 0) (pv 1) (fun _ _ => rfl)) (pv 2) (fun _ _ => rfl)) (pe_ix ix_list (pe_ix ix_list (pv 0) (pv 2) (fun _ _ => rfl)) (pv 1) (fun _ _ => rfl)) (nomark _)) (pss_one (ps_ret pe_bl)) pss_nil)))))
      (pss_one (ps_ret pe_bl)), ?_⟩
    refine q_forR1 (ea_cons (ev_lenR (ev_var rfl) hR) ea_nil) (by omega) (fun i σ' H' => ∃ v w : Option V, σ' = [some (.ref p), v, w] ∧ Ex H H' ∧ ∀ i', i' < i → ∀ j, j < i' → (rows.getD i' []).getD j 0 = (rows.getD j []).getD i' 0)
      (fun H1 e1 => ⟨none, none, rfl, e1, fun i' h => absurd h (Nat.not_lt_zero _)⟩) ?_ ?_
    · rintro i σ' H' hi ⟨v, w, rfl, e, hb⟩
      have hi : i < rows.length := by omega
      refine s_forR1 (ea_cons (ev_var rfl) ea_nil) (by omega) (fun j σ' H' => ∃ w : Option V, σ' = [some (.ref p), some (.int (i : Int)), w] ∧ Ex H H' ∧ ∀ j', j' < j → (rows.getD i []).getD j' 0 = (rows.getD j' []).getD i 0)
        (fun H1 e1 => ⟨w, rfl, e.trans e1, fun j' h => absurd h (Nat.not_lt_zero _)⟩) ?_ ?_
      · rintro j σ' H' hj ⟨w, rfl, e, hb2⟩
        have hj : j < i := by omega
        have l1 : (rows.getD i []).length = rows.length := hn _ (List.mem_of_getElem? (row_at hi))
        have l2 : (rows.getD j []).length = rows.length := hn _ (List.mem_of_getElem? (row_at (show j < rows.length by omega)))
        refine s_when (et_test (ev_op (ev_ix2 (ev_var rfl) (ev_var rfl) (ev_var rfl) (ex_rows e hR) rfl rfl (row_at hi) (getDL_some (show j < (rows.getD i []).length by omega))) (ev_ix2 (ev_var rfl) (ev_var rfl) (ev_var rfl) (ex_rows e hR) rfl rfl (row_at (show j < rows.length by omega)) (getDL_some (show i < (rows.getD j []).length by omega))) (rv_ne rfl))) (fun c H2 e2 => ?_) (fun c H2 e2 => ?_)
        · have c : (rows.getD i []).getD j 0 ≠ (rows.getD j []).getD i 0 := by simpa using c
          have ez : isSymM rows = false := by
            cases q : isSymM rows with
            | false => rfl
            | true => exact absurd (isSym_iff.1 q i hi j hj) c
          rw [ez] at k
          exact s_ret ev_c fun H3 e3 => k.go ((e.trans e2).trans e3)
        · have c : (rows.getD i []).getD j 0 = (rows.getD j []).getD i 0 := by simpa using c
          refine ⟨_, rfl, e.trans e2, fun j' h => ?_⟩
          by_cases z : j' = j
          · rw [z]; exact c
          · exact hb2 j' (by omega)
      · rintro σ' H' ⟨w, rfl, e, hb2⟩
        rw [Int.toNat_natCast] at hb2
        refine ⟨_, _, rfl, e, fun i' h => ?_⟩
        by_cases z : i' = i
        · rw [z]; exact hb2
        · exact hb i' (by omega)
    · rintro σ' H' ⟨v, w, rfl, e, hb⟩
      rw [Int.toNat_natCast] at hb
      have ez : isSymM rows = true := isSym_iff.2 hb
      rw [ez] at k
      exact s_ret ev_c fun H3 e3 => k.go (e.trans e3)

/-! characteristic -/
theorem part_rect (rows : MatI) (k : List Nat) : RectN (partM rows k).length (partM rows k) := fun r hr => by
  unfold partM at hr ⊢
  obtain ⟨i, _, rfl⟩ := List.mem_map.mp hr
  rw [List.length_map, List.length_map]
theorem part_small {b : Nat} {rows : MatI} (h : Small b rows) (k : List Nat) : Small b (partM rows k) := fun r hr x hx => by
  unfold partM at hr
  obtain ⟨i, _, rfl⟩ := List.mem_map.mp hr
  obtain ⟨j, _, rfl⟩ := List.mem_map.mp hx
  by_cases hi : i < rows.length
  · have hm := List.mem_of_getElem? (row_at hi)
    by_cases hj : j < (rows.getD i []).length
    · exact h _ hm _ (getDL_mem hj)
    · rw [List.getD_eq_getElem?_getD (l := rows.getD i []), List.getElem?_eq_none (by omega)]
      exact Nat.pow_pos (by decide)
  · have e : rows.getD i [] = [] := by rw [List.getD_eq_getElem?_getD, List.getElem?_eq_none (by omega)]; rfl
    rw [e]
    exact Nat.pow_pos (by decide)
theorem kept_len (n c : Nat) : (keptL n c).length ≤ n := by
  unfold keptL
  have := List.length_filter_le (fun i => decide (c / 2 ^ i % 2 = 1)) (List.range n)
  rw [List.length_range] at this
  exact this
theorem kept_lt {n c i : Nat} (h : i ∈ keptL n c) : i < n := by
  unfold keptL at h
  exact List.mem_range.1 (List.mem_filter.1 h).1
theorem char_len (rows : MatI) : ∀ c, (charN rows c).length = rows.length + 1
  | 0 => List.length_replicate ..
  | c + 1 => by
    show (charStep rows (charN rows c) c).length = _
    unfold charStep
    rw [List.length_set, char_len rows c]
theorem char_bits {rows : MatI} (hl : rows.length ≤ 4) (hS : Small 20000 rows) : ∀ c, Bt (80010 + c) (charN rows c)
  | 0 => fun n hn => by
    have : n = 0 := List.eq_of_mem_replicate hn
    rw [this]
    exact Nat.pow_pos (by decide)
  | c + 1 => fun n hn => by
    have ih := char_bits hl hS c
    have hn : n ∈ charStep rows (charN rows c) c := hn
    unfold charStep at hn
    rcases List.mem_or_eq_of_mem_set hn with h | h
    · exact (ih.up (by omega)) n h
    · rw [h]
      have kl := kept_len rows.length c
      have d : (detM (keptL rows.length c).length (partM rows (keptL rows.length c))).natAbs < 2 ^ 80009 := by
        have pl : (partM rows (keptL rows.length c)).length = (keptL rows.length c).length := by unfold partM; rw [List.length_map]
        have pr := part_rect rows (keptL rows.length c)
        rw [pl] at pr
        exact detM_lt (by omega) pl pr (part_small hS _) (Nat.le_refl _)
      refine add_bits (ih.get _) ?_
      rw [signed_abs]
      exact Nat.lt_of_lt_of_le d (Nat.pow_le_pow_right (by decide) (show 80009 ≤ 80010 + c from Nat.le_trans (by decide) (Nat.le_add_right 80010 c)))
theorem el_rep {σ : L2.St} {H : Hp} {ta tb : TE} {xs : List V} {k : Int} (h1 : EvL ta σ H xs) (h2 : Ev tb σ H (.int k)) (hk : -(2 ^ 63) ≤ k) (hk2 : k < 2 ^ 63) (hz : xs.length * k.toNat ≤ 100000) : EvL (tOp rRep ta tb) σ H (List.replicate k.toNat xs).flatten := fun H1 e Q q =>
  h1 H1 e _ fun p H2 hp e2 h2' => h2 H2 (e.trans e2) _ fun H3 e3 => ⟨p, k, xs, rfl, rfl, e3 _ _ h2', hk, hk2, sz_of hz, fun r hr => q r _ (fresh_back (e2.trans e3) hr) ((e2.trans e3).trans (Ex.new hr)) upd_same⟩
theorem flat_rep (x : V) : ∀ n : Nat, (List.replicate n [x]).flatten = List.replicate n x
  | 0 => rfl
  | n + 1 => by rw [List.replicate_succ, List.flatten_cons, flat_rep x n]; rfl
theorem ev_shr {σ : L2.St} {H : Hp} {ta tb : TE} {i : Int} {k : Nat} (ha : Ev ta σ H (.int i)) (hb : Ev tb σ H (.int (k : Int))) : Ev (tOp (fun x y H Q => ∃ (i : Int) (k : Nat), x = .int i ∧ y = .int (k : Int) ∧ Q (.int (i / 2 ^ k)) H) ta tb) σ H (.int (i / 2 ^ k)) :=
  ev_op ha hb fun H1 e Q q => ⟨i, k, rfl, rfl, q H1 (Ex.refl H1)⟩
theorem el_nats {σ : L2.St} {H : Hp} {te tl : TE} {a : Addr} {ks : List Nat} {j : Nat} {vs : List Nat} (F : Nat → V) (h : Ev tl σ H (.ref a)) (hx : SqL K H a (ks.map fun (k : Nat) => V.int (k : Int))) (hz : ks.length ≤ 40000) (hw : ∀ x, wipe ((wipe σ vs).set j (some x)) vs = wipe σ vs)
    (he : ∀ k ∈ ks, ∀ H1, Ex H H1 → Ev te ((wipe σ vs).set j (some (.int (k : Int)))) H1 (F k)) : EvL (tLc (iList K tl) (gName j) tYes te vs) σ H (ks.map F) :=
  (lp_list (fun i u _ => (ks.map F)[i]? = some u) st_val h hx (by rw [List.length_map]; exact hz) hw fun i x H1 e hi => by
    rw [List.getElem?_map] at hi
    cases q : ks[i]? with
    | none => rw [q] at hi; cases hi
    | some n =>
      rw [q] at hi
      cases hi
      refine fun H2 e2 Q k => he n (List.mem_of_getElem? q) H1 e H2 e2 Q fun H3 e3 => k _ H3 e3 ?_
      rw [List.getElem?_map, q]
      rfl).vals (by rw [List.length_map, List.length_map])
theorem er_nats {σ : L2.St} {H : Hp} {te tl : TE} {a : Addr} {ks : List Nat} {j : Nat} {vs : List Nat} (G : Nat → List Int) (h : Ev tl σ H (.ref a)) (hx : SqL K H a (ks.map fun (k : Nat) => V.int (k : Int))) (hz : ks.length ≤ 40000) (hw : ∀ x, wipe ((wipe σ vs).set j (some x)) vs = wipe σ vs)
    (he : ∀ k ∈ ks, ∀ H1, Ex H H1 → EvL te ((wipe σ vs).set j (some (.int (k : Int)))) H1 ((G k).map V.int)) : EvR K (tLc (iList K tl) (gName j) tYes te vs) σ H (ks.map G) :=
  er_items (lp_list (RowItem K (ks.map G)) RowItem.st h hx (by rw [List.length_map]; exact hz) hw fun i x H1 e hi => by
    rw [List.getElem?_map] at hi
    cases q : ks[i]? with
    | none => rw [q] at hi; cases hi
    | some n =>
      rw [q] at hi
      cases hi
      refine fun H2 e2 Q2 q2 => EvL.p (he n (List.mem_of_getElem? q) H1 e) H2 e2 Q2 fun v H3 e3 hv => q2 v H3 e3 ?_
      obtain ⟨p3, rfl, hp3⟩ := hv
      exact ⟨p3, G n, rfl, by rw [List.getElem?_map, q]; rfl, sq_of hp3⟩) (by rw [List.length_map, List.length_map])
def sp_characteristic (K : PySem.W.Frag) : Sp := fun vs H Q _ => ∃ (p : Addr) (rows : MatI), vs = [.ref p] ∧ RowsAt K H p rows ∧ rows.length ≤ 4 ∧ RectN rows.length rows ∧ Small 20000 rows ∧ RetL ((charI rows).map V.int) H Q
theorem sl_characteristic {p : Addr} {rows : MatI} {H : Hp} (h1 : RowsAt K H p rows) (h2 : rows.length ≤ 4) (h3 : RectN rows.length rows) (h4 : Small 20000 rows) : SpL (sp_characteristic K) [.ref p] H ((charI rows).map V.int) := fun _ e _ q _ => ⟨p, rows, rfl, ex_rows e h1, h2, h3, h4, q⟩
theorem sc_characteristic : FnScope ["rows", "size", "p", "chosen", "kept", "i", "part", "j"] ["rows"] (defScope s_characteristic) := ⟨rfl, rfl, rfl, by decide +kernel, rfl, by decide +kernel, by decide +kernel⟩
theorem ok_characteristic {f : Addr} {fd : FuncData} (F : Fun K "characteristic" "characteristic" s_characteristic f fd) (h1 : Has P w K mg base 6 "determinant" ["rows"] (sp_determinant K 4)) (h2 : Has P w K mg base 1 "signed" ["power", "number"] sp_signed) (bR : mg "range" = none) (bL : mg "len" = none) : FnOk P w K mg base CX0 7 f fd ["rows"] (sp_characteristic K) := by
  refine F.ok sc_characteristic (fun vs H Q E h => ?_) (fun cdv A outer s H vs Q E hr h => ?_)
  · obtain ⟨p, rows, rfl, _⟩ := h
    rfl
  · obtain ⟨pr, rows, rfl, hR, hl, hn, hS, k⟩ := h
    refine ⟨_, pss_cons (ps_set (i := 1) sc_characteristic.nd rfl (.inl rfl) (pe_callB call_len_seq (by rfl) bL PySem.boot_len (pa_cons (pv 0) pa_nil)))
      (pss_cons (ps_set (i := 2) sc_characteristic.nd rfl (.inl rfl) (pe_op op_rep (pe_lst (pa_cons pe_int pa_nil)) (pe_op op_add (pv 1) pe_int)))
      (pss_cons (ps_for PassesOwn.never rfl (pi_range1 (by rfl) bR (pa_cons (pe_op op_shlN pe_int (pv 1)) pa_nil)) (pg_name (i := 3) sc_characteristic.nd rfl (Or.inr rfl))
        (pss_cons (ps_set (i := 4) sc_characteristic.nd rfl (.inr rfl) (pe_lc (own := [("i", 5)]) (g := gName 5) rfl sc_characteristic.nd (pi_range1 (by rfl) bR (pa_cons (pv 1) pa_nil)) (blkOk_by (own := [("i", 5)]) (N := ["rows", "size", "p", "chosen", "kept", "i", "part", "j"]) (sc := defScope s_characteristic) (by decide +kernel))
          (fun _ _ _ _ _ => pg_name (i := 5) sc_characteristic.nd rfl (Or.inl rfl)) (fun _ _ _ _ _ => pts_one (pt_cmpR op_eq (pe_op op_mod (pe_op op_shrN (pv 3) (pv 5)) pe_int) pe_int (nomark _))) (fun _ _ _ _ _ => pv 5)))
        (pss_cons (ps_setLc (i := 6) (own := [("i", 5)]) (g := gName 5) (tt := tYes) rfl sc_characteristic.nd rfl rfl (sw_true rfl rfl rfl (by decide +kernel)) (pi_list (pv 4)) (blkOk_by (own := [("i", 5)]) (N := ["rows", "size", "p", "chosen", "kept", "i", "part", "j"]) (sc := defScope s_characteristic) (by decide +kernel))
          (fun _ _ _ _ _ => pg_name (i := 5) sc_characteristic.nd rfl (Or.inr rfl)) (fun _ _ _ _ _ => pts_nil)
          (fun _ _ _ _ _ => pe_lc (own := [("j", 7)]) (g := gName 7) (tt := tYes) rfl sc_characteristic.nd (pi_listL K (pv 4)) (blkOk_by (own := [("j", 7)]) (N := ["rows", "size", "p", "chosen", "kept", "i", "part", "j"]) (by kernel_rfl))
            (fun _ _ _ _ _ => pg_name (i := 7) sc_characteristic.nd rfl (Or.inl rfl)) (fun _ _ _ _ _ => pts_nil) (fun _ _ _ _ _ => pe_ixL K (pe_ixL K (pv 0) (pv 5)) (pv 7))))
        (pss_one (ps_augS (pv 2) (pe_op op_sub (pv 1) (pe_callB call_len_seq (by rfl) bL PySem.boot_len (pa_cons (pv 4) pa_nil))) get_listN
          (pe_callH h2 hr (pa_cons (pe_callB call_len_seq (by rfl) bL PySem.boot_len (pa_cons (pv 4) pa_nil)) (pa_cons (pe_callH h1 hr (pa_cons (pv 6) pa_nil)) pa_nil))) ip_add set_list)))))
      (pss_one (ps_ret (pv 2))))), ?_⟩
    refine q_asg (ev_lenR (ev_var rfl) hR) fun H1 e1 => ?_
    refine q_asgL (el_is (ys := (charN rows 0).map V.int) (el_rep (k := ((rows.length + 1 : Nat) : Int)) (el_lst (ea_cons ev_c ea_nil) len1) (ev_is (ev_add (ev_var rfl) ev_c) rfl) (by omega) (by omega) (by rw [Int.toNat_natCast, List.length_singleton]; omega)) (by
      rw [Int.toNat_natCast, flat_rep]
      show _ = (List.replicate (rows.length + 1) (0 : Int)).map V.int
      rw [List.map_replicate])) fun P H2 hP e2 hPL => ?_
    have hPn : H P = none := fresh_back e1 hP
    have hpow : (1 : Int) * 2 ^ rows.length = ((2 ^ rows.length : Nat) : Int) := by rw [Int.one_mul, Int.natCast_pow]; rfl
    have hp16 : 2 ^ rows.length ≤ 2 ^ 4 := Nat.pow_le_pow_right (by decide) hl
    refine q_forR1 (n := ((2 ^ rows.length : Nat) : Int)) (ea_cons (ev_is (ev_shl (ev_c (v := .int 1)) (ev_var rfl) (shl_ok (i := 1) (n := 1) (by decide) (by omega))) (by rw [hpow])) ea_nil) ⟨Int.natCast_nonneg _, Int.ofNat_le.2 (Nat.le_trans hp16 (by decide))⟩ (fun c σ' H' => ∃ v3 v4 v5 v6 v7 : Option V, σ' = [some (.ref pr), some (.int (rows.length : Int)), some (.ref P), v3, v4, v5, v6, v7] ∧ Ex H H' ∧ H' P = some (.lst ((charN rows c).map V.int)))
      (fun H3 e3 => ⟨none, none, none, none, none, rfl, (e1.trans e2).trans e3, e3 _ _ hPL⟩) ?_ ?_
    · rintro c σ' H' hc ⟨v3, v4, v5, v6, v7, rfl, e, hL⟩
      have kl := kept_len rows.length c
      refine q_asgL (el_is (ys := (keptL rows.length c).map fun (k : Nat) => V.int (k : Int)) (el_lcR1 (n := (rows.length : Int)) (fun i => decide (c / 2 ^ i % 2 = 1)) (fun (i : Nat) => V.int (i : Int)) (ea_cons (ev_var rfl) ea_nil) (by omega) (fun x => rfl) (fun i H3 e3 hi => ?_) (fun i H3 e3 hi hf => ev_var rfl)) (by rw [Int.toNat_natCast]; rfl)) fun q H3 hq e3 hqL => ?_
      · refine et_is (et_test (ev_op (ev_op (ev_shr (ev_var rfl) (ev_var rfl)) ev_c (rv_I (by decide))) ev_c (rv_eq rfl))) ?_
        have en : (c : Int) / 2 ^ i = ((c / 2 ^ i : Nat) : Int) := by rw [Int.natCast_ediv, Int.natCast_pow]; rfl
        rw [en]
        generalize c / 2 ^ i = d
        by_cases z : d % 2 = 1
        · rw [decide_eq_true z]
          have : ((d : Int) % 2) = 1 := by omega
          simp [this]
        · rw [decide_eq_false z]
          have : ¬ ((d : Int) % 2) = 1 := by omega
          simp [this]
      · have kq : SqL K H3 q ((keptL rows.length c).map fun (k : Nat) => V.int (k : Int)) := sq_of hqL
        generalize hks : keptL rows.length c = ks at kl kq
        refine q_asgR (rows := partM rows ks) (er_nats (fun i => ks.map fun j => (rows.getD i []).getD j 0) (ev_var rfl) kq (by omega) (fun x => rfl) fun i hi H4 e4 => el_is (el_nats (fun j => V.int ((rows.getD i []).getD j 0)) (ev_var rfl) (ex_l e4 kq) (by omega) (fun x => rfl) fun j hj H5 e5 => ?_) (by rw [List.map_map]; rfl)) fun qp H4 hqp e4 hR4 => ?_
        · have hi : i < rows.length := kept_lt (hks ▸ hi)
          have hj : j < rows.length := kept_lt (hks ▸ hj)
          have l1 : (rows.getD i []).length = rows.length := hn _ (List.mem_of_getElem? (row_at hi))
          exact ev_ix2 (ev_var rfl) (ev_var rfl) (ev_var rfl) (ex_rows (((e.trans e3).trans e4).trans e5) hR) rfl rfl (row_at hi) (getDL_some (show j < (rows.getD i []).length by omega))
        · have pl : (partM rows ks).length = ks.length := by unfold partM; rw [List.length_map]
          have hd := part_rect rows ks
          have hv : ((charN rows c).map V.int)[rows.length - ks.length]? = some (.int ((charN rows c).getD (rows.length - ks.length) 0)) := by
            rw [List.getElem?_map, getDL_some (by rw [char_len]; omega)]
            rfl
          have lenk : ∀ {H6 : Hp} {σ6 : L2.St} {te : TE}, Ex H4 H6 → Ev te σ6 H6 (.ref q) → Ev (tCB (rLenS K) (tCons te tNil)) σ6 H6 (.int (ks.length : Int)) := fun e6 h6 => ev_is (ev_len h6 (ex_l (e4.trans e6) kq)) (by rw [List.length_map])
          refine s_addAt (j := rows.length - ks.length) (b := signedM ks.length (detM ks.length (partM rows ks))) ((e3.trans e4) _ _ hL) (ev_var rfl) (ev_is (ev_sub (ev_var rfl) (lenk (Ex.refl _) (ev_var rfl))) (by congr 1; omega)) hv
            (ev_call (ea_cons (lenk (Ex.refl _) (ev_var rfl)) (ea_cons (ev_call (ea_cons (ev_var rfl) ea_nil) (by
              have q := sv_determinant (n := 4) hR4 (by omega) hd (part_small hS _)
              rw [pl] at q
              exact q)) ea_nil)) sv_signed) fun H6 e6 => ⟨_, _, _, _, _, rfl, Ex.mut (((e.trans e3).trans e4).trans e6) hPn, ?_⟩
          rw [upd_same]
          show _ = some (HO.lst ((charStep rows (charN rows c) c).map V.int))
          unfold charStep
          rw [hks, List.map_set]
    · rintro σ' H' ⟨v3, v4, v5, v6, v7, rfl, e, hL⟩
      rw [Int.toNat_natCast] at hL
      exact s_ret (ev_var rfl) fun H5 e5 => k P H5 hPn (e.trans e5) (e5 _ _ hL)

/-! eigen -/
theorem lp_eigs {C p : Addr} {σ : L2.St} {H : Hp} {ta tb : TA} {j : Nat} {vs : List Nat} {ns : List Int} {n : Int} (h : EvA ta σ H [.int n]) (hn : -40000 ≤ n ∧ n ≤ 40000) (hw : ∀ x, wipe ((wipe σ vs).set j (some x)) vs = wipe σ vs) (hS : IL K H p ns) (hl : ns.length ≤ 20) (hb : Bt 8000000 ns)
    (he : ∀ (i : Nat) H1, Ex H H1 → EvA tb ((wipe σ vs).set j (some (.int (i : Int)))) H1 [.ref p, .int ((i : Int) + 1)]) :
    EvLP (tLc (iRng1 ta) (gName j) tYes (tMake C (sp_Eigenvalue_init C) [] E0 tb) vs) σ H ((List.range n.toNat).map fun (k : Nat) => eigSide ns ((k : Int) + 1)).length (NumItem (EigNum K C) ((List.range n.toNat).map fun (k : Nat) => eigSide ns ((k : Int) + 1))) := by
  have key := lp_range (j := j) (te := tMake C (sp_Eigenvalue_init C) [] E0 tb) (vs := vs) (NumItem (EigNum K C) ((List.range n.toNat).map fun (k : Nat) => eigSide ns ((k : Int) + 1))) (fun i v G G' e ⟨a, sd, h1, h2, h3⟩ => ⟨a, sd, h1, h2, EigNum.st e h3⟩) h hn hw fun i H1 e hi => fun H2 e2 Q2 q2 => ep_Eig (he i H1 e) H2 e2 Q2 fun v H3 e3 hv => q2 v H3 e3 (by
    obtain ⟨a, dx, rfl, ha⟩ := hv
    exact ⟨a, _, rfl, by rw [List.getElem?_map, List.getElem?_range (by omega)]; rfl, ⟨p, _, ns, dx, ha, ex_l (e.trans (Fr.old e2 e3)) hS, hl, hb, rfl⟩⟩)
  rw [List.length_map, List.length_range]
  exact key
def sp_eigen (K : PySem.W.Frag) : Sp := fun vs H Q _ => ∃ (mode n : Int) (l : Addr) (ns : List Int), vs = [.int mode, .int n, .ref l] ∧ In64 n ∧ IL K H l ns ∧ ns.length ≤ 30 ∧ (∀ x ∈ ns, In64 x) ∧ ∀ (H' : Hp) (p : Addr), H' p = some (.lst ((eigenOf mode n ns).map V.int)) → Q (.ref p) H'
theorem sc_eigen : FnScope ["mode", "n", "a", "rows", "p", "at"] ["mode", "n", "a"] (defScope s_eigen) := ⟨rfl, rfl, rfl, by decide +kernel, rfl, by decide +kernel, by decide +kernel⟩
theorem ok_eigen {C fI : Addr} {fdI : FuncData} {f : Addr} {fd : FuncData} (F : Fun K "eigen" "eigen" s_eigen f fd) (T : NumOk P w K mg base C (EigNum K C) 8 True) (M : Mk K C fI) (gC : mg "Eigenvalue" = some (.ref C)) (GI : FnOk P w K mg base CX0 2 fI fdI ["self", "p", "number"] (sp_Eigenvalue_init C)) (bI : Binds K fdI ["self", "p", "number"] [])
    (h1 : Has P w K mg base 3 "bad_matrix" ["m", "n", "most", "a"] (sp_bad_matrix K)) (h2 : Has P w K mg base 11 "answer" ["mode", "numbers"] (sp_answer K (EigNum K C))) (h3 : Has P w K mg base 3 "all_units" ["numbers"] (sp_all_units K)) (h4 : Has P w K mg base 1 "rows_of" ["a", "width"] (sp_rows_of K)) (h5 : Has P w K mg base 1 "is_symmetric" ["rows"] (sp_is_symmetric K)) (h6 : Has P w K mg base 7 "characteristic" ["rows"] (sp_characteristic K)) (bR : mg "range" = none) : FnOk P w K mg base CX0 12 f fd ["mode", "n", "a"] (sp_eigen K) := by
  refine F.ok sc_eigen (fun vs H Q E h => ?_) (fun cdv A outer s H vs Q E hr h => ?_)
  · obtain ⟨mode, n, l, ns, rfl, _⟩ := h
    rfl
  · obtain ⟨mode, n, l, ns, rfl, hn, hS, hl, hns, k⟩ := h
    have hr3 : Room 3 _ := hr.mono (by decide)
    refine ⟨_, pss_cons (ps_if (PW.pt (pw_or (pt_cmpR op_gt (pv 0) pe_int (nomark _)) (pw_or1 (pt_val (pe_callH h1 hr (pa_cons (pv 1) (pa_cons (pv 1) (pa_cons pe_int (pa_cons (pv 2) pa_nil))))))))) (pss_one (ps_ret (pe_lst (pa_cons (pe_un un_neg pe_int) pa_nil)))) pss_nil)
      (pss_cons (ps_set (i := 3) sc_eigen.nd rfl (.inl rfl) (pe_callH h4 hr (pa_cons (pe_callH h3 hr (pa_cons (pv 2) pa_nil)) (pa_cons (pv 1) pa_nil))))
      (pss_cons (ps_if (pt_not (pt_val (pe_callH h5 hr (pa_cons (pv 3) pa_nil)))) (pss_one (ps_ret (pe_lst (pa_cons (pe_un un_neg pe_int) pa_nil)))) pss_nil)
      (pss_cons (ps_set (i := 4) sc_eigen.nd rfl (.inr rfl) (pe_callH h6 hr (pa_cons (pv 3) pa_nil)))
      (pss_one (ps_ret (pe_callH h2 hr (pa_cons (pv 0) (pa_cons (pe_lc (own := [("at", 5)]) (g := gName 5) (tt := tYes) rfl sc_eigen.nd (pi_range1 (by rfl) bR (pa_cons (pv 1) pa_nil)) (blkOk_by (own := [("at", 5)]) (N := ["mode", "n", "a", "rows", "p", "at"]) (sc := defScope s_eigen) (by decide +kernel))
        (fun _ _ _ _ _ => pg_name (i := 5) sc_eigen.nd rfl (Or.inl rfl)) (fun _ _ _ _ _ => pts_nil) (fun _ _ _ _ _ => pe_make M GI hr3 rfl gC bI .nil pass0 (pa_cons (pv 4) (pa_cons (pe_op op_add (pv 5) pe_int) pa_nil)))) pa_nil)))))))), ?_⟩
    unfold eigenOf at k
    refine q_when (et_or (et_test (ev_op (ev_var rfl) ev_c rv_I0)) fun _ => et_B (ev_call (ea_cons (ev_var rfl) (ea_cons (ev_var rfl) (ea_cons ev_c (ea_cons (ev_var rfl) ea_nil)))) (sv_bad_matrix hn hn hS (by omega)))) (fun c H1 e1 => ?_) (fun c H1 e1 => ?_)
    · rw [if_pos c] at k
      exact s_retL (el_lst (ea_cons (ev_neg ev_c) ea_nil) len1) fun p H2 _ _ h2 => k H2 p h2
    · rw [if_neg (by rw [c]; decide)] at k
      obtain ⟨_, n', rfl, b1, b2, b3⟩ := square_of (mode := mode) hn (by rw [c]; decide)
      rw [Int.toNat_natCast] at k
      have hRs := rowsN_small (m := n') (n := n') hns
      have hRl : (rowsOf (ns.map unitsOf) n' n').length = n' := by unfold rowsOf; rw [List.length_map, List.length_range]
      have hRr : RectN n' (rowsOf (ns.map unitsOf) n' n') := rowsN_rect
      refine q_asgR (er_units (ev_var rfl) (ev_var rfl) (ex_l e1 hS) (by omega) hns b3 b1 (by omega) (by omega)) fun pR H2 hpR e2 hR2 => ?_
      generalize rowsOf (ns.map unitsOf) n' n' = R at k hRs hRl hRr hR2
      have hRr : RectN R.length R := by rw [hRl]; exact hRr
      refine q_when (et_not (et_B (ev_call (ea_cons (ev_var rfl) ea_nil) (sv_is_symmetric hR2 (by omega) hRr)))) (fun c H3 e3 => ?_) (fun c H3 e3 => ?_)
      · have c : isSymM R = false := by simpa using c
        rw [if_pos c] at k
        exact s_retL (el_lst (ea_cons (ev_neg ev_c) ea_nil) len1) fun p H2 _ _ h2 => k H2 p h2
      · have c : ¬ isSymM R = false := by
          intro z
          rw [z] at c
          exact absurd c (by decide)
        rw [if_neg c] at k
        refine q_asgL (el_call (ea_cons (ev_var rfl) ea_nil) (sl_characteristic (ex_rows e3 hR2) (by omega) hRr hRs)) fun q H4 hq e4 hqL => ?_
        have cl : (charI R).length ≤ 20 := by
          unfold charI
          rw [char_len]
          omega
        have cb : Bt 8000000 (charI R) := by
          have p16 : 2 ^ R.length ≤ 2 ^ 4 := Nat.pow_le_pow_right (by decide) (by omega)
          exact (char_bits (by omega) hRs (2 ^ R.length)).up (by omega)
        exact s_retL (el_answer T (ev_var rfl) (lp_eigs (n := (n' : Int)) (ea_cons (ev_var rfl) ea_nil) (by omega) (fun x => rfl) (sq_of hqL) cl cb fun i H5 e5 => ea_cons (ev_var rfl) (ea_cons (ev_add (ev_var rfl) ev_c) ea_nil)) (by rw [List.length_map, List.length_range]; omega)) fun p H6 _ _ h6 => k H6 p h6

end
theorem all_mk {P : Program} {w : World} {K : PySem.W.Frag} {h : Heap} {mg : Str → Option Value} {fa C_Eigenvalue f_Eigenvalue_init f_Eigenvalue_side f_is_finite f_place_of f_point_at f_units_of f_all_units f_middle_above f_bits_of_lower f_bits_of_upper f_sign f_divided f_taylor f_changes f_leading_zeros f_rows_of f_minor f_determinant f_signed f_is_symmetric f_characteristic f_all_finite f_bad_size f_bad_matrix f_neighbours f_goes_up f_rounded f_answer f_eigen : Addr} (X : K.In h) (G : h.Ns mainGlobals mg) (hfa : mg "eigen" = some (.ref fa))
    {od_Eigenvalue_init an_Eigenvalue_init od_Eigenvalue_side an_Eigenvalue_side od_is_finite an_is_finite od_place_of an_place_of od_point_at an_point_at od_units_of an_units_of od_all_units an_all_units od_middle_above an_middle_above od_bits_of_lower an_bits_of_lower od_bits_of_upper an_bits_of_upper od_sign an_sign od_divided an_divided od_taylor an_taylor od_changes an_changes od_leading_zeros an_leading_zeros od_rows_of an_rows_of od_minor an_minor od_determinant an_determinant od_signed an_signed od_is_symmetric an_is_symmetric od_characteristic an_characteristic od_all_finite an_all_finite od_bad_size an_bad_size od_bad_matrix an_bad_matrix od_neighbours an_neighbours od_goes_up an_goes_up od_rounded an_rounded od_answer an_answer od_eigen an_eigen : Option Addr} {sl_Eigenvalue_init sl_Eigenvalue_side sl_is_finite sl_place_of sl_point_at sl_units_of sl_all_units sl_middle_above sl_bits_of_lower sl_bits_of_upper sl_sign sl_divided sl_taylor sl_changes sl_leading_zeros sl_rows_of sl_minor sl_determinant sl_signed sl_is_symmetric sl_characteristic sl_all_finite sl_bad_size sl_bad_matrix sl_neighbours sl_goes_up sl_rounded sl_answer sl_eigen : Array (Option Value)} {oc_Eigenvalue_init kV_Eigenvalue_init dc_Eigenvalue_init pm_Eigenvalue_init cd_Eigenvalue_init ct_Eigenvalue_init oc_Eigenvalue_side kV_Eigenvalue_side dc_Eigenvalue_side pm_Eigenvalue_side cd_Eigenvalue_side ct_Eigenvalue_side oc_is_finite kV_is_finite dc_is_finite pm_is_finite cd_is_finite ct_is_finite oc_place_of kV_place_of dc_place_of pm_place_of cd_place_of ct_place_of oc_point_at kV_point_at dc_point_at pm_point_at cd_point_at ct_point_at oc_units_of kV_units_of dc_units_of pm_units_of cd_units_of ct_units_of oc_all_units kV_all_units dc_all_units pm_all_units cd_all_units ct_all_units oc_middle_above kV_middle_above dc_middle_above pm_middle_above cd_middle_above ct_middle_above oc_bits_of_lower kV_bits_of_lower dc_bits_of_lower pm_bits_of_lower cd_bits_of_lower ct_bits_of_lower oc_bits_of_upper kV_bits_of_upper dc_bits_of_upper pm_bits_of_upper cd_bits_of_upper ct_bits_of_upper oc_sign kV_sign dc_sign pm_sign cd_sign ct_sign oc_divided kV_divided dc_divided pm_divided cd_divided ct_divided oc_taylor kV_taylor dc_taylor pm_taylor cd_taylor ct_taylor oc_changes kV_changes dc_changes pm_changes cd_changes ct_changes oc_leading_zeros kV_leading_zeros dc_leading_zeros pm_leading_zeros cd_leading_zeros ct_leading_zeros oc_rows_of kV_rows_of dc_rows_of pm_rows_of cd_rows_of ct_rows_of oc_minor kV_minor dc_minor pm_minor cd_minor ct_minor oc_determinant kV_determinant dc_determinant pm_determinant cd_determinant ct_determinant oc_signed kV_signed dc_signed pm_signed cd_signed ct_signed oc_is_symmetric kV_is_symmetric dc_is_symmetric pm_is_symmetric cd_is_symmetric ct_is_symmetric oc_characteristic kV_characteristic dc_characteristic pm_characteristic cd_characteristic ct_characteristic oc_all_finite kV_all_finite dc_all_finite pm_all_finite cd_all_finite ct_all_finite oc_bad_size kV_bad_size dc_bad_size pm_bad_size cd_bad_size ct_bad_size oc_bad_matrix kV_bad_matrix dc_bad_matrix pm_bad_matrix cd_bad_matrix ct_bad_matrix oc_neighbours kV_neighbours dc_neighbours pm_neighbours cd_neighbours ct_neighbours oc_goes_up kV_goes_up dc_goes_up pm_goes_up cd_goes_up ct_goes_up oc_rounded kV_rounded dc_rounded pm_rounded cd_rounded ct_rounded oc_answer kV_answer dc_answer pm_answer cd_answer ct_answer oc_eigen kV_eigen dc_eigen pm_eigen cd_eigen ct_eigen : Value} {t_HIDDEN t_SIGN t_INFINITE : Tok}
    (g_HIDDEN : PySem.W.nsIn K mainGlobals "HIDDEN" = some (some (.int 4503599627370496 t_HIDDEN)))
    (g_SIGN : PySem.W.nsIn K mainGlobals "SIGN" = some (some (.int 9223372036854775808 t_SIGN)))
    (g_INFINITE : PySem.W.nsIn K mainGlobals "INFINITE" = some (some (.int 9218868437227405312 t_INFINITE)))
    (b_abs : PySem.W.nsIn K mainGlobals "abs" = some none)
    (b_all : PySem.W.nsIn K mainGlobals "all" = some none)
    (b_divmod : PySem.W.nsIn K mainGlobals "divmod" = some none)
    (b_len : PySem.W.nsIn K mainGlobals "len" = some none)
    (b_list : PySem.W.nsIn K mainGlobals "list" = some none)
    (b_range : PySem.W.nsIn K mainGlobals "range" = some none)
    (b_reversed : PySem.W.nsIn K mainGlobals "reversed" = some none)
    (aC_Eigenvalue : PySem.W.nsIn K mainGlobals "Eigenvalue" = some (some (.ref C_Eigenvalue)))
    (a_Eigenvalue_init : PySem.W.findIn K (.ref C_Eigenvalue) "__init__" = some (some (.ref f_Eigenvalue_init)))
    (i_Eigenvalue_init : PySem.W.isFn K (.ref f_Eigenvalue_init) = true)
    (l_Eigenvalue_init : K.lookup f_Eigenvalue_init = some ⟨oc_Eigenvalue_init, od_Eigenvalue_init, .func (PySem.W.fnOf "__init__" "Eigenvalue.__init__" (defArgs s_Eigenvalue___init__) (defBody s_Eigenvalue___init__) (defScope s_Eigenvalue___init__) .none kV_Eigenvalue_init dc_Eigenvalue_init pm_Eigenvalue_init an_Eigenvalue_init cd_Eigenvalue_init ct_Eigenvalue_init), sl_Eigenvalue_init⟩)
    (c_Eigenvalue_init : PySem.W.codeIn K cd_Eigenvalue_init "Eigenvalue.__init__" = true)
    (k_Eigenvalue_init : PySem.W.keepIn K (.ref f_Eigenvalue_init) = true)
    (a_Eigenvalue_side : PySem.W.findIn K (.ref C_Eigenvalue) "side" = some (some (.ref f_Eigenvalue_side)))
    (i_Eigenvalue_side : PySem.W.isFn K (.ref f_Eigenvalue_side) = true)
    (l_Eigenvalue_side : K.lookup f_Eigenvalue_side = some ⟨oc_Eigenvalue_side, od_Eigenvalue_side, .func (PySem.W.fnOf "side" "Eigenvalue.side" (defArgs s_Eigenvalue_side) (defBody s_Eigenvalue_side) (defScope s_Eigenvalue_side) .none kV_Eigenvalue_side dc_Eigenvalue_side pm_Eigenvalue_side an_Eigenvalue_side cd_Eigenvalue_side ct_Eigenvalue_side), sl_Eigenvalue_side⟩)
    (c_Eigenvalue_side : PySem.W.codeIn K cd_Eigenvalue_side "Eigenvalue.side" = true)
    (k_Eigenvalue_side : PySem.W.keepIn K (.ref f_Eigenvalue_side) = true)
    (pg_Eigenvalue : PySem.W.plainGet K C_Eigenvalue Str.empty = true)
    (hd_Eigenvalue : PySem.W.hasDictIn K C_Eigenvalue = true)
    (po_Eigenvalue : PySem.W.plainOver K C_Eigenvalue = true)
    (sa_Eigenvalue : PySem.W.findIn K (.ref C_Eigenvalue) "__setattr__" = some (some (.builtin "object.__setattr__")))
    (mk_Eigenvalue : PySem.W.makesIn K C_Eigenvalue = true)
    (kc_Eigenvalue : PySem.W.keepIn K (.ref C_Eigenvalue) = true)
    (n_Eigenvalue_p : PySem.W.findIn K (.ref C_Eigenvalue) "p" = some none)
    (n_Eigenvalue_number : PySem.W.findIn K (.ref C_Eigenvalue) "number" = some none)
    (a_is_finite : PySem.W.nsIn K mainGlobals "is_finite" = some (some (.ref f_is_finite)))
    (l_is_finite : K.lookup f_is_finite = some ⟨oc_is_finite, od_is_finite, .func (PySem.W.fnOf "is_finite" "is_finite" (defArgs s_is_finite) (defBody s_is_finite) (defScope s_is_finite) .none kV_is_finite dc_is_finite pm_is_finite an_is_finite cd_is_finite ct_is_finite), sl_is_finite⟩)
    (c_is_finite : PySem.W.codeIn K cd_is_finite "is_finite" = true)
    (k_is_finite : PySem.W.keepIn K (.ref f_is_finite) = true)
    (a_place_of : PySem.W.nsIn K mainGlobals "place_of" = some (some (.ref f_place_of)))
    (l_place_of : K.lookup f_place_of = some ⟨oc_place_of, od_place_of, .func (PySem.W.fnOf "place_of" "place_of" (defArgs s_place_of) (defBody s_place_of) (defScope s_place_of) .none kV_place_of dc_place_of pm_place_of an_place_of cd_place_of ct_place_of), sl_place_of⟩)
    (c_place_of : PySem.W.codeIn K cd_place_of "place_of" = true)
    (k_place_of : PySem.W.keepIn K (.ref f_place_of) = true)
    (a_point_at : PySem.W.nsIn K mainGlobals "point_at" = some (some (.ref f_point_at)))
    (l_point_at : K.lookup f_point_at = some ⟨oc_point_at, od_point_at, .func (PySem.W.fnOf "point_at" "point_at" (defArgs s_point_at) (defBody s_point_at) (defScope s_point_at) .none kV_point_at dc_point_at pm_point_at an_point_at cd_point_at ct_point_at), sl_point_at⟩)
    (c_point_at : PySem.W.codeIn K cd_point_at "point_at" = true)
    (k_point_at : PySem.W.keepIn K (.ref f_point_at) = true)
    (a_units_of : PySem.W.nsIn K mainGlobals "units_of" = some (some (.ref f_units_of)))
    (l_units_of : K.lookup f_units_of = some ⟨oc_units_of, od_units_of, .func (PySem.W.fnOf "units_of" "units_of" (defArgs s_units_of) (defBody s_units_of) (defScope s_units_of) .none kV_units_of dc_units_of pm_units_of an_units_of cd_units_of ct_units_of), sl_units_of⟩)
    (c_units_of : PySem.W.codeIn K cd_units_of "units_of" = true)
    (k_units_of : PySem.W.keepIn K (.ref f_units_of) = true)
    (a_all_units : PySem.W.nsIn K mainGlobals "all_units" = some (some (.ref f_all_units)))
    (l_all_units : K.lookup f_all_units = some ⟨oc_all_units, od_all_units, .func (PySem.W.fnOf "all_units" "all_units" (defArgs s_all_units) (defBody s_all_units) (defScope s_all_units) .none kV_all_units dc_all_units pm_all_units an_all_units cd_all_units ct_all_units), sl_all_units⟩)
    (c_all_units : PySem.W.codeIn K cd_all_units "all_units" = true)
    (k_all_units : PySem.W.keepIn K (.ref f_all_units) = true)
    (a_middle_above : PySem.W.nsIn K mainGlobals "middle_above" = some (some (.ref f_middle_above)))
    (l_middle_above : K.lookup f_middle_above = some ⟨oc_middle_above, od_middle_above, .func (PySem.W.fnOf "middle_above" "middle_above" (defArgs s_middle_above) (defBody s_middle_above) (defScope s_middle_above) .none kV_middle_above dc_middle_above pm_middle_above an_middle_above cd_middle_above ct_middle_above), sl_middle_above⟩)
    (c_middle_above : PySem.W.codeIn K cd_middle_above "middle_above" = true)
    (k_middle_above : PySem.W.keepIn K (.ref f_middle_above) = true)
    (a_bits_of_lower : PySem.W.nsIn K mainGlobals "bits_of_lower" = some (some (.ref f_bits_of_lower)))
    (l_bits_of_lower : K.lookup f_bits_of_lower = some ⟨oc_bits_of_lower, od_bits_of_lower, .func (PySem.W.fnOf "bits_of_lower" "bits_of_lower" (defArgs s_bits_of_lower) (defBody s_bits_of_lower) (defScope s_bits_of_lower) .none kV_bits_of_lower dc_bits_of_lower pm_bits_of_lower an_bits_of_lower cd_bits_of_lower ct_bits_of_lower), sl_bits_of_lower⟩)
    (c_bits_of_lower : PySem.W.codeIn K cd_bits_of_lower "bits_of_lower" = true)
    (k_bits_of_lower : PySem.W.keepIn K (.ref f_bits_of_lower) = true)
    (a_bits_of_upper : PySem.W.nsIn K mainGlobals "bits_of_upper" = some (some (.ref f_bits_of_upper)))
    (l_bits_of_upper : K.lookup f_bits_of_upper = some ⟨oc_bits_of_upper, od_bits_of_upper, .func (PySem.W.fnOf "bits_of_upper" "bits_of_upper" (defArgs s_bits_of_upper) (defBody s_bits_of_upper) (defScope s_bits_of_upper) .none kV_bits_of_upper dc_bits_of_upper pm_bits_of_upper an_bits_of_upper cd_bits_of_upper ct_bits_of_upper), sl_bits_of_upper⟩)
    (c_bits_of_upper : PySem.W.codeIn K cd_bits_of_upper "bits_of_upper" = true)
    (k_bits_of_upper : PySem.W.keepIn K (.ref f_bits_of_upper) = true)
    (a_sign : PySem.W.nsIn K mainGlobals "sign" = some (some (.ref f_sign)))
    (l_sign : K.lookup f_sign = some ⟨oc_sign, od_sign, .func (PySem.W.fnOf "sign" "sign" (defArgs s_sign) (defBody s_sign) (defScope s_sign) .none kV_sign dc_sign pm_sign an_sign cd_sign ct_sign), sl_sign⟩)
    (c_sign : PySem.W.codeIn K cd_sign "sign" = true)
    (k_sign : PySem.W.keepIn K (.ref f_sign) = true)
    (a_divided : PySem.W.nsIn K mainGlobals "divided" = some (some (.ref f_divided)))
    (l_divided : K.lookup f_divided = some ⟨oc_divided, od_divided, .func (PySem.W.fnOf "divided" "divided" (defArgs s_divided) (defBody s_divided) (defScope s_divided) .none kV_divided dc_divided pm_divided an_divided cd_divided ct_divided), sl_divided⟩)
    (c_divided : PySem.W.codeIn K cd_divided "divided" = true)
    (k_divided : PySem.W.keepIn K (.ref f_divided) = true)
    (a_taylor : PySem.W.nsIn K mainGlobals "taylor" = some (some (.ref f_taylor)))
    (l_taylor : K.lookup f_taylor = some ⟨oc_taylor, od_taylor, .func (PySem.W.fnOf "taylor" "taylor" (defArgs s_taylor) (defBody s_taylor) (defScope s_taylor) .none kV_taylor dc_taylor pm_taylor an_taylor cd_taylor ct_taylor), sl_taylor⟩)
    (c_taylor : PySem.W.codeIn K cd_taylor "taylor" = true)
    (k_taylor : PySem.W.keepIn K (.ref f_taylor) = true)
    (a_changes : PySem.W.nsIn K mainGlobals "changes" = some (some (.ref f_changes)))
    (l_changes : K.lookup f_changes = some ⟨oc_changes, od_changes, .func (PySem.W.fnOf "changes" "changes" (defArgs s_changes) (defBody s_changes) (defScope s_changes) .none kV_changes dc_changes pm_changes an_changes cd_changes ct_changes), sl_changes⟩)
    (c_changes : PySem.W.codeIn K cd_changes "changes" = true)
    (k_changes : PySem.W.keepIn K (.ref f_changes) = true)
    (a_leading_zeros : PySem.W.nsIn K mainGlobals "leading_zeros" = some (some (.ref f_leading_zeros)))
    (l_leading_zeros : K.lookup f_leading_zeros = some ⟨oc_leading_zeros, od_leading_zeros, .func (PySem.W.fnOf "leading_zeros" "leading_zeros" (defArgs s_leading_zeros) (defBody s_leading_zeros) (defScope s_leading_zeros) .none kV_leading_zeros dc_leading_zeros pm_leading_zeros an_leading_zeros cd_leading_zeros ct_leading_zeros), sl_leading_zeros⟩)
    (c_leading_zeros : PySem.W.codeIn K cd_leading_zeros "leading_zeros" = true)
    (k_leading_zeros : PySem.W.keepIn K (.ref f_leading_zeros) = true)
    (a_rows_of : PySem.W.nsIn K mainGlobals "rows_of" = some (some (.ref f_rows_of)))
    (l_rows_of : K.lookup f_rows_of = some ⟨oc_rows_of, od_rows_of, .func (PySem.W.fnOf "rows_of" "rows_of" (defArgs s_rows_of) (defBody s_rows_of) (defScope s_rows_of) .none kV_rows_of dc_rows_of pm_rows_of an_rows_of cd_rows_of ct_rows_of), sl_rows_of⟩)
    (c_rows_of : PySem.W.codeIn K cd_rows_of "rows_of" = true)
    (k_rows_of : PySem.W.keepIn K (.ref f_rows_of) = true)
    (a_minor : PySem.W.nsIn K mainGlobals "minor" = some (some (.ref f_minor)))
    (l_minor : K.lookup f_minor = some ⟨oc_minor, od_minor, .func (PySem.W.fnOf "minor" "minor" (defArgs s_minor) (defBody s_minor) (defScope s_minor) .none kV_minor dc_minor pm_minor an_minor cd_minor ct_minor), sl_minor⟩)
    (c_minor : PySem.W.codeIn K cd_minor "minor" = true)
    (k_minor : PySem.W.keepIn K (.ref f_minor) = true)
    (a_determinant : PySem.W.nsIn K mainGlobals "determinant" = some (some (.ref f_determinant)))
    (l_determinant : K.lookup f_determinant = some ⟨oc_determinant, od_determinant, .func (PySem.W.fnOf "determinant" "determinant" (defArgs s_determinant) (defBody s_determinant) (defScope s_determinant) .none kV_determinant dc_determinant pm_determinant an_determinant cd_determinant ct_determinant), sl_determinant⟩)
    (c_determinant : PySem.W.codeIn K cd_determinant "determinant" = true)
    (k_determinant : PySem.W.keepIn K (.ref f_determinant) = true)
    (a_signed : PySem.W.nsIn K mainGlobals "signed" = some (some (.ref f_signed)))
    (l_signed : K.lookup f_signed = some ⟨oc_signed, od_signed, .func (PySem.W.fnOf "signed" "signed" (defArgs s_signed) (defBody s_signed) (defScope s_signed) .none kV_signed dc_signed pm_signed an_signed cd_signed ct_signed), sl_signed⟩)
    (c_signed : PySem.W.codeIn K cd_signed "signed" = true)
    (k_signed : PySem.W.keepIn K (.ref f_signed) = true)
    (a_is_symmetric : PySem.W.nsIn K mainGlobals "is_symmetric" = some (some (.ref f_is_symmetric)))
    (l_is_symmetric : K.lookup f_is_symmetric = some ⟨oc_is_symmetric, od_is_symmetric, .func (PySem.W.fnOf "is_symmetric" "is_symmetric" (defArgs s_is_symmetric) (defBody s_is_symmetric) (defScope s_is_symmetric) .none kV_is_symmetric dc_is_symmetric pm_is_symmetric an_is_symmetric cd_is_symmetric ct_is_symmetric), sl_is_symmetric⟩)
    (c_is_symmetric : PySem.W.codeIn K cd_is_symmetric "is_symmetric" = true)
    (k_is_symmetric : PySem.W.keepIn K (.ref f_is_symmetric) = true)
    (a_characteristic : PySem.W.nsIn K mainGlobals "characteristic" = some (some (.ref f_characteristic)))
    (l_characteristic : K.lookup f_characteristic = some ⟨oc_characteristic, od_characteristic, .func (PySem.W.fnOf "characteristic" "characteristic" (defArgs s_characteristic) (defBody s_characteristic) (defScope s_characteristic) .none kV_characteristic dc_characteristic pm_characteristic an_characteristic cd_characteristic ct_characteristic), sl_characteristic⟩)
    (c_characteristic : PySem.W.codeIn K cd_characteristic "characteristic" = true)
    (k_characteristic : PySem.W.keepIn K (.ref f_characteristic) = true)
    (a_all_finite : PySem.W.nsIn K mainGlobals "all_finite" = some (some (.ref f_all_finite)))
    (l_all_finite : K.lookup f_all_finite = some ⟨oc_all_finite, od_all_finite, .func (PySem.W.fnOf "all_finite" "all_finite" (defArgs s_all_finite) (defBody s_all_finite) (defScope s_all_finite) .none kV_all_finite dc_all_finite pm_all_finite an_all_finite cd_all_finite ct_all_finite), sl_all_finite⟩)
    (c_all_finite : PySem.W.codeIn K cd_all_finite "all_finite" = true)
    (k_all_finite : PySem.W.keepIn K (.ref f_all_finite) = true)
    (a_bad_size : PySem.W.nsIn K mainGlobals "bad_size" = some (some (.ref f_bad_size)))
    (l_bad_size : K.lookup f_bad_size = some ⟨oc_bad_size, od_bad_size, .func (PySem.W.fnOf "bad_size" "bad_size" (defArgs s_bad_size) (defBody s_bad_size) (defScope s_bad_size) .none kV_bad_size dc_bad_size pm_bad_size an_bad_size cd_bad_size ct_bad_size), sl_bad_size⟩)
    (c_bad_size : PySem.W.codeIn K cd_bad_size "bad_size" = true)
    (k_bad_size : PySem.W.keepIn K (.ref f_bad_size) = true)
    (a_bad_matrix : PySem.W.nsIn K mainGlobals "bad_matrix" = some (some (.ref f_bad_matrix)))
    (l_bad_matrix : K.lookup f_bad_matrix = some ⟨oc_bad_matrix, od_bad_matrix, .func (PySem.W.fnOf "bad_matrix" "bad_matrix" (defArgs s_bad_matrix) (defBody s_bad_matrix) (defScope s_bad_matrix) .none kV_bad_matrix dc_bad_matrix pm_bad_matrix an_bad_matrix cd_bad_matrix ct_bad_matrix), sl_bad_matrix⟩)
    (c_bad_matrix : PySem.W.codeIn K cd_bad_matrix "bad_matrix" = true)
    (k_bad_matrix : PySem.W.keepIn K (.ref f_bad_matrix) = true)
    (a_neighbours : PySem.W.nsIn K mainGlobals "neighbours" = some (some (.ref f_neighbours)))
    (l_neighbours : K.lookup f_neighbours = some ⟨oc_neighbours, od_neighbours, .func (PySem.W.fnOf "neighbours" "neighbours" (defArgs s_neighbours) (defBody s_neighbours) (defScope s_neighbours) .none kV_neighbours dc_neighbours pm_neighbours an_neighbours cd_neighbours ct_neighbours), sl_neighbours⟩)
    (c_neighbours : PySem.W.codeIn K cd_neighbours "neighbours" = true)
    (k_neighbours : PySem.W.keepIn K (.ref f_neighbours) = true)
    (a_goes_up : PySem.W.nsIn K mainGlobals "goes_up" = some (some (.ref f_goes_up)))
    (l_goes_up : K.lookup f_goes_up = some ⟨oc_goes_up, od_goes_up, .func (PySem.W.fnOf "goes_up" "goes_up" (defArgs s_goes_up) (defBody s_goes_up) (defScope s_goes_up) .none kV_goes_up dc_goes_up pm_goes_up an_goes_up cd_goes_up ct_goes_up), sl_goes_up⟩)
    (c_goes_up : PySem.W.codeIn K cd_goes_up "goes_up" = true)
    (k_goes_up : PySem.W.keepIn K (.ref f_goes_up) = true)
    (a_rounded : PySem.W.nsIn K mainGlobals "rounded" = some (some (.ref f_rounded)))
    (l_rounded : K.lookup f_rounded = some ⟨oc_rounded, od_rounded, .func (PySem.W.fnOf "rounded" "rounded" (defArgs s_rounded) (defBody s_rounded) (defScope s_rounded) .none kV_rounded dc_rounded pm_rounded an_rounded cd_rounded ct_rounded), sl_rounded⟩)
    (c_rounded : PySem.W.codeIn K cd_rounded "rounded" = true)
    (k_rounded : PySem.W.keepIn K (.ref f_rounded) = true)
    (a_answer : PySem.W.nsIn K mainGlobals "answer" = some (some (.ref f_answer)))
    (l_answer : K.lookup f_answer = some ⟨oc_answer, od_answer, .func (PySem.W.fnOf "answer" "answer" (defArgs s_answer) (defBody s_answer) (defScope s_answer) .none kV_answer dc_answer pm_answer an_answer cd_answer ct_answer), sl_answer⟩)
    (c_answer : PySem.W.codeIn K cd_answer "answer" = true)
    (k_answer : PySem.W.keepIn K (.ref f_answer) = true)
    (a_eigen : PySem.W.nsIn K mainGlobals "eigen" = some (some (.ref f_eigen)))
    (l_eigen : K.lookup f_eigen = some ⟨oc_eigen, od_eigen, .func (PySem.W.fnOf "eigen" "eigen" (defArgs s_eigen) (defBody s_eigen) (defScope s_eigen) .none kV_eigen dc_eigen pm_eigen an_eigen cd_eigen ct_eigen), sl_eigen⟩)
    (c_eigen : PySem.W.codeIn K cd_eigen "eigen" = true)
    (k_eigen : PySem.W.keepIn K (.ref f_eigen) = true)
    : ∃ fd : FuncData, (∀ (s : Shared) (us : List Value), us.length = (["mode", "n", "a"] : List Str).length → BindsTo s fd ⟨us, []⟩ ((["mode", "n", "a"] : List Str).zip us)) ∧ ∀ base : Heap, K.In base → base.Ns mainGlobals mg → FnOk P w K mg base CX0 12 fa fd ["mode", "n", "a"] (sp_eigen K) := by
  have e := hfa.symm.trans (PySem.W.mg_of X G a_eigen)
  cases e
  have F_is_finite := fun_mk (st := s_is_finite) l_is_finite c_is_finite k_is_finite
  have B_is_finite := F_is_finite.binds (ps := ["bits"]) fun _ _ _ _ _ _ us hl => match us, hl with | [_], _ => rfl
  have F_place_of := fun_mk (st := s_place_of) l_place_of c_place_of k_place_of
  have B_place_of := F_place_of.binds (ps := ["bits"]) fun _ _ _ _ _ _ us hl => match us, hl with | [_], _ => rfl
  have F_point_at := fun_mk (st := s_point_at) l_point_at c_point_at k_point_at
  have B_point_at := F_point_at.binds (ps := ["place"]) fun _ _ _ _ _ _ us hl => match us, hl with | [_], _ => rfl
  have F_units_of := fun_mk (st := s_units_of) l_units_of c_units_of k_units_of
  have B_units_of := F_units_of.binds (ps := ["bits"]) fun _ _ _ _ _ _ us hl => match us, hl with | [_], _ => rfl
  have F_all_units := fun_mk (st := s_all_units) l_all_units c_all_units k_all_units
  have B_all_units := F_all_units.binds (ps := ["numbers"]) fun _ _ _ _ _ _ us hl => match us, hl with | [_], _ => rfl
  have F_middle_above := fun_mk (st := s_middle_above) l_middle_above c_middle_above k_middle_above
  have B_middle_above := F_middle_above.binds (ps := ["place"]) fun _ _ _ _ _ _ us hl => match us, hl with | [_], _ => rfl
  have F_bits_of_lower := fun_mk (st := s_bits_of_lower) l_bits_of_lower c_bits_of_lower k_bits_of_lower
  have B_bits_of_lower := F_bits_of_lower.binds (ps := ["place"]) fun _ _ _ _ _ _ us hl => match us, hl with | [_], _ => rfl
  have F_bits_of_upper := fun_mk (st := s_bits_of_upper) l_bits_of_upper c_bits_of_upper k_bits_of_upper
  have B_bits_of_upper := F_bits_of_upper.binds (ps := ["place"]) fun _ _ _ _ _ _ us hl => match us, hl with | [_], _ => rfl
  have F_sign := fun_mk (st := s_sign) l_sign c_sign k_sign
  have B_sign := F_sign.binds (ps := ["number"]) fun _ _ _ _ _ _ us hl => match us, hl with | [_], _ => rfl
  have F_divided := fun_mk (st := s_divided) l_divided c_divided k_divided
  have B_divided := F_divided.binds (ps := ["p", "m", "s"]) fun _ _ _ _ _ _ us hl => match us, hl with | [_, _, _], _ => rfl
  have F_taylor := fun_mk (st := s_taylor) l_taylor c_taylor k_taylor
  have B_taylor := F_taylor.binds (ps := ["p", "m", "s"]) fun _ _ _ _ _ _ us hl => match us, hl with | [_, _, _], _ => rfl
  have F_changes := fun_mk (st := s_changes) l_changes c_changes k_changes
  have B_changes := F_changes.binds (ps := ["numbers"]) fun _ _ _ _ _ _ us hl => match us, hl with | [_], _ => rfl
  have F_leading_zeros := fun_mk (st := s_leading_zeros) l_leading_zeros c_leading_zeros k_leading_zeros
  have B_leading_zeros := F_leading_zeros.binds (ps := ["numbers"]) fun _ _ _ _ _ _ us hl => match us, hl with | [_], _ => rfl
  have F_rows_of := fun_mk (st := s_rows_of) l_rows_of c_rows_of k_rows_of
  have B_rows_of := F_rows_of.binds (ps := ["a", "width"]) fun _ _ _ _ _ _ us hl => match us, hl with | [_, _], _ => rfl
  have F_minor := fun_mk (st := s_minor) l_minor c_minor k_minor
  have B_minor := F_minor.binds (ps := ["rows", "i", "j"]) fun _ _ _ _ _ _ us hl => match us, hl with | [_, _, _], _ => rfl
  have F_determinant := fun_mk (st := s_determinant) l_determinant c_determinant k_determinant
  have B_determinant := F_determinant.binds (ps := ["rows"]) fun _ _ _ _ _ _ us hl => match us, hl with | [_], _ => rfl
  have F_signed := fun_mk (st := s_signed) l_signed c_signed k_signed
  have B_signed := F_signed.binds (ps := ["power", "number"]) fun _ _ _ _ _ _ us hl => match us, hl with | [_, _], _ => rfl
  have F_is_symmetric := fun_mk (st := s_is_symmetric) l_is_symmetric c_is_symmetric k_is_symmetric
  have B_is_symmetric := F_is_symmetric.binds (ps := ["rows"]) fun _ _ _ _ _ _ us hl => match us, hl with | [_], _ => rfl
  have F_characteristic := fun_mk (st := s_characteristic) l_characteristic c_characteristic k_characteristic
  have B_characteristic := F_characteristic.binds (ps := ["rows"]) fun _ _ _ _ _ _ us hl => match us, hl with | [_], _ => rfl
  have F_all_finite := fun_mk (st := s_all_finite) l_all_finite c_all_finite k_all_finite
  have B_all_finite := F_all_finite.binds (ps := ["numbers"]) fun _ _ _ _ _ _ us hl => match us, hl with | [_], _ => rfl
  have F_bad_size := fun_mk (st := s_bad_size) l_bad_size c_bad_size k_bad_size
  have B_bad_size := F_bad_size.binds (ps := ["size", "most"]) fun _ _ _ _ _ _ us hl => match us, hl with | [_, _], _ => rfl
  have F_bad_matrix := fun_mk (st := s_bad_matrix) l_bad_matrix c_bad_matrix k_bad_matrix
  have B_bad_matrix := F_bad_matrix.binds (ps := ["m", "n", "most", "a"]) fun _ _ _ _ _ _ us hl => match us, hl with | [_, _, _, _], _ => rfl
  have F_neighbours := fun_mk (st := s_neighbours) l_neighbours c_neighbours k_neighbours
  have B_neighbours := F_neighbours.binds (ps := ["number"]) fun _ _ _ _ _ _ us hl => match us, hl with | [_], _ => rfl
  have F_goes_up := fun_mk (st := s_goes_up) l_goes_up c_goes_up k_goes_up
  have B_goes_up := F_goes_up.binds (ps := ["mode", "number", "low"]) fun _ _ _ _ _ _ us hl => match us, hl with | [_, _, _], _ => rfl
  have F_rounded := fun_mk (st := s_rounded) l_rounded c_rounded k_rounded
  have B_rounded := F_rounded.binds (ps := ["mode", "number"]) fun _ _ _ _ _ _ us hl => match us, hl with | [_, _], _ => rfl
  have F_answer := fun_mk (st := s_answer) l_answer c_answer k_answer
  have B_answer := F_answer.binds (ps := ["mode", "numbers"]) fun _ _ _ _ _ _ us hl => match us, hl with | [_, _], _ => rfl
  have F_eigen := fun_mk (st := s_eigen) l_eigen c_eigen k_eigen
  have B_eigen := F_eigen.binds (ps := ["mode", "n", "a"]) fun _ _ _ _ _ _ us hl => match us, hl with | [_, _, _], _ => rfl
  have F_Eigenvalue_init := fun_mk (st := s_Eigenvalue___init__) l_Eigenvalue_init c_Eigenvalue_init k_Eigenvalue_init
  have B_Eigenvalue_init := F_Eigenvalue_init.binds (ps := ["self", "p", "number"]) fun _ _ _ _ _ _ us hl => match us, hl with | [_, _, _], _ => rfl
  have F_Eigenvalue_side := fun_mk (st := s_Eigenvalue_side) l_Eigenvalue_side c_Eigenvalue_side k_Eigenvalue_side
  have B_Eigenvalue_side := F_Eigenvalue_side.binds (ps := ["self", "m", "s"]) fun _ _ _ _ _ _ us hl => match us, hl with | [_, _, _], _ => rfl
  refine ⟨PySem.W.fnOf "eigen" "eigen" (defArgs s_eigen) (defBody s_eigen) (defScope s_eigen) .none kV_eigen dc_eigen pm_eigen an_eigen cd_eigen ct_eigen, fun s us hu => match us, hu with | [_, _, _], _ => .of_eq rfl, fun base _ _ => ?_⟩
  have G_is_finite : FnOk P w K mg base CX0 1 _ _ ["bits"] sp_is_finite := ok_is_finite F_is_finite ⟨_, PySem.W.mg_of X G g_SIGN⟩ ⟨_, PySem.W.mg_of X G g_INFINITE⟩
  have H_is_finite : Has P w K mg base 1 "is_finite" ["bits"] sp_is_finite := ⟨_, _, G_is_finite, PySem.W.mg_of X G a_is_finite, k_is_finite, B_is_finite⟩
  have G_place_of : FnOk P w K mg base CX0 1 _ _ ["bits"] sp_place_of := ok_place_of F_place_of ⟨_, PySem.W.mg_of X G g_SIGN⟩
  have H_place_of : Has P w K mg base 1 "place_of" ["bits"] sp_place_of := ⟨_, _, G_place_of, PySem.W.mg_of X G a_place_of, k_place_of, B_place_of⟩
  have G_point_at : FnOk P w K mg base CX0 1 _ _ ["place"] sp_point_at := ok_point_at F_point_at ⟨_, PySem.W.mg_of X G g_HIDDEN⟩ (PySem.W.mg_none_of X G b_divmod) (PySem.W.mg_none_of X G b_abs)
  have H_point_at : Has P w K mg base 1 "point_at" ["place"] sp_point_at := ⟨_, _, G_point_at, PySem.W.mg_of X G a_point_at, k_point_at, B_point_at⟩
  have G_units_of : FnOk P w K mg base CX0 2 _ _ ["bits"] sp_units_of := ok_units_of F_units_of H_point_at H_place_of
  have H_units_of : Has P w K mg base 2 "units_of" ["bits"] sp_units_of := ⟨_, _, G_units_of, PySem.W.mg_of X G a_units_of, k_units_of, B_units_of⟩
  have G_all_units : FnOk P w K mg base CX0 3 _ _ ["numbers"] (sp_all_units K) := ok_all_units F_all_units H_units_of
  have H_all_units : Has P w K mg base 3 "all_units" ["numbers"] (sp_all_units K) := ⟨_, _, G_all_units, PySem.W.mg_of X G a_all_units, k_all_units, B_all_units⟩
  have G_middle_above : FnOk P w K mg base CX0 2 _ _ ["place"] sp_middle_above := ok_middle_above F_middle_above H_point_at
  have H_middle_above : Has P w K mg base 2 "middle_above" ["place"] sp_middle_above := ⟨_, _, G_middle_above, PySem.W.mg_of X G a_middle_above, k_middle_above, B_middle_above⟩
  have G_bits_of_lower : FnOk P w K mg base CX0 1 _ _ ["place"] sp_bits_of_lower := ok_bits_of_lower F_bits_of_lower ⟨_, PySem.W.mg_of X G g_SIGN⟩
  have H_bits_of_lower : Has P w K mg base 1 "bits_of_lower" ["place"] sp_bits_of_lower := ⟨_, _, G_bits_of_lower, PySem.W.mg_of X G a_bits_of_lower, k_bits_of_lower, B_bits_of_lower⟩
  have G_bits_of_upper : FnOk P w K mg base CX0 1 _ _ ["place"] sp_bits_of_upper := ok_bits_of_upper F_bits_of_upper ⟨_, PySem.W.mg_of X G g_SIGN⟩
  have H_bits_of_upper : Has P w K mg base 1 "bits_of_upper" ["place"] sp_bits_of_upper := ⟨_, _, G_bits_of_upper, PySem.W.mg_of X G a_bits_of_upper, k_bits_of_upper, B_bits_of_upper⟩
  have G_sign : FnOk P w K mg base CX0 1 _ _ ["number"] sp_sign := ok_sign F_sign 
  have H_sign : Has P w K mg base 1 "sign" ["number"] sp_sign := ⟨_, _, G_sign, PySem.W.mg_of X G a_sign, k_sign, B_sign⟩
  have G_divided : FnOk P w K mg base CX0 1 _ _ ["p", "m", "s"] (sp_divided K) := ok_divided F_divided (PySem.W.mg_none_of X G b_reversed) (PySem.W.mg_none_of X G b_list)
  have H_divided : Has P w K mg base 1 "divided" ["p", "m", "s"] (sp_divided K) := ⟨_, _, G_divided, PySem.W.mg_of X G a_divided, k_divided, B_divided⟩
  have G_taylor : FnOk P w K mg base CX0 2 _ _ ["p", "m", "s"] (sp_taylor K) := ok_taylor F_taylor H_divided (PySem.W.mg_none_of X G b_len)
  have H_taylor : Has P w K mg base 2 "taylor" ["p", "m", "s"] (sp_taylor K) := ⟨_, _, G_taylor, PySem.W.mg_of X G a_taylor, k_taylor, B_taylor⟩
  have G_changes : FnOk P w K mg base CX0 2 _ _ ["numbers"] (sp_changes K) := ok_changes F_changes H_sign (PySem.W.mg_none_of X G b_range) (PySem.W.mg_none_of X G b_len)
  have H_changes : Has P w K mg base 2 "changes" ["numbers"] (sp_changes K) := ⟨_, _, G_changes, PySem.W.mg_of X G a_changes, k_changes, B_changes⟩
  have G_leading_zeros : FnOk P w K mg base CX0 1 _ _ ["numbers"] (sp_leading_zeros K) := ok_leading_zeros F_leading_zeros (PySem.W.mg_none_of X G b_range) (PySem.W.mg_none_of X G b_len)
  have H_leading_zeros : Has P w K mg base 1 "leading_zeros" ["numbers"] (sp_leading_zeros K) := ⟨_, _, G_leading_zeros, PySem.W.mg_of X G a_leading_zeros, k_leading_zeros, B_leading_zeros⟩
  have G_rows_of : FnOk P w K mg base CX0 1 _ _ ["a", "width"] (sp_rows_of K) := ok_rows_of F_rows_of (PySem.W.mg_none_of X G b_range) (PySem.W.mg_none_of X G b_len)
  have H_rows_of : Has P w K mg base 1 "rows_of" ["a", "width"] (sp_rows_of K) := ⟨_, _, G_rows_of, PySem.W.mg_of X G a_rows_of, k_rows_of, B_rows_of⟩
  have G_minor : FnOk P w K mg base CX0 1 _ _ ["rows", "i", "j"] (sp_minor K) := ok_minor F_minor 
  have H_minor : Has P w K mg base 1 "minor" ["rows", "i", "j"] (sp_minor K) := ⟨_, _, G_minor, PySem.W.mg_of X G a_minor, k_minor, B_minor⟩
  have G_signed : FnOk P w K mg base CX0 1 _ _ ["power", "number"] sp_signed := ok_signed F_signed 
  have H_signed : Has P w K mg base 1 "signed" ["power", "number"] sp_signed := ⟨_, _, G_signed, PySem.W.mg_of X G a_signed, k_signed, B_signed⟩
  have G_determinant : FnOk P w K mg base CX0 6 _ _ ["rows"] (sp_determinant K 4) := ok_determinant F_determinant (PySem.W.mg_of X G a_determinant) k_determinant B_determinant H_minor H_signed (PySem.W.mg_none_of X G b_range) (PySem.W.mg_none_of X G b_len) 4 (by decide)
  have H_determinant : Has P w K mg base 6 "determinant" ["rows"] (sp_determinant K 4) := ⟨_, _, G_determinant, PySem.W.mg_of X G a_determinant, k_determinant, B_determinant⟩
  have G_is_symmetric : FnOk P w K mg base CX0 1 _ _ ["rows"] (sp_is_symmetric K) := ok_is_symmetric F_is_symmetric (PySem.W.mg_none_of X G b_range) (PySem.W.mg_none_of X G b_len)
  have H_is_symmetric : Has P w K mg base 1 "is_symmetric" ["rows"] (sp_is_symmetric K) := ⟨_, _, G_is_symmetric, PySem.W.mg_of X G a_is_symmetric, k_is_symmetric, B_is_symmetric⟩
  have G_characteristic : FnOk P w K mg base CX0 7 _ _ ["rows"] (sp_characteristic K) := ok_characteristic F_characteristic H_determinant H_signed (PySem.W.mg_none_of X G b_range) (PySem.W.mg_none_of X G b_len)
  have H_characteristic : Has P w K mg base 7 "characteristic" ["rows"] (sp_characteristic K) := ⟨_, _, G_characteristic, PySem.W.mg_of X G a_characteristic, k_characteristic, B_characteristic⟩
  have G_all_finite : FnOk P w K mg base CX0 2 _ _ ["numbers"] (sp_all_finite K) := ok_all_finite F_all_finite H_is_finite (PySem.W.mg_none_of X G b_all)
  have H_all_finite : Has P w K mg base 2 "all_finite" ["numbers"] (sp_all_finite K) := ⟨_, _, G_all_finite, PySem.W.mg_of X G a_all_finite, k_all_finite, B_all_finite⟩
  have G_bad_size : FnOk P w K mg base CX0 1 _ _ ["size", "most"] sp_bad_size := ok_bad_size F_bad_size 
  have H_bad_size : Has P w K mg base 1 "bad_size" ["size", "most"] sp_bad_size := ⟨_, _, G_bad_size, PySem.W.mg_of X G a_bad_size, k_bad_size, B_bad_size⟩
  have G_bad_matrix : FnOk P w K mg base CX0 3 _ _ ["m", "n", "most", "a"] (sp_bad_matrix K) := ok_bad_matrix F_bad_matrix H_bad_size H_all_finite (PySem.W.mg_none_of X G b_len)
  have H_bad_matrix : Has P w K mg base 3 "bad_matrix" ["m", "n", "most", "a"] (sp_bad_matrix K) := ⟨_, _, G_bad_matrix, PySem.W.mg_of X G a_bad_matrix, k_bad_matrix, B_bad_matrix⟩
  have TX : TxtEigenvalue K C_Eigenvalue := ⟨⟨pg_Eigenvalue, hd_Eigenvalue, po_Eigenvalue, sa_Eigenvalue⟩, n_Eigenvalue_p, n_Eigenvalue_number⟩
  have G_Eigenvalue_init : FnOk P w K mg base CX0 2 f_Eigenvalue_init _ ["self", "p", "number"] (sp_Eigenvalue_init C_Eigenvalue) := ok_Eigenvalue_init F_Eigenvalue_init TX
  have G_Eigenvalue_side : FnOk P w K mg base CX0 4 f_Eigenvalue_side _ ["self", "m", "s"] (sp_side (EigNum K C_Eigenvalue)) := ok_Eigenvalue_side F_Eigenvalue_side TX H_taylor H_changes H_leading_zeros (PySem.W.mg_none_of X G b_len)
  have T : NumOk P w K mg base C_Eigenvalue (EigNum K C_Eigenvalue) 8 True := ⟨⟨pg_Eigenvalue, hd_Eigenvalue, po_Eigenvalue, sa_Eigenvalue⟩, ⟨_, _, ⟨a_Eigenvalue_side, i_Eigenvalue_side, k_Eigenvalue_side⟩, G_Eigenvalue_side.mono (by decide), B_Eigenvalue_side⟩, EigNum.st, EigNum.ins⟩
  have G_neighbours : FnOk P w K mg base CX0 9 _ _ ["number"] (sp_neighbours (EigNum K C_Eigenvalue)) := ok_neighbours F_neighbours T H_point_at ⟨_, PySem.W.mg_of X G g_INFINITE⟩
  have H_neighbours : Has P w K mg base 9 "neighbours" ["number"] (sp_neighbours (EigNum K C_Eigenvalue)) := ⟨_, _, G_neighbours, PySem.W.mg_of X G a_neighbours, k_neighbours, B_neighbours⟩
  have G_goes_up : FnOk P w K mg base CX0 9 _ _ ["mode", "number", "low"] (sp_goes_up (EigNum K C_Eigenvalue)) := ok_goes_up F_goes_up T H_middle_above
  have H_goes_up : Has P w K mg base 9 "goes_up" ["mode", "number", "low"] (sp_goes_up (EigNum K C_Eigenvalue)) := ⟨_, _, G_goes_up, PySem.W.mg_of X G a_goes_up, k_goes_up, B_goes_up⟩
  have G_rounded : FnOk P w K mg base CX0 10 _ _ ["mode", "number"] (sp_rounded (EigNum K C_Eigenvalue)) := ok_rounded F_rounded T H_neighbours H_goes_up H_bits_of_lower H_bits_of_upper
  have H_rounded : Has P w K mg base 10 "rounded" ["mode", "number"] (sp_rounded (EigNum K C_Eigenvalue)) := ⟨_, _, G_rounded, PySem.W.mg_of X G a_rounded, k_rounded, B_rounded⟩
  have G_answer : FnOk P w K mg base CX0 11 _ _ ["mode", "numbers"] (sp_answer K (EigNum K C_Eigenvalue)) := ok_answer F_answer T H_rounded
  have H_answer : Has P w K mg base 11 "answer" ["mode", "numbers"] (sp_answer K (EigNum K C_Eigenvalue)) := ⟨_, _, G_answer, PySem.W.mg_of X G a_answer, k_answer, B_answer⟩
  have G_eigen : FnOk P w K mg base CX0 12 _ _ ["mode", "n", "a"] (sp_eigen K) := ok_eigen F_eigen T ⟨mk_Eigenvalue, a_Eigenvalue_init, i_Eigenvalue_init, kc_Eigenvalue⟩ (PySem.W.mg_of X G aC_Eigenvalue) G_Eigenvalue_init B_Eigenvalue_init H_bad_matrix H_answer H_all_units H_rows_of H_is_symmetric H_characteristic (PySem.W.mg_none_of X G b_range)
  have H_eigen : Has P w K mg base 12 "eigen" ["mode", "n", "a"] (sp_eigen K) := ⟨_, _, G_eigen, PySem.W.mg_of X G a_eigen, k_eigen, B_eigen⟩
  exact G_eigen
end Desk
open PySem PySem.W PyProof.Rows
set_option maxRecDepth 100000 in
set_option maxHeartbeats 0 in
theorem PySem.Challenge.cw_onceroundeddesk_s11_eigen_holds : PySem.Challenge.rw_onceroundeddesk_s11_eigen.Holds := by
  w_on; k_headS; (case hw => exact ⟨[.int 0, .int 0, .list []], by decide +kernel, by decide +kernel⟩)
  k_fillS
  refine L2.walk_specK (r := PySem.Challenge.rw_onceroundeddesk_s11_eigen) (k := 12) (CX := L2.CX0) (ps := ["mode", "n", "a"]) (sp := fun K => Desk.sp_eigen K) (by decide +kernel) rfl rfl ⟨rfl, by decide, by decide⟩ (fun w h Y => PySem.W.kIn_of Y) ?F ?S (fun _ _ _ _ z => z)
  case F =>
    intro w mg fa h Y KX G hmg
    refine' Desk.all_mk KX G hmg ?g_HIDDEN ?g_SIGN ?g_INFINITE ?b_abs ?b_all ?b_divmod ?b_len ?b_list ?b_range ?b_reversed ?aC_Eigenvalue ?a_Eigenvalue_init ?i_Eigenvalue_init ?l_Eigenvalue_init ?c_Eigenvalue_init ?k_Eigenvalue_init ?a_Eigenvalue_side ?i_Eigenvalue_side ?l_Eigenvalue_side ?c_Eigenvalue_side ?k_Eigenvalue_side ?pg_Eigenvalue ?hd_Eigenvalue ?po_Eigenvalue ?sa_Eigenvalue ?mk_Eigenvalue ?kc_Eigenvalue ?n_Eigenvalue_p ?n_Eigenvalue_number ?a_is_finite ?l_is_finite ?c_is_finite ?k_is_finite ?a_place_of ?l_place_of ?c_place_of ?k_place_of ?a_point_at ?l_point_at ?c_point_at ?k_point_at ?a_units_of ?l_units_of ?c_units_of ?k_units_of ?a_all_units ?l_all_units ?c_all_units ?k_all_units ?a_middle_above ?l_middle_above ?c_middle_above ?k_middle_above ?a_bits_of_lower ?l_bits_of_lower ?c_bits_of_lower ?k_bits_of_lower ?a_bits_of_upper ?l_bits_of_upper ?c_bits_of_upper ?k_bits_of_upper ?a_sign ?l_sign ?c_sign ?k_sign ?a_divided ?l_divided ?c_divided ?k_divided ?a_taylor ?l_taylor ?c_taylor ?k_taylor ?a_changes ?l_changes ?c_changes ?k_changes ?a_leading_zeros ?l_leading_zeros ?c_leading_zeros ?k_leading_zeros ?a_rows_of ?l_rows_of ?c_rows_of ?k_rows_of ?a_minor ?l_minor ?c_minor ?k_minor ?a_determinant ?l_determinant ?c_determinant ?k_determinant ?a_signed ?l_signed ?c_signed ?k_signed ?a_is_symmetric ?l_is_symmetric ?c_is_symmetric ?k_is_symmetric ?a_characteristic ?l_characteristic ?c_characteristic ?k_characteristic ?a_all_finite ?l_all_finite ?c_all_finite ?k_all_finite ?a_bad_size ?l_bad_size ?c_bad_size ?k_bad_size ?a_bad_matrix ?l_bad_matrix ?c_bad_matrix ?k_bad_matrix ?a_neighbours ?l_neighbours ?c_neighbours ?k_neighbours ?a_goes_up ?l_goes_up ?c_goes_up ?k_goes_up ?a_rounded ?l_rounded ?c_rounded ?k_rounded ?a_answer ?l_answer ?c_answer ?k_answer ?a_eigen ?l_eigen ?c_eigen ?k_eigen
    (case g_HIDDEN => k_is)
    (case g_SIGN => k_is)
    (case g_INFINITE => k_is)
    (case b_abs => k_is)
    (case b_all => k_is)
    (case b_divmod => k_is)
    (case b_len => k_is)
    (case b_list => k_is)
    (case b_range => k_is)
    (case b_reversed => k_is)
    (case aC_Eigenvalue => k_is)
    (case a_Eigenvalue_init => k_is)
    (case i_Eigenvalue_init => k_is)
    (case l_Eigenvalue_init => k_is)
    (case c_Eigenvalue_init => k_is)
    (case k_Eigenvalue_init => k_is)
    (case a_Eigenvalue_side => k_is)
    (case i_Eigenvalue_side => k_is)
    (case l_Eigenvalue_side => k_is)
    (case c_Eigenvalue_side => k_is)
    (case k_Eigenvalue_side => k_is)
    (case pg_Eigenvalue => k_is)
    (case hd_Eigenvalue => k_is)
    (case po_Eigenvalue => k_is)
    (case sa_Eigenvalue => k_is)
    (case mk_Eigenvalue => k_is)
    (case kc_Eigenvalue => k_is)
    (case n_Eigenvalue_p => k_is)
    (case n_Eigenvalue_number => k_is)
    (case a_is_finite => k_is)
    (case l_is_finite => k_is)
    (case c_is_finite => k_is)
    (case k_is_finite => k_is)
    (case a_place_of => k_is)
    (case l_place_of => k_is)
    (case c_place_of => k_is)
    (case k_place_of => k_is)
    (case a_point_at => k_is)
    (case l_point_at => k_is)
    (case c_point_at => k_is)
    (case k_point_at => k_is)
    (case a_units_of => k_is)
    (case l_units_of => k_is)
    (case c_units_of => k_is)
    (case k_units_of => k_is)
    (case a_all_units => k_is)
    (case l_all_units => k_is)
    (case c_all_units => k_is)
    (case k_all_units => k_is)
    (case a_middle_above => k_is)
    (case l_middle_above => k_is)
    (case c_middle_above => k_is)
    (case k_middle_above => k_is)
    (case a_bits_of_lower => k_is)
    (case l_bits_of_lower => k_is)
    (case c_bits_of_lower => k_is)
    (case k_bits_of_lower => k_is)
    (case a_bits_of_upper => k_is)
    (case l_bits_of_upper => k_is)
    (case c_bits_of_upper => k_is)
    (case k_bits_of_upper => k_is)
    (case a_sign => k_is)
    (case l_sign => k_is)
    (case c_sign => k_is)
    (case k_sign => k_is)
    (case a_divided => k_is)
    (case l_divided => k_is)
    (case c_divided => k_is)
    (case k_divided => k_is)
    (case a_taylor => k_is)
    (case l_taylor => k_is)
    (case c_taylor => k_is)
    (case k_taylor => k_is)
    (case a_changes => k_is)
    (case l_changes => k_is)
    (case c_changes => k_is)
    (case k_changes => k_is)
    (case a_leading_zeros => k_is)
    (case l_leading_zeros => k_is)
    (case c_leading_zeros => k_is)
    (case k_leading_zeros => k_is)
    (case a_rows_of => k_is)
    (case l_rows_of => k_is)
    (case c_rows_of => k_is)
    (case k_rows_of => k_is)
    (case a_minor => k_is)
    (case l_minor => k_is)
    (case c_minor => k_is)
    (case k_minor => k_is)
    (case a_determinant => k_is)
    (case l_determinant => k_is)
    (case c_determinant => k_is)
    (case k_determinant => k_is)
    (case a_signed => k_is)
    (case l_signed => k_is)
    (case c_signed => k_is)
    (case k_signed => k_is)
    (case a_is_symmetric => k_is)
    (case l_is_symmetric => k_is)
    (case c_is_symmetric => k_is)
    (case k_is_symmetric => k_is)
    (case a_characteristic => k_is)
    (case l_characteristic => k_is)
    (case c_characteristic => k_is)
    (case k_characteristic => k_is)
    (case a_all_finite => k_is)
    (case l_all_finite => k_is)
    (case c_all_finite => k_is)
    (case k_all_finite => k_is)
    (case a_bad_size => k_is)
    (case l_bad_size => k_is)
    (case c_bad_size => k_is)
    (case k_bad_size => k_is)
    (case a_bad_matrix => k_is)
    (case l_bad_matrix => k_is)
    (case c_bad_matrix => k_is)
    (case k_bad_matrix => k_is)
    (case a_neighbours => k_is)
    (case l_neighbours => k_is)
    (case c_neighbours => k_is)
    (case k_neighbours => k_is)
    (case a_goes_up => k_is)
    (case l_goes_up => k_is)
    (case c_goes_up => k_is)
    (case k_goes_up => k_is)
    (case a_rounded => k_is)
    (case l_rounded => k_is)
    (case c_rounded => k_is)
    (case k_rounded => k_is)
    (case a_answer => k_is)
    (case l_answer => k_is)
    (case c_answer => k_is)
    (case k_answer => k_is)
    (case a_eigen => k_is)
    (case l_eigen => k_is)
    (case c_eigen => k_is)
    (case k_eigen => k_is)
  case S =>
    intro K H xs a hO hwi hask hx
    cases hx with | cons g0 hx =>
    cases hx with | cons g1 hx =>
    cases hx with | cons g2 hx =>
    cases hx
    obtain ⟨x0, x1, x2, _⟩ := a
    have hwi : (Codec.inInt 0 18446744073709551615 x0 && (Codec.inInt 0 18446744073709551615 x1 && ((Codec.inLen 0 30 x2 && x2.all (Codec.inInt 0 18446744073709551615)) && (true)))) = true := hwi
    simp only [Bool.and_eq_true] at hwi
    obtain ⟨w0, w1, w2, _⟩ := hwi
    cases g0 with | int =>
    have v0 : Desk.In64 x0 := Codec.inInt_iff.mp w0
    cases g1 with | int =>
    have v1 : Desk.In64 x1 := Codec.inInt_iff.mp w1
    cases g2 with | lst s2 q2 =>
    have z2 := L2.ints_dw x2 _ q2
    subst z2
    have m2 : x2.length ≤ 30 := (Codec.inNat_iff.mp w2.1).2
    have v2 : ∀ b ∈ x2, Desk.In64 b := fun b hb => Codec.inInt_iff.mp (List.all_eq_true.mp w2.2 b hb)
    have law := Desk.eigen_law v0 v1 v2
    refine ⟨x0, x1, _, x2, rfl, v1, s2, m2, v2, fun H2 p hp => ?_⟩
    rw [law] at hp
    exact .lst (L2.SqL.of hp) (L2.dw_ints _)
#print axioms PySem.Challenge.cw_onceroundeddesk_s11_eigen_holds
