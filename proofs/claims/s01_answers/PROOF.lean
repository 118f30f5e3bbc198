import PyProof.Rows.All
import Wide.All
import OpenK.AllK
import Wide.FinOn
import PyProof.EqAt
import PyProof.EqKinds
import PyProof.TupleCall
import Open.SpecLaws
import KE.OsGo
import KE.SortData
import HandS.ForSpec
import HandS.Comp
import HandS.Iter
import HandS.Walk
import HandS.Style
import HandS.CallLocal
import HandS.NoneIn
import HandS.TupAny
import HandS.Strs
import HandS.Sort
import PyWrmpre
import PySem.Challenge.RW_sheetsquares_s01_answers
set_option Elab.async false
set_option linter.all false
set_option maxRecDepth 100000
set_option maxHeartbeats 4000000
/-! SqMa: digits written, references read: plain Lean about lists and numbers. -/
namespace SqM
open LsText LsRefs

/-- the last digits of a number, so many, with noughts in front -/
def digs : Nat → Nat → Bytes
  | 0, _ => []
  | k + 1, n => digs k (n / 10) ++ [UInt8.ofNat (48 + n % 10)]
theorem digs_len : ∀ k n, (digs k n).length = k
  | 0, _ => rfl
  | k + 1, n => by rw [digs, List.length_append, digs_len k]; rfl
theorem digs_zero : ∀ k, digs k 0 = List.replicate k 48
  | 0 => rfl
  | k + 1 => by
    rw [digs, show 0 / 10 = 0 from rfl, digs_zero k, List.replicate_succ']
    rfl
theorem dchar : ∀ d, d < 10 → UInt8.ofNat (Nat.digitChar d).toNat = UInt8.ofNat (48 + d) := by decide
theorem digits_eq (n : Nat) : digits n = (Nat.toDigits 10 n).map fun c => UInt8.ofNat c.toNat := by
  unfold digits ascii
  rw [Nat.toString_eq_ofList_toDigits, String.toList_ofList]
theorem digits_lt {n : Nat} (h : n < 10) : digits n = [UInt8.ofNat (48 + n)] := by
  rw [digits_eq, Nat.toDigits_of_lt_base h, List.map_singleton, dchar n h]
theorem digits_ge {n : Nat} (h : 10 ≤ n) : digits n = digits (n / 10) ++ [UInt8.ofNat (48 + n % 10)] := by
  rw [digits_eq, Nat.toDigits_of_base_le (by decide) h, List.map_append, ← digits_eq, List.map_singleton, dchar _ (Nat.mod_lt _ (by decide))]
theorem padded_digs : ∀ k n, n < 10 ^ (k + 1) → padded (k + 1) n = digs (k + 1) n := by
  intro k
  induction k with
  | zero =>
    intro n h
    have h' : n < 10 := by simpa using h
    unfold padded
    rw [digits_lt h', digs, digs, Nat.mod_eq_of_lt h']
    rfl
  | succ k ih =>
    intro n h
    by_cases c : n < 10
    · unfold padded
      rw [digits_lt c, digs, Nat.mod_eq_of_lt c, Nat.div_eq_of_lt c, digs_zero]
      rfl
    · have c' : 10 ≤ n := by omega
      have e := ih (n / 10) (by rw [Nat.pow_succ] at h; omega)
      unfold padded at e ⊢
      rw [digits_ge c', digs, ← e, List.length_append, ← List.append_assoc]
      congr 3
      show k + 1 + 1 - ((digits (n / 10)).length + 1) = _
      omega
/-! ### references read -/
def digRun (b : Bytes) : Nat := (b.takeWhile isDigit).length
theorem run_take {p : UInt8 → Bool} : ∀ b : Bytes, b.take (b.takeWhile p).length = b.takeWhile p
  | [] => rfl
  | c :: r => by
    rw [List.takeWhile_cons]
    split
    · rw [List.length_cons, List.take_succ_cons, run_take r]
    · rfl
theorem run_le {p : UInt8 → Bool} (b : Bytes) : (b.takeWhile p).length ≤ b.length := by
  have h := congrArg List.length (run_take (p := p) b)
  rw [List.length_take] at h
  omega
/-- a text as a reference: its fault's place, or how many digits, and where its two rows begin -/
def twoRows (b : Bytes) (first first_end : Nat) : Except Nat (Nat × Nat × Nat) :=
  let many := first_end - first
  if 5 < many ∨ b[first_end]? ≠ some 32 then .error first_end else
  let second := first_end + blanks (b.drop first_end)
  let second_end := second + min many (digRun (b.drop second))
  if second_end - second < many ∨ second_end < b.length then .error second_end else .ok (many, first, second)
def parts (b : Bytes) : Except Nat (Nat × Nat × Nat) :=
  if b.length = 0 ∨ (b[0]?.bind letterNo) = none then .error 0 else
  if b.length = 1 ∨ (b[1]?.bind letterNo) = none then .error 1 else
  if b.length = 2 then .ok (0, 2, 2) else
  let first := 2 + blanks (b.drop 2)
  let first_end := first + min 10 (digRun (b.drop first))
  let many := first_end - first
  if many = 0 then .error first else
  if first_end < b.length then twoRows b first first_end else
  if many % 2 = 1 then .error first_end else .ok (many / 2, first, first + many / 2)
def numAt (b : Bytes) (p k : Nat) : Nat := numberOf ((b.drop p).take k)
def lett (b : Bytes) (p : Nat) : Nat := (b[p]?.bind letterNo).getD 0
def squareAt (b : Bytes) (r : Nat × Nat × Nat) : Square :=
  ⟨lett b 0 * GREAT + numAt b r.2.1 r.1 * sideOf r.1, lett b 1 * GREAT + numAt b r.2.2 r.1 * sideOf r.1, sideOf r.1⟩
theorem readDigits_eq (a c : UInt8) (s : Bytes) (i j : Nat) (hi : letterNo a = some i) (hj : letterNo c = some j) (hs : s ≠ []) :
    readDigits i j (2 + blanks s) (s.drop (blanks s)) = (parts (a :: c :: s)).map (squareAt (a :: c :: s)) := by
  have hl : 0 < s.length := List.length_pos_iff.mpr hs
  have e0 : parts (a :: c :: s) = (
      let first := 2 + blanks s
      let first_end := first + min 10 (digRun (s.drop (blanks s)))
      let many := first_end - first
      if many = 0 then .error first else
      if first_end < s.length + 2 then twoRows (a :: c :: s) first first_end else
      if many % 2 = 1 then .error first_end else .ok (many / 2, first, first + many / 2)) := by
    unfold parts
    have d : (a :: c :: s).drop (2 + blanks s) = s.drop (blanks s) := by
      rw [← List.drop_drop]
      rfl
    rw [if_neg (by simp [hi]), if_neg (by simp [hj]), if_neg (by simp; exact hs)]
    show _ = _
    dsimp only
    rw [show List.drop 2 (a :: c :: s) = s from rfl, d]
    rfl
  rw [e0]
  have hg : blanks s ≤ s.length := run_le s
  have ht : (s.drop (blanks s)).length = s.length - blanks s := List.length_drop
  generalize hp : blanks s = g at *
  generalize htt : s.drop g = t at *
  have hk := run_le (p := isDigit) t
  have sq : ∀ r, squareAt (a :: c :: s) r = ⟨i * GREAT + numAt (a :: c :: s) r.2.1 r.1 * sideOf r.1, j * GREAT + numAt (a :: c :: s) r.2.2 r.1 * sideOf r.1, sideOf r.1⟩ := by
    intro r
    unfold squareAt lett
    simp [hi, hj]
  have dr : ∀ q, (a :: c :: s).drop (2 + g + q) = t.drop q := by
    intro q
    rw [← htt, List.drop_drop, show 2 + g + q = (g + q) + 2 by omega]
    rfl
  unfold readDigits
  dsimp only
  show _ = _
  rw [show (t.takeWhile isDigit).length = digRun t from rfl]
  rw [show (t.takeWhile isDigit).length = digRun t from rfl] at hk
  by_cases k0 : digRun t = 0
  · rw [if_pos k0, if_pos (by omega)]
    rfl
  rw [if_neg k0, if_neg (show ¬ (2 + g + min 10 (digRun t) - (2 + g) = 0) by omega)]
  by_cases k10 : 10 < digRun t
  · rw [if_pos k10, if_pos (by omega)]
    unfold twoRows
    dsimp only
    rw [if_pos (.inl (by omega))]
    show Except.error _ = Except.error _
    congr 1
    omega
  rw [if_neg k10]
  have em : min 10 (digRun t) = digRun t := by omega
  rw [em, Nat.add_sub_cancel_left]
  cases hd : t.drop (digRun t) with
  | nil =>
    have hle : t.length ≤ digRun t := by
      have := congrArg List.length hd
      rw [List.length_drop, List.length_nil] at this
      omega
    dsimp only
    rw [if_neg (show ¬ (2 + g + digRun t < s.length + 2) by omega)]
    by_cases od : digRun t % 2 = 1
    · rw [if_pos od, if_pos od]
      rfl
    · rw [if_neg od, if_neg od]
      show Except.ok _ = Except.ok _
      rw [sq]
      have et : t.takeWhile isDigit = t := (run_take t).symm.trans (List.take_of_length_le hle)
      rw [et]
      have e1 : (t.take (digRun t / 2)).length = digRun t / 2 := by rw [List.length_take]; omega
      unfold made numAt
      dsimp only
      rw [e1, dr (digRun t / 2)]
      have d0 := dr 0
      rw [Nat.add_zero] at d0
      rw [d0]
      have e2 : (t.drop (digRun t / 2)).take (digRun t / 2) = t.drop (digRun t / 2) := List.take_of_length_le (by rw [List.length_drop]; omega)
      rw [e2]
      rfl
  | cons x r =>
    have hlt : digRun t < t.length := by
      have := congrArg List.length hd
      rw [List.length_drop, List.length_cons] at this
      omega
    dsimp only
    rw [if_pos (show 2 + g + digRun t < s.length + 2 by omega)]
    unfold twoRows
    dsimp only
    have hx : (a :: c :: s)[2 + g + digRun t]? = some x := by
      have : ((a :: c :: s).drop (2 + g + digRun t))[0]? = some x := by rw [dr, hd]; rfl
      rw [List.getElem?_drop] at this
      exact this
    rw [Nat.add_sub_cancel_left, hx, dr, hd]
    by_cases cx : x ≠ 32 ∨ 5 < digRun t
    · rw [if_pos cx, if_pos (by
        rcases cx with h | h
        · right; intro e; exact h (Option.some.inj e)
        · left; exact h)]
      rfl
    · have c1 : x = 32 := Decidable.not_not.mp fun h => cx (.inl h)
      have c2 : ¬ 5 < digRun t := fun h => cx (.inr h)
      rw [if_neg cx, if_neg (show ¬ (5 < digRun t ∨ some x ≠ some 32) by rw [c1]; simp; omega)]
      have d2 : (a :: c :: s).drop (2 + g + digRun t + blanks (x :: r)) = (x :: r).drop (blanks (x :: r)) := by
        rw [Nat.add_assoc (2 + g), dr, ← List.drop_drop, hd]
      rw [d2]
      have hb : blanks (x :: r) ≤ (x :: r).length := run_le _
      have hls : ((x :: r).drop (blanks (x :: r))).length = (x :: r).length - blanks (x :: r) := List.length_drop
      have hlr : (x :: r).length = t.length - digRun t := by rw [← hd, List.length_drop]
      generalize hg2 : blanks (x :: r) = g2 at *
      generalize hu : (x :: r).drop g2 = u at *
      have hku := run_le (p := isDigit) u
      rw [show (u.takeWhile isDigit).length = digRun u from rfl] at hku ⊢
      rw [Nat.add_sub_cancel_left]
      show _ = Except.map _ (if min (digRun t) (digRun u) < digRun t ∨ 2 + g + digRun t + g2 + min (digRun t) (digRun u) < s.length + 2 then _ else _)
      by_cases cn : digRun u = digRun t
      · rw [if_neg (show ¬ (digRun u ≠ digRun t) from fun h => h cn)]
        by_cases ce : u.drop (digRun t) = []
        · have hle : u.length ≤ digRun t := by
            have := congrArg List.length ce
            rw [List.length_drop, List.length_nil] at this
            omega
          rw [if_pos ce, if_neg (by omega)]
          show Except.ok _ = Except.ok _
          rw [sq]
          have et : t.takeWhile isDigit = t.take (digRun t) := (run_take t).symm
          have eu : u.takeWhile isDigit = u.take (digRun t) := by
            rw [← cn]
            exact (run_take u).symm
          have el : (t.take (digRun t)).length = digRun t := by rw [List.length_take]; omega
          have d0 := dr 0
          rw [Nat.add_zero] at d0
          unfold made numAt
          dsimp only
          rw [d2, et, eu, el, d0]
          rfl
        · have hgt : digRun t < u.length := by
            rcases Nat.lt_or_ge (digRun t) u.length with h | h
            · exact h
            · exact absurd (List.drop_of_length_le h) ce
          rw [if_neg ce, if_pos (by omega)]
          show Except.error _ = Except.error _
          congr 1
          omega
      · rw [if_pos cn, if_pos (by omega)]
        show Except.error _ = Except.error _
        congr 1
        omega
theorem readRef_parts (b : Bytes) : readRef b = (parts b).map (squareAt b) := by
  match b with
  | [] => rfl
  | [a] =>
    unfold readRef parts
    cases h : letterNo a with
    | none => simp [h]; rfl
    | some i => simp [h]; rfl
  | a :: c :: s =>
    unfold readRef
    cases h : letterNo a with
    | none => unfold parts; simp [h]; rfl
    | some i =>
      cases h2 : letterNo c with
      | none => unfold parts; simp [h, h2]; rfl
      | some j =>
        dsimp only
        by_cases hs : s = []
        · subst hs
          unfold parts
          simp [h, h2]
          show Except.ok _ = Except.ok _
          unfold squareAt lett numAt
          simp [h, h2, numberOf, sideOf, GREAT]
        · simp only [h, h2]
          rw [if_neg hs]
          exact readDigits_eq a c s i j h h2 hs
end SqM

/-! SqMb: sheets: plain Lean about lists and numbers. -/
namespace SqM
open LsText LsRefs

/-! ### the sheet that has a place -/
/-- which quarter has a place x east and y north of a corner, if h is a quarter's side -/
def qNo (x y h : Nat) : Nat := (if h ≤ y then 1 else 3) + (if h ≤ x then 1 else 0)
def qsFrom (side x y : Nat) : Nat → List Nat
  | 0 => []
  | s + 1 => qNo (x % side) (y % side) (side / 2) :: qsFrom (side / 2) x y s
theorem mod_two (x h : Nat) (hh : 0 < h) : x % (2 * h) = if x % (2 * h) < h then x % h else x % h + h := by
  have e : x % (h * 2) = x % h + h * (x / h % 2) := Nat.mod_mul
  have l := Nat.mod_lt x hh
  rw [Nat.mul_comm 2 h]
  rcases Nat.mod_two_eq_zero_or_one (x / h) with z | z
  · rw [z] at e
    rw [if_pos (by omega)]
    omega
  · rw [z] at e
    rw [if_neg (by omega)]
    omega
theorem sheetIn_eq : ∀ (s : Nat) (q : Square) (x y : Nat), q.x = x - x % q.side → q.y = y - y % q.side → 0 < q.side → 2 ^ s ∣ q.side → sheetIn s q x y = qsFrom q.side x y s
  | 0, _, _, _, _, _, _, _ => rfl
  | s + 1, q, x, y, hx, hy, h0, hd => by
    obtain ⟨h, hh⟩ : ∃ h, q.side = 2 * h := by
      obtain ⟨k, hk⟩ := hd
      exact ⟨2 ^ s * k, by rw [hk, Nat.pow_succ, Nat.mul_comm (2 ^ s) 2, Nat.mul_assoc]⟩
    have eh : q.side / 2 = h := by omega
    have hpos : 0 < h := by omega
    have mx := mod_two x h hpos
    have my := mod_two y h hpos
    have lx := Nat.mod_le x (2 * h)
    have ly := Nat.mod_le y (2 * h)
    have bx := Nat.mod_lt x (show 0 < 2 * h by omega)
    have by' := Nat.mod_lt y (show 0 < 2 * h by omega)
    have qe : quarterAt q x y = qNo (x % q.side) (y % q.side) (q.side / 2) := by
      unfold quarterAt qNo
      dsimp only
      rw [eh, hx, hy, hh]
      congr 1
      · by_cases c : h ≤ y % (2 * h)
        · rw [if_pos c, if_neg (by omega)]
        · rw [if_neg c, if_pos (by omega)]
      · by_cases c : h ≤ x % (2 * h)
        · rw [if_pos c, if_neg (by omega)]
        · rw [if_neg c, if_pos (by omega)]
    have ih := sheetIn_eq s (quarter q (quarterAt q x y)) x y ?_ ?_ ?_ ?_
    · show quarterAt q x y :: sheetIn s (quarter q (quarterAt q x y)) x y = _
      rw [ih, qsFrom, qe]
      rfl
    · show (if _ then q.x + q.side / 2 else q.x) = x - x % (q.side / 2)
      rw [eh, qe, eh, hx, hh]
      unfold qNo
      by_cases cy : h ≤ y % (2 * h) <;> by_cases cx : h ≤ x % (2 * h) <;> simp only [cx, cy, if_true, if_false] <;> simp
      · rw [if_neg (by omega)] at mx; omega
      · rw [if_pos (by omega)] at mx; omega
      · rw [if_neg (by omega)] at mx; omega
      · rw [if_pos (by omega)] at mx; omega
    · show (if _ then q.y + q.side / 2 else q.y) = y - y % (q.side / 2)
      rw [eh, qe, eh, hy, hh]
      unfold qNo
      by_cases cy : h ≤ y % (2 * h) <;> by_cases cx : h ≤ x % (2 * h) <;> simp only [cx, cy, if_true, if_false] <;> simp
      · rw [if_neg (by omega)] at my; omega
      · rw [if_neg (by omega)] at my; omega
      · rw [if_pos (by omega)] at my; omega
      · rw [if_pos (by omega)] at my; omega
    · show 0 < q.side / 2
      omega
    · show 2 ^ s ∣ q.side / 2
      obtain ⟨k, hk⟩ := hd
      refine ⟨k, ?_⟩
      rw [hk, Nat.pow_succ, Nat.mul_comm (2 ^ s) 2, Nat.mul_assoc, Nat.mul_div_cancel_left _ (by decide)]
theorem sheetOf_eq {s x y : Nat} (hs : s ≤ 6) (hx : x < LAND) (hy : y < LAND) : sheetOf s x y = qsFrom LAND x y s := by
  unfold sheetOf
  refine sheetIn_eq s ⟨0, 0, LAND⟩ x y ?_ ?_ (by decide) ?_
  · show 0 = x - x % LAND
    rw [Nat.mod_eq_of_lt hx, Nat.sub_self]
  · show 0 = y - y % LAND
    rw [Nat.mod_eq_of_lt hy, Nat.sub_self]
  · exact Nat.dvd_trans (Nat.pow_dvd_pow 2 hs) (by decide)
theorem qsFrom_len : ∀ (s side x y : Nat), (qsFrom side x y s).length = s
  | 0, _, _, _ => rfl
  | s + 1, side, x, y => by rw [qsFrom, List.length_cons, qsFrom_len s]
theorem qsFrom_snoc : ∀ (s side x y : Nat), qsFrom side x y (s + 1) = qsFrom side x y s ++ [qNo (x % (side / 2 ^ s)) (y % (side / 2 ^ s)) (side / 2 ^ (s + 1))]
  | 0, side, x, y => by simp [qsFrom]
  | s + 1, side, x, y => by
    rw [qsFrom, qsFrom_snoc s (side / 2), qsFrom]
    rw [Nat.div_div_eq_div_mul, Nat.div_div_eq_div_mul, show 2 * 2 ^ s = 2 ^ (s + 1) by rw [Nat.pow_succ, Nat.mul_comm], show 2 * 2 ^ (s + 1) = 2 ^ (s + 1 + 1) by rw [Nat.pow_succ 2 (s + 1), Nat.mul_comm]]
    rfl
/-- the same, by rising series, as the loop makes it -/
def halfOf (i : Nat) : Nat := LAND / 2 ^ (i + 1)
theorem half_two : ∀ i, i < 6 → 2 * halfOf i = LAND / 2 ^ i := by decide
theorem sheet_step {s x y : Nat} (hs : s < 6) : qsFrom LAND x y (s + 1) = qsFrom LAND x y s ++ [qNo (x % (2 * halfOf s)) (y % (2 * halfOf s)) (halfOf s)] := by
  rw [qsFrom_snoc, half_two s hs]
  rfl

/-! ### grounds -/
/-- a sheet's quarters are numbers from 1 to 4, at most six -/
def Sh (c : Sheet) : Prop := c.length ≤ 6 ∧ ∀ d ∈ c, 1 ≤ d ∧ d ≤ 4
theorem boxOf_snoc (c : Sheet) (d : Nat) : boxOf (c ++ [d]) = quarter (boxOf c) d := by
  unfold boxOf
  rw [List.foldl_append]
  rfl
theorem qside (q : Square) (d : Nat) : (quarter q d).side = q.side / 2 := rfl
theorem fold_side : ∀ (c : List Nat) (q : Square), (c.foldl quarter q).side = q.side / 2 ^ c.length
  | [], q => by simp
  | d :: c, q => by
    rw [List.foldl_cons, fold_side c, qside, List.length_cons, Nat.div_div_eq_div_mul, Nat.pow_succ, Nat.mul_comm]
theorem boxOf_side (c : Sheet) : (boxOf c).side = LAND / 2 ^ c.length := fold_side c _
theorem qNo_rng (x y h : Nat) : 1 ≤ qNo x y h ∧ qNo x y h ≤ 4 := by
  unfold qNo
  split <;> split <;> omega
theorem qsFrom_rng : ∀ (s side x y : Nat), ∀ d ∈ qsFrom side x y s, 1 ≤ d ∧ d ≤ 4
  | 0, _, _, _, d, h => by simp [qsFrom] at h
  | s + 1, side, x, y, d, h => by
    rw [qsFrom] at h
    rcases List.mem_cons.mp h with e | h
    · rw [e]; exact qNo_rng _ _ _
    · exact qsFrom_rng s _ x y d h

/-- a quarter lies within -/
theorem quarter_in (q : Square) (d : Nat) : q.x ≤ (quarter q d).x ∧ (quarter q d).x + (quarter q d).side ≤ q.x + q.side ∧ q.y ≤ (quarter q d).y ∧ (quarter q d).y + (quarter q d).side ≤ q.y + q.side := by
  unfold quarter
  dsimp only
  split <;> split <;> omega
theorem fold_in : ∀ (c : List Nat) (q : Square), q.x ≤ (c.foldl quarter q).x ∧ (c.foldl quarter q).x + (c.foldl quarter q).side ≤ q.x + q.side ∧ q.y ≤ (c.foldl quarter q).y ∧ (c.foldl quarter q).y + (c.foldl quarter q).side ≤ q.y + q.side
  | [], q => by simp
  | d :: c, q => by
    have h1 := quarter_in q d
    have h2 := fold_in c (quarter q d)
    rw [List.foldl_cons]
    omega
theorem side_pos {s n : Nat} (hd : 2 ^ s ∣ n) (h0 : 0 < n) : 0 < n / 2 ^ s := Nat.div_pos (Nat.le_of_dvd h0 hd) (Nat.pow_pos (by decide))
theorem dvd_half {s n : Nat} (hd : 2 ^ (s + 1) ∣ n) : 2 ^ s ∣ n / 2 := by
  obtain ⟨k, hk⟩ := hd
  refine ⟨k, ?_⟩
  rw [hk, Nat.pow_succ, Nat.mul_comm (2 ^ s) 2, Nat.mul_assoc, Nat.mul_div_cancel_left _ (by decide)]
theorem even_of {s n : Nat} (hd : 2 ^ (s + 1) ∣ n) : n = 2 * (n / 2) := by
  obtain ⟨k, hk⟩ := hd
  rw [hk, Nat.pow_succ, Nat.mul_comm (2 ^ s) 2, Nat.mul_assoc, Nat.mul_div_cancel_left _ (by decide)]
theorem mod_at {a t n : Nat} (h : a % n = 0) (ht : t < n) : (a + t) % n = t := by
  rw [Nat.add_mod, h, Nat.zero_add, Nat.mod_mod, Nat.mod_eq_of_lt ht]
/-- a sheet is the sheet that has its corner -/
theorem fold_back : ∀ (c : List Nat) (q : Square), (∀ d ∈ c, 1 ≤ d ∧ d ≤ 4) → 0 < q.side → 2 ^ c.length ∣ q.side → q.x % q.side = 0 → q.y % q.side = 0 →
    qsFrom q.side (c.foldl quarter q).x (c.foldl quarter q).y c.length = c ∧ (c.foldl quarter q).x % (c.foldl quarter q).side = 0 ∧ (c.foldl quarter q).y % (c.foldl quarter q).side = 0
  | [], q, _, _, _, hx, hy => ⟨rfl, hx, hy⟩
  | d :: c, q, hc, h0, hd, hx, hy => by
    rw [List.length_cons] at hd
    have ev := even_of hd
    have hd2 := dvd_half hd
    have hin := fold_in c (quarter q d)
    have hs := fold_side c (quarter q d)
    have hsp := side_pos (s := c.length) (n := (quarter q d).side) hd2 (by rw [qside]; omega)
    rw [← hs] at hsp
    generalize hh : q.side / 2 = h at *
    have hpos : 0 < h := by omega
    have mx := mod_two q.x h hpos
    have my := mod_two q.y h hpos
    rw [← ev, hx, if_pos hpos] at mx
    rw [← ev, hy, if_pos hpos] at my
    have hd4 := hc d List.mem_cons_self
    have qs : (quarter q d).side = h := hh
    have ih := fold_back c (quarter q d) (fun e he => hc e (List.mem_cons_of_mem _ he)) (by rw [qs]; exact hpos) (by rw [qs]; exact hd2) (by
        rw [qs]
        show (if _ then q.x + q.side / 2 else q.x) % h = 0
        rw [hh]
        split
        · rw [Nat.add_mod_right]; exact mx.symm
        · exact mx.symm) (by
        rw [qs]
        show (if _ then q.y + q.side / 2 else q.y) % h = 0
        rw [hh]
        split
        · rw [Nat.add_mod_right]; exact my.symm
        · exact my.symm)
    rw [List.foldl_cons, List.length_cons, qsFrom, hh]
    refine ⟨?_, ih.2⟩
    rw [qs] at ih
    rw [ih.1]
    congr 1
    generalize hp : c.foldl quarter (quarter q d) = p at *
    have ex : (quarter q d).x = if d = 2 ∨ d = 4 then q.x + h else q.x := by rw [← hh]; rfl
    have ey : (quarter q d).y = if d = 1 ∨ d = 2 then q.y + h else q.y := by rw [← hh]; rfl
    rw [qs] at hin
    obtain ⟨tx, htx⟩ : ∃ t, p.x = q.x + t := ⟨p.x - q.x, by split at ex <;> omega⟩
    obtain ⟨ty, hty⟩ : ∃ t, p.y = q.y + t := ⟨p.y - q.y, by split at ey <;> omega⟩
    have bx : tx < q.side := by split at ex <;> omega
    have b2 : ty < q.side := by split at ey <;> omega
    rw [htx, hty, mod_at hx bx, mod_at hy b2]
    unfold qNo
    obtain ⟨g1, g4⟩ := hd4
    have : d = 1 ∨ d = 2 ∨ d = 3 ∨ d = 4 := by omega
    rcases this with rfl | rfl | rfl | rfl
    · rw [if_neg (by decide)] at ex; rw [if_pos (by decide)] at ey
      rw [if_pos (by omega), if_neg (by omega)]
    · rw [if_pos (by decide)] at ex; rw [if_pos (by decide)] at ey
      rw [if_pos (by omega), if_pos (by omega)]
    · rw [if_neg (by decide)] at ex; rw [if_neg (by decide)] at ey
      rw [if_neg (by omega), if_neg (by omega)]
    · rw [if_pos (by decide)] at ex; rw [if_neg (by decide)] at ey
      rw [if_neg (by omega), if_pos (by omega)]
/-- the ground of the sheet that has a place -/
theorem fold_at : ∀ (s : Nat) (q : Square) (x y : Nat), q.x = x - x % q.side → q.y = y - y % q.side → 0 < q.side → 2 ^ s ∣ q.side →
    (qsFrom q.side x y s).foldl quarter q = ⟨x - x % (q.side / 2 ^ s), y - y % (q.side / 2 ^ s), q.side / 2 ^ s⟩
  | 0, q, x, y, hx, hy, _, _ => by
    obtain ⟨a, b, n⟩ := q
    simp only at hx hy
    simp [qsFrom, hx, hy]
  | s + 1, q, x, y, hx, hy, h0, hd => by
    have ev := even_of hd
    have hd2 := dvd_half hd
    generalize hh : q.side / 2 = h at *
    have hpos : 0 < h := by omega
    have mx := mod_two x h hpos
    have my := mod_two y h hpos
    have lx := Nat.mod_le x (2 * h)
    have ly := Nat.mod_le y (2 * h)
    rw [ev] at hx hy
    have bx := Nat.mod_lt x (show 0 < 2 * h by omega)
    have by' := Nat.mod_lt y (show 0 < 2 * h by omega)
    have e2 : q.side / 2 ^ (s + 1) = h / 2 ^ s := by
      rw [Nat.pow_succ, Nat.mul_comm, ← Nat.div_div_eq_div_mul, hh]
    rw [qsFrom, List.foldl_cons, hh, e2, ev]
    have qs : (quarter q (qNo (x % (2 * h)) (y % (2 * h)) h)).side = h := hh
    have ih := fold_at s (quarter q (qNo (x % (2 * h)) (y % (2 * h)) h)) x y ?_ ?_ (by rw [qs]; exact hpos) (by rw [qs]; exact hd2)
    · rw [qs] at ih
      exact ih
    · rw [qs]
      show (if _ then q.x + q.side / 2 else q.x) = x - x % h
      rw [hh, hx]
      unfold qNo
      by_cases cy : h ≤ y % (2 * h) <;> by_cases cx : h ≤ x % (2 * h) <;> simp only [cx, cy, if_true, if_false] <;> simp
      · rw [if_neg (by omega)] at mx; omega
      · rw [if_pos (by omega)] at mx; omega
      · rw [if_neg (by omega)] at mx; omega
      · rw [if_pos (by omega)] at mx; omega
    · rw [qs]
      show (if _ then q.y + q.side / 2 else q.y) = y - y % h
      rw [hh, hy]
      unfold qNo
      by_cases cy : h ≤ y % (2 * h) <;> by_cases cx : h ≤ x % (2 * h) <;> simp only [cx, cy, if_true, if_false] <;> simp
      · rw [if_neg (by omega)] at my; omega
      · rw [if_neg (by omega)] at my; omega
      · rw [if_pos (by omega)] at my; omega
      · rw [if_pos (by omega)] at my; omega
theorem land_dvd {s : Nat} (hs : s ≤ 6) : 2 ^ s ∣ LAND := Nat.dvd_trans (Nat.pow_dvd_pow 2 hs) (by decide)
theorem box_back {c : Sheet} (h : Sh c) : qsFrom LAND (boxOf c).x (boxOf c).y c.length = c ∧ (boxOf c).x % (LAND / 2 ^ c.length) = 0 ∧ (boxOf c).y % (LAND / 2 ^ c.length) = 0 := by
  have := fold_back c ⟨0, 0, LAND⟩ h.2 (by show 0 < LAND; decide) (land_dvd h.1) (by show 0 % LAND = 0; decide) (by show 0 % LAND = 0; decide)
  rw [fold_side] at this
  exact this
theorem box_at {s x y : Nat} (hs : s ≤ 6) (hx : x < LAND) (hy : y < LAND) : boxOf (qsFrom LAND x y s) = ⟨x - x % (LAND / 2 ^ s), y - y % (LAND / 2 ^ s), LAND / 2 ^ s⟩ := by
  refine fold_at s ⟨0, 0, LAND⟩ x y ?_ ?_ (by decide) (land_dvd hs)
  · show 0 = x - x % LAND
    rw [Nat.mod_eq_of_lt hx, Nat.sub_self]
  · show 0 = y - y % LAND
    rw [Nat.mod_eq_of_lt hy, Nat.sub_self]
theorem box_in (c : Sheet) : (boxOf c).x + (boxOf c).side ≤ LAND ∧ (boxOf c).y + (boxOf c).side ≤ LAND := by
  have h := fold_in c ⟨0, 0, LAND⟩
  unfold boxOf
  simp only [Nat.zero_add] at h
  exact ⟨h.2.1, h.2.2.2⟩
theorem box_pos {c : Sheet} (h : Sh c) : 0 < (boxOf c).side := by
  rw [boxOf_side]
  exact side_pos (land_dvd h.1) (by decide)
end SqM

/-! SqMc: sheets over a box, in order; great squares; how sheets lie: plain Lean about lists and numbers. -/
namespace SqM
open LsText LsRefs

/-! ### all sheets of a series below one, in order -/
def allIn : Nat → Sheet → List Sheet
  | 0, c => [c]
  | s + 1, c => [1, 2, 3, 4].flatMap fun (d : Nat) => allIn s (c ++ [d])
theorem allIn_mem : ∀ (s : Nat) (c e : Sheet), e ∈ allIn s c ↔ ∃ u : List Nat, e = c ++ u ∧ u.length = s ∧ ∀ d ∈ u, 1 ≤ d ∧ d ≤ 4
  | 0, c, e => by
    constructor
    · intro h
      have e' : e = c := by simpa [allIn] using h
      exact ⟨[], by simp [e'], rfl, fun d hd => by simp at hd⟩
    · rintro ⟨u, rfl, hu, _⟩
      have : u = [] := List.length_eq_zero_iff.mp hu
      subst this
      simp [allIn]
  | s + 1, c, e => by
    rw [allIn, List.mem_flatMap]
    constructor
    · rintro ⟨d, hd, he⟩
      obtain ⟨u, rfl, hu, h4⟩ := (allIn_mem s _ e).mp he
      refine ⟨d :: u, by simp, by simp [hu], fun x hx => ?_⟩
      rcases List.mem_cons.mp hx with rfl | hx
      · simp at hd; omega
      · exact h4 x hx
    · rintro ⟨u, rfl, hu, h4⟩
      cases u with
      | nil => simp at hu
      | cons d u =>
        have hd := h4 d List.mem_cons_self
        refine ⟨d, by simp; omega, (allIn_mem s _ _).mpr ⟨u, by simp, by simpa using hu, fun x hx => h4 x (List.mem_cons_of_mem _ hx)⟩⟩
theorem over_fold {q : Square} {x0 y0 x1 y1 : Nat} (c : List Nat) (h : overlaps (c.foldl quarter q) x0 y0 x1 y1 = true) : overlaps q x0 y0 x1 y1 = true := by
  have hi := fold_in c q
  unfold overlaps at *
  simp only [Bool.and_eq_true, decide_eq_true_eq] at *
  omega
theorem overIn_eq : ∀ (s : Nat) (c : Sheet) (x0 y0 x1 y1 : Nat), overIn s c x0 y0 x1 y1 = (allIn s c).filter fun e => overlaps (boxOf e) x0 y0 x1 y1
  | 0, c, x0, y0, x1, y1 => by
    rw [overIn, allIn, List.filter_cons]
    rfl
  | s + 1, c, x0, y0, x1, y1 => by
    rw [overIn, allIn, List.filter_flatMap]
    split
    · congr 1
      funext d
      exact overIn_eq s _ x0 y0 x1 y1
    · rename_i hn
      symm
      rw [List.flatMap_eq_nil_iff]
      intro d _
      rw [List.filter_eq_nil_iff]
      intro e he ho
      obtain ⟨u, rfl, _, _⟩ := (allIn_mem s _ e).mp he
      unfold boxOf at ho hn
      rw [List.append_assoc, List.foldl_append] at ho
      exact hn (over_fold _ ho)
/-- c comes before d -/
def Lx (c d : List Nat) : Prop := ∃ (p : List Nat) (a b : Nat) (u v : List Nat), c = p ++ a :: u ∧ d = p ++ b :: v ∧ a < b
theorem allIn_up : ∀ (s : Nat) (c : Sheet), (allIn s c).Pairwise Lx
  | 0, c => by simp [allIn]
  | s + 1, c => by
    rw [allIn, List.pairwise_flatMap]
    refine ⟨fun d _ => allIn_up s _, ?_⟩
    have k : ∀ a b : Nat, a < b → ∀ x ∈ allIn s (c ++ [a]), ∀ y ∈ allIn s (c ++ [b]), Lx x y := by
      intro a b hab x hx y hy
      obtain ⟨u, rfl, _, _⟩ := (allIn_mem s _ x).mp hx
      obtain ⟨v, rfl, _, _⟩ := (allIn_mem s _ y).mp hy
      exact ⟨c, a, b, u, v, by simp, by simp, hab⟩
    simp only [List.pairwise_cons, List.mem_cons, List.not_mem_nil, or_false, forall_eq_or_imp, forall_eq, false_imp_iff, implies_true, and_true, List.Pairwise.nil]
    exact ⟨⟨k 1 2 (by decide), k 1 3 (by decide), k 1 4 (by decide)⟩, ⟨k 2 3 (by decide), k 2 4 (by decide)⟩, k 3 4 (by decide)⟩
/-- a text's bytes as whole numbers; numbers as whole numbers -/
def bI (b : Bytes) : List Int := b.map fun (c : UInt8) => (c.toNat : Int)
def nI (l : List Nat) : List Int := l.map fun (n : Nat) => (n : Int)
/-- a code as whole numbers -/
def codeI (c : Sheet) : List Int := 83 :: c.map fun (d : Nat) => (48 + d : Int)
theorem codeI_eq {c : Sheet} (h : ∀ d ∈ c, 1 ≤ d ∧ d ≤ 4) : bI (codeText c) = codeI c := by
  unfold bI codeText codeI
  rw [List.map_cons, List.map_map]
  congr 1
  refine List.map_congr_left fun d hd => ?_
  have := h d hd
  have e : (UInt8.ofNat (48 + d)).toNat = 48 + d := by
    rw [UInt8.toNat_ofNat']
    omega
  show ((UInt8.ofNat (48 + d)).toNat : Int) = 48 + d
  rw [e]
  omega
theorem map_lt {f : Nat → Int} (hf : ∀ a b, a < b → f a < f b) : ∀ {c d : List Nat}, Lx c d → c.map f < d.map f := by
  rintro c d ⟨p, a, b, u, v, rfl, rfl, hab⟩
  induction p with
  | nil =>
    show f a :: u.map f < f b :: v.map f
    rw [List.cons_lt_cons_iff]
    exact .inl (hf a b hab)
  | cons x p ih =>
    show f x :: (p ++ a :: u).map f < f x :: (p ++ b :: v).map f
    rw [List.cons_lt_cons_iff]
    exact .inr ⟨rfl, ih⟩
theorem codeI_lt {c d : Sheet} (h : Lx c d) : codeI c < codeI d := by
  unfold codeI
  rw [List.cons_lt_cons_iff]
  exact .inr ⟨rfl, map_lt (by omega) h⟩

/-! ### sorted, and found column by column -/
def srt (l : List (List Int)) : List (List Int) := l.mergeSort fun p q => decide (p ≤ q)
theorem srt_perm (l : List (List Int)) : (srt l).Perm l := List.mergeSort_perm l _
theorem srt_up (l : List (List Int)) : (srt l).Pairwise (· ≤ ·) := by
  have h := List.pairwise_mergeSort (le := fun p q : List Int => decide (p ≤ q)) (fun a b c h1 h2 => by
    simp only [decide_eq_true_eq] at *
    exact List.le_trans h1 h2) (fun a b => by
    simp only [Bool.or_eq_true, decide_eq_true_eq]
    exact List.le_total a b) l
  exact h.imp fun h => by simpa using h
theorem srt_is {l m : List (List Int)} (hp : m.Perm l) (hm : m.Pairwise (· ≤ ·)) : srt l = m :=
  List.Perm.eq_of_pairwise (fun _ _ _ _ h1 h2 => List.le_antisymm h1 h2) (srt_up l) hm ((srt_perm l).trans hp.symm)
def sigma (s : Nat) : Nat := LAND / 2 ^ s
theorem sigma_pos {s : Nat} (hs : s ≤ 6) : 0 < sigma s := side_pos (land_dvd hs) (by decide)
/-- the sheets of a series, column by column -/
def foundL (s x0 y0 x1 y1 : Nat) : List Sheet :=
  (List.range (x1 / sigma s + 1 - x0 / sigma s)).flatMap fun i => (List.range (y1 / sigma s + 1 - y0 / sigma s)).map fun j => qsFrom LAND ((x0 / sigma s + i) * sigma s) ((y0 / sigma s + j) * sigma s) s
theorem cell_in {s x1 i : Nat} (hs : s ≤ 6) (hx : x1 < LAND) (hi : i ≤ x1 / sigma s) : i * sigma s < LAND :=
  Nat.lt_of_le_of_lt (Nat.le_trans (Nat.mul_le_mul_right _ hi) (Nat.div_mul_le_self _ _)) hx
theorem box_cell {s i j : Nat} (hs : s ≤ 6) (hx : i * sigma s < LAND) (hy : j * sigma s < LAND) : boxOf (qsFrom LAND (i * sigma s) (j * sigma s) s) = ⟨i * sigma s, j * sigma s, sigma s⟩ := by
  rw [box_at hs hx hy]
  show (⟨_ - _ % sigma s, _ - _ % sigma s, _⟩ : Square) = _
  rw [Nat.mul_mod_left, Nat.mul_mod_left]
  rfl
theorem found_mem {s x0 y0 x1 y1 : Nat} (hs : s ≤ 6) (hx0 : x0 ≤ x1) (hy0 : y0 ≤ y1) (hx : x1 < LAND) (hy : y1 < LAND) (c : Sheet) :
    c ∈ foundL s x0 y0 x1 y1 ↔ c ∈ over s x0 y0 x1 y1 := by
  have sp := sigma_pos hs
  unfold over
  rw [overIn_eq, List.mem_filter, allIn_mem]
  unfold foundL
  rw [List.mem_flatMap]
  have d0x : x0 / sigma s ≤ x1 / sigma s := Nat.div_le_div_right hx0
  have d0y : y0 / sigma s ≤ y1 / sigma s := Nat.div_le_div_right hy0
  have px0 := Nat.div_add_mod x0 (sigma s)
  have py0 := Nat.div_add_mod y0 (sigma s)
  have mx0 := Nat.mod_lt x0 sp
  have my0 := Nat.mod_lt y0 sp
  constructor
  · rintro ⟨i, hi, hc⟩
    obtain ⟨j, hj, rfl⟩ := List.mem_map.mp hc
    rw [List.mem_range] at hi hj
    have li : x0 / sigma s + i ≤ x1 / sigma s := by omega
    have lj : y0 / sigma s + j ≤ y1 / sigma s := by omega
    have bx := cell_in hs hx li
    have bY := cell_in hs hy lj
    refine ⟨⟨_, rfl, qsFrom_len _ _ _ _, qsFrom_rng _ _ _ _⟩, ?_⟩
    show overlaps (boxOf (qsFrom LAND _ _ s)) x0 y0 x1 y1 = true
    rw [box_cell hs bx bY]
    have e1 := Nat.mul_le_mul_right (sigma s) li
    have e2 := Nat.mul_le_mul_right (sigma s) lj
    have e3 := Nat.div_mul_le_self x1 (sigma s)
    have e4 := Nat.div_mul_le_self y1 (sigma s)
    have e5 := Nat.mul_le_mul_right (sigma s) (Nat.le_add_right (x0 / sigma s) i)
    have e6 := Nat.mul_le_mul_right (sigma s) (Nat.le_add_right (y0 / sigma s) j)
    rw [Nat.mul_comm (sigma s)] at px0 py0
    unfold overlaps
    simp only [Bool.and_eq_true, decide_eq_true_eq]
    omega
  · rintro ⟨⟨u, e, hu, h4⟩, ho⟩
    have e : c = u := e
    subst e
    have hS : Sh c := ⟨by omega, h4⟩
    obtain ⟨b1, b2, b3⟩ := box_back hS
    rw [hu] at b1 b2 b3
    change (boxOf c).x % sigma s = 0 at b2
    change (boxOf c).y % sigma s = 0 at b3
    have bs : (boxOf c).side = sigma s := by
      rw [boxOf_side, hu]
      rfl
    unfold overlaps at ho
    simp only [Bool.and_eq_true, decide_eq_true_eq, bs] at ho
    obtain ⟨o1, o2, o3, o4⟩ := ho
    have ex : (boxOf c).x / sigma s * sigma s = (boxOf c).x := by
      have := Nat.div_add_mod (boxOf c).x (sigma s)
      rw [Nat.mul_comm] at this
      omega
    have ey : (boxOf c).y / sigma s * sigma s = (boxOf c).y := by
      have := Nat.div_add_mod (boxOf c).y (sigma s)
      rw [Nat.mul_comm] at this
      omega
    have ix1 : (boxOf c).x / sigma s ≤ x1 / sigma s := Nat.div_le_div_right o1
    have iy1 : (boxOf c).y / sigma s ≤ y1 / sigma s := Nat.div_le_div_right o3
    have ix0 : x0 / sigma s ≤ (boxOf c).x / sigma s := by
      have h := Nat.div_lt_of_lt_mul (m := x0) (n := sigma s) (k := (boxOf c).x / sigma s + 1) (by rw [Nat.mul_comm, Nat.add_mul, ex]; omega)
      omega
    have iy0 : y0 / sigma s ≤ (boxOf c).y / sigma s := by
      have h := Nat.div_lt_of_lt_mul (m := y0) (n := sigma s) (k := (boxOf c).y / sigma s + 1) (by rw [Nat.mul_comm, Nat.add_mul, ey]; omega)
      omega
    refine ⟨(boxOf c).x / sigma s - x0 / sigma s, List.mem_range.mpr (by omega), List.mem_map.mpr ⟨(boxOf c).y / sigma s - y0 / sigma s, List.mem_range.mpr (by omega), ?_⟩⟩
    rw [Nat.add_sub_cancel' ix0, Nat.add_sub_cancel' iy0, ex, ey]
    exact b1
theorem found_nodup {s x0 y0 x1 y1 : Nat} (hs : s ≤ 6) (hx0 : x0 ≤ x1) (hy0 : y0 ≤ y1) (hx : x1 < LAND) (hy : y1 < LAND) : (foundL s x0 y0 x1 y1).Nodup := by
  have sp := sigma_pos hs
  have d0x : x0 / sigma s ≤ x1 / sigma s := Nat.div_le_div_right hx0
  have d0y : y0 / sigma s ≤ y1 / sigma s := Nat.div_le_div_right hy0
  unfold foundL List.Nodup
  have key : ∀ i j i' j', x0 / sigma s + i ≤ x1 / sigma s → x0 / sigma s + i' ≤ x1 / sigma s → y0 / sigma s + j ≤ y1 / sigma s → y0 / sigma s + j' ≤ y1 / sigma s →
      qsFrom LAND ((x0 / sigma s + i) * sigma s) ((y0 / sigma s + j) * sigma s) s = qsFrom LAND ((x0 / sigma s + i') * sigma s) ((y0 / sigma s + j') * sigma s) s → i = i' ∧ j = j' := by
    intro i j i' j' h1 h2 h3 h4 e
    have e2 := congrArg boxOf e
    rw [box_cell hs (cell_in hs hx h1) (cell_in hs hy h3), box_cell hs (cell_in hs hx h2) (cell_in hs hy h4)] at e2
    have e3 := Nat.eq_of_mul_eq_mul_right sp (congrArg Square.x e2)
    have e4 := Nat.eq_of_mul_eq_mul_right sp (congrArg Square.y e2)
    omega
  have ml : ∀ {n : Nat}, (List.range n).Pairwise (fun a b => a ∈ List.range n ∧ b ∈ List.range n ∧ a < b) := by
    intro n
    have := List.pairwise_lt_range (n := n)
    rw [List.pairwise_iff_forall_sublist] at *
    intro a b hs'
    exact ⟨hs'.subset (by simp), hs'.subset (by simp), this hs'⟩
  rw [List.pairwise_flatMap]
  refine ⟨fun i hi => ?_, ?_⟩
  · rw [List.pairwise_map]
    refine ml.imp fun {a b} ⟨ha, hb, hab⟩ e => ?_
    rw [List.mem_range] at hi ha hb
    have := key i a i b (by omega) (by omega) (by omega) (by omega) e
    omega
  · refine ml.imp fun {a b} ⟨ha, hb, hab⟩ => ?_
    intro x hx' y hy' e
    obtain ⟨j, hj, rfl⟩ := List.mem_map.mp hx'
    obtain ⟨j', hj', rfl⟩ := List.mem_map.mp hy'
    rw [List.mem_range] at ha hb hj hj'
    have := key a j b j' (by omega) (by omega) (by omega) (by omega) e
    omega
theorem over_up (s x0 y0 x1 y1 : Nat) : (over s x0 y0 x1 y1).Pairwise Lx := by
  unfold over
  rw [overIn_eq]
  exact (allIn_up s []).filter _
theorem Lx_ne {c d : List Nat} (h : Lx c d) : c ≠ d := by
  obtain ⟨p, a, b, u, v, rfl, rfl, hab⟩ := h
  intro e
  have := List.append_cancel_left e
  injection this with h1 _
  omega
theorem found_perm {s x0 y0 x1 y1 : Nat} (hs : s ≤ 6) (hx0 : x0 ≤ x1) (hy0 : y0 ≤ y1) (hx : x1 < LAND) (hy : y1 < LAND) : (over s x0 y0 x1 y1).Perm (foundL s x0 y0 x1 y1) :=
  (List.perm_ext_iff_of_nodup ((over_up s x0 y0 x1 y1).imp fun h => Lx_ne h) (found_nodup hs hx0 hy0 hx hy)).mpr fun c => (found_mem hs hx0 hy0 hx hy c).symm
theorem found_sorted {s x0 y0 x1 y1 : Nat} (hs : s ≤ 6) (hx0 : x0 ≤ x1) (hy0 : y0 ≤ y1) (hx : x1 < LAND) (hy : y1 < LAND) :
    srt ((foundL s x0 y0 x1 y1).map codeI) = (over s x0 y0 x1 y1).map codeI := by
  refine srt_is ((found_perm hs hx0 hy0 hx hy).map codeI) ?_
  rw [List.pairwise_map]
  exact (over_up s x0 y0 x1 y1).imp fun h => List.le_of_lt (codeI_lt h)
theorem found_len (s x0 y0 x1 y1 : Nat) : (foundL s x0 y0 x1 y1).length = (x1 / sigma s + 1 - x0 / sigma s) * (y1 / sigma s + 1 - y0 / sigma s) := by
  unfold foundL
  generalize (x1 / sigma s + 1 - x0 / sigma s) = n
  generalize (y1 / sigma s + 1 - y0 / sigma s) = m
  generalize x0 / sigma s = a
  induction n with
  | zero => simp
  | succ n ih =>
    rw [List.range_succ, List.flatMap_append, List.length_append, ih, Nat.add_mul]
    simp
theorem over_codes {s x0 y0 x1 y1 : Nat} (c : Sheet) (h : c ∈ over s x0 y0 x1 y1) : ∀ d ∈ c, 1 ≤ d ∧ d ≤ 4 := by
  unfold over at h
  rw [overIn_eq, List.mem_filter, allIn_mem] at h
  obtain ⟨⟨u, rfl, _, h4⟩, _⟩ := h
  simpa using h4
theorem over_bytes (s x0 y0 x1 y1 : Nat) : (over s x0 y0 x1 y1).map codeI = ((over s x0 y0 x1 y1).map codeText).map bI := by
  rw [List.map_map]
  exact List.map_congr_left fun c hc => (codeI_eq (over_codes c hc)).symm
end SqM

/-! SqMd: great squares, how sheets lie, neighbours, rows with blanks between: plain Lean. -/
namespace SqM
open LsText LsRefs

/-! ### great squares -/
theorem range_mid {β : Type} (n lo hi : Nat) (h1 : lo ≤ hi + 1) (h2 : hi < n) (f : Nat → List β) :
    ((List.range n).flatMap fun i => if lo ≤ i ∧ i ≤ hi then f i else []) = (List.range (hi + 1 - lo)).flatMap fun i => f (lo + i) := by
  have e : n = lo + ((hi + 1 - lo) + (n - hi - 1)) := by omega
  rw [e, List.range_add, List.range_add, List.flatMap_append, List.map_append, List.flatMap_append]
  have z1 : ((List.range lo).flatMap fun i => if lo ≤ i ∧ i ≤ hi then f i else []) = [] := by
    rw [List.flatMap_eq_nil_iff]
    intro i hi'
    rw [List.mem_range] at hi'
    rw [if_neg (by omega)]
  have z3 : ((((List.range (n - hi - 1)).map fun x => (hi + 1 - lo) + x).map fun x => lo + x).flatMap fun i => if lo ≤ i ∧ i ≤ hi then f i else []) = [] := by
    rw [List.flatMap_eq_nil_iff]
    intro i hi'
    obtain ⟨j, hj, rfl⟩ := List.mem_map.mp hi'
    obtain ⟨k, hk, rfl⟩ := List.mem_map.mp hj
    rw [if_neg (by omega)]
  rw [z1, z3, List.nil_append, List.append_nil, List.flatMap_map]
  have e4 : hi + 1 - lo + (n - hi - 1) = n - lo := by omega
  show List.flatMap _ _ = _
  refine congrArg List.flatten (List.map_congr_left fun i hi' => ?_)
  rw [List.mem_range] at hi'
  show (if lo ≤ lo + i ∧ lo + i ≤ hi then f (lo + i) else []) = _
  rw [if_pos (by omega)]
def gName2 (i j : Nat) : Bytes := [LETTERS.getD i 0, LETTERS.getD j 0]
def greatL (x y side : Nat) : List Bytes :=
  (List.range ((x + side - 1) / GREAT + 1 - x / GREAT)).flatMap fun i => (List.range ((y + side - 1) / GREAT + 1 - y / GREAT)).map fun j => gName2 (x / GREAT + i) (y / GREAT + j)
theorem greats_eq (q : Square) (h0 : 0 < q.side) (hx : q.x + q.side ≤ LAND) (hy : q.y + q.side ≤ LAND) : RefsSpec.greats q = greatL q.x q.y q.side := by
  have L : LAND = 10 * GREAT := by decide
  have G : 0 < GREAT := by decide
  unfold RefsSpec.greats greatL
  have ov : ∀ i j : Nat, (overlaps ⟨i * GREAT, j * GREAT, GREAT⟩ q.x q.y (q.x + q.side - 1) (q.y + q.side - 1) = true) ↔ (q.x / GREAT ≤ i ∧ i ≤ (q.x + q.side - 1) / GREAT) ∧ (q.y / GREAT ≤ j ∧ j ≤ (q.y + q.side - 1) / GREAT) := by
    intro i j
    unfold overlaps
    simp only [Bool.and_eq_true, decide_eq_true_eq]
    unfold GREAT
    omega
  have dx : (q.x + q.side - 1) / GREAT < 10 := by unfold GREAT; unfold LAND at hx; omega
  have dy : (q.y + q.side - 1) / GREAT < 10 := by unfold GREAT; unfold LAND at hy; omega
  have lx : q.x / GREAT ≤ (q.x + q.side - 1) / GREAT + 1 := by unfold GREAT; omega
  have ly : q.y / GREAT ≤ (q.y + q.side - 1) / GREAT + 1 := by unfold GREAT; omega
  have inner : ∀ i : Nat, ((List.range 10).filterMap fun (j : Nat) => if overlaps ⟨i * GREAT, j * GREAT, GREAT⟩ q.x q.y (q.x + q.side - 1) (q.y + q.side - 1) = true then some [LETTERS.getD i 0, LETTERS.getD j 0] else none) =
      if q.x / GREAT ≤ i ∧ i ≤ (q.x + q.side - 1) / GREAT then ((List.range ((q.y + q.side - 1) / GREAT + 1 - q.y / GREAT)).map fun j => gName2 i (q.y / GREAT + j)) else [] := by
    intro i
    have e := range_mid 10 (q.y / GREAT) ((q.y + q.side - 1) / GREAT) ly dy (fun j => [gName2 i j])
    by_cases c : q.x / GREAT ≤ i ∧ i ≤ (q.x + q.side - 1) / GREAT
    · rw [if_pos c, ← List.flatMap_singleton' (l := List.map _ _), List.flatMap_map]
      rw [show (fun a => [gName2 i (q.y / GREAT + a)]) = fun a => [gName2 i (q.y / GREAT + a)] from rfl] at e
      refine Eq.trans ?_ e
      have fm : ∀ {α β : Type} (f : α → Option β) (l : List α), l.filterMap f = l.flatMap fun a => (f a).toList := by
        intro α β f l
        induction l with
        | nil => rfl
        | cons a l ih =>
          rw [List.flatMap_cons, ← ih, List.filterMap_cons]
          cases f a <;> rfl
      rw [fm]
      congr 1
      funext j
      by_cases d : q.y / GREAT ≤ j ∧ j ≤ (q.y + q.side - 1) / GREAT
      · rw [if_pos d, if_pos ((ov i j).mpr ⟨c, d⟩)]
        rfl
      · rw [if_neg d, if_neg fun h => d ((ov i j).mp h).2]
        rfl
    · rw [if_neg c, List.filterMap_eq_nil_iff]
      intro j _
      rw [if_neg fun h => c ((ov i j).mp h).1]
  rw [show (fun (i : Nat) => (List.range 10).filterMap fun (j : Nat) => if overlaps ⟨i * GREAT, j * GREAT, GREAT⟩ q.x q.y (q.x + q.side - 1) (q.y + q.side - 1) = true then some [LETTERS.getD i 0, LETTERS.getD j 0] else none) = _ from funext inner]
  exact range_mid 10 _ _ lx dx _

/-! ### how two sheets lie -/
def sharedI (a s b t : Int) : Int := min (a + s) (b + t) - max a b
theorem common_len : ∀ a b : Sheet, ((common a b).length = min a.length b.length) ↔ (a.isPrefixOf b = true ∨ b.isPrefixOf a = true)
  | [], b => by simp [common]
  | x :: a, [] => by simp [common]
  | x :: a, y :: b => by
    have ih := common_len a b
    rw [common]
    by_cases e : x = y
    · subst e
      rw [if_pos rfl, List.isPrefixOf_cons₂, List.isPrefixOf_cons₂, List.length_cons, List.length_cons, List.length_cons]
      simp only [beq_self_eq_true, Bool.true_and]
      rw [← ih]
      omega
    · rw [if_neg e, List.isPrefixOf_cons₂, List.isPrefixOf_cons₂]
      have e' : (y == x) = false := by simp; exact fun h => e h.symm
      have e2 : (x == y) = false := by simp; exact e
      rw [e', e2]
      simp
theorem common_take : ∀ a b : Sheet, common a b = a.take (common a b).length
  | [], b => by simp [common]
  | x :: a, [] => by simp [common]
  | x :: a, y :: b => by
    rw [common]
    by_cases e : x = y
    · rw [if_pos e, List.length_cons, List.take_succ_cons, ← common_take a b]
    · rw [if_neg e]
      rfl
theorem lie_eq {a b : Sheet} (ha : Sh a) (hb : Sh b) :
    (LsRefs.lie a b : Int) = (if (common a b).length = min a.length b.length then 3 else
      let east := sharedI (boxOf a).x (boxOf a).side (boxOf b).x (boxOf b).side
      let north := sharedI (boxOf a).y (boxOf a).side (boxOf b).y (boxOf b).side
      if east < 0 ∨ north < 0 then 0 else if east = 0 ∧ north = 0 then 1 else 2) := by
  have pa := box_pos ha
  have pb := box_pos hb
  unfold LsRefs.lie
  dsimp only
  by_cases c : (common a b).length = min a.length b.length
  · rw [if_pos c, if_pos ((common_len a b).mp c)]
    rfl
  · rw [if_neg c, if_neg fun h => c ((common_len a b).mpr h)]
    unfold sharedI
    generalize (boxOf a).x = px at *
    generalize (boxOf a).y = py at *
    generalize (boxOf a).side = ps at *
    generalize (boxOf b).x = qx at *
    generalize (boxOf b).y = qy at *
    generalize (boxOf b).side = qs at *
    by_cases c1 : (px + ps < qx ∨ qx + qs < px) ∨ (py + ps < qy ∨ qy + qs < py)
    · have e1 : (min ((px : Int) + ps) (qx + qs) - max (px : Int) qx < 0 ∨ min ((py : Int) + ps) (qy + qs) - max (py : Int) qy < 0) := by omega
      rw [if_pos c1, if_pos e1]
      rfl
    · have e1 : ¬ (min ((px : Int) + ps) (qx + qs) - max (px : Int) qx < 0 ∨ min ((py : Int) + ps) (qy + qs) - max (py : Int) qy < 0) := by omega
      rw [if_neg c1, if_neg e1]
      by_cases c2 : (px + ps = qx ∨ qx + qs = px) ∧ (py + ps = qy ∨ qy + qs = py)
      · have e2 : (min ((px : Int) + ps) (qx + qs) - max (px : Int) qx = 0 ∧ min ((py : Int) + ps) (qy + qs) - max (py : Int) qy = 0) := by omega
        rw [if_pos c2, if_pos e2]
        rfl
      · have e2 : ¬ (min ((px : Int) + ps) (qx + qs) - max (px : Int) qx = 0 ∧ min ((py : Int) + ps) (qy + qs) - max (py : Int) qy = 0) := by omega
        rw [if_neg c2, if_neg e2]
        rfl

/-! ### rows with a blank between -/
/-- as the loop goes: the row so far, whether a name stood before -/
def spStep (row : List Int) (at_ : Nat) (name : List Int) : List Int := (if 0 < at_ then row ++ [32] else row) ++ name
def spGo : List (List Int) → Nat → List Int → List Int
  | [], _, row => row
  | n :: r, i, row => spGo r (i + 1) (spStep row i n)
theorem spGo_pos : ∀ (l : List Bytes) (i : Nat) (row : List Int), spGo (l.map bI) (i + 1) row = row ++ (l.flatMap fun n => 32 :: bI n)
  | [], i, row => by simp [spGo]
  | n :: r, i, row => by
    rw [List.map_cons, spGo, spGo_pos r, List.flatMap_cons]
    unfold spStep
    rw [if_pos (by omega)]
    simp
theorem spaced_flat : ∀ (w : Bytes) (l : List Bytes), bI (spaced (w :: l)) = bI w ++ (l.flatMap fun n => 32 :: bI n)
  | w, [] => by simp [spaced]
  | w, n :: r => by
    rw [List.flatMap_cons]
    show bI (w ++ (32 :: spaced (n :: r))) = _
    unfold bI
    rw [List.map_append, List.map_cons]
    congr 1
    show (32 : Int) :: bI (spaced (n :: r)) = _
    rw [spaced_flat n r]
    rfl
theorem spGo_spaced (l : List Bytes) : spGo (l.map bI) 0 [] = bI (spaced l) := by
  cases l with
  | nil => rfl
  | cons w r =>
    rw [List.map_cons, spGo, spGo_pos, spaced_flat]
    rfl
end SqM

/-! SqMe: through which squares a way goes: the times as whole numbers. Plain Lean. -/
namespace SqM
open LsText LsRefs

/-! ### times as whole numbers -/
def amongZ (t : Int) : List Int → List Int
  | [] => [t]
  | u :: r => if t < u then t :: u :: r else if t = u then u :: r else u :: amongZ t r
def betweenZ : List Int → List Int
  | t :: u :: r => 2 * t :: (t + u) :: betweenZ (u :: r)
  | [t] => [2 * t]
  | [] => []
theorem rat_pos {M : Int} (h : 0 < M) : (0 : Rat) < (M : Rat) := by
  rw [show (0 : Rat) = ((0 : Int) : Rat) from rfl]
  exact Rat.intCast_lt_intCast.mpr h
theorem q_lt {M : Int} (h : 0 < M) (a b : Int) : ((a : Rat) / (M : Rat) < (b : Rat) / (M : Rat)) ↔ a < b := by
  have hM := rat_pos h
  rw [Rat.div_lt_iff hM, Rat.div_mul_cancel (Rat.ne_of_gt hM)]
  exact Rat.intCast_lt_intCast
theorem q_eq {M : Int} (h : 0 < M) (a b : Int) : ((a : Rat) / (M : Rat) = (b : Rat) / (M : Rat)) ↔ a = b := by
  constructor
  · intro e
    have h1 : ¬ (a : Rat) / (M : Rat) < (b : Rat) / (M : Rat) := by rw [e]; exact Rat.lt_irrefl
    have h2 : ¬ (b : Rat) / (M : Rat) < (a : Rat) / (M : Rat) := by rw [e]; exact Rat.lt_irrefl
    rw [q_lt h] at h1 h2
    omega
  · intro e
    rw [e]
theorem among_map {M : Int} (h : 0 < M) (t : Int) : ∀ l : List Int, among ((t : Rat) / (M : Rat)) (l.map fun (n : Int) => (n : Rat) / (M : Rat)) = (amongZ t l).map fun (n : Int) => (n : Rat) / (M : Rat)
  | [] => rfl
  | u :: r => by
    rw [List.map_cons, among, amongZ]
    simp only [q_lt h, q_eq h]
    split
    · rfl
    · split
      · rfl
      · rw [among_map h t r]
        rfl
theorem among_fold {M : Int} (h : 0 < M) : ∀ (ev l : List Int), (ev.map fun (n : Int) => (n : Rat) / (M : Rat)).foldl (fun (l : List Rat) (t : Rat) => among t l) (l.map fun (n : Int) => (n : Rat) / (M : Rat)) = (ev.foldl (fun l t => amongZ t l) l).map fun (n : Int) => (n : Rat) / (M : Rat)
  | [], _ => rfl
  | t :: r, l => by
    rw [List.map_cons, List.foldl_cons, among_map h, among_fold h r]
    rfl
theorem half_q {M : Int} (h : 0 < M) (t u : Int) : ((t : Rat) / (M : Rat) + (u : Rat) / (M : Rat)) / 2 = ((t + u : Int) : Rat) / ((2 * M : Int) : Rat) := by
  have hM := Rat.ne_of_gt (rat_pos h)
  rw [Rat.intCast_add, Rat.intCast_mul]
  show _ = _ / ((2 : Rat) * _)
  grind
theorem twice_q {M : Int} (h : 0 < M) (t : Int) : (t : Rat) / (M : Rat) = ((2 * t : Int) : Rat) / ((2 * M : Int) : Rat) := by
  have hM := Rat.ne_of_gt (rat_pos h)
  rw [Rat.intCast_mul, Rat.intCast_mul]
  show _ = ((2 : Rat) * _) / ((2 : Rat) * _)
  grind
theorem between_map {M : Int} (h : 0 < M) : ∀ l : List Int, between (l.map fun (n : Int) => (n : Rat) / (M : Rat)) = (betweenZ l).map fun (n : Int) => (n : Rat) / ((2 * M : Int) : Rat)
  | [] => rfl
  | [t] => by
    show [(t : Rat) / (M : Rat)] = [((2 * t : Int) : Rat) / ((2 * M : Int) : Rat)]
    rw [twice_q h]
  | t :: u :: r => by
    show (t : Rat) / (M : Rat) :: (((t : Rat) / (M : Rat) + (u : Rat) / (M : Rat)) / 2) :: between ((u :: r).map fun (n : Int) => (n : Rat) / (M : Rat)) = ((2 * t : Int) : Rat) / ((2 * M : Int) : Rat) :: ((t + u : Int) : Rat) / ((2 * M : Int) : Rat) :: _
    rw [between_map h (u :: r), half_q h, ← twice_q h]
/-- where a way is at an instant, on one axis -/
def cellZ (a d s D n : Int) : Int := (a * D + d * n) / (s * D)
theorem floor_cell {a d n D : Int} {s : Nat} (hs : 0 < s) (hD : 0 < D) : (((a : Rat) + (d : Rat) * ((n : Rat) / (D : Rat))) / (s : Rat)).floor = cellZ a d s D n := by
  have hs' : (0 : Rat) < ((s : Int) : Rat) := rat_pos (by omega)
  have hD' := rat_pos hD
  have hsD : 0 < (s : Int) * D := Int.mul_pos (by omega) hD
  have e : (((a : Rat) + (d : Rat) * ((n : Rat) / (D : Rat))) / ((s : Int) : Rat)) * (((s : Int) * D : Int) : Rat) = ((a * D + d * n : Int) : Rat) := by
    have h1 := Rat.ne_of_gt hs'
    have h2 := Rat.ne_of_gt hD'
    rw [Rat.intCast_mul, Rat.intCast_add, Rat.intCast_mul, Rat.intCast_mul]
    grind
  have key : ∀ k : Int, k ≤ (((a : Rat) + (d : Rat) * ((n : Rat) / (D : Rat))) / (s : Rat)).floor ↔ k ≤ cellZ a d s D n := by
    intro k
    rw [Rat.le_floor_iff]
    unfold cellZ
    rw [Int.le_ediv_iff_mul_le hsD]
    have hp := rat_pos hsD
    show (k : Rat) ≤ ((a : Rat) + (d : Rat) * ((n : Rat) / (D : Rat))) / ((s : Int) : Rat) ↔ _
    rw [← Rat.intCast_le_intCast, ← e, Rat.intCast_mul k]
    exact ⟨fun h => Rat.mul_le_mul_of_nonneg_right h (Rat.le_of_lt hp), fun h => Rat.le_of_mul_le_mul_right h hp⟩
  have h1 := (key (cellZ a d s D n)).mpr (Int.le_refl _)
  have h2 := (key _).mp (Int.le_refl _)
  omega

/-! ### T: the times at which something may change -/
theorem amongZ_mem (t x : Int) : ∀ l : List Int, x ∈ amongZ t l ↔ x = t ∨ x ∈ l
  | [] => by simp [amongZ]
  | u :: r => by
    rw [amongZ]
    split
    · simp
    · split
      · rename_i h
        subst h
        simp
      · rw [List.mem_cons, amongZ_mem t x r, List.mem_cons]
        constructor
        · rintro (h | h | h) <;> simp [h]
        · rintro (h | h | h) <;> simp [h]
theorem amongZ_up (t : Int) : ∀ l : List Int, l.Pairwise (· < ·) → (amongZ t l).Pairwise (· < ·)
  | [], _ => by simp [amongZ]
  | u :: r, h => by
    have hu := List.pairwise_cons.mp h
    rw [amongZ]
    split
    · rename_i ht
      rw [List.pairwise_cons]
      refine ⟨fun x hx => ?_, h⟩
      rcases List.mem_cons.mp hx with e | hx
      · rw [e]; exact ht
      · have := hu.1 x hx
        omega
    · split
      · exact h
      · rename_i h1 h2
        rw [List.pairwise_cons]
        refine ⟨fun x hx => ?_, amongZ_up t r hu.2⟩
        rcases (amongZ_mem t x r).mp hx with e | hx
        · omega
        · exact hu.1 x hx
theorem foldZ_mem (x : Int) : ∀ (ev l : List Int), x ∈ ev.foldl (fun l t => amongZ t l) l ↔ x ∈ ev ∨ x ∈ l
  | [], l => by simp
  | t :: r, l => by
    rw [List.foldl_cons, foldZ_mem x r, amongZ_mem, List.mem_cons]
    constructor
    · rintro (h | h | h) <;> simp [h]
    · rintro ((h | h) | h) <;> simp [h]
theorem foldZ_up : ∀ (ev l : List Int), l.Pairwise (· < ·) → (ev.foldl (fun l t => amongZ t l) l).Pairwise (· < ·)
  | [], _, h => h
  | t :: r, l, h => foldZ_up r _ (amongZ_up t l h)

/-! ### instants and keys -/
/-- the instants told by T, each with the greatest key that has been met then -/
def keysZ : List Int → List (Int × Int)
  | t :: u :: r => (2 * t, 2 * t) :: (t + u, 2 * t + 1) :: keysZ (u :: r)
  | [t] => [(2 * t, 2 * t)]
  | [] => []
theorem keysZ_fst : ∀ l : List Int, (keysZ l).map (·.1) = betweenZ l
  | [] => rfl
  | [t] => rfl
  | t :: u :: r => by
    rw [keysZ, betweenZ, List.map_cons, List.map_cons, keysZ_fst (u :: r)]
/-- whatever is among the times comes before the instant just if its key has been met -/
def Met (T : List Int) (p : Int × Int) : Prop := (∀ f ∈ T, (2 * f ≤ p.1 ↔ 2 * f ≤ p.2) ∧ (2 * f < p.1 ↔ 2 * f + 1 ≤ p.2))
theorem keysZ_met : ∀ (l pre : List Int), (pre ++ l).Pairwise (· < ·) → ∀ p ∈ keysZ l, Met (pre ++ l) p
  | [], _, _, p, hp => by simp [keysZ] at hp
  | [t], pre, hl, p, hp => by
    have e : p = (2 * t, 2 * t) := by simpa [keysZ] using hp
    subst e
    intro f hf
    refine ⟨?_, ?_⟩ <;> dsimp only <;> constructor <;> intro _ <;> omega
  | t :: u :: r, pre, hl, p, hp => by
    rw [keysZ] at hp
    rcases List.mem_cons.mp hp with e | hp
    · subst e
      intro f hf
      refine ⟨?_, ?_⟩ <;> dsimp only <;> constructor <;> intro _ <;> omega
    rcases List.mem_cons.mp hp with e | hp
    · subst e
      intro f hf
      rw [List.pairwise_append] at hl
      obtain ⟨_, h2, h3⟩ := hl
      have h4 := List.pairwise_cons.mp h2
      have h5 := List.pairwise_cons.mp h4.2
      have tu := h4.1 u (by simp)
      have cases' : f ≤ t ∨ u ≤ f := by
        rcases List.mem_append.mp hf with h | h
        · have := h3 f h t (by simp)
          omega
        · rcases List.mem_cons.mp h with h | h
          · omega
          · rcases List.mem_cons.mp h with h | h
            · omega
            · have := h5.1 f h
              omega
      refine ⟨?_, ?_⟩ <;> dsimp only <;> constructor <;> intro _ <;> omega
    · have := keysZ_met (u :: r) (pre ++ [t]) (by simpa using hl) p hp
      simpa using this
theorem keysZ_up : ∀ (l : List Int), l.Pairwise (· < ·) → (keysZ l).Pairwise (fun p q => p.2 ≤ q.2)
  | [], _ => by simp [keysZ]
  | [t], _ => by simp [keysZ]
  | t :: u :: r, h => by
    have h1 := List.pairwise_cons.mp h
    have ih := keysZ_up (u :: r) h1.2
    have low : ∀ (l : List Int) (b : Int), (∀ x ∈ l, b ≤ x) → ∀ p ∈ keysZ l, 2 * b ≤ p.2 := by
      intro l
      induction l with
      | nil => intro b _ p hp; simp [keysZ] at hp
      | cons a l ihl =>
        intro b hb p hp
        cases l with
        | nil =>
          have e : p = (2 * a, 2 * a) := by simpa [keysZ] using hp
          subst e
          have := hb a (by simp)
          simp only
          omega
        | cons c l =>
          rw [keysZ] at hp
          have := hb a (by simp)
          rcases List.mem_cons.mp hp with e | hp
          · subst e; simp only; omega
          rcases List.mem_cons.mp hp with e | hp
          · subst e; simp only; omega
          · exact ihl b (fun x hx => hb x (List.mem_cons_of_mem _ hx)) p hp
    have tu := h1.1 u (by simp)
    have hb := low (u :: r) u (fun x hx => by
      rcases List.mem_cons.mp hx with e | hx
      · omega
      · have := (List.pairwise_cons.mp h1.2).1 x hx
        omega)
    rw [keysZ, List.pairwise_cons, List.pairwise_cons]
    refine ⟨fun p hp => ?_, fun p hp => ?_, ih⟩
    · rcases List.mem_cons.mp hp with e | hp
      · subst e; simp only; omega
      · have := hb p hp
        simp only; omega
    · have := hb p hp
      simp only; omega
theorem keysZ_even : ∀ (l : List Int) (f : Int), f ∈ l → (2 * f, 2 * f) ∈ keysZ l
  | [], _, h => by simp at h
  | [t], f, h => by
    have : f = t := by simpa using h
    subst this
    simp [keysZ]
  | t :: u :: r, f, h => by
    rcases List.mem_cons.mp h with e | h
    · subst e
      simp [keysZ]
    · have := keysZ_even (u :: r) f h
      rw [keysZ]
      simp [this]
theorem keysZ_odd : ∀ (l : List Int) (f M : Int), l.Pairwise (· < ·) → f ∈ l → M ∈ l → f < M → ∃ p ∈ keysZ l, p.2 = 2 * f + 1
  | [], _, _, _, h, _, _ => by simp at h
  | [t], f, M, _, h, h2, hlt => by
    have e1 : f = t := by simpa using h
    have e2 : M = t := by simpa using h2
    omega
  | t :: u :: r, f, M, hp, h, h2, hlt => by
    have h1 := List.pairwise_cons.mp hp
    rcases List.mem_cons.mp h with e | h
    · subst e
      exact ⟨(f + u, 2 * f + 1), by simp [keysZ], rfl⟩
    · rcases List.mem_cons.mp h2 with e | h2
      · have := h1.1 f h
        omega
      · obtain ⟨p, hp', e⟩ := keysZ_odd (u :: r) f M h1.2 h h2 hlt
        exact ⟨p, by rw [keysZ]; simp [hp'], e⟩
theorem keysZ_rng : ∀ (l : List Int) (lo hi : Int), (∀ x ∈ l, lo ≤ x ∧ x ≤ hi) → ∀ p ∈ keysZ l, 2 * lo ≤ p.1 ∧ p.1 ≤ 2 * hi
  | [], _, _, _, p, hp => by simp [keysZ] at hp
  | [t], lo, hi, h, p, hp => by
    have e : p = (2 * t, 2 * t) := by simpa [keysZ] using hp
    subst e
    have := h t (by simp)
    simp only
    omega
  | t :: u :: r, lo, hi, h, p, hp => by
    have h1 := h t (by simp)
    have h2 := h u (by simp)
    rw [keysZ] at hp
    rcases List.mem_cons.mp hp with e | hp
    · subst e; simp only; omega
    rcases List.mem_cons.mp hp with e | hp
    · subst e; simp only; omega
    · exact keysZ_rng (u :: r) lo hi (fun x hx => h x (List.mem_cons_of_mem _ hx)) p hp
end SqM

/-! SqMf: the changes along a way, sorted, and the squares told by them. Plain Lean. -/
namespace SqM
open LsText LsRefs

/-! ### two lists that rise alike -/
theorem rise_eq {α : Type} {φ : α → Int} {l m : List α} (h1 : l.Pairwise fun a b => φ a < φ b) (h2 : m.Pairwise fun a b => φ a < φ b) (h : ∀ x, x ∈ l ↔ x ∈ m) : l = m := by
  have nd : ∀ {l : List α}, l.Pairwise (fun a b => φ a < φ b) → l.Nodup := fun h => h.imp fun {a b} hab e => by
    rw [e] at hab
    omega
  have hp := (List.perm_ext_iff_of_nodup (nd h1) (nd h2)).mpr h
  refine List.Perm.eq_of_pairwise (le := fun a b => φ a < φ b) (fun a b _ _ x y => ?_) h1 h2 hp
  omega
theorem obo_mem (x : Int × Int) : ∀ l : List (Int × Int), x ∈ oneByOne l ↔ x ∈ l
  | [] => by simp [oneByOne]
  | [a] => by simp [oneByOne]
  | a :: b :: r => by
    rw [oneByOne]
    split
    · rename_i e
      subst e
      rw [obo_mem x (a :: r)]
      simp
    · rw [List.mem_cons, obo_mem x (b :: r), List.mem_cons, List.mem_cons, List.mem_cons]
theorem obo_up {φ : Int × Int → Int} : ∀ l : List (Int × Int), l.Pairwise (fun a b => φ a ≤ φ b ∧ (φ a = φ b → a = b)) → (oneByOne l).Pairwise fun a b => φ a < φ b
  | [], _ => by simp [oneByOne]
  | [a], _ => by simp [oneByOne]
  | a :: b :: r, h => by
    have h1 := List.pairwise_cons.mp h
    have ih := obo_up (b :: r) h1.2
    rw [oneByOne]
    split
    · exact ih
    · rename_i ne
      rw [List.pairwise_cons]
      refine ⟨fun x hx => ?_, ih⟩
      have hab := h1.1 b (by simp)
      have lt : φ a < φ b := by
        rcases Int.lt_or_eq_of_le hab.1 with h | h
        · exact h
        · exact absurd (hab.2 h) ne
      rw [obo_mem] at hx
      rcases List.mem_cons.mp hx with e | hx
      · rw [e]; exact lt
      · have := (List.pairwise_cons.mp h1.2).1 x hx
        omega

/-! ### changes -/
/-- a change: how far, the delay, the step east, the step north -/
structure Ch where
  f : Int
  d : Int
  e : Int
  n : Int
def Ch.row (c : Ch) : List Int := [c.f, c.d, c.e, c.n]
def Ch.key (c : Ch) : Int := 2 * c.f + c.d
def pos (p : Int × Int) (l : List Ch) : Int × Int := (p.1 + (l.map (·.e)).sum, p.2 + (l.map (·.n)).sum)
/-- the squares behind each change that the next one doesn't share its place with -/
def goW : List Ch → Int → Int → List (Int × Int)
  | [], _, _ => []
  | [c], x, y => [(x + c.e, y + c.n)]
  | c :: c' :: r, x, y => if c'.f = c.f ∧ c'.d = c.d then goW (c' :: r) (x + c.e) (y + c.n) else (x + c.e, y + c.n) :: goW (c' :: r) (x + c.e) (y + c.n)
theorem pos_cons (p : Int × Int) (c : Ch) (l : List Ch) : pos p (c :: l) = pos (p.1 + c.e, p.2 + c.n) l := by
  unfold pos
  simp only [List.map_cons, List.sum_cons]
  rw [Int.add_assoc, Int.add_assoc]
theorem goW_mem (z : Int × Int) : ∀ (l : List Ch) (x y : Int), z ∈ goW l x y ↔ ∃ (pre : List Ch) (c : Ch) (post : List Ch), l = pre ++ c :: post ∧ (∀ c' r, post = c' :: r → ¬ (c'.f = c.f ∧ c'.d = c.d)) ∧ z = pos (x, y) (pre ++ [c])
  | [], x, y => by simp [goW]
  | [c], x, y => by
    rw [goW, List.mem_singleton]
    constructor
    · rintro rfl
      refine ⟨[], c, [], rfl, fun _ _ h => by simp at h, ?_⟩
      rw [List.nil_append, pos_cons]
      simp [pos]
    · rintro ⟨pre, c', post, h, _, rfl⟩
      cases pre with
      | nil =>
        injection h with h1 h2
        subst h1
        rw [List.nil_append, pos_cons]
        simp [pos]
      | cons a pre =>
        injection h with h1 h2
        simp at h2
  | c :: c' :: r, x, y => by
    have ih := goW_mem z (c' :: r) (x + c.e) (y + c.n)
    have up : (∃ (pre : List Ch) (k : Ch) (post : List Ch), c' :: r = pre ++ k :: post ∧ (∀ c' r, post = c' :: r → ¬ (c'.f = k.f ∧ c'.d = k.d)) ∧ z = pos (x + c.e, y + c.n) (pre ++ [k])) →
        ∃ (pre : List Ch) (k : Ch) (post : List Ch), c :: c' :: r = pre ++ k :: post ∧ (∀ c' r, post = c' :: r → ¬ (c'.f = k.f ∧ c'.d = k.d)) ∧ z = pos (x, y) (pre ++ [k]) := by
      rintro ⟨pre, k, post, h1, h2, h3⟩
      refine ⟨c :: pre, k, post, by rw [h1]; rfl, h2, ?_⟩
      rw [List.cons_append, pos_cons]
      exact h3
    rw [goW]
    split
    · rename_i hs
      rw [ih]
      refine ⟨up, ?_⟩
      rintro ⟨pre, k, post, h1, h2, h3⟩
      cases pre with
      | nil =>
        injection h1 with h1 h4
        subst h1
        exact absurd hs (h2 c' r h4.symm)
      | cons a pre =>
        injection h1 with h1 h4
        subst h1
        refine ⟨pre, k, post, h4, h2, ?_⟩
        rw [List.cons_append, pos_cons] at h3
        exact h3
    · rename_i hs
      rw [List.mem_cons, ih]
      constructor
      · rintro (h | h)
        · refine ⟨[], c, c' :: r, rfl, fun a b e => ?_, ?_⟩
          · injection e with e1 _
            rw [← e1]
            exact hs
          · rw [h, List.nil_append, pos_cons]
            simp [pos]
        · exact up h
      · rintro ⟨pre, k, post, h1, h2, h3⟩
        cases pre with
        | nil =>
          injection h1 with h1 h4
          subst h1
          left
          rw [h3, List.nil_append, pos_cons]
          simp [pos]
        | cons a pre =>
          injection h1 with h1 h4
          subst h1
          right
          refine ⟨pre, k, post, h4, h2, ?_⟩
          rw [List.cons_append, pos_cons] at h3
          exact h3
theorem goW_up {φ : Int × Int → Int} : ∀ (l : List Ch) (x y : Int), (∀ c ∈ l, ∀ p : Int × Int, φ (p.1 + c.e, p.2 + c.n) = φ p + 1) →
    (goW l x y).Pairwise (fun a b => φ a < φ b) ∧ ∀ z ∈ goW l x y, φ (x, y) < φ z
  | [], _, _, _ => by simp [goW]
  | [c], x, y, h => by
    rw [goW]
    refine ⟨by simp, fun z hz => ?_⟩
    rw [List.mem_singleton] at hz
    have := h c (by simp) (x, y)
    rw [hz, this]
    omega
  | c :: c' :: r, x, y, h => by
    obtain ⟨i1, i2⟩ := goW_up (c' :: r) (x + c.e) (y + c.n) fun k hk => h k (List.mem_cons_of_mem _ hk)
    have hc : φ (x + c.e, y + c.n) = φ (x, y) + 1 := h c (by simp) (x, y)
    rw [goW]
    split
    · refine ⟨i1, fun z hz => ?_⟩
      have := i2 z hz
      omega
    · rw [List.pairwise_cons]
      refine ⟨⟨i2, i1⟩, fun z hz => ?_⟩
      rcases List.mem_cons.mp hz with e | hz
      · rw [e, hc]; omega
      · have := i2 z hz
        omega

/-! ### sorted lists by a bound -/
theorem cut_key (κ : Int) : ∀ l : List Ch, l.Pairwise (fun a b => a.key ≤ b.key) → l = l.filter (fun c => decide (c.key ≤ κ)) ++ l.filter (fun c => !decide (c.key ≤ κ))
  | [], _ => rfl
  | c :: r, h => by
    have h1 := List.pairwise_cons.mp h
    by_cases hc : c.key ≤ κ
    · rw [List.filter_cons_of_pos (by simpa using hc), List.filter_cons_of_neg (by simpa using hc), List.cons_append, ← cut_key κ r h1.2]
    · have z : r.filter (fun c => decide (c.key ≤ κ)) = [] := by
        rw [List.filter_eq_nil_iff]
        intro a ha
        have := h1.1 a ha
        simp only [decide_eq_true_eq]
        omega
      have w : r.filter (fun c => !decide (c.key ≤ κ)) = r := by
        rw [List.filter_eq_self]
        intro a ha
        have := h1.1 a ha
        simp only [Bool.not_eq_true', decide_eq_false_iff_not]
        omega
      rw [List.filter_cons_of_neg (by simpa using hc), List.filter_cons_of_pos (by simpa using hc), z, w, List.nil_append]
theorem filter_mono {κ κ' : Int} (h : κ ≤ κ') (l : List Ch) : (l.filter fun c => decide (c.key ≤ κ)).Sublist (l.filter fun c => decide (c.key ≤ κ')) := by
  have e : l.filter (fun c => decide (c.key ≤ κ)) = (l.filter fun c => decide (c.key ≤ κ')).filter fun c => decide (c.key ≤ κ) := by
    rw [List.filter_filter]
    refine List.filter_congr fun c _ => ?_
    by_cases hc : c.key ≤ κ
    · simp [hc, Int.le_trans hc h]
    · simp [hc]
  rw [e]
  exact List.filter_sublist
/-- φ rises by one with each change -/
theorem pos_phi {φ : Int × Int → Int} : ∀ (l : List Ch) (p : Int × Int), (∀ c ∈ l, ∀ p : Int × Int, φ (p.1 + c.e, p.2 + c.n) = φ p + 1) → φ (pos p l) = φ p + l.length
  | [], p, _ => by simp [pos]
  | c :: r, p, h => by
    rw [pos_cons, pos_phi r _ fun k hk => h k (List.mem_cons_of_mem _ hk), h c (by simp) p, List.length_cons]
    omega
/-- THE CORE: the squares told change by change are those of the instants -/
theorem core {S : List Ch} {T : List Int} {p : Int × Int} {cell : Int → Int × Int} {φ : Int × Int → Int}
    (hS : S.Pairwise fun a b => a.key ≤ b.key) (hφ : ∀ c ∈ S, ∀ p : Int × Int, φ (p.1 + c.e, p.2 + c.n) = φ p + 1) (hd : ∀ c ∈ S, 0 ≤ c.d ∧ c.d ≤ 1)
    (hT : T.Pairwise (· < ·)) (hk : ∀ c ∈ S, ∃ q ∈ keysZ T, q.2 = c.key) (h0 : ∃ q ∈ keysZ T, cell q.1 = p)
    (hc : ∀ q ∈ keysZ T, cell q.1 = pos p (S.filter fun c => decide (c.key ≤ q.2))) :
    oneByOne ((betweenZ T).map cell) = p :: goW S p.1 p.2 := by
  have hG := goW_up (φ := φ) S p.1 p.2 hφ
  have phiF : ∀ κ, φ (pos p (S.filter fun c => decide (c.key ≤ κ))) = φ p + (S.filter fun c => decide (c.key ≤ κ)).length := fun κ => pos_phi _ _ fun c hc' => hφ c (List.mem_filter.mp hc').1
  refine rise_eq (φ := φ) (obo_up _ ?_) ?_ fun z => ?_
  · rw [← keysZ_fst, List.map_map, List.pairwise_map]
    have both : ∀ {l : List (Int × Int)} {R : Int × Int → Int × Int → Prop}, l.Pairwise R → l.Pairwise fun a b => a ∈ l ∧ b ∈ l ∧ R a b := by
      intro l R h
      rw [List.pairwise_iff_forall_sublist] at *
      intro a b hs
      exact ⟨hs.subset (by simp), hs.subset (by simp), h hs⟩
    refine (both (keysZ_up T hT)).imp fun {a b} ⟨ha, hb, hab⟩ => ?_
    show φ (cell a.1) ≤ φ (cell b.1) ∧ (φ (cell a.1) = φ (cell b.1) → cell a.1 = cell b.1)
    rw [hc a ha, hc b hb, phiF, phiF]
    have sl := filter_mono hab S
    have ll := sl.length_le
    refine ⟨by omega, fun e => ?_⟩
    rw [sl.eq_of_length (by omega)]
  · rw [List.pairwise_cons]
    exact ⟨hG.2, hG.1⟩
  · rw [obo_mem, ← keysZ_fst, List.map_map, List.mem_map, List.mem_cons, goW_mem]
    constructor
    · rintro ⟨q, hq, rfl⟩
      have e := hc q hq
      have cut := cut_key q.2 S hS
      generalize hL : (S.filter fun c => decide (c.key ≤ q.2)) = L at *
      generalize hR : (S.filter fun c => !decide (c.key ≤ q.2)) = R at *
      show cell q.1 = p ∨ _
      rw [e]
      rcases List.eq_nil_or_concat L with h | ⟨L', k, h⟩
      · left
        rw [h]
        simp [pos]
      · right
        rw [List.concat_eq_append] at h
        refine ⟨L', k, R, by rw [cut, h]; simp, fun c' r hr => ?_, by rw [← h]; exact e⟩
        have m1 : c'.key > q.2 := by
          have : c' ∈ R := by rw [hr]; simp
          rw [← hR, List.mem_filter] at this
          have := this.2
          simp only [Bool.not_eq_true', decide_eq_false_iff_not] at this
          omega
        have m2 : k.key ≤ q.2 := by
          have : k ∈ L := by rw [h]; simp
          rw [← hL, List.mem_filter] at this
          simpa using this.2
        unfold Ch.key at m1 m2
        rintro ⟨e1, e2⟩
        rw [e1, e2] at m1
        omega
    · rintro (rfl | ⟨pre, k, post, h1, h2, rfl⟩)
      · obtain ⟨q, hq, e⟩ := h0
        exact ⟨q, hq, e⟩
      · have hkS : k ∈ S := by rw [h1]; simp
        obtain ⟨q, hq, e⟩ := hk k hkS
        refine ⟨q, hq, ?_⟩
        show cell q.1 = _
        rw [hc q hq, e, h1]
        rw [h1] at hS
        rw [List.pairwise_append] at hS
        obtain ⟨s1, s2, s3⟩ := hS
        have f1 : pre.filter (fun c => decide (c.key ≤ k.key)) = pre := by
          rw [List.filter_eq_self]
          intro a ha
          have := s3 a ha k (by simp)
          simpa using this
        have f2 : post.filter (fun c => decide (c.key ≤ k.key)) = [] := by
          cases post with
          | nil => rfl
          | cons c' r =>
            have s4 := List.pairwise_cons.mp s2
            have s5 := List.pairwise_cons.mp s4.2
            have a1 := s4.1 c' (by simp)
            have ne := h2 c' r rfl
            have d1 := hd k hkS
            have d2 := hd c' (by rw [h1]; simp)
            have lt : k.key < c'.key := by
              unfold Ch.key at *
              rcases Int.lt_or_eq_of_le a1 with h | h
              · exact h
              · exact absurd (by omega) ne
            rw [List.filter_eq_nil_iff]
            intro a ha
            have : c'.key ≤ a.key := by
              rcases List.mem_cons.mp ha with e | ha
              · rw [e]; exact Int.le_refl _
              · exact s5.1 a ha
            simp only [decide_eq_true_eq]
            omega
        rw [List.filter_append, List.filter_cons_of_pos (by simp), f1, f2]
end SqM

/-! SqMg: the squares of a way: the specification's times against the changes sorted. Plain Lean. -/
namespace SqM
open LsText LsRefs

def absI (i : Int) : Int := if i < 0 then -i else i
def max1 (i : Int) : Int := if 1 > i then 1 else i
def stepI (a b : Int) : Int := if a ≤ b then 1 else -1
def delayI (a b : Int) : Int := if a ≤ b then 0 else 1
/-- how far from its start a way from one number to another comes to the lines -/
def farL (s a b : Int) : List Int :=
  if a ≤ b then (List.range (b / s - a / s).toNat).map fun (i : Nat) => (a / s + 1 + (i : Int)) * s - a
  else (List.range (a / s - b / s).toNat).map fun (i : Nat) => a - (a / s + (i : Int) * (-1)) * s
/-- the greater extent, at least 1 -/
def extI (a b : Int) : Int := max1 (absI (b - a))
theorem ext_pos (a b : Int) : 0 < extI a b := by
  unfold extI max1 absI
  split <;> split <;> omega
theorem step_sq (a b : Int) : stepI a b * stepI a b = 1 := by
  unfold stepI
  split <;> rfl
theorem far_bd {s a b : Int} (hs : 0 < s) (f : Int) (h : f ∈ farL s a b) : 0 ≤ f ∧ f ≤ extI a b ∧ (¬ a ≤ b → f < extI a b) := by
  have ea := Int.mul_ediv_add_emod a s
  have eb := Int.mul_ediv_add_emod b s
  have ma := Int.emod_nonneg a (show s ≠ 0 by omega)
  have mb := Int.emod_nonneg b (show s ≠ 0 by omega)
  have la := Int.emod_lt_of_pos a hs
  have lb := Int.emod_lt_of_pos b hs
  unfold farL at h
  split at h
  · rename_i hab
    obtain ⟨i, hi, rfl⟩ := List.mem_map.mp h
    rw [List.mem_range] at hi
    have u : a / s + 1 + (i : Int) ≤ b / s := by omega
    have u2 := Int.mul_le_mul_of_nonneg_right u (Int.le_of_lt hs)
    have l2 : (a / s + 1) * s ≤ (a / s + 1 + (i : Int)) * s := Int.mul_le_mul_of_nonneg_right (by omega) (Int.le_of_lt hs)
    rw [Int.add_mul, Int.one_mul] at l2
    rw [Int.mul_comm s] at ea eb
    unfold extI max1 absI
    refine ⟨by omega, ?_, fun h => absurd hab h⟩
    split <;> split <;> omega
  · rename_i hab
    obtain ⟨i, hi, rfl⟩ := List.mem_map.mp h
    rw [List.mem_range] at hi
    have u : b / s + 1 ≤ a / s + (i : Int) * (-1) := by omega
    have u2 := Int.mul_le_mul_of_nonneg_right u (Int.le_of_lt hs)
    have l2 : (a / s + (i : Int) * (-1)) * s ≤ a / s * s := Int.mul_le_mul_of_nonneg_right (by omega) (Int.le_of_lt hs)
    rw [Int.add_mul (b / s), Int.one_mul] at u2
    rw [Int.mul_comm s] at ea eb
    unfold extI max1 absI
    refine ⟨by omega, ?_, fun _ => ?_⟩ <;> split <;> split <;> omega
theorem count_lt (m : Nat) : ∀ n : Nat, m ≤ n → ((List.range n).filter fun i => decide (i < m)).length = m
  | 0, h => by
    have : m = 0 := by omega
    subst this
    rfl
  | n + 1, h => by
    rw [List.range_succ, List.filter_append, List.length_append]
    by_cases c : m ≤ n
    · rw [count_lt m n c, List.filter_cons_of_neg (by simp; omega)]
      rfl
    · have e : m = n + 1 := by omega
      subst e
      rw [List.filter_cons_of_pos (by simp)]
      have : (List.range n).filter (fun i => decide (i < n + 1)) = List.range n := by
        rw [List.filter_eq_self]
        intro i hi
        rw [List.mem_range] at hi
        simp; omega
      rw [this, List.length_range]
      rfl
/-- one axis: how many lines have been met at an instant -/
theorem axis {s a b O n κ : Int} (hs : 0 < s) (hO : 0 < O) (hn0 : 0 ≤ n) (hn : n ≤ 2 * (extI a b * O))
    (hm : ∀ f ∈ farL s a b, (2 * (f * O) ≤ n ↔ 2 * (f * O) ≤ κ) ∧ (2 * (f * O) < n ↔ 2 * (f * O) + 1 ≤ κ)) :
    cellZ a (b - a) s (2 * (extI a b * O)) n = a / s + stepI a b * (((farL s a b).filter fun f => decide (2 * (f * O) + delayI a b ≤ κ)).length : Int) := by
  have hW := ext_pos a b
  generalize hWW : extI a b = W at *
  have hWO : 0 < W * O := Int.mul_pos hW hO
  have hD : 0 < 2 * (W * O) := by omega
  generalize hDD : 2 * (W * O) = D at *
  have hsD : 0 < s * D := Int.mul_pos hs hD
  unfold cellZ
  have divA : (a * D) / (s * D) = a / s := Int.mul_ediv_mul_of_pos_left a s hD
  have divB : (b * D) / (s * D) = b / s := Int.mul_ediv_mul_of_pos_left b s hD
  unfold farL stepI delayI at *
  by_cases hab : a ≤ b
  · simp only [if_pos hab] at hm ⊢
    have nn : 0 ≤ (b - a) * n := Int.mul_nonneg (by omega) hn0
    have nD : (b - a) * n ≤ (b - a) * D := Int.mul_le_mul_of_nonneg_left hn (by omega)
    rw [Int.sub_mul b a D] at nD
    have lo : a / s ≤ (a * D + (b - a) * n) / (s * D) := by
      rw [← divA]
      exact Int.ediv_le_ediv hsD (by omega)
    have hi : (a * D + (b - a) * n) / (s * D) ≤ b / s := by
      rw [← divB]
      exact Int.ediv_le_ediv hsD (by omega)
    generalize hC : (a * D + (b - a) * n) / (s * D) = C at *
    rw [List.filter_map, List.length_map, List.filter_congr (q := fun i => decide (i < (C - a / s).toNat)), count_lt _ _ (by omega)]
    · omega
    · intro i hi'
      rw [List.mem_range] at hi'
      have hmi := (hm _ (List.mem_map.mpr ⟨i, List.mem_range.mpr hi', rfl⟩)).1
      have ne : a < b := by
        rcases Int.lt_or_eq_of_le hab with h | h
        · exact h
        · rw [h] at hi'
          omega
      have eW : W = b - a := by
        rw [← hWW]
        unfold extI max1 absI
        rw [if_neg (show ¬ b - a < 0 by omega)]
        split <;> omega
      have step : (a / s + 1 + (i : Int) ≤ C) ↔ 2 * (((a / s + 1 + (i : Int)) * s - a) * O) ≤ n := by
        rw [← hC, Int.le_ediv_iff_mul_le hsD]
        generalize a / s + 1 + (i : Int) = L
        have e1 : L * (s * D) = (L * s - a) * D + a * D := by rw [Int.sub_mul, ← Int.mul_assoc]; omega
        have e2 : (L * s - a) * D = W * (2 * ((L * s - a) * O)) := by
          rw [← hDD]
          generalize L * s - a = F
          grind
        rw [e1, e2, ← eW, Int.add_comm (a * D)]
        constructor
        · intro h
          exact Int.le_of_mul_le_mul_left (by omega) hW
        · intro h
          have := Int.mul_le_mul_of_nonneg_left h (Int.le_of_lt hW)
          omega
      show decide (2 * (((a / s + 1 + (i : Int)) * s - a) * O) + 0 ≤ κ) = decide (i < (C - a / s).toNat)
      rw [Int.add_zero]
      refine decide_eq_decide.mpr ?_
      rw [← hmi, ← step]
      omega
  · simp only [if_neg hab] at hm ⊢
    have nn : (b - a) * n ≤ 0 := Int.mul_nonpos_of_nonpos_of_nonneg (by omega) hn0
    have nD : (b - a) * D ≤ (b - a) * n := Int.mul_le_mul_of_nonpos_left (by omega) hn
    rw [Int.sub_mul b a D] at nD
    have hi : (a * D + (b - a) * n) / (s * D) ≤ a / s := by
      rw [← divA]
      exact Int.ediv_le_ediv hsD (by omega)
    have lo : b / s ≤ (a * D + (b - a) * n) / (s * D) := by
      rw [← divB]
      exact Int.ediv_le_ediv hsD (by omega)
    generalize hC : (a * D + (b - a) * n) / (s * D) = C at *
    rw [List.filter_map, List.length_map, List.filter_congr (q := fun i => decide (i < (a / s - C).toNat)), count_lt _ _ (by omega)]
    · omega
    · intro i hi'
      rw [List.mem_range] at hi'
      have hmi := (hm _ (List.mem_map.mpr ⟨i, List.mem_range.mpr hi', rfl⟩)).2
      have eW : W = a - b := by
        rw [← hWW]
        unfold extI max1 absI
        rw [if_pos (show b - a < 0 by omega)]
        split <;> omega
      have step : (a / s + (i : Int) * (-1) ≤ C) ↔ ¬ 2 * ((a - (a / s + (i : Int) * (-1)) * s) * O) < n := by
        rw [← hC, Int.le_ediv_iff_mul_le hsD]
        generalize a / s + (i : Int) * (-1) = L
        have e1 : L * (s * D) = a * D - (a - L * s) * D := by rw [Int.sub_mul, ← Int.mul_assoc]; omega
        have e2 : (a - L * s) * D = W * (2 * ((a - L * s) * O)) := by
          rw [← hDD]
          generalize a - L * s = F
          grind
        have e3 : (b - a) * n = -(W * n) := by rw [eW, ← Int.neg_mul]; congr 1; omega
        rw [e1, e2, e3]
        constructor
        · intro h h2
          have := Int.mul_lt_mul_of_pos_left h2 hW
          omega
        · intro h
          have := Int.mul_le_mul_of_nonneg_left (Int.not_lt.mp h) (Int.le_of_lt hW)
          omega
      show decide (2 * ((a - (a / s + (i : Int) * (-1)) * s) * O) + 1 ≤ κ) = decide (i < (a / s - C).toNat)
      refine decide_eq_decide.mpr ?_
      rw [← hmi]
      omega
end SqM

/-! SqMh: LsRefs.through told by the changes sorted. Plain Lean. -/
namespace SqM
open LsText LsRefs

/-- all changes of a way's square, as the program lists them -/
def chsL (s x0 y0 x1 y1 : Int) : List Ch :=
  ((farL s x0 x1).map fun f => ⟨f * extI y0 y1, delayI x0 x1, stepI x0 x1, 0⟩) ++ ((farL s y0 y1).map fun f => ⟨f * extI x0 x1, delayI y0 y1, 0, stepI y0 y1⟩)
def chsS (s x0 y0 x1 y1 : Int) : List Ch := (chsL s x0 y0 x1 y1).mergeSort fun p q => decide (p.row ≤ q.row)
theorem chsS_perm (s x0 y0 x1 y1 : Int) : (chsS s x0 y0 x1 y1).Perm (chsL s x0 y0 x1 y1) := List.mergeSort_perm _ _
theorem row_le {p q : Ch} (h : p.row ≤ q.row) (hp : 0 ≤ p.d ∧ p.d ≤ 1) (hq : 0 ≤ q.d ∧ q.d ≤ 1) : p.key ≤ q.key := by
  have n : ¬ q.row < p.row := h
  unfold Ch.row at n
  simp only [List.cons_lt_cons_iff] at n
  unfold Ch.key
  omega
theorem delay_bd (a b : Int) : 0 ≤ delayI a b ∧ delayI a b ≤ 1 := by
  unfold delayI
  split <;> omega
theorem chsL_d {s x0 y0 x1 y1 : Int} (c : Ch) (h : c ∈ chsL s x0 y0 x1 y1) : 0 ≤ c.d ∧ c.d ≤ 1 := by
  unfold chsL at h
  rcases List.mem_append.mp h with h | h
  · obtain ⟨f, _, rfl⟩ := List.mem_map.mp h
    exact delay_bd _ _
  · obtain ⟨f, _, rfl⟩ := List.mem_map.mp h
    exact delay_bd _ _
theorem chsS_up (s x0 y0 x1 y1 : Int) : (chsS s x0 y0 x1 y1).Pairwise fun a b => a.key ≤ b.key := by
  have h := List.pairwise_mergeSort (le := fun p q : Ch => decide (p.row ≤ q.row)) (fun a b c h1 h2 => by
    simp only [decide_eq_true_eq] at *
    exact List.le_trans h1 h2) (fun a b => by
    simp only [Bool.or_eq_true, decide_eq_true_eq]
    exact List.le_total a.row b.row) (chsL s x0 y0 x1 y1)
  have both : ∀ {l : List Ch} {R : Ch → Ch → Prop}, l.Pairwise R → l.Pairwise fun a b => a ∈ l ∧ b ∈ l ∧ R a b := by
    intro l R h
    rw [List.pairwise_iff_forall_sublist] at *
    intro a b hs
    exact ⟨hs.subset (by simp), hs.subset (by simp), h hs⟩
  refine (both h).imp fun {a b} ⟨ha, hb, hab⟩ => ?_
  have m1 := (List.mergeSort_perm (chsL s x0 y0 x1 y1) _).mem_iff.mp ha
  have m2 := (List.mergeSort_perm (chsL s x0 y0 x1 y1) _).mem_iff.mp hb
  exact row_le (by simpa using hab) (chsL_d a m1) (chsL_d b m2)

/-! ### the specification's crossings -/
def specFar (s a b : Int) : List Int := if a = b then [] else
  (List.range (max a b / s - min a b / s).toNat).map fun (i : Nat) => if a < b then (min a b / s + 1 + (i : Int)) * s - a else a - (min a b / s + 1 + (i : Int)) * s
theorem crossings_eq {s : Nat} (a b O : Int) (hO : 0 < O) : LsRefs.crossings s a b = (specFar s a b).map fun f => ((f * O : Int) : Rat) / ((extI a b * O : Int) : Rat) := by
  unfold LsRefs.crossings specFar
  split
  · rfl
  · rename_i hab
    dsimp only
    rw [List.map_map]
    refine List.map_congr_left fun i _ => ?_
    have hO' := Rat.ne_of_gt (rat_pos hO)
    have hW := Rat.ne_of_gt (rat_pos (ext_pos a b))
    show (((min a b / (s : Int) + 1 + (i : Int)) * (s : Int) - a : Int) : Rat) / ((b - a : Int) : Rat) = (((if a < b then (min a b / (s : Int) + 1 + (i : Int)) * (s : Int) - a else a - (min a b / (s : Int) + 1 + (i : Int)) * (s : Int)) * O : Int) : Rat) / ((extI a b * O : Int) : Rat)
    generalize (min a b / (s : Int) + 1 + (i : Int)) * (s : Int) = L
    by_cases h : a < b
    · have e : extI a b = b - a := by
        unfold extI max1 absI
        rw [if_neg (show ¬ b - a < 0 by omega)]
        split <;> omega
      rw [if_pos h, e, Rat.intCast_mul, Rat.intCast_mul]
      rw [e] at hW
      grind
    · have e : extI a b = -(b - a) := by
        unfold extI max1 absI
        rw [if_pos (show b - a < 0 by omega)]
        split <;> omega
      have e2 : a - L = -(L - a) := by omega
      rw [if_neg h, e, e2, Rat.intCast_mul, Rat.intCast_mul]
      rw [e] at hW
      rw [Rat.intCast_neg] at hW ⊢
      rw [Rat.intCast_neg]
      grind
theorem specFar_mem {s a b : Int} (f : Int) : f ∈ specFar s a b ↔ f ∈ farL s a b := by
  unfold specFar farL
  by_cases e : a = b
  · subst e
    rw [if_pos rfl, if_pos (Int.le_refl _), Int.sub_self]
    simp
  · rw [if_neg e]
    by_cases h : a ≤ b
    · have lt : a < b := by omega
      rw [if_pos h, show max a b = b by omega, show min a b = a by omega]
      simp only [if_pos lt]
    · have lt : ¬ a < b := by omega
      rw [if_neg h, show max a b = a by omega, show min a b = b by omega]
      simp only [if_neg lt, List.mem_map, List.mem_range]
      constructor
      · rintro ⟨i, hi, rfl⟩
        refine ⟨(a / s - b / s).toNat - 1 - i, by omega, ?_⟩
        congr 2
        omega
      · rintro ⟨i, hi, rfl⟩
        refine ⟨(a / s - b / s).toNat - 1 - i, by omega, ?_⟩
        congr 2
        omega
/-- **the way's squares** -/
theorem through_eq {s : Nat} (hs : 0 < s) (x0 y0 x1 y1 : Int) :
    LsRefs.through s (x0, y0) (x1, y1) = (x0 / s, y0 / s) :: goW (chsS s x0 y0 x1 y1) (x0 / s) (y0 / s) := by
  have hs' : (0 : Int) < (s : Int) := by omega
  have hWx := ext_pos x0 x1
  have hWy := ext_pos y0 y1
  have hM : 0 < extI x0 x1 * extI y0 y1 := Int.mul_pos hWx hWy
  have cx := crossings_eq (s := s) x0 x1 (extI y0 y1) hWy
  have cy := crossings_eq (s := s) y0 y1 (extI x0 x1) hWx
  rw [Int.mul_comm (extI y0 y1)] at cy
  generalize hMM : extI x0 x1 * extI y0 y1 = M at *
  -- the times
  let ev : List Int := (specFar s x0 x1).map (fun f => f * extI y0 y1) ++ (specFar s y0 y1).map (fun f => f * extI x0 x1)
  let T : List Int := ev.foldl (fun l t => amongZ t l) [0, M]
  have hTup : T.Pairwise (· < ·) := foldZ_up ev [0, M] (by simp [hM])
  have hTmem : ∀ f, f ∈ T ↔ f ∈ ev ∨ f = 0 ∨ f = M := fun f => by
    have := foldZ_mem f ev [0, M]
    simpa using this
  have evx : ∀ f ∈ farL s x0 x1, f * extI y0 y1 ∈ T := fun f hf => (hTmem _).mpr (.inl (List.mem_append.mpr (.inl (List.mem_map.mpr ⟨f, (specFar_mem f).mpr hf, rfl⟩))))
  have evy : ∀ f ∈ farL s y0 y1, f * extI x0 x1 ∈ T := fun f hf => (hTmem _).mpr (.inl (List.mem_append.mpr (.inr (List.mem_map.mpr ⟨f, (specFar_mem f).mpr hf, rfl⟩))))
  have xb : ∀ f ∈ farL s x0 x1, 0 ≤ f * extI y0 y1 ∧ f * extI y0 y1 ≤ M ∧ (¬ x0 ≤ x1 → f * extI y0 y1 < M) := fun f hf => by
    obtain ⟨b1, b2, b3⟩ := far_bd hs' f hf
    rw [← hMM]
    exact ⟨Int.mul_nonneg b1 (by omega), Int.mul_le_mul_of_nonneg_right b2 (by omega), fun h => Int.mul_lt_mul_of_pos_right (b3 h) hWy⟩
  have yb : ∀ f ∈ farL s y0 y1, 0 ≤ f * extI x0 x1 ∧ f * extI x0 x1 ≤ M ∧ (¬ y0 ≤ y1 → f * extI x0 x1 < M) := fun f hf => by
    obtain ⟨b1, b2, b3⟩ := far_bd hs' f hf
    rw [← hMM, Int.mul_comm (extI x0 x1)]
    exact ⟨Int.mul_nonneg b1 (by omega), Int.mul_le_mul_of_nonneg_right b2 (by omega), fun h => Int.mul_lt_mul_of_pos_right (b3 h) hWx⟩
  have hTrng : ∀ f ∈ T, 0 ≤ f ∧ f ≤ M := fun f hf => by
    rcases (hTmem f).mp hf with h | h | h
    · rcases List.mem_append.mp h with h | h
      · obtain ⟨g, hg, rfl⟩ := List.mem_map.mp h
        have := xb g ((specFar_mem g).mp hg)
        exact ⟨this.1, this.2.1⟩
      · obtain ⟨g, hg, rfl⟩ := List.mem_map.mp h
        have := yb g ((specFar_mem g).mp hg)
        exact ⟨this.1, this.2.1⟩
    · omega
    · omega
  have h0T : (0 : Int) ∈ T := (hTmem 0).mpr (.inr (.inl rfl))
  have hMT : M ∈ T := (hTmem M).mpr (.inr (.inr rfl))
  -- the instants' squares
  let cell : Int → Int × Int := fun n => (cellZ x0 (x1 - x0) s (2 * M) n, cellZ y0 (y1 - y0) s (2 * M) n)
  have lhs : LsRefs.through s (x0, y0) (x1, y1) = oneByOne ((betweenZ T).map cell) := by
    unfold LsRefs.through
    dsimp only
    rw [cx, cy]
    have e01 : ([0, 1] : List Rat) = ([0, M] : List Int).map fun (n : Int) => (n : Rat) / (M : Rat) := by
      have hM' := Rat.ne_of_gt (rat_pos hM)
      show [0, 1] = [((0 : Int) : Rat) / (M : Rat), (M : Rat) / (M : Rat)]
      have d1 : (M : Rat) / (M : Rat) = 1 := by grind
      have d0 : ((0 : Int) : Rat) / (M : Rat) = 0 := by
        show (0 : Rat) / _ = 0
        grind
      rw [d1, d0]
    have eev : ((specFar s x0 x1).map (fun f => ((f * extI y0 y1 : Int) : Rat) / (M : Rat)) ++ (specFar s y0 y1).map fun f => ((f * extI x0 x1 : Int) : Rat) / (M : Rat)) = ev.map fun (n : Int) => (n : Rat) / (M : Rat) := by
      show _ = ((specFar s x0 x1).map (fun f => f * extI y0 y1) ++ (specFar s y0 y1).map (fun f => f * extI x0 x1)).map _
      rw [List.map_append, List.map_map, List.map_map]
      rfl
    rw [eev, e01, among_fold hM, between_map hM, List.map_map]
    congr 1
    refine List.map_congr_left fun n _ => ?_
    show indexAt s (x0, y0) (x1, y1) ((n : Rat) / ((2 * M : Int) : Rat)) = cell n
    unfold indexAt
    dsimp only
    rw [floor_cell hs (by omega), floor_cell hs (by omega)]
  rw [lhs]
  refine core (φ := fun p => stepI x0 x1 * p.1 + stepI y0 y1 * p.2) (p := (x0 / s, y0 / s)) (chsS_up _ _ _ _ _) ?_ ?_ hTup ?_ ?_ ?_
  · intro c hc p
    have hc' := (chsS_perm _ _ _ _ _).mem_iff.mp hc
    have q1 := step_sq x0 x1
    have q2 := step_sq y0 y1
    unfold chsL at hc'
    rcases List.mem_append.mp hc' with h | h
    · obtain ⟨f, _, rfl⟩ := List.mem_map.mp h
      show stepI x0 x1 * (p.1 + stepI x0 x1) + stepI y0 y1 * (p.2 + 0) = _
      rw [Int.mul_add, q1, Int.add_zero]
      omega
    · obtain ⟨f, _, rfl⟩ := List.mem_map.mp h
      show stepI x0 x1 * (p.1 + 0) + stepI y0 y1 * (p.2 + stepI y0 y1) = _
      rw [Int.mul_add (stepI y0 y1), q2, Int.add_zero]
      omega
  · intro c hc
    exact chsL_d c ((chsS_perm _ _ _ _ _).mem_iff.mp hc)
  · intro c hc
    have hc' := (chsS_perm _ _ _ _ _).mem_iff.mp hc
    have fin : ∀ (f a b : Int), f ∈ T → (¬ a ≤ b → f < M) → ∃ q ∈ keysZ T, q.2 = 2 * f + delayI a b := by
      intro f a b hf hlt
      unfold delayI
      by_cases h : a ≤ b
      · rw [if_pos h]
        exact ⟨_, keysZ_even T f hf, by show 2 * f = _; omega⟩
      · rw [if_neg h]
        exact keysZ_odd T f M hTup hf hMT (hlt h)
    unfold chsL at hc'
    rcases List.mem_append.mp hc' with h | h
    · obtain ⟨f, hf, rfl⟩ := List.mem_map.mp h
      exact fin _ _ _ (evx f hf) (xb f hf).2.2
    · obtain ⟨f, hf, rfl⟩ := List.mem_map.mp h
      exact fin _ _ _ (evy f hf) (yb f hf).2.2
  · refine ⟨_, keysZ_even T 0 h0T, ?_⟩
    show (cellZ x0 (x1 - x0) s (2 * M) (2 * 0), cellZ y0 (y1 - y0) s (2 * M) (2 * 0)) = _
    unfold cellZ
    rw [Int.mul_zero, Int.mul_zero, Int.mul_zero, Int.add_zero, Int.add_zero, Int.mul_ediv_mul_of_pos_left _ _ (by omega), Int.mul_ediv_mul_of_pos_left _ _ (by omega)]
  · intro q hq
    have met := keysZ_met T [] (by simpa using hTup) q hq
    rw [List.nil_append] at met
    have rng := keysZ_rng T 0 M hTrng q hq
    have ax := axis (s := s) (a := x0) (b := x1) (O := extI y0 y1) (n := q.1) (κ := q.2) hs' hWy (by omega) (by rw [hMM]; omega) fun f hf => met _ (evx f hf)
    have ay := axis (s := s) (a := y0) (b := y1) (O := extI x0 x1) (n := q.1) (κ := q.2) hs' hWx (by omega) (by rw [Int.mul_comm (extI y0 y1), hMM]; omega) fun f hf => met _ (evy f hf)
    rw [hMM] at ax
    rw [Int.mul_comm (extI y0 y1), hMM] at ay
    show (cellZ x0 (x1 - x0) s (2 * M) q.1, cellZ y0 (y1 - y0) s (2 * M) q.1) = _
    rw [ax, ay]
    have pf := (chsS_perm s x0 y0 x1 y1).filter fun c => decide (c.key ≤ q.2)
    have sumP : ∀ {l m : List Int}, l.Perm m → l.sum = m.sum := fun h => by
      induction h with
      | nil => rfl
      | cons x _ ih => rw [List.sum_cons, List.sum_cons, ih]
      | swap x y l => simp only [List.sum_cons]; omega
      | trans _ _ h1 h2 => rw [h1, h2]
    unfold pos
    rw [sumP (pf.map fun c => c.e), sumP (pf.map fun c => c.n)]
    unfold chsL
    rw [List.filter_append, List.map_append, List.map_append, List.sum_append, List.sum_append, List.filter_map, List.filter_map, List.map_map, List.map_map, List.map_map, List.map_map]
    have sumC : ∀ (l : List Int) (k : Int), (l.map fun _ => k).sum = k * l.length := by
      intro l k
      induction l with
      | nil => simp
      | cons a l ih => rw [List.map_cons, List.sum_cons, ih, List.length_cons]; grind
    show _ = (x0 / (s : Int) + ((((farL s x0 x1).filter fun f => decide (2 * (f * extI y0 y1) + delayI x0 x1 ≤ q.2)).map (fun _ => stepI x0 x1)).sum + (((farL s y0 y1).filter fun f => decide (2 * (f * extI x0 x1) + delayI y0 y1 ≤ q.2)).map (fun _ => (0 : Int))).sum),
      y0 / (s : Int) + ((((farL s x0 x1).filter fun f => decide (2 * (f * extI y0 y1) + delayI x0 x1 ≤ q.2)).map (fun _ => (0 : Int))).sum + (((farL s y0 y1).filter fun f => decide (2 * (f * extI x0 x1) + delayI y0 y1 ≤ q.2)).map (fun _ => stepI y0 y1)).sum))
    rw [sumC, sumC, sumC, sumC, Int.zero_mul, Int.zero_mul, Int.add_zero, Int.zero_add]
end SqM

/-! SqMp: a list of calls as it is read: plain Lean. -/
namespace SqM
open LsText (Bytes)

theorem rows_succ {k : Nat} {r t : List Int} {xs : List (List Int)} (h : PyFlat.rows (k + 1) r = some (xs, t)) :
    ∃ n r' xs', r = n :: r' ∧ 0 ≤ n ∧ n.toNat ≤ r'.length ∧ xs = r'.take n.toNat :: xs' ∧ PyFlat.rows k (r'.drop n.toNat) = some (xs', t) := by
  rw [PyFlat.rows] at h
  cases r with
  | nil => cases h
  | cons n r' =>
    rw [PyFlat.row] at h
    by_cases c : 0 ≤ n ∧ n.toNat ≤ r'.length
    · rw [if_pos c] at h
      dsimp only at h
      cases e : PyFlat.rows k (r'.drop n.toNat) with
      | none =>
        rw [e] at h
        cases h
      | some z =>
        rw [e] at h
        obtain ⟨xs', t'⟩ := z
        have q := Option.some.inj h
        have q1 := congrArg Prod.fst q
        have q2 := congrArg Prod.snd q
        simp only at q1 q2
        subst q2
        exact ⟨n, r', xs', rfl, c.1, c.2, q1.symm, e⟩
    · rw [if_neg c] at h
      cases h
theorem rows_zero {r t : List Int} {xs : List (List Int)} (h : PyFlat.rows 0 r = some (xs, t)) : xs = [] ∧ t = r := by
  rw [PyFlat.rows] at h
  have q := Option.some.inj h
  exact ⟨(congrArg Prod.fst q).symm, (congrArg Prod.snd q).symm⟩
theorem rows_count : ∀ {k : Nat} {r t : List Int} {xs : List (List Int)}, PyFlat.rows k r = some (xs, t) → xs.length = k
  | 0, _, _, _, h => by rw [(rows_zero h).1]; rfl
  | k + 1, _, _, _, h => by
    obtain ⟨n, r', xs', _, _, _, rfl, h2⟩ := rows_succ h
    rw [List.length_cons, rows_count h2]
theorem call_some {shape : Int → Option (Nat × Nat)} {l t : List Int} {raw : List (List Int)} (h : PyFlat.call shape l = some (raw, t)) :
    ∃ q r nn kk xs, l = q :: r ∧ shape q = some (nn, kk) ∧ nn ≤ r.length ∧ PyFlat.rows kk (r.drop nn) = some (xs, t) ∧ raw = (q :: r.take nn) :: xs := by
  cases l with
  | nil => cases h
  | cons q r =>
    rw [PyFlat.call] at h
    cases e : shape q with
    | none =>
      rw [e] at h
      cases h
    | some z =>
      rw [e] at h
      obtain ⟨nn, kk⟩ := z
      dsimp only at h
      by_cases c : r.length < nn
      · rw [if_pos c] at h
        cases h
      · rw [if_neg c] at h
        cases e2 : PyFlat.rows kk (r.drop nn) with
        | none =>
          rw [e2] at h
          cases h
        | some y =>
          rw [e2] at h
          obtain ⟨xs, t'⟩ := y
          have q' := Option.some.inj h
          have q1 := congrArg Prod.fst q'
          have q2 := congrArg Prod.snd q'
          simp only at q1 q2
          subst q2
          exact ⟨q, r, nn, kk, xs, rfl, e, by omega, e2, q1.symm⟩
theorem calls_cons {shape : Int → Option (Nat × Nat)} {f : Nat} {q : Int} {r : List Int} {cs : List (List (List Int))} (h : PyFlat.calls shape f (q :: r) = some cs) :
    ∃ f' c t cs', PyFlat.call shape (q :: r) = some (c, t) ∧ PyFlat.calls shape f' t = some cs' ∧ cs = c :: cs' := by
  cases f with
  | zero => cases h
  | succ f =>
    rw [PyFlat.calls] at h
    cases e : PyFlat.call shape (q :: r) with
    | none =>
      rw [e] at h
      cases h
    | some z =>
      rw [e] at h
      obtain ⟨c, t⟩ := z
      dsimp only at h
      cases e2 : PyFlat.calls shape f t with
      | none =>
        rw [e2] at h
        cases h
      | some cs' =>
        rw [e2] at h
        exact ⟨f, c, t, cs', rfl, e2, (Option.some.inj h).symm⟩
theorem calls_nil {shape : Int → Option (Nat × Nat)} {f : Nat} {cs : List (List (List Int))} (h : PyFlat.calls shape f [] = some cs) : cs = [] := by
  cases f with
  | zero => exact (Option.some.inj h).symm
  | succ f => exact (Option.some.inj h).symm
theorem whole_id (c : List (List Int)) : PyWrmpre.whole c = c := by
  unfold PyWrmpre.whole
  split <;> rfl
theorem whole_all (cs : List (List (List Int))) : cs.map PyWrmpre.whole = cs := by
  have : PyWrmpre.whole = id := funext whole_id
  rw [this, List.map_id]
/-- what is given back for calls read -/
def outOf (cs : List (List (List Int))) : List Int := PyFlat.told (PyFlat.played RefsNeutral.step RefsNeutral.start cs)
theorem outOf_nil : outOf [] = [] := rfl
theorem outOf_cons {c : List (List Int)} {x : RefsSpec.Call} (h : RefsNeutral.callOf c = some x) (cs : List (List (List Int))) :
    outOf (c :: cs) = ((LsRows.told (RefsSpec.answer x)).length : Int) :: (LsRows.told (RefsSpec.answer x) ++ outOf cs) := by
  have e : RefsNeutral.step RefsNeutral.start c = (RefsNeutral.start, LsRows.told (RefsSpec.answer x)) := by
    unfold RefsNeutral.step
    rw [h]
    rfl
  unfold outOf
  rw [PyFlat.played, e]
  rfl
/-- what is asked of a list of calls -/
theorem asked_parts {l : List Int} (h : PyWrmpre.answers_asked l = true) :
    ∃ cs, PyFlat.calls PyWrmpre.shape l.length l = some cs ∧ PyWrmpre.answers l = outOf cs ∧ (∀ c ∈ cs, ∃ x, RefsNeutral.callOf c = some x) ∧ (PyWrmpre.answers l).length ≤ 10000000 := by
  unfold PyWrmpre.answers_asked at h
  cases e : PyFlat.calls PyWrmpre.shape l.length l with
  | none =>
    rw [e] at h
    cases h
  | some cs =>
    rw [e] at h
    simp only [Bool.and_eq_true] at h
    obtain ⟨⟨_, h2⟩, h3⟩ := h
    refine ⟨cs, rfl, ?_, fun c hc => ?_, ?_⟩
    · unfold PyWrmpre.answers PyWrmpre.calls
      rw [e]
      show PyFlat.told (PyFlat.played RefsNeutral.step RefsNeutral.start (cs.map PyWrmpre.whole)) = _
      rw [whole_all]
      rfl
    · rw [whole_all] at h2
      unfold RefsNeutral.asked at h2
      have := List.all_eq_true.mp h2 c hc
      exact Option.isSome_iff_exists.mp this
    · unfold PyFlat.short at h3
      exact of_decide_eq_true h3
/-! ### calls by their numbers -/
theorem nat_some {n : Int} {m : Nat} (h : LsRows.nat? n = some m) : n = (m : Int) := by
  unfold LsRows.nat? at h
  split at h
  · have := Option.some.inj h
    omega
  · cases h
theorem text_some {l : List Int} {b : Bytes} (h : LsRows.text? l = some b) : l = bI b := by
  unfold LsRows.text? at h
  split at h
  · rename_i hb
    have e := Option.some.inj h
    rw [← e]
    unfold bI
    rw [List.map_map]
    unfold NeutralIO.bytes at hb
    have ha := List.all_eq_true.mp hb
    symm
    refine Eq.trans (List.map_congr_left fun n hn => ?_) (List.map_id l)
    have := ha n hn
    simp only [Bool.and_eq_true, decide_eq_true_eq] at this
    show ((UInt8.ofNat n.toNat).toNat : Int) = n
    rw [UInt8.toNat_ofNat']
    omega
  · cases h
open RefsNeutral (callOf)
theorem of0 {x y k : Int} {c : RefsSpec.Call} (h : callOf [[0, x, y, k]] = some c) : ∃ a b d : Nat, x = a ∧ y = b ∧ k = d ∧ c = .square a b d := by
  have h' : (do return RefsSpec.Call.square (← LsRows.nat? x) (← LsRows.nat? y) (← LsRows.nat? k)) = some c := h
  cases h1 : LsRows.nat? x with
  | none => rw [h1] at h'; cases h'
  | some a =>
    cases h2 : LsRows.nat? y with
    | none => rw [h1, h2] at h'; cases h'
    | some b =>
      cases h3 : LsRows.nat? k with
      | none => rw [h1, h2, h3] at h'; cases h'
      | some d =>
        rw [h1, h2, h3] at h'
        exact ⟨a, b, d, nat_some h1, nat_some h2, nat_some h3, (Option.some.inj h').symm⟩
theorem of1 {t : List Int} {c : RefsSpec.Call} (h : callOf [[1], t] = some c) : ∃ b : Bytes, t = bI b ∧ c = .read b := by
  have h' : (do return RefsSpec.Call.read (← LsRows.text? t)) = some c := h
  cases h1 : LsRows.text? t with
  | none => rw [h1] at h'; cases h'
  | some b =>
    rw [h1] at h'
    exact ⟨b, text_some h1, (Option.some.inj h').symm⟩
theorem of2 {x y : Int} {t : List Int} {c : RefsSpec.Call} (h : callOf [[2, x, y], t] = some c) : ∃ (a b : Nat) (s : Bytes), x = a ∧ y = b ∧ t = bI s ∧ c = .within s a b := by
  have h' : (do return RefsSpec.Call.within (← LsRows.text? t) (← LsRows.nat? x) (← LsRows.nat? y)) = some c := h
  cases h3 : LsRows.text? t with
  | none => rw [h3] at h'; cases h'
  | some s =>
    cases h1 : LsRows.nat? x with
    | none => rw [h3, h1] at h'; cases h'
    | some a =>
      cases h2 : LsRows.nat? y with
      | none => rw [h3, h1, h2] at h'; cases h'
      | some b =>
        rw [h3, h1, h2] at h'
        exact ⟨a, b, s, nat_some h1, nat_some h2, text_some h3, (Option.some.inj h').symm⟩
theorem nat5 {γ : Type} {k a b c d : Int} {f : Nat → Nat → Nat → Nat → Nat → γ} {z : γ} (h : (do return f (← LsRows.nat? k) (← LsRows.nat? a) (← LsRows.nat? b) (← LsRows.nat? c) (← LsRows.nat? d)) = some z) :
    ∃ k' a' b' c' d' : Nat, k = k' ∧ a = a' ∧ b = b' ∧ c = c' ∧ d = d' ∧ z = f k' a' b' c' d' := by
  cases h1 : LsRows.nat? k with
  | none => rw [h1] at h; cases h
  | some k' =>
    cases h2 : LsRows.nat? a with
    | none => rw [h1, h2] at h; cases h
    | some a' =>
      cases h3 : LsRows.nat? b with
      | none => rw [h1, h2, h3] at h; cases h
      | some b' =>
        cases h4 : LsRows.nat? c with
        | none => rw [h1, h2, h3, h4] at h; cases h
        | some c' =>
          cases h5 : LsRows.nat? d with
          | none => rw [h1, h2, h3, h4, h5] at h; cases h
          | some d' =>
            rw [h1, h2, h3, h4, h5] at h
            exact ⟨k', a', b', c', d', nat_some h1, nat_some h2, nat_some h3, nat_some h4, nat_some h5, (Option.some.inj h).symm⟩
theorem of3 {k a b c d : Int} {z : RefsSpec.Call} (h : callOf [[3, k, a, b, c, d]] = some z) : ∃ k' a' b' c' d' : Nat, k = k' ∧ a = a' ∧ b = b' ∧ c = c' ∧ d = d' ∧ z = .through k' a' b' c' d' := nat5 h
theorem of4 {x y k : Int} {c : RefsSpec.Call} (h : callOf [[4, x, y, k]] = some c) : ∃ a b d : Nat, x = a ∧ y = b ∧ k = d ∧ c = .sheet a b d := by
  have h' : (do return RefsSpec.Call.sheet (← LsRows.nat? x) (← LsRows.nat? y) (← LsRows.nat? k)) = some c := h
  cases h1 : LsRows.nat? x with
  | none => rw [h1] at h'; cases h'
  | some a =>
    cases h2 : LsRows.nat? y with
    | none => rw [h1, h2] at h'; cases h'
    | some b =>
      cases h3 : LsRows.nat? k with
      | none => rw [h1, h2, h3] at h'; cases h'
      | some d =>
        rw [h1, h2, h3] at h'
        exact ⟨a, b, d, nat_some h1, nat_some h2, nat_some h3, (Option.some.inj h').symm⟩
theorem of5 {t : List Int} {c : RefsSpec.Call} (h : callOf [[5], t] = some c) : ∃ b : Bytes, t = bI b ∧ c = .box b := by
  have h' : (do return RefsSpec.Call.box (← LsRows.text? t)) = some c := h
  cases h1 : LsRows.text? t with
  | none => rw [h1] at h'; cases h'
  | some b =>
    rw [h1] at h'
    exact ⟨b, text_some h1, (Option.some.inj h').symm⟩
theorem of6 {d : Int} {t : List Int} {c : RefsSpec.Call} (h : callOf [[6, d], t] = some c) : ∃ (a : Nat) (b : Bytes), d = a ∧ t = bI b ∧ c = .near b a := by
  have h' : (do return RefsSpec.Call.near (← LsRows.text? t) (← LsRows.nat? d)) = some c := h
  cases h1 : LsRows.text? t with
  | none => rw [h1] at h'; cases h'
  | some b =>
    cases h2 : LsRows.nat? d with
    | none => rw [h1, h2] at h'; cases h'
    | some a =>
      rw [h1, h2] at h'
      exact ⟨a, b, nat_some h2, text_some h1, (Option.some.inj h').symm⟩
theorem of7 {d : Int} {t : List Int} {c : RefsSpec.Call} (h : callOf [[7, d], t] = some c) : ∃ (a : Nat) (b : Bytes), d = a ∧ t = bI b ∧ c = .up b a := by
  have h' : (do return RefsSpec.Call.up (← LsRows.text? t) (← LsRows.nat? d)) = some c := h
  cases h1 : LsRows.text? t with
  | none => rw [h1] at h'; cases h'
  | some b =>
    cases h2 : LsRows.nat? d with
    | none => rw [h1, h2] at h'; cases h'
    | some a =>
      rw [h1, h2] at h'
      exact ⟨a, b, nat_some h2, text_some h1, (Option.some.inj h').symm⟩
theorem of8 {k a b c d : Int} {z : RefsSpec.Call} (h : callOf [[8, k, a, b, c, d]] = some z) : ∃ k' a' b' c' d' : Nat, k = k' ∧ a = a' ∧ b = b' ∧ c = c' ∧ d = d' ∧ z = .over k' a' b' c' d' := nat5 h
theorem of9 {a b c d : Int} {z : RefsSpec.Call} (h : callOf [[9, a, b, c, d]] = some z) : ∃ a' b' c' d' : Nat, a = a' ∧ b = b' ∧ c = c' ∧ d = d' ∧ z = .least a' b' c' d' := by
  have h' : (do return RefsSpec.Call.least (← LsRows.nat? a) (← LsRows.nat? b) (← LsRows.nat? c) (← LsRows.nat? d)) = some z := h
  cases h2 : LsRows.nat? a with
  | none => rw [h2] at h'; cases h'
  | some a' =>
    cases h3 : LsRows.nat? b with
    | none => rw [h2, h3] at h'; cases h'
    | some b' =>
      cases h4 : LsRows.nat? c with
      | none => rw [h2, h3, h4] at h'; cases h'
      | some c' =>
        cases h5 : LsRows.nat? d with
        | none => rw [h2, h3, h4, h5] at h'; cases h'
        | some d' =>
          rw [h2, h3, h4, h5] at h'
          exact ⟨a', b', c', d', nat_some h2, nat_some h3, nat_some h4, nat_some h5, (Option.some.inj h').symm⟩
theorem of10 {t u : List Int} {c : RefsSpec.Call} (h : callOf [[10], t, u] = some c) : ∃ b e : Bytes, t = bI b ∧ u = bI e ∧ c = .lie b e := by
  have h' : (do return RefsSpec.Call.lie (← LsRows.text? t) (← LsRows.text? u)) = some c := h
  cases h1 : LsRows.text? t with
  | none => rw [h1] at h'; cases h'
  | some b =>
    cases h2 : LsRows.text? u with
    | none => rw [h1, h2] at h'; cases h'
    | some e =>
      rw [h1, h2] at h'
      exact ⟨b, e, text_some h1, text_some h2, (Option.some.inj h').symm⟩
theorem of11 {t : List Int} {c : RefsSpec.Call} (h : callOf [[11], t] = some c) : ∃ b : Bytes, t = bI b ∧ c = .great b := by
  have h' : (do return RefsSpec.Call.great (← LsRows.text? t)) = some c := h
  cases h1 : LsRows.text? t with
  | none => rw [h1] at h'; cases h'
  | some b =>
    rw [h1] at h'
    exact ⟨b, text_some h1, (Option.some.inj h').symm⟩
/-- the first numbers of a list, told one by one -/
theorem take0 (r : List Int) : r.take 0 = [] := rfl
theorem take1 {r : List Int} (h : 1 ≤ r.length) : ∃ a, r.take 1 = [a] := by
  match r, h with
  | a :: _, _ => exact ⟨a, rfl⟩
theorem take2 {r : List Int} (h : 2 ≤ r.length) : ∃ a b, r.take 2 = [a, b] := by
  match r, h with
  | a :: b :: _, _ => exact ⟨a, b, rfl⟩
theorem take3 {r : List Int} (h : 3 ≤ r.length) : ∃ a b c, r.take 3 = [a, b, c] := by
  match r, h with
  | a :: b :: c :: _, _ => exact ⟨a, b, c, rfl⟩
theorem take4 {r : List Int} (h : 4 ≤ r.length) : ∃ a b c d, r.take 4 = [a, b, c, d] := by
  match r, h with
  | a :: b :: c :: d :: _, _ => exact ⟨a, b, c, d, rfl⟩
theorem take5 {r : List Int} (h : 5 ≤ r.length) : ∃ a b c d e, r.take 5 = [a, b, c, d, e] := by
  match r, h with
  | a :: b :: c :: d :: e :: _, _ => exact ⟨a, b, c, d, e, rfl⟩
theorem len1 {α : Type} {xs : List α} (h : xs.length = 1) : ∃ a, xs = [a] := by
  match xs, h with
  | [a], _ => exact ⟨a, rfl⟩
theorem len2 {α : Type} {xs : List α} (h : xs.length = 2) : ∃ a b, xs = [a, b] := by
  match xs, h with
  | [a, b], _ => exact ⟨a, b, rfl⟩
end SqM

/-! SqB: the ground of the walk: the text by places, what the top has written, rules that the layer lacks. -/
namespace SqW
open PySem PySem.Spec PyProof.Rows L2

/-! ### the text -/
/-- the i-th statement of the program's top -/
def top (i : Nat) : Stmt := PySem.Challenge.pw_sheetsquares_s01_answers.main.body.getD i (.Pass ⟨0, 0, 0, 0⟩)
/-- a def of the text at its name -/
def FnAt (K : PySem.W.Frag) (mg : Str → Option Value) (x : Str) (st : Stmt) : Prop := ∃ f fd, mg x = some (.ref f) ∧ Fun K x x st f fd
def IntAt (mg : Str → Option Value) (x : Str) (n : Int) : Prop := ∃ t, mg x = some (.int n t)
def TupAt (K : PySem.W.Frag) (mg : Str → Option Value) (x : Str) (xs : List V) : Prop := ∃ a, mg x = some (.ref a) ∧ (∀ H, SqT K H a xs) ∧ ∃ o, K.lookup a = some o ∧ o.cls = .type "tuple" ∧ o.dict = none
section
variable {K : PySem.W.Frag} {h : Heap} {mg : Str → Option Value}
theorem fn_at {x : Str} {st : Stmt} {f : Addr} {od an : Option Addr} {sl : Array (Option Value)} {oc kV dc pm cd ct : Value} (X : K.In h) (G : h.Ns mainGlobals mg)
    (a : PySem.W.nsIn K mainGlobals x = some (some (.ref f))) (l : K.lookup f = some ⟨oc, od, .func (PySem.W.fnOf x x (defArgs st) (defBody st) (defScope st) .none kV dc pm an cd ct), sl⟩)
    (c : PySem.W.codeIn K cd x = true) (k : PySem.W.keepIn K (.ref f) = true) : FnAt K mg x st := ⟨f, _, PySem.W.mg_of X G a, fun_mk (st := st) l c k⟩
theorem int_at {x : Str} {n : Int} {t : Tok} (X : K.In h) (G : h.Ns mainGlobals mg) (a : PySem.W.nsIn K mainGlobals x = some (some (.int n t))) : IntAt mg x n := ⟨t, PySem.W.mg_of X G a⟩
theorem tup_at {x : Str} {p : Addr} {its : Array Value} {n : Nat} {sl : Array (Option Value)} {xs : List V} (X : K.In h) (G : h.Ns mainGlobals mg) (a : PySem.W.nsIn K mainGlobals x = some (some (.ref p)))
    (l : K.lookup p = some ⟨.type "tuple", none, .seq its n, sl⟩) (hz : its.size ≤ sizeLine) (r : Vals xs its.toList) : TupAt K mg x xs :=
  ⟨p, PySem.W.mg_of X G a, fun _ => .inr ⟨_, its, n, l, rfl, rfl, hz, r⟩, _, l, rfl, rfl⟩
theorem none_at {x : Str} (X : K.In h) (G : h.Ns mainGlobals mg) (a : PySem.W.nsIn K mainGlobals x = some none) : mg x = none := PySem.W.mg_none_of X G a
end
/-- a def that keeps its promise, as a caller needs it -/
structure CallOk (P : Program) (w : World) (K : PySem.W.Frag) (mg : Str → Option Value) (base : Heap) (k : Nat) (x : Str) (ps : List Str) (sp : Sp) : Prop where
  ex : ∃ f fd, mg x = some (.ref f) ∧ PySem.W.keepIn K (.ref f) = true ∧ Binds K fd ps [] ∧ FnOk P w K mg base CX0 k f fd ps sp

/-! ### values -/
/-- whole numbers as values -/
abbrev iv (l : List Int) : List V := l.map V.int
theorem iv_len (l : List Int) : (iv l).length = l.length := List.length_map _
theorem iv_append (a b : List Int) : iv (a ++ b) = iv a ++ iv b := List.map_append
theorem iv_get {l : List Int} {i : Nat} {v : V} (h : (iv l)[i]? = some v) : ∃ z, l[i]? = some z ∧ v = .int z := by
  rw [List.getElem?_map] at h
  cases e : l[i]? with
  | none =>
    rw [e] at h
    cases h
  | some z =>
    rw [e] at h
    exact ⟨z, rfl, (Option.some.inj h).symm⟩
theorem get_iv {l : List Int} {i : Nat} {z : Int} (h : l[i]? = some z) : (iv l)[i]? = some (.int z) := by
  rw [List.getElem?_map, h]
  rfl
theorem iv_flat (l : List Int) : (iv l).all flatV = true := by
  rw [List.all_map]
  exact List.all_eq_true.mpr fun _ _ => rfl
theorem inV_iv (z : Int) : ∀ l : List Int, inV (.int z) (iv l) = decide (z ∈ l)
  | [] => rfl
  | x :: r => by
    have ih := inV_iv z r
    unfold inV at ih ⊢
    show (x == z || (iv r).any fun y => eqV y (.int z)) = _
    rw [ih]
    by_cases h : x = z
    · subst h
      simp
    · have h' : ¬ z = x := fun e => h e.symm
      simp [h, h']
theorem same_upd {H : Hp} {p : Addr} {o : HO} (h : H p = none) : Same H (upd H p o) := fun b x e => by
  rw [upd_ne (ne_of_none e h)]
  exact e
theorem same_mut {H H' : Hp} {p : Addr} {o : HO} (e : Same H H') (h : H p = none) : Same H (upd H' p o) := fun a u ha => by
  rw [upd_ne (ne_of_none ha h)]
  exact e a u ha
theorem sameT {K : PySem.W.Frag} {H H' : Hp} {a : Addr} {xs : List V} (e : Same H H') (h : SqT K H a xs) : SqT K H' a xs := by
  rcases h with (h | ⟨o, h⟩) | h
  · exact .inl (.inl (e _ _ h))
  · exact .inl (.inr ⟨o, e _ _ h⟩)
  · exact .inr h
theorem sl_of {K : PySem.W.Frag} {H : Hp} {a : Addr} {xs : List V} (h : H a = some (.lst xs)) : SqL K H a xs := .inl (.inl h)
theorem st_of {K : PySem.W.Frag} {H : Hp} {a : Addr} {xs : List V} (h : H a = some (.tup xs)) : SqT K H a xs := .inl (.inl h)
theorem big {n : Nat} (h : n ≤ 10000000) : n ≤ sizeLine := Nat.le_trans h (by decide)
theorem big' {n : Nat} (h : n < 10000000) : n < sizeLine := Nat.lt_of_lt_of_le h (by decide)
/-- a slice of a list of whole numbers, both ends within -/
theorem cut_nat (xs : List V) (i j : Nat) (hij : i ≤ j) (hj : j ≤ xs.length) : cutV xs (some (i : Int)) (some (j : Int)) = (xs.drop i).take (j - i) := by
  unfold cutV
  rw [HT.sIx_nat, HT.sIx_nat, Nat.min_eq_left (show i ≤ xs.length by omega), Nat.min_eq_left hj]
theorem cut_from (xs : List V) (i : Nat) (hi : i ≤ xs.length) : cutV xs (some (i : Int)) none = xs.drop i := by
  unfold cutV
  rw [HT.sIx_nat, HT.sIx_none, Nat.min_eq_left hi]
  exact List.take_of_length_le (by rw [List.length_drop]; omega)
theorem cut_to (xs : List V) (j : Nat) (hj : j ≤ xs.length) : cutV xs none (some (j : Int)) = xs.take j := by
  unfold cutV
  rw [HT.sIx_nat, HT.sIx_none, Nat.min_eq_left hj, List.drop_zero, Nat.sub_zero]

/-! ### rules that the layer lacks -/
section
variable {X : Cx}
/-- t.index(n), t a tuple of whole numbers: the first place -/
def rTix (K : PySem.W.Frag) : V → List V → Hp → VK → Prop := fun x xs H Q => ∃ (p : Addr) (ys : List Int) (z : Int) (j : Nat), x = .ref p ∧ xs = [.int z] ∧ SqT K H p (iv ys) ∧ ys[j]? = some z ∧ (∀ m, m < j → ys[m]? ≠ some z) ∧ Q (.int (j : Nat)) H
theorem mt_tix : MtR X "tuple.index" (rTix X.K) := by
  intro pn sh sl0 hp recv args u us Q0 inv r1 r2 want
  obtain ⟨tp, nums, z, place, rfl, rfl, stands, here, before, fin⟩ := want
  cases r1
  obtain ⟨arg, rfl, tk, rfl⟩ := vals1 r2
  obtain ⟨vals, rel, tupl, _⟩ := inv.tuple stands
  obtain ⟨ob, got, isT, m, dat⟩ := tupl
  have shape : ob = ⟨.type "tuple", ob.dict, .seq vals.toArray m, ob.slots⟩ := by
    cases ob
    simp only at isT dat
    rw [isT, dat]
  have size : vals.toArray.size = nums.length := by
    have n1 := rel.length
    rw [iv_len] at n1
    rw [List.size_toArray]
    exact n1.symm
  have within : place < vals.toArray.size := size ▸ (List.getElem?_eq_some_iff.mp here).1
  have item : ∀ (i : Nat) (hi : i < vals.toArray.size), ∃ n t', nums[i]? = some n ∧ vals.toArray[i] = Value.int n t' := fun i hi => by
    have hi2 : i < nums.length := size ▸ hi
    have hn : nums[i]? = some nums[i] := List.getElem?_eq_getElem hi2
    obtain ⟨w, hw, t', rfl⟩ := rel.get (get_iv hn)
    refine ⟨_, t', hn, ?_⟩
    have q := (List.getElem?_eq_some_iff.mp hw).2
    simpa using q
  have eqs : ∀ v, v ∈ vals.toArray → SeqAt.EqAt X.A.in1 sh v (.int z tk) (eqU (.int z) v) := fun v hv =>
    mem_eqAt (x := .int z) ⟨tk, rfl⟩ rfl rel (iv_flat nums) v (by simpa using hv)
  have law := TI.tuple_indexAt tp vals.toArray m ob.dict ob.slots (.int z tk) (eqU (.int z)) place within
    (by obtain ⟨n, t', e1, e2⟩ := item place within
        rw [here] at e1
        rw [e2, ← Option.some.inj e1]
        exact beq_self_eq_true z)
    (fun i hi lt => by
        obtain ⟨n, t', e1, e2⟩ := item i hi
        rw [e2]
        exact beq_eq_false_iff_ne.mpr fun e => before i lt (by rw [e1, e]))
  exact call_meets PySem.F.slot_tuple_index ⟨ob, got, isT⟩ PySem.F.entry_tuple_index (PySem.F.args_tuple_index_2 _ _) law
    ⟨got.trans (congrArg some shape), eqs, .int (place : Nat), hp, inv.tok _, ⟨_, rfl⟩, fin⟩

/-! ### sorted of a list of rows, of tuples of whole numbers, any number of them -/
theorem reads_ints {h : Heap} : ∀ {ns : List Int} {us : List Value}, Vals (iv ns) us → ∃ as, PySem.ReadsAll h us (ns.map PyData.int) as := by
  intro ns
  induction ns with
  | nil =>
    intro us r
    cases r
    exact ⟨_, PySem.ReadsAll.nil⟩
  | cons n ns ih =>
    intro us r
    cases r with
    | cons r1 r2 =>
      obtain ⟨t, rfl⟩ := r1
      obtain ⟨as, h2⟩ := ih r2
      exact ⟨_, PySem.ReadsAll.cons (.int n t) h2⟩
theorem each_refs : ∀ {bs : List (Addr × List Int)} {us : List Value}, Vals (bs.map fun b => V.ref b.1) us → PySem.W.EachIs (fun (v : Value) (b : Addr × List Int) => v = Value.ref b.1) us bs := by
  intro bs
  induction bs with
  | nil =>
    intro us r
    cases r
    exact .nil
  | cons b bs ih =>
    intro us r
    cases r with
    | cons r1 r2 => exact .cons r1 (ih r2)
theorem refs_each : ∀ {bs : List (Addr × List Int)} {us : List Value}, PySem.W.EachIs (fun (v : Value) (b : Addr × List Int) => v = Value.ref b.1) us bs → Vals (bs.map fun b => V.ref b.1) us
  | _, _, .nil => .nil
  | _, _, .cons h t => .cons h (refs_each t)
theorem each_mem {α β : Type} {R S : α → β → Prop} : ∀ {us : List α} {bs : List β}, PySem.W.EachIs R us bs → (∀ u b, b ∈ bs → R u b → S u b) → PySem.W.EachIs S us bs
  | _, _, .nil, _ => .nil
  | _, _, .cons h t, k => .cons (k _ _ List.mem_cons_self h) (each_mem t fun u b hb => k u b (List.mem_cons_of_mem _ hb))
theorem dataLe_tups {β : Type} (x : β → List Int) : PySem.W.dataLe false (fun b => .tuple ((x b).map .int)) = fun p q => decide (x p ≤ x q) := by
  have e := PySem.W.dataLe_rows x
  funext p q
  have e2 := congrFun (congrFun e p) q
  rw [← e2, PySem.W.dataLe_eq, PySem.W.dataLe_eq]
  show (!PySem.W.dataLt (.tuple ((x q).map .int)) (.tuple ((x p).map .int))) = !PySem.W.dataLt (.list ((x q).map .int)) (.list ((x p).map .int))
  rw [PySem.W.dataLt_tuple, PySem.W.dataLt_list]
/-- the rows in order -/
def srtB (bs : List (Addr × List Int)) : List (Addr × List Int) := bs.mergeSort fun p q => decide (p.2 ≤ q.2)
theorem srtB_snd (bs : List (Addr × List Int)) : (srtB bs).map (·.2) = SqM.srt (bs.map (·.2)) := List.map_mergeSort fun _ _ _ _ => rfl
theorem srtB_mem {bs : List (Addr × List Int)} {b : Addr × List Int} : b ∈ srtB bs ↔ b ∈ bs := (List.mergeSort_perm bs _).mem_iff
def rSortR (K : PySem.W.Frag) : List V → Hp → VK → Prop := fun vs H Q => ∃ (a : Addr) (bs : List (Addr × List Int)), vs = [V.ref a] ∧ SqL K H a (bs.map fun b => V.ref b.1) ∧ (∀ b ∈ bs, SqL K H b.1 (iv b.2)) ∧
  ∀ p, H p = none → Q (.ref p) (upd H p (.lst ((srtB bs).map fun b => V.ref b.1)))
def rSortU (K : PySem.W.Frag) : List V → Hp → VK → Prop := fun vs H Q => ∃ (a : Addr) (bs : List (Addr × List Int)), vs = [V.ref a] ∧ SqL K H a (bs.map fun b => V.ref b.1) ∧ (∀ b ∈ bs, SqT K H b.1 (iv b.2) ∧ b.2 ≠ []) ∧
  ∀ p, H p = none → Q (.ref p) (upd H p (.lst ((srtB bs).map fun b => V.ref b.1)))
theorem sorted_enc {k : Nat} (hr : Room k X.A) {enc : Addr × List Int → PyData} {bs : List (Addr × List Int)} {pins : List (Addr × Obj)} {s : Shared} {σ : L2.St} {H : Hp} {Q : VK} {a : Addr} {u : Value}
    (I : Inv X pins σ H s) (hs : SqL X.K H a (bs.map fun b => V.ref b.1)) (ru : RelV (.ref a) u) (hd : ∀ b ∈ bs, ∀ h, h = s.heap → ∃ as, PySem.Reads h (.ref b.1) (enc b) as) (hal : PySem.W.AllAlike (bs.map enc)) (hk : PySem.W.Sortable (bs.map enc))
    (hu : ∀ b, (enc b).depth ≤ 1) (hle : PySem.W.dataLe false enc = fun p q => decide (p.2 ≤ q.2)) (q : ∀ p, H p = none → Q (.ref p) (upd H p (.lst ((srtB bs).map fun b => V.ref b.1)))) :
    wpAny (model X.prog X.w) X.A (call (.builtin "sorted") [u]) (EP X pins σ Q) X.xe s := by
  cases ru
  obtain ⟨its, rv, hl, hz⟩ := I.list hs
  have e := each_refs rv
  have hL : bs.length ≤ sizeLine := by
    rw [List.length_map] at hz
    exact hz
  have hun := hr.units
  refine PySem.W.sorted_data (bs := bs) (enc := enc) (R := fun v b => v = Value.ref b.1) hl.isList e (each_mem e fun u b hb hR => ?_) hal hk hL (fun b _ => ?_) fun out ho eo => ?_
  · rw [hR]
    exact hd b hb _ rfl
  · have := hu b
    omega
  · rw [hle] at eo
    obtain ⟨ep, he'⟩ := PyProof.Rows.sortedAll_at s.heap its out.toArray
    have hlen : ((srtB bs).map fun b => V.ref b.1).length ≤ sizeLine := by
      rw [List.length_map, srtB, List.length_mergeSort]
      exact hL
    exact ⟨.ref _, upd H (s.heap.objs.size + 1) (.lst ((srtB bs).map fun b => V.ref b.1)), I.laid (t' := s.toks) (fun _ _ => PyProof.Rows.sortedAll_old) (Nat.le_succ _) ⟨hlen, out, ep, refs_each eo, he'⟩, rfl, q _ (I.hok.fresh (Nat.le_succ _))⟩
theorem cr_sortR {k : Nat} (hr : Room k X.A) : CallR X (.builtin "sorted") (rSortR X.K) := by
  intro pins s σ H vs us Q I r h
  obtain ⟨a, bs, rfl, hs, hb, q⟩ := h
  obtain ⟨u, rfl, ru⟩ := vals1 r
  refine sorted_enc hr (enc := fun b => .list (b.2.map .int)) I hs ru (fun b hm h eh => ?_) (PySem.W.AllAlike.of fun b b' => ?_) (PySem.W.Sortable.others fun b => ⟨by simp, by simp⟩) (fun b => ?_) (PySem.W.dataLe_rows _) q
  · subst eh
    obtain ⟨its, o, n, rv, ho, hc, hd⟩ := sqL_at I.hok I.kIn (hb b hm)
    obtain ⟨as, ra⟩ := reads_ints (h := s.heap) rv
    exact ⟨_, PySem.Reads.list ho hc hd ra⟩
  · show PySem.W.alikeAll _ _ = true
    exact PySem.W.alike_ints _ _
  · show PyData.depthAll (b.2.map .int) + 1 ≤ 1
    rw [PySem.W.depth_ints]
    exact Nat.le_refl _
theorem cr_sortU {k : Nat} (hr : Room k X.A) : CallR X (.builtin "sorted") (rSortU X.K) := by
  intro pins s σ H vs us Q I r h
  obtain ⟨a, bs, rfl, hs, hb, q⟩ := h
  obtain ⟨u, rfl, ru⟩ := vals1 r
  refine sorted_enc hr (enc := fun b => .tuple (b.2.map .int)) I hs ru (fun b hm h eh => ?_) (PySem.W.AllAlike.of fun b b' => ?_) (.inl fun d hd => ?_) (fun b => ?_) (dataLe_tups _) q
  · subst eh
    obtain ⟨its, o, n, rv, ho, hc, hd⟩ := sqT_at I.hok I.kIn (hb b hm).1
    obtain ⟨as, ra⟩ := reads_ints (h := s.heap) rv
    exact ⟨_, PySem.Reads.tuple ho hc hd ra⟩
  · show PySem.W.alikeAll _ _ = true
    exact PySem.W.alike_ints _ _
  · obtain ⟨b, hm, rfl⟩ := List.mem_map.mp hd
    have hne := (hb b hm).2
    cases e : b.2 with
    | nil => exact absurd e hne
    | cons x r => exact ⟨_, _, rfl⟩
  · show PyData.depthAll (b.2.map .int) + 1 ≤ 1
    rw [PySem.W.depth_ints]
    exact Nat.le_refl _
end
end SqW

/-! SqW1: the land and the texts, def by def. -/
namespace SqW
open PySem PySem.Spec PyProof.Rows L2
open LsText (Bytes)
/-! ### the tables of the top -/
def cSides : List Int := [100000, 10000, 1000, 100, 10, 1]
def cLetters : List Int := [65, 66, 67, 68, 69, 70, 71, 72, 74, 75]
def cSheetSides : List Int := [1000000, 500000, 250000, 125000, 62500, 31250, 15625]
def cStepsEast : List Int := [0, 1, 1, 1, 0, -1, -1, -1]
def cStepsNorth : List Int := [1, 1, 0, -1, -1, -1, 0, 1]
def cNumbersOf : List Int := [3, 0, 2, 5, 3, 0, 1, 1, 5, 4, 0, 0]
def cTextsOf : List Int := [0, 1, 1, 0, 0, 1, 1, 1, 0, 0, 2, 1]
/-! ### what is handed back -/
def retL (H : Hp) (Q : VK) (xs : List Int) : Prop := ∀ p H', H p = none → Same H H' → H' p = some (.lst (iv xs)) → Q (.ref p) H'
def retT (H : Hp) (Q : VK) (xs : List V) : Prop := ∀ p H', H p = none → Same H H' → H' p = some (.tup xs) → Q (.ref p) H'
theorem retL.new {H : Hp} {Q : VK} {xs : List Int} (h : retL H Q xs) {p : Addr} (np : H p = none) : Q (.ref p) (upd H p (.lst (iv xs))) := h p _ np (same_upd np) upd_same
theorem retT.new {H : Hp} {Q : VK} {xs : List V} (h : retT H Q xs) {p : Addr} (np : H p = none) : Q (.ref p) (upd H p (.tup xs)) := h p _ np (same_upd np) upd_same
/-- at l stands a list of lists of whole numbers -/
def RowsAt (H : Hp) (l : Addr) (ls : List (List Int)) : Prop := ∃ bs : List (Addr × List Int), H l = some (.lst (bs.map fun b => V.ref b.1)) ∧ bs.map (·.2) = ls ∧ ∀ b ∈ bs, H b.1 = some (.lst (iv b.2))
def retR (H : Hp) (Q : VK) (ls : List (List Int)) : Prop := ∀ p H', H p = none → Same H H' → RowsAt H' p ls → Q (.ref p) H'
theorem RowsAt.mono {H H' : Hp} {l : Addr} {ls : List (List Int)} (e : Same H H') (h : RowsAt H l ls) : RowsAt H' l ls := by
  obtain ⟨bs, h1, h2, h3⟩ := h
  exact ⟨bs, e _ _ h1, h2, fun b hb => e _ _ (h3 b hb)⟩
theorem RowsAt.nil {H : Hp} {l : Addr} (h : H l = some (.lst [])) : RowsAt H l [] := ⟨[], h, rfl, fun b hb => by cases hb⟩
theorem rows_append {H : Hp} {o p : Addr} {ls : List (List Int)} {row : List Int} (h : RowsAt H o ls) (hp : H p = some (.lst (iv row))) (ne : p ≠ o) :
    ∃ xs, H o = some (.lst xs) ∧ xs.length = ls.length ∧ RowsAt (upd H o (.lst (xs ++ [.ref p]))) o (ls ++ [row]) := by
  obtain ⟨bs, h1, h2, h3⟩ := h
  refine ⟨_, h1, by rw [← h2, List.length_map, List.length_map], bs ++ [(p, row)], by rw [upd_same, List.map_append]; rfl, by rw [List.map_append, h2]; rfl, fun b hb => ?_⟩
  rcases List.mem_append.mp hb with hb | hb
  · have nb : b.1 ≠ o := fun e => by
      have q := h3 b hb
      rw [e, h1] at q
      have q1 := HO.lst.inj (Option.some.inj q)
      cases bs with
      | nil => cases hb
      | cons c bs =>
        cases hz : b.2 with
        | nil =>
          rw [hz] at q1
          cases q1
        | cons z r =>
          rw [hz] at q1
          injection q1 with q2 _
          cases q2
    rw [upd_ne nb]
    exact h3 b hb
  · have e : b = (p, row) := by simpa using hb
    subst e
    rw [upd_ne ne]
    exact hp
/-! ### how far a row of bytes of one kind goes -/
theorem run_at {p : UInt8 → Bool} : ∀ (t : Bytes) (i : Nat), (∀ (j : Nat) (c : UInt8), j < i → t[j]? = some c → p c = true) → i ≤ t.length → (∀ c, t[i]? = some c → p c = false) → (t.takeWhile p).length = i
  | [], i, _, h, _ => by
    have : i = 0 := by simpa using h
    rw [this]
    rfl
  | c :: t, 0, _, _, h => by
    rw [List.takeWhile_cons, h c rfl]
    rfl
  | c :: t, i + 1, h1, h2, h3 => by
    rw [List.takeWhile_cons, h1 0 c (by omega) rfl]
    show (t.takeWhile p).length + 1 = i + 1
    rw [run_at t i (fun j d hj hd => h1 (j + 1) d (by omega) hd) (by simpa using h2) fun d hd => h3 d hd]
theorem run_ge {p : UInt8 → Bool} : ∀ (t : Bytes) (i : Nat), (∀ (j : Nat) (c : UInt8), j < i → t[j]? = some c → p c = true) → i ≤ t.length → i ≤ (t.takeWhile p).length
  | _, 0, _, _ => Nat.zero_le _
  | [], i + 1, _, h => by simp at h
  | c :: t, i + 1, h1, h2 => by
    rw [List.takeWhile_cons, h1 0 c (by omega) rfl]
    exact Nat.succ_le_succ (run_ge t i (fun j d hj hd => h1 (j + 1) d (by omega) hd) (by simpa using h2))
theorem bI_len (b : Bytes) : (SqM.bI b).length = b.length := List.length_map _
theorem bI_get {b : Bytes} {i : Nat} {c : UInt8} (h : b[i]? = some c) : (iv (SqM.bI b))[i]? = some (.int (c.toNat : Int)) := by
  refine get_iv ?_
  unfold SqM.bI
  rw [List.getElem?_map, h]
  rfl
theorem at_bI {b : Bytes} {i : Nat} {z : Int} {c : UInt8} (e : z = (i : Int)) (h : b[i]? = some c) : atI (iv (SqM.bI b)) z = some (.int (c.toNat : Int)) := at_of e (bI_get h)
theorem at_iv {l : List Int} {i : Nat} {z v : Int} (e : z = (i : Int)) (h : l[i]? = some v) : atI (iv l) z = some (.int v) := at_of e (get_iv h)
theorem toNat_ne {c : UInt8} {n : Nat} (hn : n < 256) : ((c.toNat : Int) = (n : Int)) ↔ c = UInt8.ofNat n := by
  constructor
  · intro h
    have h' : c.toNat = n := by omega
    rw [← h', UInt8.ofNat_toNat]
  · rintro rfl
    rw [UInt8.toNat_ofNat']
    omega
/-- for all bytes, by all numbers below 256 -/
theorem all_bytes {p : UInt8 → Prop} (h : ∀ n, n < 256 → p (UInt8.ofNat n)) (c : UInt8) : p c := by
  have := h c.toNat (UInt8.toNat_lt c)
  rw [UInt8.ofNat_toNat] at this
  exact this
section
variable {P : Program} {w : World} {K : PySem.W.Frag} {mg : Str → Option Value} {base : Heap}

/-! ### in_land -/
def sp_in_land : Sp := fun vs H Q _ => ∃ x y : Int, vs = [.int x, .int y] ∧ ∀ B : Bool, (B = true ↔ (x < 1000000 ∧ y < 1000000)) → Q (.bl B) H
theorem sc_in_land : FnScope ["x", "y"] ["x", "y"] (defScope (top 9)) := ⟨rfl, rfl, rfl, by decide +kernel, rfl, by decide +kernel, by decide +kernel⟩
theorem ok_in_land {k : Nat} (F : FnAt K mg "in_land" (top 9)) (g_LAND : IntAt mg "LAND" 1000000) : CallOk P w K mg base (k + 1) "in_land" ["x", "y"] sp_in_land := by
  obtain ⟨f, fd, g, F⟩ := F
  obtain ⟨t_LAND, g_LAND⟩ := g_LAND
  refine ⟨f, fd, g, F.kp, F.binds fun _ _ _ _ _ _ us hl => match us, hl with | [_, _], _ => rfl, F.ok sc_in_land (fun vs H Q E h => ?_) fun cdv A outer s H vs Q E hr h => ?_⟩
  · obtain ⟨x, y, rfl, _⟩ := h
    rfl
  · obtain ⟨x, y, rfl, q⟩ := h
    refine ⟨_, (pss_one (ps_ret (pe_and (pe_cmpR op_lt (pv 0) (pe_glob (v := .int 1000000) rfl g_LAND ⟨_, rfl⟩) (nomark _)) (pe_one (pe_cmpR op_lt (pv 1) (pe_glob (v := .int 1000000) rfl g_LAND ⟨_, rfl⟩) (nomark _)))))), ?_⟩
    refine ⟨_, rfl, _, _, rfl, rfl, _, rfl, ite2 (fun c => ?_) (fun c => ?_)⟩
    · have h1 := of_decide_eq_true c
      refine ⟨_, rfl, _, _, rfl, rfl, q _ ⟨fun z => ⟨h1, of_decide_eq_true z⟩, fun z => decide_eq_true z.2⟩⟩
    · exact q false ⟨fun z => (Bool.false_ne_true z).elim, fun z => absurd (decide_eq_true z.1) c⟩

/-! ### great_name -/
theorem lett_at : ∀ c, c < 10 → cLetters[c]? = some ((LsRefs.LETTERS.getD c 0).toNat : Int) := by decide +kernel
def sp_great_name : Sp := fun vs H Q _ => ∃ c r : Nat, vs = [.int (c : Int), .int (r : Int)] ∧ c < 10 ∧ r < 10 ∧ retL H Q (SqM.bI (SqM.gName2 c r))
theorem sc_great_name : FnScope ["column", "row"] ["column", "row"] (defScope (top 10)) := ⟨rfl, rfl, rfl, by decide +kernel, rfl, by decide +kernel, by decide +kernel⟩
theorem ok_great_name {k : Nat} (F : FnAt K mg "great_name" (top 10)) (g_LETTERS : TupAt K mg "LETTERS" (iv cLetters)) : CallOk P w K mg base (k + 1) "great_name" ["column", "row"] sp_great_name := by
  obtain ⟨f, fd, g, F⟩ := F
  obtain ⟨a_LETTERS, g_LETTERS, s_LETTERS, l_LETTERS⟩ := g_LETTERS
  refine ⟨f, fd, g, F.kp, F.binds fun _ _ _ _ _ _ us hl => match us, hl with | [_, _], _ => rfl, F.ok sc_great_name (fun vs H Q E h => ?_) fun cdv A outer s H vs Q E hr h => ?_⟩
  · obtain ⟨c, r, rfl, _⟩ := h
    rfl
  · obtain ⟨c, r, rfl, hc, hr', q⟩ := h
    refine ⟨_, (pss_one (ps_ret (pe_lst (pa_cons (pe_ix ix_tup (pe_glob (v := .ref a_LETTERS) rfl g_LETTERS rfl) (pv 0) (fun _ _ => rfl)) (pa_cons (pe_ix ix_tup (pe_glob (v := .ref a_LETTERS) rfl g_LETTERS rfl) (pv 1) (fun _ _ => rfl)) pa_nil))))), ?_⟩
    refine ⟨_, rfl, _, _, _, _, rfl, rfl, s_LETTERS _, at_iv rfl (lett_at c hc), _, rfl, _, _, _, _, rfl, rfl, s_LETTERS _, at_iv rfl (lett_at r hr'), by show 2 ≤ sizeLine; decide, fun p np => ?_⟩
    exact q.new np

/-! ### capital, is_letter, letter_number -/
def sp_capital : Sp := fun vs H Q _ => ∃ b : UInt8, vs = [.int (b.toNat : Int)] ∧ Q (.int ((LsRefs.large b).toNat : Int)) H
theorem large_small : ∀ b : UInt8, 97 ≤ b.toNat → b.toNat ≤ 122 → ((LsRefs.large b).toNat : Int) = (b.toNat : Int) - 32 :=
  all_bytes (by decide +kernel)
theorem large_other : ∀ b : UInt8, ¬ (97 ≤ b.toNat ∧ b.toNat ≤ 122) → ((LsRefs.large b).toNat : Int) = (b.toNat : Int) :=
  all_bytes (by decide +kernel)
theorem sc_capital : FnScope ["byte"] ["byte"] (defScope (top 11)) := ⟨rfl, rfl, rfl, by decide +kernel, rfl, by decide +kernel, by decide +kernel⟩
theorem ok_capital {k : Nat} (F : FnAt K mg "capital" (top 11)) (g_FIRST_SMALL : IntAt mg "FIRST_SMALL" 97) (g_LAST_SMALL : IntAt mg "LAST_SMALL" 122) (g_SMALL_TO_CAPITAL : IntAt mg "SMALL_TO_CAPITAL" 32) : CallOk P w K mg base (k + 1) "capital" ["byte"] sp_capital := by
  obtain ⟨f, fd, g, F⟩ := F
  obtain ⟨t_FIRST_SMALL, g_FIRST_SMALL⟩ := g_FIRST_SMALL
  obtain ⟨t_LAST_SMALL, g_LAST_SMALL⟩ := g_LAST_SMALL
  obtain ⟨t_SMALL_TO_CAPITAL, g_SMALL_TO_CAPITAL⟩ := g_SMALL_TO_CAPITAL
  refine ⟨f, fd, g, F.kp, F.binds fun _ _ _ _ _ _ us hl => match us, hl with | [_], _ => rfl, F.ok sc_capital (fun vs H Q E h => ?_) fun cdv A outer s H vs Q E hr h => ?_⟩
  · obtain ⟨b, rfl, _⟩ := h
    rfl
  · obtain ⟨b, rfl, q⟩ := h
    refine ⟨_, (pss_cons (ps_if (pt_chain op_le op_le (pe_glob (v := .int 97) rfl g_FIRST_SMALL ⟨_, rfl⟩) (pv 0) (pe_glob (v := .int 122) rfl g_LAST_SMALL ⟨_, rfl⟩)) (pss_one (ps_ret (pe_op op_sub (pv 0) (pe_glob (v := .int 32) rfl g_SMALL_TO_CAPITAL ⟨_, rfl⟩)))) pss_nil)
        (pss_one (ps_ret (pv 0)))), ?_⟩
    refine ⟨_, rfl, _, _, rfl, rfl, _, rfl, ite2 (fun c => ?_) (fun c => ?_)⟩
    · refine ⟨_, _, rfl, rfl, _, rfl, ite2 (fun c2 => ?_) (fun c2 => ?_)⟩
      · refine ⟨_, rfl, _, _, rfl, rfl, ?_⟩
        rw [large_small b (by simp at c; omega) (by simp at c2; omega)] at q
        exact q
      · refine ⟨_, rfl, ?_⟩
        rw [large_other b (by simp at c2; omega)] at q
        exact q
    · refine ⟨_, rfl, iteF ?_⟩
      refine ⟨_, rfl, ?_⟩
      rw [large_other b (by simp at c; omega)] at q
      exact q

def sp_is_letter : Sp := fun vs H Q _ => ∃ b : UInt8, vs = [.int (b.toNat : Int)] ∧ Q (.bl (LsRefs.letterNo b).isSome) H
theorem letter_in : ∀ b : UInt8, decide (((LsRefs.large b).toNat : Int) ∈ cLetters) = (LsRefs.letterNo b).isSome :=
  all_bytes (by decide +kernel)
theorem sc_is_letter : FnScope ["byte"] ["byte"] (defScope (top 12)) := ⟨rfl, rfl, rfl, by decide +kernel, rfl, by decide +kernel, by decide +kernel⟩
theorem ok_is_letter {k : Nat} (F : FnAt K mg "is_letter" (top 12)) (g_LETTERS : TupAt K mg "LETTERS" (iv cLetters)) (c_capital : CallOk P w K mg base (k + 1) "capital" ["byte"] sp_capital) : CallOk P w K mg base (k + 2) "is_letter" ["byte"] sp_is_letter := by
  obtain ⟨f, fd, g, F⟩ := F
  obtain ⟨a_LETTERS, g_LETTERS, s_LETTERS, l_LETTERS⟩ := g_LETTERS
  obtain ⟨f_capital, d_capital, g_capital, k_capital, b_capital, G_capital⟩ := c_capital.ex
  refine ⟨f, fd, g, F.kp, F.binds fun _ _ _ _ _ _ us hl => match us, hl with | [_], _ => rfl, F.ok sc_is_letter (fun vs H Q E h => ?_) fun cdv A outer s H vs Q E hr h => ?_⟩
  · obtain ⟨b, rfl, _⟩ := h
    rfl
  · obtain ⟨b, rfl, q⟩ := h
    refine ⟨_, (pss_one (ps_ret (pe_cmpR op_in_seq (pe_call G_capital hr (by rfl) g_capital k_capital b_capital .nil pass0 (pa_cons (pv 0) pa_nil)) (pe_glob (v := .ref a_LETTERS) rfl g_LETTERS rfl) (by rfl)))), ?_⟩
    refine ⟨_, rfl, b, rfl, _, _, rfl, .inr (s_LETTERS _), rfl, iv_flat _, ?_⟩
    show Q (.bl (inV (.int ((LsRefs.large b).toNat : Int)) (iv cLetters))) _
    rw [inV_iv, letter_in]
    exact q

def sp_letter_number : Sp := fun vs H Q _ => ∃ (b : UInt8) (i : Nat), vs = [.int (b.toNat : Int)] ∧ LsRefs.letterNo b = some i ∧ Q (.int (i : Int)) H
def ixOk (b : UInt8) : Bool := match LsRefs.letterNo b with
  | none => true
  | some i => decide (cLetters[i]? = some ((LsRefs.large b).toNat : Int)) && (List.range i).all fun m => !decide (cLetters[m]? = some ((LsRefs.large b).toNat : Int))
theorem ixOk_all : ∀ b : UInt8, ixOk b = true := all_bytes (by decide +kernel)
theorem ix_letter {b : UInt8} {i : Nat} (h : LsRefs.letterNo b = some i) : cLetters[i]? = some ((LsRefs.large b).toNat : Int) ∧ ∀ m, m < i → cLetters[m]? ≠ some ((LsRefs.large b).toNat : Int) := by
  have q := ixOk_all b
  unfold ixOk at q
  rw [h] at q
  simp only [Bool.and_eq_true, decide_eq_true_eq, List.all_eq_true, List.mem_range, Bool.not_eq_true', decide_eq_false_iff_not] at q
  exact q
theorem sc_letter_number : FnScope ["byte"] ["byte"] (defScope (top 13)) := ⟨rfl, rfl, rfl, by decide +kernel, rfl, by decide +kernel, by decide +kernel⟩
theorem ok_letter_number {k : Nat} (F : FnAt K mg "letter_number" (top 13)) (g_LETTERS : TupAt K mg "LETTERS" (iv cLetters)) (c_capital : CallOk P w K mg base (k + 1) "capital" ["byte"] sp_capital) : CallOk P w K mg base (k + 2) "letter_number" ["byte"] sp_letter_number := by
  obtain ⟨f, fd, g, F⟩ := F
  obtain ⟨a_LETTERS, g_LETTERS, s_LETTERS, l_LETTERS⟩ := g_LETTERS
  obtain ⟨f_capital, d_capital, g_capital, k_capital, b_capital, G_capital⟩ := c_capital.ex
  refine ⟨f, fd, g, F.kp, F.binds fun _ _ _ _ _ _ us hl => match us, hl with | [_], _ => rfl, F.ok sc_letter_number (fun vs H Q E h => ?_) fun cdv A outer s H vs Q E hr h => ?_⟩
  · obtain ⟨b, i, rfl, _⟩ := h
    rfl
  · obtain ⟨b, i, rfl, hi, q⟩ := h
    refine ⟨_, (pss_one (ps_ret (pe_bm PySem.F.plainAttrs_tuple PySem.F.slot_tuple_index PySem.F.type_tuple_index mt_tix (pe_glob (v := .ref a_LETTERS) rfl g_LETTERS rfl) (pa_cons (pe_call G_capital hr (by rfl) g_capital k_capital b_capital .nil pass0 (pa_cons (pv 0) pa_nil)) pa_nil)))), ?_⟩
    refine ⟨?_, _, rfl, b, rfl, _, cLetters, _, i, rfl, rfl, s_LETTERS _, (ix_letter hi).1, (ix_letter hi).2, q⟩
    exact .inr (.inl ⟨rfl, l_LETTERS⟩)

/-! ### too_long, is_digit -/
def sp_too_long (K : PySem.W.Frag) : Sp := fun vs H Q _ => ∃ (a : Addr) (xs : List V), vs = [.ref a] ∧ SqL K H a xs ∧ Q (.bl (decide (32 < xs.length))) H
theorem sc_too_long : FnScope ["text"] ["text"] (defScope (top 25)) := ⟨rfl, rfl, rfl, by decide +kernel, rfl, by decide +kernel, by decide +kernel⟩
theorem ok_too_long {k : Nat} (F : FnAt K mg "too_long" (top 25)) (g_MOST_BYTES : IntAt mg "MOST_BYTES" 32) (n_len : mg "len" = none) : CallOk P w K mg base (k + 1) "too_long" ["text"] (sp_too_long K) := by
  obtain ⟨f, fd, g, F⟩ := F
  obtain ⟨t_MOST_BYTES, g_MOST_BYTES⟩ := g_MOST_BYTES
  refine ⟨f, fd, g, F.kp, F.binds fun _ _ _ _ _ _ us hl => match us, hl with | [_], _ => rfl, F.ok sc_too_long (fun vs H Q E h => ?_) fun cdv A outer s H vs Q E hr h => ?_⟩
  · obtain ⟨a, xs, rfl, _⟩ := h
    rfl
  · obtain ⟨a, xs, rfl, hS, q⟩ := h
    refine ⟨_, (pss_one (ps_ret (pe_cmpR op_gt (pe_callB call_len_seq (by rfl) n_len PySem.boot_len (pa_cons (pv 0) pa_nil)) (pe_glob (v := .int 32) rfl g_MOST_BYTES ⟨_, rfl⟩) (nomark _)))), ?_⟩
    refine ⟨.ref a, rfl, a, _, rfl, .inl hS, _, _, rfl, rfl, ?_⟩
    have e : decide ((32 : Int) < (xs.length : Int)) = decide (32 < xs.length) := decide_eq_decide.mpr (by omega)
    show Q (.bl (decide ((32 : Int) < (xs.length : Int)))) H
    rw [e]
    exact q

def sp_is_digit : Sp := fun vs H Q _ => ∃ b : UInt8, vs = [.int (b.toNat : Int)] ∧ Q (.bl (LsText.isDigit b)) H
theorem sc_is_digit : FnScope ["byte"] ["byte"] (defScope (top 26)) := ⟨rfl, rfl, rfl, by decide +kernel, rfl, by decide +kernel, by decide +kernel⟩
theorem ok_is_digit {k : Nat} (F : FnAt K mg "is_digit" (top 26)) (g_NOUGHT : IntAt mg "NOUGHT" 48) (g_NINE : IntAt mg "NINE" 57) : CallOk P w K mg base (k + 1) "is_digit" ["byte"] sp_is_digit := by
  obtain ⟨f, fd, g, F⟩ := F
  obtain ⟨t_NOUGHT, g_NOUGHT⟩ := g_NOUGHT
  obtain ⟨t_NINE, g_NINE⟩ := g_NINE
  refine ⟨f, fd, g, F.kp, F.binds fun _ _ _ _ _ _ us hl => match us, hl with | [_], _ => rfl, F.ok sc_is_digit (fun vs H Q E h => ?_) fun cdv A outer s H vs Q E hr h => ?_⟩
  · obtain ⟨b, rfl, _⟩ := h
    rfl
  · obtain ⟨b, rfl, q⟩ := h
    refine ⟨_, (pss_one (ps_ret (pe_chain op_le op_le (pe_glob (v := .int 48) rfl g_NOUGHT ⟨_, rfl⟩) (pv 0) (pe_glob (v := .int 57) rfl g_NINE ⟨_, rfl⟩)))), ?_⟩
    have e1 : decide ((48 : Int) ≤ (b.toNat : Int)) = decide (48 ≤ b.toNat) := decide_eq_decide.mpr (by omega)
    have e2 : decide ((b.toNat : Int) ≤ 57) = decide (b.toNat ≤ 57) := decide_eq_decide.mpr (by omega)
    unfold LsText.isDigit at q
    refine ⟨_, rfl, _, _, rfl, rfl, _, rfl, ite2 (fun c => ?_) (fun c => ?_)⟩
    · refine ⟨_, _, rfl, rfl, ?_⟩
      rw [← e1, c, ← e2] at q
      exact q
    · have c' : decide ((48 : Int) ≤ (b.toNat : Int)) = false := by simpa using c
      rw [← e1, c'] at q
      exact q

/-! ### blanks_end, digits_end, number_at -/
def sp_blanks_end (K : PySem.W.Frag) : Sp := fun vs H Q _ => ∃ (a : Addr) (b : Bytes) (p : Nat), vs = [.ref a, .int (p : Int)] ∧ SqL K H a (iv (SqM.bI b)) ∧ p ≤ b.length ∧ b.length ≤ 31700 ∧ Q (.int ((p + LsRefs.blanks (b.drop p) : Nat) : Int)) H
theorem sc_blanks_end : FnScope ["text", "at", "place"] ["text", "at"] (defScope (top 27)) := ⟨rfl, rfl, rfl, by decide +kernel, rfl, by decide +kernel, by decide +kernel⟩
theorem ok_blanks_end {k : Nat} (F : FnAt K mg "blanks_end" (top 27)) (g_BLANK : IntAt mg "BLANK" 32) (n_range : mg "range" = none) (n_len : mg "len" = none) : CallOk P w K mg base (k + 1) "blanks_end" ["text", "at"] (sp_blanks_end K) := by
  obtain ⟨f, fd, g, F⟩ := F
  obtain ⟨t_BLANK, g_BLANK⟩ := g_BLANK
  refine ⟨f, fd, g, F.kp, F.binds fun _ _ _ _ _ _ us hl => match us, hl with | [_, _], _ => rfl, F.ok sc_blanks_end (fun vs H Q E h => ?_) fun cdv A outer s H vs Q E hr h => ?_⟩
  · obtain ⟨a, b, p, rfl, _⟩ := h
    rfl
  · obtain ⟨a, b, p, rfl, hS, hp, hb, q⟩ := h
    refine ⟨_, (pss_cons (ps_for PassesOwn.never rfl (pi_range2 (by rfl) n_range (pa_cons (pv 1) (pa_cons (pe_callB call_len_seq (by rfl) n_len PySem.boot_len (pa_cons (pv 0) pa_nil)) pa_nil))) (pg_name (i := 2) sc_blanks_end.nd rfl (.inl rfl)) (pss_one (ps_if (pt_cmpR op_ne (pe_ix ix_list (pv 0) (pv 2) (fun _ _ => rfl)) (pe_glob (v := .int 32) rfl g_BLANK ⟨_, rfl⟩) (nomark _)) (pss_one (ps_ret (pv 2))) pss_nil)))
        (pss_one (ps_ret (pe_callB call_len_seq (by rfl) n_len PySem.boot_len (pa_cons (pv 0) pa_nil))))), ?_⟩
    refine ⟨_, rfl, .ref a, rfl, a, _, rfl, .inl hS, _, _, rfl, ?_, for_range (lo := (p : Int)) (n := (((iv (SqM.bI b)).length : Int) - p).toNat)
      (fun i σ H' => H' = H ∧ (∃ y, σ = [some (.ref a), some (.int (p : Int)), y]) ∧ ∀ (j : Nat) (c : UInt8), j < i → (b.drop p)[j]? = some c → (c == 32) = true) ?_ ?_ ?_⟩
    · rw [iv_len, bI_len]
      omega
    · exact ⟨rfl, ⟨_, rfl⟩, fun j c hj => by omega⟩
    · rintro i σ H' hi ⟨rfl, ⟨y, rfl⟩, hall⟩
      rw [iv_len, bI_len] at hi
      have hi' : p + i < b.length := by omega
      have hc : b[p + i]? = some b[p + i] := List.getElem?_eq_getElem hi'
      refine ⟨.ref a, rfl, .int (p + i), rfl, a, _, _, _, rfl, rfl, hS, at_bI (i := p + i) (by omega) hc, rfl, _, rfl, ite2 (fun c => ?_) (fun c => ?_)⟩
      · refine ⟨_, rfl, ?_⟩
        have ne : b[p + i] ≠ 32 := fun e => by
          rw [e] at c
          simp at c
        have e : LsRefs.blanks (b.drop p) = i := run_at _ _ hall (by rw [List.length_drop]; omega) fun d hd => by
          rw [List.getElem?_drop, hc] at hd
          rw [← Option.some.inj hd]
          simpa using ne
        rw [e] at q
        exact q
      · refine ⟨rfl, ⟨_, rfl⟩, fun j d hj hd => ?_⟩
        by_cases hji : j < i
        · exact hall j d hji hd
        · have : j = i := by omega
          subst this
          rw [List.getElem?_drop, hc] at hd
          rw [← Option.some.inj hd]
          have e : (b[p + j].toNat : Int) = (32 : Nat) := by simpa using c
          have e2 := (toNat_ne (by decide)).mp e
          rw [e2]
          rfl
    · rintro σ H' ⟨rfl, ⟨y, rfl⟩, hall⟩
      rw [iv_len, bI_len] at hall
      refine ⟨.ref a, rfl, a, _, rfl, .inl hS, ?_⟩
      rw [iv_len, bI_len]
      have e : LsRefs.blanks (b.drop p) = b.length - p := run_at _ _ (fun j c hj hc => hall j c (by omega) hc) (by rw [List.length_drop]; omega) fun d hd => by
        rw [List.getElem?_eq_none (by rw [List.length_drop]; omega)] at hd
        cases hd
      rw [e, Nat.add_sub_cancel' hp] at q
      exact q

def sp_digits_end (K : PySem.W.Frag) : Sp := fun vs H Q _ => ∃ (a : Addr) (b : Bytes) (p m : Nat), vs = [.ref a, .int (p : Int), .int (m : Int)] ∧ SqL K H a (iv (SqM.bI b)) ∧ p ≤ b.length ∧ b.length ≤ 31700 ∧ m ≤ 31700 ∧ Q (.int ((p + min m (SqM.digRun (b.drop p)) : Nat) : Int)) H
theorem sc_digits_end : FnScope ["text", "at", "most", "end", "place"] ["text", "at", "most"] (defScope (top 28)) := ⟨rfl, rfl, rfl, by decide +kernel, rfl, by decide +kernel, by decide +kernel⟩
theorem ok_digits_end {k : Nat} (F : FnAt K mg "digits_end" (top 28)) (n_min : mg "min" = none) (n_len : mg "len" = none) (n_range : mg "range" = none) (c_is_digit : CallOk P w K mg base (k + 1) "is_digit" ["byte"] sp_is_digit) : CallOk P w K mg base (k + 2) "digits_end" ["text", "at", "most"] (sp_digits_end K) := by
  obtain ⟨f, fd, g, F⟩ := F
  obtain ⟨f_is_digit, d_is_digit, g_is_digit, k_is_digit, b_is_digit, G_is_digit⟩ := c_is_digit.ex
  refine ⟨f, fd, g, F.kp, F.binds fun _ _ _ _ _ _ us hl => match us, hl with | [_, _, _], _ => rfl, F.ok sc_digits_end (fun vs H Q E h => ?_) fun cdv A outer s H vs Q E hr h => ?_⟩
  · obtain ⟨a, b, p, m, rfl, _⟩ := h
    rfl
  · obtain ⟨a, b, p, m, rfl, hS, hp, hb, hm, q⟩ := h
    refine ⟨_, (pss_cons (ps_set (i := 3) sc_digits_end.nd rfl (.inl rfl) (pe_callB (call_min2 rfl) (by rfl) n_min (by decide +kernel) (pa_cons (pe_op op_add (pv 1) (pv 2)) (pa_cons (pe_callB call_len_seq (by rfl) n_len PySem.boot_len (pa_cons (pv 0) pa_nil)) pa_nil))))
        (pss_cons (ps_for PassesOwn.never rfl (pi_range2 (by rfl) n_range (pa_cons (pv 1) (pa_cons (pv 3) pa_nil))) (pg_name (i := 4) sc_digits_end.nd rfl (.inl rfl)) (pss_one (ps_if (pt_not (pt_val (pe_call G_is_digit hr (by rfl) g_is_digit k_is_digit b_is_digit .nil pass0 (pa_cons (pe_ix ix_list (pv 0) (pv 4) (fun _ _ => rfl)) pa_nil)))) (pss_one (ps_ret (pv 4))) pss_nil)))
        (pss_one (ps_ret (pv 3))))), ?_⟩
    refine ⟨_, rfl, _, rfl, _, _, rfl, rfl, .ref a, rfl, a, _, rfl, .inl hS, _, _, rfl, ?_⟩
    have ee : (if (((iv (SqM.bI b)).length : Int) < (p : Int) + (m : Int)) then ((iv (SqM.bI b)).length : Int) else (p : Int) + (m : Int)) = ((p + min m (b.length - p) : Nat) : Int) := by
      rw [iv_len, bI_len]
      split <;> omega
    rw [ee]
    generalize hE : min m (b.length - p) = n
    refine ⟨_, rfl, _, rfl, _, _, rfl, by omega, for_range (lo := (p : Int)) (n := (((p + n : Nat) : Int) - (p : Int)).toNat)
      (fun i σ H' => H' = H ∧ (∃ y, σ = [some (.ref a), some (.int (p : Int)), some (.int (m : Int)), some (.int ((p + n : Nat) : Int)), y]) ∧ ∀ (j : Nat) (c : UInt8), j < i → (b.drop p)[j]? = some c → LsText.isDigit c = true) ?_ ?_ ?_⟩
    · exact ⟨rfl, ⟨_, rfl⟩, fun j c hj => by omega⟩
    · rintro i σ H' hi ⟨rfl, ⟨y, rfl⟩, hall⟩
      have hi' : p + i < b.length := by omega
      have hc : b[p + i]? = some b[p + i] := List.getElem?_eq_getElem hi'
      refine ⟨.ref a, rfl, .int (p + i), rfl, a, _, _, _, rfl, rfl, hS, at_bI (i := p + i) (by omega) hc, _, rfl, _, rfl, ?_⟩
      show if (!LsText.isDigit b[p + i]) = true then _ else _
      refine ite2 (fun c => ?_) (fun c => ?_)
      · refine ⟨_, rfl, ?_⟩
        have e : SqM.digRun (b.drop p) = i := run_at _ _ hall (by rw [List.length_drop]; omega) fun d hd => by
          rw [List.getElem?_drop, hc] at hd
          rw [← Option.some.inj hd]
          simpa using c
        rw [e, show min m i = i by omega] at q
        exact q
      · refine ⟨rfl, ⟨_, rfl⟩, fun j d hj hd => ?_⟩
        by_cases hji : j < i
        · exact hall j d hji hd
        · have : j = i := by omega
          subst this
          rw [List.getElem?_drop, hc] at hd
          rw [← Option.some.inj hd]
          simpa using c
    · rintro σ H' ⟨rfl, ⟨y, rfl⟩, hall⟩
      refine ⟨_, rfl, ?_⟩
      have g : n ≤ SqM.digRun (b.drop p) := run_ge _ _ (fun j c hj hc => hall j c (by omega) hc) (by rw [List.length_drop]; omega)
      have l : SqM.digRun (b.drop p) ≤ b.length - p := by
        have := SqM.run_le (p := LsText.isDigit) (b.drop p)
        rw [List.length_drop] at this
        exact this
      rw [show min m (SqM.digRun (b.drop p)) = n by omega] at q
      exact q

def sp_number_at (K : PySem.W.Frag) : Sp := fun vs H Q _ => ∃ (a : Addr) (b : Bytes) (p k : Nat), vs = [.ref a, .int (p : Int), .int (k : Int)] ∧ SqL K H a (iv (SqM.bI b)) ∧ p + k ≤ b.length ∧ b.length ≤ 31700 ∧
  (∀ (i : Nat) (c : UInt8), i < k → b[p + i]? = some c → LsText.isDigit c = true) ∧ Q (.int (SqM.numAt b p k : Int)) H
theorem sc_number_at : FnScope ["text", "at", "many", "number", "place"] ["text", "at", "many"] (defScope (top 29)) := ⟨rfl, rfl, rfl, by decide +kernel, rfl, by decide +kernel, by decide +kernel⟩
theorem ok_number_at {k : Nat} (F : FnAt K mg "number_at" (top 29)) (g_NOUGHT : IntAt mg "NOUGHT" 48) (n_range : mg "range" = none) : CallOk P w K mg base (k + 1) "number_at" ["text", "at", "many"] (sp_number_at K) := by
  obtain ⟨f, fd, g, F⟩ := F
  obtain ⟨t_NOUGHT, g_NOUGHT⟩ := g_NOUGHT
  refine ⟨f, fd, g, F.kp, F.binds fun _ _ _ _ _ _ us hl => match us, hl with | [_, _, _], _ => rfl, F.ok sc_number_at (fun vs H Q E h => ?_) fun cdv A outer s H vs Q E hr h => ?_⟩
  · obtain ⟨a, b, p, k, rfl, _⟩ := h
    rfl
  · obtain ⟨a, b, p, k', rfl, hS, hp, hb, hd, q⟩ := h
    refine ⟨_, (pss_cons (ps_set (i := 3) sc_number_at.nd rfl (.inl rfl) pe_int)
        (pss_cons (ps_for PassesOwn.never rfl (pi_range2 (by rfl) n_range (pa_cons (pv 1) (pa_cons (pe_op op_add (pv 1) (pv 2)) pa_nil))) (pg_name (i := 4) sc_number_at.nd rfl (.inl rfl)) (pss_one (ps_set (i := 3) sc_number_at.nd rfl (.inl rfl) (pe_op op_sub (pe_op op_add (pe_op op_mul pe_int (pv 3)) (pe_ix ix_list (pv 0) (pv 4) (fun _ _ => rfl))) (pe_glob (v := .int 48) rfl g_NOUGHT ⟨_, rfl⟩)))))
        (pss_one (ps_ret (pv 3))))), ?_⟩
    refine ⟨_, rfl, _, rfl, _, rfl, _, _, rfl, rfl, _, _, rfl, by omega, for_range (lo := (p : Int)) (n := ((p : Int) + (k' : Int) - (p : Int)).toNat)
      (fun i σ H' => H' = H ∧ ∃ y, σ = [some (.ref a), some (.int (p : Int)), some (.int (k' : Int)), some (.int (SqM.numAt b p i : Int)), y]) ?_ ?_ ?_⟩
    · exact ⟨rfl, ⟨_, rfl⟩⟩
    · rintro i σ H' hi ⟨rfl, ⟨y, rfl⟩⟩
      have hi' : p + i < b.length := by omega
      have hc : b[p + i]? = some b[p + i] := List.getElem?_eq_getElem hi'
      have hdig := hd i _ (by omega) hc
      refine ⟨_, rfl, _, _, rfl, rfl, .inl ⟨by decide, by decide⟩, .ref a, rfl, .int (p + i), rfl, a, _, _, _, rfl, rfl, hS, at_bI (i := p + i) (by omega) hc, _, _, rfl, rfl, _, _, rfl, rfl, rfl, some (.int ((p : Int) + (i : Int))), ?_⟩
      have e : (10 * (SqM.numAt b p i : Int) + (b[p + i].toNat : Int) - 48) = (SqM.numAt b p (i + 1) : Int) := by
        unfold SqM.numAt LsText.numberOf
        have hg : (b.drop p)[i]? = some b[p + i] := by rw [List.getElem?_drop, hc]
        rw [List.take_add_one, hg, List.foldl_append]
        simp only [Option.toList, List.foldl_cons, List.foldl_nil]
        unfold LsText.isDigit at hdig
        simp only [Bool.and_eq_true, decide_eq_true_eq] at hdig
        omega
      rw [← e]
      rfl
    · rintro σ H' ⟨rfl, ⟨y, rfl⟩⟩
      refine ⟨_, rfl, ?_⟩
      rw [show ((p : Int) + (k' : Int) - (p : Int)).toNat = k' by omega]
      exact q

/-! ### digits_of -/
theorem digs_cons : ∀ (i n : Nat), SqM.digs (i + 1) n = UInt8.ofNat (48 + n / 10 ^ i % 10) :: SqM.digs i n
  | 0, n => by simp [SqM.digs]
  | i + 1, n => by
    rw [SqM.digs, digs_cons i (n / 10), SqM.digs, List.cons_append, Nat.div_div_eq_div_mul, Nat.pow_succ, Nat.mul_comm]
theorem bI_cons (c : UInt8) (b : Bytes) : SqM.bI (c :: b) = (c.toNat : Int) :: SqM.bI b := rfl
def sp_digits_of : Sp := fun vs H Q _ => ∃ n k : Nat, vs = [.int (n : Int), .int (k : Int)] ∧ k ≤ 1000 ∧ retL H Q (SqM.bI (SqM.digs k n))
theorem sc_digits_of : FnScope ["number", "many", "digits", "rest", "step"] ["number", "many"] (defScope (top 30)) := ⟨rfl, rfl, rfl, by decide +kernel, rfl, by decide +kernel, by decide +kernel⟩
theorem ok_digits_of {k : Nat} (F : FnAt K mg "digits_of" (top 30)) (g_NOUGHT : IntAt mg "NOUGHT" 48) (n_range : mg "range" = none) : CallOk P w K mg base (k + 1) "digits_of" ["number", "many"] sp_digits_of := by
  obtain ⟨f, fd, g, F⟩ := F
  obtain ⟨t_NOUGHT, g_NOUGHT⟩ := g_NOUGHT
  refine ⟨f, fd, g, F.kp, F.binds fun _ _ _ _ _ _ us hl => match us, hl with | [_, _], _ => rfl, F.ok sc_digits_of (fun vs H Q E h => ?_) fun cdv A outer s H vs Q E hr h => ?_⟩
  · obtain ⟨n, k, rfl, _⟩ := h
    rfl
  · obtain ⟨n, k', rfl, hk, q⟩ := h
    refine ⟨_, (pss_cons (ps_set (i := 2) sc_digits_of.nd rfl (.inl rfl) (pe_lst pa_nil))
        (pss_cons (ps_set (i := 3) sc_digits_of.nd rfl (.inl rfl) (pv 0))
        (pss_cons (ps_for PassesOwn.never rfl (pi_range1 (by rfl) n_range (pa_cons (pv 1) pa_nil)) (pg_name (i := 4) sc_digits_of.nd rfl (.inl rfl)) (pss_cons (ps_expr (pe_bm PySem.F.plainAttrs_list PySem.F.slot_list_append PySem.F.type_list_append mt_append (pv 2) (pa_cons (pe_op op_add (pe_glob (v := .int 48) rfl g_NOUGHT ⟨_, rfl⟩) (pe_op op_mod (pv 3) pe_int)) pa_nil)))
        (pss_one (ps_set (i := 3) sc_digits_of.nd rfl (.inl rfl) (pe_op op_fdiv (pv 3) pe_int)))))
        (pss_one (ps_ret (pe_revL (pv 2))))))), ?_⟩
    refine ⟨Nat.zero_le _, fun o no => ⟨_, rfl, _, rfl, _, rfl, by omega, by omega, for_range (lo := 0) (n := ((k' : Int)).toNat)
      (fun i σ H' => Same H H' ∧ H' o = some (.lst (iv (SqM.bI (SqM.digs i n)).reverse)) ∧ ∃ y, σ = [some (.int (n : Int)), some (.int (k' : Int)), some (.ref o), some (.int ((n / 10 ^ i : Nat) : Int)), y]) ?_ ?_ ?_⟩⟩
    · refine ⟨same_upd no, upd_same, none, ?_⟩
      rw [Nat.pow_zero, Nat.div_one]
      rfl
    · rintro i σ H' hi ⟨sm, ho, ⟨y, rfl⟩⟩
      refine ⟨.ref o, rfl, .inl ⟨rfl, _, sl_of ho⟩, _, rfl, _, _, rfl, rfl, (by show (0 : Int) < 10; decide), _, _, rfl, rfl, o, _, _, rfl, rfl, ho, ?_, ?_⟩
      · rw [iv_len, List.length_reverse, bI_len, SqM.digs_len]
        exact big' (by omega)
      · refine ⟨_, rfl, _, _, rfl, rfl, ⟨by decide, by decide⟩, same_mut sm no, ?_, some (.int (0 + (i : Int))), ?_⟩
        · rw [upd_same, digs_cons, bI_cons, List.reverse_cons]
          have e : ((UInt8.ofNat (48 + n / 10 ^ i % 10)).toNat : Int) = 48 + ((n / 10 ^ i : Nat) : Int) % 10 := by
            rw [UInt8.toNat_ofNat']
            omega
          rw [e, iv_append]
          rfl
        · have e : ((n / 10 ^ i : Nat) : Int) / 10 = ((n / 10 ^ (i + 1) : Nat) : Int) := by
            rw [Nat.pow_succ, ← Nat.div_div_eq_div_mul]
            omega
          rw [← e]
          rfl
    · rintro σ H' ⟨sm, ho, ⟨y, rfl⟩⟩
      rw [show ((k' : Int)).toNat = k' by omega] at ho
      refine ⟨.ref o, rfl, o, _, rfl, sl_of ho, fun p np => ?_⟩
      refine q p _ (sm.free np) (sm.trans (same_upd np)) ?_
      rw [upd_same, ← List.map_reverse, List.reverse_reverse]

/-! ### spaced, as_text -/
def sp_spaced (K : PySem.W.Frag) : Sp := fun vs H Q _ => ∃ (a : Addr) (l : List Bytes), vs = [.ref a] ∧ RowsAt H a (l.map SqM.bI) ∧ (LsText.spaced l).length ≤ 1000000 ∧ retL H Q (SqM.bI (LsText.spaced l))
theorem spGo_len : ∀ (l : List (List Int)) (i : Nat) (row : List Int), row.length ≤ (SqM.spGo l i row).length
  | [], _, _ => Nat.le_refl _
  | n :: r, i, row => by
    refine Nat.le_trans ?_ (spGo_len r (i + 1) (SqM.spStep row i n))
    unfold SqM.spStep
    rw [List.length_append]
    split
    · rw [List.length_append]
      omega
    · omega
theorem sc_spaced : FnScope ["names", "row", "at", "name"] ["names"] (defScope (top 31)) := ⟨rfl, rfl, rfl, by decide +kernel, rfl, by decide +kernel, by decide +kernel⟩
theorem ok_spaced {k : Nat} (F : FnAt K mg "spaced" (top 31)) (g_BLANK : IntAt mg "BLANK" 32) (n_enumerate : mg "enumerate" = none) : CallOk P w K mg base (k + 1) "spaced" ["names"] (sp_spaced K) := by
  obtain ⟨f, fd, g, F⟩ := F
  obtain ⟨t_BLANK, g_BLANK⟩ := g_BLANK
  refine ⟨f, fd, g, F.kp, F.binds fun _ _ _ _ _ _ us hl => match us, hl with | [_], _ => rfl, F.ok sc_spaced (fun vs H Q E h => ?_) fun cdv A outer s H vs Q E hr h => ?_⟩
  · obtain ⟨a, l, rfl, _⟩ := h
    rfl
  · obtain ⟨a, l, rfl, hR, hz, q⟩ := h
    refine ⟨_, (pss_cons (ps_set (i := 1) sc_spaced.nd rfl (.inl rfl) (pe_lst pa_nil))
        (pss_cons (ps_for PassesOwn.never rfl (pi_enum (by rfl) n_enumerate (pa_cons (pv 0) pa_nil)) (pg_tup rfl (pgs_cons (pg_name (i := 2) sc_spaced.nd rfl (.inl rfl)) (pgs_cons (pg_name (i := 3) sc_spaced.nd rfl (.inl rfl)) pgs_nil))) (pss_cons (ps_if (pt_cmpR op_gt (pv 2) pe_int (nomark _)) (pss_one (ps_expr (pe_bm PySem.F.plainAttrs_list PySem.F.slot_list_append PySem.F.type_list_append mt_append (pv 1) (pa_cons (pe_glob (v := .int 32) rfl g_BLANK ⟨_, rfl⟩) pa_nil)))) pss_nil)
        (pss_one (ps_expr (pe_bm PySem.F.plainAttrs_list PySem.F.slot_list_extend PySem.F.type_list_extend mt_extend (pv 1) (pa_cons (pv 3) pa_nil))))))
        (pss_one (ps_ret (pv 1))))), ?_⟩
    have hRk := hR
    obtain ⟨bs, h1, h2, h3⟩ := hR
    have htot : SqM.spGo (bs.map (·.2)) 0 [] = SqM.bI (LsText.spaced l) := by rw [h2, SqM.spGo_spaced]
    refine ⟨Nat.zero_le _, fun o no => ⟨.ref a, rfl, a, _, rfl, sl_of (same_upd no _ _ h1), for_it (walk_enum (K := K) (a := a) (xs := bs.map fun b => V.ref b.1))
      (fun i σ H' => Same H H' ∧ ∃ (row : List Int) (y z : Option V), H' o = some (.lst (iv row)) ∧ SqM.spGo ((bs.map (·.2)).drop i) i row = SqM.bI (LsText.spaced l) ∧ σ = [some (.ref a), some (.ref o), y, z]) ?_ ?_ ?_ ?_⟩⟩
    · exact ⟨same_upd no, [], _, _, upd_same, htot, rfl⟩
    · rintro i σ H' _ ⟨sm, _⟩
      exact sl_of (sm _ _ h1)
    · rintro i _ σ H' _ _ ⟨sm, row, y, z, ho, hrest, rfl⟩ ⟨T, ni, x, rfl, nT, rfl, ei, hx⟩
      cases ei
      replace hx : (bs.map fun b => V.ref b.1)[i]? = some x := hx
      rw [List.getElem?_map] at hx
      obtain ⟨b, hb, rfl⟩ : ∃ b, bs[i]? = some b ∧ x = V.ref b.1 := by
        cases e : bs[i]? with
        | none =>
          rw [e] at hx
          cases hx
        | some b =>
          rw [e] at hx
          exact ⟨b, rfl, (Option.some.inj hx).symm⟩
      have hbm : b ∈ bs := List.mem_of_getElem? hb
      have hb3 := sm _ _ (h3 b hbm)
      have hdrop : (bs.map (·.2)).drop i = b.2 :: (bs.map (·.2)).drop (i + 1) := by
        have hi : i < (bs.map (·.2)).length := by
          rw [List.length_map]
          exact (List.getElem?_eq_some_iff.mp hb).1
        rw [List.drop_eq_getElem_cons hi]
        congr 1
        rw [List.getElem_map, (List.getElem?_eq_some_iff.mp hb).2]
      rw [hdrop, SqM.spGo] at hrest
      have hlen := spGo_len ((bs.map (·.2)).drop (i + 1)) (i + 1) (SqM.spStep row i b.2)
      rw [hrest, bI_len] at hlen
      have sT : Same H' (upd H' T (.tup [.int (i : Nat), .ref b.1])) := same_upd nT
      have oT := sT _ _ ho
      have bT := sT _ _ hb3
      have bo : b.1 ≠ o := ne_of_none (h3 b hbm) no
      refine ⟨T, _, rfl, st_of upd_same, rfl, _, _, rfl, _, _, rfl, rfl, _, rfl, _, _, rfl, rfl, _, rfl, ?_⟩
      show if decide ((0 : Int) < (i : Int)) = true then _ else _
      unfold SqM.spStep at hrest hlen
      refine ite2 (fun c => ?_) (fun c => ?_)
      · have hi0 : 0 < i := by simpa using c
        rw [if_pos hi0] at hrest hlen
        rw [List.length_append, List.length_append] at hlen
        refine ⟨.ref o, rfl, .inl ⟨rfl, _, sl_of oT⟩, o, _, _, rfl, rfl, oT, by rw [iv_len]; exact big' (by omega), ?_⟩
        refine ⟨.ref o, rfl, .inl ⟨rfl, _, sl_of upd_same⟩, .ref b.1, rfl, o, b.1, _, _, rfl, rfl, upd_same, by rw [upd_ne bo]; exact bT, ?_, ?_⟩
        · rw [List.length_append, iv_len, iv_len]
          exact big (by simp at hlen ⊢; omega)
        · refine ⟨?_, _, _, _, upd_same.trans ?_, hrest, rfl⟩
          · exact same_mut (same_mut (sm.trans sT) no) no
          · rw [iv_append, iv_append]
            rfl
      · have hi0 : ¬ 0 < i := by simpa using c
        rw [if_neg hi0] at hrest hlen
        rw [List.length_append] at hlen
        refine ⟨.ref o, rfl, .inl ⟨rfl, _, sl_of oT⟩, .ref b.1, rfl, o, b.1, _, _, rfl, rfl, oT, bT, ?_, ?_⟩
        · rw [iv_len, iv_len]
          exact big (by omega)
        · refine ⟨same_mut (sm.trans sT) no, _, _, _, upd_same.trans ?_, hrest, rfl⟩
          rw [iv_append]
    · rintro σ H' ⟨sm, row, y, z, ho, hrest, rfl⟩
      refine ⟨.ref o, rfl, ?_⟩
      rw [List.length_map, List.drop_of_length_le (by rw [List.length_map]; exact Nat.le_refl _), SqM.spGo] at hrest
      rw [hrest] at ho
      exact q o H' no sm ho

def sp_as_text : Sp := fun vs H Q _ => ∃ (a : Addr) (xs : List Int), vs = [.ref a] ∧ H a = some (.lst (iv xs)) ∧ xs.length ≤ 1000000 ∧ retL H Q ((xs.length : Int) :: xs)
theorem sc_as_text : FnScope ["row"] ["row"] (defScope (top 32)) := ⟨rfl, rfl, rfl, by decide +kernel, rfl, by decide +kernel, by decide +kernel⟩
theorem ok_as_text {k : Nat} (F : FnAt K mg "as_text" (top 32)) (n_len : mg "len" = none) : CallOk P w K mg base (k + 1) "as_text" ["row"] sp_as_text := by
  obtain ⟨f, fd, g, F⟩ := F
  refine ⟨f, fd, g, F.kp, F.binds fun _ _ _ _ _ _ us hl => match us, hl with | [_], _ => rfl, F.ok sc_as_text (fun vs H Q E h => ?_) fun cdv A outer s H vs Q E hr h => ?_⟩
  · obtain ⟨a, xs, rfl, _⟩ := h
    rfl
  · obtain ⟨a, xs, rfl, ha, hz, q⟩ := h
    refine ⟨_, (pss_one (ps_ret (pe_op op_cat (pe_lst (pa_cons (pe_callB call_len_seq (by rfl) n_len PySem.boot_len (pa_cons (pv 0) pa_nil)) pa_nil)) (pv 0)))), ?_⟩
    refine ⟨.ref a, rfl, a, _, rfl, .inl (sl_of ha), by show 1 ≤ sizeLine; decide, fun p np => ⟨.ref a, rfl, p, a, _, _, rfl, rfl, upd_same, same_upd np _ _ ha, ?_, fun r nr => ?_⟩⟩
    · rw [iv_len]
      exact big (by show 1 + xs.length ≤ _; omega)
    · refine q r _ ((same_upd np).free nr) ((same_upd np).trans (same_upd nr)) ?_
      rw [upd_same, iv_len]
      rfl

/-! ### great_squares -/
def sp_great_squares : Sp := fun vs H Q _ => ∃ x y s : Nat, vs = [.int (x : Int), .int (y : Int), .int (s : Int)] ∧ 0 < s ∧ x + s ≤ 1000000 ∧ y + s ≤ 1000000 ∧ retR H Q ((SqM.greatL x y s).map SqM.bI)
theorem range_map_succ {α : Type} (n : Nat) (f : Nat → α) : (List.range (n + 1)).map f = (List.range n).map f ++ [f n] := by
  rw [List.range_succ, List.map_append]
  rfl
theorem range_flat_succ {α : Type} (n : Nat) (f : Nat → List α) : (List.range (n + 1)).flatMap f = (List.range n).flatMap f ++ f n := by
  rw [List.range_succ, List.flatMap_append, List.flatMap_singleton]
theorem flat_len {α : Type} (n m : Nat) (f : Nat → List α) (h : ∀ i, (f i).length = m) : ((List.range n).flatMap f).length = n * m := by
  induction n with
  | zero => simp
  | succ n ih => rw [range_flat_succ, List.length_append, ih, h, Nat.add_mul, Nat.one_mul]
theorem sc_great_squares : FnScope ["x", "y", "side", "names", "column", "row"] ["x", "y", "side"] (defScope (top 14)) := ⟨rfl, rfl, rfl, by decide +kernel, rfl, by decide +kernel, by decide +kernel⟩
theorem ok_great_squares {k : Nat} (F : FnAt K mg "great_squares" (top 14)) (g_GREAT : IntAt mg "GREAT" 100000) (n_range : mg "range" = none) (c_great_name : CallOk P w K mg base (k + 1) "great_name" ["column", "row"] sp_great_name) : CallOk P w K mg base (k + 2) "great_squares" ["x", "y", "side"] sp_great_squares := by
  obtain ⟨f, fd, g, F⟩ := F
  obtain ⟨t_GREAT, g_GREAT⟩ := g_GREAT
  obtain ⟨f_great_name, d_great_name, g_great_name, k_great_name, b_great_name, G_great_name⟩ := c_great_name.ex
  refine ⟨f, fd, g, F.kp, F.binds fun _ _ _ _ _ _ us hl => match us, hl with | [_, _, _], _ => rfl, F.ok sc_great_squares (fun vs H Q E h => ?_) fun cdv A outer s H vs Q E hr h => ?_⟩
  · obtain ⟨x, y, s, rfl, _⟩ := h
    rfl
  · obtain ⟨x, y, s', rfl, h0, hx, hy, q⟩ := h
    refine ⟨_, (pss_cons (ps_set (i := 3) sc_great_squares.nd rfl (.inl rfl) (pe_lst pa_nil))
        (pss_cons (ps_for PassesOwn.never rfl (pi_range2 (by rfl) n_range (pa_cons (pe_op op_fdiv (pv 0) (pe_glob (v := .int 100000) rfl g_GREAT ⟨_, rfl⟩)) (pa_cons (pe_op op_add (pe_op op_fdiv (pe_op op_sub (pe_op op_add (pv 0) (pv 2)) pe_int) (pe_glob (v := .int 100000) rfl g_GREAT ⟨_, rfl⟩)) pe_int) pa_nil))) (pg_name (i := 4) sc_great_squares.nd rfl (.inl rfl)) (pss_one (ps_for PassesOwn.never rfl (pi_range2 (by rfl) n_range (pa_cons (pe_op op_fdiv (pv 1) (pe_glob (v := .int 100000) rfl g_GREAT ⟨_, rfl⟩)) (pa_cons (pe_op op_add (pe_op op_fdiv (pe_op op_sub (pe_op op_add (pv 1) (pv 2)) pe_int) (pe_glob (v := .int 100000) rfl g_GREAT ⟨_, rfl⟩)) pe_int) pa_nil))) (pg_name (i := 5) sc_great_squares.nd rfl (.inl rfl)) (pss_one (ps_expr (pe_bm PySem.F.plainAttrs_list PySem.F.slot_list_append PySem.F.type_list_append mt_append (pv 3) (pa_cons (pe_call G_great_name hr (by rfl) g_great_name k_great_name b_great_name .nil pass0 (pa_cons (pv 4) (pa_cons (pv 5) pa_nil))) pa_nil)))))))
        (pss_one (ps_ret (pv 3))))), ?_⟩
    have CD : CDiv (x : Int) 100000 := ⟨by decide, by decide⟩
    have cN : ((x + s' - 1) / 100000 + 1 - x / 100000 : Nat) ≤ 10 := by omega
    have rN : ((y + s' - 1) / 100000 + 1 - y / 100000 : Nat) ≤ 10 := by omega
    refine ⟨Nat.zero_le _, fun o no => ⟨_, rfl, _, _, rfl, rfl, ⟨by decide, by decide⟩, _, rfl, _, rfl, _, _, rfl, rfl, _, _, rfl, rfl, _, _, rfl, rfl, ⟨by decide, by decide⟩, _, _, rfl, rfl, _, _, rfl, by omega,
      for_range (lo := (x : Int) / 100000) (n := (((x : Int) + (s' : Int) - 1) / 100000 + 1 - (x : Int) / 100000).toNat)
      (fun i σ H' => Same H H' ∧ RowsAt H' o ((List.range i).flatMap fun i => (List.range ((y + s' - 1) / 100000 + 1 - y / 100000)).map fun j => SqM.bI (SqM.gName2 (x / 100000 + i) (y / 100000 + j))) ∧ ∃ y4 y5, σ = [some (.int (x : Int)), some (.int (y : Int)), some (.int (s' : Int)), some (.ref o), y4, y5]) ?_ ?_ ?_⟩⟩
    · exact ⟨same_upd no, RowsAt.nil upd_same, _, _, rfl⟩
    · rintro i σ H' hi ⟨sm, hR, y4, y5, rfl⟩
      have hi' : i < (x + s' - 1) / 100000 + 1 - x / 100000 := by omega
      refine ⟨_, rfl, _, _, rfl, rfl, ⟨by decide, by decide⟩, _, rfl, _, rfl, _, _, rfl, rfl, _, _, rfl, rfl, _, _, rfl, rfl, ⟨by decide, by decide⟩, _, _, rfl, rfl, _, _, rfl, by omega,
        for_range (lo := (y : Int) / 100000) (n := (((y : Int) + (s' : Int) - 1) / 100000 + 1 - (y : Int) / 100000).toNat)
        (fun j σ H' => Same H H' ∧ RowsAt H' o (((List.range i).flatMap fun i => (List.range ((y + s' - 1) / 100000 + 1 - y / 100000)).map fun j => SqM.bI (SqM.gName2 (x / 100000 + i) (y / 100000 + j))) ++ (List.range j).map fun j => SqM.bI (SqM.gName2 (x / 100000 + i) (y / 100000 + j))) ∧ ∃ y5, σ = [some (.int (x : Int)), some (.int (y : Int)), some (.int (s' : Int)), some (.ref o), some (.int ((x : Int) / 100000 + (i : Int))), y5]) ?_ ?_ ?_⟩
      · exact ⟨sm, by simpa using hR, _, rfl⟩
      · rintro j σ H'' hj ⟨sm2, hR2, y5', rfl⟩
        have hRk := hR2
        obtain ⟨bs, hbs, _, _⟩ := hRk
        refine ⟨.ref o, rfl, .inl ⟨rfl, _, sl_of hbs⟩, _, rfl, _, rfl, x / 100000 + i, y / 100000 + j, ?_, by omega, by omega, fun p H3 np sm3 hp => ?_⟩
        · congr 2
        · have hR3 := hR2.mono sm3
          have po : p ≠ o := (ne_of_none hbs np).symm
          obtain ⟨xs, hxs, hl, hR4⟩ := rows_append hR3 hp po
          refine ⟨o, _, _, rfl, rfl, hxs, ?_, same_mut (sm2.trans sm3) no, ?_, _, rfl⟩
          · rw [hl, List.length_append, flat_len _ ((y + s' - 1) / 100000 + 1 - y / 100000) _ (fun i => by rw [List.length_map, List.length_range]), List.length_map, List.length_range]
            have := Nat.mul_le_mul (Nat.le_trans (Nat.le_of_lt hi') cN) rN
            exact big' (by omega)
          · rw [range_map_succ, ← List.append_assoc]
            exact hR4
      · rintro σ H'' ⟨sm2, hR2, y5', rfl⟩
        refine ⟨sm2, ?_, _, _, rfl⟩
        rw [range_flat_succ]
        rw [show (((y : Int) + (s' : Int) - 1) / 100000 + 1 - (y : Int) / 100000).toNat = (y + s' - 1) / 100000 + 1 - y / 100000 by omega] at hR2
        exact hR2
    · rintro σ H' ⟨sm, hR, y4, y5, rfl⟩
      refine ⟨.ref o, rfl, q o H' no sm ?_⟩
      rw [show (((x : Int) + (s' : Int) - 1) / 100000 + 1 - (x : Int) / 100000).toNat = (x + s' - 1) / 100000 + 1 - x / 100000 by omega] at hR
      unfold SqM.greatL LsRefs.GREAT
      rw [List.map_flatMap]
      simp only [List.map_map]
      exact hR

end
end SqW

/-! SqW2: sheets, def by def. -/
namespace SqW
open PySem PySem.Spec PyProof.Rows L2
open LsText (Bytes)
open LsRefs (Sheet)
def retV (H : Hp) (Q : VK) (v : V) : Prop := ∀ H', Same H H' → Q v H'
theorem nI_len (l : List Nat) : (SqM.nI l).length = l.length := List.length_map _
theorem nI_get {l : List Nat} {i : Nat} {d : Nat} (h : l[i]? = some d) : (SqM.nI l)[i]? = some (d : Int) := by
  unfold SqM.nI
  rw [List.getElem?_map, h]
  rfl
theorem of_nI {l : List Nat} {i : Nat} {v : V} (h : (iv (SqM.nI l))[i]? = some v) : ∃ d : Nat, l[i]? = some d ∧ v = .int (d : Int) := by
  obtain ⟨z, hz, rfl⟩ := iv_get h
  unfold SqM.nI at hz
  rw [List.getElem?_map] at hz
  cases e : l[i]? with
  | none =>
    rw [e] at hz
    cases hz
  | some d =>
    rw [e] at hz
    have := Option.some.inj hz
    exact ⟨d, rfl, by rw [← this]⟩
theorem of_bI {l : Bytes} {i : Nat} {v : V} (h : (iv (SqM.bI l))[i]? = some v) : ∃ c : UInt8, l[i]? = some c ∧ v = .int (c.toNat : Int) := by
  obtain ⟨z, hz, rfl⟩ := iv_get h
  unfold SqM.bI at hz
  rw [List.getElem?_map] at hz
  cases e : l[i]? with
  | none =>
    rw [e] at hz
    cases hz
  | some d =>
    rw [e] at hz
    have := Option.some.inj hz
    exact ⟨d, rfl, by rw [← this]⟩
theorem take_snoc {α : Type} {l : List α} {i : Nat} {x : α} (h : l[i]? = some x) : l.take (i + 1) = l.take i ++ [x] := by
  rw [List.take_add_one, h]
  rfl
section
variable {P : Program} {w : World} {K : PySem.W.Frag} {mg : Str → Option Value} {base : Heap}

/-! ### code_of -/
def sp_code_of (K : PySem.W.Frag) : Sp := fun vs H Q _ => ∃ (a : Addr) (c : Sheet), vs = [.ref a] ∧ SqL K H a (iv (SqM.nI c)) ∧ c.length ≤ 1000 ∧ retL H Q (SqM.codeI c)
theorem sc_code_of : FnScope ["quarters", "quarter"] ["quarters"] (defScope (top 42)) := ⟨rfl, rfl, rfl, by decide +kernel, rfl, by decide +kernel, by decide +kernel⟩
theorem ok_code_of {k : Nat} (F : FnAt K mg "code_of" (top 42)) (g_CAPITAL_S : IntAt mg "CAPITAL_S" 83) (g_NOUGHT : IntAt mg "NOUGHT" 48) : CallOk P w K mg base (k + 1) "code_of" ["quarters"] (sp_code_of K) := by
  obtain ⟨f, fd, g, F⟩ := F
  obtain ⟨t_CAPITAL_S, g_CAPITAL_S⟩ := g_CAPITAL_S
  obtain ⟨t_NOUGHT, g_NOUGHT⟩ := g_NOUGHT
  refine ⟨f, fd, g, F.kp, F.binds fun _ _ _ _ _ _ us hl => match us, hl with | [_], _ => rfl, F.ok sc_code_of (fun vs H Q E h => ?_) fun cdv A outer s H vs Q E hr h => ?_⟩
  · obtain ⟨a, c, rfl, _⟩ := h
    rfl
  · obtain ⟨a, c, rfl, hS, hc, q⟩ := h
    refine ⟨_, (pss_one (ps_ret (pe_op op_cat (pe_lst (pa_cons (pe_glob (v := .int 83) rfl g_CAPITAL_S ⟨_, rfl⟩) pa_nil)) (pe_lc (own := [("quarter", 1)]) (g := gName 1) (tt := tYes) (by rfl) sc_code_of.nd (pi_list (pv 0)) (blkOk_by (own := [("quarter", 1)]) (N := ["quarters", "quarter"]) (sc := defScope (top 42)) (by decide +kernel)) (fun _ _ _ _ _ => (pg_name (i := 1) sc_code_of.nd rfl (.inl rfl))) (fun _ _ _ _ _ => pts_nil) (fun _ _ _ _ _ => (pe_op op_add (pe_glob (v := .int 48) rfl g_NOUGHT ⟨_, rfl⟩) (pv 1))))))), ?_⟩
    refine ⟨by show 1 ≤ sizeLine; decide, fun p1 np => ?_⟩
    have s1 : Same H (upd H p1 (.lst [.int 83])) := same_upd np
    refine ⟨.ref a, rfl, a, rfl, ⟨_, s1.seq hS⟩, fun D nD => lc_it (walk_list (K := K) (a := a) (xs := iv (SqM.nI c)))
      (fun i H' => Same (upd H p1 (.lst [.int 83])) H' ∧ H' D = some (.lst (iv ((c.take i).map fun (d : Nat) => (48 + d : Int))))) ?_ ?_ ?_ ?_⟩
    · exact ⟨same_upd nD, upd_same⟩
    · rintro i H' _ ⟨sm, _⟩
      exact sm.seq (s1.seq hS)
    · rintro i x H' _ _ ⟨sm, hD⟩ ⟨rfl, hx⟩
      obtain ⟨d, hd, rfl⟩ := of_nI hx
      refine ⟨rfl, .int (d : Int), rfl, _, _, rfl, rfl, _, hD, ?_, ?_, ?_⟩
      · rw [iv_len, List.length_map, List.length_take]
        exact big' (by omega)
      · exact same_mut sm nD
      · rw [upd_same, take_snoc hd, List.map_append, iv_append]
        rfl
    · rintro H' ⟨sm, hD⟩
      rw [iv_len, nI_len, List.take_length] at hD
      have h1 := sm _ _ (upd_same (H := H) (a := p1) (o := .lst [.int 83]))
      refine ⟨p1, D, _, _, rfl, rfl, h1, hD, ?_, fun r nr => ?_⟩
      · rw [iv_len, List.length_map]
        exact big (by show 1 + c.length ≤ _; omega)
      · refine q r _ ((s1.trans sm).free nr) ((s1.trans sm).trans (same_upd nr)) ?_
        rw [upd_same]
        rfl

/-! ### code_fault -/
def isQ (c : UInt8) : Bool := decide (49 ≤ c.toNat) && decide (c.toNat ≤ 52)
theorem large_S : ∀ c : UInt8, LsRefs.large c = 83 ↔ ((c.toNat : Int) = 83 ∨ (c.toNat : Int) = 115) := all_bytes (by decide +kernel)
theorem readCode_nil : LsRefs.readCode [] = .error 0 := rfl
theorem readCode_cons (c : UInt8) (r : Bytes) : LsRefs.readCode (c :: r) = if LsRefs.large c ≠ 83 then .error 0 else
    if 6 < (r.takeWhile isQ).length then .error 7 else if (r.takeWhile isQ).length < r.length then .error (1 + (r.takeWhile isQ).length) else .ok ((r.takeWhile isQ).map fun (c : UInt8) => c.toNat - 48) := rfl
theorem readCode_ok {b : Bytes} {s : Sheet} (h : LsRefs.readCode b = .ok s) : ∃ c r, b = c :: r ∧ s = (r.map fun (c : UInt8) => c.toNat - 48) ∧ r.length ≤ 6 ∧ ∀ x ∈ r, isQ x = true := by
  cases b with
  | nil =>
    rw [readCode_nil] at h
    cases h
  | cons c r =>
    rw [readCode_cons] at h
    split at h
    · cases h
    · split at h
      · cases h
      · split at h
        · cases h
        · have l := SqM.run_le (p := isQ) r
          have e : r.takeWhile isQ = r := by
            rw [← SqM.run_take]
            exact List.take_of_length_le (by omega)
          have h2 := Except.ok.inj h
          refine ⟨c, r, rfl, by rw [← h2, e], by rw [e] at *; omega, fun x hx => ?_⟩
          have := List.all_takeWhile (p := isQ) (l := r)
          rw [e] at this
          exact List.all_eq_true.mp this x hx
theorem readCode_sh {b : Bytes} {s : Sheet} (h : LsRefs.readCode b = .ok s) : SqM.Sh s := by
  obtain ⟨c, r, _, rfl, hl, hq⟩ := readCode_ok h
  refine ⟨by rw [List.length_map]; exact hl, fun d hd => ?_⟩
  obtain ⟨x, hx, rfl⟩ := List.mem_map.mp hd
  have := hq x hx
  unfold isQ at this
  simp only [Bool.and_eq_true, decide_eq_true_eq] at this
  omega
def faultV (b : Bytes) : V := match LsRefs.readCode b with
  | .error p => .int (p : Int)
  | .ok _ => .non
theorem faultV_error {b : Bytes} {p : Nat} (h : LsRefs.readCode b = .error p) : faultV b = .int (p : Int) := by
  unfold faultV
  rw [h]
theorem faultV_ok {b : Bytes} {s : Sheet} (h : LsRefs.readCode b = .ok s) : faultV b = .non := by
  unfold faultV
  rw [h]
def sp_code_fault (K : PySem.W.Frag) : Sp := fun vs H Q _ => ∃ (a : Addr) (b : Bytes), vs = [.ref a] ∧ SqL K H a (iv (SqM.bI b)) ∧ b.length ≤ 31700 ∧ retV H Q (faultV b)
theorem sc_code_fault : FnScope ["code", "place"] ["code"] (defScope (top 43)) := ⟨rfl, rfl, rfl, by decide +kernel, rfl, by decide +kernel, by decide +kernel⟩
theorem ok_code_fault {k : Nat} (F : FnAt K mg "code_fault" (top 43)) (g_CAPITAL_S : IntAt mg "CAPITAL_S" 83) (g_SMALL_S : IntAt mg "SMALL_S" 115) (g_HIGHEST_SERIES : IntAt mg "HIGHEST_SERIES" 6) (g_FIRST_QUARTER : IntAt mg "FIRST_QUARTER" 49) (g_LAST_QUARTER : IntAt mg "LAST_QUARTER" 52) (n_len : mg "len" = none) (n_range : mg "range" = none) : CallOk P w K mg base (k + 1) "code_fault" ["code"] (sp_code_fault K) := by
  obtain ⟨f, fd, g, F⟩ := F
  obtain ⟨t_CAPITAL_S, g_CAPITAL_S⟩ := g_CAPITAL_S
  obtain ⟨t_SMALL_S, g_SMALL_S⟩ := g_SMALL_S
  obtain ⟨t_HIGHEST_SERIES, g_HIGHEST_SERIES⟩ := g_HIGHEST_SERIES
  obtain ⟨t_FIRST_QUARTER, g_FIRST_QUARTER⟩ := g_FIRST_QUARTER
  obtain ⟨t_LAST_QUARTER, g_LAST_QUARTER⟩ := g_LAST_QUARTER
  refine ⟨f, fd, g, F.kp, F.binds fun _ _ _ _ _ _ us hl => match us, hl with | [_], _ => rfl, F.ok sc_code_fault (fun vs H Q E h => ?_) fun cdv A outer s H vs Q E hr h => ?_⟩
  · obtain ⟨a, b, rfl, _⟩ := h
    rfl
  · obtain ⟨a, b, rfl, hS, hb, q⟩ := h
    refine ⟨_, (pss_cons (ps_if (PW.pt (pw_or (pt_cmpR op_eq (pe_callB call_len_seq (by rfl) n_len PySem.boot_len (pa_cons (pv 0) pa_nil)) pe_int (nomark _)) (pw_or1 (pt_cmpR op_notIn_seq (pe_ix ix_list (pv 0) pe_int (fun _ _ => rfl)) (pe_tup (pa_cons (pe_glob (v := .int 83) rfl g_CAPITAL_S ⟨_, rfl⟩) (pa_cons (pe_glob (v := .int 115) rfl g_SMALL_S ⟨_, rfl⟩) pa_nil))) (by rfl))))) (pss_one (ps_ret pe_int)) pss_nil)
        (pss_cons (ps_for PassesOwn.never rfl (pi_range2 (by rfl) n_range (pa_cons pe_int (pa_cons (pe_callB call_len_seq (by rfl) n_len PySem.boot_len (pa_cons (pv 0) pa_nil)) pa_nil))) (pg_name (i := 1) sc_code_fault.nd rfl (.inl rfl)) (pss_one (ps_if (PW.pt (pw_or (pt_cmpR op_gt (pv 1) (pe_glob (v := .int 6) rfl g_HIGHEST_SERIES ⟨_, rfl⟩) (nomark _)) (pw_or1 (pt_not (pt_chain op_le op_le (pe_glob (v := .int 49) rfl g_FIRST_QUARTER ⟨_, rfl⟩) (pe_ix ix_list (pv 0) (pv 1) (fun _ _ => rfl)) (pe_glob (v := .int 52) rfl g_LAST_QUARTER ⟨_, rfl⟩)))))) (pss_one (ps_ret (pv 1))) pss_nil)))
        (pss_one (ps_ret pe_non)))), ?_⟩
    refine ⟨.ref a, rfl, a, _, rfl, .inl hS, rfl, _, rfl, ite2 (fun c => ?_) (fun c => ?_)⟩
    · -- an empty text
      refine iteT ?_
      have e : b = [] := by
        rw [iv_len, bI_len] at c
        have c' := V.int.inj (of_decide_eq_true c)
        exact List.length_eq_zero_iff.mp (by omega)
      subst e
      exact q H (Same.refl H)
    · obtain ⟨c0, r, rfl⟩ : ∃ c0 r, b = c0 :: r := by
        cases b with
        | nil => exact absurd (decide_eq_true rfl) c
        | cons c0 r => exact ⟨c0, r, rfl⟩
      refine ⟨.ref a, rfl, a, _, 0, _, rfl, rfl, hS, at_bI (i := 0) rfl rfl, by show 2 ≤ sizeLine; decide, fun T nT => ?_⟩
      have s1 : Same H (upd H T (.tup [.int 83, .int 115])) := same_upd nT
      refine ⟨T, iv [83, 115], rfl, .inr (st_of upd_same), rfl, rfl, _, rfl, ?_⟩
      rw [if_pos rfl, inV_iv]
      have e83 : decide (((c0.toNat : Int)) ∈ ([83, 115] : List Int)) = decide (LsRefs.large c0 = 83) := decide_eq_decide.mpr (by rw [large_S]; simp)
      rw [e83]
      refine ite2 (fun c1 => ?_) (fun c1 => ?_)
      · -- not an S
        have h1 : LsRefs.readCode (c0 :: r) = .error 0 := by
          rw [readCode_cons, if_pos (by simpa using c1)]
        rw [faultV_error h1] at q
        exact q _ s1
      · have hS83 : ¬ LsRefs.large c0 ≠ 83 := by simpa using c1
        have hS1 := s1.seq hS
        generalize hH1 : upd H T (.tup [.int 83, .int 115]) = H1 at s1 hS1
        rw [show (iv (SqM.bI (c0 :: r))).length = r.length + 1 by rw [iv_len, bI_len]; rfl] at *
        refine ⟨.ref a, rfl, a, _, rfl, .inl hS1, _, _, rfl, ?_, for_range (lo := 1) (n := (((iv (SqM.bI (c0 :: r))).length : Int) - 1).toNat)
          (fun i σ H' => H' = H1 ∧ (∃ y, σ = [some (.ref a), y]) ∧ i ≤ 6 ∧ ∀ (j : Nat) (c : UInt8), j < i → r[j]? = some c → isQ c = true) ?_ ?_ ?_⟩
        · rw [iv_len, bI_len]
          simp at hb ⊢
          omega
        · exact ⟨rfl, ⟨_, rfl⟩, Nat.zero_le _, fun j c hj => by omega⟩
        · rintro i σ H' hi ⟨rfl, ⟨y, rfl⟩, hi6, hall⟩
          rw [iv_len, bI_len] at hi
          have hi' : i < r.length := by simp at hi; omega
          have hc : r[i]? = some r[i] := List.getElem?_eq_getElem hi'
          refine ⟨_, rfl, _, _, rfl, rfl, _, rfl, ite2 (fun c2 => ?_) (fun c2 => ?_)⟩
          · -- a seventh digit
            refine iteT ⟨_, rfl, ?_⟩
            have i6 : i = 6 := by simp at c2; omega
            subst i6
            have g := run_ge (p := isQ) r 6 hall (by omega)
            have h1 : LsRefs.readCode (c0 :: r) = .error 7 := by
              rw [readCode_cons, if_neg hS83]
              by_cases h7 : 6 < (r.takeWhile isQ).length
              · rw [if_pos h7]
              · rw [if_neg h7, if_pos (by omega)]
                congr 1
                omega
            rw [faultV_error h1] at q
            exact q _ s1
          · have i5 : i < 6 := by simp at c2; omega
            refine ⟨.ref a, rfl, .int (1 + (i : Int)), rfl, a, _, _, _, rfl, rfl, hS1, at_bI (i := i + 1) (by omega) hc, _, _, rfl, rfl, _, rfl, ?_⟩
            have stop : isQ r[i] = false → retV H Q (faultV (c0 :: r)) → Q (.int (1 + (i : Int))) H' := fun hq q => by
              have e : (r.takeWhile isQ).length = i := run_at _ _ hall (by omega) fun d hd => by
                rw [hc] at hd
                rw [← Option.some.inj hd]
                exact hq
              have h1 : LsRefs.readCode (c0 :: r) = .error (1 + i) := by
                rw [readCode_cons, if_neg hS83, e, if_neg (by omega), if_pos (by omega)]
              rw [faultV_error h1] at q
              have := q H' s1
              rw [show ((1 + i : Nat) : Int) = 1 + (i : Int) by omega] at this
              exact this
            have goOn : isQ r[i] = true → i + 1 ≤ 6 ∧ ∀ (j : Nat) (c : UInt8), j < i + 1 → r[j]? = some c → isQ c = true := fun hq => by
              refine ⟨by omega, fun j d hj hd => ?_⟩
              by_cases hji : j < i
              · exact hall j d hji hd
              · have : j = i := by omega
                subst this
                rw [hc] at hd
                rw [← Option.some.inj hd]
                exact hq
            refine ite2 (fun c3 => ?_) (fun c3 => ?_)
            · refine ⟨_, _, rfl, rfl, _, rfl, ?_⟩
              show if (!decide ((r[i].toNat : Int) ≤ 52)) = true then _ else _
              refine ite2 (fun c4 => ?_) (fun c4 => ?_)
              · exact ⟨_, rfl, stop (by unfold isQ; simp at c3 c4 ⊢; omega) q⟩
              · obtain ⟨g1, g2⟩ := goOn (by unfold isQ; simp at c3 c4 ⊢; omega)
                exact ⟨rfl, ⟨_, rfl⟩, g1, g2⟩
            · refine ⟨_, rfl, ?_⟩
              show if (!false) = true then _ else _
              exact iteT ⟨_, rfl, stop (by unfold isQ; simp at c3 ⊢; omega) q⟩
        · rintro σ H' ⟨rfl, ⟨y, rfl⟩, hi6, hall⟩
          rw [iv_len, bI_len] at hi6 hall
          have hl : (((c0 :: r).length : Int) - 1).toNat = r.length := by simp
          rw [hl] at hi6 hall
          have e : (r.takeWhile isQ).length = r.length := by
            have g := run_ge (p := isQ) r r.length hall (Nat.le_refl _)
            have l := SqM.run_le (p := isQ) r
            omega
          have h1 : ∃ s, LsRefs.readCode (c0 :: r) = .ok s := by
            rw [readCode_cons, if_neg hS83, e, if_neg (by omega), if_neg (by omega)]
            exact ⟨_, rfl⟩
          obtain ⟨s', h1⟩ := h1
          rw [faultV_ok h1] at q
          exact q _ s1

/-! ### quarters_of -/
def sp_quarters_of (K : PySem.W.Frag) : Sp := fun vs H Q _ => ∃ (a : Addr) (b : Bytes) (c : Sheet), vs = [.ref a] ∧ SqL K H a (iv (SqM.bI b)) ∧ LsRefs.readCode b = .ok c ∧ retL H Q (SqM.nI c)
theorem sc_quarters_of : FnScope ["code", "byte"] ["code"] (defScope (top 44)) := ⟨rfl, rfl, rfl, by decide +kernel, rfl, by decide +kernel, by decide +kernel⟩
theorem ok_quarters_of {k : Nat} (F : FnAt K mg "quarters_of" (top 44)) (g_NOUGHT : IntAt mg "NOUGHT" 48) : CallOk P w K mg base (k + 1) "quarters_of" ["code"] (sp_quarters_of K) := by
  obtain ⟨f, fd, g, F⟩ := F
  obtain ⟨t_NOUGHT, g_NOUGHT⟩ := g_NOUGHT
  refine ⟨f, fd, g, F.kp, F.binds fun _ _ _ _ _ _ us hl => match us, hl with | [_], _ => rfl, F.ok sc_quarters_of (fun vs H Q E h => ?_) fun cdv A outer s H vs Q E hr h => ?_⟩
  · obtain ⟨a, b, c, rfl, _⟩ := h
    rfl
  · obtain ⟨a, b, c, rfl, hS, hc, q⟩ := h
    obtain ⟨c0, r, rfl, rfl, hr6, hq⟩ := readCode_ok hc
    refine ⟨_, (pss_one (ps_ret (pe_lc (own := [("byte", 1)]) (g := gName 1) (tt := tYes) (by rfl) sc_quarters_of.nd (pi_list (pe_slice sl_list (pv 0) (po_some pe_int) po_none)) (blkOk_by (own := [("byte", 1)]) (N := ["code", "byte"]) (sc := defScope (top 44)) (by decide +kernel)) (fun _ _ _ _ _ => (pg_name (i := 1) sc_quarters_of.nd rfl (.inl rfl))) (fun _ _ _ _ _ => pts_nil) (fun _ _ _ _ _ => (pe_op op_sub (pv 1) (pe_glob (v := .int 48) rfl g_NOUGHT ⟨_, rfl⟩)))))), ?_⟩
    refine ⟨.ref a, rfl, 1, rfl, a, _, rfl, hS, fun p np => ?_⟩
    have s1 : Same H (upd H p (.lst (cutV (iv (SqM.bI (c0 :: r))) (some 1) none))) := same_upd np
    have hcut : cutV (iv (SqM.bI (c0 :: r))) (some 1) none = iv (SqM.bI r) := cut_from _ 1 (by rw [iv_len, bI_len]; simp)
    rw [hcut] at s1
    rw [hcut]
    have hp : SqL K (upd H p (.lst (iv (SqM.bI r)))) p (iv (SqM.bI r)) := sl_of upd_same
    refine ⟨p, rfl, ⟨_, hp⟩, fun D nD => lc_it (walk_list (K := K) (a := p) (xs := iv (SqM.bI r)))
      (fun i H' => Same (upd H p (.lst (iv (SqM.bI r)))) H' ∧ H' D = some (.lst (iv (SqM.nI ((r.take i).map fun (c : UInt8) => c.toNat - 48))))) ?_ ?_ ?_ ?_⟩
    · exact ⟨same_upd nD, upd_same⟩
    · rintro i H' _ ⟨sm, _⟩
      exact sm.seq hp
    · rintro i x H' _ _ ⟨sm, hD⟩ ⟨rfl, hx⟩
      obtain ⟨d, hd, rfl⟩ := of_bI hx
      refine ⟨rfl, .int (d.toNat : Int), rfl, _, _, rfl, rfl, _, hD, ?_, ?_, ?_⟩
      · rw [iv_len, nI_len, List.length_map, List.length_take]
        exact big' (by omega)
      · exact same_mut sm nD
      · have h49 := hq d (List.mem_of_getElem? hd)
        unfold isQ at h49
        simp only [Bool.and_eq_true, decide_eq_true_eq] at h49
        rw [upd_same, take_snoc hd, List.map_append]
        unfold SqM.nI
        rw [List.map_append, iv_append]
        have e : (d.toNat : Int) - 48 = ((d.toNat - 48 : Nat) : Int) := by omega
        show _ = some (HO.lst (_ ++ [V.int ((d.toNat - 48 : Nat) : Int)]))
        rw [← e]
    · rintro H' ⟨sm, hD⟩
      rw [iv_len, bI_len, List.take_length] at hD
      exact q D H' (s1.free nD) (s1.trans sm) hD

/-! ### ground -/
theorem side_at : ∀ n, n ≤ 6 → cSheetSides[n]? = some ((LsRefs.LAND / 2 ^ n : Nat) : Int) := by decide +kernel
def boxV (q : LsRefs.Square) : List V := [.int (q.x : Int), .int (q.y : Int), .int (q.side : Int)]
def sp_ground (K : PySem.W.Frag) : Sp := fun vs H Q _ => ∃ (a : Addr) (c : Sheet), vs = [.ref a] ∧ SqL K H a (iv (SqM.nI c)) ∧ SqM.Sh c ∧ retT H Q (boxV (LsRefs.boxOf c))
theorem in_pair (d u v : Nat) : inV (.int (d : Int)) [.int (u : Int), .int (v : Int)] = decide (d = u ∨ d = v) := by
  show (((u : Int) == (d : Int)) || (((v : Int) == (d : Int)) || false)) = _
  by_cases h1 : d = u
  · subst h1
    simp
  · by_cases h2 : d = v
    · subst h2
      simp
    · have e1 : ¬ (u : Int) = (d : Int) := by omega
      have e2 : ¬ (v : Int) = (d : Int) := by omega
      simp [h1, h2, e1, e2]
theorem in24 (d : Nat) : inV (.int (d : Int)) [.int 2, .int 4] = decide (d = 2 ∨ d = 4) := in_pair d 2 4
theorem in12 (d : Nat) : inV (.int (d : Int)) [.int 1, .int 2] = decide (d = 1 ∨ d = 2) := in_pair d 1 2
theorem sc_ground : FnScope ["quarters", "x", "y", "at", "quarter", "half"] ["quarters"] (defScope (top 45)) := ⟨rfl, rfl, rfl, by decide +kernel, rfl, by decide +kernel, by decide +kernel⟩
theorem ok_ground {k : Nat} (F : FnAt K mg "ground" (top 45)) (g_SHEET_SIDES : TupAt K mg "SHEET_SIDES" (iv cSheetSides)) (n_enumerate : mg "enumerate" = none) (n_len : mg "len" = none) : CallOk P w K mg base (k + 1) "ground" ["quarters"] (sp_ground K) := by
  obtain ⟨f, fd, g, F⟩ := F
  obtain ⟨a_SHEET_SIDES, g_SHEET_SIDES, s_SHEET_SIDES, l_SHEET_SIDES⟩ := g_SHEET_SIDES
  refine ⟨f, fd, g, F.kp, F.binds fun _ _ _ _ _ _ us hl => match us, hl with | [_], _ => rfl, F.ok sc_ground (fun vs H Q E h => ?_) fun cdv A outer s H vs Q E hr h => ?_⟩
  · obtain ⟨a, c, rfl, _⟩ := h
    rfl
  · obtain ⟨a, c, rfl, hS, hc, q⟩ := h
    refine ⟨_, (pss_cons (ps_set (i := 1) sc_ground.nd rfl (.inl rfl) pe_int)
        (pss_cons (ps_set (i := 2) sc_ground.nd rfl (.inl rfl) pe_int)
        (pss_cons (ps_for PassesOwn.never rfl (pi_enum (by rfl) n_enumerate (pa_cons (pv 0) pa_nil)) (pg_tup rfl (pgs_cons (pg_name (i := 3) sc_ground.nd rfl (.inl rfl)) (pgs_cons (pg_name (i := 4) sc_ground.nd rfl (.inl rfl)) pgs_nil))) (pss_cons (ps_set (i := 5) sc_ground.nd rfl (.inl rfl) (pe_ix ix_tup (pe_glob (v := .ref a_SHEET_SIDES) rfl g_SHEET_SIDES rfl) (pe_op op_add (pv 3) pe_int) (fun _ _ => rfl)))
        (pss_cons (ps_if (pt_cmpR op_in_seq (pv 4) (pe_tup (pa_cons pe_int (pa_cons pe_int pa_nil))) (by rfl)) (pss_one (ps_aug (i := 1) sc_ground.nd rfl (.inl rfl) (pv 5) ip_add)) pss_nil)
        (pss_one (ps_if (pt_cmpR op_in_seq (pv 4) (pe_tup (pa_cons pe_int (pa_cons pe_int pa_nil))) (by rfl)) (pss_one (ps_aug (i := 2) sc_ground.nd rfl (.inl rfl) (pv 5) ip_add)) pss_nil)))))
        (pss_one (ps_ret (pe_tup (pa_cons (pv 1) (pa_cons (pv 2) (pa_cons (pe_ix ix_tup (pe_glob (v := .ref a_SHEET_SIDES) rfl g_SHEET_SIDES rfl) (pe_callB call_len_seq (by rfl) n_len PySem.boot_len (pa_cons (pv 0) pa_nil)) (fun _ _ => rfl)) pa_nil))))))))), ?_⟩
    refine ⟨.ref a, rfl, a, _, rfl, hS, for_it (walk_enum (K := K) (a := a) (xs := iv (SqM.nI c)))
      (fun i σ H' => Same H H' ∧ ∃ y3 y4 y5, σ = [some (.ref a), some (.int ((LsRefs.boxOf (c.take i)).x : Int)), some (.int ((LsRefs.boxOf (c.take i)).y : Int)), y3, y4, y5]) ?_ ?_ ?_ ?_⟩
    · exact ⟨Same.refl H, _, _, _, rfl⟩
    · rintro i σ H' _ ⟨sm, _⟩
      exact sm.seq hS
    · rintro i _ σ H' _ hi ⟨sm, y3, y4, y5, rfl⟩ ⟨T, ni, x, rfl, nT, rfl, ei, hx⟩
      cases ei
      rw [iv_len, nI_len] at hi
      obtain ⟨d, hd, rfl⟩ := of_nI hx
      have hd4 := hc.2 d (List.mem_of_getElem? hd)
      have hc6 := hc.1
      have sT : Same H' (upd H' T (.tup [.int (i : Nat), .int (d : Int)])) := same_upd nT
      have hbx : LsRefs.boxOf (c.take (i + 1)) = LsRefs.quarter (LsRefs.boxOf (c.take i)) d := by
        rw [take_snoc hd, SqM.boxOf_snoc]
      have hhalf : (LsRefs.boxOf (c.take i)).side / 2 = LsRefs.LAND / 2 ^ (i + 1) := by
        rw [SqM.boxOf_side, List.length_take, show min i c.length = i by omega, Nat.div_div_eq_div_mul]
        rfl
      refine ⟨T, _, rfl, st_of upd_same, rfl, _, _, rfl, _, _, rfl, rfl, ?_⟩
      refine ⟨_, rfl, _, _, rfl, rfl, _, _, _, _, rfl, rfl, s_SHEET_SIDES _, at_iv (i := i + 1) (by omega) (side_at (i + 1) (by omega)), ?_⟩
      -- east
      refine ⟨_, rfl, by show 2 ≤ sizeLine; decide, fun T2 nT2 => ?_⟩
      have s2 : Same (upd H' T (.tup [.int (i : Nat), .int (d : Int)])) (upd (upd H' T (.tup [.int (i : Nat), .int (d : Int)])) T2 (.tup [.int 2, .int 4])) := same_upd nT2
      refine ⟨T2, _, rfl, .inr (st_of upd_same), rfl, rfl, _, rfl, ?_⟩
      show if (inV (.int (d : Int)) [.int 2, .int 4]) = true then _ else _
      rw [in24]
      have fin : ∀ (H4 : Hp) (z1 z2 : Nat), Same (upd H' T (.tup [.int (i : Nat), .int (d : Int)])) H4 → z1 = (if d = 2 ∨ d = 4 then (LsRefs.boxOf (c.take i)).x + LsRefs.LAND / 2 ^ (i + 1) else (LsRefs.boxOf (c.take i)).x) →
          z2 = (if d = 1 ∨ d = 2 then (LsRefs.boxOf (c.take i)).y + LsRefs.LAND / 2 ^ (i + 1) else (LsRefs.boxOf (c.take i)).y) →
          (Same H H4 ∧ ∃ y3 y4 y5, ([some (.ref a), some (.int (z1 : Int)), some (.int (z2 : Int)), some (.int (i : Nat)), some (.int (d : Int)), some (.int ((LsRefs.LAND / 2 ^ (i + 1) : Nat) : Int))] : L2.St) = [some (.ref a), some (.int ((LsRefs.boxOf (c.take (i + 1))).x : Int)), some (.int ((LsRefs.boxOf (c.take (i + 1))).y : Int)), y3, y4, y5]) := by
        intro H4 z1 z2 s4 e1 e2
        refine ⟨(sm.trans sT).trans s4, some (.int (i : Nat)), some (.int (d : Int)), some (.int ((LsRefs.LAND / 2 ^ (i + 1) : Nat) : Int)), ?_⟩
        rw [hbx, e1, e2, ← hhalf]
        rfl
      have north : ∀ (H3 : Hp) (z1 : Nat), Same (upd H' T (.tup [.int (i : Nat), .int (d : Int)])) H3 → z1 = (if d = 2 ∨ d = 4 then (LsRefs.boxOf (c.take i)).x + LsRefs.LAND / 2 ^ (i + 1) else (LsRefs.boxOf (c.take i)).x) →
          tIfS (tTest (tOp (rIn K false) (tVar 4) (tTup (tCons (tC (.int 1)) (tCons (tC (.int 2)) tNil))))) (tAug 2 (tVar 5) (ipI fun i j => i + j)) tNext
            ⟨fun σ H4 => Same H H4 ∧ ∃ y3 y4 y5, σ = [some (.ref a), some (.int ((LsRefs.boxOf (c.take (i + 1))).x : Int)), some (.int ((LsRefs.boxOf (c.take (i + 1))).y : Int)), y3, y4, y5], Q, fun _ _ => True, fun _ _ => True⟩
            [some (.ref a), some (.int (z1 : Int)), some (.int ((LsRefs.boxOf (c.take i)).y : Int)), some (.int (i : Nat)), some (.int (d : Int)), some (.int ((LsRefs.LAND / 2 ^ (i + 1) : Nat) : Int))] H3 := by
        intro H3 z1 s3 e1
        refine ⟨_, rfl, by show 2 ≤ sizeLine; decide, fun T3 nT3 => ?_⟩
        refine ⟨T3, _, rfl, .inr (st_of upd_same), rfl, rfl, _, rfl, ?_⟩
        show if (inV (.int (d : Int)) [.int 1, .int 2]) = true then _ else _
        rw [in12]
        refine ite2 (fun c2 => ?_) (fun c2 => ?_)
        · have h12 : d = 1 ∨ d = 2 := by simpa using c2
          refine ⟨_, rfl, _, rfl, _, _, rfl, rfl, ?_⟩
          have := fin (upd H3 T3 (.tup [.int 1, .int 2])) z1 ((LsRefs.boxOf (c.take i)).y + LsRefs.LAND / 2 ^ (i + 1)) (s3.trans (same_upd nT3)) e1 (by rw [if_pos h12])
          rw [Int.natCast_add] at this
          exact this
        · have h12 : ¬ (d = 1 ∨ d = 2) := by simpa using c2
          exact fin (upd H3 T3 (.tup [.int 1, .int 2])) z1 (LsRefs.boxOf (c.take i)).y (s3.trans (same_upd nT3)) e1 (by rw [if_neg h12])
      refine ite2 (fun c1 => ?_) (fun c1 => ?_)
      · have h24 : d = 2 ∨ d = 4 := by simpa using c1
        refine ⟨_, rfl, _, rfl, _, _, rfl, rfl, ?_⟩
        have := north _ ((LsRefs.boxOf (c.take i)).x + LsRefs.LAND / 2 ^ (i + 1)) s2 (by rw [if_pos h24])
        rw [Int.natCast_add] at this
        exact this
      · have h24 : ¬ (d = 2 ∨ d = 4) := by simpa using c1
        exact north _ (LsRefs.boxOf (c.take i)).x s2 (by rw [if_neg h24])
    · rintro σ H' ⟨sm, y3, y4, y5, rfl⟩
      rw [iv_len, nI_len, List.take_length]
      refine ⟨_, rfl, _, rfl, .ref a, rfl, a, _, rfl, .inl (sm.seq hS), _, _, _, _, rfl, rfl, s_SHEET_SIDES _, at_iv (i := c.length) (by rw [iv_len, nI_len]) (side_at c.length hc.1), by show 3 ≤ sizeLine; decide, fun p np => ?_⟩
      refine q p _ (sm.free np) (sm.trans (same_upd np)) ?_
      rw [upd_same]
      unfold boxV
      rw [SqM.boxOf_side]

/-! ### quarter_at, quarters_at -/
def sp_quarter_at : Sp := fun vs H Q _ => ∃ x y h : Nat, vs = [.int (x : Int), .int (y : Int), .int (h : Int)] ∧ Q (.int (SqM.qNo x y h : Int)) H
theorem sc_quarter_at : FnScope ["x", "y", "half", "quarter"] ["x", "y", "half"] (defScope (top 46)) := ⟨rfl, rfl, rfl, by decide +kernel, rfl, by decide +kernel, by decide +kernel⟩
theorem ok_quarter_at {k : Nat} (F : FnAt K mg "quarter_at" (top 46))  : CallOk P w K mg base (k + 1) "quarter_at" ["x", "y", "half"] sp_quarter_at := by
  obtain ⟨f, fd, g, F⟩ := F
  refine ⟨f, fd, g, F.kp, F.binds fun _ _ _ _ _ _ us hl => match us, hl with | [_, _, _], _ => rfl, F.ok sc_quarter_at (fun vs H Q E h => ?_) fun cdv A outer s H vs Q E hr h => ?_⟩
  · obtain ⟨x, y, h, rfl, _⟩ := h
    rfl
  · obtain ⟨x, y, h', rfl, q⟩ := h
    refine ⟨_, (pss_cons (ps_set (i := 3) sc_quarter_at.nd rfl (.inl rfl) (pe_ifExp (pt_cmpR op_ge (pv 1) (pv 2) (nomark _)) pe_int pe_int))
        (pss_cons (ps_if (pt_cmpR op_ge (pv 0) (pv 2) (nomark _)) (pss_one (ps_aug (i := 3) sc_quarter_at.nd rfl (.inl rfl) pe_int ip_add)) pss_nil)
        (pss_one (ps_ret (pv 3))))), ?_⟩
    have e : (SqM.qNo x y h' : Int) = (if (h' : Int) ≤ (y : Int) then 1 else 3) + (if (h' : Int) ≤ (x : Int) then 1 else 0) := by
      unfold SqM.qNo
      split <;> split <;> (first | rw [if_pos (by omega)] | rw [if_neg (by omega)]) <;> (first | rw [if_pos (by omega)] | rw [if_neg (by omega)]) <;> rfl
    rw [e] at q
    have east : ∀ z : Int, Q (.int (z + (if (h' : Int) ≤ (x : Int) then 1 else 0))) H →
        tSeq (tIfS (tTest (tOp (rI0 fun i j => .bl (decide (j ≤ i))) (tVar 0) (tVar 2))) (tAug 3 (tC (.int 1)) (ipI fun i j => i + j)) tNext) (tRet (tVar 3)) { nx := fun _ H' => Q .non H', rt := Q }
          [some (.int (x : Int)), some (.int (y : Int)), some (.int (h' : Int)), some (.int z)] H := by
      intro z q
      refine ⟨_, rfl, _, rfl, _, _, rfl, rfl, _, rfl, ite2 (fun c => ?_) (fun c => ?_)⟩
      · rw [if_pos (of_decide_eq_true c)] at q
        exact ⟨_, rfl, _, _, rfl, rfl, _, rfl, q⟩
      · rw [if_neg (fun z => c (decide_eq_true z)), Int.add_zero] at q
        exact ⟨_, rfl, q⟩
    refine ⟨_, rfl, _, rfl, _, _, rfl, rfl, _, rfl, ite2 (fun c => ?_) (fun c => ?_)⟩
    · rw [if_pos (of_decide_eq_true c)] at q
      exact east 1 q
    · rw [if_neg (fun z => c (decide_eq_true z))] at q
      exact east 3 q

theorem half_at : ∀ i, i < 6 → cSheetSides[i + 1]? = some ((SqM.halfOf i : Nat) : Int) := by decide +kernel
def sp_quarters_at : Sp := fun vs H Q _ => ∃ s x y : Nat, vs = [.int (s : Int), .int (x : Int), .int (y : Int)] ∧ s ≤ 6 ∧ retL H Q (SqM.nI (SqM.qsFrom LsRefs.LAND x y s))
theorem sc_quarters_at : FnScope ["series", "x", "y", "quarters", "half"] ["series", "x", "y"] (defScope (top 47)) := ⟨rfl, rfl, rfl, by decide +kernel, rfl, by decide +kernel, by decide +kernel⟩
theorem ok_quarters_at {k : Nat} (F : FnAt K mg "quarters_at" (top 47)) (g_SHEET_SIDES : TupAt K mg "SHEET_SIDES" (iv cSheetSides)) (c_quarter_at : CallOk P w K mg base (k + 1) "quarter_at" ["x", "y", "half"] sp_quarter_at) : CallOk P w K mg base (k + 2) "quarters_at" ["series", "x", "y"] sp_quarters_at := by
  obtain ⟨f, fd, g, F⟩ := F
  obtain ⟨a_SHEET_SIDES, g_SHEET_SIDES, s_SHEET_SIDES, l_SHEET_SIDES⟩ := g_SHEET_SIDES
  obtain ⟨f_quarter_at, d_quarter_at, g_quarter_at, k_quarter_at, b_quarter_at, G_quarter_at⟩ := c_quarter_at.ex
  refine ⟨f, fd, g, F.kp, F.binds fun _ _ _ _ _ _ us hl => match us, hl with | [_, _, _], _ => rfl, F.ok sc_quarters_at (fun vs H Q E h => ?_) fun cdv A outer s H vs Q E hr h => ?_⟩
  · obtain ⟨s, x, y, rfl, _⟩ := h
    rfl
  · obtain ⟨s', x, y, rfl, hs, q⟩ := h
    refine ⟨_, (pss_cons (ps_set (i := 3) sc_quarters_at.nd rfl (.inl rfl) (pe_lst pa_nil))
        (pss_cons (ps_for PassesOwn.never rfl (pi_tup (pe_slice sl_tup (pe_glob (v := .ref a_SHEET_SIDES) rfl g_SHEET_SIDES rfl) (po_some pe_int) (po_some (pe_op op_add (pv 0) pe_int)))) (pg_name (i := 4) sc_quarters_at.nd rfl (.inl rfl)) (pss_one (ps_expr (pe_bm PySem.F.plainAttrs_list PySem.F.slot_list_append PySem.F.type_list_append mt_append (pv 3) (pa_cons (pe_call G_quarter_at hr (by rfl) g_quarter_at k_quarter_at b_quarter_at .nil pass0 (pa_cons (pe_op op_mod (pv 1) (pe_op op_mul pe_int (pv 4))) (pa_cons (pe_op op_mod (pv 2) (pe_op op_mul pe_int (pv 4))) (pa_cons (pv 4) pa_nil)))) pa_nil)))))
        (pss_one (ps_ret (pv 3))))), ?_⟩
    refine ⟨Nat.zero_le _, fun o no => ?_⟩
    have s1 : Same H (upd H o (.lst [])) := same_upd no
    refine ⟨1, rfl, _, rfl, _, _, rfl, rfl, _, rfl, a_SHEET_SIDES, iv cSheetSides, rfl, s_SHEET_SIDES _, ?_, fun T nT => ?_⟩
    · rintro ⟨h1, _⟩
      revert h1
      decide
    · have hcut : cutV (iv cSheetSides) (some 1) (some ((s' : Int) + 1)) = iv ((cSheetSides.drop 1).take s') := by
        rw [show ((s' : Int) + 1) = ((s' + 1 : Nat) : Int) by omega, show (1 : Int) = ((1 : Nat) : Int) from rfl, cut_nat _ 1 (s' + 1) (by omega) (by rw [iv_len]; show s' + 1 ≤ 7; omega), Nat.add_sub_cancel]
        unfold iv
        rw [List.map_take, List.map_drop]
      rw [hcut]
      have s2 : Same (upd H o (.lst [])) (upd (upd H o (.lst [])) T (.tup (iv ((cSheetSides.drop 1).take s')))) := same_upd nT
      have hl : (iv ((cSheetSides.drop 1).take s')).length = s' := by
        rw [iv_len, List.length_take, List.length_drop]
        show min s' (7 - 1) = s'
        omega
      have To : o ≠ T := ne_of_none upd_same nT
      refine ⟨T, rfl, ⟨_, st_of upd_same⟩, for_it (walk_tup (K := K) (a := T) (xs := iv ((cSheetSides.drop 1).take s')))
        (fun i σ H' => Same H H' ∧ H' T = some (.tup (iv ((cSheetSides.drop 1).take s'))) ∧ H' o = some (.lst (iv (SqM.nI (SqM.qsFrom LsRefs.LAND x y i)))) ∧ ∃ y4, σ = [some (.int (s' : Int)), some (.int (x : Int)), some (.int (y : Int)), some (.ref o), y4]) ?_ ?_ ?_ ?_⟩
      · exact ⟨s1.trans s2, upd_same, s2 _ _ upd_same, _, rfl⟩
      · rintro i σ H' _ ⟨_, hT, _⟩
        exact st_of hT
      · rintro i x' σ H' _ hi ⟨sm, hT, ho, y4, rfl⟩ ⟨rfl, hx⟩
        rw [hl] at hi
        obtain ⟨z, hz, rfl⟩ := iv_get hx
        have hz2 : z = ((SqM.halfOf i : Nat) : Int) := by
          rw [List.getElem?_take_of_lt hi, List.getElem?_drop, Nat.add_comm, half_at i (by omega)] at hz
          exact (Option.some.inj hz).symm
        subst hz2
        have hpos : 0 < SqM.halfOf i := by
          have : ∀ i, i < 6 → 0 < SqM.halfOf i := by decide +kernel
          exact this i (by omega)
        have hbd : SqM.halfOf i ≤ 1000000 := by
          have : ∀ i, i < 6 → SqM.halfOf i ≤ 1000000 := by decide +kernel
          exact this i (by omega)
        refine ⟨.ref o, rfl, .inl ⟨rfl, _, sl_of ho⟩, _, rfl, _, rfl, _, _, rfl, rfl, .inl ⟨by decide, by decide⟩, _, _, rfl, rfl, (by omega : (0 : Int) < 2 * (SqM.halfOf i : Int)), _, rfl, _, rfl, _, _, rfl, rfl, .inl ⟨by decide, by decide⟩, _, _, rfl, rfl, (by omega : (0 : Int) < 2 * (SqM.halfOf i : Int)), _, rfl, x % (2 * SqM.halfOf i), y % (2 * SqM.halfOf i), SqM.halfOf i, ?_, o, _, _, rfl, rfl, ho, ?_, same_mut sm no, ?_, ?_, _, rfl⟩
        · simp only [Int.natCast_emod, Int.natCast_mul]
          rfl
        · rw [iv_len, nI_len, SqM.qsFrom_len]
          exact big' (by omega)
        · rw [upd_ne (ne_of hT ho (by intro z; cases z))]
          exact hT
        · rw [upd_same, SqM.sheet_step (by omega : i < 6)]
          unfold SqM.nI
          rw [List.map_append, iv_append]
          rfl
      · rintro σ H' ⟨sm, hT, ho, y4, rfl⟩
        rw [hl] at ho
        exact ⟨.ref o, rfl, q o H' no sm ho⟩

end
end SqW

/-! SqW3: how sheets lie, who is beside one; def by def. -/
namespace SqW
open PySem PySem.Spec PyProof.Rows L2
open LsText (Bytes)
open LsRefs (Sheet)
section
variable {P : Program} {w : World} {K : PySem.W.Frag} {mg : Str → Option Value} {base : Heap}
/-! ### beside -/
def stepsOf (d : Nat) : Int × Int := LsRefs.WAYS.getD d (0, 0)
theorem steps_at : ∀ d, d < 8 → LsRefs.WAYS[d]? = some (stepsOf d) ∧ cStepsEast[d]? = some (stepsOf d).1 ∧ cStepsNorth[d]? = some (stepsOf d).2 ∧ (-(2 ^ 64) < (stepsOf d).1 ∧ (stepsOf d).1 < 2 ^ 64) ∧ -(2 ^ 64) < (stepsOf d).2 ∧ (stepsOf d).2 < 2 ^ 64 := by decide +kernel
theorem near_eq (c : Sheet) (d : Nat) (hd : d < 8) : LsRefs.near c d =
    if 0 ≤ ((LsRefs.boxOf c).x : Int) + (stepsOf d).1 * (LsRefs.boxOf c).side ∧ ((LsRefs.boxOf c).x : Int) + (stepsOf d).1 * (LsRefs.boxOf c).side < 1000000 ∧ 0 ≤ ((LsRefs.boxOf c).y : Int) + (stepsOf d).2 * (LsRefs.boxOf c).side ∧ ((LsRefs.boxOf c).y : Int) + (stepsOf d).2 * (LsRefs.boxOf c).side < 1000000
    then some (LsRefs.sheetOf c.length (((LsRefs.boxOf c).x : Int) + (stepsOf d).1 * (LsRefs.boxOf c).side).toNat (((LsRefs.boxOf c).y : Int) + (stepsOf d).2 * (LsRefs.boxOf c).side).toNat) else none := by
  unfold LsRefs.near
  rw [(steps_at d hd).1]
  rfl
def sp_beside (K : PySem.W.Frag) : Sp := fun vs H Q _ => ∃ (a : Addr) (c : Sheet) (d : Nat), vs = [.ref a, .int (d : Int)] ∧ SqL K H a (iv (SqM.nI c)) ∧ SqM.Sh c ∧ d < 8 ∧
  (∀ e, LsRefs.near c d = some e → retL H Q (SqM.nI e)) ∧ (LsRefs.near c d = none → retV H Q .non)
theorem sc_beside : FnScope ["quarters", "heading", "x", "y", "side", "near_x", "near_y"] ["quarters", "heading"] (defScope (top 48)) := ⟨rfl, rfl, rfl, by decide +kernel, rfl, by decide +kernel, by decide +kernel⟩
theorem ok_beside {k : Nat} (F : FnAt K mg "beside" (top 48)) (g_LAND : IntAt mg "LAND" 1000000) (g_STEPS_EAST : TupAt K mg "STEPS_EAST" (iv cStepsEast)) (g_STEPS_NORTH : TupAt K mg "STEPS_NORTH" (iv cStepsNorth)) (n_len : mg "len" = none) (c_ground : CallOk P w K mg base (k + 2) "ground" ["quarters"] (sp_ground K)) (c_quarters_at : CallOk P w K mg base (k + 2) "quarters_at" ["series", "x", "y"] sp_quarters_at) : CallOk P w K mg base (k + 3) "beside" ["quarters", "heading"] (sp_beside K) := by
  obtain ⟨f, fd, g, F⟩ := F
  obtain ⟨t_LAND, g_LAND⟩ := g_LAND
  obtain ⟨a_STEPS_EAST, g_STEPS_EAST, s_STEPS_EAST, l_STEPS_EAST⟩ := g_STEPS_EAST
  obtain ⟨a_STEPS_NORTH, g_STEPS_NORTH, s_STEPS_NORTH, l_STEPS_NORTH⟩ := g_STEPS_NORTH
  obtain ⟨f_ground, d_ground, g_ground, k_ground, b_ground, G_ground⟩ := c_ground.ex
  obtain ⟨f_quarters_at, d_quarters_at, g_quarters_at, k_quarters_at, b_quarters_at, G_quarters_at⟩ := c_quarters_at.ex
  refine ⟨f, fd, g, F.kp, F.binds fun _ _ _ _ _ _ us hl => match us, hl with | [_, _], _ => rfl, F.ok sc_beside (fun vs H Q E h => ?_) fun cdv A outer s H vs Q E hr h => ?_⟩
  · obtain ⟨a, c, d, rfl, _⟩ := h
    rfl
  · obtain ⟨a, c, d, rfl, hS, hc, hd, qs, qn⟩ := h
    refine ⟨_, (pss_cons (ps_asg (pe_call G_ground hr (by rfl) g_ground k_ground b_ground .nil pass0 (pa_cons (pv 0) pa_nil)) (pg_tup rfl (pgs_cons (pg_name (i := 2) sc_beside.nd rfl (.inl rfl)) (pgs_cons (pg_name (i := 3) sc_beside.nd rfl (.inl rfl)) (pgs_cons (pg_name (i := 4) sc_beside.nd rfl (.inl rfl)) pgs_nil)))))
        (pss_cons (ps_set (i := 5) sc_beside.nd rfl (.inl rfl) (pe_op op_add (pv 2) (pe_op op_mul (pe_ix ix_tup (pe_glob (v := .ref a_STEPS_EAST) rfl g_STEPS_EAST rfl) (pv 1) (fun _ _ => rfl)) (pv 4))))
        (pss_cons (ps_set (i := 6) sc_beside.nd rfl (.inl rfl) (pe_op op_add (pv 3) (pe_op op_mul (pe_ix ix_tup (pe_glob (v := .ref a_STEPS_NORTH) rfl g_STEPS_NORTH rfl) (pv 1) (fun _ _ => rfl)) (pv 4))))
        (pss_cons (ps_if (PW.pt (pw_and (pt_chain op_le op_lt pe_int (pv 5) (pe_glob (v := .int 1000000) rfl g_LAND ⟨_, rfl⟩)) (pw_and1 (pt_chain op_le op_lt pe_int (pv 6) (pe_glob (v := .int 1000000) rfl g_LAND ⟨_, rfl⟩))))) (pss_one (ps_ret (pe_call G_quarters_at hr (by rfl) g_quarters_at k_quarters_at b_quarters_at .nil pass0 (pa_cons (pe_callB call_len_seq (by rfl) n_len PySem.boot_len (pa_cons (pv 0) pa_nil)) (pa_cons (pv 5) (pa_cons (pv 6) pa_nil)))))) pss_nil)
        (pss_one (ps_ret pe_non)))))), ?_⟩
    obtain ⟨_, we, wn, be, bn⟩ := steps_at d hd
    rw [near_eq c d hd] at qs qn
    refine ⟨.ref a, rfl, a, c, rfl, hS, hc, fun T H1 nT s1 hT => ?_⟩
    refine ⟨T, _, rfl, st_of hT, rfl, _, _, rfl, _, _, rfl, _, _, rfl, rfl, ?_⟩
    refine ⟨_, rfl, _, rfl, _, _, _, _, rfl, rfl, s_STEPS_EAST _, at_iv rfl we, _, rfl, _, _, rfl, rfl, .inl be, _, _, rfl, rfl, ?_⟩
    refine ⟨_, rfl, _, rfl, _, _, _, _, rfl, rfl, s_STEPS_NORTH _, at_iv rfl wn, _, rfl, _, _, rfl, rfl, .inl bn, _, _, rfl, rfl, ?_⟩
    have no : retV H Q .non → Q .non H1 := fun n => n H1 s1
    refine ⟨_, rfl, _, _, rfl, rfl, _, rfl, ite2 (fun c1 => ?_) (fun c1 => ?_)⟩
    · have h1 := of_decide_eq_true c1
      refine ⟨_, _, rfl, rfl, _, rfl, ite2 (fun c2 => ?_) (fun c2 => ?_)⟩
      · have h2 := of_decide_eq_true c2
        refine ⟨_, rfl, _, _, rfl, rfl, _, rfl, ite2 (fun c3 => ?_) (fun c3 => ?_)⟩
        · have h3 := of_decide_eq_true c3
          refine ⟨_, _, rfl, rfl, _, rfl, ite2 (fun c4 => ?_) (fun c4 => ?_)⟩
          · have h4 := of_decide_eq_true c4
            have q := qs _ (if_pos ⟨h1, h2, h3, h4⟩)
            rw [SqM.sheetOf_eq hc.1 (by unfold LsRefs.LAND; omega) (by unfold LsRefs.LAND; omega)] at q
            refine ⟨.ref a, rfl, a, _, rfl, .inl (s1.seq hS), _, rfl, _, rfl, c.length, _, _, ?_, hc.1, fun p H2 np s2 hp => q p H2 (s1.free np) (s1.trans s2) hp⟩
            rw [iv_len, nI_len, Int.toNat_of_nonneg h1, Int.toNat_of_nonneg h3]
            rfl
          · exact no (qn (if_neg fun z => c4 (decide_eq_true z.2.2.2)))
        · refine ⟨_, rfl, iteF ?_⟩
          exact no (qn (if_neg fun z => c3 (decide_eq_true z.2.2.1)))
      · refine iteF ?_
        exact no (qn (if_neg fun z => c2 (decide_eq_true z.2.1)))
    · refine ⟨_, rfl, iteF (iteF ?_)⟩
      exact no (qn (if_neg fun z => c1 (decide_eq_true z.1)))

/-! ### alike -/
theorem common_at : ∀ (c e : Sheet) (i : Nat), (∀ j, j < i → c[j]? = e[j]?) → i ≤ c.length → i ≤ e.length → (∀ x y, c[i]? = some x → e[i]? = some y → x ≠ y) → LsRefs.common c e = c.take i
  | [], _, i, _, _, _, _ => by simp [LsRefs.common]
  | x :: c, [], i, _, _, h, _ => by
    have : i = 0 := by simpa using h
    subst this
    rfl
  | x :: c, y :: e, 0, _, _, _, h => by
    rw [LsRefs.common, if_neg (h x y rfl rfl)]
    rfl
  | x :: c, y :: e, i + 1, h1, h2, h3, h4 => by
    have e0 : x = y := Option.some.inj (h1 0 (by omega))
    rw [LsRefs.common, if_pos e0, List.take_succ_cons, common_at c e i (fun j hj => h1 (j + 1) (by omega)) (by simpa using h2) (by simpa using h3) h4]
def sp_alike (K : PySem.W.Frag) : Sp := fun vs H Q _ => ∃ (a b : Addr) (c e : Sheet), vs = [.ref a, .ref b] ∧ SqL K H a (iv (SqM.nI c)) ∧ SqL K H b (iv (SqM.nI e)) ∧ retL H Q (SqM.nI (LsRefs.common c e))
theorem sc_alike : FnScope ["quarters", "others", "many", "one", "other"] ["quarters", "others"] (defScope (top 49)) := ⟨rfl, rfl, rfl, by decide +kernel, rfl, by decide +kernel, by decide +kernel⟩
theorem ok_alike {k : Nat} (F : FnAt K mg "alike" (top 49)) (n_zip : mg "zip" = none) : CallOk P w K mg base (k + 1) "alike" ["quarters", "others"] (sp_alike K) := by
  obtain ⟨f, fd, g, F⟩ := F
  refine ⟨f, fd, g, F.kp, F.binds fun _ _ _ _ _ _ us hl => match us, hl with | [_, _], _ => rfl, F.ok sc_alike (fun vs H Q E h => ?_) fun cdv A outer s H vs Q E hr h => ?_⟩
  · obtain ⟨a, b, c, e, rfl, _⟩ := h
    rfl
  · obtain ⟨a, b, c, e, rfl, hA, hB, q⟩ := h
    refine ⟨_, (pss_cons (ps_set (i := 2) sc_alike.nd rfl (.inl rfl) pe_int)
        (pss_cons (ps_for PassesOwn.never rfl (pi_zip (by rfl) n_zip (pa_cons (pv 0) (pa_cons (pv 1) pa_nil))) (pg_tup rfl (pgs_cons (pg_name (i := 3) sc_alike.nd rfl (.inl rfl)) (pgs_cons (pg_name (i := 4) sc_alike.nd rfl (.inl rfl)) pgs_nil))) (pss_cons (ps_if (pt_cmpR op_ne (pv 3) (pv 4) (nomark _)) (pss_one (ps_ret (pe_slice sl_list (pv 0) po_none (po_some (pv 2))))) pss_nil)
        (pss_one (ps_aug (i := 2) sc_alike.nd rfl (.inl rfl) pe_int ip_add))))
        (pss_one (ps_ret (pe_slice sl_list (pv 0) po_none (po_some (pv 2))))))), ?_⟩
    have fin : ∀ (i : Nat) (H' : Hp), Same H H' → i ≤ c.length → LsRefs.common c e = c.take i → ∃ a_1 xs, V.ref a = V.ref a_1 ∧ SqL K H' a_1 xs ∧ ∀ p, H' p = none → Q (.ref p) (upd H' p (.lst (cutV xs none (some (i : Int))))) := by
      intro i H' sm hi hcm
      refine ⟨a, _, rfl, sm.seq hA, fun p np => q p _ (sm.free np) (sm.trans (same_upd np)) ?_⟩
      rw [upd_same, cut_to _ i (by rw [iv_len, nI_len]; exact hi), hcm]
      unfold SqM.nI iv
      rw [List.map_take, List.map_take]
    refine ⟨.ref a, rfl, .ref b, rfl, a, b, _, _, rfl, hA, hB, for_it (walk_zip (K := K) (a := a) (b := b) (xs := iv (SqM.nI c)) (ys := iv (SqM.nI e)) rfl)
      (fun i σ H' => Same H H' ∧ (∃ y3 y4, σ = [some (.ref a), some (.ref b), some (.int (i : Int)), y3, y4]) ∧ ∀ j, j < i → c[j]? = e[j]?) ?_ ?_ ?_ ?_⟩
    · exact ⟨Same.refl H, ⟨_, _, rfl⟩, fun j hj => by omega⟩
    · rintro i σ H' _ ⟨sm, _⟩
      exact ⟨sm.seq hA, sm.seq hB⟩
    · rintro i _ σ H' _ hi ⟨sm, ⟨y3, y4, rfl⟩, hall⟩ ⟨T, x, y, rfl, nT, rfl, hx, hy⟩
      rw [iv_len, iv_len, nI_len, nI_len] at hi
      obtain ⟨x, hx', rfl⟩ := of_nI hx
      obtain ⟨y, hy', rfl⟩ := of_nI hy
      have sT : Same H (upd H' T (.tup [.int (x : Int), .int (y : Int)])) := sm.trans (same_upd nT)
      refine ⟨T, _, rfl, st_of upd_same, rfl, _, _, rfl, _, _, rfl, rfl, ?_⟩
      refine ⟨_, rfl, _, rfl, rfl, _, rfl, ite2 (fun c1 => ?_) (fun c1 => ?_)⟩
      · have ne : x ≠ y := fun z => by
          subst z
          simp at c1
        refine ⟨.ref a, rfl, _, rfl, _, rfl, ?_⟩
        refine fin i _ sT (by omega) (common_at c e i hall (by omega) (by omega) fun x' y' h1 h2 => ?_)
        rw [hx'] at h1
        rw [hy'] at h2
        rw [← Option.some.inj h1, ← Option.some.inj h2]
        exact ne
      · have eq : x = y := by
          have : (x : Int) = (y : Int) := by simpa using c1
          omega
        refine ⟨_, rfl, _, _, rfl, rfl, sT, ⟨_, _, rfl⟩, fun j hj => ?_⟩
        by_cases hji : j < i
        · exact hall j hji
        · have : j = i := by omega
          subst this
          rw [hx', hy', eq]
    · rintro σ H' ⟨sm, ⟨y3, y4, rfl⟩, hall⟩
      rw [iv_len, iv_len, nI_len, nI_len] at hall ⊢
      refine ⟨.ref a, rfl, _, rfl, _, rfl, ?_⟩
      refine fin _ _ sm (Nat.min_le_left _ _) (common_at c e _ hall (Nat.min_le_left _ _) (Nat.min_le_right _ _) fun x' y' h1 h2 => ?_)
      have l1 := (List.getElem?_eq_some_iff.mp h1).1
      have l2 := (List.getElem?_eq_some_iff.mp h2).1
      omega

/-! ### shared, how_they_lie -/
def sp_shared : Sp := fun vs H Q _ => ∃ x s y t : Int, vs = [.int x, .int s, .int y, .int t] ∧ Q (.int (SqM.sharedI x s y t)) H
theorem sc_shared : FnScope ["first", "first_side", "second", "second_side"] ["first", "first_side", "second", "second_side"] (defScope (top 50)) := ⟨rfl, rfl, rfl, by decide +kernel, rfl, by decide +kernel, by decide +kernel⟩
theorem ok_shared {k : Nat} (F : FnAt K mg "shared" (top 50)) (n_min : mg "min" = none) (n_max : mg "max" = none) : CallOk P w K mg base (k + 1) "shared" ["first", "first_side", "second", "second_side"] sp_shared := by
  obtain ⟨f, fd, g, F⟩ := F
  refine ⟨f, fd, g, F.kp, F.binds fun _ _ _ _ _ _ us hl => match us, hl with | [_, _, _, _], _ => rfl, F.ok sc_shared (fun vs H Q E h => ?_) fun cdv A outer s H vs Q E hr h => ?_⟩
  · obtain ⟨x, s, y, t, rfl, _⟩ := h
    rfl
  · obtain ⟨x, s', y, t, rfl, q⟩ := h
    refine ⟨_, (pss_one (ps_ret (pe_op op_sub (pe_callB (call_min2 rfl) (by rfl) n_min (by decide +kernel) (pa_cons (pe_op op_add (pv 0) (pv 1)) (pa_cons (pe_op op_add (pv 2) (pv 3)) pa_nil))) (pe_callB (call_max2 rfl) (by rfl) n_max (by decide +kernel) (pa_cons (pv 0) (pa_cons (pv 2) pa_nil)))))), ?_⟩
    have e : SqM.sharedI x s' y t = (if y + t < x + s' then y + t else x + s') - (if y > x then y else x) := by
      unfold SqM.sharedI
      split <;> split <;> omega
    rw [e] at q
    exact ⟨_, rfl, _, rfl, _, _, rfl, rfl, _, rfl, _, rfl, _, _, rfl, rfl, _, _, rfl, _, rfl, _, rfl, _, _, rfl, _, _, rfl, rfl, q⟩

def sp_how_they_lie (K : PySem.W.Frag) : Sp := fun vs H Q _ => ∃ (a b : Addr) (c e : Sheet), vs = [.ref a, .ref b] ∧ SqL K H a (iv (SqM.nI c)) ∧ SqL K H b (iv (SqM.nI e)) ∧ SqM.Sh c ∧ SqM.Sh e ∧ retV H Q (.int (LsRefs.lie c e : Int))
theorem sc_how_they_lie : FnScope ["quarters", "others", "x", "y", "side", "other_x", "other_y", "other_side", "east", "north"] ["quarters", "others"] (defScope (top 51)) := ⟨rfl, rfl, rfl, by decide +kernel, rfl, by decide +kernel, by decide +kernel⟩
theorem ok_how_they_lie {k : Nat} (F : FnAt K mg "how_they_lie" (top 51)) (n_len : mg "len" = none) (n_min : mg "min" = none) (c_alike : CallOk P w K mg base (k + 1) "alike" ["quarters", "others"] (sp_alike K)) (c_ground : CallOk P w K mg base (k + 1) "ground" ["quarters"] (sp_ground K)) (c_shared : CallOk P w K mg base (k + 1) "shared" ["first", "first_side", "second", "second_side"] sp_shared) : CallOk P w K mg base (k + 2) "how_they_lie" ["quarters", "others"] (sp_how_they_lie K) := by
  obtain ⟨f, fd, g, F⟩ := F
  obtain ⟨f_alike, d_alike, g_alike, k_alike, b_alike, G_alike⟩ := c_alike.ex
  obtain ⟨f_ground, d_ground, g_ground, k_ground, b_ground, G_ground⟩ := c_ground.ex
  obtain ⟨f_shared, d_shared, g_shared, k_shared, b_shared, G_shared⟩ := c_shared.ex
  refine ⟨f, fd, g, F.kp, F.binds fun _ _ _ _ _ _ us hl => match us, hl with | [_, _], _ => rfl, F.ok sc_how_they_lie (fun vs H Q E h => ?_) fun cdv A outer s H vs Q E hr h => ?_⟩
  · obtain ⟨a, b, c, e, rfl, _⟩ := h
    rfl
  · obtain ⟨a, b, c, e, rfl, hA, hB, hc, he, q⟩ := h
    refine ⟨_, (pss_cons (ps_if (pt_cmpR op_eq (pe_callB call_len_seq (by rfl) n_len PySem.boot_len (pa_cons (pe_call G_alike hr (by rfl) g_alike k_alike b_alike .nil pass0 (pa_cons (pv 0) (pa_cons (pv 1) pa_nil))) pa_nil)) (pe_callB (call_min2 rfl) (by rfl) n_min (by decide +kernel) (pa_cons (pe_callB call_len_seq (by rfl) n_len PySem.boot_len (pa_cons (pv 0) pa_nil)) (pa_cons (pe_callB call_len_seq (by rfl) n_len PySem.boot_len (pa_cons (pv 1) pa_nil)) pa_nil))) (nomark _)) (pss_one (ps_ret pe_int)) pss_nil)
        (pss_cons (ps_asg (pe_call G_ground hr (by rfl) g_ground k_ground b_ground .nil pass0 (pa_cons (pv 0) pa_nil)) (pg_tup rfl (pgs_cons (pg_name (i := 2) sc_how_they_lie.nd rfl (.inl rfl)) (pgs_cons (pg_name (i := 3) sc_how_they_lie.nd rfl (.inl rfl)) (pgs_cons (pg_name (i := 4) sc_how_they_lie.nd rfl (.inl rfl)) pgs_nil)))))
        (pss_cons (ps_asg (pe_call G_ground hr (by rfl) g_ground k_ground b_ground .nil pass0 (pa_cons (pv 1) pa_nil)) (pg_tup rfl (pgs_cons (pg_name (i := 5) sc_how_they_lie.nd rfl (.inl rfl)) (pgs_cons (pg_name (i := 6) sc_how_they_lie.nd rfl (.inl rfl)) (pgs_cons (pg_name (i := 7) sc_how_they_lie.nd rfl (.inl rfl)) pgs_nil)))))
        (pss_cons (ps_set (i := 8) sc_how_they_lie.nd rfl (.inl rfl) (pe_call G_shared hr (by rfl) g_shared k_shared b_shared .nil pass0 (pa_cons (pv 2) (pa_cons (pv 4) (pa_cons (pv 5) (pa_cons (pv 7) pa_nil))))))
        (pss_cons (ps_set (i := 9) sc_how_they_lie.nd rfl (.inl rfl) (pe_call G_shared hr (by rfl) g_shared k_shared b_shared .nil pass0 (pa_cons (pv 3) (pa_cons (pv 4) (pa_cons (pv 6) (pa_cons (pv 7) pa_nil))))))
        (pss_cons (ps_if (PW.pt (pw_or (pt_cmpR op_lt (pv 8) pe_int (nomark _)) (pw_or1 (pt_cmpR op_lt (pv 9) pe_int (nomark _))))) (pss_one (ps_ret pe_int)) pss_nil)
        (pss_cons (ps_if (PW.pt (pw_and (pt_cmpR op_eq (pv 8) pe_int (nomark _)) (pw_and1 (pt_cmpR op_eq (pv 9) pe_int (nomark _))))) (pss_one (ps_ret pe_int)) pss_nil)
        (pss_one (ps_ret pe_int))))))))), ?_⟩
    rw [SqM.lie_eq hc he] at q
    refine ⟨.ref a, rfl, .ref b, rfl, a, b, c, e, rfl, hA, hB, fun p H1 np s1 hp => ?_⟩
    refine ⟨p, _, rfl, .inl (sl_of hp), .ref a, rfl, a, _, rfl, .inl (s1.seq hA), .ref b, rfl, b, _, rfl, .inl (s1.seq hB), _, _, rfl, rfl, _, rfl, ?_⟩
    have e0 : decide (V.int ((iv (SqM.nI (LsRefs.common c e))).length : Int) = V.int (if ((iv (SqM.nI e)).length : Int) < ((iv (SqM.nI c)).length : Int) then ((iv (SqM.nI e)).length : Int) else ((iv (SqM.nI c)).length : Int))) = decide ((LsRefs.common c e).length = min c.length e.length) := by
      refine decide_eq_decide.mpr ?_
      rw [V.int.injEq, iv_len, iv_len, iv_len, nI_len, nI_len, nI_len]
      split <;> omega
    show if decide (V.int ((iv (SqM.nI (LsRefs.common c e))).length : Int) = V.int (if ((iv (SqM.nI e)).length : Int) < ((iv (SqM.nI c)).length : Int) then ((iv (SqM.nI e)).length : Int) else ((iv (SqM.nI c)).length : Int))) = true then _ else _
    rw [e0]
    refine ite2 (fun c1 => ?_) (fun c1 => ?_)
    · rw [if_pos (of_decide_eq_true c1)] at q
      exact q H1 s1
    · rw [if_neg (fun z => c1 (decide_eq_true z))] at q
      refine ⟨.ref a, rfl, a, c, rfl, s1.seq hA, hc, fun T H2 nT s2 hT => ?_⟩
      refine ⟨T, _, rfl, st_of hT, rfl, _, _, rfl, _, _, rfl, _, _, rfl, rfl, ?_⟩
      refine ⟨.ref b, rfl, b, e, rfl, s2.seq (s1.seq hB), he, fun T2 H3 nT2 s3 hT2 => ?_⟩
      refine ⟨T2, _, rfl, st_of hT2, rfl, _, _, rfl, _, _, rfl, _, _, rfl, rfl, ?_⟩
      refine ⟨_, rfl, _, rfl, _, rfl, _, rfl, _, _, _, _, rfl, _, rfl, _, rfl, _, rfl, _, rfl, _, _, _, _, rfl, ?_⟩
      have sm := (s1.trans s2).trans s3
      dsimp only at q
      generalize SqM.sharedI ((LsRefs.boxOf c).x : Int) ((LsRefs.boxOf c).side : Int) ((LsRefs.boxOf e).x : Int) ((LsRefs.boxOf e).side : Int) = E at *
      generalize SqM.sharedI ((LsRefs.boxOf c).y : Int) ((LsRefs.boxOf c).side : Int) ((LsRefs.boxOf e).y : Int) ((LsRefs.boxOf e).side : Int) = N at *
      have q' : ∀ z : Int, z = (if E < 0 ∨ N < 0 then 0 else if E = 0 ∧ N = 0 then 1 else 2) → Q (.int z) H3 := fun z hz => by
        rw [hz]
        exact q H3 sm
      have rest : ¬ (E < 0 ∨ N < 0) → tSeq (tIfS (tAnd (tTest (tOp rEq (tVar 8) (tC (.int 0)))) (tTest (tOp rEq (tVar 9) (tC (.int 0))))) (tRet (tC (.int 1))) tNext) (tRet (tC (.int 2))) { nx := fun _ H' => Q .non H', rt := Q }
          [some (.ref a), some (.ref b), some (.int ((LsRefs.boxOf c).x : Int)), some (.int ((LsRefs.boxOf c).y : Int)), some (.int ((LsRefs.boxOf c).side : Int)), some (.int ((LsRefs.boxOf e).x : Int)), some (.int ((LsRefs.boxOf e).y : Int)), some (.int ((LsRefs.boxOf e).side : Int)), some (.int E), some (.int N)] H3 := by
        intro hn
        refine ⟨_, rfl, rfl, _, rfl, ite2 (fun c3 => ?_) (fun c3 => ?_)⟩
        · have h3 := V.int.inj (of_decide_eq_true c3)
          refine ⟨_, rfl, rfl, _, rfl, ite2 (fun c4 => ?_) (fun c4 => ?_)⟩
          · have h4 := V.int.inj (of_decide_eq_true c4)
            exact q' 1 (by rw [if_neg hn, if_pos ⟨h3, h4⟩])
          · exact q' 2 (by rw [if_neg hn, if_neg fun z => c4 (decide_eq_true (by rw [z.2]))])
        · refine iteF ?_
          exact q' 2 (by rw [if_neg hn, if_neg fun z => c3 (decide_eq_true (by rw [z.1]))])
      refine ⟨_, rfl, _, _, rfl, rfl, _, rfl, ite2 (fun c2 => ?_) (fun c2 => ?_)⟩
      · refine iteT ?_
        exact q' 0 (by rw [if_pos (.inl (of_decide_eq_true c2))])
      · refine ⟨_, rfl, _, _, rfl, rfl, _, rfl, ite2 (fun c3 => ?_) (fun c3 => ?_)⟩
        · exact q' 0 (by rw [if_pos (.inr (of_decide_eq_true c3))])
        · exact rest fun z => z.elim (fun z => c2 (decide_eq_true z)) fun z => c3 (decide_eq_true z)

end
end SqW

/-! SqW4: references, def by def. -/
namespace SqW
open PySem PySem.Spec PyProof.Rows L2
open LsText (Bytes)
theorem bI_append (a b : Bytes) : SqM.bI (a ++ b) = SqM.bI a ++ SqM.bI b := List.map_append
section
variable {P : Program} {w : World} {K : PySem.W.Frag} {mg : Str → Option Value} {base : Heap}
/-! ### reference_of -/
theorem side_k : ∀ k, k ≤ 5 → cSides[k]? = some ((LsRefs.sideOf k : Nat) : Int) := by decide +kernel
theorem side_bd : ∀ k, k ≤ 5 → 0 < LsRefs.sideOf k ∧ LsRefs.sideOf k ≤ 100000 ∧ LsRefs.sideOf k * 10 ^ k = 100000 := by decide +kernel
theorem pad_k {k x : Nat} (hk : k ≤ 5) (h0 : k ≠ 0) : LsRefs.padded k (x % 100000 / LsRefs.sideOf k) = SqM.digs k (x % 100000 / LsRefs.sideOf k) := by
  obtain ⟨j, rfl⟩ : ∃ j, k = j + 1 := ⟨k - 1, by omega⟩
  obtain ⟨b1, _, b3⟩ := side_bd (j + 1) hk
  refine SqM.padded_digs j _ ?_
  refine Nat.div_lt_of_lt_mul ?_
  rw [b3]
  exact Nat.mod_lt _ (by decide)
def sp_reference_of : Sp := fun vs H Q _ => ∃ x y k : Nat, vs = [.int (x : Int), .int (y : Int), .int (k : Int)] ∧ x < 1000000 ∧ y < 1000000 ∧ k ≤ 5 ∧ retL H Q (SqM.bI (LsRefs.refText k x y))
theorem sc_reference_of : FnScope ["x", "y", "k", "name", "east", "north"] ["x", "y", "k"] (defScope (top 65)) := ⟨rfl, rfl, rfl, by decide +kernel, rfl, by decide +kernel, by decide +kernel⟩
theorem ok_reference_of {k : Nat} (F : FnAt K mg "reference_of" (top 65)) (g_GREAT : IntAt mg "GREAT" 100000) (g_BLANK : IntAt mg "BLANK" 32) (g_SIDES : TupAt K mg "SIDES" (iv cSides)) (c_great_name : CallOk P w K mg base (k + 1) "great_name" ["column", "row"] sp_great_name) (c_digits_of : CallOk P w K mg base (k + 1) "digits_of" ["number", "many"] sp_digits_of) : CallOk P w K mg base (k + 2) "reference_of" ["x", "y", "k"] sp_reference_of := by
  obtain ⟨f, fd, g, F⟩ := F
  obtain ⟨t_GREAT, g_GREAT⟩ := g_GREAT
  obtain ⟨t_BLANK, g_BLANK⟩ := g_BLANK
  obtain ⟨a_SIDES, g_SIDES, s_SIDES, l_SIDES⟩ := g_SIDES
  obtain ⟨f_great_name, d_great_name, g_great_name, k_great_name, b_great_name, G_great_name⟩ := c_great_name.ex
  obtain ⟨f_digits_of, d_digits_of, g_digits_of, k_digits_of, b_digits_of, G_digits_of⟩ := c_digits_of.ex
  refine ⟨f, fd, g, F.kp, F.binds fun _ _ _ _ _ _ us hl => match us, hl with | [_, _, _], _ => rfl, F.ok sc_reference_of (fun vs H Q E h => ?_) fun cdv A outer s H vs Q E hr h => ?_⟩
  · obtain ⟨x, y, k, rfl, _⟩ := h
    rfl
  · obtain ⟨x, y, k', rfl, hx, hy, hk, q⟩ := h
    refine ⟨_, (pss_cons (ps_set (i := 3) sc_reference_of.nd rfl (.inl rfl) (pe_call G_great_name hr (by rfl) g_great_name k_great_name b_great_name .nil pass0 (pa_cons (pe_op op_fdiv (pv 0) (pe_glob (v := .int 100000) rfl g_GREAT ⟨_, rfl⟩)) (pa_cons (pe_op op_fdiv (pv 1) (pe_glob (v := .int 100000) rfl g_GREAT ⟨_, rfl⟩)) pa_nil))))
        (pss_cons (ps_if (pt_cmpR op_eq (pv 2) pe_int (nomark _)) (pss_one (ps_ret (pv 3))) pss_nil)
        (pss_cons (ps_set (i := 4) sc_reference_of.nd rfl (.inl rfl) (pe_call G_digits_of hr (by rfl) g_digits_of k_digits_of b_digits_of .nil pass0 (pa_cons (pe_op op_fdiv (pe_op op_mod (pv 0) (pe_glob (v := .int 100000) rfl g_GREAT ⟨_, rfl⟩)) (pe_ix ix_tup (pe_glob (v := .ref a_SIDES) rfl g_SIDES rfl) (pv 2) (fun _ _ => rfl))) (pa_cons (pv 2) pa_nil))))
        (pss_cons (ps_set (i := 5) sc_reference_of.nd rfl (.inl rfl) (pe_call G_digits_of hr (by rfl) g_digits_of k_digits_of b_digits_of .nil pass0 (pa_cons (pe_op op_fdiv (pe_op op_mod (pv 1) (pe_glob (v := .int 100000) rfl g_GREAT ⟨_, rfl⟩)) (pe_ix ix_tup (pe_glob (v := .ref a_SIDES) rfl g_SIDES rfl) (pv 2) (fun _ _ => rfl))) (pa_cons (pv 2) pa_nil))))
        (pss_one (ps_ret (pe_op op_cat (pe_op op_cat (pe_op op_cat (pe_op op_cat (pv 3) (pe_lst (pa_cons (pe_glob (v := .int 32) rfl g_BLANK ⟨_, rfl⟩) pa_nil))) (pv 4)) (pe_lst (pa_cons (pe_glob (v := .int 32) rfl g_BLANK ⟨_, rfl⟩) pa_nil))) (pv 5)))))))), ?_⟩
    obtain ⟨b1, b2, b3⟩ := side_bd k' hk
    refine ⟨_, rfl, _, _, rfl, rfl, ⟨by decide, by decide⟩, _, rfl, _, _, rfl, rfl, ⟨by decide, by decide⟩, x / 100000, y / 100000, rfl, by omega, by omega, fun n H1 nn s1 hn => ?_⟩
    refine ⟨_, rfl, rfl, _, rfl, ite2 (fun c => ?_) (fun c => ?_)⟩
    · have k0 : k' = 0 := by
        have := V.int.inj (of_decide_eq_true c)
        omega
      subst k0
      refine ⟨_, rfl, q n H1 nn s1 ?_⟩
      rw [hn]
      rfl
    · have k0 : k' ≠ 0 := fun z => c (by subst z; rfl)
      have sd : CDiv (((x : Int) % 100000)) ((LsRefs.sideOf k' : Nat) : Int) := ⟨by omega, by omega⟩
      have sd2 : CDiv (((y : Int) % 100000)) ((LsRefs.sideOf k' : Nat) : Int) := ⟨by omega, by omega⟩
      refine ⟨_, rfl, _, _, rfl, rfl, (by show (0 : Int) < 100000; decide), _, rfl, _, _, _, _, rfl, rfl, s_SIDES _, at_iv rfl (side_k k' hk), _, _, rfl, rfl, sd, _, rfl, x % 100000 / LsRefs.sideOf k', k', rfl, by omega, fun e H2 ne s2 he => ?_⟩
      refine ⟨_, rfl, _, _, rfl, rfl, (by show (0 : Int) < 100000; decide), _, rfl, _, _, _, _, rfl, rfl, s_SIDES _, at_iv rfl (side_k k' hk), _, _, rfl, rfl, sd2, _, rfl, y % 100000 / LsRefs.sideOf k', k', rfl, by omega, fun o H3 no s3 ho => ?_⟩
      have fin : ∀ (H6 : Hp) (p6 : Addr), Same H3 H6 → H6 p6 = none → Q (.ref p6) (upd H6 p6 (.lst (iv (SqM.bI (SqM.gName2 (x / 100000) (y / 100000))) ++ [.int 32] ++ iv (SqM.bI (SqM.digs k' (x % 100000 / LsRefs.sideOf k'))) ++ [.int 32] ++ iv (SqM.bI (SqM.digs k' (y % 100000 / LsRefs.sideOf k')))))) := by
        intro H6 p6 s5 np6
        have s6 := ((s1.trans s2).trans s3).trans s5
        refine q p6 _ (s6.free np6) (s6.trans (same_upd np6)) ?_
        rw [upd_same]
        unfold LsRefs.refText
        rw [if_neg k0, show LsRefs.GREAT = 100000 from rfl, pad_k hk k0, pad_k hk k0]
        have e2 : ([LsRefs.LETTERS.getD (x / 100000) 0, LsRefs.LETTERS.getD (y / 100000) 0] : Bytes) = SqM.gName2 (x / 100000) (y / 100000) := rfl
        rw [e2, bI_append, bI_cons, bI_append, bI_cons]
        simp only [iv_append, List.map_cons, List.append_assoc, List.cons_append, List.nil_append]
        rfl
      have hn3 := s3 _ _ (s2 _ _ hn)
      have he3 := s3 _ _ he
      have l1 : ∀ z, (iv (SqM.bI (SqM.digs k' z))).length = k' := fun z => by rw [iv_len, bI_len, SqM.digs_len]
      have l2 : (iv (SqM.bI (SqM.gName2 (x / 100000) (y / 100000)))).length = 2 := rfl
      refine ⟨_, rfl, by show 1 ≤ sizeLine; decide, fun p1 np1 => ⟨n, p1, _, _, rfl, rfl, same_upd np1 _ _ hn3, upd_same, by rw [l2]; exact big (by show 2 + 1 ≤ _; omega), fun p2 np2 => ?_⟩⟩
      have s4 : Same H3 (upd (upd H3 p1 (.lst [.int 32])) p2 (.lst (iv (SqM.bI (SqM.gName2 (x / 100000) (y / 100000))) ++ [.int 32]))) := (same_upd np1).trans (same_upd np2)
      refine ⟨_, rfl, p2, e, _, _, rfl, rfl, upd_same, s4 _ _ he3, by rw [l1]; exact big (by show 2 + 1 + k' ≤ _; omega), fun p3 np3 => ?_⟩
      refine ⟨by show 1 ≤ sizeLine; decide, fun p4 np4 => ⟨p3, p4, _, _, rfl, rfl, same_upd np4 _ _ upd_same, upd_same, by rw [List.length_append, l1]; exact big (by show 2 + 1 + k' + 1 ≤ _; omega), fun p5 np5 => ?_⟩⟩
      have s5 := (s4.trans (same_upd np3)).trans (same_upd (o := .lst [.int 32]) np4)
      refine ⟨_, rfl, p5, o, _, _, rfl, rfl, upd_same, (s5.trans (same_upd np5)) _ _ ho, by rw [List.length_append, List.length_append, l1, l1]; exact big (by show 2 + 1 + k' + 1 + k' ≤ _; omega), fun p6 np6 => fin _ p6 (s5.trans (same_upd np5)) np6⟩

/-! ### faulty, two_rows, parts_of -/
def sp_faulty : Sp := fun vs H Q _ => ∃ v : V, vs = [v] ∧ retT H Q [v, .int 0, .int 0, .int 0]
theorem sc_faulty : FnScope ["place"] ["place"] (defScope (top 66)) := ⟨rfl, rfl, rfl, by decide +kernel, rfl, by decide +kernel, by decide +kernel⟩
theorem ok_faulty {k : Nat} (F : FnAt K mg "faulty" (top 66))  : CallOk P w K mg base (k + 1) "faulty" ["place"] sp_faulty := by
  obtain ⟨f, fd, g, F⟩ := F
  refine ⟨f, fd, g, F.kp, F.binds fun _ _ _ _ _ _ us hl => match us, hl with | [_], _ => rfl, F.ok sc_faulty (fun vs H Q E h => ?_) fun cdv A outer s H vs Q E hr h => ?_⟩
  · obtain ⟨v, rfl, _⟩ := h
    rfl
  · obtain ⟨v, rfl, q⟩ := h
    refine ⟨_, (pss_one (ps_ret (pe_tup (pa_cons (pv 0) (pa_cons pe_int (pa_cons pe_int (pa_cons pe_int pa_nil))))))), ?_⟩
    exact ⟨_, rfl, by show 4 ≤ sizeLine; decide, fun p np => q.new np⟩

def partsV : Except Nat (Nat × Nat × Nat) → List V
  | .error p => [.int (p : Int), .int 0, .int 0, .int 0]
  | .ok r => [.non, .int (r.1 : Int), .int (r.2.1 : Int), .int (r.2.2 : Int)]
theorem retT.from_ {H H' : Hp} {Q : VK} {xs : List V} (h : retT H Q xs) (s : Same H H') : retT H' Q xs := fun p H2 np s2 e => h p H2 (s.free np) (s.trans s2) e
theorem retL.from_ {H H' : Hp} {Q : VK} {xs : List Int} (h : retL H Q xs) (s : Same H H') : retL H' Q xs := fun p H2 np s2 e => h p H2 (s.free np) (s.trans s2) e
theorem retV.from_ {H H' : Hp} {Q : VK} {v : V} (h : retV H Q v) (s : Same H H') : retV H' Q v := fun H2 s2 => h H2 (s.trans s2)
theorem blanks_le (b : Bytes) : LsRefs.blanks b ≤ b.length := SqM.run_le b
theorem digRun_le (b : Bytes) : SqM.digRun b ≤ b.length := SqM.run_le b
def sp_two_rows (K : PySem.W.Frag) : Sp := fun vs H Q _ => ∃ (a : Addr) (b : Bytes) (f e : Nat), vs = [.ref a, .int (f : Int), .int (e : Int)] ∧ SqL K H a (iv (SqM.bI b)) ∧ f ≤ e ∧ e < b.length ∧ b.length ≤ 31700 ∧ retT H Q (partsV (SqM.twoRows b f e))
theorem sc_two_rows : FnScope ["text", "first", "first_end", "many", "second", "second_end"] ["text", "first", "first_end"] (defScope (top 68)) := ⟨rfl, rfl, rfl, by decide +kernel, rfl, by decide +kernel, by decide +kernel⟩
theorem ok_two_rows {k : Nat} (F : FnAt K mg "two_rows" (top 68)) (g_MOST_DIGITS : IntAt mg "MOST_DIGITS" 5) (g_BLANK : IntAt mg "BLANK" 32) (n_len : mg "len" = none) (c_faulty : CallOk P w K mg base (k + 2) "faulty" ["place"] sp_faulty) (c_blanks_end : CallOk P w K mg base (k + 2) "blanks_end" ["text", "at"] (sp_blanks_end K)) (c_digits_end : CallOk P w K mg base (k + 2) "digits_end" ["text", "at", "most"] (sp_digits_end K)) : CallOk P w K mg base (k + 3) "two_rows" ["text", "first", "first_end"] (sp_two_rows K) := by
  obtain ⟨f, fd, g, F⟩ := F
  obtain ⟨t_MOST_DIGITS, g_MOST_DIGITS⟩ := g_MOST_DIGITS
  obtain ⟨t_BLANK, g_BLANK⟩ := g_BLANK
  obtain ⟨f_faulty, d_faulty, g_faulty, k_faulty, b_faulty, G_faulty⟩ := c_faulty.ex
  obtain ⟨f_blanks_end, d_blanks_end, g_blanks_end, k_blanks_end, b_blanks_end, G_blanks_end⟩ := c_blanks_end.ex
  obtain ⟨f_digits_end, d_digits_end, g_digits_end, k_digits_end, b_digits_end, G_digits_end⟩ := c_digits_end.ex
  refine ⟨f, fd, g, F.kp, F.binds fun _ _ _ _ _ _ us hl => match us, hl with | [_, _, _], _ => rfl, F.ok sc_two_rows (fun vs H Q E h => ?_) fun cdv A outer s H vs Q E hr h => ?_⟩
  · obtain ⟨a, b, f, e, rfl, _⟩ := h
    rfl
  · obtain ⟨a, b, f', e, rfl, hS, hfe, he, hb, q⟩ := h
    refine ⟨_, (pss_cons (ps_set (i := 3) sc_two_rows.nd rfl (.inl rfl) (pe_op op_sub (pv 2) (pv 1)))
        (pss_cons (ps_if (PW.pt (pw_or (pt_cmpR op_gt (pv 3) (pe_glob (v := .int 5) rfl g_MOST_DIGITS ⟨_, rfl⟩) (nomark _)) (pw_or1 (pt_cmpR op_ne (pe_ix ix_list (pv 0) (pv 2) (fun _ _ => rfl)) (pe_glob (v := .int 32) rfl g_BLANK ⟨_, rfl⟩) (nomark _))))) (pss_one (ps_ret (pe_call G_faulty hr (by rfl) g_faulty k_faulty b_faulty .nil pass0 (pa_cons (pv 2) pa_nil)))) pss_nil)
        (pss_cons (ps_set (i := 4) sc_two_rows.nd rfl (.inl rfl) (pe_call G_blanks_end hr (by rfl) g_blanks_end k_blanks_end b_blanks_end .nil pass0 (pa_cons (pv 0) (pa_cons (pv 2) pa_nil))))
        (pss_cons (ps_set (i := 5) sc_two_rows.nd rfl (.inl rfl) (pe_call G_digits_end hr (by rfl) g_digits_end k_digits_end b_digits_end .nil pass0 (pa_cons (pv 0) (pa_cons (pv 4) (pa_cons (pv 3) pa_nil)))))
        (pss_cons (ps_if (PW.pt (pw_or (pt_cmpR op_lt (pe_op op_sub (pv 5) (pv 4)) (pv 3) (nomark _)) (pw_or1 (pt_cmpR op_lt (pv 5) (pe_callB call_len_seq (by rfl) n_len PySem.boot_len (pa_cons (pv 0) pa_nil)) (nomark _))))) (pss_one (ps_ret (pe_call G_faulty hr (by rfl) g_faulty k_faulty b_faulty .nil pass0 (pa_cons (pv 5) pa_nil)))) pss_nil)
        (pss_one (ps_ret (pe_tup (pa_cons pe_non (pa_cons (pv 3) (pa_cons (pv 1) (pa_cons (pv 4) pa_nil)))))))))))), ?_⟩
    have hc : b[e]? = some b[e] := List.getElem?_eq_getElem he
    have hm : ((e : Int) - (f' : Int)) = ((e - f' : Nat) : Int) := by omega
    unfold SqM.twoRows at q
    dsimp only at q
    rw [hc] at q
    generalize hM : e - f' = m at *
    refine ⟨_, rfl, _, rfl, _, _, rfl, rfl, ?_⟩
    show tSeq _ _ _ [some (.ref a), some (.int (f' : Int)), some (.int (e : Int)), some (.int ((e : Int) - (f' : Int))), none, none] H
    rw [hm]
    have bad : (5 < m ∨ some b[e] ≠ some 32) → tRet (tCall sp_faulty [] E0 (tCons (tVar 2) tNil)) { nx := fun _ H' => Q .non H', rt := Q } [some (.ref a), some (.int (f' : Int)), some (.int (e : Int)), some (.int ((m : Nat) : Int)), none, none] H := fun hbad => by
      rw [if_pos hbad] at q
      exact ⟨_, rfl, _, rfl, q⟩
    have good : ¬ (5 < m ∨ some b[e] ≠ some 32) → _ := fun hn => if_neg hn ▸ q
    refine ⟨_, rfl, _, _, rfl, rfl, _, rfl, ite2 (fun c1 => ?_) (fun c1 => ?_)⟩
    · have := of_decide_eq_true c1
      exact iteT (bad (.inl (by omega)))
    · have h1 : ¬ (5 : Int) < (m : Int) := fun z => c1 (decide_eq_true z)
      refine ⟨.ref a, rfl, .int (e : Int), rfl, a, _, _, _, rfl, rfl, hS, at_bI (i := e) rfl hc, rfl, _, rfl, ite2 (fun c2 => ?_) (fun c2 => ?_)⟩
      · have ne : b[e] ≠ 32 := fun z => by
          rw [z] at c2
          simp at c2
        exact bad (.inr fun z => ne (Option.some.inj z))
      · have eq : b[e] = 32 := by
          have z : (b[e].toNat : Int) = ((32 : Nat) : Int) := by simpa using c2
          exact (toNat_ne (by decide)).mp z
        have hn : ¬ (5 < m ∨ some b[e] ≠ some 32) := by
          rw [eq]
          simp
          omega
        rw [if_neg hn] at q
        have bl := blanks_le (b.drop e)
        rw [List.length_drop] at bl
        refine ⟨.ref a, rfl, _, rfl, a, b, e, rfl, hS, by omega, hb, ?_⟩
        generalize hB : e + LsRefs.blanks (b.drop e) = s2 at *
        have dl := digRun_le (b.drop s2)
        rw [List.length_drop] at dl
        refine ⟨.ref a, rfl, _, rfl, _, rfl, a, b, s2, m, rfl, hS, by omega, hb, by omega, ?_⟩
        generalize hE : s2 + min m (SqM.digRun (b.drop s2)) = e2 at *
        have bad2 : (e2 - s2 < m ∨ e2 < b.length) → tRet (tCall sp_faulty [] E0 (tCons (tVar 5) tNil)) { nx := fun _ H' => Q .non H', rt := Q } [some (.ref a), some (.int (f' : Int)), some (.int (e : Int)), some (.int ((m : Nat) : Int)), some (.int ((s2 : Nat) : Int)), some (.int ((e2 : Nat) : Int))] H := fun hbad => by
          rw [if_pos hbad] at q
          exact ⟨_, rfl, _, rfl, q⟩
        refine ⟨_, rfl, _, rfl, _, _, rfl, rfl, _, rfl, _, _, rfl, rfl, _, rfl, ite2 (fun c3 => ?_) (fun c3 => ?_)⟩
        · have := of_decide_eq_true c3
          exact iteT (bad2 (.inl (by omega)))
        · have h3 : ¬ ((e2 : Int) - (s2 : Int) < (m : Int)) := fun z => c3 (decide_eq_true z)
          refine ⟨_, rfl, .ref a, rfl, a, _, rfl, .inl hS, _, _, rfl, rfl, _, rfl, ite2 (fun c4 => ?_) (fun c4 => ?_)⟩
          · have := of_decide_eq_true c4
            rw [iv_len, bI_len] at this
            exact bad2 (.inr (by omega))
          · have h4 : ¬ ((e2 : Int) < ((iv (SqM.bI b)).length : Int)) := fun z => c4 (decide_eq_true z)
            rw [iv_len, bI_len] at h4
            rw [if_neg (by omega)] at q
            exact ⟨_, rfl, _, rfl, _, rfl, by show 4 ≤ sizeLine; decide, fun p np => q.new np⟩

end
end SqW

/-! SqW5: a text as a reference, its square; def by def. -/
namespace SqW
open PySem PySem.Spec PyProof.Rows L2
open LsText (Bytes)
section
variable {P : Program} {w : World} {K : PySem.W.Frag} {mg : Str → Option Value} {base : Heap}
def sp_parts_of (K : PySem.W.Frag) : Sp := fun vs H Q _ => ∃ (a : Addr) (b : Bytes), vs = [.ref a] ∧ SqL K H a (iv (SqM.bI b)) ∧ b.length ≤ 31700 ∧ retT H Q (partsV (SqM.parts b))
theorem iv_pair {i : Nat} {v : V} (h : (iv [0, 1])[i]? = some v) : i < 2 ∧ v = .int (i : Int) := by
  match i, h with
  | 0, h => exact ⟨by omega, (Option.some.inj h).symm⟩
  | 1, h => exact ⟨by omega, (Option.some.inj h).symm⟩
  | i + 2, h => simp at h
theorem sc_parts_of : FnScope ["text", "place", "first", "first_end", "many"] ["text"] (defScope (top 67)) := ⟨rfl, rfl, rfl, by decide +kernel, rfl, by decide +kernel, by decide +kernel⟩
theorem ok_parts_of {k : Nat} (F : FnAt K mg "parts_of" (top 67)) (g_MOST_DIGITS : IntAt mg "MOST_DIGITS" 5) (n_len : mg "len" = none) (c_is_letter : CallOk P w K mg base (k + 3) "is_letter" ["byte"] sp_is_letter) (c_faulty : CallOk P w K mg base (k + 3) "faulty" ["place"] sp_faulty) (c_blanks_end : CallOk P w K mg base (k + 3) "blanks_end" ["text", "at"] (sp_blanks_end K)) (c_digits_end : CallOk P w K mg base (k + 3) "digits_end" ["text", "at", "most"] (sp_digits_end K)) (c_two_rows : CallOk P w K mg base (k + 3) "two_rows" ["text", "first", "first_end"] (sp_two_rows K)) : CallOk P w K mg base (k + 4) "parts_of" ["text"] (sp_parts_of K) := by
  obtain ⟨f, fd, g, F⟩ := F
  obtain ⟨t_MOST_DIGITS, g_MOST_DIGITS⟩ := g_MOST_DIGITS
  obtain ⟨f_is_letter, d_is_letter, g_is_letter, k_is_letter, b_is_letter, G_is_letter⟩ := c_is_letter.ex
  obtain ⟨f_faulty, d_faulty, g_faulty, k_faulty, b_faulty, G_faulty⟩ := c_faulty.ex
  obtain ⟨f_blanks_end, d_blanks_end, g_blanks_end, k_blanks_end, b_blanks_end, G_blanks_end⟩ := c_blanks_end.ex
  obtain ⟨f_digits_end, d_digits_end, g_digits_end, k_digits_end, b_digits_end, G_digits_end⟩ := c_digits_end.ex
  obtain ⟨f_two_rows, d_two_rows, g_two_rows, k_two_rows, b_two_rows, G_two_rows⟩ := c_two_rows.ex
  refine ⟨f, fd, g, F.kp, F.binds fun _ _ _ _ _ _ us hl => match us, hl with | [_], _ => rfl, F.ok sc_parts_of (fun vs H Q E h => ?_) fun cdv A outer s H vs Q E hr h => ?_⟩
  · obtain ⟨a, b, rfl, _⟩ := h
    rfl
  · obtain ⟨a, b, rfl, hS, hb, q⟩ := h
    refine ⟨_, (pss_cons (ps_for PassesOwn.never rfl (pi_tup (pe_tup (pa_cons pe_int (pa_cons pe_int pa_nil)))) (pg_name (i := 1) sc_parts_of.nd rfl (.inl rfl)) (pss_one (ps_if (PW.pt (pw_or (pt_cmpR op_eq (pv 1) (pe_callB call_len_seq (by rfl) n_len PySem.boot_len (pa_cons (pv 0) pa_nil)) (nomark _)) (pw_or1 (pt_not (pt_val (pe_call G_is_letter hr (by rfl) g_is_letter k_is_letter b_is_letter .nil pass0 (pa_cons (pe_ix ix_list (pv 0) (pv 1) (fun _ _ => rfl)) pa_nil))))))) (pss_one (ps_ret (pe_call G_faulty hr (by rfl) g_faulty k_faulty b_faulty .nil pass0 (pa_cons (pv 1) pa_nil)))) pss_nil)))
        (pss_cons (ps_if (pt_cmpR op_eq (pe_callB call_len_seq (by rfl) n_len PySem.boot_len (pa_cons (pv 0) pa_nil)) pe_int (nomark _)) (pss_one (ps_ret (pe_tup (pa_cons pe_non (pa_cons pe_int (pa_cons pe_int (pa_cons pe_int pa_nil))))))) pss_nil)
        (pss_cons (ps_set (i := 2) sc_parts_of.nd rfl (.inl rfl) (pe_call G_blanks_end hr (by rfl) g_blanks_end k_blanks_end b_blanks_end .nil pass0 (pa_cons (pv 0) (pa_cons pe_int pa_nil))))
        (pss_cons (ps_set (i := 3) sc_parts_of.nd rfl (.inl rfl) (pe_call G_digits_end hr (by rfl) g_digits_end k_digits_end b_digits_end .nil pass0 (pa_cons (pv 0) (pa_cons (pv 2) (pa_cons (pe_op op_mul pe_int (pe_glob (v := .int 5) rfl g_MOST_DIGITS ⟨_, rfl⟩)) pa_nil)))))
        (pss_cons (ps_set (i := 4) sc_parts_of.nd rfl (.inl rfl) (pe_op op_sub (pv 3) (pv 2)))
        (pss_cons (ps_if (pt_cmpR op_eq (pv 4) pe_int (nomark _)) (pss_one (ps_ret (pe_call G_faulty hr (by rfl) g_faulty k_faulty b_faulty .nil pass0 (pa_cons (pv 2) pa_nil)))) pss_nil)
        (pss_cons (ps_if (pt_cmpR op_lt (pv 3) (pe_callB call_len_seq (by rfl) n_len PySem.boot_len (pa_cons (pv 0) pa_nil)) (nomark _)) (pss_one (ps_ret (pe_call G_two_rows hr (by rfl) g_two_rows k_two_rows b_two_rows .nil pass0 (pa_cons (pv 0) (pa_cons (pv 2) (pa_cons (pv 3) pa_nil)))))) pss_nil)
        (pss_cons (ps_if (pt_cmpR op_eq (pe_op op_mod (pv 4) pe_int) pe_int (nomark _)) (pss_one (ps_ret (pe_call G_faulty hr (by rfl) g_faulty k_faulty b_faulty .nil pass0 (pa_cons (pv 3) pa_nil)))) pss_nil)
        (pss_one (ps_ret (pe_tup (pa_cons pe_non (pa_cons (pe_op op_fdiv (pv 4) pe_int) (pa_cons (pv 2) (pa_cons (pe_op op_add (pv 2) (pe_op op_fdiv (pv 4) pe_int)) pa_nil))))))))))))))), ?_⟩
    refine ⟨by show 2 ≤ sizeLine; decide, fun T nT => ?_⟩
    have s1 : Same H (upd H T (.tup [.int 0, .int 1])) := same_upd nT
    have hT : SqT K (upd H T (.tup [.int 0, .int 1])) T (iv [0, 1]) := st_of upd_same
    have hS1 := s1.seq hS
    replace q := q.from_ s1
    refine ⟨T, rfl, ⟨iv [0, 1], hT⟩, ?_⟩
    show ∃ W, _
    generalize upd H T (.tup [.int 0, .int 1]) = H1 at *
    clear s1
    refine for_it (walk_tup (K := K) (a := T) (xs := iv [0, 1]))
      (fun i σ H' => H' = H1 ∧ (∃ y, σ = [some (.ref a), y, none, none, none]) ∧ ∀ j, j < i → (b[j]?.bind LsRefs.letterNo) ≠ none) ?_ ?_ ?_ ?_
    · exact ⟨rfl, ⟨_, rfl⟩, fun j hj => by omega⟩
    · rintro i σ H' _ ⟨rfl, _⟩
      exact hT
    · rintro i x σ H0 H' _ ⟨rfl, ⟨y, rfl⟩, hall⟩ ⟨rfl, hx⟩
      obtain ⟨i2, rfl⟩ := iv_pair hx
      have bad : SqM.parts b = .error i → tRet (tCall sp_faulty [] E0 (tCons (tVar 1) tNil)) { nx := fun σ H => True, rt := Q } [some (.ref a), some (.int (i : Int)), none, none, none] H' := fun hbad => by
        rw [hbad] at q
        exact ⟨_, rfl, _, rfl, q⟩
      have early : (b.length = i ∨ (b[i]?.bind LsRefs.letterNo) = none) → SqM.parts b = .error i := fun hn => by
        unfold SqM.parts
        match i, i2, hall, hn with
        | 0, _, _, hn => rw [if_pos hn]
        | 1, _, hall, hn =>
          have h0 := hall 0 (by omega)
          rw [if_neg (fun z => z.elim (fun z => by rw [List.length_eq_zero_iff.mp z] at h0; exact h0 rfl) h0), if_pos hn]
      refine ⟨_, rfl, .ref a, rfl, a, _, rfl, .inl hS1, rfl, _, rfl, ite2 (fun c1 => ?_) (fun c1 => ?_)⟩
      · refine iteT (bad (early (.inl ?_)))
        have := V.int.inj (of_decide_eq_true c1)
        rw [iv_len, bI_len] at this
        omega
      · have h1 : ¬ i = b.length := fun z => c1 (decide_eq_true (by rw [iv_len, bI_len, z]))
        have hi : i < b.length := by
          match i, i2, hall, h1 with
          | 0, _, _, h1 => omega
          | 1, _, hall, h1 =>
            have h0 := hall 0 (by omega)
            have : 0 < b.length := by
              cases b with
              | nil => exact absurd rfl h0
              | cons c r => simp
            omega
        have hc : b[i]? = some b[i] := List.getElem?_eq_getElem hi
        refine ⟨.ref a, rfl, _, rfl, a, _, _, _, rfl, rfl, hS1, at_bI (i := i) rfl hc, b[i], rfl, _, rfl, ?_⟩
        show if (!(LsRefs.letterNo b[i]).isSome) = true then _ else _
        cases hl : LsRefs.letterNo b[i] with
        | none =>
          refine iteT (bad (early (.inr ?_)))
          rw [hc]
          exact hl
        | some z =>
          refine iteF ⟨rfl, ⟨_, rfl⟩, fun j hj => ?_⟩
          by_cases hji : j < i
          · exact hall j hji
          · have : j = i := by omega
            subst this
            rw [hc]
            show LsRefs.letterNo b[j] ≠ none
            rw [hl]
            exact fun z => by cases z
    · rintro σ H' ⟨rfl, ⟨y, rfl⟩, hall⟩
      have h0 := hall 0 (by show 0 < 2; omega)
      have h1 := hall 1 (by show 1 < 2; omega)
      have hlen : 2 ≤ b.length := by
        match b, h0, h1 with
        | [], h0, _ => exact absurd rfl h0
        | [c], _, h1 => exact absurd rfl h1
        | c :: d :: r, _, _ => simp
      unfold SqM.parts at q
      rw [if_neg (fun z => z.elim (by omega) h0), if_neg (fun z => z.elim (by omega) h1)] at q
      refine ⟨.ref a, rfl, a, _, rfl, .inl hS1, rfl, _, rfl, ite2 (fun c1 => ?_) (fun c1 => ?_)⟩
      · have e2 : b.length = 2 := by
          have := V.int.inj (of_decide_eq_true c1)
          rw [iv_len, bI_len] at this
          omega
        rw [if_pos e2] at q
        exact ⟨by show 4 ≤ sizeLine; decide, fun p np => q.new np⟩
      · have e2 : ¬ b.length = 2 := fun z => c1 (decide_eq_true (by rw [iv_len, bI_len, z]; rfl))
        rw [if_neg e2] at q
        dsimp only at q
        have bl := blanks_le (b.drop 2)
        rw [List.length_drop] at bl
        refine ⟨.ref a, rfl, a, b, 2, rfl, hS1, by omega, hb, ?_⟩
        generalize hB : 2 + LsRefs.blanks (b.drop 2) = f1 at *
        have dl := digRun_le (b.drop f1)
        rw [List.length_drop] at dl
        refine ⟨.ref a, rfl, _, rfl, _, _, rfl, rfl, .inl ⟨by decide, by decide⟩, a, b, f1, 10, rfl, hS1, by omega, hb, by omega, ?_⟩
        generalize hE : f1 + min 10 (SqM.digRun (b.drop f1)) = e1 at *
        have hm : ((e1 : Int) - (f1 : Int)) = ((e1 - f1 : Nat) : Int) := by omega
        refine ⟨_, rfl, _, rfl, _, _, rfl, rfl, ?_⟩
        show tSeq _ _ _ [some (.ref a), y, some (.int ((f1 : Nat) : Int)), some (.int ((e1 : Nat) : Int)), some (.int ((e1 : Int) - (f1 : Int)))] H'
        rw [hm]
        generalize hM : e1 - f1 = m at *
        refine ⟨_, rfl, rfl, _, rfl, ite2 (fun c2 => ?_) (fun c2 => ?_)⟩
        · have m0 : m = 0 := by
            have := V.int.inj (of_decide_eq_true c2)
            omega
          rw [if_pos m0] at q
          exact ⟨_, rfl, _, rfl, q⟩
        · have m0 : ¬ m = 0 := fun z => c2 (decide_eq_true (by rw [z]; rfl))
          rw [if_neg m0] at q
          refine ⟨_, rfl, .ref a, rfl, a, _, rfl, .inl hS1, _, _, rfl, rfl, _, rfl, ite2 (fun c3 => ?_) (fun c3 => ?_)⟩
          · have lt : e1 < b.length := by
              have := of_decide_eq_true c3
              rw [iv_len, bI_len] at this
              omega
            rw [if_pos lt] at q
            exact ⟨.ref a, rfl, _, rfl, _, rfl, a, b, f1, e1, rfl, hS1, by omega, lt, hb, q⟩
          · have lt : ¬ e1 < b.length := fun z => c3 (decide_eq_true (by rw [iv_len, bI_len]; omega))
            rw [if_neg lt] at q
            have em : ((m : Int) % 2) = ((m % 2 : Nat) : Int) := by omega
            refine ⟨_, rfl, _, _, rfl, rfl, (by show (0 : Int) < 2; decide), rfl, _, rfl, ite2 (fun c4 => ?_) (fun c4 => ?_)⟩
            · have od : m % 2 = 1 := by
                have := V.int.inj (of_decide_eq_true c4)
                omega
              rw [if_pos od] at q
              exact ⟨_, rfl, _, rfl, q⟩
            · have od : ¬ m % 2 = 1 := fun z => c4 (decide_eq_true (congrArg V.int (by omega)))
              rw [if_neg od] at q
              have e3 : ((m : Int) / 2) = ((m / 2 : Nat) : Int) := by omega
              refine ⟨_, rfl, _, _, rfl, rfl, ⟨by decide, by decide⟩, _, rfl, _, rfl, _, rfl, _, _, rfl, rfl, ⟨by decide, by decide⟩, _, _, rfl, rfl, by show 4 ≤ sizeLine; decide, fun p np => ?_⟩
              have r := q.new np
              unfold partsV at r
              simp only [Int.natCast_add, ← e3] at r
              exact r

/-! ### square_of -/
theorem run_all {p : UInt8 → Bool} : ∀ (t : Bytes) (j : Nat) (c : UInt8), j < (t.takeWhile p).length → t[j]? = some c → p c = true
  | [], j, _, h, _ => by simp at h
  | x :: t, j, c, h, hc => by
    rw [List.takeWhile_cons] at h
    split at h
    · rename_i hx
      match j, h, hc with
      | 0, _, hc =>
        rw [← Option.some.inj hc]
        exact hx
      | j + 1, h, hc => exact run_all t j c (by simpa using h) hc
    · simp at h
theorem digs_in {b : Bytes} {f : Nat} (i : Nat) (c : UInt8) (h : i < SqM.digRun (b.drop f)) (hc : b[f + i]? = some c) : LsText.isDigit c = true :=
  run_all (b.drop f) i c h (by rw [List.getElem?_drop]; exact hc)
/-- what is asked of the places that are told of a text that is a reference -/
def PartsOk (b : Bytes) (r : Nat × Nat × Nat) : Prop := r.1 ≤ 5 ∧ (∃ c i, b[0]? = some c ∧ LsRefs.letterNo c = some i) ∧ (∃ c i, b[1]? = some c ∧ LsRefs.letterNo c = some i) ∧
  (r.2.1 + r.1 ≤ b.length ∧ ∀ (i : Nat) (c : UInt8), i < r.1 → b[r.2.1 + i]? = some c → LsText.isDigit c = true) ∧ (r.2.2 + r.1 ≤ b.length ∧ ∀ (i : Nat) (c : UInt8), i < r.1 → b[r.2.2 + i]? = some c → LsText.isDigit c = true)
theorem bind_some {b : Bytes} {i : Nat} (h : ¬ (b[i]?.bind LsRefs.letterNo) = none) : ∃ c j, b[i]? = some c ∧ LsRefs.letterNo c = some j := by
  cases e : b[i]? with
  | none =>
    rw [e] at h
    exact absurd rfl h
  | some c =>
    rw [e] at h
    cases e2 : LsRefs.letterNo c with
    | none => exact absurd e2 h
    | some j => exact ⟨c, j, rfl, e2⟩
theorem twoRows_ok {b : Bytes} {f e : Nat} {r : Nat × Nat × Nat} (he : e = f + min 10 (SqM.digRun (b.drop f))) (hl : e ≤ b.length) (h : SqM.twoRows b f e = .ok r) :
    r.1 ≤ 5 ∧ (r.2.1 + r.1 ≤ b.length ∧ ∀ (i : Nat) (c : UInt8), i < r.1 → b[r.2.1 + i]? = some c → LsText.isDigit c = true) ∧ (r.2.2 + r.1 ≤ b.length ∧ ∀ (i : Nat) (c : UInt8), i < r.1 → b[r.2.2 + i]? = some c → LsText.isDigit c = true) := by
  unfold SqM.twoRows at h
  dsimp only at h
  split at h
  · cases h
  · rename_i h1
    split at h
    · cases h
    · rename_i h2
      have q := Except.ok.inj h
      subst q
      dsimp only
      have h5 : ¬ 5 < e - f := fun z => h1 (.inl z)
      generalize hs : e + LsRefs.blanks (b.drop e) = s2 at *
      have dl := digRun_le (b.drop s2)
      rw [List.length_drop] at dl
      have h3 : ¬ (s2 + min (e - f) (SqM.digRun (b.drop s2)) - s2 < e - f) := fun z => h2 (.inl z)
      have bl := blanks_le (b.drop e)
      rw [List.length_drop] at bl
      refine ⟨by omega, ⟨by omega, fun i c hi hc => digs_in i c (by omega) hc⟩, by omega, fun i c hi hc => digs_in i c (by omega) hc⟩
theorem parts_ok {b : Bytes} {r : Nat × Nat × Nat} (h : SqM.parts b = .ok r) : PartsOk b r := by
  unfold SqM.parts at h
  split at h
  · cases h
  · rename_i h0
    split at h
    · cases h
    · rename_i h1
      have l0 := bind_some fun z => h0 (.inr z)
      have l1 := bind_some fun z => h1 (.inr z)
      have n0 : ¬ b.length = 0 := fun z => h0 (.inl z)
      have n1 : ¬ b.length = 1 := fun z => h1 (.inl z)
      split at h
      · have q := Except.ok.inj h
        subst q
        exact ⟨by show 0 ≤ 5; omega, l0, l1, ⟨by show 2 + 0 ≤ _; omega, fun i c hi => by exact absurd hi (Nat.not_lt_zero _)⟩, by show 2 + 0 ≤ _; omega, fun i c hi => by exact absurd hi (Nat.not_lt_zero _)⟩
      · dsimp only at h
        have bl := blanks_le (b.drop 2)
        rw [List.length_drop] at bl
        generalize hf : 2 + LsRefs.blanks (b.drop 2) = f at *
        have dl := digRun_le (b.drop f)
        rw [List.length_drop] at dl
        split at h
        · cases h
        · split at h
          · obtain ⟨g1, g2, g3⟩ := twoRows_ok rfl (by omega) h
            exact ⟨g1, l0, l1, g2, g3⟩
          · split at h
            · cases h
            · have q := Except.ok.inj h
              subst q
              refine ⟨by dsimp only; omega, l0, l1, ⟨by dsimp only; omega, fun i c hi hc => digs_in (f := f) i c (by dsimp only at hi; omega) hc⟩, by dsimp only; omega, fun i c hi hc => ?_⟩
              dsimp only at hi hc
              rw [Nat.add_assoc] at hc
              exact digs_in _ c (by omega) hc
def squareV (b : Bytes) : List V := match LsRefs.readRef b with
  | .error p => [.int (p : Int), .int 0, .int 0, .int 0]
  | .ok q => .non :: boxV q
def sp_square_of (K : PySem.W.Frag) : Sp := fun vs H Q _ => ∃ (a : Addr) (b : Bytes), vs = [.ref a] ∧ SqL K H a (iv (SqM.bI b)) ∧ b.length ≤ 31700 ∧ retT H Q (squareV b)
theorem sc_square_of : FnScope ["text", "fault", "k", "first", "second", "side", "x", "y"] ["text"] (defScope (top 69)) := ⟨rfl, rfl, rfl, by decide +kernel, rfl, by decide +kernel, by decide +kernel⟩
theorem ok_square_of {k : Nat} (F : FnAt K mg "square_of" (top 69)) (g_GREAT : IntAt mg "GREAT" 100000) (g_SIDES : TupAt K mg "SIDES" (iv cSides)) (c_parts_of : CallOk P w K mg base (k + 4) "parts_of" ["text"] (sp_parts_of K)) (c_faulty : CallOk P w K mg base (k + 4) "faulty" ["place"] sp_faulty) (c_letter_number : CallOk P w K mg base (k + 4) "letter_number" ["byte"] sp_letter_number) (c_number_at : CallOk P w K mg base (k + 4) "number_at" ["text", "at", "many"] (sp_number_at K)) : CallOk P w K mg base (k + 5) "square_of" ["text"] (sp_square_of K) := by
  obtain ⟨f, fd, g, F⟩ := F
  obtain ⟨t_GREAT, g_GREAT⟩ := g_GREAT
  obtain ⟨a_SIDES, g_SIDES, s_SIDES, l_SIDES⟩ := g_SIDES
  obtain ⟨f_parts_of, d_parts_of, g_parts_of, k_parts_of, b_parts_of, G_parts_of⟩ := c_parts_of.ex
  obtain ⟨f_faulty, d_faulty, g_faulty, k_faulty, b_faulty, G_faulty⟩ := c_faulty.ex
  obtain ⟨f_letter_number, d_letter_number, g_letter_number, k_letter_number, b_letter_number, G_letter_number⟩ := c_letter_number.ex
  obtain ⟨f_number_at, d_number_at, g_number_at, k_number_at, b_number_at, G_number_at⟩ := c_number_at.ex
  refine ⟨f, fd, g, F.kp, F.binds fun _ _ _ _ _ _ us hl => match us, hl with | [_], _ => rfl, F.ok sc_square_of (fun vs H Q E h => ?_) fun cdv A outer s H vs Q E hr h => ?_⟩
  · obtain ⟨a, b, rfl, _⟩ := h
    rfl
  · obtain ⟨a, b, rfl, hS, hb, q⟩ := h
    refine ⟨_, (pss_cons (ps_asg (pe_call G_parts_of hr (by rfl) g_parts_of k_parts_of b_parts_of .nil pass0 (pa_cons (pv 0) pa_nil)) (pg_tup rfl (pgs_cons (pg_name (i := 1) sc_square_of.nd rfl (.inl rfl)) (pgs_cons (pg_name (i := 2) sc_square_of.nd rfl (.inl rfl)) (pgs_cons (pg_name (i := 3) sc_square_of.nd rfl (.inl rfl)) (pgs_cons (pg_name (i := 4) sc_square_of.nd rfl (.inl rfl)) pgs_nil))))))
        (pss_cons (ps_if (pt_cmpR op_notN (pv 1) pe_non (nomark _)) (pss_one (ps_ret (pe_call G_faulty hr (by rfl) g_faulty k_faulty b_faulty .nil pass0 (pa_cons (pv 1) pa_nil)))) pss_nil)
        (pss_cons (ps_set (i := 5) sc_square_of.nd rfl (.inl rfl) (pe_ix ix_tup (pe_glob (v := .ref a_SIDES) rfl g_SIDES rfl) (pv 2) (fun _ _ => rfl)))
        (pss_cons (ps_set (i := 6) sc_square_of.nd rfl (.inl rfl) (pe_op op_add (pe_op op_mul (pe_call G_letter_number hr (by rfl) g_letter_number k_letter_number b_letter_number .nil pass0 (pa_cons (pe_ix ix_list (pv 0) pe_int (fun _ _ => rfl)) pa_nil)) (pe_glob (v := .int 100000) rfl g_GREAT ⟨_, rfl⟩)) (pe_op op_mul (pe_call G_number_at hr (by rfl) g_number_at k_number_at b_number_at .nil pass0 (pa_cons (pv 0) (pa_cons (pv 3) (pa_cons (pv 2) pa_nil)))) (pv 5))))
        (pss_cons (ps_set (i := 7) sc_square_of.nd rfl (.inl rfl) (pe_op op_add (pe_op op_mul (pe_call G_letter_number hr (by rfl) g_letter_number k_letter_number b_letter_number .nil pass0 (pa_cons (pe_ix ix_list (pv 0) pe_int (fun _ _ => rfl)) pa_nil)) (pe_glob (v := .int 100000) rfl g_GREAT ⟨_, rfl⟩)) (pe_op op_mul (pe_call G_number_at hr (by rfl) g_number_at k_number_at b_number_at .nil pass0 (pa_cons (pv 0) (pa_cons (pv 4) (pa_cons (pv 2) pa_nil)))) (pv 5))))
        (pss_one (ps_ret (pe_tup (pa_cons pe_non (pa_cons (pv 6) (pa_cons (pv 7) (pa_cons (pv 5) pa_nil)))))))))))), ?_⟩
    unfold squareV at q
    rw [SqM.readRef_parts] at q
    refine ⟨.ref a, rfl, a, b, rfl, hS, hb, fun T H1 nT s1 hT => ?_⟩
    have hS1 := s1.seq hS
    replace q := q.from_ s1
    cases hp : SqM.parts b with
    | error e =>
      rw [hp] at hT q
      refine ⟨T, _, rfl, st_of hT, rfl, _, _, rfl, _, _, rfl, _, _, rfl, _, _, rfl, rfl, ?_⟩
      exact ⟨_, rfl, rfl, _, rfl, iteT ⟨_, rfl, _, rfl, q⟩⟩
    | ok r =>
      obtain ⟨k', f1, f2⟩ := r
      rw [hp] at hT q
      obtain ⟨hk, ⟨c0, i0, g0, n0⟩, ⟨c1, i1, g1, n1⟩, ⟨l1, d1⟩, l2, d2⟩ := parts_ok hp
      dsimp only at hk l1 d1 l2 d2
      obtain ⟨b1, b2, _⟩ := side_bd k' hk
      have sd : -(2 ^ 64) < ((LsRefs.sideOf k' : Nat) : Int) ∧ ((LsRefs.sideOf k' : Nat) : Int) < 2 ^ 64 := ⟨by omega, by omega⟩
      refine ⟨T, _, rfl, st_of hT, rfl, _, _, rfl, _, _, rfl, _, _, rfl, _, _, rfl, rfl, ?_⟩
      refine ⟨_, rfl, rfl, _, rfl, iteF ?_⟩
      refine ⟨_, rfl, _, _, _, _, rfl, rfl, s_SIDES _, at_iv rfl (side_k k' hk), ?_⟩
      refine ⟨.ref a, rfl, a, _, _, _, rfl, rfl, hS1, at_bI (i := 0) rfl g0, c0, i0, rfl, n0, _, _, rfl, rfl, .inr ⟨by decide, by decide⟩, .ref a, rfl, _, rfl, _, rfl, a, b, f1, k', rfl, hS1, l1, hb, d1, _, rfl, _, _, rfl, rfl, .inr sd, _, _, rfl, rfl, ?_⟩
      refine ⟨.ref a, rfl, a, _, _, _, rfl, rfl, hS1, at_bI (i := 1) rfl g1, c1, i1, rfl, n1, _, _, rfl, rfl, .inr ⟨by decide, by decide⟩, .ref a, rfl, _, rfl, _, rfl, a, b, f2, k', rfl, hS1, l2, hb, d2, _, rfl, _, _, rfl, rfl, .inr sd, _, _, rfl, rfl, ?_⟩
      refine ⟨_, rfl, _, rfl, _, rfl, by show 4 ≤ sizeLine; decide, fun p np => ?_⟩
      have r := q.new np
      have e0 : SqM.lett b 0 = i0 := by
        unfold SqM.lett
        rw [g0]
        show (LsRefs.letterNo c0).getD 0 = i0
        rw [n0]
        rfl
      have e1 : SqM.lett b 1 = i1 := by
        unfold SqM.lett
        rw [g1]
        show (LsRefs.letterNo c1).getD 0 = i1
        rw [n1]
        rfl
      have e : boxV (SqM.squareAt b (k', f1, f2)) = [.int ((i0 : Int) * 100000 + (SqM.numAt b f1 k' : Int) * ((LsRefs.sideOf k' : Nat) : Int)), .int ((i1 : Int) * 100000 + (SqM.numAt b f2 k' : Int) * ((LsRefs.sideOf k' : Nat) : Int)), .int ((LsRefs.sideOf k' : Nat) : Int)] := by
        unfold SqM.squareAt boxV
        dsimp only
        rw [e0, e1]
        simp only [Int.natCast_add, Int.natCast_mul]
        rfl
      replace r : Q (.ref p) (upd H1 p (.tup (.non :: boxV (SqM.squareAt b (k', f1, f2))))) := r
      rw [e] at r
      exact r

end
end SqW

/-! SqW6: ways, def by def. -/
namespace SqW
open PySem PySem.Spec PyProof.Rows L2
section
variable {P : Program} {w : World} {K : PySem.W.Frag} {mg : Str → Option Value} {base : Heap}
/-! ### lines_between, step_of, delay_of -/
def twoV (x y : Int) : List V := [.int x, .int y]
theorem two0 (x y : Int) : atI (twoV x y) 0 = some (.int x) := atI_nat (j := 0) rfl
theorem two1 (x y : Int) : atI (twoV x y) 1 = some (.int y) := atI_nat (j := 1) rfl
def sp_lines_between (K : PySem.W.Frag) : Sp := fun vs H Q _ => ∃ (a b : Addr) (x0 y0 x1 y1 s : Int), vs = [.ref a, .ref b, .int s] ∧ SqT K H a (twoV x0 y0) ∧ SqT K H b (twoV x1 y1) ∧ (0 < s ∧ s ≤ 100000) ∧
  Q (.int (SqM.absI (x1 / s - x0 / s) + SqM.absI (y1 / s - y0 / s))) H
theorem sc_lines_between : FnScope ["start", "end", "side", "east", "north"] ["start", "end", "side"] (defScope (top 71)) := ⟨rfl, rfl, rfl, by decide +kernel, rfl, by decide +kernel, by decide +kernel⟩
theorem ok_lines_between {k : Nat} (F : FnAt K mg "lines_between" (top 71)) (n_abs : mg "abs" = none) : CallOk P w K mg base (k + 1) "lines_between" ["start", "end", "side"] (sp_lines_between K) := by
  obtain ⟨f, fd, g, F⟩ := F
  refine ⟨f, fd, g, F.kp, F.binds fun _ _ _ _ _ _ us hl => match us, hl with | [_, _, _], _ => rfl, F.ok sc_lines_between (fun vs H Q E h => ?_) fun cdv A outer s H vs Q E hr h => ?_⟩
  · obtain ⟨a, b, x0, y0, x1, y1, s, rfl, _⟩ := h
    rfl
  · obtain ⟨a, b, x0, y0, x1, y1, s', rfl, hA, hB, hs, q⟩ := h
    refine ⟨_, (pss_cons (ps_set (i := 3) sc_lines_between.nd rfl (.inl rfl) (pe_callB call_abs (by rfl) n_abs (by decide +kernel) (pa_cons (pe_op op_sub (pe_op op_fdiv (pe_ix ix_tup (pv 1) pe_int (fun _ _ => rfl)) (pv 2)) (pe_op op_fdiv (pe_ix ix_tup (pv 0) pe_int (fun _ _ => rfl)) (pv 2))) pa_nil)))
        (pss_cons (ps_set (i := 4) sc_lines_between.nd rfl (.inl rfl) (pe_callB call_abs (by rfl) n_abs (by decide +kernel) (pa_cons (pe_op op_sub (pe_op op_fdiv (pe_ix ix_tup (pv 1) pe_int (fun _ _ => rfl)) (pv 2)) (pe_op op_fdiv (pe_ix ix_tup (pv 0) pe_int (fun _ _ => rfl)) (pv 2))) pa_nil)))
        (pss_one (ps_ret (pe_op op_add (pv 3) (pv 4)))))), ?_⟩
    have cd : ∀ z : Int, CDiv z s' := fun z => ⟨by omega, by omega⟩
    refine ⟨.ref b, rfl, b, _, 0, _, rfl, rfl, hB, two0 _ _, _, rfl, _, _, rfl, rfl, cd _, .ref a, rfl, a, _, 0, _, rfl, rfl, hA, two0 _ _, _, rfl, _, _, rfl, rfl, cd _, _, _, rfl, rfl, _, rfl, ?_⟩
    refine ⟨.ref b, rfl, b, _, 1, _, rfl, rfl, hB, two1 _ _, _, rfl, _, _, rfl, rfl, cd _, .ref a, rfl, a, _, 1, _, rfl, rfl, hA, two1 _ _, _, rfl, _, _, rfl, rfl, cd _, _, _, rfl, rfl, _, rfl, ?_⟩
    exact ⟨_, rfl, _, rfl, _, _, rfl, rfl, q⟩

def sp_step_of : Sp := fun vs H Q _ => ∃ x y : Int, vs = [.int x, .int y] ∧ Q (.int (SqM.stepI x y)) H
theorem sc_step_of : FnScope ["start", "end"] ["start", "end"] (defScope (top 73)) := ⟨rfl, rfl, rfl, by decide +kernel, rfl, by decide +kernel, by decide +kernel⟩
theorem ok_step_of {k : Nat} (F : FnAt K mg "step_of" (top 73))  : CallOk P w K mg base (k + 1) "step_of" ["start", "end"] sp_step_of := by
  obtain ⟨f, fd, g, F⟩ := F
  refine ⟨f, fd, g, F.kp, F.binds fun _ _ _ _ _ _ us hl => match us, hl with | [_, _], _ => rfl, F.ok sc_step_of (fun vs H Q E h => ?_) fun cdv A outer s H vs Q E hr h => ?_⟩
  · obtain ⟨x, y, rfl, _⟩ := h
    rfl
  · obtain ⟨x, y, rfl, q⟩ := h
    refine ⟨_, (pss_cons (ps_if (pt_cmpR op_le (pv 0) (pv 1) (nomark _)) (pss_one (ps_ret pe_int)) pss_nil)
        (pss_one (ps_ret (pe_un un_neg pe_int)))), ?_⟩
    unfold SqM.stepI at q
    refine ⟨_, rfl, _, rfl, _, _, rfl, rfl, _, rfl, ite2 (fun c => ?_) (fun c => ?_)⟩
    · rw [if_pos (of_decide_eq_true c)] at q
      exact q
    · rw [if_neg (fun z => c (decide_eq_true z))] at q
      exact ⟨1, rfl, q⟩

def sp_delay_of : Sp := fun vs H Q _ => ∃ x y : Int, vs = [.int x, .int y] ∧ Q (.int (SqM.delayI x y)) H
theorem sc_delay_of : FnScope ["start", "end"] ["start", "end"] (defScope (top 74)) := ⟨rfl, rfl, rfl, by decide +kernel, rfl, by decide +kernel, by decide +kernel⟩
theorem ok_delay_of {k : Nat} (F : FnAt K mg "delay_of" (top 74))  : CallOk P w K mg base (k + 1) "delay_of" ["start", "end"] sp_delay_of := by
  obtain ⟨f, fd, g, F⟩ := F
  refine ⟨f, fd, g, F.kp, F.binds fun _ _ _ _ _ _ us hl => match us, hl with | [_, _], _ => rfl, F.ok sc_delay_of (fun vs H Q E h => ?_) fun cdv A outer s H vs Q E hr h => ?_⟩
  · obtain ⟨x, y, rfl, _⟩ := h
    rfl
  · obtain ⟨x, y, rfl, q⟩ := h
    refine ⟨_, (pss_cons (ps_if (pt_cmpR op_le (pv 0) (pv 1) (nomark _)) (pss_one (ps_ret pe_int)) pss_nil)
        (pss_one (ps_ret pe_int))), ?_⟩
    unfold SqM.delayI at q
    refine ⟨_, rfl, _, rfl, _, _, rfl, rfl, _, rfl, ite2 (fun c => ?_) (fun c => ?_)⟩
    · rw [if_pos (of_decide_eq_true c)] at q
      exact q
    · rw [if_neg (fun z => c (decide_eq_true z))] at q
      exact q

/-! ### crossings -/
def sp_crossings (K : PySem.W.Frag) : Sp := fun vs H Q _ => ∃ x y s : Int, vs = [.int x, .int y, .int s] ∧ (0 ≤ x ∧ x < 1000000) ∧ (0 ≤ y ∧ y < 1000000) ∧ (0 < s ∧ s ≤ 100000) ∧ retL H Q (SqM.farL s x y)
theorem line_bd {x s : Int} (hx : 0 ≤ x ∧ x < 1000000) (hs : 0 < s ∧ s ≤ 100000) : 0 ≤ x / s ∧ x / s < 1000000 := by
  have h1 := Int.ediv_nonneg hx.1 (Int.le_of_lt hs.1)
  have h2 := Int.ediv_le_self s hx.1
  omega
theorem sc_crossings : FnScope ["start", "end", "side", "line"] ["start", "end", "side"] (defScope (top 72)) := ⟨rfl, rfl, rfl, by decide +kernel, rfl, by decide +kernel, by decide +kernel⟩
theorem ok_crossings {k : Nat} (F : FnAt K mg "crossings" (top 72)) (n_range : mg "range" = none) : CallOk P w K mg base (k + 1) "crossings" ["start", "end", "side"] (sp_crossings K) := by
  obtain ⟨f, fd, g, F⟩ := F
  refine ⟨f, fd, g, F.kp, F.binds fun _ _ _ _ _ _ us hl => match us, hl with | [_, _, _], _ => rfl, F.ok sc_crossings (fun vs H Q E h => ?_) fun cdv A outer s H vs Q E hr h => ?_⟩
  · obtain ⟨x, y, s, rfl, _⟩ := h
    rfl
  · obtain ⟨x, y, s', rfl, hx, hy, hs, q⟩ := h
    refine ⟨_, (pss_cons (ps_if (pt_cmpR op_le (pv 0) (pv 1) (nomark _)) (pss_one (ps_ret (pe_lc (own := [("line", 3)]) (g := gName 3) (tt := tYes) (by rfl) sc_crossings.nd (pi_range2 (by rfl) n_range (pa_cons (pe_op op_add (pe_op op_fdiv (pv 0) (pv 2)) pe_int) (pa_cons (pe_op op_add (pe_op op_fdiv (pv 1) (pv 2)) pe_int) pa_nil))) (blkOk_by (own := [("line", 3)]) (N := ["start", "end", "side", "line"]) (sc := defScope (top 72)) (by decide +kernel)) (fun _ _ _ _ _ => (pg_name (i := 3) sc_crossings.nd rfl (.inl rfl))) (fun _ _ _ _ _ => pts_nil) (fun _ _ _ _ _ => (pe_op op_sub (pe_op op_mul (pv 3) (pv 2)) (pv 0)))))) pss_nil)
        (pss_one (ps_ret (pe_lc (own := [("line", 3)]) (g := gName 3) (tt := tYes) (by rfl) sc_crossings.nd (pi_range3 (by rfl) n_range (pa_cons (pe_op op_fdiv (pv 0) (pv 2)) (pa_cons (pe_op op_fdiv (pv 1) (pv 2)) (pa_cons (pe_un un_neg pe_int) pa_nil)))) (blkOk_by (own := [("line", 3)]) (N := ["start", "end", "side", "line"]) (sc := defScope (top 72)) (by decide +kernel)) (fun _ _ _ _ _ => (pg_name (i := 3) sc_crossings.nd rfl (.inl rfl))) (fun _ _ _ _ _ => pts_nil) (fun _ _ _ _ _ => (pe_op op_sub (pv 0) (pe_op op_mul (pv 3) (pv 2)))))))), ?_⟩
    have cd : ∀ z : Int, CDiv z s' := fun z => ⟨by omega, by omega⟩
    have lx := line_bd hx hs
    have ly := line_bd hy hs
    have cm : ∀ z : Int, CMul z s' := fun z => .inr ⟨by omega, by omega⟩
    unfold SqM.farL at q
    refine ⟨_, rfl, _, rfl, _, _, rfl, rfl, _, rfl, ite2 (fun c => ?_) (fun c => ?_)⟩
    · rw [if_pos (of_decide_eq_true c)] at q
      have en : (y / s' + 1 - (x / s' + 1)).toNat = (y / s' - x / s').toNat := by omega
      refine ⟨_, rfl, _, rfl, _, _, rfl, rfl, cd _, _, _, rfl, rfl, _, rfl, _, rfl, _, _, rfl, rfl, cd _, _, _, rfl, rfl, _, _, rfl, by omega, fun D nD => ?_⟩
      refine lc_it walk_range (fun i H' => Same H H' ∧ H' D = some (.lst (iv ((List.range i).map fun (i : Nat) => (x / s' + 1 + (i : Int)) * s' - x)))) ?_ (fun _ _ _ _ => trivial) ?_ ?_
      · exact ⟨same_upd nD, upd_same⟩
      · rintro i v H' H2 hi ⟨sm, hD⟩ ⟨rfl, rfl⟩
        refine ⟨rfl, _, rfl, _, rfl, _, _, rfl, rfl, cm _, _, rfl, _, _, rfl, rfl, _, hD, ?_, same_mut sm nD, ?_⟩
        · rw [iv_len, List.length_map, List.length_range]
          exact big' (by omega)
        · rw [upd_same, range_map_succ, iv_append]
          rfl
      · rintro H' ⟨sm, hD⟩
        rw [en] at hD
        exact q D H' nD sm hD
    · rw [if_neg (fun z => c (decide_eq_true z))] at q
      refine ⟨_, rfl, _, rfl, _, _, rfl, rfl, cd _, _, rfl, _, rfl, _, _, rfl, rfl, cd _, 1, rfl, _, _, -1, _, rfl, RgC.neg (by omega) (by omega) (by omega) (by omega), fun D nD => ?_⟩
      refine lc_it walk_rangeC (fun i H' => Same H H' ∧ H' D = some (.lst (iv ((List.range i).map fun (i : Nat) => x - (x / s' + (i : Int) * (-1)) * s')))) ?_ (fun _ _ _ _ => trivial) ?_ ?_
      · exact ⟨same_upd nD, upd_same⟩
      · rintro i v H' H2 hi ⟨sm, hD⟩ ⟨rfl, rfl⟩
        refine ⟨rfl, _, rfl, _, rfl, _, rfl, _, _, rfl, rfl, cm _, _, _, rfl, rfl, _, hD, ?_, same_mut sm nD, ?_⟩
        · rw [iv_len, List.length_map, List.length_range]
          exact big' (by omega)
        · rw [upd_same, range_map_succ, iv_append]
          rfl
      · rintro H' ⟨sm, hD⟩
        exact q D H' nD sm hD

/-! ### lists of tuples -/
/-- at l stands a list of tuples of whole numbers -/
def TupsAt (H : Hp) (l : Addr) (ls : List (List Int)) : Prop := ∃ bs : List (Addr × List Int), H l = some (.lst (bs.map fun b => V.ref b.1)) ∧ bs.map (·.2) = ls ∧ ∀ b ∈ bs, H b.1 = some (.tup (iv b.2))
def retU (H : Hp) (Q : VK) (ls : List (List Int)) : Prop := ∀ p H', H p = none → Same H H' → TupsAt H' p ls → Q (.ref p) H'
theorem TupsAt.mono {H H' : Hp} {l : Addr} {ls : List (List Int)} (e : Same H H') (h : TupsAt H l ls) : TupsAt H' l ls := by
  obtain ⟨bs, h1, h2, h3⟩ := h
  exact ⟨bs, e _ _ h1, h2, fun b hb => e _ _ (h3 b hb)⟩
theorem TupsAt.nil {H : Hp} {l : Addr} (h : H l = some (.lst [])) : TupsAt H l [] := ⟨[], h, rfl, fun b hb => by cases hb⟩
theorem tups_append {H : Hp} {o p : Addr} {ls : List (List Int)} {row : List Int} (h : TupsAt H o ls) (hp : H p = some (.tup (iv row))) :
    ∃ xs, H o = some (.lst xs) ∧ xs.length = ls.length ∧ TupsAt (upd H o (.lst (xs ++ [.ref p]))) o (ls ++ [row]) := by
  obtain ⟨bs, h1, h2, h3⟩ := h
  refine ⟨_, h1, by rw [← h2, List.length_map, List.length_map], bs ++ [(p, row)], by rw [upd_same, List.map_append]; rfl, by rw [List.map_append, h2]; rfl, fun b hb => ?_⟩
  have hb' : H b.1 = some (.tup (iv b.2)) := by
    rcases List.mem_append.mp hb with hb | hb
    · exact h3 b hb
    · have e : b = (p, row) := by simpa using hb
      subst e
      exact hp
  rw [upd_ne (ne_of hb' h1 (by intro z; cases z))]
  exact hb'
/-! ### changes -/
theorem rows_sorted (s x0 y0 x1 y1 : Int) : SqM.srt ((SqM.chsL s x0 y0 x1 y1).map SqM.Ch.row) = (SqM.chsS s x0 y0 x1 y1).map SqM.Ch.row :=
  (List.map_mergeSort (f := SqM.Ch.row) (r := fun p q => decide (SqM.Ch.row p ≤ SqM.Ch.row q)) (s := fun p q => decide (p ≤ q)) (l := SqM.chsL s x0 y0 x1 y1) fun _ _ _ _ => rfl).symm
def sp_changes (K : PySem.W.Frag) : Sp := fun vs H Q _ => ∃ (a b : Addr) (x0 y0 x1 y1 s : Int), vs = [.ref a, .ref b, .int s] ∧ SqT K H a (twoV x0 y0) ∧ SqT K H b (twoV x1 y1) ∧ (0 < s ∧ s ≤ 100000) ∧
  (0 ≤ x0 ∧ x0 < 1000000) ∧ (0 ≤ y0 ∧ y0 < 1000000) ∧ (0 ≤ x1 ∧ x1 < 1000000) ∧ (0 ≤ y1 ∧ y1 < 1000000) ∧ retU H Q ((SqM.chsS s x0 y0 x1 y1).map SqM.Ch.row)
theorem farL_len {s x y : Int} (hx : 0 ≤ x ∧ x < 1000000) (hy : 0 ≤ y ∧ y < 1000000) (hs : 0 < s ∧ s ≤ 100000) : (SqM.farL s x y).length ≤ 1000000 := by
  have lx := line_bd hx hs
  have ly := line_bd hy hs
  unfold SqM.farL
  split
  · rw [List.length_map, List.length_range]
    omega
  · rw [List.length_map, List.length_range]
    omega
theorem ext_bd {x y : Int} (hx : 0 ≤ x ∧ x < 1000000) (hy : 0 ≤ y ∧ y < 1000000) : -(2 ^ 64) < SqM.extI x y ∧ SqM.extI x y < 2 ^ 64 := by
  unfold SqM.extI SqM.max1 SqM.absI
  split <;> split <;> omega
theorem sc_changes : FnScope ["start", "end", "side", "width", "height", "found", "far"] ["start", "end", "side"] (defScope (top 75)) := ⟨rfl, rfl, rfl, by decide +kernel, rfl, by decide +kernel, by decide +kernel⟩
theorem ok_changes {k : Nat} (F : FnAt K mg "changes" (top 75)) (n_max : mg "max" = none) (n_abs : mg "abs" = none) (n_sorted : mg "sorted" = none) (c_crossings : CallOk P w K mg base (k + 1) "crossings" ["start", "end", "side"] (sp_crossings K)) (c_delay_of : CallOk P w K mg base (k + 1) "delay_of" ["start", "end"] sp_delay_of) (c_step_of : CallOk P w K mg base (k + 1) "step_of" ["start", "end"] sp_step_of) : CallOk P w K mg base (k + 2) "changes" ["start", "end", "side"] (sp_changes K) := by
  obtain ⟨f, fd, g, F⟩ := F
  obtain ⟨f_crossings, d_crossings, g_crossings, k_crossings, b_crossings, G_crossings⟩ := c_crossings.ex
  obtain ⟨f_delay_of, d_delay_of, g_delay_of, k_delay_of, b_delay_of, G_delay_of⟩ := c_delay_of.ex
  obtain ⟨f_step_of, d_step_of, g_step_of, k_step_of, b_step_of, G_step_of⟩ := c_step_of.ex
  refine ⟨f, fd, g, F.kp, F.binds fun _ _ _ _ _ _ us hl => match us, hl with | [_, _, _], _ => rfl, F.ok sc_changes (fun vs H Q E h => ?_) fun cdv A outer s H vs Q E hr h => ?_⟩
  · obtain ⟨a, b, x0, y0, x1, y1, s, rfl, _⟩ := h
    rfl
  · obtain ⟨a, b, x0, y0, x1, y1, s', rfl, hA, hB, hs, hx0, hy0, hx1, hy1, q⟩ := h
    refine ⟨_, (pss_cons (ps_set (i := 3) sc_changes.nd rfl (.inl rfl) (pe_callB (call_max2 rfl) (by rfl) n_max (by decide +kernel) (pa_cons (pe_callB call_abs (by rfl) n_abs (by decide +kernel) (pa_cons (pe_op op_sub (pe_ix ix_tup (pv 1) pe_int (fun _ _ => rfl)) (pe_ix ix_tup (pv 0) pe_int (fun _ _ => rfl))) pa_nil)) (pa_cons pe_int pa_nil))))
        (pss_cons (ps_set (i := 4) sc_changes.nd rfl (.inl rfl) (pe_callB (call_max2 rfl) (by rfl) n_max (by decide +kernel) (pa_cons (pe_callB call_abs (by rfl) n_abs (by decide +kernel) (pa_cons (pe_op op_sub (pe_ix ix_tup (pv 1) pe_int (fun _ _ => rfl)) (pe_ix ix_tup (pv 0) pe_int (fun _ _ => rfl))) pa_nil)) (pa_cons pe_int pa_nil))))
        (pss_cons (ps_set (i := 5) sc_changes.nd rfl (.inl rfl) (pe_lst pa_nil))
        (pss_cons (ps_for PassesOwn.never rfl (pi_list (pe_call G_crossings hr (by rfl) g_crossings k_crossings b_crossings .nil pass0 (pa_cons (pe_ix ix_tup (pv 0) pe_int (fun _ _ => rfl)) (pa_cons (pe_ix ix_tup (pv 1) pe_int (fun _ _ => rfl)) (pa_cons (pv 2) pa_nil))))) (pg_name (i := 6) sc_changes.nd rfl (.inl rfl)) (pss_one (ps_expr (pe_bm PySem.F.plainAttrs_list PySem.F.slot_list_append PySem.F.type_list_append mt_append (pv 5) (pa_cons (pe_tup (pa_cons (pe_op op_mul (pv 6) (pv 4)) (pa_cons (pe_call G_delay_of hr (by rfl) g_delay_of k_delay_of b_delay_of .nil pass0 (pa_cons (pe_ix ix_tup (pv 0) pe_int (fun _ _ => rfl)) (pa_cons (pe_ix ix_tup (pv 1) pe_int (fun _ _ => rfl)) pa_nil))) (pa_cons (pe_call G_step_of hr (by rfl) g_step_of k_step_of b_step_of .nil pass0 (pa_cons (pe_ix ix_tup (pv 0) pe_int (fun _ _ => rfl)) (pa_cons (pe_ix ix_tup (pv 1) pe_int (fun _ _ => rfl)) pa_nil))) (pa_cons pe_int pa_nil))))) pa_nil)))))
        (pss_cons (ps_for PassesOwn.never rfl (pi_list (pe_call G_crossings hr (by rfl) g_crossings k_crossings b_crossings .nil pass0 (pa_cons (pe_ix ix_tup (pv 0) pe_int (fun _ _ => rfl)) (pa_cons (pe_ix ix_tup (pv 1) pe_int (fun _ _ => rfl)) (pa_cons (pv 2) pa_nil))))) (pg_name (i := 6) sc_changes.nd rfl (.inl rfl)) (pss_one (ps_expr (pe_bm PySem.F.plainAttrs_list PySem.F.slot_list_append PySem.F.type_list_append mt_append (pv 5) (pa_cons (pe_tup (pa_cons (pe_op op_mul (pv 6) (pv 3)) (pa_cons (pe_call G_delay_of hr (by rfl) g_delay_of k_delay_of b_delay_of .nil pass0 (pa_cons (pe_ix ix_tup (pv 0) pe_int (fun _ _ => rfl)) (pa_cons (pe_ix ix_tup (pv 1) pe_int (fun _ _ => rfl)) pa_nil))) (pa_cons pe_int (pa_cons (pe_call G_step_of hr (by rfl) g_step_of k_step_of b_step_of .nil pass0 (pa_cons (pe_ix ix_tup (pv 0) pe_int (fun _ _ => rfl)) (pa_cons (pe_ix ix_tup (pv 1) pe_int (fun _ _ => rfl)) pa_nil))) pa_nil))))) pa_nil)))))
        (pss_one (ps_ret (pe_callB (cr_sortU hr) (by rfl) n_sorted (by decide +kernel) (pa_cons (pv 5) pa_nil))))))))), ?_⟩
    have lx := farL_len hx0 hx1 hs
    have ly := farL_len hy0 hy1 hs
    have cx := ext_bd hx0 hx1
    have cy := ext_bd hy0 hy1
    -- width, height
    refine ⟨.ref b, rfl, b, _, 0, _, rfl, rfl, hB, two0 _ _, .ref a, rfl, a, _, 0, _, rfl, rfl, hA, two0 _ _, _, _, rfl, rfl, _, rfl, _, _, rfl, ?_⟩
    refine ⟨.ref b, rfl, b, _, 1, _, rfl, rfl, hB, two1 _ _, .ref a, rfl, a, _, 1, _, rfl, rfl, hA, two1 _ _, _, _, rfl, rfl, _, rfl, _, _, rfl, ?_⟩
    show tSeq _ _ _ [some (.ref a), some (.ref b), some (.int s'), some (.int (SqM.extI x0 x1)), some (.int (SqM.extI y0 y1)), none, none] H
    refine ⟨Nat.zero_le _, fun o no => ?_⟩
    have s1 : Same H (upd H o (.lst [])) := same_upd no
    -- east
    refine ⟨.ref a, rfl, a, _, 0, _, rfl, rfl, sameT s1 hA, two0 _ _, .ref b, rfl, b, _, 0, _, rfl, rfl, sameT s1 hB, two0 _ _, _, rfl, x0, x1, s', rfl, hx0, hx1, hs, fun p1 H1 np1 s2 hp1 => ?_⟩
    refine ⟨p1, rfl, ⟨_, sl_of hp1⟩, for_it (walk_list (K := K) (a := p1) (xs := iv (SqM.farL s' x0 x1)))
      (fun i σ H' => Same H H' ∧ H' p1 = some (.lst (iv (SqM.farL s' x0 x1))) ∧ (p1 ≠ o ∧ TupsAt H' o (((SqM.farL s' x0 x1).take i).map fun f => [f * SqM.extI y0 y1, SqM.delayI x0 x1, SqM.stepI x0 x1, 0])) ∧ ∃ y6, σ = [some (.ref a), some (.ref b), some (.int s'), some (.int (SqM.extI x0 x1)), some (.int (SqM.extI y0 y1)), some (.ref o), y6]) ?_ ?_ ?_ ?_⟩
    · exact ⟨s1.trans s2, hp1, ⟨(ne_of_none upd_same np1).symm, TupsAt.nil (s2 _ _ upd_same)⟩, _, rfl⟩
    · rintro i σ H' _ ⟨_, hp, _⟩
      exact sl_of hp
    · rintro i x σ H0 H' hi ⟨sm, hp, ⟨po, hR⟩, y6, rfl⟩ ⟨rfl, hx⟩
      obtain ⟨f1, hf, rfl⟩ := iv_get hx
      have hRk := hR
      obtain ⟨bs, hbs, _, _⟩ := hRk
      refine ⟨.ref o, rfl, .inl ⟨rfl, _, sl_of hbs⟩, _, rfl, _, rfl, _, _, rfl, rfl, .inr cy, .ref a, rfl, a, _, 0, _, rfl, rfl, sameT sm hA, two0 _ _, .ref b, rfl, b, _, 0, _, rfl, rfl, sameT sm hB, two0 _ _, x0, x1, rfl, .ref a, rfl, a, _, 0, _, rfl, rfl, sameT sm hA, two0 _ _, .ref b, rfl, b, _, 0, _, rfl, rfl, sameT sm hB, two0 _ _, x0, x1, rfl, by show 4 ≤ sizeLine; decide, fun T nT => ?_⟩
      have sT : Same H' (upd H' T (.tup (iv [f1 * SqM.extI y0 y1, SqM.delayI x0 x1, SqM.stepI x0 x1, 0]))) := same_upd nT
      obtain ⟨xs, hxs, hl, hR2⟩ := tups_append (hR.mono sT) (upd_same (o := .tup (iv [f1 * SqM.extI y0 y1, SqM.delayI x0 x1, SqM.stepI x0 x1, 0])))
      refine ⟨o, _, _, rfl, rfl, hxs, ?_, same_mut (sm.trans sT) no, ?_, ⟨po, ?_⟩, _, rfl⟩
      · rw [hl, List.length_map, List.length_take]
        exact big' (by omega)
      · exact (upd_ne po).trans (sT _ _ hp)
      · rw [take_snoc hf, List.map_append]
        exact hR2
    · rintro σ H' ⟨sm, _, ⟨_, hR⟩, y6, rfl⟩
      rw [iv_len, List.take_length] at hR
      -- north
      refine ⟨.ref a, rfl, a, _, 1, _, rfl, rfl, sameT sm hA, two1 _ _, .ref b, rfl, b, _, 1, _, rfl, rfl, sameT sm hB, two1 _ _, _, rfl, y0, y1, s', rfl, hy0, hy1, hs, fun p2 H2 np2 s3 hp2 => ?_⟩
      have hRk := hR
      obtain ⟨bs0, hbs0, _, _⟩ := hRk
      refine ⟨p2, rfl, ⟨_, sl_of hp2⟩, for_it (walk_list (K := K) (a := p2) (xs := iv (SqM.farL s' y0 y1)))
        (fun i σ H' => Same H H' ∧ H' p2 = some (.lst (iv (SqM.farL s' y0 y1))) ∧ (p2 ≠ o ∧ TupsAt H' o (((SqM.farL s' x0 x1).map fun f => [f * SqM.extI y0 y1, SqM.delayI x0 x1, SqM.stepI x0 x1, 0]) ++ ((SqM.farL s' y0 y1).take i).map fun f => [f * SqM.extI x0 x1, SqM.delayI y0 y1, 0, SqM.stepI y0 y1])) ∧ ∃ y6, σ = [some (.ref a), some (.ref b), some (.int s'), some (.int (SqM.extI x0 x1)), some (.int (SqM.extI y0 y1)), some (.ref o), y6]) ?_ ?_ ?_ ?_⟩
      · refine ⟨sm.trans s3, hp2, ⟨(ne_of_none hbs0 np2).symm, ?_⟩, _, rfl⟩
        have := hR.mono s3
        simpa using this
      · rintro i σ H' _ ⟨_, hp, _⟩
        exact sl_of hp
      · rintro i x σ H0 H' hi ⟨sm, hp, ⟨po, hR⟩, y6, rfl⟩ ⟨rfl, hx⟩
        obtain ⟨f1, hf, rfl⟩ := iv_get hx
        have hRk := hR
        obtain ⟨bs, hbs, _, _⟩ := hRk
        refine ⟨.ref o, rfl, .inl ⟨rfl, _, sl_of hbs⟩, _, rfl, _, rfl, _, _, rfl, rfl, .inr cx, .ref a, rfl, a, _, 1, _, rfl, rfl, sameT sm hA, two1 _ _, .ref b, rfl, b, _, 1, _, rfl, rfl, sameT sm hB, two1 _ _, y0, y1, rfl, .ref a, rfl, a, _, 1, _, rfl, rfl, sameT sm hA, two1 _ _, .ref b, rfl, b, _, 1, _, rfl, rfl, sameT sm hB, two1 _ _, y0, y1, rfl, by show 4 ≤ sizeLine; decide, fun T nT => ?_⟩
        have sT : Same H' (upd H' T (.tup (iv [f1 * SqM.extI x0 x1, SqM.delayI y0 y1, 0, SqM.stepI y0 y1]))) := same_upd nT
        obtain ⟨xs, hxs, hl, hR2⟩ := tups_append (hR.mono sT) (upd_same (o := .tup (iv [f1 * SqM.extI x0 x1, SqM.delayI y0 y1, 0, SqM.stepI y0 y1])))
        refine ⟨o, _, _, rfl, rfl, hxs, ?_, same_mut (sm.trans sT) no, ?_, ⟨po, ?_⟩, _, rfl⟩
        · rw [hl, List.length_append, List.length_map, List.length_map, List.length_take]
          exact big' (by omega)
        · exact (upd_ne po).trans (sT _ _ hp)
        · rw [take_snoc hf, List.map_append, ← List.append_assoc]
          exact hR2
      · rintro σ H' ⟨sm, _, ⟨_, hR⟩, y6, rfl⟩
        rw [iv_len, List.take_length] at hR
        obtain ⟨bs, hbs, hls, hts⟩ := hR
        refine ⟨.ref o, rfl, o, bs, rfl, sl_of hbs, fun b' hb' => ⟨st_of (hts b' hb'), ?_⟩, fun p np => ?_⟩
        · have m : b'.2 ∈ bs.map (·.2) := List.mem_map.mpr ⟨b', hb', rfl⟩
          rw [hls] at m
          rcases List.mem_append.mp m with m | m
          · obtain ⟨f1, _, e⟩ := List.mem_map.mp m
            rw [← e]
            exact List.cons_ne_nil _ _
          · obtain ⟨f1, _, e⟩ := List.mem_map.mp m
            rw [← e]
            exact List.cons_ne_nil _ _
        · have sp := same_upd (o := .lst ((srtB bs).map fun b => V.ref b.1)) np
          refine q p _ (sm.free np) (sm.trans sp) ⟨srtB bs, upd_same, ?_, fun b' hb' => sp _ _ (hts b' (srtB_mem.mp hb'))⟩
          rw [srtB_snd, hls, ← rows_sorted]
          unfold SqM.chsL
          rw [List.map_append, List.map_map, List.map_map]
          rfl

end
end SqW

/-! SqW7: the squares of a way. -/
namespace SqW
open PySem PySem.Spec PyProof.Rows L2
open SqM (Ch goW)
section
variable {P : Program} {w : World} {K : PySem.W.Frag} {mg : Str → Option Value} {base : Heap}
def cellI (s : Int) (q : Int × Int) : List Int := [q.1 * s, q.2 * s]
def sp_way_corners (K : PySem.W.Frag) : Sp := fun vs H Q _ => ∃ (a b : Addr) (x0 y0 x1 y1 : Int) (s : Nat), vs = [.ref a, .ref b, .int (s : Int)] ∧ SqT K H a (twoV x0 y0) ∧ SqT K H b (twoV x1 y1) ∧ (0 < s ∧ s ≤ 100000) ∧
  (0 ≤ x0 ∧ x0 < 1000000) ∧ (0 ≤ y0 ∧ y0 < 1000000) ∧ (0 ≤ x1 ∧ x1 < 1000000) ∧ (0 ≤ y1 ∧ y1 < 1000000) ∧ retU H Q ((LsRefs.through s (x0, y0) (x1, y1)).map (cellI s))
theorem goW_last (c : Ch) (x y : Int) : goW [c] x y = [(x + c.e, y + c.n)] := rfl
theorem goW_next (c c' : Ch) (r : List Ch) (x y : Int) (h : ¬ (c'.f = c.f ∧ c'.d = c.d)) : goW (c :: c' :: r) x y = (x + c.e, y + c.n) :: goW (c' :: r) (x + c.e) (y + c.n) := by
  rw [goW, if_neg h]
theorem goW_skip (c c' : Ch) (r : List Ch) (x y : Int) (h : c'.f = c.f ∧ c'.d = c.d) : goW (c :: c' :: r) x y = goW (c' :: r) (x + c.e) (y + c.n) := by
  rw [goW, if_pos h]
theorem eqv2 (i j k l : Int) : PyData.eqv (.tuple [.int i, .int j]) (.tuple [.int k, .int l]) = decide (i = k ∧ j = l) := by
  have e : PyData.eqv (.tuple [.int i, .int j]) (.tuple [.int k, .int l]) = ((i == k) && ((j == l) && true)) := by
    simp [PyData.eqv, PyData.eqvAll]
  rw [e]
  by_cases h1 : i = k <;> by_cases h2 : j = l <;> simp [h1, h2]
theorem shaped2 (i j : Int) : SeqAt.shaped (.tuple [.int i, .int j]) = true := by
  simp [SeqAt.shaped, PyData.canLay0, PyData.canLayAll0, PyData.depth, PyData.depthAll]
theorem chs_len (s x0 y0 x1 y1 : Int) : (SqM.chsS s x0 y0 x1 y1).length = (SqM.farL s x0 x1).length + (SqM.farL s y0 y1).length := by
  rw [(SqM.chsS_perm s x0 y0 x1 y1).length_eq]
  unfold SqM.chsL
  rw [List.length_append, List.length_map, List.length_map]
theorem goW_len : ∀ (l : List Ch) (x y : Int), (goW l x y).length ≤ l.length
  | [], _, _ => Nat.le_refl _
  | [c], _, _ => Nat.le_refl _
  | c :: c' :: r, x, y => by
    have ih := goW_len (c' :: r) (x + c.e) (y + c.n)
    by_cases h : c'.f = c.f ∧ c'.d = c.d
    · rw [goW_skip c c' r x y h]
      exact Nat.le_succ_of_le ih
    · rw [goW_next c c' r x y h]
      exact Nat.succ_le_succ ih
theorem sc_way_corners : FnScope ["start", "end", "side", "column", "row", "corners", "found", "at", "far", "delay", "east", "north"] ["start", "end", "side"] (defScope (top 76)) := ⟨rfl, rfl, rfl, by decide +kernel, rfl, by decide +kernel, by decide +kernel⟩
theorem ok_way_corners {k : Nat} (F : FnAt K mg "way_corners" (top 76)) (n_enumerate : mg "enumerate" = none) (n_len : mg "len" = none) (c_changes : CallOk P w K mg base (k + 2) "changes" ["start", "end", "side"] (sp_changes K)) : CallOk P w K mg base (k + 3) "way_corners" ["start", "end", "side"] (sp_way_corners K) := by
  obtain ⟨f, fd, g, F⟩ := F
  obtain ⟨f_changes, d_changes, g_changes, k_changes, b_changes, G_changes⟩ := c_changes.ex
  refine ⟨f, fd, g, F.kp, F.binds fun _ _ _ _ _ _ us hl => match us, hl with | [_, _, _], _ => rfl, F.ok sc_way_corners (fun vs H Q E h => ?_) fun cdv A outer s H vs Q E hr h => ?_⟩
  · obtain ⟨a, b, x0, y0, x1, y1, s, rfl, _⟩ := h
    rfl
  · obtain ⟨a, b, x0, y0, x1, y1, s', rfl, hA, hB, hs, hx0, hy0, hx1, hy1, q⟩ := h
    refine ⟨_, (pss_cons (ps_set (i := 3) sc_way_corners.nd rfl (.inl rfl) (pe_op op_fdiv (pe_ix ix_tup (pv 0) pe_int (fun _ _ => rfl)) (pv 2)))
        (pss_cons (ps_set (i := 4) sc_way_corners.nd rfl (.inl rfl) (pe_op op_fdiv (pe_ix ix_tup (pv 0) pe_int (fun _ _ => rfl)) (pv 2)))
        (pss_cons (ps_set (i := 5) sc_way_corners.nd rfl (.inl rfl) (pe_lst (pa_cons (pe_tup (pa_cons (pe_op op_mul (pv 3) (pv 2)) (pa_cons (pe_op op_mul (pv 4) (pv 2)) pa_nil))) pa_nil)))
        (pss_cons (ps_set (i := 6) sc_way_corners.nd rfl (.inl rfl) (pe_call G_changes hr (by rfl) g_changes k_changes b_changes .nil pass0 (pa_cons (pv 0) (pa_cons (pv 1) (pa_cons (pv 2) pa_nil)))))
        (pss_cons (ps_for PassesOwn.never rfl (pi_enum (by rfl) n_enumerate (pa_cons (pv 6) pa_nil)) (pg_tup rfl (pgs_cons (pg_name (i := 7) sc_way_corners.nd rfl (.inl rfl)) (pgs_cons (pg_tup rfl (pgs_cons (pg_name (i := 8) sc_way_corners.nd rfl (.inl rfl)) (pgs_cons (pg_name (i := 9) sc_way_corners.nd rfl (.inl rfl)) (pgs_cons (pg_name (i := 10) sc_way_corners.nd rfl (.inl rfl)) (pgs_cons (pg_name (i := 11) sc_way_corners.nd rfl (.inl rfl)) pgs_nil))))) pgs_nil))) (pss_cons (ps_aug (i := 3) sc_way_corners.nd rfl (.inl rfl) (pv 10) ip_add)
        (pss_cons (ps_aug (i := 4) sc_way_corners.nd rfl (.inl rfl) (pv 11) ip_add)
        (pss_one (ps_if (PW.pt (pw_or (pt_cmpR op_eq (pe_op op_add (pv 7) pe_int) (pe_callB call_len_seq (by rfl) n_len PySem.boot_len (pa_cons (pv 6) pa_nil)) (nomark _)) (pw_or1 (pt_cmpR (op_neD hr.units) (pe_slice sl_tup (pe_ix ix_list (pv 6) (pe_op op_add (pv 7) pe_int) (fun _ _ => rfl)) po_none (po_some pe_int)) (pe_tup (pa_cons (pv 8) (pa_cons (pv 9) pa_nil))) (nomark _))))) (pss_one (ps_expr (pe_bm PySem.F.plainAttrs_list PySem.F.slot_list_append PySem.F.type_list_append mt_append (pv 5) (pa_cons (pe_tup (pa_cons (pe_op op_mul (pv 3) (pv 2)) (pa_cons (pe_op op_mul (pv 4) (pv 2)) pa_nil))) pa_nil)))) pss_nil)))))
        (pss_one (ps_ret (pv 5)))))))), ?_⟩
    have hsI : (0 : Int) < (s' : Int) ∧ (s' : Int) ≤ 100000 := ⟨by omega, by omega⟩
    have cd : ∀ z : Int, CDiv z (s' : Int) := fun z => ⟨by omega, by omega⟩
    have cm : ∀ z : Int, CMul z (s' : Int) := fun z => .inr ⟨by omega, by omega⟩
    rw [SqM.through_eq hs.1] at q
    have nlen := chs_len (s' : Int) x0 y0 x1 y1
    have lx := farL_len hx0 hx1 hsI
    have ly := farL_len hy0 hy1 hsI
    refine ⟨.ref a, rfl, a, _, 0, _, rfl, rfl, hA, two0 _ _, _, rfl, _, _, rfl, rfl, cd _, ?_⟩
    refine ⟨.ref a, rfl, a, _, 1, _, rfl, rfl, hA, two1 _ _, _, rfl, _, _, rfl, rfl, cd _, ?_⟩
    refine ⟨_, rfl, _, rfl, _, _, rfl, rfl, cm _, _, rfl, _, rfl, _, _, rfl, rfl, cm _, by show 2 ≤ sizeLine; decide, fun t0 nt0 => ⟨by show 1 ≤ sizeLine; decide, fun o no => ?_⟩⟩
    have s1 : Same H (upd (upd H t0 (.tup (iv (cellI s' (x0 / s', y0 / s'))))) o (.lst [.ref t0])) := (same_upd nt0).trans (same_upd no)
    have noH : H o = none := (same_upd (o := .tup (iv (cellI s' (x0 / s', y0 / s')))) nt0).free no
    have hR0 : TupsAt (upd (upd H t0 (.tup (iv (cellI s' (x0 / s', y0 / s'))))) o (.lst [.ref t0])) o ([(x0 / (s' : Int), y0 / (s' : Int))].map (cellI s')) := by
      refine ⟨[(t0, cellI s' (x0 / s', y0 / s'))], upd_same, rfl, fun b hb => ?_⟩
      have e : b = (t0, cellI s' (x0 / s', y0 / s')) := by simpa using hb
      subst e
      rw [upd_ne (ne_of_none upd_same no)]
      exact upd_same
    refine ⟨.ref a, rfl, .ref b, rfl, _, rfl, a, b, x0, y0, x1, y1, (s' : Int), rfl, sameT s1 hA, sameT s1 hB, hsI, hx0, hy0, hx1, hy1, fun p1 H1 np1 s2 hp1 => ?_⟩
    have hR1 := hR0.mono s2
    have sm1 := s1.trans s2
    obtain ⟨bs, hbs, hls, hts⟩ := hp1
    generalize hS : SqM.chsS (s' : Int) x0 y0 x1 y1 = S at *
    have blen : bs.length = S.length := by
      have := congrArg List.length hls
      rw [List.length_map, List.length_map] at this
      exact this
    have brow : ∀ (i : Nat) (c : Ch), S[i]? = some c → ∃ t : Addr, bs[i]? = some (t, c.row) ∧ H1 t = some (.tup (iv c.row)) := by
      intro i c hc
      have h1 : (bs.map (·.2))[i]? = some c.row := by
        rw [hls, List.getElem?_map, hc]
        rfl
      rw [List.getElem?_map] at h1
      cases e : bs[i]? with
      | none =>
        rw [e] at h1
        cases h1
      | some b =>
        rw [e] at h1
        have h2 : b.2 = c.row := Option.some.inj h1
        refine ⟨b.1, by rw [← h2], ?_⟩
        rw [← h2]
        exact hts b (List.mem_of_getElem? e)
    have po : p1 ≠ o := (ne_of_none upd_same np1).symm
    refine ⟨.ref p1, rfl, p1, _, rfl, sl_of hbs, for_it (walk_enum (K := K) (a := p1) (xs := bs.map fun b => V.ref b.1))
      (fun i σ H' => Same H H' ∧ (Same (upd H1 o (.lst [])) (upd H' o (.lst []))) ∧ ∃ (x y : Int) (done : List (Int × Int)) (y7 y8 y9 y10 y11 : Option V), TupsAt H' o (((x0 / (s' : Int), y0 / (s' : Int)) :: done).map (cellI s')) ∧ done ++ goW (S.drop i) x y = goW S (x0 / (s' : Int)) (y0 / (s' : Int)) ∧
        σ = [some (.ref a), some (.ref b), some (.int (s' : Int)), some (.int x), some (.int y), some (.ref o), some (.ref p1), y7, y8, y9, y10, y11]) ?_ ?_ ?_ ?_⟩
    · exact ⟨sm1, Same.refl _, _, _, [], _, _, _, _, _, hR1, rfl, rfl⟩
    · rintro i σ H' _ ⟨_, sm, _⟩
      have h1 := sm p1 _ ((upd_ne po).trans hbs)
      rw [upd_ne po] at h1
      exact sl_of h1
    · rintro i v σ H0 H' hi ⟨sm, sk, x, y, done, y7, y8, y9, y10, y11, hR, hgo, rfl⟩ ⟨T, ni, xr, rfl, nT, rfl, ei, hx⟩
      cases ei
      rw [List.length_map] at hi
      have hiS : i < S.length := by omega
      obtain ⟨c, hc⟩ : ∃ c, S[i]? = some c := ⟨_, List.getElem?_eq_getElem hiS⟩
      obtain ⟨t, hb1, ht1⟩ := brow i c hc
      replace hx : (bs.map fun b => V.ref b.1)[i]? = some xr := hx
      rw [List.getElem?_map, hb1] at hx
      have exr : xr = .ref t := (Option.some.inj hx).symm
      subst exr
      -- what stands in the heap
      have keep : ∀ (z : Addr) (u : HO), z ≠ o → H1 z = some u → H0 z = some u := fun z u hz hu => by
        have := sk z u ((upd_ne hz).trans hu)
        rw [upd_ne hz] at this
        exact this
      have hRk := hR
      obtain ⟨ds, hds, hdl, _⟩ := hRk
      have to : t ≠ o := fun e => by
        subst e
        have h1 := hR1
        obtain ⟨es, hes, _⟩ := h1
        rw [ht1] at hes
        cases hes
      have ht0 := keep t _ to ht1
      have hp0 := keep p1 _ po hbs
      have sT : Same H0 (upd H0 T (.tup [.int (i : Nat), .ref t])) := same_upd nT
      have hdrop : S.drop i = c :: S.drop (i + 1) := by
        rw [List.drop_eq_getElem_cons hiS]
        congr 1
        exact (List.getElem?_eq_some_iff.mp hc).2
      rw [hdrop] at hgo
      refine ⟨T, _, rfl, st_of upd_same, rfl, _, _, rfl, _, _, rfl, t, _, rfl, st_of (sT _ _ ht0), rfl, _, _, rfl, _, _, rfl, _, _, rfl, _, _, rfl, rfl, rfl, ?_⟩
      refine ⟨_, rfl, _, rfl, _, _, rfl, rfl, ?_⟩
      refine ⟨_, rfl, _, rfl, _, _, rfl, rfl, ?_⟩
      -- what is appended
      have push : ∀ (H2 : Hp), Same (upd H0 T (.tup [.int (i : Nat), .ref t])) H2 → done ++ (x + c.e, y + c.n) :: goW (S.drop (i + 1)) (x + c.e) (y + c.n) = goW S (x0 / (s' : Int)) (y0 / (s' : Int)) →
          tDrop (tBM K "list" rAppend (tVar 5) (tCons (tTup (tCons (tOp (rI CMul fun i j => .int (i * j)) (tVar 3) (tVar 2)) (tCons (tOp (rI CMul fun i j => .int (i * j)) (tVar 4) (tVar 2)) tNil))) tNil))
            ⟨fun σ H' => Same H H' ∧ (Same (upd H1 o (.lst [])) (upd H' o (.lst []))) ∧ ∃ (x y : Int) (done : List (Int × Int)) (y7 y8 y9 y10 y11 : Option V), TupsAt H' o (((x0 / (s' : Int), y0 / (s' : Int)) :: done).map (cellI s')) ∧ done ++ goW (S.drop (i + 1)) x y = goW S (x0 / (s' : Int)) (y0 / (s' : Int)) ∧
              σ = [some (.ref a), some (.ref b), some (.int (s' : Int)), some (.int x), some (.int y), some (.ref o), some (.ref p1), y7, y8, y9, y10, y11], Q, fun _ _ => True, fun _ _ => True⟩
            [some (.ref a), some (.ref b), some (.int (s' : Int)), some (.int (x + c.e)), some (.int (y + c.n)), some (.ref o), some (.ref p1), some (.int (i : Int)), some (.int c.f), some (.int c.d), some (.int c.e), some (.int c.n)] H2 := by
        intro H2 s2' hg
        have s02 := sT.trans s2'
        refine ⟨.ref o, rfl, .inl ⟨rfl, _, sl_of (s02 _ _ hds)⟩, _, rfl, _, rfl, _, _, rfl, rfl, cm _, _, rfl, _, rfl, _, _, rfl, rfl, cm _, by show 2 ≤ sizeLine; decide, fun t9 nt9 => ?_⟩
        have s9 : Same H2 (upd H2 t9 (.tup (iv (cellI s' (x + c.e, y + c.n))))) := same_upd nt9
        obtain ⟨xs, hxs, hl, hR2⟩ := tups_append ((hR.mono s02).mono s9) (upd_same (o := .tup (iv (cellI s' (x + c.e, y + c.n)))))
        refine ⟨o, _, _, rfl, rfl, hxs, ?_, same_mut ((sm.trans s02).trans s9) noH, ?_, x + c.e, y + c.n, done ++ [(x + c.e, y + c.n)], _, _, _, _, _, ?_, ?_, rfl⟩
        · rw [hl, List.length_map, List.length_cons]
          have g1 := congrArg List.length hgo
          rw [List.length_append] at g1
          have g2 := goW_len S (x0 / (s' : Int)) (y0 / (s' : Int))
          exact big' (by omega)
        · intro z u hz
          rw [upd_upd]
          by_cases zo : z = o
          · subst zo
            rw [upd_same] at hz ⊢
            exact hz
          · rw [upd_ne zo] at hz ⊢
            exact s9 _ _ (s02 _ _ (keep z u zo hz))
        · rw [← List.cons_append, List.map_append]
          exact hR2
        · rw [List.append_assoc]
          exact hg
      have skip : ∀ (H2 : Hp), Same (upd H0 T (.tup [.int (i : Nat), .ref t])) H2 → done ++ goW (S.drop (i + 1)) (x + c.e) (y + c.n) = goW S (x0 / (s' : Int)) (y0 / (s' : Int)) →
          (Same H H2 ∧ (Same (upd H1 o (.lst [])) (upd H2 o (.lst []))) ∧ ∃ (x' y' : Int) (done : List (Int × Int)) (y7 y8 y9 y10 y11 : Option V), TupsAt H2 o (((x0 / (s' : Int), y0 / (s' : Int)) :: done).map (cellI s')) ∧ done ++ goW (S.drop (i + 1)) x' y' = goW S (x0 / (s' : Int)) (y0 / (s' : Int)) ∧
            ([some (.ref a), some (.ref b), some (.int (s' : Int)), some (.int (x + c.e)), some (.int (y + c.n)), some (.ref o), some (.ref p1), some (.int (i : Int)), some (.int c.f), some (.int c.d), some (.int c.e), some (.int c.n)] : L2.St) = [some (.ref a), some (.ref b), some (.int (s' : Int)), some (.int x'), some (.int y'), some (.ref o), some (.ref p1), y7, y8, y9, y10, y11]) := by
        intro H2 s2' hg
        have s02 := sT.trans s2'
        refine ⟨sm.trans s02, fun z u hz => ?_, x + c.e, y + c.n, done, _, _, _, _, _, hR.mono s02, hg, rfl⟩
        by_cases zo : z = o
        · subst zo
          rw [upd_same] at hz ⊢
          exact hz
        · rw [upd_ne zo] at hz ⊢
          exact s02 _ _ (keep z u zo hz)
      have hpT := sT _ _ hp0
      refine ⟨_, rfl, _, _, rfl, rfl, .ref p1, rfl, p1, _, rfl, .inl (sl_of hpT), rfl, _, rfl, ite2 (fun c1 => ?_) (fun c1 => ?_)⟩
      · -- the last change
        have e1 : i + 1 = S.length := by
          have := V.int.inj (of_decide_eq_true c1)
          rw [List.length_map, blen] at this
          omega
        have hnil : S.drop (i + 1) = [] := List.drop_of_length_le (by omega)
        rw [hnil, goW_last] at hgo
        exact iteT (push _ (Same.refl _) (by rw [hnil]; exact hgo))
      · have e1 : i + 1 < S.length := by
          have h1 : ¬ i + 1 = S.length := fun z => c1 (decide_eq_true (congrArg V.int (by rw [List.length_map, blen, ← z]; rfl)))
          omega
        obtain ⟨c', hc'⟩ : ∃ c', S[i + 1]? = some c' := ⟨_, List.getElem?_eq_getElem e1⟩
        obtain ⟨t', hb2, ht2⟩ := brow (i + 1) c' hc'
        have to' : t' ≠ o := fun e => by
          subst e
          have h1 := hR1
          obtain ⟨es, hes, _⟩ := h1
          rw [ht2] at hes
          cases hes
        have ht0' := sT _ _ (keep t' _ to' ht2)
        have hdrop2 : S.drop (i + 1) = c' :: S.drop (i + 2) := by
          rw [List.drop_eq_getElem_cons e1]
          congr 1
          exact (List.getElem?_eq_some_iff.mp hc').2
        have hix : atI (bs.map fun b => V.ref b.1) ((i : Int) + 1) = some (.ref t') := at_of (j := i + 1) (by omega) (by rw [List.getElem?_map, hb2]; rfl)
        refine ⟨.ref p1, rfl, _, rfl, _, _, rfl, rfl, p1, _, _, _, rfl, rfl, sl_of hpT, hix, 2, rfl, t', iv c'.row, rfl, st_of ht0', ?_, fun T2 nT2 => ?_⟩
        · rintro ⟨_, h2⟩
          have e4 : (iv c'.row).length = 4 := rfl
          rw [e4, show (2 : Int) = ((2 : Nat) : Int) from rfl, HT.sIx_nat] at h2
          revert h2
          decide
        · have hcut : cutV (iv c'.row) none (some 2) = [.int c'.f, .int c'.d] := cut_to _ 2 (by show 2 ≤ 4; omega)
          rw [hcut]
          have sT2 : Same (upd H0 T (.tup [.int (i : Nat), .ref t])) (upd (upd H0 T (.tup [.int (i : Nat), .ref t])) T2 (.tup [.int c'.f, .int c'.d])) := same_upd nT2
          refine ⟨_, rfl, _, rfl, by show 2 ≤ sizeLine; decide, fun T3 nT3 => ?_⟩
          have sT3 : Same (upd (upd H0 T (.tup [.int (i : Nat), .ref t])) T2 (.tup [.int c'.f, .int c'.d])) (upd (upd (upd H0 T (.tup [.int (i : Nat), .ref t])) T2 (.tup [.int c'.f, .int c'.d])) T3 (.tup [.int c.f, .int c.d])) := same_upd nT3
          refine ⟨.tuple [.int c'.f, .int c'.d], .tuple [.int c.f, .int c.d], .tup (st_of (sT3 _ _ upd_same)) (.cons (.int _) (.cons (.int _) .nil)), .tup (st_of upd_same) (.cons (.int _) (.cons (.int _) .nil)), shaped2 _ _, shaped2 _ _, _, rfl, ?_⟩
          show if (!PyData.eqv (.tuple [.int c'.f, .int c'.d]) (.tuple [.int c.f, .int c.d])) = true then _ else _
          rw [eqv2]
          rw [hdrop2] at hgo
          refine ite2 (fun c2 => ?_) (fun c2 => ?_)
          · have hne : ¬ (c'.f = c.f ∧ c'.d = c.d) := fun z => by
              rw [decide_eq_true z] at c2
              cases c2
            rw [goW_next c c' _ x y hne] at hgo
            exact push _ (sT2.trans sT3) (by rw [hdrop2]; exact hgo)
          · have heq : c'.f = c.f ∧ c'.d = c.d := Decidable.byContradiction fun z => c2 (by rw [decide_eq_false z]; rfl)
            rw [goW_skip c c' _ x y heq] at hgo
            exact skip _ (sT2.trans sT3) (by rw [hdrop2]; exact hgo)
    · rintro σ H' ⟨sm, _, x, y, done, y7, y8, y9, y10, y11, hR, hgo, rfl⟩
      rw [List.length_map, blen, List.drop_of_length_le (Nat.le_refl _)] at hgo
      have e : done = goW S (x0 / (s' : Int)) (y0 / (s' : Int)) := by
        rw [← hgo]
        exact (List.append_nil _).symm
      rw [e] at hR
      exact ⟨.ref o, rfl, q o H' noH sm hR⟩

end
end SqW

/-! SqW8: the calls on squares. -/
namespace SqW
open PySem PySem.Spec PyProof.Rows L2
open LsText (Bytes)
open LsRows (told)
open RefsSpec (answer)
theorem told_says (z : Int) : told (LsAns.says z) = [z] := rfl
theorem told_gives (b : Bytes) : told (LsAns.gives b) = (b.length : Int) :: SqM.bI b := rfl
theorem told_fault (p : Nat) : told (RefsSpec.fault p) = [-6, (p : Int)] := rfl
theorem told_box (q : LsRefs.Square) : told (LsAns.tells 0 (RefsSpec.boxNums q)) = [0, (q.x : Int), (q.y : Int), (q.side : Int)] := rfl
theorem rows_one {H : Hp} {t : Addr} {l : List Int} (h : RowsAt H t [l]) : ∃ p, H t = some (.lst [.ref p]) ∧ H p = some (.lst (iv l)) := by
  obtain ⟨bs, h1, h2, h3⟩ := h
  match bs, h1, h2, h3 with
  | [b], h1, h2, h3 =>
    have e : b.2 = l := by simpa using h2
    exact ⟨b.1, h1, e ▸ h3 b List.mem_cons_self⟩
theorem rows_two {H : Hp} {t : Addr} {l m : List Int} (h : RowsAt H t [l, m]) : ∃ p p', H t = some (.lst [.ref p, .ref p']) ∧ H p = some (.lst (iv l)) ∧ H p' = some (.lst (iv m)) := by
  obtain ⟨bs, h1, h2, h3⟩ := h
  match bs, h1, h2, h3 with
  | [b, b'], h1, h2, h3 =>
    have e : b.2 = l ∧ b'.2 = m := by simpa using h2
    exact ⟨b.1, b'.1, h1, e.1 ▸ h3 b List.mem_cons_self, e.2 ▸ h3 b' (List.mem_cons_of_mem _ List.mem_cons_self)⟩
theorem on_no {x : Nat} : RefsSpec.on x = false ↔ ¬ x < 1000000 := by
  unfold RefsSpec.on
  exact decide_eq_false_iff_not
theorem on_all {a b c d : Nat} : ([a, b, c, d].all RefsSpec.on = false) ↔ ¬ ((a < 1000000 ∧ b < 1000000) ∧ c < 1000000 ∧ d < 1000000) := by
  have e : ([a, b, c, d].all RefsSpec.on = true) ↔ ((a < 1000000 ∧ b < 1000000) ∧ c < 1000000 ∧ d < 1000000) := by
    unfold RefsSpec.on LsRefs.LAND
    simp [and_assoc]
  rw [← e]
  simp
/-- a new list of one number, of two -/
theorem ret1 {H : Hp} {Q : VK} {z : Int} (q : retL H Q [z]) {p : Addr} (np : H p = none) : Q (.ref p) (upd H p (.lst [.int z])) := q.new np
theorem landN {x y : Nat} (h : false = true ↔ ((x : Int) < 1000000 ∧ (y : Int) < 1000000)) : ¬ (x < 1000000 ∧ y < 1000000) := fun z => Bool.false_ne_true (h.mpr ⟨by omega, by omega⟩)
theorem landY {x y : Nat} (h : true = true ↔ ((x : Int) < 1000000 ∧ (y : Int) < 1000000)) : x < 1000000 ∧ y < 1000000 := ⟨by have := (h.mp rfl).1; omega, by have := (h.mp rfl).2; omega⟩
section
variable {P : Program} {w : World} {K : PySem.W.Frag} {mg : Str → Option Value} {base : Heap}
/-! ### call_square -/
theorem ref_len (k x y : Nat) (hk : k ≤ 5) : (LsRefs.refText k x y).length ≤ 1000000 := by
  unfold LsRefs.refText
  rw [List.length_append]
  split
  · show 2 + 0 ≤ _
    omega
  · rename_i h0
    have e : LsRefs.GREAT = 100000 := rfl
    rw [e, pad_k hk h0, pad_k hk h0]
    have g : ∀ u v : Bytes, ((32 : UInt8) :: (u ++ (32 :: v))).length = u.length + v.length + 2 := fun u v => by
      rw [List.length_cons, List.length_append, List.length_cons]
      omega
    rw [g, SqM.digs_len, SqM.digs_len]
    show 2 + _ ≤ _
    omega
def sp_call_square (K : PySem.W.Frag) : Sp := fun vs H Q _ => ∃ (a t : Addr) (x y k : Nat), vs = [.ref a, .ref t] ∧ SqL K H a (iv [(x : Int), (y : Int), (k : Int)]) ∧ retL H Q (told (answer (.square x y k)))
theorem sc_call_square : FnScope ["numbers", "texts", "x", "y", "k"] ["numbers", "texts"] (defScope (top 79)) := ⟨rfl, rfl, rfl, by decide +kernel, rfl, by decide +kernel, by decide +kernel⟩
theorem ok_call_square {k : Nat} (F : FnAt K mg "call_square" (top 79)) (g_MOST_DIGITS : IntAt mg "MOST_DIGITS" 5) (g_OUT_OF_BOUNDS : IntAt mg "OUT_OF_BOUNDS" (-1)) (c_in_land : CallOk P w K mg base (k + 2) "in_land" ["x", "y"] sp_in_land) (c_as_text : CallOk P w K mg base (k + 2) "as_text" ["row"] sp_as_text) (c_reference_of : CallOk P w K mg base (k + 2) "reference_of" ["x", "y", "k"] sp_reference_of) : CallOk P w K mg base (k + 3) "call_square" ["numbers", "texts"] (sp_call_square K) := by
  obtain ⟨f, fd, g, F⟩ := F
  obtain ⟨t_MOST_DIGITS, g_MOST_DIGITS⟩ := g_MOST_DIGITS
  obtain ⟨t_OUT_OF_BOUNDS, g_OUT_OF_BOUNDS⟩ := g_OUT_OF_BOUNDS
  obtain ⟨f_in_land, d_in_land, g_in_land, k_in_land, b_in_land, G_in_land⟩ := c_in_land.ex
  obtain ⟨f_as_text, d_as_text, g_as_text, k_as_text, b_as_text, G_as_text⟩ := c_as_text.ex
  obtain ⟨f_reference_of, d_reference_of, g_reference_of, k_reference_of, b_reference_of, G_reference_of⟩ := c_reference_of.ex
  refine ⟨f, fd, g, F.kp, F.binds fun _ _ _ _ _ _ us hl => match us, hl with | [_, _], _ => rfl, F.ok sc_call_square (fun vs H Q E h => ?_) fun cdv A outer s H vs Q E hr h => ?_⟩
  · obtain ⟨a, t, x, y, k, rfl, _⟩ := h
    rfl
  · obtain ⟨a, t, x, y, k', rfl, hN, q⟩ := h
    refine ⟨_, (pss_cons (ps_asg (pv 0) (pg_unl rfl (pgs_cons (pg_name (i := 2) sc_call_square.nd rfl (.inl rfl)) (pgs_cons (pg_name (i := 3) sc_call_square.nd rfl (.inl rfl)) (pgs_cons (pg_name (i := 4) sc_call_square.nd rfl (.inl rfl)) pgs_nil)))))
        (pss_cons (ps_if (PW.pt (pw_or (pt_not (pt_val (pe_call G_in_land hr (by rfl) g_in_land k_in_land b_in_land .nil pass0 (pa_cons (pv 2) (pa_cons (pv 3) pa_nil))))) (pw_or1 (pt_cmpR op_gt (pv 4) (pe_glob (v := .int 5) rfl g_MOST_DIGITS ⟨_, rfl⟩) (nomark _))))) (pss_one (ps_ret (pe_lst (pa_cons (pe_glob (v := .int (-1)) rfl g_OUT_OF_BOUNDS ⟨_, rfl⟩) pa_nil)))) pss_nil)
        (pss_one (ps_ret (pe_call G_as_text hr (by rfl) g_as_text k_as_text b_as_text .nil pass0 (pa_cons (pe_call G_reference_of hr (by rfl) g_reference_of k_reference_of b_reference_of .nil pass0 (pa_cons (pv 2) (pa_cons (pv 3) (pa_cons (pv 4) pa_nil)))) pa_nil)))))), ?_⟩
    have ans : answer (.square x y k') = if RefsSpec.on x = false ∨ RefsSpec.on y = false ∨ 5 < k' then LsAns.says (-1) else LsAns.gives (LsRefs.refText k' x y) := rfl
    rw [ans] at q
    refine ⟨_, rfl, a, _, rfl, hN, rfl, _, _, rfl, _, _, rfl, _, _, rfl, rfl, ?_⟩
    refine ⟨_, rfl, _, rfl, x, y, rfl, fun B hB => ⟨B, rfl, ?_⟩⟩
    cases B
    · have h1 := landN hB
      rw [if_pos (by rw [on_no, on_no]; omega), told_says] at q
      exact iteT ⟨by show 1 ≤ sizeLine; decide, fun p np => ret1 q np⟩
    · obtain ⟨h1, h2⟩ := landY hB
      refine iteF ?_
      refine ⟨_, rfl, _, _, rfl, rfl, _, rfl, ite2 (fun c2 => ?_) (fun c2 => ?_)⟩
      · have h3 := of_decide_eq_true c2
        rw [if_pos (by rw [on_no, on_no]; omega), told_says] at q
        exact ⟨by show 1 ≤ sizeLine; decide, fun p np => ret1 q np⟩
      · have h3 : ¬ (5 : Int) < (k' : Int) := fun z => c2 (decide_eq_true z)
        rw [if_neg (by rw [on_no, on_no]; omega), told_gives] at q
        refine ⟨_, rfl, _, rfl, _, rfl, x, y, k', rfl, h1, h2, by omega, fun p H1 np s1 hp => ⟨p, _, rfl, hp, ?_, ?_⟩⟩
        · rw [bI_len]
          exact ref_len k' x y (by omega)
        · rw [bI_len]
          exact q.from_ s1

/-! ### call_read, call_within -/
def sp_call_read (K : PySem.W.Frag) : Sp := fun vs H Q _ => ∃ (a t : Addr) (b : Bytes), vs = [.ref a, .ref t] ∧ RowsAt H t [SqM.bI b] ∧ b.length ≤ 31700 ∧ retL H Q (told (answer (.read b)))
theorem long_is (b : Bytes) : decide (32 < (iv (SqM.bI b)).length) = RefsSpec.tooLong b := by
  rw [iv_len, bI_len]
  rfl
theorem sc_call_read : FnScope ["numbers", "texts", "text", "fault", "west", "south", "side"] ["numbers", "texts"] (defScope (top 80)) := ⟨rfl, rfl, rfl, by decide +kernel, rfl, by decide +kernel, by decide +kernel⟩
theorem ok_call_read {k : Nat} (F : FnAt K mg "call_read" (top 80)) (g_TOO_LONG : IntAt mg "TOO_LONG" (-2)) (g_FAULT : IntAt mg "FAULT" (-6)) (c_too_long : CallOk P w K mg base (k + 5) "too_long" ["text"] (sp_too_long K)) (c_square_of : CallOk P w K mg base (k + 5) "square_of" ["text"] (sp_square_of K)) : CallOk P w K mg base (k + 6) "call_read" ["numbers", "texts"] (sp_call_read K) := by
  obtain ⟨f, fd, g, F⟩ := F
  obtain ⟨t_TOO_LONG, g_TOO_LONG⟩ := g_TOO_LONG
  obtain ⟨t_FAULT, g_FAULT⟩ := g_FAULT
  obtain ⟨f_too_long, d_too_long, g_too_long, k_too_long, b_too_long, G_too_long⟩ := c_too_long.ex
  obtain ⟨f_square_of, d_square_of, g_square_of, k_square_of, b_square_of, G_square_of⟩ := c_square_of.ex
  refine ⟨f, fd, g, F.kp, F.binds fun _ _ _ _ _ _ us hl => match us, hl with | [_, _], _ => rfl, F.ok sc_call_read (fun vs H Q E h => ?_) fun cdv A outer s H vs Q E hr h => ?_⟩
  · obtain ⟨a, t, b, rfl, _⟩ := h
    rfl
  · obtain ⟨a, t, b, rfl, hR, hb, q⟩ := h
    refine ⟨_, (pss_cons (ps_set (i := 2) sc_call_read.nd rfl (.inl rfl) (pe_ix ix_list (pv 1) pe_int (fun _ _ => rfl)))
        (pss_cons (ps_if (pt_val (pe_call G_too_long hr (by rfl) g_too_long k_too_long b_too_long .nil pass0 (pa_cons (pv 2) pa_nil))) (pss_one (ps_ret (pe_lst (pa_cons (pe_glob (v := .int (-2)) rfl g_TOO_LONG ⟨_, rfl⟩) pa_nil)))) pss_nil)
        (pss_cons (ps_asg (pe_call G_square_of hr (by rfl) g_square_of k_square_of b_square_of .nil pass0 (pa_cons (pv 2) pa_nil)) (pg_tup rfl (pgs_cons (pg_name (i := 3) sc_call_read.nd rfl (.inl rfl)) (pgs_cons (pg_name (i := 4) sc_call_read.nd rfl (.inl rfl)) (pgs_cons (pg_name (i := 5) sc_call_read.nd rfl (.inl rfl)) (pgs_cons (pg_name (i := 6) sc_call_read.nd rfl (.inl rfl)) pgs_nil))))))
        (pss_cons (ps_if (pt_cmpR op_notN (pv 3) pe_non (nomark _)) (pss_one (ps_ret (pe_lst (pa_cons (pe_glob (v := .int (-6)) rfl g_FAULT ⟨_, rfl⟩) (pa_cons (pv 3) pa_nil))))) pss_nil)
        (pss_one (ps_ret (pe_lst (pa_cons pe_int (pa_cons (pv 4) (pa_cons (pv 5) (pa_cons (pv 6) pa_nil))))))))))), ?_⟩
    have ans : answer (.read b) = if RefsSpec.tooLong b = true then LsAns.says (-2) else (match LsRefs.readRef b with
      | .error p => RefsSpec.fault p
      | .ok q => LsAns.tells 0 (RefsSpec.boxNums q)) := rfl
    rw [ans] at q
    obtain ⟨p, ht, hp⟩ := rows_one hR
    refine ⟨_, rfl, t, _, 0, _, rfl, rfl, sl_of ht, atI_nat (j := 0) rfl, ?_⟩
    refine ⟨.ref p, rfl, p, _, rfl, sl_of hp, _, rfl, ?_⟩
    rw [long_is]
    refine ite2 (fun c => ?_) (fun c => ?_)
    · rw [if_pos c, told_says] at q
      exact ⟨by show 1 ≤ sizeLine; decide, fun p np => ret1 q np⟩
    · rw [if_neg c] at q
      refine ⟨.ref p, rfl, p, b, rfl, sl_of hp, hb, fun T H1 nT s1 hT => ?_⟩
      replace q := q.from_ s1
      unfold squareV at hT
      cases hr : LsRefs.readRef b with
      | error e =>
        rw [hr] at hT q
        rw [told_fault] at q
        refine ⟨T, _, rfl, st_of hT, rfl, _, _, rfl, _, _, rfl, _, _, rfl, _, _, rfl, rfl, ?_⟩
        exact ⟨_, rfl, rfl, _, rfl, iteT ⟨_, rfl, by show 2 ≤ sizeLine; decide, fun p np => q.new np⟩⟩
      | ok r =>
        rw [hr] at hT q
        rw [told_box] at q
        refine ⟨T, _, rfl, st_of hT, rfl, _, _, rfl, _, _, rfl, _, _, rfl, _, _, rfl, rfl, ?_⟩
        exact ⟨_, rfl, rfl, _, rfl, iteF ⟨_, rfl, _, rfl, _, rfl, by show 4 ≤ sizeLine; decide, fun p np => q.new np⟩⟩

def sp_call_within (K : PySem.W.Frag) : Sp := fun vs H Q _ => ∃ (a t : Addr) (x y : Nat) (b : Bytes), vs = [.ref a, .ref t] ∧ SqL K H a (iv [(x : Int), (y : Int)]) ∧ RowsAt H t [SqM.bI b] ∧ b.length ≤ 31700 ∧ retL H Q (told (answer (.within b x y)))
theorem sc_call_within : FnScope ["numbers", "texts", "x", "y", "text", "fault", "west", "south", "side"] ["numbers", "texts"] (defScope (top 81)) := ⟨rfl, rfl, rfl, by decide +kernel, rfl, by decide +kernel, by decide +kernel⟩
theorem ok_call_within {k : Nat} (F : FnAt K mg "call_within" (top 81)) (g_TOO_LONG : IntAt mg "TOO_LONG" (-2)) (g_OUT_OF_BOUNDS : IntAt mg "OUT_OF_BOUNDS" (-1)) (g_FAULT : IntAt mg "FAULT" (-6)) (c_too_long : CallOk P w K mg base (k + 5) "too_long" ["text"] (sp_too_long K)) (c_in_land : CallOk P w K mg base (k + 5) "in_land" ["x", "y"] sp_in_land) (c_square_of : CallOk P w K mg base (k + 5) "square_of" ["text"] (sp_square_of K)) : CallOk P w K mg base (k + 6) "call_within" ["numbers", "texts"] (sp_call_within K) := by
  obtain ⟨f, fd, g, F⟩ := F
  obtain ⟨t_TOO_LONG, g_TOO_LONG⟩ := g_TOO_LONG
  obtain ⟨t_OUT_OF_BOUNDS, g_OUT_OF_BOUNDS⟩ := g_OUT_OF_BOUNDS
  obtain ⟨t_FAULT, g_FAULT⟩ := g_FAULT
  obtain ⟨f_too_long, d_too_long, g_too_long, k_too_long, b_too_long, G_too_long⟩ := c_too_long.ex
  obtain ⟨f_in_land, d_in_land, g_in_land, k_in_land, b_in_land, G_in_land⟩ := c_in_land.ex
  obtain ⟨f_square_of, d_square_of, g_square_of, k_square_of, b_square_of, G_square_of⟩ := c_square_of.ex
  refine ⟨f, fd, g, F.kp, F.binds fun _ _ _ _ _ _ us hl => match us, hl with | [_, _], _ => rfl, F.ok sc_call_within (fun vs H Q E h => ?_) fun cdv A outer s H vs Q E hr h => ?_⟩
  · obtain ⟨a, t, x, y, b, rfl, _⟩ := h
    rfl
  · obtain ⟨a, t, x, y, b, rfl, hN, hR, hb, q⟩ := h
    refine ⟨_, (pss_cons (ps_asg (pv 0) (pg_unl rfl (pgs_cons (pg_name (i := 2) sc_call_within.nd rfl (.inl rfl)) (pgs_cons (pg_name (i := 3) sc_call_within.nd rfl (.inl rfl)) pgs_nil))))
        (pss_cons (ps_set (i := 4) sc_call_within.nd rfl (.inl rfl) (pe_ix ix_list (pv 1) pe_int (fun _ _ => rfl)))
        (pss_cons (ps_if (pt_val (pe_call G_too_long hr (by rfl) g_too_long k_too_long b_too_long .nil pass0 (pa_cons (pv 4) pa_nil))) (pss_one (ps_ret (pe_lst (pa_cons (pe_glob (v := .int (-2)) rfl g_TOO_LONG ⟨_, rfl⟩) pa_nil)))) pss_nil)
        (pss_cons (ps_if (pt_not (pt_val (pe_call G_in_land hr (by rfl) g_in_land k_in_land b_in_land .nil pass0 (pa_cons (pv 2) (pa_cons (pv 3) pa_nil))))) (pss_one (ps_ret (pe_lst (pa_cons (pe_glob (v := .int (-1)) rfl g_OUT_OF_BOUNDS ⟨_, rfl⟩) pa_nil)))) pss_nil)
        (pss_cons (ps_asg (pe_call G_square_of hr (by rfl) g_square_of k_square_of b_square_of .nil pass0 (pa_cons (pv 4) pa_nil)) (pg_tup rfl (pgs_cons (pg_name (i := 5) sc_call_within.nd rfl (.inl rfl)) (pgs_cons (pg_name (i := 6) sc_call_within.nd rfl (.inl rfl)) (pgs_cons (pg_name (i := 7) sc_call_within.nd rfl (.inl rfl)) (pgs_cons (pg_name (i := 8) sc_call_within.nd rfl (.inl rfl)) pgs_nil))))))
        (pss_cons (ps_if (pt_cmpR op_notN (pv 5) pe_non (nomark _)) (pss_one (ps_ret (pe_lst (pa_cons (pe_glob (v := .int (-6)) rfl g_FAULT ⟨_, rfl⟩) (pa_cons (pv 5) pa_nil))))) pss_nil)
        (pss_cons (ps_if (PW.pt (pw_and (pt_chain op_le op_lt (pv 6) (pv 2) (pe_op op_add (pv 6) (pv 8))) (pw_and1 (pt_chain op_le op_lt (pv 7) (pv 3) (pe_op op_add (pv 7) (pv 8)))))) (pss_one (ps_ret (pe_lst (pa_cons pe_int pa_nil)))) pss_nil)
        (pss_one (ps_ret (pe_lst (pa_cons pe_int pa_nil))))))))))), ?_⟩
    have ans : answer (.within b x y) = if RefsSpec.tooLong b = true then LsAns.says (-2) else if RefsSpec.on x = false ∨ RefsSpec.on y = false then LsAns.says (-1) else (match LsRefs.readRef b with
      | .error p => RefsSpec.fault p
      | .ok q => LsAns.says (if q.has x y = true then 1 else 0)) := rfl
    rw [ans] at q
    obtain ⟨p, ht, hp⟩ := rows_one hR
    refine ⟨_, rfl, a, _, rfl, hN, rfl, _, _, rfl, _, _, rfl, rfl, ?_⟩
    refine ⟨_, rfl, t, _, 0, _, rfl, rfl, sl_of ht, atI_nat (j := 0) rfl, ?_⟩
    refine ⟨.ref p, rfl, p, _, rfl, sl_of hp, _, rfl, ?_⟩
    rw [long_is]
    refine ite2 (fun c => ?_) (fun c => ?_)
    · rw [if_pos c, told_says] at q
      exact ⟨by show 1 ≤ sizeLine; decide, fun p np => ret1 q np⟩
    · rw [if_neg c] at q
      refine ⟨_, rfl, _, rfl, x, y, rfl, fun B hB => ⟨B, rfl, ?_⟩⟩
      cases B
      · have h1 := landN hB
        rw [if_pos (by rw [on_no, on_no]; omega), told_says] at q
        exact iteT ⟨by show 1 ≤ sizeLine; decide, fun p np => ret1 q np⟩
      · obtain ⟨h1, h2⟩ := landY hB
        refine iteF ?_
        rw [if_neg (by rw [on_no, on_no]; omega)] at q
        refine ⟨.ref p, rfl, p, b, rfl, sl_of hp, hb, fun T H1 nT s1 hT => ?_⟩
        replace q := q.from_ s1
        unfold squareV at hT
        cases hr : LsRefs.readRef b with
        | error e =>
          rw [hr] at hT q
          rw [told_fault] at q
          refine ⟨T, _, rfl, st_of hT, rfl, _, _, rfl, _, _, rfl, _, _, rfl, _, _, rfl, rfl, ?_⟩
          exact ⟨_, rfl, rfl, _, rfl, iteT ⟨_, rfl, by show 2 ≤ sizeLine; decide, fun p np => q.new np⟩⟩
        | ok r =>
          rw [hr] at hT q
          rw [told_says] at q
          refine ⟨T, _, rfl, st_of hT, rfl, _, _, rfl, _, _, rfl, _, _, rfl, _, _, rfl, rfl, ?_⟩
          refine ⟨_, rfl, rfl, _, rfl, iteF ?_⟩
          have has : r.has x y = true ↔ ((r.x : Int) ≤ (x : Int) ∧ (x : Int) < (r.x : Int) + (r.side : Int)) ∧ (r.y : Int) ≤ (y : Int) ∧ (y : Int) < (r.y : Int) + (r.side : Int) := by
            unfold LsRefs.Square.has
            simp only [Bool.and_eq_true, decide_eq_true_eq]
            omega
          have no : ¬ (((r.x : Int) ≤ (x : Int) ∧ (x : Int) < (r.x : Int) + (r.side : Int)) ∧ (r.y : Int) ≤ (y : Int) ∧ (y : Int) < (r.y : Int) + (r.side : Int)) → ∀ p, H1 p = none → Q (.ref p) (upd H1 p (.lst [.int 0])) := fun n p np => by
            rw [if_neg fun z => n (has.mp z)] at q
            exact ret1 q np
          refine ⟨_, rfl, _, rfl, _, _, rfl, rfl, _, rfl, ite2 (fun c2 => ?_) (fun c2 => ?_)⟩
          · refine ⟨_, rfl, _, rfl, _, _, rfl, rfl, _, _, rfl, rfl, _, rfl, ite2 (fun c3 => ?_) (fun c3 => ?_)⟩
            · refine ⟨_, rfl, _, rfl, _, _, rfl, rfl, _, rfl, ite2 (fun c4 => ?_) (fun c4 => ?_)⟩
              · refine ⟨_, rfl, _, rfl, _, _, rfl, rfl, _, _, rfl, rfl, _, rfl, ite2 (fun c5 => ?_) (fun c5 => ?_)⟩
                · rw [if_pos (has.mpr ⟨⟨of_decide_eq_true c2, of_decide_eq_true c3⟩, of_decide_eq_true c4, of_decide_eq_true c5⟩)] at q
                  exact ⟨by show 1 ≤ sizeLine; decide, fun p np => ret1 q np⟩
                · exact ⟨by show 1 ≤ sizeLine; decide, no fun z => c5 (decide_eq_true z.2.2)⟩
              · exact ⟨_, rfl, iteF ⟨by show 1 ≤ sizeLine; decide, no fun z => c4 (decide_eq_true z.2.1)⟩⟩
            · exact iteF ⟨by show 1 ≤ sizeLine; decide, no fun z => c3 (decide_eq_true z.1.2)⟩
          · exact ⟨_, rfl, iteF (iteF ⟨by show 1 ≤ sizeLine; decide, no fun z => c2 (decide_eq_true z.1.1)⟩)⟩

/-! ### call_through -/
theorem lines_eq {s a b c d : Nat} : (LsRefs.linesOver s (a, b) (c, d) : Int) = SqM.absI ((c : Int) / s - (a : Int) / s) + SqM.absI ((d : Int) / s - (b : Int) / s) := by
  unfold LsRefs.linesOver SqM.absI
  dsimp only
  split <;> split <;> omega
theorem through_len (s : Nat) (hs : 0 < s ∧ s ≤ 100000) (a b c d : Nat) (ha : a < 1000000) (hb : b < 1000000) (hc : c < 1000000) (hd : d < 1000000) : (LsRefs.through s (a, b) (c, d)).length ≤ 2000001 := by
  rw [SqM.through_eq hs.1, List.length_cons]
  have g := goW_len (SqM.chsS s a b c d) ((a : Int) / s) ((b : Int) / s)
  have n := chs_len (s : Int) a b c d
  have lx := farL_len (s := s) (x := a) (y := c) ⟨by omega, by omega⟩ ⟨by omega, by omega⟩ ⟨by omega, by omega⟩
  have ly := farL_len (s := s) (x := b) (y := d) ⟨by omega, by omega⟩ ⟨by omega, by omega⟩ ⟨by omega, by omega⟩
  omega
theorem flat_cells (s : Nat) (l : List (Int × Int)) : (l.flatMap fun (q : Int × Int) => [q.1 * s, q.2 * s]) = (l.map (cellI s)).flatten := by
  rw [List.flatMap_def]
  rfl
def sp_call_through (K : PySem.W.Frag) : Sp := fun vs H Q _ => ∃ (a t : Addr) (k x0 y0 x1 y1 : Nat), vs = [.ref a, .ref t] ∧ SqL K H a (iv [(k : Int), (x0 : Int), (y0 : Int), (x1 : Int), (y1 : Int)]) ∧ retL H Q (told (answer (.through k x0 y0 x1 y1)))
theorem sc_call_through : FnScope ["numbers", "texts", "k", "from_x", "from_y", "to_x", "to_y", "start", "end", "corners", "answer", "west", "south"] ["numbers", "texts"] (defScope (top 82)) := ⟨rfl, rfl, rfl, by decide +kernel, rfl, by decide +kernel, by decide +kernel⟩
theorem ok_call_through {k : Nat} (F : FnAt K mg "call_through" (top 82)) (g_MOST_DIGITS : IntAt mg "MOST_DIGITS" 5) (g_OUT_OF_BOUNDS : IntAt mg "OUT_OF_BOUNDS" (-1)) (g_MOST_LINES : IntAt mg "MOST_LINES" 200) (g_TOO_MANY : IntAt mg "TOO_MANY" (-7)) (g_SIDES : TupAt K mg "SIDES" (iv cSides)) (n_len : mg "len" = none) (c_in_land : CallOk P w K mg base (k + 3) "in_land" ["x", "y"] sp_in_land) (c_lines_between : CallOk P w K mg base (k + 3) "lines_between" ["start", "end", "side"] (sp_lines_between K)) (c_way_corners : CallOk P w K mg base (k + 3) "way_corners" ["start", "end", "side"] (sp_way_corners K)) : CallOk P w K mg base (k + 4) "call_through" ["numbers", "texts"] (sp_call_through K) := by
  obtain ⟨f, fd, g, F⟩ := F
  obtain ⟨t_MOST_DIGITS, g_MOST_DIGITS⟩ := g_MOST_DIGITS
  obtain ⟨t_OUT_OF_BOUNDS, g_OUT_OF_BOUNDS⟩ := g_OUT_OF_BOUNDS
  obtain ⟨t_MOST_LINES, g_MOST_LINES⟩ := g_MOST_LINES
  obtain ⟨t_TOO_MANY, g_TOO_MANY⟩ := g_TOO_MANY
  obtain ⟨a_SIDES, g_SIDES, s_SIDES, l_SIDES⟩ := g_SIDES
  obtain ⟨f_in_land, d_in_land, g_in_land, k_in_land, b_in_land, G_in_land⟩ := c_in_land.ex
  obtain ⟨f_lines_between, d_lines_between, g_lines_between, k_lines_between, b_lines_between, G_lines_between⟩ := c_lines_between.ex
  obtain ⟨f_way_corners, d_way_corners, g_way_corners, k_way_corners, b_way_corners, G_way_corners⟩ := c_way_corners.ex
  refine ⟨f, fd, g, F.kp, F.binds fun _ _ _ _ _ _ us hl => match us, hl with | [_, _], _ => rfl, F.ok sc_call_through (fun vs H Q E h => ?_) fun cdv A outer s H vs Q E hr h => ?_⟩
  · obtain ⟨a, t, k, x0, y0, x1, y1, rfl, _⟩ := h
    rfl
  · obtain ⟨a, t, k', x0, y0, x1, y1, rfl, hN, q⟩ := h
    refine ⟨_, (pss_cons (ps_asg (pv 0) (pg_unl rfl (pgs_cons (pg_name (i := 2) sc_call_through.nd rfl (.inl rfl)) (pgs_cons (pg_name (i := 3) sc_call_through.nd rfl (.inl rfl)) (pgs_cons (pg_name (i := 4) sc_call_through.nd rfl (.inl rfl)) (pgs_cons (pg_name (i := 5) sc_call_through.nd rfl (.inl rfl)) (pgs_cons (pg_name (i := 6) sc_call_through.nd rfl (.inl rfl)) pgs_nil)))))))
        (pss_cons (ps_if (PW.pt (pw_or (pt_cmpR op_gt (pv 2) (pe_glob (v := .int 5) rfl g_MOST_DIGITS ⟨_, rfl⟩) (nomark _)) (pw_or (pt_not (pt_val (pe_call G_in_land hr (by rfl) g_in_land k_in_land b_in_land .nil pass0 (pa_cons (pv 3) (pa_cons (pv 4) pa_nil))))) (pw_or1 (pt_not (pt_val (pe_call G_in_land hr (by rfl) g_in_land k_in_land b_in_land .nil pass0 (pa_cons (pv 5) (pa_cons (pv 6) pa_nil))))))))) (pss_one (ps_ret (pe_lst (pa_cons (pe_glob (v := .int (-1)) rfl g_OUT_OF_BOUNDS ⟨_, rfl⟩) pa_nil)))) pss_nil)
        (pss_cons (ps_set (i := 7) sc_call_through.nd rfl (.inl rfl) (pe_tup (pa_cons (pv 3) (pa_cons (pv 4) pa_nil))))
        (pss_cons (ps_set (i := 8) sc_call_through.nd rfl (.inl rfl) (pe_tup (pa_cons (pv 5) (pa_cons (pv 6) pa_nil))))
        (pss_cons (ps_if (pt_cmpR op_gt (pe_call G_lines_between hr (by rfl) g_lines_between k_lines_between b_lines_between .nil pass0 (pa_cons (pv 7) (pa_cons (pv 8) (pa_cons (pe_ix ix_tup (pe_glob (v := .ref a_SIDES) rfl g_SIDES rfl) (pv 2) (fun _ _ => rfl)) pa_nil)))) (pe_glob (v := .int 200) rfl g_MOST_LINES ⟨_, rfl⟩) (nomark _)) (pss_one (ps_ret (pe_lst (pa_cons (pe_glob (v := .int (-7)) rfl g_TOO_MANY ⟨_, rfl⟩) pa_nil)))) pss_nil)
        (pss_cons (ps_set (i := 9) sc_call_through.nd rfl (.inl rfl) (pe_call G_way_corners hr (by rfl) g_way_corners k_way_corners b_way_corners .nil pass0 (pa_cons (pv 7) (pa_cons (pv 8) (pa_cons (pe_ix ix_tup (pe_glob (v := .ref a_SIDES) rfl g_SIDES rfl) (pv 2) (fun _ _ => rfl)) pa_nil)))))
        (pss_cons (ps_set (i := 10) sc_call_through.nd rfl (.inl rfl) (pe_lst (pa_cons (pe_callB call_len_seq (by rfl) n_len PySem.boot_len (pa_cons (pv 9) pa_nil)) pa_nil)))
        (pss_cons (ps_for PassesOwn.never rfl (pi_list (pv 9)) (pg_tup rfl (pgs_cons (pg_name (i := 11) sc_call_through.nd rfl (.inl rfl)) (pgs_cons (pg_name (i := 12) sc_call_through.nd rfl (.inl rfl)) pgs_nil))) (pss_cons (ps_expr (pe_bm PySem.F.plainAttrs_list PySem.F.slot_list_append PySem.F.type_list_append mt_append (pv 10) (pa_cons (pv 11) pa_nil)))
        (pss_one (ps_expr (pe_bm PySem.F.plainAttrs_list PySem.F.slot_list_append PySem.F.type_list_append mt_append (pv 10) (pa_cons (pv 12) pa_nil))))))
        (pss_one (ps_ret (pv 10))))))))))), ?_⟩
    have ans : answer (.through k' x0 y0 x1 y1) = if 5 < k' ∨ [x0, y0, x1, y1].all RefsSpec.on = false then LsAns.says (-1) else if 200 < LsRefs.linesOver (LsRefs.sideOf k') (x0, y0) (x1, y1) then LsAns.says (-7)
      else LsAns.tells ((LsRefs.through (LsRefs.sideOf k') (x0, y0) (x1, y1)).length : Int) ((LsRefs.through (LsRefs.sideOf k') (x0, y0) (x1, y1)).flatMap fun (q : Int × Int) => [q.1 * LsRefs.sideOf k', q.2 * LsRefs.sideOf k']) := rfl
    rw [ans] at q
    have bad : (5 < k' ∨ ¬ ((x0 < 1000000 ∧ y0 < 1000000) ∧ x1 < 1000000 ∧ y1 < 1000000)) → ∀ p, H p = none → Q (.ref p) (upd H p (.lst [.int (-1)])) := fun h p np => by
      rw [if_pos (by rw [on_all]; exact h), told_says] at q
      exact ret1 q np
    refine ⟨_, rfl, a, _, rfl, hN, rfl, _, _, rfl, _, _, rfl, _, _, rfl, _, _, rfl, _, _, rfl, rfl, ?_⟩
    refine ⟨_, rfl, _, _, rfl, rfl, _, rfl, ite2 (fun c => ?_) (fun c => ?_)⟩
    · have := of_decide_eq_true c
      exact iteT ⟨by show 1 ≤ sizeLine; decide, bad (.inl (by omega))⟩
    · have hk : ¬ (5 : Int) < (k' : Int) := fun z => c (decide_eq_true z)
      refine ⟨_, rfl, _, rfl, x0, y0, rfl, fun B hB => ⟨B, rfl, ?_⟩⟩
      cases B
      · exact iteT (iteT ⟨by show 1 ≤ sizeLine; decide, bad (.inr fun z => landN hB z.1)⟩)
      · obtain ⟨h1, h2⟩ := landY hB
        refine iteF ⟨_, rfl, _, rfl, x1, y1, rfl, fun B2 hB2 => ⟨B2, rfl, ?_⟩⟩
        cases B2
        · exact iteT ⟨by show 1 ≤ sizeLine; decide, bad (.inr fun z => landN hB2 z.2)⟩
        · obtain ⟨h3, h4⟩ := landY hB2
          refine iteF ?_
          rw [if_neg (by rw [on_all]; omega)] at q
          have hk5 : k' ≤ 5 := by omega
          obtain ⟨b1, b2, _⟩ := side_bd k' hk5
          refine ⟨_, rfl, _, rfl, by show 2 ≤ sizeLine; decide, fun T1 nT1 => ?_⟩
          refine ⟨_, rfl, _, rfl, by show 2 ≤ sizeLine; decide, fun T2 nT2 => ?_⟩
          have s1 : Same H (upd H T1 (.tup [.int (x0 : Int), .int (y0 : Int)])) := same_upd nT1
          have s2 : Same (upd H T1 (.tup [.int (x0 : Int), .int (y0 : Int)])) (upd (upd H T1 (.tup [.int (x0 : Int), .int (y0 : Int)])) T2 (.tup [.int (x1 : Int), .int (y1 : Int)])) := same_upd nT2
          have hA : SqT K (upd (upd H T1 (.tup [.int (x0 : Int), .int (y0 : Int)])) T2 (.tup [.int (x1 : Int), .int (y1 : Int)])) T1 (twoV x0 y0) := st_of (s2 _ _ upd_same)
          have hB : SqT K (upd (upd H T1 (.tup [.int (x0 : Int), .int (y0 : Int)])) T2 (.tup [.int (x1 : Int), .int (y1 : Int)])) T2 (twoV x1 y1) := st_of upd_same
          replace q := q.from_ (s1.trans s2)
          refine ⟨_, rfl, _, rfl, _, rfl, _, _, _, _, rfl, rfl, s_SIDES _, at_iv rfl (side_k k' hk5), T1, T2, x0, y0, x1, y1, ((LsRefs.sideOf k' : Nat) : Int), rfl, hA, hB, ⟨by omega, by omega⟩, _, _, rfl, rfl, _, rfl, ?_⟩
          have el : decide ((200 : Int) < SqM.absI ((x1 : Int) / ((LsRefs.sideOf k' : Nat) : Int) - (x0 : Int) / ((LsRefs.sideOf k' : Nat) : Int)) + SqM.absI ((y1 : Int) / ((LsRefs.sideOf k' : Nat) : Int) - (y0 : Int) / ((LsRefs.sideOf k' : Nat) : Int))) = decide (200 < LsRefs.linesOver (LsRefs.sideOf k') (x0, y0) (x1, y1)) :=
            decide_eq_decide.mpr (by rw [← lines_eq]; omega)
          rw [el]
          refine ite2 (fun c3 => ?_) (fun c3 => ?_)
          · rw [if_pos (of_decide_eq_true c3), told_says] at q
            exact ⟨by show 1 ≤ sizeLine; decide, fun p np => ret1 q np⟩
          · rw [if_neg fun z => c3 (decide_eq_true z), flat_cells] at q
            have hlen := through_len (LsRefs.sideOf k') ⟨b1, b2⟩ x0 y0 x1 y1 h1 h2 h3 h4
            refine ⟨_, rfl, _, rfl, _, rfl, _, _, _, _, rfl, rfl, s_SIDES _, at_iv rfl (side_k k' hk5), T1, T2, x0, y0, x1, y1, LsRefs.sideOf k', rfl, hA, hB, ⟨b1, b2⟩, ⟨by omega, by omega⟩, ⟨by omega, by omega⟩, ⟨by omega, by omega⟩, ⟨by omega, by omega⟩, fun p H3 np s3 hp => ?_⟩
            replace q := q.from_ s3
            clear hA hB
            generalize hL : LsRefs.through (LsRefs.sideOf k') ((x0 : Int), (y0 : Int)) ((x1 : Int), (y1 : Int)) = L at *
            obtain ⟨bs, hbs, hbl, hbt⟩ := hp
            have blen : bs.length = L.length := by
              have := congrArg List.length hbl
              rw [List.length_map, List.length_map] at this
              exact this
            refine ⟨_, rfl, p, _, rfl, .inl (sl_of hbs), by show 1 ≤ sizeLine; decide, fun o no => ?_⟩
            have so : Same H3 (upd H3 o (.lst [.int ((bs.map fun b => V.ref b.1).length : Int)])) := same_upd no
            have po : p ≠ o := ne_of_none hbs no
            refine ⟨_, rfl, p, rfl, ⟨_, sl_of (so _ _ hbs)⟩, for_it (walk_list (K := K) (a := p) (xs := bs.map fun b => V.ref b.1))
              (fun i σ H' => Same H3 H' ∧ H' o = some (.lst (iv ((L.length : Int) :: ((L.take i).map (cellI (LsRefs.sideOf k'))).flatten))) ∧ ∃ y11 y12, σ = [some (.ref a), some (.ref t), some (.int (k' : Int)), some (.int (x0 : Int)), some (.int (y0 : Int)), some (.int (x1 : Int)), some (.int (y1 : Int)), some (.ref T1), some (.ref T2), some (.ref p), some (.ref o), y11, y12]) ?_ ?_ ?_ ?_⟩
            · refine ⟨so, ?_, _, _, rfl⟩
              rw [upd_same, List.length_map, blen]
              rfl
            · rintro i σ H' _ ⟨sm, _⟩
              exact sl_of (sm _ _ hbs)
            · rintro i v σ H0 H' hi ⟨sm, ho, y11, y12, rfl⟩ ⟨rfl, hx⟩
              rw [List.length_map, blen] at hi
              have hLi : L[i]? = some L[i] := List.getElem?_eq_getElem hi
              obtain ⟨tb, hb1, ht1⟩ : ∃ tb, bs[i]? = some (tb, cellI (LsRefs.sideOf k') L[i]) ∧ H3 tb = some (.tup (iv (cellI (LsRefs.sideOf k') L[i]))) := by
                have h1 : (bs.map (·.2))[i]? = some (cellI (LsRefs.sideOf k') L[i]) := by
                  rw [hbl, List.getElem?_map, hLi]
                  rfl
                rw [List.getElem?_map] at h1
                cases e : bs[i]? with
                | none =>
                  rw [e] at h1
                  cases h1
                | some b =>
                  rw [e] at h1
                  have h2 : b.2 = cellI (LsRefs.sideOf k') L[i] := Option.some.inj h1
                  refine ⟨b.1, by rw [← h2], ?_⟩
                  rw [← h2]
                  exact hbt b (List.mem_of_getElem? e)
              rw [List.getElem?_map, hb1] at hx
              have exr : v = .ref tb := (Option.some.inj hx).symm
              subst exr
              have fl : ((L.take i).map (cellI (LsRefs.sideOf k'))).flatten.length = 2 * i := by
                rw [List.length_flatten, List.map_map]
                have : ∀ l : List (Int × Int), (l.map (List.length ∘ cellI (LsRefs.sideOf k'))).sum = 2 * l.length := by
                  intro l
                  induction l with
                  | nil => rfl
                  | cons x l ih =>
                    rw [List.map_cons, List.sum_cons, ih, List.length_cons]
                    show 2 + _ = _
                    omega
                rw [this, List.length_take]
                omega
              refine ⟨tb, _, rfl, st_of (sm _ _ ht1), rfl, _, _, rfl, _, _, rfl, rfl, ?_⟩
              refine ⟨_, rfl, .inl ⟨rfl, _, sl_of ho⟩, _, rfl, o, _, _, rfl, rfl, ho, by rw [iv_len, List.length_cons, fl]; exact big' (by omega), ?_⟩
              refine ⟨_, rfl, .inl ⟨rfl, _, sl_of upd_same⟩, _, rfl, o, _, _, rfl, rfl, upd_same, by rw [List.length_append, iv_len, List.length_cons, fl]; exact big' (by show 2 * i + 1 + 1 < _; omega), ?_⟩
              refine ⟨same_mut (same_mut sm no) no, ?_, _, _, rfl⟩
              rw [upd_same, take_snoc hLi, List.map_append, List.flatten_append, ← List.cons_append, iv_append, List.append_assoc]
              rfl
            · rintro σ H' ⟨sm, ho, y11, y12, rfl⟩
              rw [List.length_map, blen, List.take_length] at ho
              refine ⟨_, rfl, q o H' no sm ?_⟩
              rw [ho]
              unfold told LsAns.tells
              simp

end
end SqW

/-! SqW9: the calls on sheets. -/
namespace SqW
open PySem PySem.Spec PyProof.Rows L2
open LsText (Bytes)
open LsRefs (Sheet)
open LsRows (told)
open RefsSpec (answer)
theorem codeI_len (c : Sheet) : (SqM.codeI c).length = c.length + 1 := by
  unfold SqM.codeI
  rw [List.length_cons, List.length_map]
/-- a code as it is answered -/
theorem code_told {c : Sheet} (h : ∀ d ∈ c, 1 ≤ d ∧ d ≤ 4) : told (LsAns.gives (LsRefs.codeText c)) = ((SqM.codeI c).length : Int) :: SqM.codeI c := by
  rw [told_gives, SqM.codeI_eq h, ← SqM.codeI_eq h, bI_len]
theorem ofCode_long {c : Bytes} {f : Sheet → LsAns.Ans} (h : RefsSpec.tooLong c = true) : RefsSpec.ofCode c f = LsAns.says (-2) := by
  unfold RefsSpec.ofCode
  rw [if_pos h]
theorem ofCode_error {c : Bytes} {f : Sheet → LsAns.Ans} {p : Nat} (h : ¬ RefsSpec.tooLong c = true) (e : LsRefs.readCode c = .error p) : RefsSpec.ofCode c f = RefsSpec.fault p := by
  unfold RefsSpec.ofCode
  rw [if_neg h, e]
theorem ofCode_ok {c : Bytes} {f : Sheet → LsAns.Ans} {s : Sheet} (h : ¬ RefsSpec.tooLong c = true) (e : LsRefs.readCode c = .ok s) : RefsSpec.ofCode c f = f s := by
  unfold RefsSpec.ofCode
  rw [if_neg h, e]
theorem spaced_len {n : Nat} : ∀ l : List Bytes, (∀ b ∈ l, b.length ≤ n) → (LsText.spaced l).length ≤ l.length * (n + 1)
  | [], _ => Nat.zero_le _
  | [w], h => by
    have := h w (by simp)
    show w.length ≤ 1 * (n + 1)
    omega
  | w :: v :: r, h => by
    have h1 := h w (by simp)
    have ih := spaced_len (v :: r) fun b hb => h b (List.mem_cons_of_mem _ hb)
    show (w ++ (32 :: LsText.spaced (v :: r))).length ≤ _
    rw [List.length_append, List.length_cons]
    show _ ≤ ((v :: r).length + 1) * (n + 1)
    rw [Nat.add_mul]
    omega
section
variable {P : Program} {w : World} {K : PySem.W.Frag} {mg : Str → Option Value} {base : Heap}
/-! ### call_sheet -/
def sp_call_sheet (K : PySem.W.Frag) : Sp := fun vs H Q _ => ∃ (a t : Addr) (s x y : Nat), vs = [.ref a, .ref t] ∧ SqL K H a (iv [(s : Int), (x : Int), (y : Int)]) ∧ retL H Q (told (answer (.sheet s x y)))
theorem sc_call_sheet : FnScope ["numbers", "texts", "series", "x", "y"] ["numbers", "texts"] (defScope (top 56)) := ⟨rfl, rfl, rfl, by decide +kernel, rfl, by decide +kernel, by decide +kernel⟩
theorem ok_call_sheet {k : Nat} (F : FnAt K mg "call_sheet" (top 56)) (g_HIGHEST_SERIES : IntAt mg "HIGHEST_SERIES" 6) (g_OUT_OF_BOUNDS : IntAt mg "OUT_OF_BOUNDS" (-1)) (c_in_land : CallOk P w K mg base (k + 2) "in_land" ["x", "y"] sp_in_land) (c_as_text : CallOk P w K mg base (k + 2) "as_text" ["row"] sp_as_text) (c_code_of : CallOk P w K mg base (k + 2) "code_of" ["quarters"] (sp_code_of K)) (c_quarters_at : CallOk P w K mg base (k + 2) "quarters_at" ["series", "x", "y"] sp_quarters_at) : CallOk P w K mg base (k + 3) "call_sheet" ["numbers", "texts"] (sp_call_sheet K) := by
  obtain ⟨f, fd, g, F⟩ := F
  obtain ⟨t_HIGHEST_SERIES, g_HIGHEST_SERIES⟩ := g_HIGHEST_SERIES
  obtain ⟨t_OUT_OF_BOUNDS, g_OUT_OF_BOUNDS⟩ := g_OUT_OF_BOUNDS
  obtain ⟨f_in_land, d_in_land, g_in_land, k_in_land, b_in_land, G_in_land⟩ := c_in_land.ex
  obtain ⟨f_as_text, d_as_text, g_as_text, k_as_text, b_as_text, G_as_text⟩ := c_as_text.ex
  obtain ⟨f_code_of, d_code_of, g_code_of, k_code_of, b_code_of, G_code_of⟩ := c_code_of.ex
  obtain ⟨f_quarters_at, d_quarters_at, g_quarters_at, k_quarters_at, b_quarters_at, G_quarters_at⟩ := c_quarters_at.ex
  refine ⟨f, fd, g, F.kp, F.binds fun _ _ _ _ _ _ us hl => match us, hl with | [_, _], _ => rfl, F.ok sc_call_sheet (fun vs H Q E h => ?_) fun cdv A outer s H vs Q E hr h => ?_⟩
  · obtain ⟨a, t, s, x, y, rfl, _⟩ := h
    rfl
  · obtain ⟨a, t, s', x, y, rfl, hN, q⟩ := h
    refine ⟨_, (pss_cons (ps_asg (pv 0) (pg_unl rfl (pgs_cons (pg_name (i := 2) sc_call_sheet.nd rfl (.inl rfl)) (pgs_cons (pg_name (i := 3) sc_call_sheet.nd rfl (.inl rfl)) (pgs_cons (pg_name (i := 4) sc_call_sheet.nd rfl (.inl rfl)) pgs_nil)))))
        (pss_cons (ps_if (PW.pt (pw_or (pt_cmpR op_gt (pv 2) (pe_glob (v := .int 6) rfl g_HIGHEST_SERIES ⟨_, rfl⟩) (nomark _)) (pw_or1 (pt_not (pt_val (pe_call G_in_land hr (by rfl) g_in_land k_in_land b_in_land .nil pass0 (pa_cons (pv 3) (pa_cons (pv 4) pa_nil)))))))) (pss_one (ps_ret (pe_lst (pa_cons (pe_glob (v := .int (-1)) rfl g_OUT_OF_BOUNDS ⟨_, rfl⟩) pa_nil)))) pss_nil)
        (pss_one (ps_ret (pe_call G_as_text hr (by rfl) g_as_text k_as_text b_as_text .nil pass0 (pa_cons (pe_call G_code_of hr (by rfl) g_code_of k_code_of b_code_of .nil pass0 (pa_cons (pe_call G_quarters_at hr (by rfl) g_quarters_at k_quarters_at b_quarters_at .nil pass0 (pa_cons (pv 2) (pa_cons (pv 3) (pa_cons (pv 4) pa_nil)))) pa_nil)) pa_nil)))))), ?_⟩
    have ans : answer (.sheet s' x y) = if 6 < s' ∨ RefsSpec.on x = false ∨ RefsSpec.on y = false then LsAns.says (-1) else LsAns.gives (LsRefs.codeText (LsRefs.sheetOf s' x y)) := rfl
    rw [ans] at q
    have bad : (6 < s' ∨ ¬ (x < 1000000 ∧ y < 1000000)) → ∀ p, H p = none → Q (.ref p) (upd H p (.lst [.int (-1)])) := fun h p np => by
      rw [if_pos (by rw [on_no, on_no]; omega), told_says] at q
      exact ret1 q np
    refine ⟨_, rfl, a, _, rfl, hN, rfl, _, _, rfl, _, _, rfl, _, _, rfl, rfl, ?_⟩
    refine ⟨_, rfl, _, _, rfl, rfl, _, rfl, ite2 (fun c => ?_) (fun c => ?_)⟩
    · have := of_decide_eq_true c
      exact iteT ⟨by show 1 ≤ sizeLine; decide, bad (.inl (by omega))⟩
    · have hs : ¬ (6 : Int) < (s' : Int) := fun z => c (decide_eq_true z)
      refine ⟨_, rfl, _, rfl, x, y, rfl, fun B hB => ⟨B, rfl, ?_⟩⟩
      cases B
      · exact iteT ⟨by show 1 ≤ sizeLine; decide, bad (.inr (landN hB))⟩
      · obtain ⟨h1, h2⟩ := landY hB
        refine iteF ?_
        rw [if_neg (by rw [on_no, on_no]; omega), SqM.sheetOf_eq (by omega) h1 h2, code_told (SqM.qsFrom_rng _ _ _ _)] at q
        refine ⟨_, rfl, _, rfl, _, rfl, s', x, y, rfl, by omega, fun p H1 np s1 hp => ?_⟩
        refine ⟨p, SqM.qsFrom LsRefs.LAND x y s', rfl, sl_of hp, by rw [SqM.qsFrom_len]; omega, fun p2 H2 np2 s2 hp2 => ?_⟩
        exact ⟨p2, _, rfl, hp2, by rw [codeI_len, SqM.qsFrom_len]; omega, q.from_ (s1.trans s2)⟩

/-! ### call_box -/
def sp_call_box (K : PySem.W.Frag) : Sp := fun vs H Q _ => ∃ (a t : Addr) (b : Bytes), vs = [.ref a, .ref t] ∧ RowsAt H t [SqM.bI b] ∧ b.length ≤ 31700 ∧ retL H Q (told (answer (.box b)))
theorem sc_call_box : FnScope ["numbers", "texts", "code", "fault", "west", "south", "side"] ["numbers", "texts"] (defScope (top 57)) := ⟨rfl, rfl, rfl, by decide +kernel, rfl, by decide +kernel, by decide +kernel⟩
theorem ok_call_box {k : Nat} (F : FnAt K mg "call_box" (top 57)) (g_TOO_LONG : IntAt mg "TOO_LONG" (-2)) (g_FAULT : IntAt mg "FAULT" (-6)) (c_too_long : CallOk P w K mg base (k + 1) "too_long" ["text"] (sp_too_long K)) (c_code_fault : CallOk P w K mg base (k + 1) "code_fault" ["code"] (sp_code_fault K)) (c_ground : CallOk P w K mg base (k + 1) "ground" ["quarters"] (sp_ground K)) (c_quarters_of : CallOk P w K mg base (k + 1) "quarters_of" ["code"] (sp_quarters_of K)) : CallOk P w K mg base (k + 2) "call_box" ["numbers", "texts"] (sp_call_box K) := by
  obtain ⟨f, fd, g, F⟩ := F
  obtain ⟨t_TOO_LONG, g_TOO_LONG⟩ := g_TOO_LONG
  obtain ⟨t_FAULT, g_FAULT⟩ := g_FAULT
  obtain ⟨f_too_long, d_too_long, g_too_long, k_too_long, b_too_long, G_too_long⟩ := c_too_long.ex
  obtain ⟨f_code_fault, d_code_fault, g_code_fault, k_code_fault, b_code_fault, G_code_fault⟩ := c_code_fault.ex
  obtain ⟨f_ground, d_ground, g_ground, k_ground, b_ground, G_ground⟩ := c_ground.ex
  obtain ⟨f_quarters_of, d_quarters_of, g_quarters_of, k_quarters_of, b_quarters_of, G_quarters_of⟩ := c_quarters_of.ex
  refine ⟨f, fd, g, F.kp, F.binds fun _ _ _ _ _ _ us hl => match us, hl with | [_, _], _ => rfl, F.ok sc_call_box (fun vs H Q E h => ?_) fun cdv A outer s H vs Q E hr h => ?_⟩
  · obtain ⟨a, t, b, rfl, _⟩ := h
    rfl
  · obtain ⟨a, t, b, rfl, hR, hb, q⟩ := h
    refine ⟨_, (pss_cons (ps_set (i := 2) sc_call_box.nd rfl (.inl rfl) (pe_ix ix_list (pv 1) pe_int (fun _ _ => rfl)))
        (pss_cons (ps_if (pt_val (pe_call G_too_long hr (by rfl) g_too_long k_too_long b_too_long .nil pass0 (pa_cons (pv 2) pa_nil))) (pss_one (ps_ret (pe_lst (pa_cons (pe_glob (v := .int (-2)) rfl g_TOO_LONG ⟨_, rfl⟩) pa_nil)))) pss_nil)
        (pss_cons (ps_set (i := 3) sc_call_box.nd rfl (.inl rfl) (pe_call G_code_fault hr (by rfl) g_code_fault k_code_fault b_code_fault .nil pass0 (pa_cons (pv 2) pa_nil)))
        (pss_cons (ps_if (pt_cmpR op_notN (pv 3) pe_non (nomark _)) (pss_one (ps_ret (pe_lst (pa_cons (pe_glob (v := .int (-6)) rfl g_FAULT ⟨_, rfl⟩) (pa_cons (pv 3) pa_nil))))) pss_nil)
        (pss_cons (ps_asg (pe_call G_ground hr (by rfl) g_ground k_ground b_ground .nil pass0 (pa_cons (pe_call G_quarters_of hr (by rfl) g_quarters_of k_quarters_of b_quarters_of .nil pass0 (pa_cons (pv 2) pa_nil)) pa_nil)) (pg_tup rfl (pgs_cons (pg_name (i := 4) sc_call_box.nd rfl (.inl rfl)) (pgs_cons (pg_name (i := 5) sc_call_box.nd rfl (.inl rfl)) (pgs_cons (pg_name (i := 6) sc_call_box.nd rfl (.inl rfl)) pgs_nil)))))
        (pss_one (ps_ret (pe_lst (pa_cons pe_int (pa_cons (pv 4) (pa_cons (pv 5) (pa_cons (pv 6) pa_nil)))))))))))), ?_⟩
    have ans : answer (.box b) = RefsSpec.ofCode b fun s => LsAns.tells 0 (RefsSpec.boxNums (LsRefs.boxOf s)) := rfl
    rw [ans] at q
    obtain ⟨p, ht, hp⟩ := rows_one hR
    refine ⟨_, rfl, t, _, 0, _, rfl, rfl, sl_of ht, atI_nat (j := 0) rfl, ?_⟩
    refine ⟨.ref p, rfl, p, _, rfl, sl_of hp, _, rfl, ?_⟩
    rw [long_is]
    refine ite2 (fun c => ?_) (fun c => ?_)
    · rw [ofCode_long c, told_says] at q
      exact ⟨by show 1 ≤ sizeLine; decide, fun p np => ret1 q np⟩
    · refine ⟨.ref p, rfl, p, b, rfl, sl_of hp, hb, fun H1 s1 => ?_⟩
      replace q := q.from_ s1
      cases hr : LsRefs.readCode b with
      | error e =>
        rw [ofCode_error c hr, told_fault] at q
        rw [faultV_error hr]
        exact ⟨_, rfl, rfl, _, rfl, iteT ⟨_, rfl, by show 2 ≤ sizeLine; decide, fun p np => q.new np⟩⟩
      | ok s' =>
        rw [ofCode_ok c hr, told_box] at q
        rw [faultV_ok hr]
        refine ⟨_, rfl, rfl, _, rfl, iteF ⟨.ref p, rfl, p, b, s', rfl, sl_of (s1 _ _ hp), hr, fun p2 H2 np2 s2 hp2 => ⟨p2, s', rfl, sl_of hp2, readCode_sh hr, fun T H3 nT s3 hT => ?_⟩⟩⟩
        replace q := q.from_ (s2.trans s3)
        exact ⟨T, _, rfl, st_of hT, rfl, _, _, rfl, _, _, rfl, _, _, rfl, rfl, _, rfl, _, rfl, _, rfl, by show 4 ≤ sizeLine; decide, fun p np => q.new np⟩

/-! ### call_near -/
theorem near_sh {c e : Sheet} {d : Nat} (hc : SqM.Sh c) (hd : d < 8) (h : LsRefs.near c d = some e) : e.length ≤ 6 ∧ ∀ x ∈ e, 1 ≤ x ∧ x ≤ 4 := by
  rw [near_eq c d hd] at h
  split at h
  · rename_i z
    rw [SqM.sheetOf_eq hc.1 (by unfold LsRefs.LAND; omega) (by unfold LsRefs.LAND; omega)] at h
    have e1 := Option.some.inj h
    rw [← e1]
    exact ⟨by rw [SqM.qsFrom_len]; exact hc.1, SqM.qsFrom_rng _ _ _ _⟩
  · cases h
def sp_call_near (K : PySem.W.Frag) : Sp := fun vs H Q _ => ∃ (a t : Addr) (d : Nat) (b : Bytes), vs = [.ref a, .ref t] ∧ SqL K H a (iv [(d : Int)]) ∧ RowsAt H t [SqM.bI b] ∧ b.length ≤ 31700 ∧ retL H Q (told (answer (.near b d)))
theorem sc_call_near : FnScope ["numbers", "texts", "heading", "code", "fault", "found"] ["numbers", "texts"] (defScope (top 58)) := ⟨rfl, rfl, rfl, by decide +kernel, rfl, by decide +kernel, by decide +kernel⟩
theorem ok_call_near {k : Nat} (F : FnAt K mg "call_near" (top 58)) (g_TOO_LONG : IntAt mg "TOO_LONG" (-2)) (g_LAST_HEADING : IntAt mg "LAST_HEADING" 7) (g_OUT_OF_BOUNDS : IntAt mg "OUT_OF_BOUNDS" (-1)) (g_FAULT : IntAt mg "FAULT" (-6)) (g_NO_SUCH : IntAt mg "NO_SUCH" (-4)) (c_too_long : CallOk P w K mg base (k + 3) "too_long" ["text"] (sp_too_long K)) (c_code_fault : CallOk P w K mg base (k + 3) "code_fault" ["code"] (sp_code_fault K)) (c_beside : CallOk P w K mg base (k + 3) "beside" ["quarters", "heading"] (sp_beside K)) (c_quarters_of : CallOk P w K mg base (k + 3) "quarters_of" ["code"] (sp_quarters_of K)) (c_as_text : CallOk P w K mg base (k + 3) "as_text" ["row"] sp_as_text) (c_code_of : CallOk P w K mg base (k + 3) "code_of" ["quarters"] (sp_code_of K)) : CallOk P w K mg base (k + 4) "call_near" ["numbers", "texts"] (sp_call_near K) := by
  obtain ⟨f, fd, g, F⟩ := F
  obtain ⟨t_TOO_LONG, g_TOO_LONG⟩ := g_TOO_LONG
  obtain ⟨t_LAST_HEADING, g_LAST_HEADING⟩ := g_LAST_HEADING
  obtain ⟨t_OUT_OF_BOUNDS, g_OUT_OF_BOUNDS⟩ := g_OUT_OF_BOUNDS
  obtain ⟨t_FAULT, g_FAULT⟩ := g_FAULT
  obtain ⟨t_NO_SUCH, g_NO_SUCH⟩ := g_NO_SUCH
  obtain ⟨f_too_long, d_too_long, g_too_long, k_too_long, b_too_long, G_too_long⟩ := c_too_long.ex
  obtain ⟨f_code_fault, d_code_fault, g_code_fault, k_code_fault, b_code_fault, G_code_fault⟩ := c_code_fault.ex
  obtain ⟨f_beside, d_beside, g_beside, k_beside, b_beside, G_beside⟩ := c_beside.ex
  obtain ⟨f_quarters_of, d_quarters_of, g_quarters_of, k_quarters_of, b_quarters_of, G_quarters_of⟩ := c_quarters_of.ex
  obtain ⟨f_as_text, d_as_text, g_as_text, k_as_text, b_as_text, G_as_text⟩ := c_as_text.ex
  obtain ⟨f_code_of, d_code_of, g_code_of, k_code_of, b_code_of, G_code_of⟩ := c_code_of.ex
  refine ⟨f, fd, g, F.kp, F.binds fun _ _ _ _ _ _ us hl => match us, hl with | [_, _], _ => rfl, F.ok sc_call_near (fun vs H Q E h => ?_) fun cdv A outer s H vs Q E hr h => ?_⟩
  · obtain ⟨a, t, d, b, rfl, _⟩ := h
    rfl
  · obtain ⟨a, t, d, b, rfl, hN, hR, hb, q⟩ := h
    refine ⟨_, (pss_cons (ps_set (i := 2) sc_call_near.nd rfl (.inl rfl) (pe_ix ix_list (pv 0) pe_int (fun _ _ => rfl)))
        (pss_cons (ps_set (i := 3) sc_call_near.nd rfl (.inl rfl) (pe_ix ix_list (pv 1) pe_int (fun _ _ => rfl)))
        (pss_cons (ps_if (pt_val (pe_call G_too_long hr (by rfl) g_too_long k_too_long b_too_long .nil pass0 (pa_cons (pv 3) pa_nil))) (pss_one (ps_ret (pe_lst (pa_cons (pe_glob (v := .int (-2)) rfl g_TOO_LONG ⟨_, rfl⟩) pa_nil)))) pss_nil)
        (pss_cons (ps_if (pt_cmpR op_gt (pv 2) (pe_glob (v := .int 7) rfl g_LAST_HEADING ⟨_, rfl⟩) (nomark _)) (pss_one (ps_ret (pe_lst (pa_cons (pe_glob (v := .int (-1)) rfl g_OUT_OF_BOUNDS ⟨_, rfl⟩) pa_nil)))) pss_nil)
        (pss_cons (ps_set (i := 4) sc_call_near.nd rfl (.inl rfl) (pe_call G_code_fault hr (by rfl) g_code_fault k_code_fault b_code_fault .nil pass0 (pa_cons (pv 3) pa_nil)))
        (pss_cons (ps_if (pt_cmpR op_notN (pv 4) pe_non (nomark _)) (pss_one (ps_ret (pe_lst (pa_cons (pe_glob (v := .int (-6)) rfl g_FAULT ⟨_, rfl⟩) (pa_cons (pv 4) pa_nil))))) pss_nil)
        (pss_cons (ps_set (i := 5) sc_call_near.nd rfl (.inl rfl) (pe_call G_beside hr (by rfl) g_beside k_beside b_beside .nil pass0 (pa_cons (pe_call G_quarters_of hr (by rfl) g_quarters_of k_quarters_of b_quarters_of .nil pass0 (pa_cons (pv 3) pa_nil)) (pa_cons (pv 2) pa_nil))))
        (pss_cons (ps_if (pt_cmpR op_isN (pv 5) pe_non (nomark _)) (pss_one (ps_ret (pe_lst (pa_cons (pe_glob (v := .int (-4)) rfl g_NO_SUCH ⟨_, rfl⟩) pa_nil)))) pss_nil)
        (pss_one (ps_ret (pe_call G_as_text hr (by rfl) g_as_text k_as_text b_as_text .nil pass0 (pa_cons (pe_call G_code_of hr (by rfl) g_code_of k_code_of b_code_of .nil pass0 (pa_cons (pv 5) pa_nil)) pa_nil)))))))))))), ?_⟩
    have ans : answer (.near b d) = if RefsSpec.tooLong b = true then LsAns.says (-2) else if 7 < d then LsAns.says (-1) else RefsSpec.ofCode b fun s => match LsRefs.near s d with
      | some e => LsAns.gives (LsRefs.codeText e)
      | none => LsAns.says (-4) := rfl
    rw [ans] at q
    obtain ⟨p, ht, hp⟩ := rows_one hR
    refine ⟨_, rfl, a, _, 0, _, rfl, rfl, hN, atI_nat (j := 0) rfl, ?_⟩
    refine ⟨_, rfl, t, _, 0, _, rfl, rfl, sl_of ht, atI_nat (j := 0) rfl, ?_⟩
    refine ⟨.ref p, rfl, p, _, rfl, sl_of hp, _, rfl, ?_⟩
    rw [long_is]
    refine ite2 (fun c => ?_) (fun c => ?_)
    · rw [if_pos c, told_says] at q
      exact ⟨by show 1 ≤ sizeLine; decide, fun p np => ret1 q np⟩
    · rw [if_neg c] at q
      refine ⟨_, rfl, _, _, rfl, rfl, _, rfl, ite2 (fun c1 => ?_) (fun c1 => ?_)⟩
      · have := of_decide_eq_true c1
        rw [if_pos (by omega), told_says] at q
        exact ⟨by show 1 ≤ sizeLine; decide, fun p np => ret1 q np⟩
      · have h7 : ¬ (7 : Int) < (d : Int) := fun z => c1 (decide_eq_true z)
        rw [if_neg (by omega)] at q
        refine ⟨.ref p, rfl, p, b, rfl, sl_of hp, hb, fun H1 s1 => ?_⟩
        replace q := q.from_ s1
        cases hr : LsRefs.readCode b with
        | error e =>
          rw [ofCode_error c hr, told_fault] at q
          rw [faultV_error hr]
          exact ⟨_, rfl, rfl, _, rfl, iteT ⟨_, rfl, by show 2 ≤ sizeLine; decide, fun p np => q.new np⟩⟩
        | ok s' =>
          rw [ofCode_ok c hr] at q
          rw [faultV_ok hr]
          have sh := readCode_sh hr
          refine ⟨_, rfl, rfl, _, rfl, iteF ⟨.ref p, rfl, p, b, s', rfl, sl_of (s1 _ _ hp), hr, fun p2 H2 np2 s2 hp2 => ⟨_, rfl, p2, s', d, rfl, sl_of hp2, sh, by omega, fun e he p3 H3 np3 s3 hp3 => ?_, fun hn H3 s3 => ?_⟩⟩⟩
          · obtain ⟨l6, r4⟩ := near_sh sh (by omega) he
            rw [he, code_told r4] at q
            refine ⟨_, rfl, rfl, _, rfl, iteF ⟨_, rfl, p3, e, rfl, sl_of hp3, by omega, fun p4 H4 np4 s4 hp4 => ?_⟩⟩
            exact ⟨p4, _, rfl, hp4, by rw [codeI_len]; omega, q.from_ ((s2.trans s3).trans s4)⟩
          · rw [hn, told_says] at q
            replace q := q.from_ (s2.trans s3)
            exact ⟨_, rfl, rfl, _, rfl, iteT ⟨by show 1 ≤ sizeLine; decide, fun p np => ret1 q np⟩⟩

/-! ### call_up -/
def sp_call_up (K : PySem.W.Frag) : Sp := fun vs H Q _ => ∃ (a t : Addr) (n : Nat) (b : Bytes), vs = [.ref a, .ref t] ∧ SqL K H a (iv [(n : Int)]) ∧ RowsAt H t [SqM.bI b] ∧ b.length ≤ 31700 ∧ retL H Q (told (answer (.up b n)))
theorem sc_call_up : FnScope ["numbers", "texts", "many", "code", "fault", "quarters"] ["numbers", "texts"] (defScope (top 59)) := ⟨rfl, rfl, rfl, by decide +kernel, rfl, by decide +kernel, by decide +kernel⟩
theorem ok_call_up {k : Nat} (F : FnAt K mg "call_up" (top 59)) (g_TOO_LONG : IntAt mg "TOO_LONG" (-2)) (g_MOST_UP : IntAt mg "MOST_UP" 6) (g_OUT_OF_BOUNDS : IntAt mg "OUT_OF_BOUNDS" (-1)) (g_FAULT : IntAt mg "FAULT" (-6)) (g_NO_SUCH : IntAt mg "NO_SUCH" (-4)) (n_len : mg "len" = none) (c_too_long : CallOk P w K mg base (k + 1) "too_long" ["text"] (sp_too_long K)) (c_code_fault : CallOk P w K mg base (k + 1) "code_fault" ["code"] (sp_code_fault K)) (c_quarters_of : CallOk P w K mg base (k + 1) "quarters_of" ["code"] (sp_quarters_of K)) (c_as_text : CallOk P w K mg base (k + 1) "as_text" ["row"] sp_as_text) (c_code_of : CallOk P w K mg base (k + 1) "code_of" ["quarters"] (sp_code_of K)) : CallOk P w K mg base (k + 2) "call_up" ["numbers", "texts"] (sp_call_up K) := by
  obtain ⟨f, fd, g, F⟩ := F
  obtain ⟨t_TOO_LONG, g_TOO_LONG⟩ := g_TOO_LONG
  obtain ⟨t_MOST_UP, g_MOST_UP⟩ := g_MOST_UP
  obtain ⟨t_OUT_OF_BOUNDS, g_OUT_OF_BOUNDS⟩ := g_OUT_OF_BOUNDS
  obtain ⟨t_FAULT, g_FAULT⟩ := g_FAULT
  obtain ⟨t_NO_SUCH, g_NO_SUCH⟩ := g_NO_SUCH
  obtain ⟨f_too_long, d_too_long, g_too_long, k_too_long, b_too_long, G_too_long⟩ := c_too_long.ex
  obtain ⟨f_code_fault, d_code_fault, g_code_fault, k_code_fault, b_code_fault, G_code_fault⟩ := c_code_fault.ex
  obtain ⟨f_quarters_of, d_quarters_of, g_quarters_of, k_quarters_of, b_quarters_of, G_quarters_of⟩ := c_quarters_of.ex
  obtain ⟨f_as_text, d_as_text, g_as_text, k_as_text, b_as_text, G_as_text⟩ := c_as_text.ex
  obtain ⟨f_code_of, d_code_of, g_code_of, k_code_of, b_code_of, G_code_of⟩ := c_code_of.ex
  refine ⟨f, fd, g, F.kp, F.binds fun _ _ _ _ _ _ us hl => match us, hl with | [_, _], _ => rfl, F.ok sc_call_up (fun vs H Q E h => ?_) fun cdv A outer s H vs Q E hr h => ?_⟩
  · obtain ⟨a, t, n, b, rfl, _⟩ := h
    rfl
  · obtain ⟨a, t, n, b, rfl, hN, hR, hb, q⟩ := h
    refine ⟨_, (pss_cons (ps_set (i := 2) sc_call_up.nd rfl (.inl rfl) (pe_ix ix_list (pv 0) pe_int (fun _ _ => rfl)))
        (pss_cons (ps_set (i := 3) sc_call_up.nd rfl (.inl rfl) (pe_ix ix_list (pv 1) pe_int (fun _ _ => rfl)))
        (pss_cons (ps_if (pt_val (pe_call G_too_long hr (by rfl) g_too_long k_too_long b_too_long .nil pass0 (pa_cons (pv 3) pa_nil))) (pss_one (ps_ret (pe_lst (pa_cons (pe_glob (v := .int (-2)) rfl g_TOO_LONG ⟨_, rfl⟩) pa_nil)))) pss_nil)
        (pss_cons (ps_if (pt_cmpR op_gt (pv 2) (pe_glob (v := .int 6) rfl g_MOST_UP ⟨_, rfl⟩) (nomark _)) (pss_one (ps_ret (pe_lst (pa_cons (pe_glob (v := .int (-1)) rfl g_OUT_OF_BOUNDS ⟨_, rfl⟩) pa_nil)))) pss_nil)
        (pss_cons (ps_set (i := 4) sc_call_up.nd rfl (.inl rfl) (pe_call G_code_fault hr (by rfl) g_code_fault k_code_fault b_code_fault .nil pass0 (pa_cons (pv 3) pa_nil)))
        (pss_cons (ps_if (pt_cmpR op_notN (pv 4) pe_non (nomark _)) (pss_one (ps_ret (pe_lst (pa_cons (pe_glob (v := .int (-6)) rfl g_FAULT ⟨_, rfl⟩) (pa_cons (pv 4) pa_nil))))) pss_nil)
        (pss_cons (ps_set (i := 5) sc_call_up.nd rfl (.inl rfl) (pe_call G_quarters_of hr (by rfl) g_quarters_of k_quarters_of b_quarters_of .nil pass0 (pa_cons (pv 3) pa_nil)))
        (pss_cons (ps_if (pt_cmpR op_gt (pv 2) (pe_callB call_len_seq (by rfl) n_len PySem.boot_len (pa_cons (pv 5) pa_nil)) (nomark _)) (pss_one (ps_ret (pe_lst (pa_cons (pe_glob (v := .int (-4)) rfl g_NO_SUCH ⟨_, rfl⟩) pa_nil)))) pss_nil)
        (pss_one (ps_ret (pe_call G_as_text hr (by rfl) g_as_text k_as_text b_as_text .nil pass0 (pa_cons (pe_call G_code_of hr (by rfl) g_code_of k_code_of b_code_of .nil pass0 (pa_cons (pe_slice sl_list (pv 5) po_none (po_some (pe_op op_sub (pe_callB call_len_seq (by rfl) n_len PySem.boot_len (pa_cons (pv 5) pa_nil)) (pv 2)))) pa_nil)) pa_nil)))))))))))), ?_⟩
    have ans : answer (.up b n) = if RefsSpec.tooLong b = true then LsAns.says (-2) else if 6 < n then LsAns.says (-1) else RefsSpec.ofCode b fun s => if s.length < n then LsAns.says (-4) else LsAns.gives (LsRefs.codeText (s.take (s.length - n))) := rfl
    rw [ans] at q
    obtain ⟨p, ht, hp⟩ := rows_one hR
    refine ⟨_, rfl, a, _, 0, _, rfl, rfl, hN, atI_nat (j := 0) rfl, ?_⟩
    refine ⟨_, rfl, t, _, 0, _, rfl, rfl, sl_of ht, atI_nat (j := 0) rfl, ?_⟩
    refine ⟨.ref p, rfl, p, _, rfl, sl_of hp, _, rfl, ?_⟩
    rw [long_is]
    refine ite2 (fun c => ?_) (fun c => ?_)
    · rw [if_pos c, told_says] at q
      exact ⟨by show 1 ≤ sizeLine; decide, fun p np => ret1 q np⟩
    · rw [if_neg c] at q
      refine ⟨_, rfl, _, _, rfl, rfl, _, rfl, ite2 (fun c1 => ?_) (fun c1 => ?_)⟩
      · have := of_decide_eq_true c1
        rw [if_pos (by omega), told_says] at q
        exact ⟨by show 1 ≤ sizeLine; decide, fun p np => ret1 q np⟩
      · have h7 : ¬ (6 : Int) < (n : Int) := fun z => c1 (decide_eq_true z)
        rw [if_neg (by omega)] at q
        refine ⟨.ref p, rfl, p, b, rfl, sl_of hp, hb, fun H1 s1 => ?_⟩
        replace q := q.from_ s1
        cases hr : LsRefs.readCode b with
        | error e =>
          rw [ofCode_error c hr, told_fault] at q
          rw [faultV_error hr]
          exact ⟨_, rfl, rfl, _, rfl, iteT ⟨_, rfl, by show 2 ≤ sizeLine; decide, fun p np => q.new np⟩⟩
        | ok s' =>
          rw [ofCode_ok c hr] at q
          rw [faultV_ok hr]
          have sh := readCode_sh hr
          refine ⟨_, rfl, rfl, _, rfl, iteF ⟨.ref p, rfl, p, b, s', rfl, sl_of (s1 _ _ hp), hr, fun p2 H2 np2 s2 hp2 => ?_⟩⟩
          replace q := q.from_ s2
          refine ⟨_, rfl, _, rfl, p2, _, rfl, .inl (sl_of hp2), _, _, rfl, rfl, _, rfl, ite2 (fun c2 => ?_) (fun c2 => ?_)⟩
          · have := of_decide_eq_true c2
            rw [iv_len, nI_len] at this
            rw [if_pos (by omega), told_says] at q
            exact ⟨by show 1 ≤ sizeLine; decide, fun p np => ret1 q np⟩
          · have hn : ¬ ((iv (SqM.nI s')).length : Int) < (n : Int) := fun z => c2 (decide_eq_true z)
            rw [iv_len, nI_len] at hn
            rw [if_neg (by omega), code_told fun d hd => sh.2 d (List.mem_of_mem_take hd)] at q
            refine ⟨_, rfl, .ref p2, rfl, p2, _, rfl, .inl (sl_of hp2), _, rfl, _, _, rfl, rfl, _, rfl, p2, _, rfl, sl_of hp2, fun p3 np3 => ?_⟩
            have s3 := same_upd (o := .lst (cutV (iv (SqM.nI s')) none (some (((iv (SqM.nI s')).length : Int) - (n : Int))))) np3
            have hcut : cutV (iv (SqM.nI s')) none (some (((iv (SqM.nI s')).length : Int) - (n : Int))) = iv (SqM.nI (s'.take (s'.length - n))) := by
              rw [iv_len, nI_len, show ((s'.length : Int) - (n : Int)) = ((s'.length - n : Nat) : Int) by omega, cut_to _ _ (by rw [iv_len, nI_len]; omega)]
              unfold SqM.nI iv
              rw [List.map_take, List.map_take]
            refine ⟨p3, s'.take (s'.length - n), rfl, sl_of (upd_same.trans (by rw [hcut])), by rw [List.length_take]; have := sh.1; omega, fun p4 H4 np4 s4 hp4 => ?_⟩
            exact ⟨p4, _, rfl, hp4, by rw [codeI_len, List.length_take]; have := sh.1; omega, q.from_ (s3.trans s4)⟩

/-! ### call_least -/
def sp_call_least (K : PySem.W.Frag) : Sp := fun vs H Q _ => ∃ (a t : Addr) (x0 y0 x1 y1 : Nat), vs = [.ref a, .ref t] ∧ SqL K H a (iv [(x0 : Int), (y0 : Int), (x1 : Int), (y1 : Int)]) ∧ retL H Q (told (answer (.least x0 y0 x1 y1)))
theorem sc_call_least : FnScope ["numbers", "texts", "first_x", "first_y", "second_x", "second_y", "first", "second"] ["numbers", "texts"] (defScope (top 61)) := ⟨rfl, rfl, rfl, by decide +kernel, rfl, by decide +kernel, by decide +kernel⟩
theorem ok_call_least {k : Nat} (F : FnAt K mg "call_least" (top 61)) (g_OUT_OF_BOUNDS : IntAt mg "OUT_OF_BOUNDS" (-1)) (g_HIGHEST_SERIES : IntAt mg "HIGHEST_SERIES" 6) (c_in_land : CallOk P w K mg base (k + 2) "in_land" ["x", "y"] sp_in_land) (c_quarters_at : CallOk P w K mg base (k + 2) "quarters_at" ["series", "x", "y"] sp_quarters_at) (c_as_text : CallOk P w K mg base (k + 2) "as_text" ["row"] sp_as_text) (c_code_of : CallOk P w K mg base (k + 2) "code_of" ["quarters"] (sp_code_of K)) (c_alike : CallOk P w K mg base (k + 2) "alike" ["quarters", "others"] (sp_alike K)) : CallOk P w K mg base (k + 3) "call_least" ["numbers", "texts"] (sp_call_least K) := by
  obtain ⟨f, fd, g, F⟩ := F
  obtain ⟨t_OUT_OF_BOUNDS, g_OUT_OF_BOUNDS⟩ := g_OUT_OF_BOUNDS
  obtain ⟨t_HIGHEST_SERIES, g_HIGHEST_SERIES⟩ := g_HIGHEST_SERIES
  obtain ⟨f_in_land, d_in_land, g_in_land, k_in_land, b_in_land, G_in_land⟩ := c_in_land.ex
  obtain ⟨f_quarters_at, d_quarters_at, g_quarters_at, k_quarters_at, b_quarters_at, G_quarters_at⟩ := c_quarters_at.ex
  obtain ⟨f_as_text, d_as_text, g_as_text, k_as_text, b_as_text, G_as_text⟩ := c_as_text.ex
  obtain ⟨f_code_of, d_code_of, g_code_of, k_code_of, b_code_of, G_code_of⟩ := c_code_of.ex
  obtain ⟨f_alike, d_alike, g_alike, k_alike, b_alike, G_alike⟩ := c_alike.ex
  refine ⟨f, fd, g, F.kp, F.binds fun _ _ _ _ _ _ us hl => match us, hl with | [_, _], _ => rfl, F.ok sc_call_least (fun vs H Q E h => ?_) fun cdv A outer s H vs Q E hr h => ?_⟩
  · obtain ⟨a, t, x0, y0, x1, y1, rfl, _⟩ := h
    rfl
  · obtain ⟨a, t, x0, y0, x1, y1, rfl, hN, q⟩ := h
    refine ⟨_, (pss_cons (ps_asg (pv 0) (pg_unl rfl (pgs_cons (pg_name (i := 2) sc_call_least.nd rfl (.inl rfl)) (pgs_cons (pg_name (i := 3) sc_call_least.nd rfl (.inl rfl)) (pgs_cons (pg_name (i := 4) sc_call_least.nd rfl (.inl rfl)) (pgs_cons (pg_name (i := 5) sc_call_least.nd rfl (.inl rfl)) pgs_nil))))))
        (pss_cons (ps_if (PW.pt (pw_or (pt_not (pt_val (pe_call G_in_land hr (by rfl) g_in_land k_in_land b_in_land .nil pass0 (pa_cons (pv 2) (pa_cons (pv 3) pa_nil))))) (pw_or1 (pt_not (pt_val (pe_call G_in_land hr (by rfl) g_in_land k_in_land b_in_land .nil pass0 (pa_cons (pv 4) (pa_cons (pv 5) pa_nil)))))))) (pss_one (ps_ret (pe_lst (pa_cons (pe_glob (v := .int (-1)) rfl g_OUT_OF_BOUNDS ⟨_, rfl⟩) pa_nil)))) pss_nil)
        (pss_cons (ps_set (i := 6) sc_call_least.nd rfl (.inl rfl) (pe_call G_quarters_at hr (by rfl) g_quarters_at k_quarters_at b_quarters_at .nil pass0 (pa_cons (pe_glob (v := .int 6) rfl g_HIGHEST_SERIES ⟨_, rfl⟩) (pa_cons (pv 2) (pa_cons (pv 3) pa_nil)))))
        (pss_cons (ps_set (i := 7) sc_call_least.nd rfl (.inl rfl) (pe_call G_quarters_at hr (by rfl) g_quarters_at k_quarters_at b_quarters_at .nil pass0 (pa_cons (pe_glob (v := .int 6) rfl g_HIGHEST_SERIES ⟨_, rfl⟩) (pa_cons (pv 4) (pa_cons (pv 5) pa_nil)))))
        (pss_one (ps_ret (pe_call G_as_text hr (by rfl) g_as_text k_as_text b_as_text .nil pass0 (pa_cons (pe_call G_code_of hr (by rfl) g_code_of k_code_of b_code_of .nil pass0 (pa_cons (pe_call G_alike hr (by rfl) g_alike k_alike b_alike .nil pass0 (pa_cons (pv 6) (pa_cons (pv 7) pa_nil))) pa_nil)) pa_nil)))))))), ?_⟩
    have ans : answer (.least x0 y0 x1 y1) = if [x0, y0, x1, y1].all RefsSpec.on = false then LsAns.says (-1) else LsAns.gives (LsRefs.codeText (LsRefs.common (LsRefs.sheetOf 6 x0 y0) (LsRefs.sheetOf 6 x1 y1))) := rfl
    rw [ans] at q
    have bad : (¬ ((x0 < 1000000 ∧ y0 < 1000000) ∧ x1 < 1000000 ∧ y1 < 1000000)) → ∀ p, H p = none → Q (.ref p) (upd H p (.lst [.int (-1)])) := fun h p np => by
      rw [if_pos (by rw [on_all]; exact h), told_says] at q
      exact ret1 q np
    refine ⟨_, rfl, a, _, rfl, hN, rfl, _, _, rfl, _, _, rfl, _, _, rfl, _, _, rfl, rfl, ?_⟩
    refine ⟨_, rfl, _, rfl, x0, y0, rfl, fun B hB => ⟨B, rfl, ?_⟩⟩
    cases B
    · exact iteT (iteT ⟨by show 1 ≤ sizeLine; decide, bad (fun z => landN hB z.1)⟩)
    · obtain ⟨h1, h2⟩ := landY hB
      refine iteF ⟨_, rfl, _, rfl, x1, y1, rfl, fun B2 hB2 => ⟨B2, rfl, ?_⟩⟩
      cases B2
      · exact iteT ⟨by show 1 ≤ sizeLine; decide, bad (fun z => landN hB2 z.2)⟩
      · obtain ⟨h3, h4⟩ := landY hB2
        refine iteF ?_
        rw [if_neg (by rw [on_all]; omega), SqM.sheetOf_eq (by omega) h1 h2, SqM.sheetOf_eq (by omega) h3 h4] at q
        have pre : ∀ d ∈ LsRefs.common (SqM.qsFrom LsRefs.LAND x0 y0 6) (SqM.qsFrom LsRefs.LAND x1 y1 6), 1 ≤ d ∧ d ≤ 4 := fun d hd => by
          rw [SqM.common_take] at hd
          exact SqM.qsFrom_rng _ _ _ _ d (List.mem_of_mem_take hd)
        have plen : (LsRefs.common (SqM.qsFrom LsRefs.LAND x0 y0 6) (SqM.qsFrom LsRefs.LAND x1 y1 6)).length ≤ 6 := by
          rw [SqM.common_take, List.length_take, SqM.qsFrom_len]
          omega
        rw [code_told pre] at q
        refine ⟨_, rfl, _, rfl, 6, x0, y0, rfl, by omega, fun p1 H1 np1 s1 hp1 => ?_⟩
        refine ⟨_, rfl, _, rfl, 6, x1, y1, rfl, by omega, fun p2 H2 np2 s2 hp2 => ?_⟩
        refine ⟨_, rfl, _, rfl, p1, p2, _, _, rfl, sl_of (s2 _ _ hp1), sl_of hp2, fun p3 H3 np3 s3 hp3 => ?_⟩
        refine ⟨p3, _, rfl, sl_of hp3, by omega, fun p4 H4 np4 s4 hp4 => ?_⟩
        exact ⟨p4, _, rfl, hp4, by rw [codeI_len]; omega, q.from_ (((s1.trans s2).trans s3).trans s4)⟩

/-! ### call_lie -/
def sp_call_lie (K : PySem.W.Frag) : Sp := fun vs H Q _ => ∃ (a t : Addr) (b b' : Bytes), vs = [.ref a, .ref t] ∧ RowsAt H t [SqM.bI b, SqM.bI b'] ∧ b.length ≤ 31700 ∧ b'.length ≤ 31700 ∧ retL H Q (told (answer (.lie b b')))
theorem sc_call_lie : FnScope ["numbers", "texts", "first", "second", "code", "fault"] ["numbers", "texts"] (defScope (top 62)) := ⟨rfl, rfl, rfl, by decide +kernel, rfl, by decide +kernel, by decide +kernel⟩
theorem ok_call_lie {k : Nat} (F : FnAt K mg "call_lie" (top 62)) (g_TOO_LONG : IntAt mg "TOO_LONG" (-2)) (g_FAULT : IntAt mg "FAULT" (-6)) (c_too_long : CallOk P w K mg base (k + 2) "too_long" ["text"] (sp_too_long K)) (c_code_fault : CallOk P w K mg base (k + 2) "code_fault" ["code"] (sp_code_fault K)) (c_how_they_lie : CallOk P w K mg base (k + 2) "how_they_lie" ["quarters", "others"] (sp_how_they_lie K)) (c_quarters_of : CallOk P w K mg base (k + 2) "quarters_of" ["code"] (sp_quarters_of K)) : CallOk P w K mg base (k + 3) "call_lie" ["numbers", "texts"] (sp_call_lie K) := by
  obtain ⟨f, fd, g, F⟩ := F
  obtain ⟨t_TOO_LONG, g_TOO_LONG⟩ := g_TOO_LONG
  obtain ⟨t_FAULT, g_FAULT⟩ := g_FAULT
  obtain ⟨f_too_long, d_too_long, g_too_long, k_too_long, b_too_long, G_too_long⟩ := c_too_long.ex
  obtain ⟨f_code_fault, d_code_fault, g_code_fault, k_code_fault, b_code_fault, G_code_fault⟩ := c_code_fault.ex
  obtain ⟨f_how_they_lie, d_how_they_lie, g_how_they_lie, k_how_they_lie, b_how_they_lie, G_how_they_lie⟩ := c_how_they_lie.ex
  obtain ⟨f_quarters_of, d_quarters_of, g_quarters_of, k_quarters_of, b_quarters_of, G_quarters_of⟩ := c_quarters_of.ex
  refine ⟨f, fd, g, F.kp, F.binds fun _ _ _ _ _ _ us hl => match us, hl with | [_, _], _ => rfl, F.ok sc_call_lie (fun vs H Q E h => ?_) fun cdv A outer s H vs Q E hr h => ?_⟩
  · obtain ⟨a, t, b, b', rfl, _⟩ := h
    rfl
  · obtain ⟨a, t, b, b', rfl, hR, hb, hb', q⟩ := h
    refine ⟨_, (pss_cons (ps_asg (pv 1) (pg_unl rfl (pgs_cons (pg_name (i := 2) sc_call_lie.nd rfl (.inl rfl)) (pgs_cons (pg_name (i := 3) sc_call_lie.nd rfl (.inl rfl)) pgs_nil))))
        (pss_cons (ps_if (PW.pt (pw_or (pt_val (pe_call G_too_long hr (by rfl) g_too_long k_too_long b_too_long .nil pass0 (pa_cons (pv 2) pa_nil))) (pw_or1 (pt_val (pe_call G_too_long hr (by rfl) g_too_long k_too_long b_too_long .nil pass0 (pa_cons (pv 3) pa_nil)))))) (pss_one (ps_ret (pe_lst (pa_cons (pe_glob (v := .int (-2)) rfl g_TOO_LONG ⟨_, rfl⟩) pa_nil)))) pss_nil)
        (pss_cons (ps_for PassesOwn.never rfl (pi_list (pv 1)) (pg_name (i := 4) sc_call_lie.nd rfl (.inl rfl)) (pss_cons (ps_set (i := 5) sc_call_lie.nd rfl (.inl rfl) (pe_call G_code_fault hr (by rfl) g_code_fault k_code_fault b_code_fault .nil pass0 (pa_cons (pv 4) pa_nil)))
        (pss_one (ps_if (pt_cmpR op_notN (pv 5) pe_non (nomark _)) (pss_one (ps_ret (pe_lst (pa_cons (pe_glob (v := .int (-6)) rfl g_FAULT ⟨_, rfl⟩) (pa_cons (pv 5) pa_nil))))) pss_nil))))
        (pss_one (ps_ret (pe_lst (pa_cons (pe_call G_how_they_lie hr (by rfl) g_how_they_lie k_how_they_lie b_how_they_lie .nil pass0 (pa_cons (pe_call G_quarters_of hr (by rfl) g_quarters_of k_quarters_of b_quarters_of .nil pass0 (pa_cons (pv 2) pa_nil)) (pa_cons (pe_call G_quarters_of hr (by rfl) g_quarters_of k_quarters_of b_quarters_of .nil pass0 (pa_cons (pv 3) pa_nil)) pa_nil))) pa_nil))))))), ?_⟩
    have ans : answer (.lie b b') = if RefsSpec.tooLong b = true ∨ RefsSpec.tooLong b' = true then LsAns.says (-2) else RefsSpec.ofCode b fun s => RefsSpec.ofCode b' fun t => LsAns.says (LsRefs.lie s t : Nat) := rfl
    rw [ans] at q
    obtain ⟨p, p', ht, hp, hp'⟩ := rows_two hR
    refine ⟨_, rfl, t, _, rfl, sl_of ht, rfl, _, _, rfl, _, _, rfl, rfl, ?_⟩
    refine ⟨.ref p, rfl, p, _, rfl, sl_of hp, _, rfl, ?_⟩
    rw [long_is]
    refine ite2 (fun c => ?_) (fun c => ?_)
    · rw [if_pos (.inl c), told_says] at q
      exact iteT ⟨by show 1 ≤ sizeLine; decide, fun p np => ret1 q np⟩
    · refine ⟨.ref p', rfl, p', _, rfl, sl_of hp', _, rfl, ?_⟩
      rw [long_is]
      refine ite2 (fun c' => ?_) (fun c' => ?_)
      · rw [if_pos (.inr c'), told_says] at q
        exact ⟨by show 1 ≤ sizeLine; decide, fun p np => ret1 q np⟩
      · rw [if_neg fun z => z.elim c c'] at q
        refine ⟨_, rfl, t, rfl, ⟨_, sl_of ht⟩, for_it (walk_list (K := K) (a := t) (xs := [V.ref p, V.ref p']))
          (fun i σ H' => Same H H' ∧ (∃ y4 y5, σ = [some (.ref a), some (.ref t), some (.ref p), some (.ref p'), y4, y5]) ∧ (0 < i → ∃ s, LsRefs.readCode b = .ok s) ∧ (1 < i → ∃ s, LsRefs.readCode b' = .ok s)) ?_ ?_ ?_ ?_⟩
        · exact ⟨Same.refl H, ⟨_, _, rfl⟩, fun z => by omega, fun z => by omega⟩
        · rintro i σ H' _ ⟨sm, _⟩
          exact sl_of (sm _ _ ht)
        · rintro i v σ H0 H' hi ⟨sm, ⟨y4, y5, rfl⟩, g0, g1⟩ ⟨rfl, hx⟩
          match i, hi, hx with
          | 0, _, hx =>
            have ev : v = .ref p := (Option.some.inj hx).symm
            subst ev
            refine ⟨_, rfl, p, b, rfl, sl_of (sm _ _ hp), hb, fun H1 s1 => ?_⟩
            replace q := q.from_ (sm.trans s1)
            cases hr : LsRefs.readCode b with
            | error e =>
              rw [ofCode_error c hr, told_fault] at q
              rw [faultV_error hr]
              exact ⟨_, rfl, rfl, _, rfl, iteT ⟨_, rfl, by show 2 ≤ sizeLine; decide, fun p np => q.new np⟩⟩
            | ok s' =>
              rw [faultV_ok hr]
              exact ⟨_, rfl, rfl, _, rfl, iteF ⟨sm.trans s1, ⟨_, _, rfl⟩, fun _ => ⟨s', rfl⟩, fun z => by omega⟩⟩
          | 1, _, hx =>
            have ev : v = .ref p' := (Option.some.inj hx).symm
            subst ev
            obtain ⟨s0, h0⟩ := g0 (by omega)
            refine ⟨_, rfl, p', b', rfl, sl_of (sm _ _ hp'), hb', fun H1 s1 => ?_⟩
            replace q := q.from_ (sm.trans s1)
            rw [ofCode_ok c h0] at q
            cases hr : LsRefs.readCode b' with
            | error e =>
              rw [ofCode_error c' hr, told_fault] at q
              rw [faultV_error hr]
              exact ⟨_, rfl, rfl, _, rfl, iteT ⟨_, rfl, by show 2 ≤ sizeLine; decide, fun p np => q.new np⟩⟩
            | ok s' =>
              rw [faultV_ok hr]
              exact ⟨_, rfl, rfl, _, rfl, iteF ⟨sm.trans s1, ⟨_, _, rfl⟩, fun _ => ⟨s0, h0⟩, fun _ => ⟨s', rfl⟩⟩⟩
          | i + 2, hi, _ => exact absurd hi (by show ¬ i + 2 < 2; omega)
        · rintro σ H' ⟨sm, ⟨y4, y5, rfl⟩, g0, g1⟩
          obtain ⟨s0, h0⟩ := g0 (by show 0 < 2; omega)
          obtain ⟨s1, h1⟩ := g1 (by show 1 < 2; omega)
          rw [ofCode_ok c h0, ofCode_ok c' h1, told_says] at q
          refine ⟨_, rfl, p, b, s0, rfl, sl_of (sm _ _ hp), h0, fun p1 H1 np1 e1 hp1 => ?_⟩
          refine ⟨_, rfl, p', b', s1, rfl, sl_of (e1 _ _ (sm _ _ hp')), h1, fun p2 H2 np2 e2 hp2 => ?_⟩
          refine ⟨p1, p2, s0, s1, rfl, sl_of (e2 _ _ hp1), sl_of hp2, readCode_sh h0, readCode_sh h1, fun H3 e3 => ⟨by show 1 ≤ sizeLine; decide, fun p np => ?_⟩⟩
          exact ret1 (q.from_ (((sm.trans e1).trans e2).trans e3)) np

/-! ### call_great -/
theorem greatL_len (x y s : Nat) (hx : x + s ≤ 1000000) (hy : y + s ≤ 1000000) : (SqM.greatL x y s).length ≤ 100 := by
  unfold SqM.greatL LsRefs.GREAT
  rw [flat_len _ ((y + s - 1) / 100000 + 1 - y / 100000) _ (fun i => by rw [List.length_map, List.length_range])]
  have h1 : (x + s - 1) / 100000 + 1 - x / 100000 ≤ 10 := by omega
  have h2 : (y + s - 1) / 100000 + 1 - y / 100000 ≤ 10 := by omega
  exact Nat.mul_le_mul h1 h2
theorem greatL_two (x y s : Nat) : ∀ b ∈ SqM.greatL x y s, b.length ≤ 2 := by
  intro b hb
  unfold SqM.greatL at hb
  obtain ⟨i, _, hb⟩ := List.mem_flatMap.mp hb
  obtain ⟨j, _, rfl⟩ := List.mem_map.mp hb
  exact Nat.le_refl 2
def sp_call_great (K : PySem.W.Frag) : Sp := fun vs H Q _ => ∃ (a t : Addr) (b : Bytes), vs = [.ref a, .ref t] ∧ RowsAt H t [SqM.bI b] ∧ b.length ≤ 31700 ∧ retL H Q (told (answer (.great b)))
theorem sc_call_great : FnScope ["numbers", "texts", "code", "fault", "west", "south", "side", "names"] ["numbers", "texts"] (defScope (top 63)) := ⟨rfl, rfl, rfl, by decide +kernel, rfl, by decide +kernel, by decide +kernel⟩
theorem ok_call_great {k : Nat} (F : FnAt K mg "call_great" (top 63)) (g_TOO_LONG : IntAt mg "TOO_LONG" (-2)) (g_FAULT : IntAt mg "FAULT" (-6)) (n_len : mg "len" = none) (c_too_long : CallOk P w K mg base (k + 2) "too_long" ["text"] (sp_too_long K)) (c_code_fault : CallOk P w K mg base (k + 2) "code_fault" ["code"] (sp_code_fault K)) (c_ground : CallOk P w K mg base (k + 2) "ground" ["quarters"] (sp_ground K)) (c_quarters_of : CallOk P w K mg base (k + 2) "quarters_of" ["code"] (sp_quarters_of K)) (c_great_squares : CallOk P w K mg base (k + 2) "great_squares" ["x", "y", "side"] sp_great_squares) (c_spaced : CallOk P w K mg base (k + 2) "spaced" ["names"] (sp_spaced K)) : CallOk P w K mg base (k + 3) "call_great" ["numbers", "texts"] (sp_call_great K) := by
  obtain ⟨f, fd, g, F⟩ := F
  obtain ⟨t_TOO_LONG, g_TOO_LONG⟩ := g_TOO_LONG
  obtain ⟨t_FAULT, g_FAULT⟩ := g_FAULT
  obtain ⟨f_too_long, d_too_long, g_too_long, k_too_long, b_too_long, G_too_long⟩ := c_too_long.ex
  obtain ⟨f_code_fault, d_code_fault, g_code_fault, k_code_fault, b_code_fault, G_code_fault⟩ := c_code_fault.ex
  obtain ⟨f_ground, d_ground, g_ground, k_ground, b_ground, G_ground⟩ := c_ground.ex
  obtain ⟨f_quarters_of, d_quarters_of, g_quarters_of, k_quarters_of, b_quarters_of, G_quarters_of⟩ := c_quarters_of.ex
  obtain ⟨f_great_squares, d_great_squares, g_great_squares, k_great_squares, b_great_squares, G_great_squares⟩ := c_great_squares.ex
  obtain ⟨f_spaced, d_spaced, g_spaced, k_spaced, b_spaced, G_spaced⟩ := c_spaced.ex
  refine ⟨f, fd, g, F.kp, F.binds fun _ _ _ _ _ _ us hl => match us, hl with | [_, _], _ => rfl, F.ok sc_call_great (fun vs H Q E h => ?_) fun cdv A outer s H vs Q E hr h => ?_⟩
  · obtain ⟨a, t, b, rfl, _⟩ := h
    rfl
  · obtain ⟨a, t, b, rfl, hR, hb, q⟩ := h
    refine ⟨_, (pss_cons (ps_set (i := 2) sc_call_great.nd rfl (.inl rfl) (pe_ix ix_list (pv 1) pe_int (fun _ _ => rfl)))
        (pss_cons (ps_if (pt_val (pe_call G_too_long hr (by rfl) g_too_long k_too_long b_too_long .nil pass0 (pa_cons (pv 2) pa_nil))) (pss_one (ps_ret (pe_lst (pa_cons (pe_glob (v := .int (-2)) rfl g_TOO_LONG ⟨_, rfl⟩) pa_nil)))) pss_nil)
        (pss_cons (ps_set (i := 3) sc_call_great.nd rfl (.inl rfl) (pe_call G_code_fault hr (by rfl) g_code_fault k_code_fault b_code_fault .nil pass0 (pa_cons (pv 2) pa_nil)))
        (pss_cons (ps_if (pt_cmpR op_notN (pv 3) pe_non (nomark _)) (pss_one (ps_ret (pe_lst (pa_cons (pe_glob (v := .int (-6)) rfl g_FAULT ⟨_, rfl⟩) (pa_cons (pv 3) pa_nil))))) pss_nil)
        (pss_cons (ps_asg (pe_call G_ground hr (by rfl) g_ground k_ground b_ground .nil pass0 (pa_cons (pe_call G_quarters_of hr (by rfl) g_quarters_of k_quarters_of b_quarters_of .nil pass0 (pa_cons (pv 2) pa_nil)) pa_nil)) (pg_tup rfl (pgs_cons (pg_name (i := 4) sc_call_great.nd rfl (.inl rfl)) (pgs_cons (pg_name (i := 5) sc_call_great.nd rfl (.inl rfl)) (pgs_cons (pg_name (i := 6) sc_call_great.nd rfl (.inl rfl)) pgs_nil)))))
        (pss_cons (ps_set (i := 7) sc_call_great.nd rfl (.inl rfl) (pe_call G_great_squares hr (by rfl) g_great_squares k_great_squares b_great_squares .nil pass0 (pa_cons (pv 4) (pa_cons (pv 5) (pa_cons (pv 6) pa_nil)))))
        (pss_one (ps_ret (pe_op op_cat (pe_lst (pa_cons (pe_callB call_len_seq (by rfl) n_len PySem.boot_len (pa_cons (pv 7) pa_nil)) pa_nil)) (pe_call G_spaced hr (by rfl) g_spaced k_spaced b_spaced .nil pass0 (pa_cons (pv 7) pa_nil))))))))))), ?_⟩
    have ans : answer (.great b) = RefsSpec.ofCode b fun s => ⟨((RefsSpec.greats (LsRefs.boxOf s)).length : Int), [], LsText.spaced (RefsSpec.greats (LsRefs.boxOf s))⟩ := rfl
    rw [ans] at q
    obtain ⟨p, ht, hp⟩ := rows_one hR
    refine ⟨_, rfl, t, _, 0, _, rfl, rfl, sl_of ht, atI_nat (j := 0) rfl, ?_⟩
    refine ⟨.ref p, rfl, p, _, rfl, sl_of hp, _, rfl, ?_⟩
    rw [long_is]
    refine ite2 (fun c => ?_) (fun c => ?_)
    · rw [ofCode_long c, told_says] at q
      exact ⟨by show 1 ≤ sizeLine; decide, fun p np => ret1 q np⟩
    · refine ⟨.ref p, rfl, p, b, rfl, sl_of hp, hb, fun H1 s1 => ?_⟩
      replace q := q.from_ s1
      cases hr : LsRefs.readCode b with
      | error e =>
        rw [ofCode_error c hr, told_fault] at q
        rw [faultV_error hr]
        exact ⟨_, rfl, rfl, _, rfl, iteT ⟨_, rfl, by show 2 ≤ sizeLine; decide, fun p np => q.new np⟩⟩
      | ok s' =>
        have sh := readCode_sh hr
        have bp := SqM.box_pos sh
        obtain ⟨bx, by'⟩ := SqM.box_in s'
        rw [ofCode_ok c hr, SqM.greats_eq _ bp bx by'] at q
        rw [faultV_ok hr]
        have glen := greatL_len (LsRefs.boxOf s').x (LsRefs.boxOf s').y (LsRefs.boxOf s').side bx by'
        have gsp := spaced_len (n := 2) _ (greatL_two (LsRefs.boxOf s').x (LsRefs.boxOf s').y (LsRefs.boxOf s').side)
        have q' : retL H1 Q (((SqM.greatL (LsRefs.boxOf s').x (LsRefs.boxOf s').y (LsRefs.boxOf s').side).length : Int) :: SqM.bI (LsText.spaced (SqM.greatL (LsRefs.boxOf s').x (LsRefs.boxOf s').y (LsRefs.boxOf s').side))) := q
        generalize hG : SqM.greatL (LsRefs.boxOf s').x (LsRefs.boxOf s').y (LsRefs.boxOf s').side = G at *
        refine ⟨_, rfl, rfl, _, rfl, iteF ⟨.ref p, rfl, p, b, s', rfl, sl_of (s1 _ _ hp), hr, fun p2 H2 np2 s2 hp2 => ⟨p2, s', rfl, sl_of hp2, sh, fun T H3 nT s3 hT => ?_⟩⟩⟩
        refine ⟨T, _, rfl, st_of hT, rfl, _, _, rfl, _, _, rfl, _, _, rfl, rfl, ?_⟩
        refine ⟨_, rfl, _, rfl, _, rfl, _, _, _, rfl, bp, bx, by', fun p4 H4 np4 s4 hR4 => ?_⟩
        rw [hG] at hR4
        have hRk := hR4
        obtain ⟨bs, hbs, hbl, _⟩ := hRk
        have blen : (bs.map fun b => V.ref b.1).length = G.length := by
          have := congrArg List.length hbl
          rw [List.length_map, List.length_map] at this
          rw [List.length_map]
          exact this
        refine ⟨_, rfl, p4, _, rfl, .inl (sl_of hbs), by show 1 ≤ sizeLine; decide, fun p5 np5 => ?_⟩
        have s5 : Same H4 (upd H4 p5 (.lst [.int ((bs.map fun b => V.ref b.1).length : Int)])) := same_upd np5
        refine ⟨_, rfl, p4, G, rfl, hR4.mono s5, by omega, fun p6 H6 np6 s6 hp6 => ?_⟩
        refine ⟨p5, p6, _, _, rfl, rfl, s6 _ _ upd_same, hp6, ?_, fun p7 np7 => ?_⟩
        · rw [iv_len, bI_len]
          exact big (by show 1 + _ ≤ _; omega)
        · have s7 := (((s2.trans s3).trans s4).trans s5).trans s6
          refine q' p7 _ (s7.free np7) (s7.trans (same_upd np7)) ?_
          rw [upd_same, blen]
          rfl

end
end SqW

/-! SqX1: the sheets over a box. -/
namespace SqW
open PySem PySem.Spec PyProof.Rows L2
open LsText (Bytes)
open LsRefs (Sheet)
open LsRows (told)
open RefsSpec (answer)
section
variable {P : Program} {w : World} {K : PySem.W.Frag} {mg : Str → Option Value} {base : Heap}
theorem over_len7 {s a b c d : Nat} (hs : s ≤ 6) : ∀ x ∈ (LsRefs.over s a b c d).map LsRefs.codeText, x.length ≤ 7 := by
  intro x hx
  obtain ⟨e, he, rfl⟩ := List.mem_map.mp hx
  unfold LsRefs.over at he
  rw [SqM.overIn_eq, List.mem_filter, SqM.allIn_mem] at he
  obtain ⟨⟨u, e1, hu, _⟩, _⟩ := he
  have : e = u := e1
  subst this
  unfold LsRefs.codeText
  rw [List.length_cons, List.length_map]
  omega
def sp_call_over (K : PySem.W.Frag) : Sp := fun vs H Q _ => ∃ (a t : Addr) (s x0 y0 x1 y1 : Nat), vs = [.ref a, .ref t] ∧ SqL K H a (iv [(s : Int), (x0 : Int), (y0 : Int), (x1 : Int), (y1 : Int)]) ∧ retL H Q (told (answer (.over s x0 y0 x1 y1)))
theorem sc_call_over : FnScope ["numbers", "texts", "series", "first_x", "first_y", "second_x", "second_y", "side", "wide", "high", "found", "column", "row"] ["numbers", "texts"] (defScope (top 60)) := ⟨rfl, rfl, rfl, by decide +kernel, rfl, by decide +kernel, by decide +kernel⟩
theorem ok_call_over {k : Nat} (F : FnAt K mg "call_over" (top 60)) (g_HIGHEST_SERIES : IntAt mg "HIGHEST_SERIES" 6) (g_OUT_OF_BOUNDS : IntAt mg "OUT_OF_BOUNDS" (-1)) (g_MOST_SHEETS : IntAt mg "MOST_SHEETS" 64) (g_TOO_MANY : IntAt mg "TOO_MANY" (-7)) (g_SHEET_SIDES : TupAt K mg "SHEET_SIDES" (iv cSheetSides)) (n_range : mg "range" = none) (n_len : mg "len" = none) (n_sorted : mg "sorted" = none) (c_in_land : CallOk P w K mg base (k + 2) "in_land" ["x", "y"] sp_in_land) (c_code_of : CallOk P w K mg base (k + 2) "code_of" ["quarters"] (sp_code_of K)) (c_quarters_at : CallOk P w K mg base (k + 2) "quarters_at" ["series", "x", "y"] sp_quarters_at) (c_spaced : CallOk P w K mg base (k + 2) "spaced" ["names"] (sp_spaced K)) : CallOk P w K mg base (k + 3) "call_over" ["numbers", "texts"] (sp_call_over K) := by
  obtain ⟨f, fd, g, F⟩ := F
  obtain ⟨t_HIGHEST_SERIES, g_HIGHEST_SERIES⟩ := g_HIGHEST_SERIES
  obtain ⟨t_OUT_OF_BOUNDS, g_OUT_OF_BOUNDS⟩ := g_OUT_OF_BOUNDS
  obtain ⟨t_MOST_SHEETS, g_MOST_SHEETS⟩ := g_MOST_SHEETS
  obtain ⟨t_TOO_MANY, g_TOO_MANY⟩ := g_TOO_MANY
  obtain ⟨a_SHEET_SIDES, g_SHEET_SIDES, s_SHEET_SIDES, l_SHEET_SIDES⟩ := g_SHEET_SIDES
  obtain ⟨f_in_land, d_in_land, g_in_land, k_in_land, b_in_land, G_in_land⟩ := c_in_land.ex
  obtain ⟨f_code_of, d_code_of, g_code_of, k_code_of, b_code_of, G_code_of⟩ := c_code_of.ex
  obtain ⟨f_quarters_at, d_quarters_at, g_quarters_at, k_quarters_at, b_quarters_at, G_quarters_at⟩ := c_quarters_at.ex
  obtain ⟨f_spaced, d_spaced, g_spaced, k_spaced, b_spaced, G_spaced⟩ := c_spaced.ex
  refine ⟨f, fd, g, F.kp, F.binds fun _ _ _ _ _ _ us hl => match us, hl with | [_, _], _ => rfl, F.ok sc_call_over (fun vs H Q E h => ?_) fun cdv A outer s H vs Q E hr h => ?_⟩
  · obtain ⟨a, t, s, x0, y0, x1, y1, rfl, _⟩ := h
    rfl
  · obtain ⟨a, t, s', x0, y0, x1, y1, rfl, hN, q⟩ := h
    refine ⟨_, (pss_cons (ps_asg (pv 0) (pg_unl rfl (pgs_cons (pg_name (i := 2) sc_call_over.nd rfl (.inl rfl)) (pgs_cons (pg_name (i := 3) sc_call_over.nd rfl (.inl rfl)) (pgs_cons (pg_name (i := 4) sc_call_over.nd rfl (.inl rfl)) (pgs_cons (pg_name (i := 5) sc_call_over.nd rfl (.inl rfl)) (pgs_cons (pg_name (i := 6) sc_call_over.nd rfl (.inl rfl)) pgs_nil)))))))
        (pss_cons (ps_if (PW.pt (pw_or (pt_cmpR op_gt (pv 2) (pe_glob (v := .int 6) rfl g_HIGHEST_SERIES ⟨_, rfl⟩) (nomark _)) (pw_or (pt_not (pt_val (pe_call G_in_land hr (by rfl) g_in_land k_in_land b_in_land .nil pass0 (pa_cons (pv 3) (pa_cons (pv 4) pa_nil))))) (pw_or1 (pt_not (pt_val (pe_call G_in_land hr (by rfl) g_in_land k_in_land b_in_land .nil pass0 (pa_cons (pv 5) (pa_cons (pv 6) pa_nil))))))))) (pss_one (ps_ret (pe_lst (pa_cons (pe_glob (v := .int (-1)) rfl g_OUT_OF_BOUNDS ⟨_, rfl⟩) pa_nil)))) pss_nil)
        (pss_cons (ps_if (PW.pt (pw_or (pt_cmpR op_lt (pv 5) (pv 3) (nomark _)) (pw_or1 (pt_cmpR op_lt (pv 6) (pv 4) (nomark _))))) (pss_one (ps_ret (pe_lst (pa_cons (pe_glob (v := .int (-1)) rfl g_OUT_OF_BOUNDS ⟨_, rfl⟩) pa_nil)))) pss_nil)
        (pss_cons (ps_set (i := 7) sc_call_over.nd rfl (.inl rfl) (pe_ix ix_tup (pe_glob (v := .ref a_SHEET_SIDES) rfl g_SHEET_SIDES rfl) (pv 2) (fun _ _ => rfl)))
        (pss_cons (ps_set (i := 8) sc_call_over.nd rfl (.inl rfl) (pe_op op_add (pe_op op_sub (pe_op op_fdiv (pv 5) (pv 7)) (pe_op op_fdiv (pv 3) (pv 7))) pe_int))
        (pss_cons (ps_set (i := 9) sc_call_over.nd rfl (.inl rfl) (pe_op op_add (pe_op op_sub (pe_op op_fdiv (pv 6) (pv 7)) (pe_op op_fdiv (pv 4) (pv 7))) pe_int))
        (pss_cons (ps_if (pt_cmpR op_gt (pe_op op_mul (pv 8) (pv 9)) (pe_glob (v := .int 64) rfl g_MOST_SHEETS ⟨_, rfl⟩) (nomark _)) (pss_one (ps_ret (pe_lst (pa_cons (pe_glob (v := .int (-7)) rfl g_TOO_MANY ⟨_, rfl⟩) pa_nil)))) pss_nil)
        (pss_cons (ps_set (i := 10) sc_call_over.nd rfl (.inl rfl) (pe_lst pa_nil))
        (pss_cons (ps_for PassesOwn.never rfl (pi_range2 (by rfl) n_range (pa_cons (pe_op op_fdiv (pv 3) (pv 7)) (pa_cons (pe_op op_add (pe_op op_fdiv (pv 5) (pv 7)) pe_int) pa_nil))) (pg_name (i := 11) sc_call_over.nd rfl (.inl rfl)) (pss_one (ps_for PassesOwn.never rfl (pi_range2 (by rfl) n_range (pa_cons (pe_op op_fdiv (pv 4) (pv 7)) (pa_cons (pe_op op_add (pe_op op_fdiv (pv 6) (pv 7)) pe_int) pa_nil))) (pg_name (i := 12) sc_call_over.nd rfl (.inl rfl)) (pss_one (ps_expr (pe_bm PySem.F.plainAttrs_list PySem.F.slot_list_append PySem.F.type_list_append mt_append (pv 10) (pa_cons (pe_call G_code_of hr (by rfl) g_code_of k_code_of b_code_of .nil pass0 (pa_cons (pe_call G_quarters_at hr (by rfl) g_quarters_at k_quarters_at b_quarters_at .nil pass0 (pa_cons (pv 2) (pa_cons (pe_op op_mul (pv 11) (pv 7)) (pa_cons (pe_op op_mul (pv 12) (pv 7)) pa_nil)))) pa_nil)) pa_nil)))))))
        (pss_one (ps_ret (pe_op op_cat (pe_lst (pa_cons (pe_callB call_len_seq (by rfl) n_len PySem.boot_len (pa_cons (pv 10) pa_nil)) pa_nil)) (pe_call G_spaced hr (by rfl) g_spaced k_spaced b_spaced .nil pass0 (pa_cons (pe_callB (cr_sortR hr) (by rfl) n_sorted (by decide +kernel) (pa_cons (pv 10) pa_nil)) pa_nil)))))))))))))), ?_⟩
    have ans : answer (.over s' x0 y0 x1 y1) = if 6 < s' ∨ [x0, y0, x1, y1].all RefsSpec.on = false ∨ x1 < x0 ∨ y1 < y0 then LsAns.says (-1)
      else if 64 < (LsRefs.over s' x0 y0 x1 y1).length then LsAns.says (-7) else ⟨((LsRefs.over s' x0 y0 x1 y1).length : Int), [], RefsSpec.codes (LsRefs.over s' x0 y0 x1 y1)⟩ := rfl
    rw [ans] at q
    have bad : (6 < s' ∨ ¬ ((x0 < 1000000 ∧ y0 < 1000000) ∧ x1 < 1000000 ∧ y1 < 1000000) ∨ x1 < x0 ∨ y1 < y0) → ∀ p, H p = none → Q (.ref p) (upd H p (.lst [.int (-1)])) := fun h p np => by
      rw [if_pos (by rw [on_all]; exact h), told_says] at q
      exact ret1 q np
    refine ⟨_, rfl, a, _, rfl, hN, rfl, _, _, rfl, _, _, rfl, _, _, rfl, _, _, rfl, _, _, rfl, rfl, ?_⟩
    refine ⟨_, rfl, _, _, rfl, rfl, _, rfl, ite2 (fun c => ?_) (fun c => ?_)⟩
    · have := of_decide_eq_true c
      exact iteT ⟨by show 1 ≤ sizeLine; decide, bad (.inl (by omega))⟩
    · have hs6 : ¬ (6 : Int) < (s' : Int) := fun z => c (decide_eq_true z)
      refine ⟨_, rfl, _, rfl, x0, y0, rfl, fun B hB => ⟨B, rfl, ?_⟩⟩
      cases B
      · exact iteT (iteT ⟨by show 1 ≤ sizeLine; decide, bad (.inr (.inl fun z => landN hB z.1))⟩)
      · obtain ⟨h1, h2⟩ := landY hB
        refine iteF ⟨_, rfl, _, rfl, x1, y1, rfl, fun B2 hB2 => ⟨B2, rfl, ?_⟩⟩
        cases B2
        · exact iteT ⟨by show 1 ≤ sizeLine; decide, bad (.inr (.inl fun z => landN hB2 z.2))⟩
        · obtain ⟨h3, h4⟩ := landY hB2
          refine iteF ?_
          refine ⟨_, rfl, _, rfl, _, _, rfl, rfl, _, rfl, ite2 (fun c1 => ?_) (fun c1 => ?_)⟩
          · have := of_decide_eq_true c1
            exact iteT ⟨by show 1 ≤ sizeLine; decide, bad (.inr (.inr (.inl (by omega))))⟩
          · have hx : ¬ (x1 : Int) < (x0 : Int) := fun z => c1 (decide_eq_true z)
            refine ⟨_, rfl, _, rfl, _, _, rfl, rfl, _, rfl, ite2 (fun c2 => ?_) (fun c2 => ?_)⟩
            · have := of_decide_eq_true c2
              exact ⟨by show 1 ≤ sizeLine; decide, bad (.inr (.inr (.inr (by omega))))⟩
            · have hy : ¬ (y1 : Int) < (y0 : Int) := fun z => c2 (decide_eq_true z)
              rw [if_neg (by rw [on_all]; omega)] at q
              have hs : s' ≤ 6 := by omega
              have sp := SqM.sigma_pos hs
              have sb : SqM.sigma s' ≤ 1000000 := by
                have : ∀ s, s ≤ 6 → SqM.sigma s ≤ 1000000 := by decide +kernel
                exact this s' hs
              have hside : cSheetSides[s']? = some ((SqM.sigma s' : Nat) : Int) := side_at s' hs
              have olen : (LsRefs.over s' x0 y0 x1 y1).length = (SqM.foundL s' x0 y0 x1 y1).length := (SqM.found_perm hs (by omega) (by omega) h3 h4).length_eq
              rw [SqM.found_len] at olen
              have osort := SqM.found_sorted hs (x0 := x0) (y0 := y0) (x1 := x1) (y1 := y1) (by omega) (by omega) h3 h4
              rw [SqM.over_bytes] at osort
              have cin : ∀ i z1, z1 < 1000000 → i ≤ z1 / SqM.sigma s' → i * SqM.sigma s' < LsRefs.LAND := fun i z1 h hi => SqM.cell_in hs (by unfold LsRefs.LAND; exact h) hi
              unfold SqM.foundL at osort
              generalize hσ : SqM.sigma s' = σ₁ at *
              have cd : ∀ z : Int, CDiv z (σ₁ : Int) := fun z => ⟨by omega, by omega⟩
              have ex0 : ((x0 : Int) / (σ₁ : Int)) = ((x0 / σ₁ : Nat) : Int) := by omega
              have ey0 : ((y0 : Int) / (σ₁ : Int)) = ((y0 / σ₁ : Nat) : Int) := by omega
              have ex1 : ((x1 : Int) / (σ₁ : Int)) = ((x1 / σ₁ : Nat) : Int) := by omega
              have ey1 : ((y1 : Int) / (σ₁ : Int)) = ((y1 / σ₁ : Nat) : Int) := by omega
              have dx : x0 / σ₁ ≤ x1 / σ₁ := Nat.div_le_div_right (by omega)
              have dy : y0 / σ₁ ≤ y1 / σ₁ := Nat.div_le_div_right (by omega)
              have bx : x1 / σ₁ ≤ 1000000 := Nat.le_trans (Nat.div_le_self _ _) (by omega)
              have by' : y1 / σ₁ ≤ 1000000 := Nat.le_trans (Nat.div_le_self _ _) (by omega)
              refine ⟨_, rfl, _, _, _, _, rfl, rfl, s_SHEET_SIDES _, at_iv rfl hside, ?_⟩
              refine ⟨_, rfl, _, rfl, _, _, rfl, rfl, cd _, _, rfl, _, rfl, _, _, rfl, rfl, cd _, _, _, rfl, rfl, _, _, rfl, rfl, ?_⟩
              refine ⟨_, rfl, _, rfl, _, _, rfl, rfl, cd _, _, rfl, _, rfl, _, _, rfl, rfl, cd _, _, _, rfl, rfl, _, _, rfl, rfl, ?_⟩
              rw [ex0, ey0, ex1, ey1]
              generalize hX0 : x0 / σ₁ = u0 at *
              generalize hX1 : x1 / σ₁ = u1 at *
              generalize hY0 : y0 / σ₁ = v0 at *
              generalize hY1 : y1 / σ₁ = v1 at *
              have wh : (((u1 : Int) - (u0 : Int) + 1) * ((v1 : Int) - (v0 : Int) + 1)) = (((u1 + 1 - u0) * (v1 + 1 - v0) : Nat) : Int) := by
                rw [Int.natCast_mul]
                congr 1 <;> omega
              refine ⟨_, rfl, _, rfl, _, _, rfl, rfl, .inl ⟨by omega, by omega⟩, _, _, rfl, rfl, _, rfl, ?_⟩
              rw [wh]
              refine ite2 (fun c3 => ?_) (fun c3 => ?_)
              · have := of_decide_eq_true c3
                rw [if_pos (by omega), told_says] at q
                exact ⟨by show 1 ≤ sizeLine; decide, fun p np => ret1 q np⟩
              · have h64 : ¬ (64 : Int) < (((u1 + 1 - u0) * (v1 + 1 - v0) : Nat) : Int) := fun z => c3 (decide_eq_true z)
                rw [if_neg (by omega)] at q
                have q' : retL H Q (((LsRefs.over s' x0 y0 x1 y1).length : Int) :: SqM.bI (LsText.spaced ((LsRefs.over s' x0 y0 x1 y1).map LsRefs.codeText))) := q
                have slen := spaced_len (n := 7) _ (over_len7 (a := x0) (b := y0) (c := x1) (d := y1) hs)
                rw [List.length_map] at slen
                -- the codes, column by column
                refine ⟨Nat.zero_le _, fun o no => ?_⟩
                have so : Same H (upd H o (.lst [])) := same_upd no
                refine ⟨_, rfl, _, rfl, _, _, rfl, rfl, cd _, _, rfl, _, rfl, _, _, rfl, rfl, cd _, _, _, rfl, rfl, _, _, rfl, by omega, ?_⟩
                have nX : ((x1 : Int) / (σ₁ : Int) + 1 - (x0 : Int) / (σ₁ : Int)).toNat = u1 + 1 - u0 := by omega
                refine for_it (walk_range (lo := (x0 : Int) / (σ₁ : Int)) (n := ((x1 : Int) / (σ₁ : Int) + 1 - (x0 : Int) / (σ₁ : Int)).toNat))
                  (fun i σ H' => Same H H' ∧ RowsAt H' o ((List.range i).flatMap fun i => (List.range (v1 + 1 - v0)).map fun j => SqM.codeI (SqM.qsFrom LsRefs.LAND ((u0 + i) * σ₁) ((v0 + j) * σ₁) s')) ∧ ∃ y11 y12, σ = [some (.ref a), some (.ref t), some (.int (s' : Int)), some (.int (x0 : Int)), some (.int (y0 : Int)), some (.int (x1 : Int)), some (.int (y1 : Int)), some (.int (σ₁ : Int)), some (.int ((u1 : Int) - (u0 : Int) + 1)), some (.int ((v1 : Int) - (v0 : Int) + 1)), some (.ref o), y11, y12]) ?_ (fun _ _ _ _ _ => trivial) ?_ ?_
                · exact ⟨so, RowsAt.nil upd_same, _, _, rfl⟩
                · rintro i _ σ H' _ hi ⟨sm, hR, y11, y12, rfl⟩ ⟨rfl, rfl⟩
                  rw [nX] at hi
                  have nY : ((y1 : Int) / (σ₁ : Int) + 1 - (y0 : Int) / (σ₁ : Int)).toNat = v1 + 1 - v0 := by omega
                  refine ⟨_, rfl, _, rfl, _, _, rfl, rfl, cd _, _, rfl, _, rfl, _, _, rfl, rfl, cd _, _, _, rfl, rfl, _, _, rfl, by omega, ?_⟩
                  refine for_it (walk_range (lo := (y0 : Int) / (σ₁ : Int)) (n := ((y1 : Int) / (σ₁ : Int) + 1 - (y0 : Int) / (σ₁ : Int)).toNat))
                    (fun j σ H' => Same H H' ∧ RowsAt H' o (((List.range i).flatMap fun i => (List.range (v1 + 1 - v0)).map fun j => SqM.codeI (SqM.qsFrom LsRefs.LAND ((u0 + i) * σ₁) ((v0 + j) * σ₁) s')) ++ (List.range j).map fun j => SqM.codeI (SqM.qsFrom LsRefs.LAND ((u0 + i) * σ₁) ((v0 + j) * σ₁) s')) ∧ ∃ y12, σ = [some (.ref a), some (.ref t), some (.int (s' : Int)), some (.int (x0 : Int)), some (.int (y0 : Int)), some (.int (x1 : Int)), some (.int (y1 : Int)), some (.int (σ₁ : Int)), some (.int ((u1 : Int) - (u0 : Int) + 1)), some (.int ((v1 : Int) - (v0 : Int) + 1)), some (.ref o), some (.int ((x0 : Int) / (σ₁ : Int) + (i : Int))), y12]) ?_ (fun _ _ _ _ _ => trivial) ?_ ?_
                  · exact ⟨sm, by simpa using hR, _, rfl⟩
                  · rintro j _ σ H2 _ hj ⟨sm2, hR2, y12', rfl⟩ ⟨rfl, rfl⟩
                    rw [nY] at hj
                    have hRk := hR2
                    obtain ⟨bs, hbs, _, _⟩ := hRk
                    have g1 := cin (u0 + i) x1 h3 (by omega)
                    have g2 := cin (v0 + j) y1 h4 (by omega)
                    refine ⟨.ref o, rfl, .inl ⟨rfl, _, sl_of hbs⟩, _, rfl, _, rfl, _, rfl, _, _, rfl, rfl, .inr ⟨by omega, by omega⟩, _, rfl, _, rfl, _, _, rfl, rfl, .inr ⟨by omega, by omega⟩, s', (u0 + i) * σ₁, (v0 + j) * σ₁, ?_, hs, fun p1 H3 np1 s3 hp1 => ?_⟩
                    · rw [ex0, ey0]
                      simp only [Int.natCast_mul, Int.natCast_add]
                      rfl
                    · refine ⟨p1, _, rfl, sl_of hp1, by rw [SqM.qsFrom_len]; omega, fun p2 H4 np2 s4 hp2 => ?_⟩
                      have s34 := s3.trans s4
                      have po : p2 ≠ o := (ne_of_none (s3 _ _ hbs) np2).symm
                      obtain ⟨xs, hxs, hl, hR4⟩ := rows_append (hR2.mono s34) hp2 po
                      refine ⟨o, _, _, rfl, rfl, hxs, ?_, same_mut (sm2.trans s34) no, ?_, _, rfl⟩
                      · rw [hl, List.length_append, flat_len _ (v1 + 1 - v0) _ (fun i => by rw [List.length_map, List.length_range]), List.length_map, List.length_range]
                        have h5 : i * (v1 + 1 - v0) ≤ (u1 + 1 - u0) * (v1 + 1 - v0) := Nat.mul_le_mul_right _ (by omega)
                        exact big' (by omega)
                      · rw [range_map_succ, ← List.append_assoc]
                        exact hR4
                  · rintro σ H2 ⟨sm2, hR2, y12', rfl⟩
                    refine ⟨sm2, ?_, _, _, rfl⟩
                    rw [nY] at hR2
                    rw [range_flat_succ]
                    exact hR2
                · rintro σ H' ⟨sm, hR, y11, y12, rfl⟩
                  rw [nX] at hR
                  have eR : ((List.range (u1 + 1 - u0)).flatMap fun i => (List.range (v1 + 1 - v0)).map fun j => SqM.codeI (SqM.qsFrom LsRefs.LAND ((u0 + i) * σ₁) ((v0 + j) * σ₁) s')) = (((List.range (u1 + 1 - u0)).flatMap fun i => (List.range (v1 + 1 - v0)).map fun j => SqM.qsFrom LsRefs.LAND ((u0 + i) * σ₁) ((v0 + j) * σ₁) s').map SqM.codeI) := by
                    rw [List.map_flatMap]
                    simp only [List.map_map]
                    rfl
                  rw [eR] at hR
                  obtain ⟨bs, hbs, hbl, hbt⟩ := hR
                  have blen : ((bs.map fun b => V.ref b.1).length : Int) = ((LsRefs.over s' x0 y0 x1 y1).length : Int) := by
                    have e1 := congrArg List.length hbl
                    have e2 := congrArg List.length osort
                    unfold SqM.srt at e2
                    rw [List.length_mergeSort] at e2
                    rw [e2, List.length_map, List.length_map, List.length_map] at e1
                    rw [List.length_map, e1]
                  refine ⟨_, rfl, o, _, rfl, .inl (sl_of hbs), by show 1 ≤ sizeLine; decide, fun p5 np5 => ?_⟩
                  have s5 : Same H' (upd H' p5 (.lst [.int ((bs.map fun b => V.ref b.1).length : Int)])) := same_upd np5
                  refine ⟨_, rfl, o, bs, rfl, sl_of (s5 _ _ hbs), fun b' hb' => sl_of (s5 _ _ (hbt b' hb')), fun p6 np6 => ?_⟩
                  have s6 := same_upd (o := .lst ((srtB bs).map fun b => V.ref b.1)) np6
                  refine ⟨p6, (LsRefs.over s' x0 y0 x1 y1).map LsRefs.codeText, rfl, ⟨srtB bs, upd_same, by rw [srtB_snd, hbl, osort], fun b' hb' => s6 _ _ (s5 _ _ (hbt b' (srtB_mem.mp hb')))⟩, by omega, fun p7 H7 np7 s7 hp7 => ?_⟩
                  refine ⟨p5, p7, _, _, rfl, rfl, s7 _ _ (s6 _ _ upd_same), hp7, ?_, fun p8 np8 => ?_⟩
                  · rw [iv_len, bI_len]
                    exact big (by show 1 + _ ≤ _; omega)
                  · have s8 := ((sm.trans s5).trans s6).trans s7
                    refine q' p8 _ (s8.free np8) (s8.trans (same_upd np8)) ?_
                    rw [upd_same, blen]
                    rfl

end
end SqW

/-! SqX2: the desk. -/
namespace SqW
open PySem PySem.Spec PyProof.Rows L2
open LsText (Bytes)
open LsRows (told)
open RefsSpec (answer)
section
variable {P : Program} {w : World} {K : PySem.W.Frag} {mg : Str → Option Value} {base : Heap}
/-! ### texts_from -/
theorem iv_drop (l : List Int) (i : Nat) : (iv l).drop i = iv (l.drop i) := (List.map_drop).symm
theorem iv_take (l : List Int) (i : Nat) : (iv l).take i = iv (l.take i) := (List.map_take).symm
theorem drop_cons {l r : List Int} {p : Nat} {n : Int} (h : l.drop p = n :: r) : l[p]? = some n ∧ l.drop (p + 1) = r ∧ p + 1 + r.length = l.length := by
  have h0 : (l.drop p)[0]? = some n := by rw [h]; rfl
  rw [List.getElem?_drop] at h0
  have h1 := congrArg List.length h
  rw [List.length_drop, List.length_cons] at h1
  refine ⟨h0, ?_, by omega⟩
  rw [← List.drop_drop, h]
  rfl
def sp_texts_from (K : PySem.W.Frag) : Sp := fun vs H Q _ => ∃ (a : Addr) (l : List Int) (p k : Nat) (xs : List (List Int)) (t : List Int), vs = [.ref a, .int (p : Int), .int (k : Int)] ∧ SqL K H a (iv l) ∧ l.length ≤ 31700 ∧ p ≤ l.length ∧ k ≤ 2 ∧ PyFlat.rows k (l.drop p) = some (xs, t) ∧
  ∀ (T ts : Addr) (p' : Nat) (H' : Hp), Same H H' → H' T = some (.tup [.ref ts, .int (p' : Int)]) → RowsAt H' ts xs → p' ≤ l.length → p ≤ p' → t = l.drop p' → Q (.ref T) H'
theorem sc_texts_from : FnScope ["calls", "at", "many", "texts", "place", "turn", "first"] ["calls", "at", "many"] (defScope (top 87)) := ⟨rfl, rfl, rfl, by decide +kernel, rfl, by decide +kernel, by decide +kernel⟩
theorem ok_texts_from {k : Nat} (F : FnAt K mg "texts_from" (top 87)) (n_range : mg "range" = none) : CallOk P w K mg base (k + 1) "texts_from" ["calls", "at", "many"] (sp_texts_from K) := by
  obtain ⟨f, fd, g, F⟩ := F
  refine ⟨f, fd, g, F.kp, F.binds fun _ _ _ _ _ _ us hl => match us, hl with | [_, _, _], _ => rfl, F.ok sc_texts_from (fun vs H Q E h => ?_) fun cdv A outer s H vs Q E hr h => ?_⟩
  · obtain ⟨a, l, p, k, xs, t, rfl, _⟩ := h
    rfl
  · obtain ⟨a, l, p, k', xs, t, rfl, hS, hl, hp, hk, hrows, q⟩ := h
    refine ⟨_, (pss_cons (ps_set (i := 3) sc_texts_from.nd rfl (.inl rfl) (pe_lst pa_nil))
        (pss_cons (ps_set (i := 4) sc_texts_from.nd rfl (.inl rfl) (pv 1))
        (pss_cons (ps_for PassesOwn.never rfl (pi_range1 (by rfl) n_range (pa_cons (pv 2) pa_nil)) (pg_name (i := 5) sc_texts_from.nd rfl (.inl rfl)) (pss_cons (ps_set (i := 6) sc_texts_from.nd rfl (.inl rfl) (pe_op op_add (pv 4) pe_int))
        (pss_cons (ps_set (i := 4) sc_texts_from.nd rfl (.inl rfl) (pe_op op_add (pv 6) (pe_ix ix_list (pv 0) (pv 4) (fun _ _ => rfl))))
        (pss_one (ps_expr (pe_bm PySem.F.plainAttrs_list PySem.F.slot_list_append PySem.F.type_list_append mt_append (pv 3) (pa_cons (pe_slice sl_list (pv 0) (po_some (pv 6)) (po_some (pv 4))) pa_nil)))))))
        (pss_one (ps_ret (pe_tup (pa_cons (pv 3) (pa_cons (pv 4) pa_nil)))))))), ?_⟩
    refine ⟨Nat.zero_le _, fun o no => ?_⟩
    have so : Same H (upd H o (.lst [])) := same_upd no
    refine ⟨_, rfl, _, rfl, _, rfl, by omega, by omega, for_it (walk_range (lo := 0) (n := (k' : Int).toNat))
      (fun i σ H' => Same H H' ∧ ∃ (pl : Nat) (xs' : List (List Int)) (y5 y6 : Option V), pl ≤ l.length ∧ p ≤ pl ∧ i + xs'.length = k' ∧ (∃ xs0, xs = xs0 ++ xs' ∧ RowsAt H' o xs0 ∧ xs0.length = i) ∧ PyFlat.rows xs'.length (l.drop pl) = some (xs', t) ∧ σ = [some (.ref a), some (.int (p : Int)), some (.int (k' : Int)), some (.ref o), some (.int (pl : Int)), y5, y6]) ?_ (fun _ _ _ _ _ => trivial) ?_ ?_⟩
    · have cnt := SqM.rows_count hrows
      exact ⟨so, p, xs, none, none, hp, Nat.le_refl _, by omega, ⟨[], rfl, RowsAt.nil upd_same, rfl⟩, by rw [cnt]; exact hrows, rfl⟩
    · rintro i _ σ H' _ hi ⟨sm, pl, xs', y5, y6, hpl, hple, hcnt, ⟨xs0, hx0, hR, hx0l⟩, hr, rfl⟩ ⟨rfl, rfl⟩
      obtain ⟨m, hm⟩ : ∃ m, xs'.length = m + 1 := ⟨xs'.length - 1, by omega⟩
      rw [hm] at hr
      obtain ⟨n, r', xs2, hd, hn0, hnl, rfl, hr2⟩ := SqM.rows_succ hr
      obtain ⟨g1, g2, g3⟩ := drop_cons hd
      rw [List.length_cons] at hm hcnt
      have hRk := hR
      obtain ⟨bs, hbs, _, _⟩ := hRk
      have hcut : cutV (iv l) (some ((pl : Int) + 1)) (some ((pl : Int) + 1 + n)) = iv (r'.take n.toNat) := by
        rw [show ((pl : Int) + 1) = ((pl + 1 : Nat) : Int) by omega, show (((pl + 1 : Nat) : Int) + n) = ((pl + 1 + n.toNat : Nat) : Int) by omega, cut_nat _ _ _ (by omega) (by rw [iv_len]; omega), Nat.add_sub_cancel_left, iv_drop, iv_take, g2]
      refine ⟨_, rfl, _, _, rfl, rfl, ?_⟩
      refine ⟨_, rfl, .ref a, rfl, _, rfl, a, _, _, _, rfl, rfl, sm.seq hS, at_iv rfl g1, _, _, rfl, rfl, ?_⟩
      refine ⟨.ref o, rfl, .inl ⟨rfl, _, sl_of hbs⟩, .ref a, rfl, _, rfl, _, rfl, _, rfl, _, rfl, a, _, rfl, sm.seq hS, fun p1 np1 => ?_⟩
      have s1 := same_upd (o := .lst (cutV (iv l) (some ((pl : Int) + 1)) (some ((pl : Int) + 1 + n)))) np1
      have po : p1 ≠ o := (ne_of_none hbs np1).symm
      obtain ⟨ys, hys, hyl, hR2⟩ := rows_append (hR.mono s1) (upd_same.trans (by rw [hcut])) po
      refine ⟨o, _, _, rfl, rfl, hys, ?_, same_mut (sm.trans s1) no, pl + 1 + n.toNat, xs2, some (.int (0 + (i : Int))), some (.int ((pl : Int) + 1)), by omega, by omega, by omega, ⟨xs0 ++ [r'.take n.toNat], ?_, hR2, ?_⟩, ?_, ?_⟩
      · rw [hyl]
        exact big' (by omega)
      · rw [hx0, List.append_assoc]
        rfl
      · rw [List.length_append, hx0l]
        rfl
      · have : m = xs2.length := by omega
        rw [← this, ← List.drop_drop, g2]
        exact hr2
      · have e : ((pl + 1 + n.toNat : Nat) : Int) = (pl : Int) + 1 + n := by omega
        rw [e]
        rfl
    · rintro σ H' ⟨sm, pl, xs', y5, y6, hpl, hple, hcnt, ⟨xs0, hx0, hR, _⟩, hr, rfl⟩
      have h0 : xs'.length = 0 := by omega
      rw [h0] at hr
      obtain ⟨e1, e2⟩ := SqM.rows_zero hr
      rw [e1, List.append_nil] at hx0
      refine ⟨_, rfl, _, rfl, by show 2 ≤ sizeLine; decide, fun T nT => ?_⟩
      have sT := same_upd (o := .tup [.ref o, .int (pl : Int)]) nT
      exact q T o pl _ (sm.trans sT) upd_same (by rw [hx0]; exact hR.mono sT) hpl hple e2

/-! ### one_answer -/
/-- the deeds, at their places -/
def DeedsAt (K : PySem.W.Frag) (mg : Str → Option Value) : Prop := ∃ (aD f0 f1 f2 f3 f4 f5 f6 f7 f8 f9 f10 f11 : Addr), mg "DEEDS" = some (.ref aD) ∧
  (∀ H, SqT K H aD [.ref f0, .ref f1, .ref f2, .ref f3, .ref f4, .ref f5, .ref f6, .ref f7, .ref f8, .ref f9, .ref f10, .ref f11]) ∧
  (mg "call_square" = some (.ref f0) ∧ mg "call_read" = some (.ref f1) ∧ mg "call_within" = some (.ref f2) ∧ mg "call_through" = some (.ref f3) ∧ mg "call_sheet" = some (.ref f4) ∧ mg "call_box" = some (.ref f5)) ∧
  (mg "call_near" = some (.ref f6) ∧ mg "call_up" = some (.ref f7) ∧ mg "call_over" = some (.ref f8) ∧ mg "call_least" = some (.ref f9) ∧ mg "call_lie" = some (.ref f10) ∧ mg "call_great" = some (.ref f11))
/-- what a deed must do for numbers and texts that are a call -/
def DoesIt (K : PySem.W.Frag) (spd : Sp) (ns : List Int) (xs : List (List Int)) (out : List Int) : Prop := ∀ (H : Hp) (na ta : Addr) (Q : VK) (E : XK), SqL K H na (iv ns) → RowsAt H ta xs → retL H Q out → spd [.ref na, .ref ta] H Q E
def sp_one_answer (K : PySem.W.Frag) : Sp := fun vs H Q _ => ∃ (a : Addr) (l : List Int) (p : Nat) (raw : List (List Int)) (t : List Int) (x : RefsSpec.Call), vs = [.ref a, .int (p : Int)] ∧ SqL K H a (iv l) ∧ l.length ≤ 31700 ∧
  PyFlat.call PyWrmpre.shape (l.drop p) = some (raw, t) ∧ RefsNeutral.callOf raw = some x ∧
  ∀ (T r : Addr) (p' : Nat) (H' : Hp), Same H H' → H r = none → H' T = some (.tup [.ref r, .int (p' : Int)]) → H' r = some (.lst (iv (told (answer x)))) → p' ≤ l.length → p < p' → t = l.drop p' → Q (.ref T) H'
theorem sc_one_answer : FnScope ["calls", "at", "number", "behind", "numbers", "texts", "behind_texts", "deed"] ["calls", "at"] (defScope (top 88)) := ⟨rfl, rfl, rfl, by decide +kernel, rfl, by decide +kernel, by decide +kernel⟩
theorem rows_len : ∀ {k : Nat} {r t : List Int} {xs : List (List Int)}, PyFlat.rows k r = some (xs, t) → ∀ x ∈ xs, x.length ≤ r.length
  | 0, _, _, _, h, x, hx => by
    rw [(SqM.rows_zero h).1] at hx
    cases hx
  | k + 1, _, _, _, h, x, hx => by
    obtain ⟨n, r', xs', rfl, _, hn, rfl, h2⟩ := SqM.rows_succ h
    rcases List.mem_cons.mp hx with e | hx
    · rw [e, List.length_take, List.length_cons]
      omega
    · have := rows_len h2 x hx
      rw [List.length_drop] at this
      rw [List.length_cons]
      omega
/-- one answer, where the call's number has told which deed it is -/
theorem one_deed {k : Nat} {f : Addr} {cdv : Value} {A : Around} {outer : List Env} {s : Shared} {H : Hp} {Q : VK} {E : XK}
    (hr : Room (k + 6) (A.deeper (envOfC "one_answer" (defScope (top 88)) s.heap.objs.size f cdv)))
    {a_NUMBERS_OF a_TEXTS_OF : Addr} (g_NUMBERS_OF : mg "NUMBERS_OF" = some (.ref a_NUMBERS_OF)) (s_NUMBERS_OF : ∀ H, SqT K H a_NUMBERS_OF (iv cNumbersOf)) (g_TEXTS_OF : mg "TEXTS_OF" = some (.ref a_TEXTS_OF)) (s_TEXTS_OF : ∀ H, SqT K H a_TEXTS_OF (iv cTextsOf))
    {f_texts_from : Addr} {d_texts_from : FuncData} (g_texts_from : mg "texts_from" = some (.ref f_texts_from)) (k_texts_from : PySem.W.keepIn K (.ref f_texts_from) = true) (b_texts_from : Binds K d_texts_from ["calls", "at", "many"] [])
    (G_texts_from : FnOk P w K mg base CX0 (k + 6) f_texts_from d_texts_from ["calls", "at", "many"] (sp_texts_from K))
    {aD fD : Addr} {dD : FuncData} {spD : Sp} {ds : List V} (gD : mg "DEEDS" = some (.ref aD)) (sD : ∀ H, SqT K H aD ds) (kD : PySem.W.keepIn K (.ref fD) = true) (bD : Binds K dD ["numbers", "texts"] []) (GD : FnOk P w K mg base CX0 (k + 6) fD dD ["numbers", "texts"] spD)
    {a : Addr} {l r t : List Int} {p i nn kk : Nat} {xs : List (List Int)} {out : List Int} (hS : SqL K H a (iv l)) (hl : l.length ≤ 31700) (hd : l.drop p = (i : Int) :: r) (hi : i < 12) (hN : cNumbersOf[i]? = some (nn : Int)) (hT : cTextsOf[i]? = some (kk : Int)) (hD : ds[i]? = some (.ref fD)) (hn5 : nn ≤ 5) (hk2 : kk ≤ 2)
    (hnn : nn ≤ r.length) (hrows : PyFlat.rows kk (r.drop nn) = some (xs, t)) (D : DoesIt K spD (r.take nn) xs out)
    (q : ∀ (T r : Addr) (p' : Nat) (H' : Hp), Same H H' → H r = none → H' T = some (.tup [.ref r, .int (p' : Int)]) → H' r = some (.lst (iv out)) → p' ≤ l.length → p < p' → t = l.drop p' → Q (.ref T) H') :
    ∃ t, PSs (cxOf CX0 P w K mg base ["calls", "at", "number", "behind", "numbers", "texts", "behind_texts", "deed"] "one_answer" (defScope (top 88)) f cdv A outer s H E).nox (defBody (top 88)) t ∧
      t { nx := fun x H' => Q V.non H', rt := Q } (L2.start ["calls", "at", "number", "behind", "numbers", "texts", "behind_texts", "deed"] [.ref a, .int (p : Int)]) H := by
  obtain ⟨g1, g2, g3⟩ := drop_cons hd
  have hcut : cutV (iv l) (some ((p : Int) + 1)) (some ((p : Int) + 1 + (nn : Int))) = iv (r.take nn) := by
    rw [show ((p : Int) + 1) = ((p + 1 : Nat) : Int) by omega, show (((p + 1 : Nat) : Int) + (nn : Int)) = ((p + 1 + nn : Nat) : Int) by omega, cut_nat _ _ _ (by omega) (by rw [iv_len]; omega), Nat.add_sub_cancel_left, iv_drop, iv_take, g2]
  refine ⟨_, (pss_cons (ps_set (i := 2) sc_one_answer.nd rfl (.inl rfl) (pe_ix ix_list (pv 0) (pv 1) (fun _ _ => rfl)))
        (pss_cons (ps_set (i := 3) sc_one_answer.nd rfl (.inl rfl) (pe_op op_add (pe_op op_add (pv 1) pe_int) (pe_ix ix_tup (pe_glob (v := .ref a_NUMBERS_OF) rfl g_NUMBERS_OF rfl) (pv 2) (fun _ _ => rfl))))
        (pss_cons (ps_set (i := 4) sc_one_answer.nd rfl (.inl rfl) (pe_slice sl_list (pv 0) (po_some (pe_op op_add (pv 1) pe_int)) (po_some (pv 3))))
        (pss_cons (ps_asg (pe_call G_texts_from hr (by rfl) g_texts_from k_texts_from b_texts_from .nil pass0 (pa_cons (pv 0) (pa_cons (pv 3) (pa_cons (pe_ix ix_tup (pe_glob (v := .ref a_TEXTS_OF) rfl g_TEXTS_OF rfl) (pv 2) (fun _ _ => rfl)) pa_nil)))) (pg_tup rfl (pgs_cons (pg_name (i := 5) sc_one_answer.nd rfl (.inl rfl)) (pgs_cons (pg_name (i := 6) sc_one_answer.nd rfl (.inl rfl)) pgs_nil))))
        (pss_cons (ps_set (i := 7) sc_one_answer.nd rfl (.inl rfl) (pe_ix ix_tup (pe_glob (v := .ref aD) rfl gD rfl) (pv 2) (fun _ _ => rfl)))
        (pss_one (ps_ret (pe_tup (pa_cons (pe_callL (i := 7) (f := fD) GD hr rfl (.inl rfl) kD bD .nil pass0 (pa_cons (pv 4) (pa_cons (pv 5) pa_nil))) (pa_cons (pv 6) pa_nil)))))))))), ?_⟩
  refine ⟨.ref a, rfl, _, rfl, a, _, _, _, rfl, rfl, hS, at_iv rfl g1, ?_⟩
  refine ⟨_, rfl, _, _, rfl, rfl, _, rfl, _, _, _, _, rfl, rfl, s_NUMBERS_OF _, at_iv rfl hN, _, _, rfl, rfl, ?_⟩
  refine ⟨.ref a, rfl, _, rfl, _, _, rfl, rfl, _, rfl, _, rfl, _, rfl, a, _, rfl, hS, fun p1 np1 => ?_⟩
  have s1 := same_upd (o := .lst (cutV (iv l) (some ((p : Int) + 1)) (some ((p : Int) + 1 + (nn : Int))))) np1
  refine ⟨_, rfl, _, rfl, _, rfl, _, _, _, _, rfl, rfl, s_TEXTS_OF _, at_iv rfl hT, a, l, p + 1 + nn, kk, xs, t, ?_, s1.seq hS, hl, by omega, hk2, ?_, fun T ts p' H1 s2 hT1 hR hp' hle ht => ?_⟩
  · rw [show ((p + 1 + nn : Nat) : Int) = (p : Int) + 1 + (nn : Int) by omega]
    rfl
  · rw [← List.drop_drop, g2]
    exact hrows
  refine ⟨T, _, rfl, st_of hT1, rfl, _, _, rfl, _, _, rfl, rfl, ?_⟩
  refine ⟨_, rfl, _, _, _, _, rfl, rfl, sD _, at_of rfl hD, ?_⟩
  refine ⟨rfl, _, rfl, _, rfl, D H1 p1 ts _ _ (sl_of (s2 _ _ (upd_same.trans (by rw [hcut])))) hR fun r1 H2 nr s3 hr1 => ⟨_, rfl, by show 2 ≤ sizeLine; decide, fun T2 nT2 => ?_⟩⟩
  have sT := same_upd (o := .tup [.ref r1, .int (p' : Int)]) nT2
  exact q T2 r1 p' _ (((s1.trans s2).trans s3).trans sT) ((s1.trans s2).free nr) upd_same (sT _ _ hr1) hp' (by omega) ht

/-- twelve deeds that keep their promises -/
def DeedsOk (P : Program) (w : World) (K : PySem.W.Frag) (mg : Str → Option Value) (base : Heap) (k : Nat) : Prop :=
  CallOk P w K mg base k "call_square" ["numbers", "texts"] (sp_call_square K) ∧
  CallOk P w K mg base k "call_read" ["numbers", "texts"] (sp_call_read K) ∧
  CallOk P w K mg base k "call_within" ["numbers", "texts"] (sp_call_within K) ∧
  CallOk P w K mg base k "call_through" ["numbers", "texts"] (sp_call_through K) ∧
  CallOk P w K mg base k "call_sheet" ["numbers", "texts"] (sp_call_sheet K) ∧
  CallOk P w K mg base k "call_box" ["numbers", "texts"] (sp_call_box K) ∧
  CallOk P w K mg base k "call_near" ["numbers", "texts"] (sp_call_near K) ∧
  CallOk P w K mg base k "call_up" ["numbers", "texts"] (sp_call_up K) ∧
  CallOk P w K mg base k "call_over" ["numbers", "texts"] (sp_call_over K) ∧
  CallOk P w K mg base k "call_least" ["numbers", "texts"] (sp_call_least K) ∧
  CallOk P w K mg base k "call_lie" ["numbers", "texts"] (sp_call_lie K) ∧
  CallOk P w K mg base k "call_great" ["numbers", "texts"] (sp_call_great K)
theorem does_square {x y k : Nat} : DoesIt K (sp_call_square K) [(x : Int), (y : Int), (k : Int)] [] (told (answer (.square x y k))) := fun H na ta Q E hN hR q => ⟨na, ta, x, y, k, rfl, hN, q⟩
theorem does_read {b : Bytes} (hb : b.length ≤ 31700) : DoesIt K (sp_call_read K) [] [SqM.bI b] (told (answer (.read b))) := fun H na ta Q E hN hR q => ⟨na, ta, b, rfl, hR, hb, q⟩
theorem does_within {x y : Nat} {b : Bytes} (hb : b.length ≤ 31700) : DoesIt K (sp_call_within K) [(x : Int), (y : Int)] [SqM.bI b] (told (answer (.within b x y))) := fun H na ta Q E hN hR q => ⟨na, ta, x, y, b, rfl, hN, hR, hb, q⟩
theorem does_through {k x0 y0 x1 y1 : Nat} : DoesIt K (sp_call_through K) [(k : Int), (x0 : Int), (y0 : Int), (x1 : Int), (y1 : Int)] [] (told (answer (.through k x0 y0 x1 y1))) := fun H na ta Q E hN hR q => ⟨na, ta, k, x0, y0, x1, y1, rfl, hN, q⟩
theorem does_sheet {s x y : Nat} : DoesIt K (sp_call_sheet K) [(s : Int), (x : Int), (y : Int)] [] (told (answer (.sheet s x y))) := fun H na ta Q E hN hR q => ⟨na, ta, s, x, y, rfl, hN, q⟩
theorem does_box {b : Bytes} (hb : b.length ≤ 31700) : DoesIt K (sp_call_box K) [] [SqM.bI b] (told (answer (.box b))) := fun H na ta Q E hN hR q => ⟨na, ta, b, rfl, hR, hb, q⟩
theorem does_near {d : Nat} {b : Bytes} (hb : b.length ≤ 31700) : DoesIt K (sp_call_near K) [(d : Int)] [SqM.bI b] (told (answer (.near b d))) := fun H na ta Q E hN hR q => ⟨na, ta, d, b, rfl, hN, hR, hb, q⟩
theorem does_up {d : Nat} {b : Bytes} (hb : b.length ≤ 31700) : DoesIt K (sp_call_up K) [(d : Int)] [SqM.bI b] (told (answer (.up b d))) := fun H na ta Q E hN hR q => ⟨na, ta, d, b, rfl, hN, hR, hb, q⟩
theorem does_over {k x0 y0 x1 y1 : Nat} : DoesIt K (sp_call_over K) [(k : Int), (x0 : Int), (y0 : Int), (x1 : Int), (y1 : Int)] [] (told (answer (.over k x0 y0 x1 y1))) := fun H na ta Q E hN hR q => ⟨na, ta, k, x0, y0, x1, y1, rfl, hN, q⟩
theorem does_least {x0 y0 x1 y1 : Nat} : DoesIt K (sp_call_least K) [(x0 : Int), (y0 : Int), (x1 : Int), (y1 : Int)] [] (told (answer (.least x0 y0 x1 y1))) := fun H na ta Q E hN hR q => ⟨na, ta, x0, y0, x1, y1, rfl, hN, q⟩
theorem does_lie {b e : Bytes} (hb : b.length ≤ 31700) (he : e.length ≤ 31700) : DoesIt K (sp_call_lie K) [] [SqM.bI b, SqM.bI e] (told (answer (.lie b e))) := fun H na ta Q E hN hR q => ⟨na, ta, b, e, rfl, hR, hb, he, q⟩
theorem does_great {b : Bytes} (hb : b.length ≤ 31700) : DoesIt K (sp_call_great K) [] [SqM.bI b] (told (answer (.great b))) := fun H na ta Q E hN hR q => ⟨na, ta, b, rfl, hR, hb, q⟩
theorem ok_one_answer {k : Nat} (F : FnAt K mg "one_answer" (top 88)) (g_NUMBERS_OF : TupAt K mg "NUMBERS_OF" (iv cNumbersOf)) (g_TEXTS_OF : TupAt K mg "TEXTS_OF" (iv cTextsOf)) (c_texts_from : CallOk P w K mg base (k + 6) "texts_from" ["calls", "at", "many"] (sp_texts_from K)) (c_DEEDS : DeedsOk P w K mg base (k + 6)) (g_DEEDS : DeedsAt K mg) : CallOk P w K mg base (k + 7) "one_answer" ["calls", "at"] (sp_one_answer K) := by
  obtain ⟨f, fd, g, F⟩ := F
  obtain ⟨a_NUMBERS_OF, g_NUMBERS_OF, s_NUMBERS_OF, l_NUMBERS_OF⟩ := g_NUMBERS_OF
  obtain ⟨a_TEXTS_OF, g_TEXTS_OF, s_TEXTS_OF, l_TEXTS_OF⟩ := g_TEXTS_OF
  obtain ⟨f_texts_from, d_texts_from, g_texts_from, k_texts_from, b_texts_from, G_texts_from⟩ := c_texts_from.ex
  refine ⟨f, fd, g, F.kp, F.binds fun _ _ _ _ _ _ us hl => match us, hl with | [_, _], _ => rfl, F.ok sc_one_answer (fun vs H Q E h => ?_) fun cdv A outer s H vs Q E hr h => ?_⟩
  · obtain ⟨a, l, p, raw, t, x, rfl, _⟩ := h
    rfl
  · obtain ⟨a, l, p, raw, t, x, rfl, hS, hl, hcall, hx, q⟩ := h
    obtain ⟨n0, r, nn, kk, xs, hd, hsh, hnn, hrows, rfl⟩ := SqM.call_some hcall
    obtain ⟨aD, f0, f1, f2, f3, f4, f5, f6, f7, f8, f9, f10, f11, gD, sD, ⟨m0, m1, m2, m3, m4, m5⟩, m6, m7, m8, m9, m10, m11⟩ := g_DEEDS
    obtain ⟨c0, c1, c2, c3, c4, c5, c6, c7, c8, c9, c10, c11⟩ := c_DEEDS
    have xlen := SqM.rows_count hrows
    have small := rows_len hrows
    have rl : r.length ≤ 31700 := by
      obtain ⟨_, _, g3⟩ := drop_cons hd
      omega
    have tl : ∀ b : Bytes, SqM.bI b ∈ xs → b.length ≤ 31700 := fun b hb => by
      have := small _ hb
      rw [bI_len, List.length_drop] at this
      omega
    unfold PyWrmpre.shape at hsh
    by_cases e0 : n0 = 0
    · rw [if_pos e0] at hsh
      cases Option.some.inj hsh
      subst e0
      obtain ⟨z0, z1, z2, et⟩ := SqM.take3 hnn
      have ex := List.eq_nil_of_length_eq_zero xlen
      rw [et, ex] at hx
      obtain ⟨x, y, k, rfl, rfl, rfl, rfl⟩ := SqM.of0 hx
      obtain ⟨f, d, g, kD, bD, GD⟩ := c0.ex
      cases m0.symm.trans g
      exact one_deed hr g_NUMBERS_OF s_NUMBERS_OF g_TEXTS_OF s_TEXTS_OF g_texts_from k_texts_from b_texts_from G_texts_from gD sD kD bD GD (i := 0) (nn := 3) (kk := 0) hS hl hd (by decide) rfl rfl rfl (by decide) (by decide) hnn hrows (by rw [et, ex]; exact does_square) q
    rw [if_neg e0] at hsh
    by_cases e1 : n0 = 1
    · rw [if_pos e1] at hsh
      cases Option.some.inj hsh
      subst e1
      have et := SqM.take0 r
      obtain ⟨t0, ex⟩ := SqM.len1 xlen
      rw [et, ex] at hx
      obtain ⟨b, rfl, rfl⟩ := SqM.of1 hx
      obtain ⟨f, d, g, kD, bD, GD⟩ := c1.ex
      cases m1.symm.trans g
      exact one_deed hr g_NUMBERS_OF s_NUMBERS_OF g_TEXTS_OF s_TEXTS_OF g_texts_from k_texts_from b_texts_from G_texts_from gD sD kD bD GD (i := 1) (nn := 0) (kk := 1) hS hl hd (by decide) rfl rfl rfl (by decide) (by decide) hnn hrows (by rw [et, ex]; exact does_read (tl _ (by rw [ex]; simp))) q
    rw [if_neg e1] at hsh
    by_cases e2 : n0 = 2
    · rw [if_pos e2] at hsh
      cases Option.some.inj hsh
      subst e2
      obtain ⟨z0, z1, et⟩ := SqM.take2 hnn
      obtain ⟨t0, ex⟩ := SqM.len1 xlen
      rw [et, ex] at hx
      obtain ⟨x, y, b, rfl, rfl, rfl, rfl⟩ := SqM.of2 hx
      obtain ⟨f, d, g, kD, bD, GD⟩ := c2.ex
      cases m2.symm.trans g
      exact one_deed hr g_NUMBERS_OF s_NUMBERS_OF g_TEXTS_OF s_TEXTS_OF g_texts_from k_texts_from b_texts_from G_texts_from gD sD kD bD GD (i := 2) (nn := 2) (kk := 1) hS hl hd (by decide) rfl rfl rfl (by decide) (by decide) hnn hrows (by rw [et, ex]; exact does_within (tl _ (by rw [ex]; simp))) q
    rw [if_neg e2] at hsh
    by_cases e3 : n0 = 3
    · rw [if_pos e3] at hsh
      cases Option.some.inj hsh
      subst e3
      obtain ⟨z0, z1, z2, z3, z4, et⟩ := SqM.take5 hnn
      have ex := List.eq_nil_of_length_eq_zero xlen
      rw [et, ex] at hx
      obtain ⟨k, x0, y0, x1, y1, rfl, rfl, rfl, rfl, rfl, rfl⟩ := SqM.of3 hx
      obtain ⟨f, d, g, kD, bD, GD⟩ := c3.ex
      cases m3.symm.trans g
      exact one_deed hr g_NUMBERS_OF s_NUMBERS_OF g_TEXTS_OF s_TEXTS_OF g_texts_from k_texts_from b_texts_from G_texts_from gD sD kD bD GD (i := 3) (nn := 5) (kk := 0) hS hl hd (by decide) rfl rfl rfl (by decide) (by decide) hnn hrows (by rw [et, ex]; exact does_through) q
    rw [if_neg e3] at hsh
    by_cases e4 : n0 = 4
    · rw [if_pos e4] at hsh
      cases Option.some.inj hsh
      subst e4
      obtain ⟨z0, z1, z2, et⟩ := SqM.take3 hnn
      have ex := List.eq_nil_of_length_eq_zero xlen
      rw [et, ex] at hx
      obtain ⟨s, x, y, rfl, rfl, rfl, rfl⟩ := SqM.of4 hx
      obtain ⟨f, d, g, kD, bD, GD⟩ := c4.ex
      cases m4.symm.trans g
      exact one_deed hr g_NUMBERS_OF s_NUMBERS_OF g_TEXTS_OF s_TEXTS_OF g_texts_from k_texts_from b_texts_from G_texts_from gD sD kD bD GD (i := 4) (nn := 3) (kk := 0) hS hl hd (by decide) rfl rfl rfl (by decide) (by decide) hnn hrows (by rw [et, ex]; exact does_sheet) q
    rw [if_neg e4] at hsh
    by_cases e5 : n0 = 5
    · rw [if_pos e5] at hsh
      cases Option.some.inj hsh
      subst e5
      have et := SqM.take0 r
      obtain ⟨t0, ex⟩ := SqM.len1 xlen
      rw [et, ex] at hx
      obtain ⟨b, rfl, rfl⟩ := SqM.of5 hx
      obtain ⟨f, d, g, kD, bD, GD⟩ := c5.ex
      cases m5.symm.trans g
      exact one_deed hr g_NUMBERS_OF s_NUMBERS_OF g_TEXTS_OF s_TEXTS_OF g_texts_from k_texts_from b_texts_from G_texts_from gD sD kD bD GD (i := 5) (nn := 0) (kk := 1) hS hl hd (by decide) rfl rfl rfl (by decide) (by decide) hnn hrows (by rw [et, ex]; exact does_box (tl _ (by rw [ex]; simp))) q
    rw [if_neg e5] at hsh
    by_cases e6 : n0 = 6
    · rw [if_pos e6] at hsh
      cases Option.some.inj hsh
      subst e6
      obtain ⟨z0, et⟩ := SqM.take1 hnn
      obtain ⟨t0, ex⟩ := SqM.len1 xlen
      rw [et, ex] at hx
      obtain ⟨d, b, rfl, rfl, rfl⟩ := SqM.of6 hx
      obtain ⟨f, d, g, kD, bD, GD⟩ := c6.ex
      cases m6.symm.trans g
      exact one_deed hr g_NUMBERS_OF s_NUMBERS_OF g_TEXTS_OF s_TEXTS_OF g_texts_from k_texts_from b_texts_from G_texts_from gD sD kD bD GD (i := 6) (nn := 1) (kk := 1) hS hl hd (by decide) rfl rfl rfl (by decide) (by decide) hnn hrows (by rw [et, ex]; exact does_near (tl _ (by rw [ex]; simp))) q
    rw [if_neg e6] at hsh
    by_cases e7 : n0 = 7
    · rw [if_pos e7] at hsh
      cases Option.some.inj hsh
      subst e7
      obtain ⟨z0, et⟩ := SqM.take1 hnn
      obtain ⟨t0, ex⟩ := SqM.len1 xlen
      rw [et, ex] at hx
      obtain ⟨d, b, rfl, rfl, rfl⟩ := SqM.of7 hx
      obtain ⟨f, d, g, kD, bD, GD⟩ := c7.ex
      cases m7.symm.trans g
      exact one_deed hr g_NUMBERS_OF s_NUMBERS_OF g_TEXTS_OF s_TEXTS_OF g_texts_from k_texts_from b_texts_from G_texts_from gD sD kD bD GD (i := 7) (nn := 1) (kk := 1) hS hl hd (by decide) rfl rfl rfl (by decide) (by decide) hnn hrows (by rw [et, ex]; exact does_up (tl _ (by rw [ex]; simp))) q
    rw [if_neg e7] at hsh
    by_cases e8 : n0 = 8
    · rw [if_pos e8] at hsh
      cases Option.some.inj hsh
      subst e8
      obtain ⟨z0, z1, z2, z3, z4, et⟩ := SqM.take5 hnn
      have ex := List.eq_nil_of_length_eq_zero xlen
      rw [et, ex] at hx
      obtain ⟨k, x0, y0, x1, y1, rfl, rfl, rfl, rfl, rfl, rfl⟩ := SqM.of8 hx
      obtain ⟨f, d, g, kD, bD, GD⟩ := c8.ex
      cases m8.symm.trans g
      exact one_deed hr g_NUMBERS_OF s_NUMBERS_OF g_TEXTS_OF s_TEXTS_OF g_texts_from k_texts_from b_texts_from G_texts_from gD sD kD bD GD (i := 8) (nn := 5) (kk := 0) hS hl hd (by decide) rfl rfl rfl (by decide) (by decide) hnn hrows (by rw [et, ex]; exact does_over) q
    rw [if_neg e8] at hsh
    by_cases e9 : n0 = 9
    · rw [if_pos e9] at hsh
      cases Option.some.inj hsh
      subst e9
      obtain ⟨z0, z1, z2, z3, et⟩ := SqM.take4 hnn
      have ex := List.eq_nil_of_length_eq_zero xlen
      rw [et, ex] at hx
      obtain ⟨x0, y0, x1, y1, rfl, rfl, rfl, rfl, rfl⟩ := SqM.of9 hx
      obtain ⟨f, d, g, kD, bD, GD⟩ := c9.ex
      cases m9.symm.trans g
      exact one_deed hr g_NUMBERS_OF s_NUMBERS_OF g_TEXTS_OF s_TEXTS_OF g_texts_from k_texts_from b_texts_from G_texts_from gD sD kD bD GD (i := 9) (nn := 4) (kk := 0) hS hl hd (by decide) rfl rfl rfl (by decide) (by decide) hnn hrows (by rw [et, ex]; exact does_least) q
    rw [if_neg e9] at hsh
    by_cases e10 : n0 = 10
    · rw [if_pos e10] at hsh
      cases Option.some.inj hsh
      subst e10
      have et := SqM.take0 r
      obtain ⟨t0, t1, ex⟩ := SqM.len2 xlen
      rw [et, ex] at hx
      obtain ⟨b, e, rfl, rfl, rfl⟩ := SqM.of10 hx
      obtain ⟨f, d, g, kD, bD, GD⟩ := c10.ex
      cases m10.symm.trans g
      exact one_deed hr g_NUMBERS_OF s_NUMBERS_OF g_TEXTS_OF s_TEXTS_OF g_texts_from k_texts_from b_texts_from G_texts_from gD sD kD bD GD (i := 10) (nn := 0) (kk := 2) hS hl hd (by decide) rfl rfl rfl (by decide) (by decide) hnn hrows (by rw [et, ex]; exact does_lie (tl _ (by rw [ex]; simp)) (tl _ (by rw [ex]; simp))) q
    rw [if_neg e10] at hsh
    by_cases e11 : n0 = 11
    · rw [if_pos e11] at hsh
      cases Option.some.inj hsh
      subst e11
      have et := SqM.take0 r
      obtain ⟨t0, ex⟩ := SqM.len1 xlen
      rw [et, ex] at hx
      obtain ⟨b, rfl, rfl⟩ := SqM.of11 hx
      obtain ⟨f, d, g, kD, bD, GD⟩ := c11.ex
      cases m11.symm.trans g
      exact one_deed hr g_NUMBERS_OF s_NUMBERS_OF g_TEXTS_OF s_TEXTS_OF g_texts_from k_texts_from b_texts_from G_texts_from gD sD kD bD GD (i := 11) (nn := 0) (kk := 1) hS hl hd (by decide) rfl rfl rfl (by decide) (by decide) hnn hrows (by rw [et, ex]; exact does_great (tl _ (by rw [ex]; simp))) q
    rw [if_neg e11] at hsh
    cases hsh

end
end SqW

/-! SqX3: the answers. -/
namespace SqW
open PySem PySem.Spec PyProof.Rows L2
open LsText (Bytes)
open LsRows (told)
open RefsSpec (answer)
section
variable {P : Program} {w : World} {K : PySem.W.Frag} {mg : Str → Option Value} {base : Heap}
/-! ### answers -/
def spAns (K : PySem.W.Frag) : Sp := fun vs H Q _ => ∃ (a : Addr) (ns : List Int), vs = [.ref a] ∧ SqL K H a (iv ns) ∧ ns.length ≤ 31700 ∧ PyWrmpre.answers_asked ns = true ∧
  ∀ (H' : Hp) (p : Addr), H' p = some (.lst (iv (PyWrmpre.answers ns))) → Q (.ref p) H'
theorem sc_answers : FnScope ["calls", "given", "at", "answer", "behind"] ["calls"] (defScope (top 89)) := ⟨rfl, rfl, rfl, by decide +kernel, rfl, by decide +kernel, by decide +kernel⟩
theorem ok_answers {k : Nat} {f : Addr} {fd : FuncData} (F : Fun K "answers" "answers" (top 89) f fd) (n_len : mg "len" = none) (c_one_answer : CallOk P w K mg base (k + 7) "one_answer" ["calls", "at"] (sp_one_answer K)) : FnOk P w K mg base CX0 (k + 8) f fd ["calls"] (spAns K) := by
  obtain ⟨f_one_answer, d_one_answer, g_one_answer, k_one_answer, b_one_answer, G_one_answer⟩ := c_one_answer.ex
  refine F.ok sc_answers (fun vs H Q E h => ?_) fun cdv A outer s H vs Q E hr h => ?_
  · obtain ⟨a, l, rfl, _⟩ := h
    rfl
  · obtain ⟨a, l, rfl, hS, hl, hask, q⟩ := h
    obtain ⟨cs0, hcs0, hans, hsome0, hlen⟩ := SqM.asked_parts hask
    refine ⟨_, (pss_cons (ps_set (i := 1) sc_answers.nd rfl (.inl rfl) (pe_lst pa_nil))
        (pss_cons (ps_set (i := 2) sc_answers.nd rfl (.inl rfl) pe_int)
        (pss_cons (ps_while PassesOwn.never (pt_cmpR op_lt (pv 2) (pe_callB call_len_seq (by rfl) n_len PySem.boot_len (pa_cons (pv 0) pa_nil)) (nomark _)) (pss_cons (ps_asg (pe_call G_one_answer hr (by rfl) g_one_answer k_one_answer b_one_answer .nil pass0 (pa_cons (pv 0) (pa_cons (pv 2) pa_nil))) (pg_tup rfl (pgs_cons (pg_name (i := 3) sc_answers.nd rfl (.inl rfl)) (pgs_cons (pg_name (i := 4) sc_answers.nd rfl (.inl rfl)) pgs_nil))))
        (pss_cons (ps_expr (pe_bm PySem.F.plainAttrs_list PySem.F.slot_list_append PySem.F.type_list_append mt_append (pv 1) (pa_cons (pe_callB call_len_seq (by rfl) n_len PySem.boot_len (pa_cons (pv 3) pa_nil)) pa_nil)))
        (pss_cons (ps_expr (pe_bm PySem.F.plainAttrs_list PySem.F.slot_list_extend PySem.F.type_list_extend mt_extend (pv 1) (pa_cons (pv 3) pa_nil)))
        (pss_one (ps_set (i := 2) sc_answers.nd rfl (.inl rfl) (pv 4)))))))
        (pss_one (ps_ret (pv 1)))))), ?_⟩
    refine ⟨Nat.zero_le _, fun o no => ?_⟩
    have so : Same H (upd H o (.lst [])) := same_upd no
    refine ⟨fun m σ H' => ∃ (p f : Nat) (cs : List (List (List Int))) (done : List Int) (y3 y4 : Option V), m = l.length - p ∧ p ≤ l.length ∧ Same H H' ∧ H' o = some (.lst (iv done)) ∧ PyFlat.calls PyWrmpre.shape f (l.drop p) = some cs ∧ (∀ c ∈ cs, ∃ x, RefsNeutral.callOf c = some x) ∧ done ++ SqM.outOf cs = PyWrmpre.answers l ∧ σ = [some (.ref a), some (.ref o), some (.int (p : Int)), y3, y4], ⟨_, 0, l.length, cs0, [], _, _, rfl, Nat.zero_le _, so, upd_same, hcs0, hsome0, hans.symm, rfl⟩, ?_⟩
    rintro m σ H' ⟨p, f', cs, done, y3, y4, rfl, hp, sm, ho, hcs, hsome, hdone, rfl⟩
    refine ⟨_, rfl, .ref a, rfl, a, _, rfl, .inl (sm.seq hS), _, _, rfl, rfl, _, rfl, ?_⟩
    by_cases c : p < l.length
    · have hd0 : l.drop p = l[p] :: l.drop (p + 1) := List.drop_eq_getElem_cons c
      have hc2 := hcs
      rw [hd0] at hc2
      obtain ⟨f'', c1, t1, cs', hcall, hcs', rfl⟩ := SqM.calls_cons hc2
      rw [← hd0] at hcall
      obtain ⟨x, hx⟩ := hsome c1 List.mem_cons_self
      have out1 := SqM.outOf_cons hx cs'
      rw [out1] at hdone
      have lens := congrArg List.length hdone
      rw [List.length_append, List.length_cons, List.length_append] at lens
      have cT : decide ((p : Int) < ((iv l).length : Int)) = true := decide_eq_true (by rw [iv_len]; omega)
      show if decide ((p : Int) < ((iv l).length : Int)) = true then _ else _
      rw [if_pos cT]
      refine ⟨fun σ' H2 => ∃ m', m' < l.length - p ∧ (∃ (p f : Nat) (cs : List (List (List Int))) (done : List Int) (y3 y4 : Option V), m' = l.length - p ∧ p ≤ l.length ∧ Same H H2 ∧ H2 o = some (.lst (iv done)) ∧ PyFlat.calls PyWrmpre.shape f (l.drop p) = some cs ∧ (∀ c ∈ cs, ∃ x, RefsNeutral.callOf c = some x) ∧ done ++ SqM.outOf cs = PyWrmpre.answers l ∧ σ' = [some (.ref a), some (.ref o), some (.int (p : Int)), y3, y4]), fun _ _ z => z, ?_⟩
      refine ⟨_, rfl, _, rfl, a, l, p, _, _, x, rfl, sm.seq hS, hl, hcall, hx, fun T r p' H1 s1 nr hT hr hp' hpp ht => ?_⟩
      have or1 : r ≠ o := (ne_of_none ho nr).symm
      have ho1 := s1 _ _ ho
      refine ⟨T, _, rfl, st_of hT, rfl, _, _, rfl, _, _, rfl, rfl, ?_⟩
      refine ⟨.ref o, rfl, .inl ⟨rfl, _, sl_of ho1⟩, .ref r, rfl, r, _, rfl, .inl (sl_of hr), o, _, _, rfl, rfl, ho1, by rw [iv_len]; exact big' (by omega), ?_⟩
      refine ⟨.ref o, rfl, .inl ⟨rfl, _, sl_of upd_same⟩, .ref r, rfl, o, r, _, _, rfl, rfl, upd_same, by rw [upd_ne or1]; exact hr, ?_, ?_⟩
      · rw [List.length_append, iv_len, iv_len]
        exact big (by simp only [List.length_cons, List.length_nil]; omega)
      · refine ⟨_, rfl, l.length - p', by omega, p', f'', cs', done ++ ((told (answer x)).length : Int) :: told (answer x), _, _, rfl, hp', same_mut (same_mut (sm.trans s1) no) no, upd_same.trans ?_, ht ▸ hcs', fun c hc => hsome c (List.mem_cons_of_mem _ hc), ?_, rfl⟩
        · rw [iv_append, iv_len, List.append_assoc]
          rfl
        · rw [← hdone, List.append_assoc]
          rfl
    · have cF : ¬ decide ((p : Int) < ((iv l).length : Int)) = true := fun z => by
        have := of_decide_eq_true z
        rw [iv_len] at this
        omega
      show if decide ((p : Int) < ((iv l).length : Int)) = true then _ else _
      rw [if_neg cF]
      have e : l.drop p = [] := List.drop_eq_nil_of_le (by omega)
      rw [e] at hcs
      rw [SqM.calls_nil hcs, SqM.outOf_nil, List.append_nil] at hdone
      exact ⟨_, rfl, q _ o (by rw [ho, hdone])⟩
end
end SqW

/-! SqY: all defs joined. -/
namespace SqW
open PySem PySem.Spec PyProof.Rows L2
theorem deeds_at {K : PySem.W.Frag} {h : Heap} {mg : Str → Option Value} {aD f0 f1 f2 f3 f4 f5 f6 f7 f8 f9 f10 f11 : Addr} {its : Array Value} {n : Nat} {sl : Array (Option Value)} (X : K.In h) (G : h.Ns mainGlobals mg) (a : PySem.W.nsIn K mainGlobals "DEEDS" = some (some (.ref aD)))
    (l : K.lookup aD = some ⟨.type "tuple", none, .seq its n, sl⟩) (hz : its.size ≤ sizeLine)
    (m0 : PySem.W.nsIn K mainGlobals "call_square" = some (some (.ref f0)))
    (m1 : PySem.W.nsIn K mainGlobals "call_read" = some (some (.ref f1)))
    (m2 : PySem.W.nsIn K mainGlobals "call_within" = some (some (.ref f2)))
    (m3 : PySem.W.nsIn K mainGlobals "call_through" = some (some (.ref f3)))
    (m4 : PySem.W.nsIn K mainGlobals "call_sheet" = some (some (.ref f4)))
    (m5 : PySem.W.nsIn K mainGlobals "call_box" = some (some (.ref f5)))
    (m6 : PySem.W.nsIn K mainGlobals "call_near" = some (some (.ref f6)))
    (m7 : PySem.W.nsIn K mainGlobals "call_up" = some (some (.ref f7)))
    (m8 : PySem.W.nsIn K mainGlobals "call_over" = some (some (.ref f8)))
    (m9 : PySem.W.nsIn K mainGlobals "call_least" = some (some (.ref f9)))
    (m10 : PySem.W.nsIn K mainGlobals "call_lie" = some (some (.ref f10)))
    (m11 : PySem.W.nsIn K mainGlobals "call_great" = some (some (.ref f11)))
    (r : Vals [.ref f0, .ref f1, .ref f2, .ref f3, .ref f4, .ref f5, .ref f6, .ref f7, .ref f8, .ref f9, .ref f10, .ref f11] its.toList) : DeedsAt K mg :=
  ⟨aD, f0, f1, f2, f3, f4, f5, f6, f7, f8, f9, f10, f11, PySem.W.mg_of X G a, fun _ => .inr ⟨_, its, n, l, rfl, rfl, hz, r⟩, ⟨PySem.W.mg_of X G m0, PySem.W.mg_of X G m1, PySem.W.mg_of X G m2, PySem.W.mg_of X G m3, PySem.W.mg_of X G m4, PySem.W.mg_of X G m5⟩, PySem.W.mg_of X G m6, PySem.W.mg_of X G m7, PySem.W.mg_of X G m8, PySem.W.mg_of X G m9, PySem.W.mg_of X G m10, PySem.W.mg_of X G m11⟩
theorem all_ok {P : Program} {w : World} {K : PySem.W.Frag} {mg : Str → Option Value} {base : Heap}
    (F_in_land : FnAt K mg "in_land" (top 9))
    (F_great_name : FnAt K mg "great_name" (top 10))
    (F_capital : FnAt K mg "capital" (top 11))
    (F_is_letter : FnAt K mg "is_letter" (top 12))
    (F_letter_number : FnAt K mg "letter_number" (top 13))
    (F_great_squares : FnAt K mg "great_squares" (top 14))
    (F_too_long : FnAt K mg "too_long" (top 25))
    (F_is_digit : FnAt K mg "is_digit" (top 26))
    (F_blanks_end : FnAt K mg "blanks_end" (top 27))
    (F_digits_end : FnAt K mg "digits_end" (top 28))
    (F_number_at : FnAt K mg "number_at" (top 29))
    (F_digits_of : FnAt K mg "digits_of" (top 30))
    (F_spaced : FnAt K mg "spaced" (top 31))
    (F_as_text : FnAt K mg "as_text" (top 32))
    (F_code_of : FnAt K mg "code_of" (top 42))
    (F_code_fault : FnAt K mg "code_fault" (top 43))
    (F_quarters_of : FnAt K mg "quarters_of" (top 44))
    (F_ground : FnAt K mg "ground" (top 45))
    (F_quarter_at : FnAt K mg "quarter_at" (top 46))
    (F_quarters_at : FnAt K mg "quarters_at" (top 47))
    (F_beside : FnAt K mg "beside" (top 48))
    (F_alike : FnAt K mg "alike" (top 49))
    (F_shared : FnAt K mg "shared" (top 50))
    (F_how_they_lie : FnAt K mg "how_they_lie" (top 51))
    (F_call_sheet : FnAt K mg "call_sheet" (top 56))
    (F_call_box : FnAt K mg "call_box" (top 57))
    (F_call_near : FnAt K mg "call_near" (top 58))
    (F_call_up : FnAt K mg "call_up" (top 59))
    (F_call_over : FnAt K mg "call_over" (top 60))
    (F_call_least : FnAt K mg "call_least" (top 61))
    (F_call_lie : FnAt K mg "call_lie" (top 62))
    (F_call_great : FnAt K mg "call_great" (top 63))
    (F_reference_of : FnAt K mg "reference_of" (top 65))
    (F_faulty : FnAt K mg "faulty" (top 66))
    (F_parts_of : FnAt K mg "parts_of" (top 67))
    (F_two_rows : FnAt K mg "two_rows" (top 68))
    (F_square_of : FnAt K mg "square_of" (top 69))
    (F_lines_between : FnAt K mg "lines_between" (top 71))
    (F_crossings : FnAt K mg "crossings" (top 72))
    (F_step_of : FnAt K mg "step_of" (top 73))
    (F_delay_of : FnAt K mg "delay_of" (top 74))
    (F_changes : FnAt K mg "changes" (top 75))
    (F_way_corners : FnAt K mg "way_corners" (top 76))
    (F_call_square : FnAt K mg "call_square" (top 79))
    (F_call_read : FnAt K mg "call_read" (top 80))
    (F_call_within : FnAt K mg "call_within" (top 81))
    (F_call_through : FnAt K mg "call_through" (top 82))
    (F_texts_from : FnAt K mg "texts_from" (top 87))
    (F_one_answer : FnAt K mg "one_answer" (top 88))
    (g_BLANK : IntAt mg "BLANK" 32)
    (g_CAPITAL_S : IntAt mg "CAPITAL_S" 83)
    (g_FAULT : IntAt mg "FAULT" (-6))
    (g_FIRST_QUARTER : IntAt mg "FIRST_QUARTER" 49)
    (g_FIRST_SMALL : IntAt mg "FIRST_SMALL" 97)
    (g_GREAT : IntAt mg "GREAT" 100000)
    (g_HIGHEST_SERIES : IntAt mg "HIGHEST_SERIES" 6)
    (g_LAND : IntAt mg "LAND" 1000000)
    (g_LAST_HEADING : IntAt mg "LAST_HEADING" 7)
    (g_LAST_QUARTER : IntAt mg "LAST_QUARTER" 52)
    (g_LAST_SMALL : IntAt mg "LAST_SMALL" 122)
    (g_MOST_BYTES : IntAt mg "MOST_BYTES" 32)
    (g_MOST_DIGITS : IntAt mg "MOST_DIGITS" 5)
    (g_MOST_LINES : IntAt mg "MOST_LINES" 200)
    (g_MOST_SHEETS : IntAt mg "MOST_SHEETS" 64)
    (g_MOST_UP : IntAt mg "MOST_UP" 6)
    (g_NINE : IntAt mg "NINE" 57)
    (g_NOUGHT : IntAt mg "NOUGHT" 48)
    (g_NO_SUCH : IntAt mg "NO_SUCH" (-4))
    (g_OUT_OF_BOUNDS : IntAt mg "OUT_OF_BOUNDS" (-1))
    (g_SMALL_S : IntAt mg "SMALL_S" 115)
    (g_SMALL_TO_CAPITAL : IntAt mg "SMALL_TO_CAPITAL" 32)
    (g_TOO_LONG : IntAt mg "TOO_LONG" (-2))
    (g_TOO_MANY : IntAt mg "TOO_MANY" (-7))
    (g_LETTERS : TupAt K mg "LETTERS" (iv cLetters))
    (g_NUMBERS_OF : TupAt K mg "NUMBERS_OF" (iv cNumbersOf))
    (g_SHEET_SIDES : TupAt K mg "SHEET_SIDES" (iv cSheetSides))
    (g_SIDES : TupAt K mg "SIDES" (iv cSides))
    (g_STEPS_EAST : TupAt K mg "STEPS_EAST" (iv cStepsEast))
    (g_STEPS_NORTH : TupAt K mg "STEPS_NORTH" (iv cStepsNorth))
    (g_TEXTS_OF : TupAt K mg "TEXTS_OF" (iv cTextsOf))
    (n_abs : mg "abs" = none)
    (n_enumerate : mg "enumerate" = none)
    (n_len : mg "len" = none)
    (n_max : mg "max" = none)
    (n_min : mg "min" = none)
    (n_range : mg "range" = none)
    (n_sorted : mg "sorted" = none)
    (n_zip : mg "zip" = none)
    (g_DEEDS : DeedsAt K mg)
    : CallOk P w K mg base 7 "one_answer" ["calls", "at"] (sp_one_answer K) := by
  have c_texts_from_6 : CallOk P w K mg base 6 "texts_from" ["calls", "at", "many"] (sp_texts_from K) := ok_texts_from (k := 5) F_texts_from n_range
  have c_in_land_5 : CallOk P w K mg base 5 "in_land" ["x", "y"] sp_in_land := ok_in_land (k := 4) F_in_land g_LAND
  have c_as_text_5 : CallOk P w K mg base 5 "as_text" ["row"] sp_as_text := ok_as_text (k := 4) F_as_text n_len
  have c_great_name_4 : CallOk P w K mg base 4 "great_name" ["column", "row"] sp_great_name := ok_great_name (k := 3) F_great_name g_LETTERS
  have c_digits_of_4 : CallOk P w K mg base 4 "digits_of" ["number", "many"] sp_digits_of := ok_digits_of (k := 3) F_digits_of g_NOUGHT n_range
  have c_reference_of_5 : CallOk P w K mg base 5 "reference_of" ["x", "y", "k"] sp_reference_of := ok_reference_of (k := 3) F_reference_of g_GREAT g_BLANK g_SIDES c_great_name_4 c_digits_of_4
  have c_call_square_6 : CallOk P w K mg base 6 "call_square" ["numbers", "texts"] (sp_call_square K) := ok_call_square (k := 3) F_call_square g_MOST_DIGITS g_OUT_OF_BOUNDS c_in_land_5 c_as_text_5 c_reference_of_5
  have c_too_long_5 : CallOk P w K mg base 5 "too_long" ["text"] (sp_too_long K) := ok_too_long (k := 4) F_too_long g_MOST_BYTES n_len
  have c_capital_2 : CallOk P w K mg base 2 "capital" ["byte"] sp_capital := ok_capital (k := 1) F_capital g_FIRST_SMALL g_LAST_SMALL g_SMALL_TO_CAPITAL
  have c_is_letter_3 : CallOk P w K mg base 3 "is_letter" ["byte"] sp_is_letter := ok_is_letter (k := 1) F_is_letter g_LETTERS c_capital_2
  have c_faulty_3 : CallOk P w K mg base 3 "faulty" ["place"] sp_faulty := ok_faulty (k := 2) F_faulty
  have c_blanks_end_3 : CallOk P w K mg base 3 "blanks_end" ["text", "at"] (sp_blanks_end K) := ok_blanks_end (k := 2) F_blanks_end g_BLANK n_range n_len
  have c_is_digit_2 : CallOk P w K mg base 2 "is_digit" ["byte"] sp_is_digit := ok_is_digit (k := 1) F_is_digit g_NOUGHT g_NINE
  have c_digits_end_3 : CallOk P w K mg base 3 "digits_end" ["text", "at", "most"] (sp_digits_end K) := ok_digits_end (k := 1) F_digits_end n_min n_len n_range c_is_digit_2
  have c_faulty_2 : CallOk P w K mg base 2 "faulty" ["place"] sp_faulty := ok_faulty (k := 1) F_faulty
  have c_blanks_end_2 : CallOk P w K mg base 2 "blanks_end" ["text", "at"] (sp_blanks_end K) := ok_blanks_end (k := 1) F_blanks_end g_BLANK n_range n_len
  have c_is_digit_1 : CallOk P w K mg base 1 "is_digit" ["byte"] sp_is_digit := ok_is_digit (k := 0) F_is_digit g_NOUGHT g_NINE
  have c_digits_end_2 : CallOk P w K mg base 2 "digits_end" ["text", "at", "most"] (sp_digits_end K) := ok_digits_end (k := 0) F_digits_end n_min n_len n_range c_is_digit_1
  have c_two_rows_3 : CallOk P w K mg base 3 "two_rows" ["text", "first", "first_end"] (sp_two_rows K) := ok_two_rows (k := 0) F_two_rows g_MOST_DIGITS g_BLANK n_len c_faulty_2 c_blanks_end_2 c_digits_end_2
  have c_parts_of_4 : CallOk P w K mg base 4 "parts_of" ["text"] (sp_parts_of K) := ok_parts_of (k := 0) F_parts_of g_MOST_DIGITS n_len c_is_letter_3 c_faulty_3 c_blanks_end_3 c_digits_end_3 c_two_rows_3
  have c_faulty_4 : CallOk P w K mg base 4 "faulty" ["place"] sp_faulty := ok_faulty (k := 3) F_faulty
  have c_capital_3 : CallOk P w K mg base 3 "capital" ["byte"] sp_capital := ok_capital (k := 2) F_capital g_FIRST_SMALL g_LAST_SMALL g_SMALL_TO_CAPITAL
  have c_letter_number_4 : CallOk P w K mg base 4 "letter_number" ["byte"] sp_letter_number := ok_letter_number (k := 2) F_letter_number g_LETTERS c_capital_3
  have c_number_at_4 : CallOk P w K mg base 4 "number_at" ["text", "at", "many"] (sp_number_at K) := ok_number_at (k := 3) F_number_at g_NOUGHT n_range
  have c_square_of_5 : CallOk P w K mg base 5 "square_of" ["text"] (sp_square_of K) := ok_square_of (k := 0) F_square_of g_GREAT g_SIDES c_parts_of_4 c_faulty_4 c_letter_number_4 c_number_at_4
  have c_call_read_6 : CallOk P w K mg base 6 "call_read" ["numbers", "texts"] (sp_call_read K) := ok_call_read (k := 0) F_call_read g_TOO_LONG g_FAULT c_too_long_5 c_square_of_5
  have c_call_within_6 : CallOk P w K mg base 6 "call_within" ["numbers", "texts"] (sp_call_within K) := ok_call_within (k := 0) F_call_within g_TOO_LONG g_OUT_OF_BOUNDS g_FAULT c_too_long_5 c_in_land_5 c_square_of_5
  have c_lines_between_5 : CallOk P w K mg base 5 "lines_between" ["start", "end", "side"] (sp_lines_between K) := ok_lines_between (k := 4) F_lines_between n_abs
  have c_crossings_3 : CallOk P w K mg base 3 "crossings" ["start", "end", "side"] (sp_crossings K) := ok_crossings (k := 2) F_crossings n_range
  have c_delay_of_3 : CallOk P w K mg base 3 "delay_of" ["start", "end"] sp_delay_of := ok_delay_of (k := 2) F_delay_of
  have c_step_of_3 : CallOk P w K mg base 3 "step_of" ["start", "end"] sp_step_of := ok_step_of (k := 2) F_step_of
  have c_changes_4 : CallOk P w K mg base 4 "changes" ["start", "end", "side"] (sp_changes K) := ok_changes (k := 2) F_changes n_max n_abs n_sorted c_crossings_3 c_delay_of_3 c_step_of_3
  have c_way_corners_5 : CallOk P w K mg base 5 "way_corners" ["start", "end", "side"] (sp_way_corners K) := ok_way_corners (k := 2) F_way_corners n_enumerate n_len c_changes_4
  have c_call_through_6 : CallOk P w K mg base 6 "call_through" ["numbers", "texts"] (sp_call_through K) := ok_call_through (k := 2) F_call_through g_MOST_DIGITS g_OUT_OF_BOUNDS g_MOST_LINES g_TOO_MANY g_SIDES n_len c_in_land_5 c_lines_between_5 c_way_corners_5
  have c_code_of_5 : CallOk P w K mg base 5 "code_of" ["quarters"] (sp_code_of K) := ok_code_of (k := 4) F_code_of g_CAPITAL_S g_NOUGHT
  have c_quarter_at_4 : CallOk P w K mg base 4 "quarter_at" ["x", "y", "half"] sp_quarter_at := ok_quarter_at (k := 3) F_quarter_at
  have c_quarters_at_5 : CallOk P w K mg base 5 "quarters_at" ["series", "x", "y"] sp_quarters_at := ok_quarters_at (k := 3) F_quarters_at g_SHEET_SIDES c_quarter_at_4
  have c_call_sheet_6 : CallOk P w K mg base 6 "call_sheet" ["numbers", "texts"] (sp_call_sheet K) := ok_call_sheet (k := 3) F_call_sheet g_HIGHEST_SERIES g_OUT_OF_BOUNDS c_in_land_5 c_as_text_5 c_code_of_5 c_quarters_at_5
  have c_code_fault_5 : CallOk P w K mg base 5 "code_fault" ["code"] (sp_code_fault K) := ok_code_fault (k := 4) F_code_fault g_CAPITAL_S g_SMALL_S g_HIGHEST_SERIES g_FIRST_QUARTER g_LAST_QUARTER n_len n_range
  have c_ground_5 : CallOk P w K mg base 5 "ground" ["quarters"] (sp_ground K) := ok_ground (k := 4) F_ground g_SHEET_SIDES n_enumerate n_len
  have c_quarters_of_5 : CallOk P w K mg base 5 "quarters_of" ["code"] (sp_quarters_of K) := ok_quarters_of (k := 4) F_quarters_of g_NOUGHT
  have c_call_box_6 : CallOk P w K mg base 6 "call_box" ["numbers", "texts"] (sp_call_box K) := ok_call_box (k := 4) F_call_box g_TOO_LONG g_FAULT c_too_long_5 c_code_fault_5 c_ground_5 c_quarters_of_5
  have c_ground_4 : CallOk P w K mg base 4 "ground" ["quarters"] (sp_ground K) := ok_ground (k := 3) F_ground g_SHEET_SIDES n_enumerate n_len
  have c_quarter_at_3 : CallOk P w K mg base 3 "quarter_at" ["x", "y", "half"] sp_quarter_at := ok_quarter_at (k := 2) F_quarter_at
  have c_quarters_at_4 : CallOk P w K mg base 4 "quarters_at" ["series", "x", "y"] sp_quarters_at := ok_quarters_at (k := 2) F_quarters_at g_SHEET_SIDES c_quarter_at_3
  have c_beside_5 : CallOk P w K mg base 5 "beside" ["quarters", "heading"] (sp_beside K) := ok_beside (k := 2) F_beside g_LAND g_STEPS_EAST g_STEPS_NORTH n_len c_ground_4 c_quarters_at_4
  have c_call_near_6 : CallOk P w K mg base 6 "call_near" ["numbers", "texts"] (sp_call_near K) := ok_call_near (k := 2) F_call_near g_TOO_LONG g_LAST_HEADING g_OUT_OF_BOUNDS g_FAULT g_NO_SUCH c_too_long_5 c_code_fault_5 c_beside_5 c_quarters_of_5 c_as_text_5 c_code_of_5
  have c_call_up_6 : CallOk P w K mg base 6 "call_up" ["numbers", "texts"] (sp_call_up K) := ok_call_up (k := 4) F_call_up g_TOO_LONG g_MOST_UP g_OUT_OF_BOUNDS g_FAULT g_NO_SUCH n_len c_too_long_5 c_code_fault_5 c_quarters_of_5 c_as_text_5 c_code_of_5
  have c_spaced_5 : CallOk P w K mg base 5 "spaced" ["names"] (sp_spaced K) := ok_spaced (k := 4) F_spaced g_BLANK n_enumerate
  have c_call_over_6 : CallOk P w K mg base 6 "call_over" ["numbers", "texts"] (sp_call_over K) := ok_call_over (k := 3) F_call_over g_HIGHEST_SERIES g_OUT_OF_BOUNDS g_MOST_SHEETS g_TOO_MANY g_SHEET_SIDES n_range n_len n_sorted c_in_land_5 c_code_of_5 c_quarters_at_5 c_spaced_5
  have c_alike_5 : CallOk P w K mg base 5 "alike" ["quarters", "others"] (sp_alike K) := ok_alike (k := 4) F_alike n_zip
  have c_call_least_6 : CallOk P w K mg base 6 "call_least" ["numbers", "texts"] (sp_call_least K) := ok_call_least (k := 3) F_call_least g_OUT_OF_BOUNDS g_HIGHEST_SERIES c_in_land_5 c_quarters_at_5 c_as_text_5 c_code_of_5 c_alike_5
  have c_alike_4 : CallOk P w K mg base 4 "alike" ["quarters", "others"] (sp_alike K) := ok_alike (k := 3) F_alike n_zip
  have c_shared_4 : CallOk P w K mg base 4 "shared" ["first", "first_side", "second", "second_side"] sp_shared := ok_shared (k := 3) F_shared n_min n_max
  have c_how_they_lie_5 : CallOk P w K mg base 5 "how_they_lie" ["quarters", "others"] (sp_how_they_lie K) := ok_how_they_lie (k := 3) F_how_they_lie n_len n_min c_alike_4 c_ground_4 c_shared_4
  have c_call_lie_6 : CallOk P w K mg base 6 "call_lie" ["numbers", "texts"] (sp_call_lie K) := ok_call_lie (k := 3) F_call_lie g_TOO_LONG g_FAULT c_too_long_5 c_code_fault_5 c_how_they_lie_5 c_quarters_of_5
  have c_great_squares_5 : CallOk P w K mg base 5 "great_squares" ["x", "y", "side"] sp_great_squares := ok_great_squares (k := 3) F_great_squares g_GREAT n_range c_great_name_4
  have c_call_great_6 : CallOk P w K mg base 6 "call_great" ["numbers", "texts"] (sp_call_great K) := ok_call_great (k := 3) F_call_great g_TOO_LONG g_FAULT n_len c_too_long_5 c_code_fault_5 c_ground_5 c_quarters_of_5 c_great_squares_5 c_spaced_5
  have c_one_answer_7 : CallOk P w K mg base 7 "one_answer" ["calls", "at"] (sp_one_answer K) := ok_one_answer (k := 0) F_one_answer g_NUMBERS_OF g_TEXTS_OF c_texts_from_6 ⟨c_call_square_6, c_call_read_6, c_call_within_6, c_call_through_6, c_call_sheet_6, c_call_box_6, c_call_near_6, c_call_up_6, c_call_over_6, c_call_least_6, c_call_lie_6, c_call_great_6⟩ g_DEEDS
  exact c_one_answer_7
theorem all_mk {P : Program} {w : World} {K : PySem.W.Frag} {mg : Str → Option Value} {fa : Addr} (hfa : mg "answers" = some (.ref fa))
    (F_in_land : FnAt K mg "in_land" (top 9))
    (F_great_name : FnAt K mg "great_name" (top 10))
    (F_capital : FnAt K mg "capital" (top 11))
    (F_is_letter : FnAt K mg "is_letter" (top 12))
    (F_letter_number : FnAt K mg "letter_number" (top 13))
    (F_great_squares : FnAt K mg "great_squares" (top 14))
    (F_too_long : FnAt K mg "too_long" (top 25))
    (F_is_digit : FnAt K mg "is_digit" (top 26))
    (F_blanks_end : FnAt K mg "blanks_end" (top 27))
    (F_digits_end : FnAt K mg "digits_end" (top 28))
    (F_number_at : FnAt K mg "number_at" (top 29))
    (F_digits_of : FnAt K mg "digits_of" (top 30))
    (F_spaced : FnAt K mg "spaced" (top 31))
    (F_as_text : FnAt K mg "as_text" (top 32))
    (F_code_of : FnAt K mg "code_of" (top 42))
    (F_code_fault : FnAt K mg "code_fault" (top 43))
    (F_quarters_of : FnAt K mg "quarters_of" (top 44))
    (F_ground : FnAt K mg "ground" (top 45))
    (F_quarter_at : FnAt K mg "quarter_at" (top 46))
    (F_quarters_at : FnAt K mg "quarters_at" (top 47))
    (F_beside : FnAt K mg "beside" (top 48))
    (F_alike : FnAt K mg "alike" (top 49))
    (F_shared : FnAt K mg "shared" (top 50))
    (F_how_they_lie : FnAt K mg "how_they_lie" (top 51))
    (F_call_sheet : FnAt K mg "call_sheet" (top 56))
    (F_call_box : FnAt K mg "call_box" (top 57))
    (F_call_near : FnAt K mg "call_near" (top 58))
    (F_call_up : FnAt K mg "call_up" (top 59))
    (F_call_over : FnAt K mg "call_over" (top 60))
    (F_call_least : FnAt K mg "call_least" (top 61))
    (F_call_lie : FnAt K mg "call_lie" (top 62))
    (F_call_great : FnAt K mg "call_great" (top 63))
    (F_reference_of : FnAt K mg "reference_of" (top 65))
    (F_faulty : FnAt K mg "faulty" (top 66))
    (F_parts_of : FnAt K mg "parts_of" (top 67))
    (F_two_rows : FnAt K mg "two_rows" (top 68))
    (F_square_of : FnAt K mg "square_of" (top 69))
    (F_lines_between : FnAt K mg "lines_between" (top 71))
    (F_crossings : FnAt K mg "crossings" (top 72))
    (F_step_of : FnAt K mg "step_of" (top 73))
    (F_delay_of : FnAt K mg "delay_of" (top 74))
    (F_changes : FnAt K mg "changes" (top 75))
    (F_way_corners : FnAt K mg "way_corners" (top 76))
    (F_call_square : FnAt K mg "call_square" (top 79))
    (F_call_read : FnAt K mg "call_read" (top 80))
    (F_call_within : FnAt K mg "call_within" (top 81))
    (F_call_through : FnAt K mg "call_through" (top 82))
    (F_texts_from : FnAt K mg "texts_from" (top 87))
    (F_one_answer : FnAt K mg "one_answer" (top 88))
    (g_BLANK : IntAt mg "BLANK" 32)
    (g_CAPITAL_S : IntAt mg "CAPITAL_S" 83)
    (g_FAULT : IntAt mg "FAULT" (-6))
    (g_FIRST_QUARTER : IntAt mg "FIRST_QUARTER" 49)
    (g_FIRST_SMALL : IntAt mg "FIRST_SMALL" 97)
    (g_GREAT : IntAt mg "GREAT" 100000)
    (g_HIGHEST_SERIES : IntAt mg "HIGHEST_SERIES" 6)
    (g_LAND : IntAt mg "LAND" 1000000)
    (g_LAST_HEADING : IntAt mg "LAST_HEADING" 7)
    (g_LAST_QUARTER : IntAt mg "LAST_QUARTER" 52)
    (g_LAST_SMALL : IntAt mg "LAST_SMALL" 122)
    (g_MOST_BYTES : IntAt mg "MOST_BYTES" 32)
    (g_MOST_DIGITS : IntAt mg "MOST_DIGITS" 5)
    (g_MOST_LINES : IntAt mg "MOST_LINES" 200)
    (g_MOST_SHEETS : IntAt mg "MOST_SHEETS" 64)
    (g_MOST_UP : IntAt mg "MOST_UP" 6)
    (g_NINE : IntAt mg "NINE" 57)
    (g_NOUGHT : IntAt mg "NOUGHT" 48)
    (g_NO_SUCH : IntAt mg "NO_SUCH" (-4))
    (g_OUT_OF_BOUNDS : IntAt mg "OUT_OF_BOUNDS" (-1))
    (g_SMALL_S : IntAt mg "SMALL_S" 115)
    (g_SMALL_TO_CAPITAL : IntAt mg "SMALL_TO_CAPITAL" 32)
    (g_TOO_LONG : IntAt mg "TOO_LONG" (-2))
    (g_TOO_MANY : IntAt mg "TOO_MANY" (-7))
    (g_LETTERS : TupAt K mg "LETTERS" (iv cLetters))
    (g_NUMBERS_OF : TupAt K mg "NUMBERS_OF" (iv cNumbersOf))
    (g_SHEET_SIDES : TupAt K mg "SHEET_SIDES" (iv cSheetSides))
    (g_SIDES : TupAt K mg "SIDES" (iv cSides))
    (g_STEPS_EAST : TupAt K mg "STEPS_EAST" (iv cStepsEast))
    (g_STEPS_NORTH : TupAt K mg "STEPS_NORTH" (iv cStepsNorth))
    (g_TEXTS_OF : TupAt K mg "TEXTS_OF" (iv cTextsOf))
    (n_abs : mg "abs" = none)
    (n_enumerate : mg "enumerate" = none)
    (n_len : mg "len" = none)
    (n_max : mg "max" = none)
    (n_min : mg "min" = none)
    (n_range : mg "range" = none)
    (n_sorted : mg "sorted" = none)
    (n_zip : mg "zip" = none)
    (g_DEEDS : DeedsAt K mg)
    (F_answers : FnAt K mg "answers" (top 89))
    : ∃ fd : FuncData, (∀ (s : Shared) (us : List Value), us.length = (["calls"] : List Str).length → BindsTo s fd ⟨us, []⟩ ((["calls"] : List Str).zip us)) ∧ ∀ base : Heap, K.In base → base.Ns mainGlobals mg → FnOk P w K mg base CX0 8 fa fd ["calls"] (spAns K) := by
  obtain ⟨f, fd, g, F⟩ := F_answers
  cases g.symm.trans hfa
  refine ⟨fd, ?_, fun base _ _ => ok_answers (k := 0) F n_len (all_ok F_in_land F_great_name F_capital F_is_letter F_letter_number F_great_squares F_too_long F_is_digit F_blanks_end F_digits_end F_number_at F_digits_of F_spaced F_as_text F_code_of F_code_fault F_quarters_of F_ground F_quarter_at F_quarters_at F_beside F_alike F_shared F_how_they_lie F_call_sheet F_call_box F_call_near F_call_up F_call_over F_call_least F_call_lie F_call_great F_reference_of F_faulty F_parts_of F_two_rows F_square_of F_lines_between F_crossings F_step_of F_delay_of F_changes F_way_corners F_call_square F_call_read F_call_within F_call_through F_texts_from F_one_answer g_BLANK g_CAPITAL_S g_FAULT g_FIRST_QUARTER g_FIRST_SMALL g_GREAT g_HIGHEST_SERIES g_LAND g_LAST_HEADING g_LAST_QUARTER g_LAST_SMALL g_MOST_BYTES g_MOST_DIGITS g_MOST_LINES g_MOST_SHEETS g_MOST_UP g_NINE g_NOUGHT g_NO_SUCH g_OUT_OF_BOUNDS g_SMALL_S g_SMALL_TO_CAPITAL g_TOO_LONG g_TOO_MANY g_LETTERS g_NUMBERS_OF g_SHEET_SIDES g_SIDES g_STEPS_EAST g_STEPS_NORTH g_TEXTS_OF n_abs n_enumerate n_len n_max n_min n_range n_sorted n_zip g_DEEDS)⟩
  obtain ⟨oc, od, kV, doc, pm, an, cdv, ct, osl, rfl, lk, hcd⟩ := F.ex
  exact fun s us hl => match us, hl with | [_], _ => .of_eq rfl
end SqW

open PySem PySem.W PyProof.Rows
set_option maxRecDepth 100000 in
set_option maxHeartbeats 8000000 in
theorem PySem.Challenge.cw_sheetsquares_s01_answers_holds : PySem.Challenge.rw_sheetsquares_s01_answers.Holds := by
  w_on; k_headS; (case hw => exact ⟨[.list []], by decide +kernel, by decide +kernel⟩)
  k_fillS
  refine L2.walk_specK (r := PySem.Challenge.rw_sheetsquares_s01_answers) (k := 8) (CX := L2.CX0) (ps := ["calls"]) (sp := SqW.spAns) (by decide +kernel) rfl rfl ⟨rfl, by decide, by decide⟩ (fun w h Y => PySem.W.kIn_of Y) ?F ?S (fun _ _ _ _ z => z)
  case F =>
    intro w mg fa h Y KX G hmg
    refine' SqW.all_mk hmg ?i_F_in_land ?i_F_great_name ?i_F_capital ?i_F_is_letter ?i_F_letter_number ?i_F_great_squares ?i_F_too_long ?i_F_is_digit ?i_F_blanks_end ?i_F_digits_end ?i_F_number_at ?i_F_digits_of ?i_F_spaced ?i_F_as_text ?i_F_code_of ?i_F_code_fault ?i_F_quarters_of ?i_F_ground ?i_F_quarter_at ?i_F_quarters_at ?i_F_beside ?i_F_alike ?i_F_shared ?i_F_how_they_lie ?i_F_call_sheet ?i_F_call_box ?i_F_call_near ?i_F_call_up ?i_F_call_over ?i_F_call_least ?i_F_call_lie ?i_F_call_great ?i_F_reference_of ?i_F_faulty ?i_F_parts_of ?i_F_two_rows ?i_F_square_of ?i_F_lines_between ?i_F_crossings ?i_F_step_of ?i_F_delay_of ?i_F_changes ?i_F_way_corners ?i_F_call_square ?i_F_call_read ?i_F_call_within ?i_F_call_through ?i_F_texts_from ?i_F_one_answer ?i_g_BLANK ?i_g_CAPITAL_S ?i_g_FAULT ?i_g_FIRST_QUARTER ?i_g_FIRST_SMALL ?i_g_GREAT ?i_g_HIGHEST_SERIES ?i_g_LAND ?i_g_LAST_HEADING ?i_g_LAST_QUARTER ?i_g_LAST_SMALL ?i_g_MOST_BYTES ?i_g_MOST_DIGITS ?i_g_MOST_LINES ?i_g_MOST_SHEETS ?i_g_MOST_UP ?i_g_NINE ?i_g_NOUGHT ?i_g_NO_SUCH ?i_g_OUT_OF_BOUNDS ?i_g_SMALL_S ?i_g_SMALL_TO_CAPITAL ?i_g_TOO_LONG ?i_g_TOO_MANY ?i_g_LETTERS ?i_g_NUMBERS_OF ?i_g_SHEET_SIDES ?i_g_SIDES ?i_g_STEPS_EAST ?i_g_STEPS_NORTH ?i_g_TEXTS_OF ?i_n_abs ?i_n_enumerate ?i_n_len ?i_n_max ?i_n_min ?i_n_range ?i_n_sorted ?i_n_zip ?i_g_DEEDS ?i_F_answers
    case i_F_in_land => (refine' SqW.fn_at KX G ?a ?l ?c ?k); (case a => k_is); (case l => k_is); (case c => k_is); (case k => k_is)
    case i_F_great_name => (refine' SqW.fn_at KX G ?a ?l ?c ?k); (case a => k_is); (case l => k_is); (case c => k_is); (case k => k_is)
    case i_F_capital => (refine' SqW.fn_at KX G ?a ?l ?c ?k); (case a => k_is); (case l => k_is); (case c => k_is); (case k => k_is)
    case i_F_is_letter => (refine' SqW.fn_at KX G ?a ?l ?c ?k); (case a => k_is); (case l => k_is); (case c => k_is); (case k => k_is)
    case i_F_letter_number => (refine' SqW.fn_at KX G ?a ?l ?c ?k); (case a => k_is); (case l => k_is); (case c => k_is); (case k => k_is)
    case i_F_great_squares => (refine' SqW.fn_at KX G ?a ?l ?c ?k); (case a => k_is); (case l => k_is); (case c => k_is); (case k => k_is)
    case i_F_too_long => (refine' SqW.fn_at KX G ?a ?l ?c ?k); (case a => k_is); (case l => k_is); (case c => k_is); (case k => k_is)
    case i_F_is_digit => (refine' SqW.fn_at KX G ?a ?l ?c ?k); (case a => k_is); (case l => k_is); (case c => k_is); (case k => k_is)
    case i_F_blanks_end => (refine' SqW.fn_at KX G ?a ?l ?c ?k); (case a => k_is); (case l => k_is); (case c => k_is); (case k => k_is)
    case i_F_digits_end => (refine' SqW.fn_at KX G ?a ?l ?c ?k); (case a => k_is); (case l => k_is); (case c => k_is); (case k => k_is)
    case i_F_number_at => (refine' SqW.fn_at KX G ?a ?l ?c ?k); (case a => k_is); (case l => k_is); (case c => k_is); (case k => k_is)
    case i_F_digits_of => (refine' SqW.fn_at KX G ?a ?l ?c ?k); (case a => k_is); (case l => k_is); (case c => k_is); (case k => k_is)
    case i_F_spaced => (refine' SqW.fn_at KX G ?a ?l ?c ?k); (case a => k_is); (case l => k_is); (case c => k_is); (case k => k_is)
    case i_F_as_text => (refine' SqW.fn_at KX G ?a ?l ?c ?k); (case a => k_is); (case l => k_is); (case c => k_is); (case k => k_is)
    case i_F_code_of => (refine' SqW.fn_at KX G ?a ?l ?c ?k); (case a => k_is); (case l => k_is); (case c => k_is); (case k => k_is)
    case i_F_code_fault => (refine' SqW.fn_at KX G ?a ?l ?c ?k); (case a => k_is); (case l => k_is); (case c => k_is); (case k => k_is)
    case i_F_quarters_of => (refine' SqW.fn_at KX G ?a ?l ?c ?k); (case a => k_is); (case l => k_is); (case c => k_is); (case k => k_is)
    case i_F_ground => (refine' SqW.fn_at KX G ?a ?l ?c ?k); (case a => k_is); (case l => k_is); (case c => k_is); (case k => k_is)
    case i_F_quarter_at => (refine' SqW.fn_at KX G ?a ?l ?c ?k); (case a => k_is); (case l => k_is); (case c => k_is); (case k => k_is)
    case i_F_quarters_at => (refine' SqW.fn_at KX G ?a ?l ?c ?k); (case a => k_is); (case l => k_is); (case c => k_is); (case k => k_is)
    case i_F_beside => (refine' SqW.fn_at KX G ?a ?l ?c ?k); (case a => k_is); (case l => k_is); (case c => k_is); (case k => k_is)
    case i_F_alike => (refine' SqW.fn_at KX G ?a ?l ?c ?k); (case a => k_is); (case l => k_is); (case c => k_is); (case k => k_is)
    case i_F_shared => (refine' SqW.fn_at KX G ?a ?l ?c ?k); (case a => k_is); (case l => k_is); (case c => k_is); (case k => k_is)
    case i_F_how_they_lie => (refine' SqW.fn_at KX G ?a ?l ?c ?k); (case a => k_is); (case l => k_is); (case c => k_is); (case k => k_is)
    case i_F_call_sheet => (refine' SqW.fn_at KX G ?a ?l ?c ?k); (case a => k_is); (case l => k_is); (case c => k_is); (case k => k_is)
    case i_F_call_box => (refine' SqW.fn_at KX G ?a ?l ?c ?k); (case a => k_is); (case l => k_is); (case c => k_is); (case k => k_is)
    case i_F_call_near => (refine' SqW.fn_at KX G ?a ?l ?c ?k); (case a => k_is); (case l => k_is); (case c => k_is); (case k => k_is)
    case i_F_call_up => (refine' SqW.fn_at KX G ?a ?l ?c ?k); (case a => k_is); (case l => k_is); (case c => k_is); (case k => k_is)
    case i_F_call_over => (refine' SqW.fn_at KX G ?a ?l ?c ?k); (case a => k_is); (case l => k_is); (case c => k_is); (case k => k_is)
    case i_F_call_least => (refine' SqW.fn_at KX G ?a ?l ?c ?k); (case a => k_is); (case l => k_is); (case c => k_is); (case k => k_is)
    case i_F_call_lie => (refine' SqW.fn_at KX G ?a ?l ?c ?k); (case a => k_is); (case l => k_is); (case c => k_is); (case k => k_is)
    case i_F_call_great => (refine' SqW.fn_at KX G ?a ?l ?c ?k); (case a => k_is); (case l => k_is); (case c => k_is); (case k => k_is)
    case i_F_reference_of => (refine' SqW.fn_at KX G ?a ?l ?c ?k); (case a => k_is); (case l => k_is); (case c => k_is); (case k => k_is)
    case i_F_faulty => (refine' SqW.fn_at KX G ?a ?l ?c ?k); (case a => k_is); (case l => k_is); (case c => k_is); (case k => k_is)
    case i_F_parts_of => (refine' SqW.fn_at KX G ?a ?l ?c ?k); (case a => k_is); (case l => k_is); (case c => k_is); (case k => k_is)
    case i_F_two_rows => (refine' SqW.fn_at KX G ?a ?l ?c ?k); (case a => k_is); (case l => k_is); (case c => k_is); (case k => k_is)
    case i_F_square_of => (refine' SqW.fn_at KX G ?a ?l ?c ?k); (case a => k_is); (case l => k_is); (case c => k_is); (case k => k_is)
    case i_F_lines_between => (refine' SqW.fn_at KX G ?a ?l ?c ?k); (case a => k_is); (case l => k_is); (case c => k_is); (case k => k_is)
    case i_F_crossings => (refine' SqW.fn_at KX G ?a ?l ?c ?k); (case a => k_is); (case l => k_is); (case c => k_is); (case k => k_is)
    case i_F_step_of => (refine' SqW.fn_at KX G ?a ?l ?c ?k); (case a => k_is); (case l => k_is); (case c => k_is); (case k => k_is)
    case i_F_delay_of => (refine' SqW.fn_at KX G ?a ?l ?c ?k); (case a => k_is); (case l => k_is); (case c => k_is); (case k => k_is)
    case i_F_changes => (refine' SqW.fn_at KX G ?a ?l ?c ?k); (case a => k_is); (case l => k_is); (case c => k_is); (case k => k_is)
    case i_F_way_corners => (refine' SqW.fn_at KX G ?a ?l ?c ?k); (case a => k_is); (case l => k_is); (case c => k_is); (case k => k_is)
    case i_F_call_square => (refine' SqW.fn_at KX G ?a ?l ?c ?k); (case a => k_is); (case l => k_is); (case c => k_is); (case k => k_is)
    case i_F_call_read => (refine' SqW.fn_at KX G ?a ?l ?c ?k); (case a => k_is); (case l => k_is); (case c => k_is); (case k => k_is)
    case i_F_call_within => (refine' SqW.fn_at KX G ?a ?l ?c ?k); (case a => k_is); (case l => k_is); (case c => k_is); (case k => k_is)
    case i_F_call_through => (refine' SqW.fn_at KX G ?a ?l ?c ?k); (case a => k_is); (case l => k_is); (case c => k_is); (case k => k_is)
    case i_F_texts_from => (refine' SqW.fn_at KX G ?a ?l ?c ?k); (case a => k_is); (case l => k_is); (case c => k_is); (case k => k_is)
    case i_F_one_answer => (refine' SqW.fn_at KX G ?a ?l ?c ?k); (case a => k_is); (case l => k_is); (case c => k_is); (case k => k_is)
    case i_g_BLANK => (refine' SqW.int_at KX G ?a); (case a => k_is)
    case i_g_CAPITAL_S => (refine' SqW.int_at KX G ?a); (case a => k_is)
    case i_g_FAULT => (refine' SqW.int_at KX G ?a); (case a => k_is)
    case i_g_FIRST_QUARTER => (refine' SqW.int_at KX G ?a); (case a => k_is)
    case i_g_FIRST_SMALL => (refine' SqW.int_at KX G ?a); (case a => k_is)
    case i_g_GREAT => (refine' SqW.int_at KX G ?a); (case a => k_is)
    case i_g_HIGHEST_SERIES => (refine' SqW.int_at KX G ?a); (case a => k_is)
    case i_g_LAND => (refine' SqW.int_at KX G ?a); (case a => k_is)
    case i_g_LAST_HEADING => (refine' SqW.int_at KX G ?a); (case a => k_is)
    case i_g_LAST_QUARTER => (refine' SqW.int_at KX G ?a); (case a => k_is)
    case i_g_LAST_SMALL => (refine' SqW.int_at KX G ?a); (case a => k_is)
    case i_g_MOST_BYTES => (refine' SqW.int_at KX G ?a); (case a => k_is)
    case i_g_MOST_DIGITS => (refine' SqW.int_at KX G ?a); (case a => k_is)
    case i_g_MOST_LINES => (refine' SqW.int_at KX G ?a); (case a => k_is)
    case i_g_MOST_SHEETS => (refine' SqW.int_at KX G ?a); (case a => k_is)
    case i_g_MOST_UP => (refine' SqW.int_at KX G ?a); (case a => k_is)
    case i_g_NINE => (refine' SqW.int_at KX G ?a); (case a => k_is)
    case i_g_NOUGHT => (refine' SqW.int_at KX G ?a); (case a => k_is)
    case i_g_NO_SUCH => (refine' SqW.int_at KX G ?a); (case a => k_is)
    case i_g_OUT_OF_BOUNDS => (refine' SqW.int_at KX G ?a); (case a => k_is)
    case i_g_SMALL_S => (refine' SqW.int_at KX G ?a); (case a => k_is)
    case i_g_SMALL_TO_CAPITAL => (refine' SqW.int_at KX G ?a); (case a => k_is)
    case i_g_TOO_LONG => (refine' SqW.int_at KX G ?a); (case a => k_is)
    case i_g_TOO_MANY => (refine' SqW.int_at KX G ?a); (case a => k_is)
    case i_g_LETTERS => (refine' SqW.tup_at KX G ?a ?l ?z ?r); (case a => k_is); (case l => k_is); (case z => decide); (case r => (unfold SqW.iv SqW.cLetters; repeat' first | exact .nil | refine .cons ⟨_, rfl⟩ ?_))
    case i_g_NUMBERS_OF => (refine' SqW.tup_at KX G ?a ?l ?z ?r); (case a => k_is); (case l => k_is); (case z => decide); (case r => (unfold SqW.iv SqW.cNumbersOf; repeat' first | exact .nil | refine .cons ⟨_, rfl⟩ ?_))
    case i_g_SHEET_SIDES => (refine' SqW.tup_at KX G ?a ?l ?z ?r); (case a => k_is); (case l => k_is); (case z => decide); (case r => (unfold SqW.iv SqW.cSheetSides; repeat' first | exact .nil | refine .cons ⟨_, rfl⟩ ?_))
    case i_g_SIDES => (refine' SqW.tup_at KX G ?a ?l ?z ?r); (case a => k_is); (case l => k_is); (case z => decide); (case r => (unfold SqW.iv SqW.cSides; repeat' first | exact .nil | refine .cons ⟨_, rfl⟩ ?_))
    case i_g_STEPS_EAST => (refine' SqW.tup_at KX G ?a ?l ?z ?r); (case a => k_is); (case l => k_is); (case z => decide); (case r => (unfold SqW.iv SqW.cStepsEast; repeat' first | exact .nil | refine .cons ⟨_, rfl⟩ ?_))
    case i_g_STEPS_NORTH => (refine' SqW.tup_at KX G ?a ?l ?z ?r); (case a => k_is); (case l => k_is); (case z => decide); (case r => (unfold SqW.iv SqW.cStepsNorth; repeat' first | exact .nil | refine .cons ⟨_, rfl⟩ ?_))
    case i_g_TEXTS_OF => (refine' SqW.tup_at KX G ?a ?l ?z ?r); (case a => k_is); (case l => k_is); (case z => decide); (case r => (unfold SqW.iv SqW.cTextsOf; repeat' first | exact .nil | refine .cons ⟨_, rfl⟩ ?_))
    case i_n_abs => (refine' SqW.none_at KX G ?a); (case a => k_is)
    case i_n_enumerate => (refine' SqW.none_at KX G ?a); (case a => k_is)
    case i_n_len => (refine' SqW.none_at KX G ?a); (case a => k_is)
    case i_n_max => (refine' SqW.none_at KX G ?a); (case a => k_is)
    case i_n_min => (refine' SqW.none_at KX G ?a); (case a => k_is)
    case i_n_range => (refine' SqW.none_at KX G ?a); (case a => k_is)
    case i_n_sorted => (refine' SqW.none_at KX G ?a); (case a => k_is)
    case i_n_zip => (refine' SqW.none_at KX G ?a); (case a => k_is)
    case i_g_DEEDS => (refine' SqW.deeds_at KX G ?a ?l ?z ?m0 ?m1 ?m2 ?m3 ?m4 ?m5 ?m6 ?m7 ?m8 ?m9 ?m10 ?m11 ?r); (case a => k_is); (case l => k_is); (case z => decide); (case m0 => k_is); (case m1 => k_is); (case m2 => k_is); (case m3 => k_is); (case m4 => k_is); (case m5 => k_is); (case m6 => k_is); (case m7 => k_is); (case m8 => k_is); (case m9 => k_is); (case m10 => k_is); (case m11 => k_is); (case r => exact .cons rfl (.cons rfl (.cons rfl (.cons rfl (.cons rfl (.cons rfl (.cons rfl (.cons rfl (.cons rfl (.cons rfl (.cons rfl (.cons rfl (.nil)))))))))))))
    case i_F_answers => (refine' SqW.fn_at KX G ?a ?l ?c ?k); (case a => k_is); (case l => k_is); (case c => k_is); (case k => k_is)
  case S =>
    intro K H xs a hO hwi hask hx
    cases hx with
    | cons h1 h2 =>
      cases h2
      cases h1 with
      | lst hs ha =>
        have e := L2.ints_dw a.1 _ ha
        subst e
        have q : ((Codec.inLen 0 31700 a.1 && a.1.all (Codec.inInt 0 4294967295)) && true) = true := hwi
        rw [Bool.and_eq_true, Bool.and_eq_true] at q
        exact ⟨_, a.1, rfl, hs, (Codec.inNat_iff.mp q.1.1).2, hask, fun H' p hp => .lst (L2.SqL.of hp) (L2.dw_ints _)⟩
