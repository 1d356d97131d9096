import PyProof.Rows.All
import HandS.Text
import HandS.Dict
import HandS.ForMost
import Wide.All
import OpenK.AllK
import Wide.FinOn
import KE.KStateDown
import Lean
import PySem.Challenge.RW_rowdam_k19_whole_texts
import HandS.ForExc
import HandS.More
import HandS.Defaults
import HandS.Conv
import HandS.ExcInit
import HandS.TryElse
import HandS.TryMany
import HandS.IsInst
import HandS.Small
import HandS.Head0
import HandS.Head1
import HandS.Head2
import HandS.HeadEnd
import HandS.HeadHook1
import HandS.HeadHook2
import HandS.HeadHook3
import HandS.HeadHook4
import HandS.ClsMeth
import HandS.ExcField
import HandS.Walk
import HandS.Iter
set_option Elab.async false
set_option linter.all false
set_option maxRecDepth 100000
set_option maxHeartbeats 4000000
/-! # M1: the mathematics of the texts: numbers, expressions by a stack, rows, works. No program here. -/
namespace K19
open PySem TL

/-! ## signs -/
def isFig (c : Nat) : Bool := decide (48 ≤ c) && decide (c ≤ 57)
def isLow (c : Nat) : Bool := decide (97 ≤ c) && decide (c ≤ 122)
theorem tl_fig : tl (Str.ofString "0123456789") = [48, 49, 50, 51, 52, 53, 54, 55, 56, 57] := by decide +kernel
theorem tl_low : tl (Str.ofString "abcdefghijklmnopqrstuvwxyz") = [97, 98, 99, 100, 101, 102, 103, 104, 105, 106, 107, 108, 109, 110, 111, 112, 113, 114, 115, 116, 117, 118, 119, 120, 121, 122] := by decide +kernel
theorem in_fig (c : Nat) : decide (c ∈ (Str.ofString "0123456789").cps.toList) = isFig c := by
  have e := tl_fig
  unfold tl at e
  rw [e, Bool.eq_iff_iff]
  simp only [isFig, Bool.and_eq_true, decide_eq_true_eq, List.mem_cons, List.not_mem_nil, or_false]
  omega
theorem in_low (c : Nat) : decide (c ∈ (Str.ofString "abcdefghijklmnopqrstuvwxyz").cps.toList) = isLow c := by
  have e := tl_low
  unfold tl at e
  rw [e, Bool.eq_iff_iff]
  simp only [isLow, Bool.and_eq_true, decide_eq_true_eq, List.mem_cons, List.not_mem_nil, or_false]
  omega
theorem isFig_iff {c : Nat} : isFig c = true ↔ 48 ≤ c ∧ c ≤ 57 := by simp [isFig]
theorem isLow_iff {c : Nat} : isLow c = true ↔ 97 ≤ c ∧ c ≤ 122 := by simp [isLow]

/-! ## numbers -/
def isCountL (l : List Nat) : Bool := !l.isEmpty && (decide (l.length ≤ 20) && (!(l.head? == some 48 && l != [48]) && l.all isFig))
def isCount (w : Str) : Bool := isCountL (tl w)
def numFigs (w : Str) : List Nat := if (tl w).head? = some 45 then (tl w).drop 1 else tl w
def numOk (w : Str) : Bool := (tl w != [45, 48]) && isCountL (numFigs w)
def numVal (w : Str) : Int := (intText? w).getD 0

theorem all_fig {l : List Nat} (h : l.all isFig = true) : NumText.AllDigits l := fun c hc => isFig_iff.mp (List.all_eq_true.mp h c hc)
theorem isCountL_facts {l : List Nat} (h : isCountL l = true) : l ≠ [] ∧ l.length ≤ 20 ∧ NumText.AllDigits l := by
  simp only [isCountL, Bool.and_eq_true, Bool.not_eq_true', decide_eq_true_eq] at h
  obtain ⟨h1, h2, _, h4⟩ := h
  exact ⟨by intro e; rw [e] at h1; exact absurd h1 (by decide), h2, all_fig h4⟩
theorem count_int {w : Str} (h : isCount w = true) : intText? w = some (numVal w) ∧ w.length ≤ 20 ∧ numVal w = ((NumText.digitsVal (tl w) : Nat) : Int) := by
  obtain ⟨h1, h2, h3⟩ := isCountL_facts h
  have hl : w.length ≤ 20 := by rw [len_tl]; exact h2
  have e := intText_digits (x := w) h3 h1 (by omega)
  refine ⟨?_, hl, ?_⟩
  · unfold numVal; rw [e]; rfl
  · unfold numVal; rw [e]; rfl
theorem count_nonneg {w : Str} (h : isCount w = true) : 0 ≤ numVal w := by
  rw [(count_int h).2.2]; exact Int.natCast_nonneg _
theorem num_int {w : Str} (h : numOk w = true) : intText? w = some (numVal w) ∧ w.length ≤ 21 := by
  simp only [numOk, Bool.and_eq_true] at h
  obtain ⟨_, h⟩ := h
  obtain ⟨h1, h2, h3⟩ := isCountL_facts h
  unfold numFigs at h1 h2 h3
  by_cases hh : (tl w).head? = some 45
  · rw [if_pos hh] at h1 h2 h3
    obtain ⟨cs, hcs⟩ : ∃ cs, tl w = 45 :: cs := by
      cases e : tl w with
      | nil => rw [e] at hh; cases hh
      | cons a r => rw [e] at hh; cases hh; exact ⟨r, rfl⟩
    rw [hcs] at h1 h2 h3
    have hl : w.length ≤ 21 := by rw [len_tl, hcs, List.length_cons]; simp at h2; omega
    have e := intText_neg (x := w) hcs h3 h1 (by omega)
    exact ⟨by unfold numVal; rw [e]; rfl, hl⟩
  · rw [if_neg hh] at h1 h2 h3
    have hl : w.length ≤ 21 := by rw [len_tl]; omega
    have e := intText_digits (x := w) h3 h1 (by omega)
    exact ⟨by unfold numVal; rw [e]; rfl, hl⟩

/-! the text of a number -/
theorem numL_head {n : Nat} : 0 < n → (numL n).head? ≠ some 48 := by
  induction n using Nat.strongRecOn with
  | _ n ih =>
    intro hn
    by_cases h : n < 10
    · rw [numL_lt h]
      simp
      omega
    · rw [numL_step (by omega)]
      have i := ih (n / 10) (by omega) (by omega)
      cases e : numL (n / 10) with
      | nil => exact absurd e (numL_ne _)
      | cons a r =>
        rw [e] at i
        simpa using i
theorem numL_count {n : Nat} (h : n < 10 ^ 20) : isCountL (numL n) = true := by
  simp only [isCountL, Bool.and_eq_true, Bool.not_eq_true', decide_eq_true_eq]
  refine ⟨?_, numL_len (by decide) h, ?_, List.all_eq_true.mpr fun c hc => isFig_iff.mpr (numL_digits n c hc)⟩
  · cases e : numL n with
    | nil => exact absurd e (numL_ne n)
    | cons a r => rfl
  · by_cases h0 : n = 0
    · subst h0; decide
    · have := numL_head (n := n) (by omega)
      cases e : ((numL n).head? == some 48) with
      | false => rfl
      | true => exact absurd (eq_of_beq e) this
/-- the text of an int -/
def strI (i : Int) : Str := Str.ofString (toString i)
theorem tl_strI (n : Nat) : tl (strI (n : Int)) = numL n := tl_num n
theorem strI_count {n : Nat} (h : n < 10 ^ 20) : isCount (strI (n : Int)) = true := by
  unfold isCount; rw [tl_strI]; exact numL_count h
theorem strI_val {n : Nat} (h : n < 10 ^ 20) : numVal (strI (n : Int)) = (n : Int) := by
  have e := int_num (n := n) (by have := numL_len (n := n) (k := 20) (by decide) h; omega)
  unfold numVal strI; rw [e]; rfl
theorem numFigs_nat {w : Str} {n : Nat} (e : tl w = numL n) : numFigs w = numL n := by
  unfold numFigs
  rw [if_neg, e]
  rw [e]
  intro h
  cases e2 : numL n with
  | nil => exact absurd e2 (numL_ne n)
  | cons a r =>
    rw [e2] at h
    have ha : a = 45 := by simpa using h
    have := numL_digits n a (by rw [e2]; exact List.mem_cons_self)
    omega
theorem numOk_nat {w : Str} {n : Nat} (e : tl w = numL n) (h : n < 10 ^ 20) : numOk w = true := by
  simp only [numOk, Bool.and_eq_true]
  refine ⟨?_, by rw [numFigs_nat e]; exact numL_count h⟩
  rw [e]
  cases q : (numL n != [45, 48]) with
  | true => rfl
  | false =>
    have e1 : numL n = [45, 48] := by simpa using q
    have := numL_digits n 45 (by rw [e1]; exact List.mem_cons_self)
    omega
theorem numOk_neg {w : Str} {n : Nat} (e : tl w = 45 :: numL n) (h0 : 0 < n) (h : n < 10 ^ 20) : numOk w = true := by
  simp only [numOk, Bool.and_eq_true]
  constructor
  · rw [e]
    cases q : (45 :: numL n != [45, 48]) with
    | true => rfl
    | false =>
      have e1 : numL n = [48] := by simpa using q
      have := numL_head h0
      rw [e1] at this
      exact absurd rfl this
  · unfold numFigs
    rw [e, if_pos (by rfl)]
    exact numL_count h
theorem tl_strI_neg {n : Nat} (h : 0 < n) : tl (strI (-(n : Int))) = 45 :: numL n := by
  unfold strI
  rw [tl_ofString]
  obtain ⟨m, rfl⟩ : ∃ m, n = m + 1 := ⟨n - 1, by omega⟩
  have e : toString (-((m + 1 : Nat) : Int)) = "-" ++ toString (m + 1) := rfl
  rw [e, String.toList_append, List.map_append]
  have e2 : (toString (m + 1)).toList.map Char.toNat = numL (m + 1) := by
    rw [← tl_ofString]
    exact tl_num (m + 1)
  rw [e2]
  rfl
end K19

set_option Elab.async false
set_option linter.all false
set_option maxRecDepth 100000
set_option maxHeartbeats 4000000
/-! # M2: expressions and conditions by a stack of what is still to come (true: a COND, false: an EXPR) -/
namespace K19
open PySem TL

def sgs : List Str := [Str.ofString "+", Str.ofString "-", Str.ofString "*", Str.ofString "least", Str.ofString "most"]
def isSg (w : Str) : Bool := decide (w ∈ sgs)
/-- the word is one sign, and that is in z -/
def inOne (w z : Str) : Bool := match tl w with
  | [c] => decide (c ∈ z.cps.toList)
  | _ => false
def leafOk (L w : Str) : Bool := inOne w L || numOk w
def isAO (w : Str) : Bool := decide (w = Str.ofString "and") || decide (w = Str.ofString "or")
def isLE (w : Str) : Bool := decide (w = Str.ofString "<") || decide (w = Str.ofString "=")
def isNot (w : Str) : Bool := decide (w = Str.ofString "not")

def scan (L : Str) : List Bool → List Str → Option (List Str)
  | [], ws => some ws
  | _ :: _, [] => none
  | true :: p, w :: r => if isNot w = true then scan L (true :: p) r else if isAO w = true then scan L (true :: true :: p) r else if isLE w = true then scan L (false :: false :: p) r else none
  | false :: p, w :: r => if isSg w = true then scan L (false :: false :: p) r else if leafOk L w = true then scan L p r else none

variable {L : Str}
theorem scan_nil (ws : List Str) : scan L [] ws = some ws := by cases ws <;> rfl
theorem scan_none (b : Bool) (p : List Bool) : scan L (b :: p) [] = none := by cases b <;> rfl
theorem scan_c (p : List Bool) (w : Str) (r : List Str) : scan L (true :: p) (w :: r) = if isNot w = true then scan L (true :: p) r else if isAO w = true then scan L (true :: true :: p) r else if isLE w = true then scan L (false :: false :: p) r else none := rfl
theorem scan_e (p : List Bool) (w : Str) (r : List Str) : scan L (false :: p) (w :: r) = if isSg w = true then scan L (false :: false :: p) r else if leafOk L w = true then scan L p r else none := rfl

/-- first p, then q -/
theorem scan_app : ∀ (ws : List Str) (p q : List Bool), scan L (p ++ q) ws = (scan L p ws).bind (scan L q)
  | ws, [], q => by rw [scan_nil]; rfl
  | [], b :: p, q => by rw [List.cons_append, scan_none, scan_none]; rfl
  | w :: r, true :: p, q => by
    rw [List.cons_append, scan_c, scan_c]
    have i1 := scan_app r (true :: p) q
    have i2 := scan_app r (true :: true :: p) q
    have i3 := scan_app r (false :: false :: p) q
    simp only [List.cons_append] at i1 i2 i3
    split
    · exact i1
    · split
      · exact i2
      · split
        · exact i3
        · rfl
  | w :: r, false :: p, q => by
    rw [List.cons_append, scan_e, scan_e]
    have i1 := scan_app r p q
    have i3 := scan_app r (false :: false :: p) q
    simp only [List.cons_append] at i1 i3
    split
    · exact i3
    · split
      · exact i1
      · rfl
theorem scan_cons (b : Bool) (p : List Bool) (ws : List Str) : scan L (b :: p) ws = (scan L [b] ws).bind (scan L p) := scan_app ws [b] p

/-- what is left is a tail, and something was taken -/
theorem scan_suffix : ∀ (ws : List Str) (p : List Bool) (r : List Str), scan L p ws = some r → ∃ n, n ≤ ws.length ∧ p.length ≤ n ∧ r = ws.drop n
  | ws, [], r, h => by
    rw [scan_nil] at h
    cases h
    exact ⟨0, Nat.zero_le _, Nat.le_refl _, rfl⟩
  | [], b :: p, r, h => by rw [scan_none] at h; cases h
  | w :: t, true :: p, r, h => by
    rw [scan_c] at h
    have fin : ∀ q : List Bool, p.length + 1 ≤ q.length + 1 → scan L q t = some r → ∃ n, n ≤ (w :: t).length ∧ (true :: p).length ≤ n ∧ r = (w :: t).drop n := fun q hq e => by
      obtain ⟨n, h1, h2, h3⟩ := scan_suffix t q r e
      exact ⟨n + 1, by simp; omega, by simp; omega, by rw [h3]; rfl⟩
    split at h
    · exact fin (true :: p) (by simp) h
    · split at h
      · exact fin (true :: true :: p) (by simp) h
      · split at h
        · exact fin (false :: false :: p) (by simp) h
        · cases h
  | w :: t, false :: p, r, h => by
    rw [scan_e] at h
    have fin : ∀ q : List Bool, p.length + 1 ≤ q.length + 1 → scan L q t = some r → ∃ n, n ≤ (w :: t).length ∧ (false :: p).length ≤ n ∧ r = (w :: t).drop n := fun q hq e => by
      obtain ⟨n, h1, h2, h3⟩ := scan_suffix t q r e
      exact ⟨n + 1, by simp; omega, by simp; omega, by rw [h3]; rfl⟩
    split at h
    · exact fin (false :: false :: p) (by simp) h
    · split at h
      · exact fin p (by simp) h
      · cases h

def isExpr (L : Str) (ws : List Str) : Bool := scan L [false] ws == some []
def isCond (ws : List Str) : Bool := scan (Str.ofString "tv") [true] ws == some []

/-! ## where an expression ends: places in the whole list -/
/-- from place i on b is told, up to place j -/
def At (L : Str) (ws : List Str) (b : Bool) (i j : Nat) : Prop := scan L [b] (ws.drop i) = some (ws.drop j) ∧ i < j ∧ j ≤ ws.length
theorem at_of {ws r : List Str} {b : Bool} {i : Nat} (hi : i ≤ ws.length) (h : scan L [b] (ws.drop i) = some r) : ∃ j, At L ws b i j ∧ r = ws.drop j := by
  obtain ⟨n, h1, h2, h3⟩ := scan_suffix _ _ _ h
  rw [List.length_drop] at h1
  simp only [List.length_cons, List.length_nil] at h2
  have e : r = ws.drop (i + n) := by rw [h3, List.drop_drop]
  exact ⟨i + n, ⟨by rw [h, e], by omega, by omega⟩, e⟩
/-- the two ways -/
theorem at_or (ws : List Str) (b : Bool) {i : Nat} (hi : i ≤ ws.length) : (∃ j, At L ws b i j) ∨ scan L [b] (ws.drop i) = none := by
  cases e : scan L [b] (ws.drop i) with
  | none => exact .inr rfl
  | some r =>
    obtain ⟨j, h, _⟩ := at_of hi e
    exact .inl ⟨j, h⟩
theorem drop_inj {α : Type} {ws : List α} {i j : Nat} (hi : i ≤ ws.length) (hj : j ≤ ws.length) (h : ws.drop i = ws.drop j) : i = j := by
  have := congrArg List.length h
  rw [List.length_drop, List.length_drop] at this
  omega
theorem At.uniq {ws : List Str} {b : Bool} {i j j' : Nat} (h : At L ws b i j) (h' : At L ws b i j') : j = j' := by
  have e := h.1.symm.trans h'.1
  exact drop_inj h.2.2 h'.2.2 (Option.some.inj e)
theorem At.not_none {ws : List Str} {b : Bool} {i j : Nat} (h : At L ws b i j) : scan L [b] (ws.drop i) ≠ none := by
  rw [h.1]; exact fun e => nomatch e
theorem expr_iff {ws : List Str} : isExpr L ws = true ↔ At L ws false 0 ws.length := by
  unfold isExpr At
  rw [List.drop_zero, List.drop_length]
  constructor
  · intro h
    have e := eq_of_beq h
    refine ⟨e, ?_, Nat.le_refl _⟩
    cases ws with
    | nil => rw [scan_none] at e; cases e
    | cons a r => simp
  · intro h
    rw [h.1]
    exact beq_self_eq_true _
theorem cond_iff {ws : List Str} : isCond ws = true ↔ At (Str.ofString "tv") ws true 0 ws.length := by
  unfold isCond At
  rw [List.drop_zero, List.drop_length]
  constructor
  · intro h
    have e := eq_of_beq h
    refine ⟨e, ?_, Nat.le_refl _⟩
    cases ws with
    | nil => rw [scan_none] at e; cases e
    | cons a r => simp
  · intro h
    rw [h.1]
    exact beq_self_eq_true _

/-! ## one step of the readers -/
section
variable {ws : List Str} {i : Nat} {w : Str}
theorem drop_at (h : ws[i]? = some w) : ws.drop i = w :: ws.drop (i + 1) := by
  obtain ⟨hi, e⟩ := List.getElem?_eq_some_iff.mp h
  rw [List.drop_eq_getElem_cons hi, e]
theorem at_lt (h : ws[i]? = some w) : i < ws.length := (List.getElem?_eq_some_iff.mp h).1
/-- two parts behind the head word -/
theorem two_ok {b b' c : Bool} {j k : Nat} (hd : scan L [b] (ws.drop i) = scan L [c, b'] (ws.drop (i + 1))) (h1 : At L ws c (i + 1) j) (h2 : At L ws b' j k) : At L ws b i k := by
  refine ⟨?_, by have := h1.2.1; have := h2.2.1; omega, h2.2.2⟩
  rw [hd, scan_cons, h1.1]
  exact h2.1
theorem two_bad1 {b b' c : Bool} (hd : scan L [b] (ws.drop i) = scan L [c, b'] (ws.drop (i + 1))) (h1 : scan L [c] (ws.drop (i + 1)) = none) : scan L [b] (ws.drop i) = none := by
  rw [hd, scan_cons, h1]; rfl
theorem two_bad2 {b b' c : Bool} {j : Nat} (hd : scan L [b] (ws.drop i) = scan L [c, b'] (ws.drop (i + 1))) (h1 : At L ws c (i + 1) j) (h2 : scan L [b'] (ws.drop j) = none) : scan L [b] (ws.drop i) = none := by
  rw [hd, scan_cons, h1.1]
  exact h2
theorem one_ok {b c : Bool} {j : Nat} (hd : scan L [b] (ws.drop i) = scan L [c] (ws.drop (i + 1))) (h1 : At L ws c (i + 1) j) : At L ws b i j :=
  ⟨hd.trans h1.1, by have := h1.2.1; omega, h1.2.2⟩
theorem sg_step (h : ws[i]? = some w) (hw : isSg w = true) : scan L [false] (ws.drop i) = scan L [false, false] (ws.drop (i + 1)) := by
  rw [drop_at h, scan_e, if_pos hw]
theorem leaf_step (h : ws[i]? = some w) (hs : isSg w = false) (hw : leafOk L w = true) : At L ws false i (i + 1) := by
  refine ⟨?_, by omega, at_lt h⟩
  rw [drop_at h, scan_e, if_neg (by rw [hs]; exact Bool.false_ne_true), if_pos hw, scan_nil]
theorem leaf_bad (h : ws[i]? = some w) (hs : isSg w = false) (hw : leafOk L w = false) : scan L [false] (ws.drop i) = none := by
  rw [drop_at h, scan_e, if_neg (by rw [hs]; exact Bool.false_ne_true), if_neg (by rw [hw]; exact Bool.false_ne_true)]
theorem not_step (h : ws[i]? = some w) (hw : isNot w = true) : scan L [true] (ws.drop i) = scan L [true] (ws.drop (i + 1)) := by
  rw [drop_at h, scan_c, if_pos hw]
theorem ao_step (h : ws[i]? = some w) (hn : isNot w = false) (hw : isAO w = true) : scan L [true] (ws.drop i) = scan L [true, true] (ws.drop (i + 1)) := by
  rw [drop_at h, scan_c, if_neg (by rw [hn]; exact Bool.false_ne_true), if_pos hw]
theorem le_step (h : ws[i]? = some w) (hn : isNot w = false) (ha : isAO w = false) (hw : isLE w = true) : scan L [true] (ws.drop i) = scan L [false, false] (ws.drop (i + 1)) := by
  rw [drop_at h, scan_c, if_neg (by rw [hn]; exact Bool.false_ne_true), if_neg (by rw [ha]; exact Bool.false_ne_true), if_pos hw]
theorem le_bad (h : ws[i]? = some w) (hn : isNot w = false) (ha : isAO w = false) (hw : isLE w = false) : scan L [true] (ws.drop i) = none := by
  rw [drop_at h, scan_c, if_neg (by rw [hn]; exact Bool.false_ne_true), if_neg (by rw [ha]; exact Bool.false_ne_true), if_neg (by rw [hw]; exact Bool.false_ne_true)]
theorem out_bad (h : ws.length ≤ i) (b : Bool) : scan L [b] (ws.drop i) = none := by
  rw [List.drop_of_length_le h, scan_none]
end

/-! ## builders: what has been written leaves p to come -/
def Left (L : Str) (q0 : List Bool) (ws : List Str) (p : List Bool) : Prop := ∀ c, scan L q0 (ws ++ c) = scan L p c
theorem Left.start (q0 : List Bool) : Left L q0 [] q0 := fun c => rfl
theorem Left.done {q0 : List Bool} {ws : List Str} (h : Left L q0 ws []) : scan L q0 ws = some [] := by
  have := h []
  rw [List.append_nil, scan_nil] at this
  exact this
theorem Left.snoc {q0 p : List Bool} {ws : List Str} {b : Bool} {w : Str} {p' : List Bool} (h : Left L q0 ws (b :: p)) (e : ∀ c, scan L (b :: p) (w :: c) = scan L p' c) : Left L q0 (ws ++ [w]) p' := fun c => by
  rw [List.append_assoc, h]
  exact e c
theorem Left.sg {q0 p : List Bool} {ws : List Str} {w : Str} (h : Left L q0 ws (false :: p)) (hw : isSg w = true) : Left L q0 (ws ++ [w]) (false :: false :: p) :=
  h.snoc fun c => by rw [scan_e, if_pos hw]
theorem Left.leaf {q0 p : List Bool} {ws : List Str} {w : Str} (h : Left L q0 ws (false :: p)) (hs : isSg w = false) (hw : leafOk L w = true) : Left L q0 (ws ++ [w]) p :=
  h.snoc fun c => by rw [scan_e, if_neg (by rw [hs]; exact Bool.false_ne_true), if_pos hw]
theorem Left.not {q0 p : List Bool} {ws : List Str} {w : Str} (h : Left L q0 ws (true :: p)) (hw : isNot w = true) : Left L q0 (ws ++ [w]) (true :: p) :=
  h.snoc fun c => by rw [scan_c, if_pos hw]
theorem Left.ao {q0 p : List Bool} {ws : List Str} {w : Str} (h : Left L q0 ws (true :: p)) (hn : isNot w = false) (hw : isAO w = true) : Left L q0 (ws ++ [w]) (true :: true :: p) :=
  h.snoc fun c => by rw [scan_c, if_neg (by rw [hn]; exact Bool.false_ne_true), if_pos hw]
theorem Left.le {q0 p : List Bool} {ws : List Str} {w : Str} (h : Left L q0 ws (true :: p)) (hn : isNot w = false) (ha : isAO w = false) (hw : isLE w = true) : Left L q0 (ws ++ [w]) (false :: false :: p) :=
  h.snoc fun c => by rw [scan_c, if_neg (by rw [hn]; exact Bool.false_ne_true), if_neg (by rw [ha]; exact Bool.false_ne_true), if_pos hw]
end K19

set_option Elab.async false
set_option linter.all false
set_option maxRecDepth 100000
set_option maxHeartbeats 4000000
/-! # M3: words of a line, names, rows, works -/
namespace K19
open PySem TL

/-! ## cutting at one sign -/
def cut (c : Nat) (acc l : List Nat) : List (List Nat) := spl [c] 0 acc l
theorem pre_one (c d : Nat) (r : List Nat) : pre [c] (d :: r) = (d == c) := by
  unfold pre
  show (List.take 1 (d :: r) == [c]) = (d == c)
  rw [List.take_succ_cons, List.take_zero]
  simp
theorem cut_nil (c : Nat) (acc : List Nat) : cut c acc [] = [acc] := spl_nil _ _ _
theorem cut_hit (c : Nat) (acc r : List Nat) : cut c acc (c :: r) = acc :: cut c [] r := spl_hit (S := [c]) (by rw [pre_one]; simp)
theorem cut_miss {c d : Nat} (h : d ≠ c) (acc r : List Nat) : cut c acc (d :: r) = cut c (acc ++ [d]) r := spl_miss (by rw [pre_one]; simpa using h)
theorem cut_ne (c : Nat) : ∀ (l acc : List Nat), cut c acc l ≠ []
  | [], acc => by rw [cut_nil]; simp
  | d :: r, acc => by
    by_cases h : d = c
    · subst h; rw [cut_hit]; simp
    · rw [cut_miss h]; exact cut_ne c r _
theorem cut_count (c : Nat) : ∀ (l acc : List Nat), (cut c acc l).length = l.count c + 1
  | [], acc => by rw [cut_nil]; simp
  | d :: r, acc => by
    by_cases h : d = c
    · subst h; rw [cut_hit, List.length_cons, cut_count d r, List.count_cons_self]
    · rw [cut_miss h, cut_count c r, List.count_cons_of_ne (by simpa using h)]
theorem join_cons (c : Nat) (p : List Nat) : ∀ {q : List (List Nat)}, q ≠ [] → joinL [c] (p :: q) = p ++ (c :: joinL [c] q)
  | [], h => absurd rfl h
  | _ :: _, _ => rfl
theorem cut_join (c : Nat) : ∀ (l acc : List Nat), joinL [c] (cut c acc l) = acc ++ l
  | [], acc => by rw [cut_nil, List.append_nil]; rfl
  | d :: r, acc => by
    by_cases h : d = c
    · subst h; rw [cut_hit, join_cons d acc (cut_ne d r []), cut_join d r]; rfl
    · rw [cut_miss h, cut_join c r, List.append_assoc]; rfl
theorem cut_free (c : Nat) : ∀ (l acc : List Nat), c ∉ acc → ∀ p ∈ cut c acc l, c ∉ p
  | [], acc, ha, p, hp => by rw [cut_nil, List.mem_singleton] at hp; rw [hp]; exact ha
  | d :: r, acc, ha, p, hp => by
    by_cases h : d = c
    · subst h
      rw [cut_hit] at hp
      rcases List.mem_cons.mp hp with rfl | hp
      · exact ha
      · exact cut_free d r [] (by simp) p hp
    · rw [cut_miss h] at hp
      refine cut_free c r _ ?_ p hp
      rw [List.mem_append, List.mem_singleton]
      rintro (e | e)
      · exact ha e
      · exact h e.symm
theorem cut_sub (c : Nat) : ∀ (l acc : List Nat) (p : List Nat), p ∈ cut c acc l → ∀ d ∈ p, d ∈ acc ++ l
  | [], acc, p, hp, d, hd => by rw [cut_nil, List.mem_singleton] at hp; rw [hp] at hd; simpa using hd
  | e :: r, acc, p, hp, d, hd => by
    by_cases h : e = c
    · subst h
      rw [cut_hit] at hp
      rcases List.mem_cons.mp hp with rfl | hp
      · exact List.mem_append_left _ hd
      · have := cut_sub e r [] p hp d hd
        exact List.mem_append_right _ (List.mem_cons_of_mem _ (by simpa using this))
    · rw [cut_miss h] at hp
      have := cut_sub c r _ p hp d hd
      rwa [List.append_assoc] at this
theorem cut_len (c : Nat) : ∀ (l acc : List Nat) (p : List Nat), p ∈ cut c acc l → p.length ≤ acc.length + l.length
  | [], acc, p, hp => by rw [cut_nil, List.mem_singleton] at hp; rw [hp]; omega
  | e :: r, acc, p, hp => by
    by_cases h : e = c
    · subst h
      rw [cut_hit] at hp
      rcases List.mem_cons.mp hp with rfl | hp
      · omega
      · have := cut_len e r [] p hp
        simp at this ⊢; omega
    · rw [cut_miss h] at hp
      have := cut_len c r _ p hp
      simp at this ⊢; omega

/-! ## lines -/
abbrev sB : Str := Str.ofString " "
abbrev sN : Str := Str.ofString "\n"
theorem tl_B : tl sB = [32] := by decide +kernel
theorem tl_N : tl sN = [10] := by decide +kernel
theorem all_B : sB.cps.all (· < 256) = true := by decide +kernel
theorem all_N : sN.cps.all (· < 256) = true := by decide +kernel
def words (line : Str) : List Str := Txt.split line sB
theorem words_tl (line : Str) : (words line).map tl = cut 32 [] (tl line) := by
  unfold words
  rw [split_spl _ _ (by rw [tl_B]; simp) (kind_ok all_B), tl_B]
  rfl
theorem words_len (line : Str) : (words line).length = (tl line).count 32 + 1 := by
  have := congrArg List.length (words_tl line)
  rw [List.length_map, cut_count] at this
  exact this
theorem words_join (line : Str) : Txt.join sB (words line) = line := by
  refine ext_tl ?_
  rw [join_eq, tl_join, words_tl, tl_B, cut_join, List.nil_append]
theorem words_mem {line w : Str} (h : w ∈ words line) : tl w ∈ cut 32 [] (tl line) := by
  rw [← words_tl]
  exact List.mem_map.mpr ⟨w, h, rfl⟩
theorem word_free {line w : Str} (h : w ∈ words line) : 32 ∉ tl w := cut_free 32 _ [] (by simp) _ (words_mem h)
theorem word_sub {line w : Str} (h : w ∈ words line) : ∀ d ∈ tl w, d ∈ tl line := fun d hd => by
  have := cut_sub 32 _ [] _ (words_mem h) d hd
  simpa using this
theorem word_len {line w : Str} (h : w ∈ words line) : w.length ≤ line.length := by
  have := cut_len 32 _ [] _ (words_mem h)
  rw [len_tl, len_tl]
  simpa using this
/-- words that hold no blank come back -/
theorem words_of {ws : List Str} (h0 : ws ≠ []) (h : ∀ w ∈ ws, 32 ∉ tl w) : words (Txt.join sB ws) = ws := split_join tl_B all_B h0 h
/-- lines that hold no line feed come back -/
theorem lines_of {ls : List Str} (h0 : ls ≠ []) (h : ∀ l ∈ ls, 10 ∉ tl l) : Txt.split (Txt.join sN ls) sN = ls := split_join tl_N all_N h0 h
theorem lines_nil : Txt.split (Txt.join sN []) sN = [Str.ofString ""] := by decide +kernel
theorem mem_join {c d : Nat} : ∀ {ps : List (List Nat)}, d ∈ joinL [c] ps → d = c ∨ ∃ p ∈ ps, d ∈ p
  | [], h => by cases h
  | [p], h => .inr ⟨p, List.mem_cons_self, h⟩
  | p :: q :: r, h => by
    rw [join_cons c p (by simp)] at h
    rcases List.mem_append.mp h with h | h
    · exact .inr ⟨p, List.mem_cons_self, h⟩
    · rcases List.mem_cons.mp h with h | h
      · exact .inl h
      · rcases mem_join h with h | ⟨z, hz, hd⟩
        · exact .inl h
        · exact .inr ⟨z, List.mem_cons_of_mem _ hz, hd⟩
theorem mem_line {ws : List Str} {d : Nat} (h : d ∈ tl (Txt.join sB ws)) : d = 32 ∨ ∃ w ∈ ws, d ∈ tl w := by
  rw [join_eq, tl_join, tl_B] at h
  rcases mem_join h with h | ⟨p, hp, hd⟩
  · exact .inl h
  · obtain ⟨w, hw, rfl⟩ := List.mem_map.mp hp
    exact .inr ⟨w, hw, hd⟩
theorem joinL_len (c : Nat) (m : Nat) : ∀ {ps : List (List Nat)}, (∀ p ∈ ps, p.length ≤ m) → (joinL [c] ps).length ≤ ps.length * (m + 1)
  | [], _ => Nat.zero_le _
  | [p], h => by
    have := h p List.mem_cons_self
    show p.length ≤ _
    simp; omega
  | p :: q :: r, h => by
    have h1 := h p List.mem_cons_self
    have h2 := joinL_len c m (ps := q :: r) fun z hz => h z (List.mem_cons_of_mem _ hz)
    rw [join_cons c p (by simp), List.length_append, List.length_cons, List.length_cons (as := q :: r), Nat.succ_mul]
    omega
theorem line_len {m : Nat} {ws : List Str} (h : ∀ w ∈ ws, w.length ≤ m) : (Txt.join sB ws).length ≤ ws.length * (m + 1) := by
  rw [len_tl, join_eq, tl_join, tl_B]
  have := joinL_len 32 m (ps := ws.map tl) (by
    intro p hp
    obtain ⟨w, hw, rfl⟩ := List.mem_map.mp hp
    have := h w hw
    rwa [len_tl] at this)
  rwa [List.length_map] at this
theorem sum_len {m : Nat} : ∀ {ws : List Str}, (∀ w ∈ ws, w.length ≤ m) → (ws.map (·.length)).sum ≤ ws.length * m
  | [], _ => Nat.zero_le _
  | w :: r, h => by
    have h1 := h w List.mem_cons_self
    have h2 := sum_len (ws := r) fun z hz => h z (List.mem_cons_of_mem _ hz)
    rw [List.map_cons, List.sum_cons, List.length_cons, Nat.succ_mul]
    omega

/-! ## names, rests -/
def isNameL (l : List Nat) : Bool := match l with
  | [] => false
  | c :: _ => decide (l.length ≤ 12) && (isLow c && l.all fun c => isLow c || isFig c)
def isName (w : Str) : Bool := isNameL (tl w)
def folds : List Str := [Str.ofString "sum", Str.ofString "count", Str.ofString "most", Str.ofString "least"]
def isFold (w : Str) : Bool := decide (w ∈ folds)
def isFrom (w : Str) (lo hi : Int) : Bool := isCount w && (decide (lo ≤ numVal w) && decide (numVal w ≤ hi))
def isShare : List Str → Bool
  | [a, b] => isFrom b 1 8 && isFrom a 0 (numVal b - 1)
  | _ => false
def isWin : List Str → Bool
  | [a, f] => isFold f && isFrom a 1 1000000000000
  | _ => false
def isSlide : List Str → Bool
  | [a, b, f] => isFold f && (isFrom a 1 1000000000000 && (isFrom b 1 (numVal a) && decide (numVal a ≤ 8 * numVal b)))
  | _ => false
def isJoin : List Str → Bool
  | a :: r => isFrom a 0 1000000000000 && isExpr (Str.ofString "tvw") r
  | [] => false
def isRest (w : Str) (rest : List Str) : Bool :=
  if w = Str.ofString "keep" then isCond rest
  else if w = Str.ofString "turn" then isExpr (Str.ofString "tv") rest
  else if w = Str.ofString "share" then isShare rest
  else if w = Str.ofString "fixed" ∨ w = Str.ofString "gap" then isWin rest
  else if w = Str.ofString "slide" then isSlide rest
  else if w = Str.ofString "join" then isJoin rest
  else rest.isEmpty

/-! ## rows -/
structure Row where
  word : Str
  name : Str
  froms : List Str
  rest : List Str
def fromsT : List (Str × Nat) := [(Str.ofString "in", 0), (Str.ofString "keep", 1), (Str.ofString "turn", 1), (Str.ofString "share", 1), (Str.ofString "fixed", 1), (Str.ofString "slide", 1), (Str.ofString "gap", 1), (Str.ofString "join", 2), (Str.ofString "out", 1)]
/-- how many FROMs -/
def many (w : Str) (n : Nat) : Option Nat := if w = Str.ofString "pour" then (if 4 ≤ n ∧ n ≤ 10 then some (n - 2) else none) else fromsT.lookup w
def rowOf (line : Str) : Option Row := match words line with
  | [] => none
  | w :: t => match many w (t.length + 1) with
    | none => none
    | some m => if t.length + 1 < 2 + m then none
      else if ((t.take (1 + m)).all isName && isRest w (t.drop (1 + m))) = true then some ⟨w, t.headD w, (t.take (1 + m)).drop 1, t.drop (1 + m)⟩ else none
def Row.words (r : Row) : List Str := r.word :: r.name :: (r.froms ++ r.rest)
def Row.line (r : Row) : Str := Txt.join sB r.words
/-- what is known of a row that a line tells -/
theorem rowOf_words {line : Str} {r : Row} (h : rowOf line = some r) : K19.words line = r.words ∧ many r.word r.words.length = some r.froms.length ∧ isRest r.word r.rest = true ∧ isName r.name = true ∧ r.froms.all isName = true := by
  unfold rowOf at h
  cases e : K19.words line with
  | nil => rw [e] at h; cases h
  | cons w t =>
    rw [e] at h
    have h : (match many w (t.length + 1) with | none => none | some m => if t.length + 1 < 2 + m then none else if ((t.take (1 + m)).all isName && isRest w (t.drop (1 + m))) = true then some (⟨w, t.headD w, (t.take (1 + m)).drop 1, t.drop (1 + m)⟩ : Row) else none) = some r := h
    cases em : many w (t.length + 1) with
    | none => rw [em] at h; cases h
    | some m =>
      rw [em] at h
      have h : (if t.length + 1 < 2 + m then none else if ((t.take (1 + m)).all isName && isRest w (t.drop (1 + m))) = true then some (⟨w, t.headD w, (t.take (1 + m)).drop 1, t.drop (1 + m)⟩ : Row) else none) = some r := h
      by_cases h1 : t.length + 1 < 2 + m
      · rw [if_pos h1] at h; cases h
      · rw [if_neg h1] at h
        by_cases h2 : ((t.take (1 + m)).all isName && isRest w (t.drop (1 + m))) = true
        · rw [if_pos h2] at h
          cases h
          obtain ⟨a, b⟩ := Bool.and_eq_true_iff.mp h2
          cases t with
          | nil => simp at h1; omega
          | cons n t' =>
            have e1 : (n :: t').take (1 + m) = n :: t'.take m := by rw [Nat.add_comm, List.take_succ_cons]
            have e2 : (n :: t').drop (1 + m) = t'.drop m := by rw [Nat.add_comm, List.drop_succ_cons]
            rw [e1, List.all_cons, Bool.and_eq_true] at a
            rw [e2] at b
            rw [e1, e2]
            have hm : m ≤ t'.length := by simp at h1; omega
            refine ⟨?_, ?_, b, a.1, a.2⟩
            · show w :: n :: t' = w :: n :: (t'.take m ++ t'.drop m)
              rw [List.take_append_drop]
            · show many w (w :: n :: (t'.take m ++ t'.drop m)).length = some (t'.take m).length
              rw [List.take_append_drop, List.length_take, Nat.min_eq_left hm]
              exact em
        · rw [if_neg h2] at h; cases h
theorem rowOf_line {line : Str} {r : Row} (h : rowOf line = some r) : r.line = line := by
  unfold Row.line
  rw [← (rowOf_words h).1]
  exact words_join line
/-- a row of a form, told and read -/
theorem rowOf_back {r : Row} (hf : ∀ w ∈ r.words, 32 ∉ tl w) (hm : many r.word r.words.length = some r.froms.length) (hr : isRest r.word r.rest = true) (hn : isName r.name = true) (hs : r.froms.all isName = true) : rowOf r.line = some r := by
  have e : K19.words r.line = r.words := words_of (by simp [Row.words]) hf
  unfold rowOf
  rw [e]
  have e0 : r.words = r.word :: r.name :: (r.froms ++ r.rest) := rfl
  rw [e0]
  show (match many r.word ((r.name :: (r.froms ++ r.rest)).length + 1) with | none => none | some m => if (r.name :: (r.froms ++ r.rest)).length + 1 < 2 + m then none else if (((r.name :: (r.froms ++ r.rest)).take (1 + m)).all isName && isRest r.word ((r.name :: (r.froms ++ r.rest)).drop (1 + m))) = true then some (⟨r.word, r.name, ((r.name :: (r.froms ++ r.rest)).take (1 + m)).drop 1, (r.name :: (r.froms ++ r.rest)).drop (1 + m)⟩ : Row) else none) = some r
  rw [show (r.name :: (r.froms ++ r.rest)).length + 1 = r.words.length from rfl, hm]
  show (if r.words.length < 2 + r.froms.length then none else if (((r.name :: (r.froms ++ r.rest)).take (1 + r.froms.length)).all isName && isRest r.word ((r.name :: (r.froms ++ r.rest)).drop (1 + r.froms.length))) = true then some (⟨r.word, r.name, ((r.name :: (r.froms ++ r.rest)).take (1 + r.froms.length)).drop 1, (r.name :: (r.froms ++ r.rest)).drop (1 + r.froms.length)⟩ : Row) else none) = some r
  have e1 : (r.name :: (r.froms ++ r.rest)).take (1 + r.froms.length) = r.name :: r.froms := by rw [Nat.add_comm, List.take_succ_cons, List.take_left]
  have e2 : (r.name :: (r.froms ++ r.rest)).drop (1 + r.froms.length) = r.rest := by rw [Nat.add_comm, List.drop_succ_cons, List.drop_left]
  rw [e1, e2, if_neg (by rw [e0]; simp; omega), if_pos (by rw [List.all_cons, hn, hs, hr]; rfl)]
  rfl
/-! ## works -/
/-- names above, with their words -/
abbrev Above := List (Str × Str)
def bad (a : Above) (r : Row) : Bool := (a.lookup r.name).isSome || r.froms.any fun f => (a.lookup f).getD (Str.ofString "out") == Str.ofString "out"
def readFrom : Above → Nat → List Str → Except (Bool × Nat) (List Row)
  | _, _, [] => .ok []
  | a, n, l :: ls => match rowOf l with
    | none => .error (true, n)
    | some r => if bad a r = true then .error (false, n) else match readFrom (a ++ [(r.name, r.word)]) (n + 1) ls with
      | .ok rs => .ok (r :: rs)
      | .error e => .error e
def aboveOf (rs : List Row) : Above := rs.map fun r => (r.name, r.word)
end K19

set_option Elab.async false
set_option linter.all false
set_option maxRecDepth 100000
set_option maxHeartbeats 4000000
/-! # M4: what readFrom tells; the rows that the law builds are read; lines stay lines -/
namespace K19
open PySem TL

/-! ## one pass from the top -/
def glue (rs : List Row) : Except (Bool × Nat) (List Row) → Except (Bool × Nat) (List Row)
  | .ok more => .ok (rs ++ more)
  | .error e => .error e
def readAll (ls : List Str) : Except (Bool × Nat) (List Row) := readFrom [] 0 ls
theorem read_nil (a : Above) (n : Nat) : readFrom a n [] = .ok [] := by unfold readFrom; rfl
theorem read_cons (a : Above) (n : Nat) (l : Str) (ls : List Str) : readFrom a n (l :: ls) = (match rowOf l with
    | none => .error (true, n)
    | some r => if bad a r = true then .error (false, n) else glue [r] (readFrom (a ++ [(r.name, r.word)]) (n + 1) ls)) := by
  conv => lhs; unfold readFrom
  cases rowOf l with
  | none => rfl
  | some r =>
    dsimp only
    split
    · rfl
    · cases readFrom (a ++ [(r.name, r.word)]) (n + 1) ls <;> rfl
theorem read_none {a : Above} {n : Nat} {l : Str} {ls : List Str} (h : rowOf l = none) : readFrom a n (l :: ls) = .error (true, n) := by rw [read_cons, h]
theorem read_bad {a : Above} {n : Nat} {l : Str} {ls : List Str} {r : Row} (h : rowOf l = some r) (hb : bad a r = true) : readFrom a n (l :: ls) = .error (false, n) := by
  rw [read_cons, h]
  exact if_pos hb
theorem read_on {a : Above} {n : Nat} {l : Str} {ls : List Str} {r : Row} (h : rowOf l = some r) (hb : bad a r = false) : readFrom a n (l :: ls) = glue [r] (readFrom (a ++ [(r.name, r.word)]) (n + 1) ls) := by
  rw [read_cons, h]
  exact if_neg (by rw [hb]; exact Bool.false_ne_true)
theorem glue_glue (rs ms : List Row) (x : Except (Bool × Nat) (List Row)) : glue rs (glue ms x) = glue (rs ++ ms) x := by
  cases x with
  | ok a => show Except.ok (rs ++ (ms ++ a)) = Except.ok (rs ++ ms ++ a); rw [List.append_assoc]
  | error e => rfl
theorem glue_nil (x : Except (Bool × Nat) (List Row)) : glue [] x = x := by cases x <;> rfl
theorem aboveOf_snoc (rs : List Row) (r : Row) : aboveOf (rs ++ [r]) = aboveOf rs ++ [(r.name, r.word)] := by unfold aboveOf; rw [List.map_append]; rfl

/-- k lines read, rs so far -/
structure Went (ls : List Str) (k : Nat) (rs : List Row) : Prop where
  eq : readAll ls = glue rs (readFrom (aboveOf rs) k (ls.drop k))
  len : rs.length = k
theorem Went.start (ls : List Str) : Went ls 0 [] := ⟨by rw [List.drop_zero, glue_nil]; rfl, rfl⟩
theorem drop_get {α : Type} {ls : List α} {k : Nat} {l : α} (h : ls[k]? = some l) : ls.drop k = l :: ls.drop (k + 1) := by
  obtain ⟨hi, e⟩ := List.getElem?_eq_some_iff.mp h
  rw [List.drop_eq_getElem_cons hi, e]
theorem Went.none {ls : List Str} {k : Nat} {rs : List Row} {l : Str} (w : Went ls k rs) (h : ls[k]? = some l) (hr : rowOf l = Option.none) : readAll ls = .error (true, k) := by
  rw [w.eq, drop_get h, read_none hr]; rfl
theorem Went.bad {ls : List Str} {k : Nat} {rs : List Row} {l : Str} {r : Row} (w : Went ls k rs) (h : ls[k]? = some l) (hr : rowOf l = some r) (hb : bad (aboveOf rs) r = true) : readAll ls = .error (false, k) := by
  rw [w.eq, drop_get h, read_bad hr hb]; rfl
theorem Went.on {ls : List Str} {k : Nat} {rs : List Row} {l : Str} {r : Row} (w : Went ls k rs) (h : ls[k]? = some l) (hr : rowOf l = some r) (hb : K19.bad (aboveOf rs) r = false) : Went ls (k + 1) (rs ++ [r]) := by
  refine ⟨?_, by rw [List.length_append, w.len]; rfl⟩
  rw [w.eq, drop_get h, read_on hr hb, glue_glue, aboveOf_snoc]
theorem Went.done {ls : List Str} {rs : List Row} (w : Went ls ls.length rs) : readAll ls = .ok rs := by
  rw [w.eq, List.drop_length, read_nil]
  show Except.ok (rs ++ []) = Except.ok rs
  rw [List.append_nil]

/-! ## what is read, what is refused -/
theorem read_ok : ∀ (ls : List Str) (a : Above) (n : Nat) (rs : List Row), readFrom a n ls = .ok rs →
    rs.length = ls.length ∧ ∀ (k : Nat) (l : Str), ls[k]? = some l → ∃ r, rs[k]? = some r ∧ rowOf l = some r ∧ bad (a ++ aboveOf (rs.take k)) r = false
  | [], a, n, rs, h => by
    rw [read_nil] at h
    cases h
    exact ⟨rfl, fun k l e => by simp at e⟩
  | l :: ls, a, n, rs, h => by
    cases hr : rowOf l with
    | none => rw [read_none hr] at h; cases h
    | some r =>
      cases hb : bad a r with
      | true => rw [read_bad hr hb] at h; cases h
      | false =>
        rw [read_on hr hb] at h
        cases hx : readFrom (a ++ [(r.name, r.word)]) (n + 1) ls with
        | error e => rw [hx] at h; cases h
        | ok more =>
          rw [hx] at h
          have h : Except.ok ([r] ++ more) = Except.ok rs := h
          cases h
          obtain ⟨i1, i2⟩ := read_ok ls _ _ _ hx
          refine ⟨by simp [i1], fun k l' e => ?_⟩
          cases k with
          | zero =>
            cases e
            refine ⟨r, rfl, hr, ?_⟩
            show bad (a ++ []) r = false
            rw [List.append_nil]; exact hb
          | succ k =>
            obtain ⟨r', e1, e2, e3⟩ := i2 k l' e
            refine ⟨r', e1, e2, ?_⟩
            rw [List.append_assoc] at e3
            exact e3
theorem read_err : ∀ (ls : List Str) (a : Above) (n : Nat) (b : Bool) (m : Nat), readFrom a n ls = .error (b, m) →
    n ≤ m ∧ m < n + ls.length ∧ ∃ rs, readFrom a n (ls.take (m - n)) = .ok rs ∧ (∀ more, readFrom a n (ls.take (m - n + 1) ++ more) = .error (b, m)) ∧
      (b = false → ∃ l r, ls[m - n]? = some l ∧ rowOf l = some r ∧ bad (a ++ aboveOf rs) r = true)
  | [], a, n, b, m, h => by rw [read_nil] at h; cases h
  | l :: ls, a, n, b, m, h => by
    cases hr : rowOf l with
    | none =>
      rw [read_none hr] at h
      cases h
      refine ⟨Nat.le_refl _, by simp, [], ?_, fun more => ?_, fun e => by cases e⟩
      · rw [Nat.sub_self, List.take_zero, read_nil]
      · rw [Nat.sub_self, Nat.zero_add, List.take_succ_cons, List.take_zero]
        exact read_none hr
    | some r =>
      cases hb : bad a r with
      | true =>
        rw [read_bad hr hb] at h
        cases h
        refine ⟨Nat.le_refl _, by simp, [], ?_, fun more => ?_, fun _ => ⟨l, r, ?_, hr, ?_⟩⟩
        · rw [Nat.sub_self, List.take_zero, read_nil]
        · rw [Nat.sub_self, Nat.zero_add, List.take_succ_cons, List.take_zero]
          exact read_bad hr hb
        · rw [Nat.sub_self]; rfl
        · show bad (a ++ []) r = true
          rw [List.append_nil]; exact hb
      | false =>
        rw [read_on hr hb] at h
        cases hx : readFrom (a ++ [(r.name, r.word)]) (n + 1) ls with
        | ok more => rw [hx] at h; cases h
        | error e =>
          rw [hx] at h
          have h : Except.error e = Except.error (b, m) := h
          cases h
          obtain ⟨i1, i2, rs, i3, i4, i5⟩ := read_err ls _ _ _ _ hx
          have e1 : m - n = (m - (n + 1)) + 1 := by omega
          refine ⟨by omega, by simp; omega, r :: rs, ?_, fun more => ?_, fun hb' => ?_⟩
          · rw [e1, List.take_succ_cons, read_on hr hb, i3]; rfl
          · rw [e1, List.take_succ_cons, List.cons_append, read_on hr hb, i4 more]; rfl
          · obtain ⟨l', r', q1, q2, q3⟩ := i5 hb'
            refine ⟨l', r', ?_, q2, ?_⟩
            · rw [e1]; exact q1
            · rw [List.append_assoc] at q3
              exact q3

/-! ## rows that the law builds -/
def clean (w : Str) : Prop := (∀ c ∈ tl w, c ≠ 32 ∧ c ≠ 10) ∧ w.length ≤ 25
/-- the names of the rows that are no out -/
def outless (rs : List Row) : List Str := (rs.filter fun r => r.word != Str.ofString "out").map Row.name
structure GoodRow (k : Nat) (above : List Str) (r : Row) : Prop where
  nm : isName r.name = true
  dg : (tl r.name).filter isFig = numL k
  fr : ∀ f ∈ r.froms, f ∈ above
  mn : (r.word = Str.ofString "pour" ∧ 2 ≤ r.froms.length ∧ r.froms.length ≤ 8) ∨ (r.word ≠ Str.ofString "pour" ∧ fromsT.lookup r.word = some r.froms.length)
  rs : isRest r.word r.rest = true
  cl : ∀ w ∈ r.rest, clean w
  wd : clean r.word
  ct : r.rest.length ≤ 36
def RowsOk (rows : List Row) : Prop := ∀ (k : Nat) (r : Row), rows[k]? = some r → GoodRow k (outless (rows.take k)) r
theorem name_clean {w : Str} (h : isName w = true) : clean w := by
  unfold isName isNameL at h
  cases e : tl w with
  | nil => rw [e] at h; cases h
  | cons a t =>
    rw [e] at h
    have h : (decide ((a :: t).length ≤ 12) && (isLow a && (a :: t).all fun c => isLow c || isFig c)) = true := h
    simp only [Bool.and_eq_true, decide_eq_true_eq] at h
    obtain ⟨h1, _, h2⟩ := h
    refine ⟨fun c hc => ?_, ?_⟩
    · rw [e] at hc
      have h3 := List.all_eq_true.mp h2 c hc
      simp only [Bool.or_eq_true, isLow_iff, isFig_iff] at h3
      omega
    · rw [len_tl, e]; omega
theorem clean_32 {w : Str} (h : clean w) : 32 ∉ tl w := fun hm => (h.1 32 hm).1 rfl
theorem clean_10 {w : Str} (h : clean w) : 10 ∉ tl w := fun hm => (h.1 10 hm).2 rfl
theorem RowsOk.take {rows : List Row} (h : RowsOk rows) (n : Nat) : RowsOk (rows.take n) := fun k r e => by
  have hk : k < n := by
    have := (List.getElem?_eq_some_iff.mp e).1
    rw [List.length_take] at this; omega
  rw [List.getElem?_take_of_lt hk] at e
  have := h k r e
  rwa [List.take_take, Nat.min_eq_left (by omega)]
theorem RowsOk.snoc {rows : List Row} {r : Row} (h : RowsOk rows) (g : GoodRow rows.length (outless rows) r) : RowsOk (rows ++ [r]) := fun k r' e => by
  by_cases hk : k < rows.length
  · rw [List.getElem?_append_left hk] at e
    rw [List.take_append_of_le_length (by omega)]
    exact h k r' e
  · have hl := (List.getElem?_eq_some_iff.mp e).1
    rw [List.length_append] at hl
    have : k = rows.length := by simp at hl; omega
    subst this
    rw [List.getElem?_append_right (Nat.le_refl _), Nat.sub_self] at e
    cases e
    rw [List.take_left]
    exact g
theorem outless_snoc (rs : List Row) (r : Row) : outless (rs ++ [r]) = outless rs ++ (if r.word != Str.ofString "out" then [r.name] else []) := by
  unfold outless
  rw [List.filter_append, List.map_append]
  congr 1
  by_cases h : (r.word != Str.ofString "out") = true
  · simp [h]
  · simp [h]
theorem outless_mem {rs : List Row} {f : Str} (h : f ∈ outless rs) : ∃ r ∈ rs, r.word ≠ Str.ofString "out" ∧ r.name = f := by
  unfold outless at h
  obtain ⟨r, hr, rfl⟩ := List.mem_map.mp h
  obtain ⟨h1, h2⟩ := List.mem_filter.mp hr
  exact ⟨r, h1, by simpa using h2, rfl⟩
theorem RowsOk.names {rows : List Row} (h : RowsOk rows) {i j : Nat} {r r' : Row} (hi : rows[i]? = some r) (hj : rows[j]? = some r') (e : r.name = r'.name) : i = j := by
  have a := (h i r hi).dg
  have b := (h j r' hj).dg
  rw [e, b] at a
  exact (numL_inj a).symm
theorem lookup_uniq {α β : Type} [BEq α] [LawfulBEq α] {x : α} {y : β} : ∀ {l : List (α × β)}, (x, y) ∈ l → (∀ y', (x, y') ∈ l → y' = y) → l.lookup x = some y
  | [], h, _ => by cases h
  | (x', y') :: t, h, hu => by
    by_cases e : x = x'
    · subst e
      rw [List.lookup_cons_self, hu y' List.mem_cons_self]
    · rw [List.lookup_cons, show (x == x') = false by simpa using e]
      rcases List.mem_cons.mp h with h | h
      · cases h; exact absurd rfl e
      · exact lookup_uniq h fun z hz => hu z (List.mem_cons_of_mem _ hz)
theorem lookup_no {α β : Type} [BEq α] [LawfulBEq α] {x : α} : ∀ {l : List (α × β)}, (∀ y, (x, y) ∉ l) → l.lookup x = none
  | [], _ => rfl
  | (x', y') :: t, h => by
    have e : x ≠ x' := fun e => h y' (by rw [e]; exact List.mem_cons_self)
    rw [List.lookup_cons, show (x == x') = false by simpa using e]
    exact lookup_no fun y hy => h y (List.mem_cons_of_mem _ hy)
theorem lookup_mem {α β : Type} [BEq α] [LawfulBEq α] {x : α} {y : β} : ∀ {l : List (α × β)}, l.lookup x = some y → (x, y) ∈ l
  | [], h => by cases h
  | (x', y') :: t, h => by
    rw [List.lookup_cons] at h
    by_cases e : x = x'
    · subst e
      rw [beq_self_eq_true] at h
      cases h
      exact List.mem_cons_self
    · rw [show (x == x') = false by simpa using e] at h
      exact List.mem_cons_of_mem _ (lookup_mem h)
theorem RowsOk.fine {rows : List Row} (h : RowsOk rows) {k : Nat} {r : Row} (hk : rows[k]? = some r) : bad (aboveOf (rows.take k)) r = false := by
  have g := h k r hk
  have inT : ∀ {r' : Row}, r' ∈ rows.take k → ∃ j, j < k ∧ rows[j]? = some r' := fun {r'} hm => by
    obtain ⟨j, hj, e⟩ := List.mem_iff_getElem.mp hm
    rw [List.length_take] at hj
    refine ⟨j, by omega, ?_⟩
    rw [List.getElem_take] at e
    rw [List.getElem?_eq_getElem (by omega), e]
  unfold bad
  rw [Bool.or_eq_false_iff]
  constructor
  · have e : (aboveOf (rows.take k)).lookup r.name = none := lookup_no fun y hy => by
      unfold aboveOf at hy
      obtain ⟨r', hr', e⟩ := List.mem_map.mp hy
      obtain ⟨j, hj, ej⟩ := inT hr'
      have := h.names ej hk (congrArg Prod.fst e)
      omega
    rw [e]; rfl
  · rw [List.any_eq_false]
    intro f hf
    obtain ⟨r', hr', hw, hn⟩ := outless_mem (g.fr f hf)
    have e : (aboveOf (rows.take k)).lookup f = some r'.word := by
      refine lookup_uniq (List.mem_map.mpr ⟨r', hr', by rw [← hn]⟩) fun y hy => ?_
      obtain ⟨r2, hr2, e⟩ := List.mem_map.mp hy
      obtain ⟨j, hj, ej⟩ := inT hr'
      obtain ⟨j2, hj2, ej2⟩ := inT hr2
      have e1 : r2.name = f := congrArg Prod.fst e
      have e2 : r2.word = y := congrArg Prod.snd e
      have := h.names ej ej2 (hn.trans e1.symm)
      subst this
      rw [ej] at ej2
      cases ej2
      exact e2.symm
    rw [e]
    simpa using hw
theorem GoodRow.words {rows : List Row} (h : RowsOk rows) {k : Nat} {r : Row} (hk : rows[k]? = some r) : (∀ w ∈ r.words, clean w) ∧ r.froms.all isName = true ∧ r.froms.length ≤ 8 := by
  have g := h k r hk
  have hf : ∀ f ∈ r.froms, isName f = true := fun f hf => by
    obtain ⟨r', hr', _, hn⟩ := outless_mem (g.fr f hf)
    obtain ⟨j, hj, e⟩ := List.mem_iff_getElem.mp hr'
    rw [List.length_take] at hj
    rw [List.getElem_take] at e
    rw [← hn]
    exact (h j r' (by rw [List.getElem?_eq_getElem (by omega), e])).nm
  have hl : r.froms.length ≤ 8 := by
    rcases g.mn with ⟨_, _, q⟩ | ⟨_, q⟩
    · exact q
    · have := lookup_mem q
      simp only [fromsT, List.mem_cons, Prod.mk.injEq, List.not_mem_nil, or_false] at this
      omega
  refine ⟨fun w hw => ?_, List.all_eq_true.mpr hf, hl⟩
  unfold Row.words at hw
  rcases List.mem_cons.mp hw with rfl | hw
  · exact g.wd
  · rcases List.mem_cons.mp hw with rfl | hw
    · exact name_clean g.nm
    · rcases List.mem_append.mp hw with hw | hw
      · exact name_clean (hf w hw)
      · exact g.cl w hw
theorem empty_rest {r : Row} (h : isRest r.word r.rest = true) (hw : r.word = Str.ofString "pour") : r.rest = [] := by
  unfold isRest at h
  rw [hw] at h
  rw [if_neg (by decide +kernel), if_neg (by decide +kernel), if_neg (by decide +kernel), if_neg (by decide +kernel), if_neg (by decide +kernel), if_neg (by decide +kernel)] at h
  exact List.isEmpty_iff.mp h
theorem GoodRow.row {rows : List Row} (h : RowsOk rows) {k : Nat} {r : Row} (hk : rows[k]? = some r) : rowOf r.line = some r := by
  have g := h k r hk
  obtain ⟨w1, w2, _⟩ := GoodRow.words h hk
  refine rowOf_back (fun w hw => clean_32 (w1 w hw)) ?_ g.rs g.nm w2
  rcases g.mn with ⟨q, q2, q3⟩ | ⟨q, q2⟩
  · unfold many
    rw [if_pos q]
    have e := empty_rest g.rs q
    have el : r.words.length = r.froms.length + 2 := by unfold Row.words; rw [e]; simp
    rw [el, if_pos (by omega)]
    simp
  · unfold many
    rw [if_neg q]
    exact q2
theorem RowsOk.read {rows : List Row} (h : RowsOk rows) : readAll (rows.map Row.line) = .ok rows := by
  have key : ∀ k, k ≤ rows.length → Went (rows.map Row.line) k (rows.take k) := by
    intro k
    induction k with
    | zero => intro _; rw [List.take_zero]; exact Went.start _
    | succ k ih =>
      intro hk
      have e : rows[k]? = some rows[k] := List.getElem?_eq_getElem (by omega)
      have w := ih (by omega)
      have w2 := w.on (l := rows[k].line) (by rw [List.getElem?_map, e]; rfl) (GoodRow.row h e) (h.fine e)
      rwa [List.take_append_getElem (by omega)] at w2
  have w := key rows.length (Nat.le_refl _)
  rw [List.take_length] at w
  have w2 : Went (rows.map Row.line) (rows.map Row.line).length rows := by rw [List.length_map]; exact w
  exact w2.done

/-! ## lines stay lines -/
structure LnOk (m b : Nat) (l : Str) : Prop where
  nl : 10 ∉ tl l
  ln : l.length ≤ m
  ct : (tl l).count 32 ≤ b
theorem LnOk.mono {m b m' b' : Nat} {l : Str} (h : LnOk m b l) (h1 : m ≤ m') (h2 : b ≤ b') : LnOk m' b' l := ⟨h.nl, Nat.le_trans h.ln h1, Nat.le_trans h.ct h2⟩
theorem LnOk.words {m b : Nat} {l : Str} (h : LnOk m b l) : (K19.words l).length ≤ b + 1 := by
  rw [words_len]; have := h.ct; omega
theorem count_join {ws : List Str} (h : ∀ w ∈ ws, 32 ∉ tl w) (h0 : ws ≠ []) : (tl (Txt.join sB ws)).count 32 + 1 = ws.length := by
  rw [← words_len, words_of h0 h]
theorem GoodRow.line {rows : List Row} (h : RowsOk rows) {k : Nat} {r : Row} (hk : rows[k]? = some r) : LnOk 1300 46 r.line := by
  have g := h k r hk
  obtain ⟨w1, w2, w3⟩ := GoodRow.words h hk
  have hl : r.words.length ≤ 46 := by
    have := g.ct
    unfold Row.words
    simp; omega
  refine ⟨fun hm => ?_, ?_, ?_⟩
  · rcases mem_line hm with e | ⟨w, hw, hd⟩
    · exact absurd e (by decide)
    · exact clean_10 (w1 w hw) hd
  · have := line_len (m := 25) (ws := r.words) fun w hw => (w1 w hw).2
    unfold Row.line
    have e : r.words.length * (25 + 1) ≤ 46 * 26 := Nat.mul_le_mul_right _ hl
    omega
  · have := count_join (ws := r.words) (fun w hw => clean_32 (w1 w hw)) (by simp [Row.words])
    show (tl (Txt.join sB r.words)).count 32 ≤ 46
    omega
/-- a sign taken out -/
theorem LnOk.out {m b i j : Nat} {l l' : Str} (h : LnOk m b l) (e : tl l' = (tl l).take i ++ (tl l).drop j) (hij : i ≤ j) : LnOk m b l' := by
  have hs : ((tl l).take i ++ (tl l).drop j).Sublist (tl l) := by
    have h1 : ((tl l).drop j).Sublist ((tl l).drop i) := by
      have : (tl l).drop j = ((tl l).drop i).drop (j - i) := by rw [List.drop_drop]; congr 1; omega
      rw [this]
      exact List.drop_sublist _ _
    have := (List.Sublist.refl ((tl l).take i)).append h1
    rwa [List.take_append_drop] at this
  refine ⟨?_, ?_, ?_⟩
  · rw [e]; exact fun hm => h.nl (hs.subset hm)
  · have := hs.length_le
    have := h.ln
    rw [len_tl] at *
    rw [e]; omega
  · rw [e]; exact Nat.le_trans (hs.count_le _) h.ct
/-- a sign put in -/
theorem LnOk.ins {m b i c : Nat} {l l' : Str} (h : LnOk m b l) (e : tl l' = (tl l).take i ++ c :: (tl l).drop i) (hc : c ≠ 10) : LnOk (m + 1) (b + 1) l' := by
  have e2 : (tl l).take i ++ (tl l).drop i = tl l := List.take_append_drop _ _
  refine ⟨?_, ?_, ?_⟩
  · rw [e]
    intro hm
    rcases List.mem_append.mp hm with hm | hm
    · exact h.nl (List.mem_of_mem_take hm)
    · rcases List.mem_cons.mp hm with hm | hm
      · exact hc hm.symm
      · exact h.nl (List.mem_of_mem_drop hm)
  · have := h.ln
    have el := congrArg List.length e2
    rw [List.length_append] at el
    rw [len_tl] at *
    rw [e, List.length_append, List.length_cons]; omega
  · have := h.ct
    have el := congrArg (List.count 32) e2
    rw [List.count_append] at el
    rw [e, List.count_append, List.count_cons]
    split <;> omega
/-- words put together anew -/
theorem joinL_size (c : Nat) : ∀ {ps : List (List Nat)}, ps ≠ [] → (joinL [c] ps).length + 1 = (ps.map (·.length)).sum + ps.length
  | [], h => absurd rfl h
  | [p], _ => by
    show p.length + 1 = _
    simp
  | p :: q :: r, _ => by
    have ih := joinL_size c (ps := q :: r) (by simp)
    rw [join_cons c p (by simp), List.length_append, List.length_cons, List.map_cons, List.sum_cons, List.length_cons (as := q :: r)]
    omega
theorem line_size {ws : List Str} (h0 : ws ≠ []) : (Txt.join sB ws).length + 1 = (ws.map (·.length)).sum + ws.length := by
  have := joinL_size 32 (ps := ws.map tl) (by simpa using h0)
  rw [List.map_map, List.length_map] at this
  have e : ((fun l : List Nat => l.length) ∘ tl) = fun w : Str => w.length := by funext w; exact (len_tl w).symm
  rw [e] at this
  rw [len_tl, join_eq, tl_join, tl_B]
  exact this
theorem words_ne (l : Str) : words l ≠ [] := fun e => by
  have := words_len l
  rw [e] at this
  simp at this
theorem words_size (l : Str) : ((words l).map (·.length)).sum + (words l).length = l.length + 1 := by
  have := line_size (words_ne l)
  rw [words_join] at this
  exact this.symm
theorem LnOk.glued {m b : Nat} {ws : List Str} {l1 l2 : Str} (h1 : LnOk m b l1) (h2 : LnOk m b l2) (h0 : ws ≠ []) (hw : ∀ w ∈ ws, w ∈ K19.words l1 ∨ w ∈ K19.words l2)
    (hs : (ws.map (·.length)).sum ≤ ((K19.words l1).map (·.length)).sum + m) (hn : ws.length ≤ (K19.words l1).length + 1) : LnOk (2 * m + 1) (b + 1) (Txt.join sB ws) := by
  have free : ∀ w ∈ ws, 32 ∉ tl w := fun w h => (hw w h).elim word_free word_free
  refine ⟨fun hx => ?_, ?_, ?_⟩
  · rcases mem_line hx with e | ⟨w, h, hd⟩
    · exact absurd e (by decide)
    · rcases hw w h with h | h
      · exact h1.nl (word_sub h 10 hd)
      · exact h2.nl (word_sub h 10 hd)
  · have a := line_size h0
    have c := words_size l1
    have d := h1.ln
    omega
  · have a := count_join free h0
    have c := words_len l1
    have d := h1.ct
    omega
theorem sum_set_le : ∀ (ws : List Str) (i : Nat) (x : Str), ((ws.set i x).map (·.length)).sum ≤ (ws.map (·.length)).sum + x.length
  | [], _, _ => by simp
  | w :: r, 0, x => by
    rw [List.set_cons_zero, List.map_cons, List.sum_cons, List.map_cons, List.sum_cons]
    omega
  | w :: r, i + 1, x => by
    have := sum_set_le r i x
    rw [List.set_cons_succ, List.map_cons, List.sum_cons, List.map_cons, List.sum_cons]
    omega
theorem LnOk.swap {m b i : Nat} {x l1 l2 : Str} (h1 : LnOk m b l1) (h2 : LnOk m b l2) (hx : x ∈ K19.words l2) : LnOk (2 * m + 1) (b + 1) (Txt.join sB ((K19.words l1).set i x)) := by
  refine h1.glued h2 ?_ (fun w hw => ?_) ?_ (by rw [List.length_set]; omega)
  · intro e
    have := congrArg List.length e
    rw [List.length_set] at this
    exact words_ne l1 (List.length_eq_zero_iff.mp this)
  · rcases List.mem_or_eq_of_mem_set hw with h | h
    · exact .inl h
    · exact .inr (h ▸ hx)
  · have := sum_set_le (K19.words l1) i x
    have := word_len hx
    have := h2.ln
    omega
theorem sum_drop (ws : List Str) (a b : Nat) (h : a ≤ b) : ((ws.take a ++ ws.drop b).map (·.length)).sum ≤ (ws.map (·.length)).sum := by
  have e : ws.take a ++ ((ws.drop a).take (b - a) ++ ws.drop b) = ws := by
    have : ws.drop b = (ws.drop a).drop (b - a) := by rw [List.drop_drop]; congr 1; omega
    rw [this, List.take_append_drop, List.take_append_drop]
  conv => rhs; rw [← e]
  simp only [List.map_append, List.sum_append]
  omega
theorem LnOk.third {m b : Nat} {xs : List Str} {l1 l2 : Str} (h1 : LnOk m b l1) (h2 : LnOk m b l2) (hx : ∀ x ∈ xs, x ∈ K19.words l2) (hl : xs.length ≤ 1) : LnOk (2 * m + 1) (b + 1) (Txt.join sB ((K19.words l1).take 2 ++ xs ++ (K19.words l1).drop 3)) := by
  refine h1.glued h2 ?_ (fun w hw => ?_) ?_ ?_
  · intro e
    have := congrArg List.length e
    have h := List.length_pos_iff.mpr (words_ne l1)
    simp only [List.length_append, List.length_take, List.length_drop, List.length_nil] at this
    omega
  · rcases List.mem_append.mp hw with h | h
    · rcases List.mem_append.mp h with h | h
      · exact .inl (List.mem_of_mem_take h)
      · exact .inr (hx w h)
    · exact .inl (List.mem_of_mem_drop h)
  · have a := sum_drop (K19.words l1) 2 3 (by omega)
    have c : (xs.map (·.length)).sum ≤ m := by
      have := sum_len (m := m) (ws := xs) fun x h => Nat.le_trans (word_len (hx x h)) h2.ln
      have e : xs.length * m ≤ 1 * m := Nat.mul_le_mul_right _ hl
      omega
    simp only [List.map_append, List.sum_append] at a ⊢
    omega
  · simp only [List.length_append, List.length_take, List.length_drop]
    omega
end K19

set_option Elab.async false
set_option linter.all false
set_option maxRecDepth 100000
set_option maxHeartbeats 4000000
/-! # M5: slices, starts, small facts of values -/
namespace K19
open PySem TL
theorem tl_cutS (z : Str) (lo hi : Option Int) : tl (L2.cutS z lo hi) = ((tl z).drop (HT.sIx z.length 0 lo)).take (HT.sIx z.length z.length hi - HT.sIx z.length 0 lo) := rfl
theorem cutS_from (z : Str) (a : Nat) : tl (L2.cutS z (some (a : Int)) none) = (tl z).drop a := by
  rw [tl_cutS, HT.sIx_nat, HT.sIx_none, len_tl]
  by_cases h : a ≤ (tl z).length
  · rw [Nat.min_eq_left h]
    exact List.take_of_length_le (by rw [List.length_drop]; omega)
  · rw [Nat.min_eq_right (by omega), List.drop_length, List.drop_of_length_le (by omega), List.take_nil]
theorem cutS_to (z : Str) (b : Nat) : tl (L2.cutS z none (some (b : Int))) = (tl z).take b := by
  rw [tl_cutS, HT.sIx_nat, HT.sIx_none, len_tl, List.drop_zero, Nat.sub_zero]
  by_cases h : b ≤ (tl z).length
  · rw [Nat.min_eq_left h]
  · rw [Nat.min_eq_right (by omega), List.take_length, List.take_of_length_le (by omega)]
theorem cutV_from (xs : List L2.V) (a : Nat) : L2.cutV xs (some (a : Int)) none = xs.drop a := by
  unfold L2.cutV
  rw [HT.sIx_nat, HT.sIx_none]
  by_cases h : a ≤ xs.length
  · rw [Nat.min_eq_left h]
    exact List.take_of_length_le (by rw [List.length_drop]; omega)
  · rw [Nat.min_eq_right (by omega), List.drop_length, List.drop_of_length_le (by omega), List.take_nil]
theorem cutV_to (xs : List L2.V) (b : Nat) : L2.cutV xs none (some (b : Int)) = xs.take b := by
  unfold L2.cutV
  rw [HT.sIx_nat, HT.sIx_none, List.drop_zero, Nat.sub_zero]
  by_cases h : b ≤ xs.length
  · rw [Nat.min_eq_left h]
  · rw [Nat.min_eq_right (by omega), List.take_length, List.take_of_length_le (by omega)]
theorem cutV_mid (xs : List L2.V) (a b : Nat) : L2.cutV xs (some (a : Int)) (some (b : Int)) = (xs.take b).drop a := by
  unfold L2.cutV
  rw [HT.sIx_nat, HT.sIx_nat, List.drop_take]
  by_cases h : a ≤ xs.length
  · rw [Nat.min_eq_left h]
    by_cases h2 : b ≤ xs.length
    · rw [Nat.min_eq_left h2]
    · rw [Nat.min_eq_right (by omega), List.take_of_length_le (by rw [List.length_drop]; omega), List.take_of_length_le (by rw [List.length_drop]; omega)]
  · rw [Nat.min_eq_right (show xs.length ≤ a by omega), List.drop_length, List.drop_of_length_le (by omega), List.take_nil, List.take_nil]
theorem starts_minus (z : Str) : Txt.startswith z (Str.ofString "-") = ((tl z).head? == some 45) := by
  have hy : tl (Str.ofString "-") = [45] := by decide +kernel
  have hl : (Str.ofString "-").length = 1 := by rw [len_tl, hy]; rfl
  have key := at_iff (x := z) (y := Str.ofString "-") (by rw [hy]; simp) 0
  rw [hy, List.drop_zero] at key
  have e : Txt.startswith z (Str.ofString "-") = true ↔ StrLaws.At z (Str.ofString "-") z.length 0 := by
    unfold Txt.startswith StrLaws.At
    rw [Bool.and_eq_true, decide_eq_true_eq]
  rw [Bool.eq_iff_iff, e, key]
  cases h : tl z with
  | nil => simp [pre]
  | cons c r => rw [show pre [45] (c :: r) = (c == 45) by unfold pre; show (List.take 1 (c :: r) == [45]) = _; rw [List.take_succ_cons, List.take_zero]; simp]; simp
/-- `tl` of a sign and its text -/
theorem inOne_one (c : Nat) (z : Str) : inOne ⟨#[c]⟩ z = decide (c ∈ z.cps.toList) := rfl
theorem one_of {w : Str} (h : w.length = 1) : ∃ c, w = ⟨#[c]⟩ ∧ tl w = [c] := by
  rw [len_tl] at h
  match e : tl w with
  | [] => rw [e] at h; cases h
  | [c] => exact ⟨c, ext_tl (by rw [e]), rfl⟩
  | _ :: _ :: _ => rw [e] at h; simp at h
theorem inOne_long {w z : Str} (h : w.length ≠ 1) : inOne w z = false := by
  unfold inOne
  rw [len_tl] at h
  match e : tl w with
  | [] => rfl
  | [c] => rw [e] at h; exact absurd rfl h
  | _ :: _ :: _ => rfl
theorem small_line {n : Nat} (h : n ≤ 1000000) : n ≤ sizeLine := Nat.le_trans h (by decide)
theorem small_lt {n : Nat} (h : n ≤ 1000000) : n < sizeLine := Nat.lt_of_le_of_lt h (by decide)
end K19

set_option Elab.async false
set_option linter.all false
set_option maxRecDepth 100000
set_option maxHeartbeats 0
namespace K19
open PySem PySem.Spec PyProof.Rows L2
/-! ### the text by places -/
def topS (i : Nat) : Stmt := PySem.Challenge.pw_rowdam_k19_whole_texts.main.body.getD i (.Pass ⟨0, 0, 0, 0⟩)
/-- a def of the top, at f -/
abbrev FnP (K : PySem.W.Frag) (x : Str) (st : Stmt) (f : Addr) (fd : FuncData) : Prop := FunD K x x (defArgs st) (defBody st) (defScope st) [] [] f fd
end K19

set_option Elab.async false
set_option linter.all false
set_option maxRecDepth 100000
set_option maxHeartbeats 4000000
/-! # W0: rules that the layer lacks: a call of a def by what it keeps (Def), raise X(), Base.__init__(self, ..), a try with two named clauses -/
namespace K19
open PySem PySem.Spec PyProof.Rows L2
abbrev St := L2.St

/-- a def of the top that keeps a promise -/
structure Def (P : Program) (w : World) (K : PySem.W.Frag) (mg : Str → Option Value) (base : Heap) (C : CXT) (k : Nat) (x : Str) (ps : List Str) (sp : Sp) : Prop where
  ex : ∃ (f : Addr) (fd : FuncData), mg x = some (.ref f) ∧ PySem.W.keepIn K (.ref f) = true ∧ Binds K fd ps [] ∧ FnOk P w K mg base C k f fd ps sp
section
variable {P : Program} {w : World} {K : PySem.W.Frag} {mg : Str → Option Value} {base : Heap} {C : CXT} {k j : Nat} {x : Str} {ps : List Str} {sp sp' : Sp}
theorem Def.mono (D : Def P w K mg base C j x ps sp) (h : j ≤ k) : Def P w K mg base C k x ps sp := by
  obtain ⟨f, fd, g, kp, b, F⟩ := D.ex
  exact ⟨f, fd, g, kp, b, F.mono h⟩
theorem Def.imp (D : Def P w K mg base C k x ps sp) (h : ∀ vs H Q E, sp' vs H Q E → sp vs H Q E) : Def P w K mg base C k x ps sp' := by
  obtain ⟨f, fd, g, kp, b, F⟩ := D.ex
  exact ⟨f, fd, g, kp, b, F.imp h⟩
/-- a def of the text and its body -/
theorem Def.of {st : Stmt} {N : List Str} (F : ∃ (f : Addr) (fd : FuncData), mg x = some (.ref f) ∧ FnP K x st f fd) (S : FnScope N ps (defScope st))
    (hb : ∀ (kV doc pm : Value) (an : Option Addr) (cdv ct : Value) (us : List Value), us.length = ps.length → bindArgs (PySem.W.fnOf x x (defArgs st) (defBody st) (defScope st) .none kV doc pm an cdv ct) ⟨us, []⟩ = pure (ps.zip us))
    (len : ∀ vs H Q E, sp vs H Q E → vs.length = ps.length)
    (hbody : ∀ (f : Addr) (cdv : Value) (A : Around) (outer : List Env) (s : Shared) (H : Hp) (vs : List V) (Q : VK) (E : XK), Room k (A.deeper (envOfC x (defScope st) s.heap.objs.size f cdv)) → sp vs H Q E →
      ∃ t, PSs (cxOf C P w K mg base N x (defScope st) f cdv A outer s H E) (defBody st) t ∧ t { nx := fun _ H' => Q .non H', rt := Q } (start N vs) H) : Def P w K mg base C (k + 1) x ps sp := by
  obtain ⟨f, fd, g, F⟩ := F
  exact ⟨f, fd, g, F.kp, F.bindsN hb, F.ok S len (hbody f)⟩
end
section
variable {X : Cx} {C : CXT} {k : Nat} {x : Str} {ps : List Str} {sp : Sp} {t : TA} {e : Expr} {es : List Expr} {p pos : Pos} {W : WX} {E : XK}
/-- f(e, ..), where f lets nothing out -/
theorem pe_d (D : Def X.prog X.w X.K X.mg X.base CX0 k x ps sp) (hr : Room k X.A) (ha : PA X (e :: es) t) (hg : Gl X x := by rfl) (hdb : (x == ("__debug__" : Str)) = false := by decide)
    (he : starEach (e :: es) X.env = (false, eval e X.env) :: starEach es X.env := by rfl) (hpl : (backTo pos (starEach es X.env)).any (·.1) = false := by rfl) : PE X (.Call (.Name x p) (e :: es) [] pos) (tCall sp [] E0 t) := by
  obtain ⟨f, fd, g, kp, b, F⟩ := D.ex
  exact pe_call F hr hg g kp b .nil pass0 ha hdb he hpl
/-- f(e, ..), where f may raise, and the def that calls it lets that out -/
theorem pe_dx (D : Def X.prog X.w X.K X.mg X.base (L2.CX X.prog X.w) k x ps sp) (hr : Room k X.A) (tk : Takes X W) (hW : ∀ cls d σ H, E cls d H → W cls d σ H) (ha : PA X (e :: es) t) (hg : Gl X x := by rfl) (hdb : (x == ("__debug__" : Str)) = false := by decide)
    (he : starEach (e :: es) X.env = (false, eval e X.env) :: starEach es X.env := by rfl) (hpl : (backTo pos (starEach es X.env)).any (·.1) = false := by rfl) : PE X (.Call (.Name x p) (e :: es) [] pos) (tCall sp [] E t) := by
  obtain ⟨f, fd, g, kp, b, F⟩ := D.ex
  exact pe_call F hr hg g kp b .nil (passes_call tk hW) ha hdb he hpl
/-- f(e, ..) in a try: what it lets out is wished for at the slots -/
theorem pe_ds (D : Def X.prog X.w X.K X.mg X.base (L2.CX X.prog X.w) k x ps sp) (hr : Room k X.A) (tk : Takes X W) (ha : PA X (e :: es) t) (hg : Gl X x := by rfl) (hdb : (x == ("__debug__" : Str)) = false := by decide)
    (he : starEach (e :: es) X.env = (false, eval e X.env) :: starEach es X.env := by rfl) (hpl : (backTo pos (starEach es X.env)).any (·.1) = false := by rfl) : PE X (.Call (.Name x p) (e :: es) [] pos) (tCallS sp (WE W) t) := by
  obtain ⟨f, fd, g, kp, b, F⟩ := D.ex
  exact pe_callS F hr hg g kp b (fun σ => passAt tk σ) ha hdb he hpl
end

/-! ## a module's constants -/
section
variable {X : Cx} {x z : Str} {i : Int} {a : Addr} {t : Tok} {pos : Pos}
theorem pe_gs (hg : Gl X x) (hm : X.mg x = some (.str z t)) (hd : (x == ("__debug__" : Str)) = false := by decide) : PE X (.Name x pos) (tC (.str z)) := pe_glob hg hm ⟨t, rfl⟩ hd
theorem pe_gi (hg : Gl X x) (hm : X.mg x = some (.int i t)) (hd : (x == ("__debug__" : Str)) = false := by decide) : PE X (.Name x pos) (tC (.int i)) := pe_glob hg hm ⟨t, rfl⟩ hd
theorem pe_gr (hg : Gl X x) (hm : X.mg x = some (.ref a)) (hd : (x == ("__debug__" : Str)) = false := by decide) : PE X (.Name x pos) (tC (.ref a)) := pe_glob hg hm rfl hd
end
/-! ## X(), an own exception class without an own __init__ -/
section
variable {X : Cx} {C : Addr} {bmB : List Value} {B newId initId : String} {x : Str} {p pos : Pos}
theorem pmk_own0 (F : ExcBaseFacts B newId initId bmB) (q : PySem.W.excIn X.K C bmB newId = true) (gC : X.mg x = some (.ref C)) (kC : PySem.W.keepIn X.K (.ref C) = true) (r : Raises X (.ref C)) (hg : Gl X x)
    (hdb : (x == ("__debug__" : Str)) = false := by decide) : PMk X (.Call (.Name x p) [] [] pos) (fun _ H Q => Q (.ref C) none H) := by
  intro pins s σ H Q I h
  refine wpAny_Call_Name_kw (ld_glob I hg gC (PySem.W.callWith_K0 I.kIn kC ?_) hdb)
  obtain ⟨bm, N, nm, qn, bs, hdct, sn, sub, ab, col, dd, k0, k1, k2, k3, k5, mN, hC, hN, hni, T⟩ := exc_obj I.kIn q
  show wpAny _ _ (call (.ref C) []) _ _ _
  exact wpAny_call_exc_subT F T hC hN hni (fun h' e hm => mk_of I hm r h (I.hok.gone hm.new)) (Nat.zero_le _)
end

/-! ## Base.__init__(self, ..), Base an own class over ValueError without an own __init__ -/
/-- what the written part says of such a Base, at D -/
structure BaseC (K : PySem.W.Frag) (D : Addr) : Prop where
  rd : PySem.W.readsIn K D (.type "type") = true
  ga : PySem.W.specialIn K (.ref D) "__getattribute__" = some (some (.builtin "type.__getattribute__"))
  fd : PySem.W.findCls K (.ref D) (.type "type") "__init__" = some (.val (.builtin "ValueError.__init__"))
section
variable {X : Cx} {D : Addr} {b : Str} {e : Expr} {es : List Expr} {ta : TA} {p1 p2 pos : Pos}
theorem pe_binit {pl : Sem Bool} (hg : Gl X b) (hm : X.mg b = some (.ref D)) (T0 : BaseC X.K D) (ha : PA X (e :: es) ta) (hdb : (b == ("__debug__" : Str)) = false := by decide)
    (hc : eval (.Call (.Attribute (.Name b p1) "__init__" p2) (e :: es) [] pos) X.env = (do
      let ov ← eval (.Name b p1) X.env
      standAt p2.atName
      let (f, first) ← holding [ov] (getMethod ov "__init__" pl)
      callWith pos f first (backTo pos (starEach (e :: es) X.env)) (backToKw pos (keywordEach [] X.env))) := by rfl)
    (he : starEach (e :: es) X.env = (false, eval e X.env) :: starEach es X.env := by rfl) (hpl : (backTo pos (starEach es X.env)).any (·.1) = false := by rfl) :
    PE X (.Call (.Attribute (.Name b p1) "__init__" p2) (e :: es) [] pos) (tVeI X.K ta) := by
  refine ⟨fun pins s σ H Q I h => PySem.W.methodCall_KW (ld_glob I hg hm ?_ hdb) hc⟩
  refine PySem.W.method_cls I.kIn T0.ga (PySem.W.cls_value I.kIn T0.rd T0.fd (by decide +kernel) ?_)
  show wpAny _ _ (callWith pos (Value.builtin "ValueError.__init__") [] (backTo pos (starEach (e :: es) X.env)) []) _ _ _
  refine PyProof.Rows.callWith_method1 (thn (ha.run pos pins _ σ H _ (I.tok _) h) fun us s1 hh => ?_) he hpl
  obtain ⟨vs, H1, I1, r1, a, C, ws, ev, hl, T, ea, q⟩ := hh
  rw [ev] at r1
  cases r1 with
  | @cons _ u0 _ ur ra rt =>
    have e0 : u0 = Value.ref a := ra
    rw [e0]
    refine oinit_ok T I1 ea ?_ fun s' J => ⟨.non, H1, J, rfl, q⟩
    have := Paired.length rt
    rw [sizeLine_eq]
    omega
end
end K19

set_option Elab.async false
set_option linter.all false
set_option maxRecDepth 100000
set_option maxHeartbeats 4000000
/-! # W1: try: body, except A as n: .., except B as n: .. (each clause with a name) -/
namespace K19
open PySem PySem.Spec PyProof.Rows L2

/-- a clause: its class, its name's slot, its suite's reading -/
abbrev Cl := Value × Nat × (Addr → Value → Option Addr → TS)
/-- behind a clause its name is gone -/
def wiped (i : Nat) (D : Ends) : Ends := { nx := fun σ H => D.nx (σ.set i none) H, rt := D.rt, bk := fun σ H => D.bk (σ.set i none) H, ct := fun σ H => D.ct (σ.set i none) H }
/-- what the clauses, one after the other, wish of what the body lets out -/
def wAsM (K : PySem.W.Frag) (Wout : WX) (D : Ends) : List Cl → WX
  | [] => Wout
  | q :: r => fun cls d σ H => ∃ b, PySem.W.exmOne K cls q.1 = some b ∧ (b = true → ∀ a, H a = none → q.2.2 a cls d (wiped q.2.1 D) (σ.set q.2.1 (some (.ref a))) H) ∧ (b = false → wAsM K Wout D r cls d σ H)
inductive HdsAs (X : Cx) : List ExceptHandler → List Cl → Prop
  | nil : HdsAs X [] []
  | cons {x n : Str} {c : Value} {i : Nat} {ts : Addr → Value → Option Addr → TS} {b₀ : Stmt} {suite : List Stmt} {np pos' : Pos} {hds : List ExceptHandler} {l : List Cl} (hi : X.N[i]? = some n) (hln : X.env.kindOf n = some .local) (hc : Names X x c)
      (hsu : ∀ (a : Addr) (oe : Obj) (cls : Value) (d : Option Addr) (pn : List (Addr × Obj)), Zc cls d oe → (∃ vs, oe.data = .fields vs) → PSs (X.suite a ((a, oe) :: pn)) (b₀ :: suite) (ts a cls d)) (r : HdsAs X hds l) :
      HdsAs X (.ExceptHandler (some (.Name x np)) (some n) (b₀ :: suite) pos' :: hds) ((c, i, ts) :: l)
section
variable {X : Cx} {Wout : WX} {D : Ends}
/-- the clauses looked through, the exception at a lying on the ground -/
theorem clauses_ok (ok : X.Ok) (hs : X.stack = X.env :: X.outer) (hf : X.env.frame = some X.env.locals) (hN : X.N.Nodup) (tk : Takes X Wout) {pins : List (Addr × Obj)} {σ : St} {H : Hp} {sI s : Shared} {a : Addr} {B : Heap} {cls : Value} {d : Option Addr}
    (J : Inv X pins σ H sI) (nb : ∀ b o, sI.heap.get? b = some o → b ∉ frs X.stack → B.get? b = some o) (up : sI.heap.UpToSlots s.heap) (fl : HandSPX.FlyingZ B (X.env :: X.outer) a (Zc cls d) s.heap) (na : H a = none) (os : s.os = sI.os) (ag : AllBare s.gens) :
    ∀ {hds : List ExceptHandler} {l : List Cl}, HdsAs X hds l → wAsM X.K Wout D l cls d σ H → wpAny (model X.prog X.w) X.A (handleBy (.ref a) X.env hds) (SP X pins D) X.xe s := by
  have there := fl.there
  obtain ⟨oe, vs, he, hz, hd⟩ := there
  have notFr : ∀ {h : Heap} {o : Obj} {ws : Array Value}, h.FunFrames B (X.env :: X.outer) → h.get? a = some o → o.data = .fields ws → a ∉ frs (X.env :: X.outer) := fun ff e dd hm => by
    obtain ⟨_, o', e', hnf⟩ := ff.mem hm
    rw [e] at e'
    cases e'
    exact hnf _ dd
  have nfr := notFr fl.2.2.1 he hd
  have nL : a ≠ X.env.locals := fun z => nfr (List.mem_filterMap.mpr ⟨X.env, List.mem_cons_self, by rw [hf, z]⟩)
  have nF : a ∉ X.fs := fun hm => by
    obtain ⟨e, hin, q⟩ := List.mem_filterMap.mp hm
    exact nfr (List.mem_filterMap.mpr ⟨e, List.mem_cons_of_mem _ hin, q⟩)
  have J3 : Inv X pins σ H s := J.landed nb fl.1 up os ag
  have S3 := J3.suite he hd na nL nF
  intro hds l hk
  induction hk with
  | nil =>
    intro w
    have w : Wout cls d σ H := w
    refine wpAny_handleBy_nil ?_
    obtain ⟨_, _, _, oe', vs', T, oT, ts', he', hz', hd', h1', hr'⟩ := id fl
    unfold PySem.passOn
    refine wpAny_bind (wpAny_field he' hd' h1' ?_)
    rw [if_neg (show ¬ ((Value.ref T == Value.none) = true) from by simp)]
    have fin : wpAny (model X.prog X.w) X.A (setFlight (.ref a) X.env.frame) (fun _ s4 => wpAny (model X.prog X.w) X.A (throw (.ref a) : Sem Flow) (SP X pins D) X.xe s4) X.xe s := by
      rw [hf]
      exact HandSPX.setFlight_upZ fl fun h4 hh4 up4 => wpAny_throw (tk _ _ ⟨a, B, sI, pins, σ, H, cls, d, rfl, J, nb, up.trans up4, .inr (.inr (by rw [hs]; exact hh4)), na, os, ag, w⟩)
    first
      | exact wpAny_bind (wpAny_pure (wpAny_bind fin))
      | exact wpAny_bind fin
  | @cons x n c i ts b₀ suite np pos' hds2 l2 hi hln hc hsu r ih =>
    rintro ⟨b, hb1, hyes, hno⟩
    refine wpAny_handleBy_cons (codeAny_handlers_test ?_) (by intro q; cases q)
    have LT : PySem.W.Looks (model X.prog X.w) s.heap (typeOf (.ref a)) cls := fun A Q E s' k q => wpAny_typeOf_ref (k _ _ he) (by rw [hz.1]; exact q)
    have LM := PySem.W.exm_one (M := model X.prog X.w) J3.kIn LT hb1
    have test : ∀ {Q : Value → Shared → Prop} {E : Value → Shared → Prop}, Q c s → wpAny (model X.prog X.w) (X.A.mark (some (.ref a))) (eval (.Name x np) X.env) Q E s := fun q => by
      obtain ⟨hg, hdbg, hm | ⟨hm, hv, hnn⟩⟩ := hc
      · exact ld_glob (X := X.suite a ((a, oe) :: (X.pn ++ pins))) S3 hg hm q hdbg
      · exact ld_blt (X := X.suite a ((a, oe) :: (X.pn ++ pins))) S3 hg hm hv q hnn hdbg
    refine test (LM.here ?_)
    cases b with
    | false =>
      show wpAny _ X.A (handleBy (.ref a) X.env hds2) _ _ _
      exact ih (hno rfl)
    | true =>
      refine codeAny_handlers_suite_as (HandSPX.lands_againZ fl fun h4 fl4 up4 => ?_)
      have J4 : Inv X pins σ H { s with heap := h4 } := J.landed nb fl4.1 (up.trans up4) os ag
      obtain ⟨oe4, vs4, he4, hz4, hd4⟩ := fl4.there
      have S4 := J4.suite he4 hd4 na nL nF
      refine store_ok (X := X.suite a ((a, oe4) :: (X.pn ++ pins))) (v := .ref a) S4 hN hi (.inl hln) rfl (fun s5 S5 => ?_) (.inr hln)
      have end_ : ∀ {s6 : Shared} {σ6 : St} {H6 : Hp} {Q : Shared → Prop}, Inv (X.suite a ((a, oe4) :: (X.pn ++ pins))) [] σ6 H6 s6 → (∀ s7, Inv X pins (σ6.set i none) H6 s7 → Q s7) →
          wpAny (model X.prog X.w) X.A (do bindName X.env n .none; unbindBehindTheSuite X.env n pos') (fun _ s7 => Q s7) X.xe s6 := fun S6 hq => gone_ok (S6.unsuite ok) hN hi hln hq
      refine wpAny_mono ((hsu a oe4 cls d (X.pn ++ pins) hz4 ⟨_, hd4⟩).run [] s5 _ H _ S5 (hyes rfl a na)) (fun f s6 hsp => ?_) (fun _ _ z => False.elim z)
      cases f with
      | ret u =>
        obtain ⟨v6, σ6, H6, S6, r6, q6⟩ := hsp
        exact end_ S6 fun s7 J7 => ⟨_, _, _, J7, r6, q6⟩
      | next =>
        obtain ⟨σ6, H6, S6, q6⟩ := hsp
        exact end_ S6 fun s7 J7 => ⟨_, _, J7, q6⟩
      | brk =>
        obtain ⟨σ6, H6, S6, q6⟩ := hsp
        exact end_ S6 fun s7 J7 => ⟨_, _, J7, q6⟩
      | cont =>
        obtain ⟨σ6, H6, S6, q6⟩ := hsp
        exact end_ S6 fun s7 J7 => ⟨_, _, J7, q6⟩
variable {body : List Stmt} {h₀ : ExceptHandler} {hds : List ExceptHandler} {l : List Cl} {pos : Pos} {tb : WX → TS}
theorem ps_try_asM (hs : X.stack = X.env :: X.outer) (hf : X.env.frame = some X.env.locals) (hN : X.N.Nodup) (tk : Takes X Wout)
    (hb : ∀ (W : WX) (pn : List (Addr × Obj)) (xe : Value → Shared → Prop), Takes (X.tr pn xe) W → PassesOwn (model X.prog X.w) X.A X.env xe → PSs (X.tr pn xe) body (tb W))
    (hh : HdsAs X (h₀ :: hds) l) : PS X (.Try body (h₀ :: hds) [] [] pos) (fun D σ H => tb (wAsM X.K Wout D l) D σ H) := by
  refine ⟨fun pins s σ H D I h => ?_⟩
  have ok := I.ok
  have hfr : X.A.frames = some (X.env :: X.outer) := by rw [ok.frames, hs]
  refine wpAny_Try_except ?_
  refine wpAny_mono ((hb (wAsM X.K Wout D l) (X.pn ++ pins) (fun e s₁ => wpAny (model X.prog X.w) X.A (noteFrame e X.env) (fun _ s₂ => wpAny (model X.prog X.w) X.A (setFlight e none) (fun _ s₃ =>
    wpAny (model X.prog X.w) X.A (handleBy e X.env (h₀ :: hds)) (SP X pins D) X.xe s₃) X.xe s₂) X.xe s₁) (fun u s' xx => ?_) PassesOwn.looking).run [] s σ H D (I.toTry _) h) (fun f s1 hsp => ?_) (fun e s1 he => he)
  · obtain ⟨a, B, sI, pins', σ', H', cls, d, rfl, J', nb, up, sky, na, os, ag, w⟩ := xx
    have J : Inv X pins σ' H' sI := J'.ofTry ok
    have sky' : Sky B (X.env :: X.outer) a (Zc cls d) X.env.locals s'.heap := by rw [← hs]; exact sky
    show wpAny (model X.prog X.w) X.A (noteFrame (.ref a) X.env) _ _ _
    exact Sky.land Zc.steady hfr hf sky' fun h3 fl3 up3 => clauses_ok ok hs hf hN tk J nb (s := { s' with heap := h3 }) (up.trans up3) fl3 na os ag hh w
  · cases f with
    | ret u =>
      obtain ⟨v, σ', H', J', r, q⟩ := hsp
      exact ⟨v, σ', H', J'.ofTry ok, r, q⟩
    | next =>
      obtain ⟨σ', H', J', q⟩ := hsp
      exact wpAny_execs_nil ⟨σ', H', J'.ofTry ok, q⟩
    | brk =>
      obtain ⟨σ', H', J', q⟩ := hsp
      exact ⟨σ', H', J'.ofTry ok, q⟩
    | cont =>
      obtain ⟨σ', H', J', q⟩ := hsp
      exact ⟨σ', H', J'.ofTry ok, q⟩
end
end K19

set_option Elab.async false
set_option linter.all false
set_option maxRecDepth 100000
set_option maxHeartbeats 4000000
/-! # T1: what the walks lean on: the text behind its top -/
namespace K19
open PySem PySem.Spec PyProof.Rows L2

/-- the defs of the top without defaults, by their places -/
def dTab : List (Str × Nat) := [("number_of", 20), ("expr_at", 21), ("cond_at", 22), ("read_expr", 23), ("read_cond", 24), ("is_name", 28), ("is_from", 29), ("is_expr", 30), ("is_cond", 31), ("is_share", 32), ("is_slide", 33), ("is_rest", 34), ("many_froms", 35), ("row_of", 36), ("read_works", 37), ("shown_works", 38)]
def lTab : List (Str × Nat) := [("_law_cell_at", 40), ("_law_cells", 41), ("_law_drawn", 42), ("_law_leaf", 43), ("_law_expr", 44), ("_law_cond", 45), ("_law_name", 46), ("_law_row", 47), ("_law_digits", 48), ("_law_leaf_from", 49), ("_law_expr_from", 50), ("_law_cond_from", 51), ("_law_row_from", 52), ("_law_rows", 53), ("_law_line", 54), ("_law_sign_in", 55), ("_law_changed", 56), ("_law_told", 57), ("_law_froms", 58), ("_law_misnamed", 59), ("_law_read", 60), ("law", 61)]
/-- built-in names that the text uses and does not bind -/
def bTab : List Str := ["len", "int", "str", "tuple", "list", "range", "enumerate", "any", "min", "dict", "isinstance", "bool"]
/-- the classes of expressions: their fields, their __init__ (by place and by the name that it bears) -/
structure ClD where
  c : Str
  fs : List Str
  st : Stmt
  q : Str
def cTab : List ClD := [⟨"Number", ["number"], inClass (topS 11) 0, "Number.__init__"⟩, ⟨"Letter", ["letter"], inClass (topS 12) 0, "Letter.__init__"⟩, ⟨"Sign", ["sign", "left", "right"], inClass (topS 13) 0, "Sign.__init__"⟩,
  ⟨"Less", ["left", "right"], inClass (topS 15) 0, "Less.__init__"⟩, ⟨"Same", ["left", "right"], inClass (topS 15) 0, "Less.__init__"⟩, ⟨"Turned", ["part"], inClass (topS 17) 0, "Turned.__init__"⟩, ⟨"Both", ["sign", "left", "right"], inClass (topS 18) 0, "Both.__init__"⟩]
/-- an own class as it stands: where, what of it is asked, its __init__ -/
structure ClT (K : PySem.W.Frag) (mg : Str → Option Value) (d : ClD) : Prop where
  g : mg d.c = some (.ref (He.ga K d.c))
  cl : Cls K (He.ga K d.c)
  mak : Mk K (He.ga K d.c) (He.ma K (He.ga K d.c) "__init__")
  no : ∀ f ∈ d.fs, NoAttr K (He.ga K d.c) f
  fn : ∃ fd, FunD K "__init__" d.q (defArgs d.st) (defBody d.st) (defScope d.st) [] [] (He.ma K (He.ga K d.c) "__init__") fd
/-- an own exception class with an __init__ (at st, called q there) that stores `at` -/
structure ExT (K : PySem.W.Frag) (mg : Str → Option Value) (c : Str) (st : Stmt) (q : Str) : Prop where
  g : mg c = some (.ref (He.ga K c))
  ox : OexC K (He.ga K c)
  xf : XfC K (He.ga K c)
  no : PySem.W.findIn K (.ref (He.ga K c)) "at" = some none
  iC : PySem.W.findIn K (.ref (He.ga K c)) "__init__" = some (some (.ref (He.ma K (He.ga K c) "__init__")))
  tI : PySem.W.typeIn K (.ref (He.ma K (He.ga K c) "__init__")) = some (.type "function")
  fn : ∃ fd, FunD K "__init__" q (defArgs st) (defBody st) (defScope st) [] [] (He.ma K (He.ga K c) "__init__") fd
structure Txt (K : PySem.W.Frag) (w : World) (mg : Str → Option Value) : Prop where
  free : ∀ x ∈ bTab, mg x = none
  fn : ∀ q ∈ dTab, ∃ (f : Addr) (fd : FuncData), mg q.1 = some (.ref f) ∧ FnP K q.1 (topS q.2) f fd
  fl : ∀ q ∈ lTab, ∃ (f : Addr) (fd : FuncData), mg q.1 = some (.ref f) ∧ FnP K q.1 (topS q.2) f fd
  count : ∃ (f : Addr) (fd : FuncData), mg "is_count" = some (.ref f) ∧ FunD K "is_count" "is_count" (defArgs (topS 19)) (defBody (topS 19)) (defScope (topS 19)) [.int 20] [] f fd
  letters : ∃ t, mg "LETTERS" = some (.str (Str.ofString "abcdefghijklmnopqrstuvwxyz") t)
  figures : ∃ t, mg "FIGURES" = some (.str (Str.ofString "0123456789") t)
  most : ∃ t, mg "MOST_TIME" = some (.int 1000000000000 t)
  signs : ∃ a, mg "SIGNS" = some (.ref a) ∧ ∀ H : Hp, SqT K H a (sgs.map V.str)
  folds : ∃ a, mg "FOLDS" = some (.ref a) ∧ ∀ H : Hp, SqT K H a (K19.folds.map V.str)
  froms : ∃ a es n, mg "FROMS" = some (.ref a) ∧ KDict K w a es n ∧ (∀ q ∈ fromsT, ∃ t, PySem.W.nsIn K a q.1 = some (some (.int (q.2 : Int) t))) ∧ ∀ x, fromsT.lookup x = none → PySem.W.nsIn K a x = some none
  cl : ∀ d ∈ cTab, ClT K mg d
  base : mg "DamError" = some (.ref (He.ga K "DamError")) ∧ BaseC K (He.ga K "DamError")
  nx : mg "NoExpr" = some (.ref (He.ga K "NoExpr")) ∧ PySem.W.excIn K (He.ga K "NoExpr") He.veBase "ValueError.__new__" = true ∧ PySem.W.keepIn K (.ref (He.ga K "NoExpr")) = true ∧ PySem.W.subIn K (.ref (He.ga K "NoExpr")) (.type "BaseException") = some true ∧
    PySem.W.typeIn K (.ref (He.ga K "NoExpr")) = some (.type "type")
  tx : ExT K mg "NoText" (inClass (topS 3) 0) "NoText.__init__"
  nm : ExT K mg "NoName" (inClass (topS 4) 0) "NoName.__init__"
  exx : PySem.W.exmOne K (.ref (He.ga K "NoExpr")) (.ref (He.ga K "NoExpr")) = some true
  ett : PySem.W.exmOne K (.ref (He.ga K "NoText")) (.ref (He.ga K "NoText")) = some true
  ent : PySem.W.exmOne K (.ref (He.ga K "NoName")) (.ref (He.ga K "NoText")) = some false
  enn : PySem.W.exmOne K (.ref (He.ga K "NoName")) (.ref (He.ga K "NoName")) = some true
end K19

set_option Elab.async false
set_option linter.all false
set_option maxRecDepth 100000
set_option maxHeartbeats 0
/-! # H1: what the head must tell, as Bools -/
namespace K19
open PySem PySem.Spec PyProof.Rows L2
theorem baH {a b : Bool} (h : (a && b) = true) : a = true ∧ b = true := Bool.and_eq_true_iff.mp h
def oexB (K : PySem.W.Frag) (C : Addr) : Bool := (match K.lookup C with
  | some ⟨.type c, _, .cls cd, sl⟩ => (match cd.mro, sl.toList with
    | .ref C' :: bm, [_, _, _, _, some (.builtin n), _] => decide (c = "type") && (decide (C' = C) && (decide (n = "ValueError.__new__") && (!cd.hasDel && (cd.hasDict && PySem.HandSPX.refsVE bm))))
    | _, _ => false)
  | _ => false) && (decide (PySem.W.findIn K (.ref C) "__setattr__" = some (some (.builtin "object.__setattr__"))) && (decide (PySem.W.subIn K (.ref C) (.type "BaseException") = some true) && (decide (PySem.W.typeIn K (.ref C) = some (.type "type")) && PySem.W.keepIn K (.ref C))))
theorem oexB_ok {K : PySem.W.Frag} {C : Addr} (h : oexB K C = true) : OexC K C := by
  obtain ⟨h0, h⟩ := baH h
  obtain ⟨h1, h⟩ := baH h
  obtain ⟨h2, h⟩ := baH h
  obtain ⟨h3, h4⟩ := baH h
  refine ⟨?_, of_decide_eq_true h1, of_decide_eq_true h2, of_decide_eq_true h3, h4⟩
  split at h0
  · rename_i c dd cd sl ho
    split at h0
    · rename_i C' bm k0 k1 k2 k3 n k5 hm hs
      obtain ⟨g0, g⟩ := baH h0
      obtain ⟨g1, g⟩ := baH g
      obtain ⟨g2, g⟩ := baH g
      obtain ⟨g3, g⟩ := baH g
      obtain ⟨g4, g5⟩ := baH g
      obtain ⟨nm, bs, mro, ns, qn, hd, sn, sub, ab, col, del⟩ := cd
      dsimp only at hm g3 g4
      have e0 := of_decide_eq_true g0
      have e1 := of_decide_eq_true g1
      have e2 := of_decide_eq_true g2
      have e3 : del = false := by cases del <;> simp_all
      subst hm e0 e1 e2 e3 g4
      have hsl : sl = #[k0, k1, k2, k3, some (.builtin "ValueError.__new__"), k5] := by
        obtain ⟨l⟩ := sl
        simp only at hs
        rw [hs]
      subst hsl
      exact ⟨nm, qn, ns, bs, bm, sn, sub, ab, col, dd, k0, k1, k2, k3, k5, ho, g5⟩
    · cases h0
  · cases h0
def baseB (K : PySem.W.Frag) (D : Addr) : Bool := PySem.W.readsIn K D (.type "type") && (decide (PySem.W.specialIn K (.ref D) "__getattribute__" = some (some (.builtin "type.__getattribute__"))) && (match PySem.W.findCls K (.ref D) (.type "type") "__init__" with
  | some (.val (.builtin s)) => decide (s = "ValueError.__init__")
  | _ => false))
theorem baseB_ok {K : PySem.W.Frag} {D : Addr} (h : baseB K D = true) : BaseC K D := by
  obtain ⟨h0, h⟩ := baH h
  obtain ⟨h1, h2⟩ := baH h
  refine ⟨h0, of_decide_eq_true h1, ?_⟩
  split at h2
  · rename_i s e
    rw [e, of_decide_eq_true h2]
  · cases h2
/-- the rest of what an own exception class with an __init__ needs -/
def extB (K : PySem.W.Frag) (c : Str) : Bool := oexB K (He.ga K c) && (xfB K (He.ga K c) && (decide (PySem.W.findIn K (.ref (He.ga K c)) "at" = some none) && (decide (PySem.W.findIn K (.ref (He.ga K c)) "__init__" = some (some (.ref (He.ma K (He.ga K c) "__init__")))) && decide (PySem.W.typeIn K (.ref (He.ma K (He.ga K c) "__init__")) = some (.type "function")))))
/-- keys that a written dict does not hold -/
theorem ns_none {K : PySem.W.Frag} {w : World} {a : Addr} {ks : List Str} {x : Str} (h : He.dicW K a = some (He.keysIn w.params ks)) (hx : x ∉ ks) : PySem.W.nsIn K a x = some none := by
  unfold He.dicW at h
  split at h
  · rename_i c es n sl ho
    split at h
    · have h := Option.some.inj h
      have key : ∀ {l : List DictEntry} {ks : List Str}, l.map He.keyOf = He.keysIn w.params ks → x ∉ ks → l.find? (·.key.isStr x) = none ∧ l.any (·.refKey) = false := by
        intro l
        induction l with
        | nil => intro ks _ _; exact ⟨rfl, rfl⟩
        | cons e r ih =>
          intro ks h hx
          cases ks with
          | nil => cases h
          | cons k ks =>
            have h1 : He.keyOf e :: r.map He.keyOf = some (k, PyData.keyHash w.params k) :: He.keysIn w.params ks := h
            injection h1 with h2 h3
            obtain ⟨i1, i2⟩ := ih h3 (fun hm => hx (List.mem_cons_of_mem _ hm))
            unfold He.keyOf at h2
            split at h2
            · rename_i y t q
              have h4 := Option.some.inj h2
              obtain ⟨h5, h6⟩ := Prod.mk.inj h4
              have hne : y ≠ x := fun e => hx (by rw [← e, h5]; exact List.mem_cons_self)
              have f1 : e.key.isStr x = false := by
                rw [q]
                show (y == x) = false
                exact beq_eq_false_iff_ne.mpr hne
              have f2 : e.refKey = false := by
                unfold DictEntry.refKey
                rw [q]
              refine ⟨?_, ?_⟩
              · rw [List.find?_cons, f1]
                exact i1
              · rw [List.any_cons, f2, i2]
                rfl
            · cases h2
      obtain ⟨k1, k2⟩ := key h hx
      unfold PySem.W.nsIn
      rw [ho]
      dsimp only
      rw [k1, k2]
      rfl
    · cases h
  · cases h
end K19

set_option Elab.async false
set_option linter.all false
set_option maxRecDepth 100000
set_option maxHeartbeats 0
/-! # H2: what the head tells is what the walks lean on -/
namespace K19
open PySem PySem.Spec PyProof.Rows L2
def dOf (q : Str × Nat) : He.DefD := ⟨(q.1, none), q.1, q.1, defArgs (topS q.2), defBody (topS q.2), defScope (topS q.2), [], []⟩
def dCl (d : ClD) : He.DefD := ⟨(d.c, some "__init__"), "__init__", d.q, defArgs d.st, defBody d.st, defScope d.st, [], []⟩
def dCount : He.DefD := ⟨("is_count", none), "is_count", "is_count", defArgs (topS 19), defBody (topS 19), defScope (topS 19), [.int 20], []⟩
def xTab : List ClD := [⟨"NoText", [], inClass (topS 3) 0, "NoText.__init__"⟩, ⟨"NoName", [], inClass (topS 4) 0, "NoName.__init__"⟩]
def fn : List He.DefD := dTab.map dOf ++ (lTab.map dOf ++ (cTab.map dCl ++ (xTab.map dCl ++ [dCount])))
def faC (d : ClD) : List He.Fa := [.glo d.c, .cls d.c, .mkr d.c] ++ d.fs.map fun f => .noat d.c f
def faR : List He.Fa := [.glo "is_count", .str "LETTERS" (Str.ofString "abcdefghijklmnopqrstuvwxyz"), .str "FIGURES" (Str.ofString "0123456789"), .int "MOST_TIME" 1000000000000, .glo "SIGNS", .glo "FOLDS", .glo "FROMS", .glo "DamError", .glo "NoExpr", .exc "NoExpr", .glo "NoText", .glo "NoName",
  .exm "NoExpr" "NoExpr" true, .exm "NoText" "NoText" true, .exm "NoName" "NoText" false, .exm "NoName" "NoName" true]
def fa : List He.Fa := bTab.map He.Fa.free ++ (dTab.map (fun q => He.Fa.glo q.1) ++ (lTab.map (fun q => He.Fa.glo q.1) ++ (cTab.flatMap faC ++ faR)))
def keysF : List Str := fromsT.map (·.1)
def ts : List He.Tab := [(fun K => He.ga K "FROMS", keysF)]
def ex (K : PySem.W.Frag) : Bool := He.tupB K "SIGNS" (sgs.map He.Dv.str) && (He.tupB K "FOLDS" (folds.map He.Dv.str) && (He.valsB K (He.ga K "FROMS") (fromsT.map fun q => (q.1, He.Dv.int (q.2 : Int))) && (baseB K (He.ga K "DamError") && (extB K "NoText" && extB K "NoName"))))
/-- the part that is looked at: what the module's names reach, and the statics -/
def asH (g : Addr → Option Obj) : List Addr := cStatics :: He.asD g 4
def obsH (g : Addr → Option Obj) : He.AlX := (He.obsT fa fn ts (He.frT g (asH g)), ex (He.frT g (asH g)))
def hk : PySem.W.Hook where
  α := He.AlX
  obs := fun s => obsH s.heap.get?
  val := fun w => He.valX fn ts w
  says := fun w h => ∃ K : PySem.W.Frag, K.In h ∧ He.SaysT fa fn ts w K ∧ ex K = true
  of := fun _ _ e => ⟨_, He.frT_in, congrArg (fun z : He.AlX => z.1) e, congrArg (fun z : He.AlX => z.2) e⟩
  keeps := fun _ _ _ ⟨K, hK, c⟩ k => ⟨K, PySem.W.Frag.In.keeps hK k, c⟩
theorem obsH_eq {g : Addr → Option Obj} {s : Shared} (h : ∀ a, g a = s.heap.get? a) : obsH g = hk.obs s := by
  have e : g = s.heap.get? := funext h
  rw [e]
  rfl
theorem in1 {f : He.Fa} (h : f ∈ bTab.map He.Fa.free) : f ∈ fa := List.mem_append.mpr (.inl h)
theorem in2 {f : He.Fa} (h : f ∈ dTab.map fun q => He.Fa.glo q.1) : f ∈ fa := List.mem_append.mpr (.inr (List.mem_append.mpr (.inl h)))
theorem in3 {f : He.Fa} (h : f ∈ lTab.map fun q => He.Fa.glo q.1) : f ∈ fa := List.mem_append.mpr (.inr (List.mem_append.mpr (.inr (List.mem_append.mpr (.inl h)))))
theorem in4 {f : He.Fa} (h : f ∈ cTab.flatMap faC) : f ∈ fa := List.mem_append.mpr (.inr (List.mem_append.mpr (.inr (List.mem_append.mpr (.inr (List.mem_append.mpr (.inl h)))))))
theorem in5 {f : He.Fa} (i : Nat) (h : faR[i]? = some f) : f ∈ fa := List.mem_append.mpr (.inr (List.mem_append.mpr (.inr (List.mem_append.mpr (.inr (List.mem_append.mpr (.inr (List.mem_of_getElem? h))))))))
theorem froms_out {x : Str} (h : fromsT.lookup x = none) : x ∉ keysF := fun hm => by
  obtain ⟨q, hq, e⟩ := List.mem_map.mp hm
  have : ∀ {l : List (Str × Nat)}, l.lookup x = none → ∀ q ∈ l, q.1 ≠ x := by
    intro l
    induction l with
    | nil => intro _ q hq; cases hq
    | cons a r ih =>
      intro h q hq
      rw [List.lookup_cons] at h
      by_cases e : x = a.1
      · rw [e, beq_self_eq_true] at h
        cases h
      · rw [beq_eq_false_iff_ne.mpr e] at h
        rcases List.mem_cons.mp hq with rfl | hq
        · exact fun z => e z.symm
        · exact ih h q hq
  exact this h q hq e
theorem txt_of {w : World} {h : Heap} {K : PySem.W.Frag} {mg : Str → Option Value} (X : K.In h) (G : h.Ns mainGlobals mg) (ct : He.SaysT fa fn ts w K) (cm : ex K = true) : Txt K w mg := by
  have D := ct.d
  obtain ⟨m1, m⟩ := baH cm
  obtain ⟨m2, m⟩ := baH m
  obtain ⟨m3, m⟩ := baH m
  obtain ⟨m4, m⟩ := baH m
  obtain ⟨m5, m6⟩ := baH m
  have gl := fun (i : Nat) (x : Str) (e : faR[i]? = some (.glo x)) => He.glo_ok X G (D.facts (in5 i e))
  have xt : ∀ d ∈ xTab, extB K d.c = true → mg d.c = some (.ref (He.ga K d.c)) → ExT K mg d.c d.st d.q := fun d hd hb g => by
    obtain ⟨h1, hb⟩ := baH hb
    obtain ⟨h2, hb⟩ := baH hb
    obtain ⟨h3, hb⟩ := baH hb
    obtain ⟨h4, h5⟩ := baH hb
    obtain ⟨fd, F⟩ := D.defs (d := dCl d) (List.mem_append.mpr (.inr (List.mem_append.mpr (.inr (List.mem_append.mpr (.inr (List.mem_append.mpr (.inl (List.mem_map.mpr ⟨d, hd, rfl⟩)))))))))
    exact ⟨g, oexB_ok h1, xfB_ok h2, of_decide_eq_true h3, of_decide_eq_true h4, of_decide_eq_true h5, fd, F⟩
  refine ⟨fun x hx => ?_, fun q hq => ?_, fun q hq => ?_, ?_, ?_, ?_, ?_, ?_, ?_, ?_, fun d hd => ?_, ?_, ?_, ?_, ?_, ?_, ?_, ?_, ?_⟩
  · exact He.free_ok X G (D.facts (in1 (List.mem_map.mpr ⟨x, hx, rfl⟩)))
  · obtain ⟨fd, F⟩ := D.defs (d := dOf q) (List.mem_append.mpr (.inl (List.mem_map.mpr ⟨q, hq, rfl⟩)))
    exact ⟨_, fd, He.glo_ok X G (D.facts (in2 (List.mem_map.mpr ⟨q, hq, rfl⟩))), F⟩
  · obtain ⟨fd, F⟩ := D.defs (d := dOf q) (List.mem_append.mpr (.inr (List.mem_append.mpr (.inl (List.mem_map.mpr ⟨q, hq, rfl⟩)))))
    exact ⟨_, fd, He.glo_ok X G (D.facts (in3 (List.mem_map.mpr ⟨q, hq, rfl⟩))), F⟩
  · obtain ⟨fd, F⟩ := D.defs (d := dCount) (List.mem_append.mpr (.inr (List.mem_append.mpr (.inr (List.mem_append.mpr (.inr (List.mem_append.mpr (.inr List.mem_cons_self))))))))
    exact ⟨_, fd, gl 0 _ rfl, F⟩
  · exact He.str_ok X G (D.facts (in5 1 rfl))
  · exact He.str_ok X G (D.facts (in5 2 rfl))
  · exact He.int_ok X G (D.facts (in5 3 rfl))
  · exact ⟨_, gl 4 _ rfl, fun H => He.tupB_ok m1 H⟩
  · exact ⟨_, gl 5 _ rfl, fun H => He.tupB_ok m2 H⟩
  · obtain ⟨es, n, kd⟩ := ct.tab 0 (t := (fun K => He.ga K "FROMS", keysF)) rfl
    refine ⟨_, es, n, gl 6 _ rfl, kd, fun q hq => ?_, fun x hx => ?_⟩
    · obtain ⟨u, e, r⟩ := He.valsB_ok m3 (q := (q.1, He.Dv.int (q.2 : Int))) (List.mem_map.mpr ⟨q, hq, rfl⟩)
      obtain ⟨t, rfl⟩ := r
      exact ⟨t, e⟩
    · have e : ts.map (fun t => He.dicW K (t.1 K)) = ts.map fun t => some (He.keysIn w.params t.2) := congrArg (fun z : He.AlT => z.2) ct
      have e2 : He.dicW K (He.ga K "FROMS") = some (He.keysIn w.params keysF) := (List.cons.inj e).1
      exact ns_none e2 (froms_out hx)
  · have hm : ∀ f ∈ faC d, f ∈ fa := fun f hf => in4 (List.mem_flatMap.mpr ⟨d, hd, hf⟩)
    obtain ⟨fd, F⟩ := D.defs (d := dCl d) (List.mem_append.mpr (.inr (List.mem_append.mpr (.inr (List.mem_append.mpr (.inl (List.mem_map.mpr ⟨d, hd, rfl⟩)))))))
    exact ⟨He.glo_ok X G (D.facts (hm _ (.head _))), He.cls_ok (D.facts (hm _ (.tail _ (.head _)))), He.mkr_ok (D.facts (hm _ (.tail _ (.tail _ (.head _))))),
      fun f hf => He.noat_ok (D.facts (hm (.noat d.c f) (.tail _ (.tail _ (.tail _ (List.mem_map.mpr ⟨f, hf, rfl⟩)))))), fd, F⟩
  · exact ⟨gl 7 _ rfl, baseB_ok m4⟩
  · exact ⟨gl 8 _ rfl, He.exc_ok (D.facts (in5 9 rfl))⟩
  · exact xt _ (.head _) m5 (gl 10 _ rfl)
  · exact xt _ (.tail _ (.head _)) m6 (gl 11 _ rfl)
  · exact He.exm_ok (D.facts (in5 12 rfl))
  · exact He.exm_ok (D.facts (in5 13 rfl))
  · exact He.exm_ok (D.facts (in5 14 rfl))
  · exact He.exm_ok (D.facts (in5 15 rfl))
end K19

set_option Elab.async false
set_option linter.all false
set_option maxRecDepth 100000
set_option maxHeartbeats 0
/-! # H3: the head, run -/
namespace K19
open PySem PySem.Spec PyProof.Rows L2
abbrev R : PySem.W.OpenRow := PySem.W.OpenLaw.row PySem.Challenge.rw_rowdam_k19_whole_texts
def ob (s : PySem.W.SharedT) : He.AlX := obsH (HandSHeadRun.getT s)
theorem ob_eq (s : PySem.W.SharedT) : ob s = hk.obs s.abs := obsH_eq (HandSHeadRun.getT_eq s)
def nm1 : List PySem.Str := ["DamError", "NoExpr", "NoText", "NoName", "LETTERS", "MOST_TIME", "FIGURES", "SIGNS", "Expr", "Number", "Letter", "Sign", "Cond", "Less", "Same", "Turned", "Both", "is_count", "number_of", "expr_at", "cond_at", "read_expr", "read_cond", "FROMS", "FOLDS"]
def nm2 : List PySem.Str := ["is_name", "is_from", "is_expr", "is_cond", "is_share", "is_slide", "is_rest", "many_froms", "row_of", "read_works", "shown_works"]
def nm3 : List PySem.Str := ["_law_cell_at", "_law_cells", "_law_drawn", "_law_leaf", "_law_expr", "_law_cond", "_law_name", "_law_row", "_law_digits", "_law_leaf_from", "_law_expr_from", "_law_cond_from", "_law_row_from", "_law_rows", "_law_line", "_law_sign_in", "_law_changed", "_law_told", "_law_froms", "_law_misnamed", "_law_read"]
abbrev runs (w : World) : Prop := HandSHeadRun.RunEq R (PySem.W.view R.prog [61]) hk ob 8000 (nm1 ++ nm2 ++ nm3) w
theorem run_f (w : World) : runs (w.withFollow "special-get-raises" false) := by
  intro os
  kernel_rfl
theorem run_t (w : World) : runs (w.withFollow "special-get-raises" true) := by
  intro os
  kernel_rfl
theorem run (w : World) : runs w := PySem.W.byRow2 "special-get-raises" (P := runs) run_f run_t w
end K19

set_option Elab.async false
set_option linter.all false
set_option maxRecDepth 100000
set_option maxHeartbeats 4000000
/-! # A1: is_name -/
namespace K19
open PySem PySem.Spec PyProof.Rows L2
theorem pw_short {w : Str} (h : w.length ≤ 1000000) : w.length ≤ sizeLine := Nat.le_trans h (by decide)
theorem at0 {w : Str} {c : Nat} {r : List Nat} (e : TL.tl w = c :: r) : atI w.cps.toList (0 : Int) = some c := by
  have e2 : w.cps.toList = c :: r := e
  rw [e2]
  exact atI_nat (j := 0) rfl
theorem str_ne {w : Str} {c : Nat} {r : List Nat} (e : TL.tl w = c :: r) : w ≠ Str.ofString "" := fun z => by
  rw [z, show TL.tl (Str.ofString "") = [] by decide +kernel] at e
  cases e
theorem str_nil {w : Str} (e : TL.tl w = []) : w = Str.ofString "" := TL.ext_tl (by rw [e]; decide +kernel)
section
variable {P : Program} {w : World} {K : PySem.W.Frag} {mg : Str → Option Value} {base : Heap}
def spName : Sp := fun vs H Q _ => ∃ z : Str, vs = [.str z] ∧ z.length ≤ 1000000 ∧ Q (.bl (isName z)) H
theorem sc_is_name : FnScope ["word", "sign"] ["word"] (defScope (topS 28)) := ⟨rfl, rfl, rfl, by decide +kernel, rfl, by decide +kernel, by decide +kernel⟩
theorem D_is_name (T : Txt K w mg) : Def P w K mg base CX0 1 "is_name" ["word"] spName := by
  refine Def.of (T.fn ("is_name", 28) (by decide +kernel)) sc_is_name (fun _ _ _ _ _ _ us hl => match us, hl with | [_], _ => rfl) (fun vs H Q E h => ?_) (fun f cdv A outer s H vs Q E hr h => ?_)
  · obtain ⟨z, rfl, _⟩ := h
    rfl
  · obtain ⟨z, rfl, hz, q⟩ := h
    obtain ⟨_, gLETTERS⟩ := T.letters
    have fLen := T.free "len" (by decide +kernel)
    refine ⟨_, PSs.nox ((pss_cons (ps_if (PW.pt (pw_or (pt_cmpR op_eq (pv 0) pe_str (nomark _)) (pw_or (pt_cmpR op_gt (pe_callB call_len_str (by rfl) fLen PySem.boot_len (pa_cons (pv 0) pa_nil)) pe_int (nomark _)) (pw_or1 (pt_cmpR op_notIn_sign (pe_ix ix_str (pv 0) pe_int (fun _ _ => rfl)) (pe_gs rfl gLETTERS) (by rfl))))))
          (pss_one (ps_ret pe_bl)) pss_nil)
      (pss_cons (ps_for PassesOwn.never rfl (pi_str (pv 0)) (pg_name (i := 1) sc_is_name.nd rfl (.inl rfl))
          (pss_one (ps_if (PW.pt (pw_and (pt_cmpR op_notIn_sign (pv 1) (pe_gs rfl gLETTERS) (by rfl)) (pw_and1 (pt_cmpR op_notIn_sign (pv 1) pe_str (by rfl)))))
              (pss_one (ps_ret pe_bl)) pss_nil)))
      (pss_one (ps_ret pe_bl))))), ?_⟩
    cases e : TL.tl z with
    | nil =>
      have ez := str_nil e
      have en : isName z = false := by unfold isName isNameL; rw [e]
      rw [en] at q
      refine ⟨_, rfl, rfl, _, rfl, ite2 (fun _ => iteT q) (fun h => ?_)⟩
      exact absurd (decide_eq_true (congrArg V.str ez)) h
    | cons c r =>
      refine ⟨_, rfl, rfl, _, rfl, ite2 (fun h => absurd (V.str.inj (of_decide_eq_true h)) (str_ne e)) (fun _ => ?_)⟩
      refine ⟨_, rfl, z, rfl, pw_short hz, _, _, rfl, rfl, _, rfl, ite2 (fun h => ?_) (fun h => ?_)⟩
      · have h := of_decide_eq_true h
        have en : isName z = false := by
          unfold isName isNameL
          rw [e]
          show (decide ((c :: r).length ≤ 12) && _) = false
          rw [← e, ← TL.len_tl, decide_eq_false (by omega)]
          rfl
        rw [en] at q
        exact iteT q
      · have h12 : z.length ≤ 12 := by
          have : ¬ (12 : Int) < (z.length : Int) := fun x => h (decide_eq_true x)
          omega
        refine ⟨_, rfl, _, _, _, rfl, rfl, pw_short hz, at0 e, _, _, rfl, rfl, _, rfl, ite2 (fun h => ?_) (fun h => ?_)⟩
        · rw [in_low] at h
          have en : isName z = false := by
            unfold isName isNameL
            rw [e]
            show (decide ((c :: r).length ≤ 12) && (isLow c && _)) = false
            rw [show isLow c = false by simpa using h]
            simp
          rw [en] at q
          exact q
        · rw [in_low] at h
          have hc : isLow c = true := by simpa using h
          have en : isName z = (TL.tl z).all fun c => isLow c || isFig c := by
            unfold isName isNameL
            rw [e]
            show (decide ((c :: r).length ≤ 12) && (isLow c && _)) = _
            rw [hc, ← e, ← TL.len_tl, decide_eq_true h12]
            rfl
          rw [en] at q
          refine ⟨_, rfl, z, rfl, for_it walk_str (fun i σ H' => H' = H ∧ ∃ y, σ = [some (.str z), y] ∧ ((TL.tl z).take i).all (fun c => isLow c || isFig c) = true) ⟨rfl, none, rfl, rfl⟩ (fun _ _ _ _ _ => trivial) (fun i x σ H1 H2 hi hP hY => ?_) (fun σ H1 hP => ?_)⟩
          · obtain ⟨rfl, y, rfl, hall⟩ := hP
            obtain ⟨rfl, d, hd, rfl⟩ := hY
            have hd2 : (TL.tl z)[i]? = some d := by rw [← hd]; exact Array.getElem?_toList
            refine ⟨_, rfl, _, _, rfl, rfl, _, rfl, ?_⟩
            rw [in_low]
            have ht : (TL.tl z).take (i + 1) = (TL.tl z).take i ++ [d] := by rw [List.take_add_one, hd2]; rfl
            refine ite2 (fun h => ?_) (fun h => iteF ⟨rfl, _, rfl, ?_⟩)
            · refine ⟨_, rfl, _, _, rfl, rfl, _, rfl, ?_⟩
              rw [in_fig]
              refine ite2 (fun h2 => ?_) (fun h2 => ⟨rfl, _, rfl, ?_⟩)
              · have : ((TL.tl z).all fun c => isLow c || isFig c) = false := by
                  rw [List.all_eq_false]
                  refine ⟨d, List.mem_of_getElem? hd2, ?_⟩
                  rw [show isLow d = false by simpa using h, show isFig d = false by simpa using h2]
                  decide
                rw [this] at q
                exact q
              · rw [ht, List.all_append, hall]
                have : isFig d = true := by simpa using h2
                simp [this]
            · rw [ht, List.all_append, hall]
              have : isLow d = true := by simpa using h
              simp [this]
          · obtain ⟨rfl, y, rfl, hall⟩ := hP
            have : (TL.tl z).take z.cps.size = TL.tl z := List.take_of_length_le (by unfold TL.tl; simp)
            rw [this] at hall
            rw [hall] at q
            exact q
end
end K19

set_option Elab.async false
set_option linter.all false
set_option maxRecDepth 100000
set_option maxHeartbeats 4000000
/-! # A2: is_count, number_of -/
namespace K19
open PySem PySem.Spec PyProof.Rows L2
/-- a def with defaults dvs, called by its other arguments alone -/
structure DefW (P : Program) (w : World) (K : PySem.W.Frag) (mg : Str → Option Value) (base : Heap) (k : Nat) (x : Str) (ps : List Str) (dvs : List V) (sp : Sp) : Prop where
  ex : ∃ (f : Addr) (fd : FuncData) (ds : List Value), mg x = some (.ref f) ∧ PySem.W.keepIn K (.ref f) = true ∧ Vals dvs ds ∧ Binds K fd ps ds ∧ FnOk P w K mg base CX0 k f fd ps sp
theorem pe_dw {X : Cx} {k : Nat} {x : Str} {ps : List Str} {dvs : List V} {sp : Sp} {t : TA} {e : Expr} {es : List Expr} {p pos : Pos} (D : DefW X.prog X.w X.K X.mg X.base k x ps dvs sp) (hr : Room k X.A) (ha : PA X (e :: es) t) (hg : Gl X x := by rfl)
    (hdb : (x == ("__debug__" : Str)) = false := by decide) (he : starEach (e :: es) X.env = (false, eval e X.env) :: starEach es X.env := by rfl) (hpl : (backTo pos (starEach es X.env)).any (·.1) = false := by rfl) :
    PE X (.Call (.Name x p) (e :: es) [] pos) (tCall sp dvs E0 t) := by
  obtain ⟨f, fd, ds, g, kp, hv, b, F⟩ := D.ex
  exact pe_call F hr hg g kp b hv pass0 ha hdb he hpl
section
variable {P : Program} {w : World} {K : PySem.W.Frag} {mg : Str → Option Value} {base : Heap}
def spCount : Sp := fun vs H Q _ => ∃ z : Str, vs = [.str z, .int 20] ∧ z.length ≤ 1000000 ∧ Q (.bl (isCount z)) H
theorem sc_is_count : FnScope ["word", "most", "sign"] ["word", "most"] (defScope (topS 19)) := ⟨rfl, rfl, rfl, by decide +kernel, rfl, by decide +kernel, by decide +kernel⟩
theorem zero_sign (z : Str) : z = Str.ofString "0" ↔ TL.tl z = [48] := by
  have e : TL.tl (Str.ofString "0") = [48] := by decide +kernel
  constructor
  · rintro rfl; exact e
  · intro h; exact TL.ext_tl (h.trans e.symm)
theorem one_eq (c : Nat) : (⟨#[c]⟩ : Str) = Str.ofString "0" ↔ c = 48 := by
  rw [zero_sign]
  show [c] = [48] ↔ c = 48
  simp
theorem D_is_count (T : Txt K w mg) : DefW P w K mg base 1 "is_count" ["word", "most"] [.int 20] spCount := by
  obtain ⟨f, fd, g, F⟩ := T.count
  obtain ⟨ds, hv, hb⟩ := F.binds1 (ps := ["word", "most"]) 1 0 (by simp) rfl (fun T kV doc pm an cdv ct us its h1 h2 => match us, its, h1, h2 with | [_], [_], _, _ => ⟨_, rfl, rfl⟩)
  refine ⟨f, fd, ds, g, F.kp, hv, hb, F.ok sc_is_count (fun vs H Q E h => ?_) (fun cdv A outer s H vs Q E hr h => ?_)⟩
  · obtain ⟨z, rfl, _⟩ := h
    rfl
  · obtain ⟨z, rfl, hz, q⟩ := h
    obtain ⟨_, gFIGURES⟩ := T.figures
    have fLen := T.free "len" (by decide +kernel)
    refine ⟨_, PSs.nox ((pss_cons (ps_if (PW.pt (pw_or (pt_cmpR op_eq (pv 0) pe_str (nomark _)) (pw_or (pt_cmpR op_gt (pe_callB call_len_str (by rfl) fLen PySem.boot_len (pa_cons (pv 0) pa_nil)) (pv 1) (nomark _)) (pw_or1 (PW.pt (pw_and (pt_cmpR op_eq (pe_ix ix_str (pv 0) pe_int (fun _ _ => rfl)) pe_str (nomark _)) (pw_and1 (pt_cmpR op_ne (pv 0) pe_str (nomark _)))))))))
          (pss_one (ps_ret pe_bl)) pss_nil)
      (pss_cons (ps_for PassesOwn.never rfl (pi_str (pv 0)) (pg_name (i := 2) sc_is_count.nd rfl (.inl rfl))
          (pss_one (ps_if (pt_cmpR op_notIn_sign (pv 2) (pe_gs rfl gFIGURES) (by rfl))
              (pss_one (ps_ret pe_bl)) pss_nil)))
      (pss_one (ps_ret pe_bl))))), ?_⟩
    cases e : TL.tl z with
    | nil =>
      have ez := str_nil e
      have en : isCount z = false := by unfold isCount; rw [e]; rfl
      rw [en] at q
      refine ⟨_, rfl, rfl, _, rfl, ite2 (fun _ => iteT q) (fun h => ?_)⟩
      exact absurd (decide_eq_true (congrArg V.str ez)) h
    | cons c r =>
      have ec : isCount z = (decide ((c :: r).length ≤ 20) && (!(some c == some 48 && (c :: r) != [48]) && (c :: r).all isFig)) := by
        unfold isCount isCountL
        rw [e]
        rfl
      refine ⟨_, rfl, rfl, _, rfl, ite2 (fun h => absurd (V.str.inj (of_decide_eq_true h)) (str_ne e)) (fun _ => ?_)⟩
      refine ⟨_, rfl, z, rfl, pw_short hz, _, rfl, _, _, rfl, rfl, _, rfl, ite2 (fun h => ?_) (fun h => ?_)⟩
      · have h := of_decide_eq_true h
        have en : isCount z = false := by
          rw [ec, ← e, ← TL.len_tl, decide_eq_false (by omega)]
          rfl
        rw [en] at q
        exact iteT q
      · have h20 : z.length ≤ 20 := by
          have : ¬ (20 : Int) < (z.length : Int) := fun x => h (decide_eq_true x)
          omega
        refine ⟨_, rfl, _, _, _, rfl, rfl, pw_short hz, at0 e, rfl, _, rfl, ite2 (fun h => ⟨_, rfl, rfl, _, rfl, ite2 (fun h2 => ?bad) (fun h2 => ⟨_, rfl, z, rfl, ?ok1⟩)⟩) (fun h => iteF ⟨_, rfl, z, rfl, ?ok2⟩)⟩
        case bad =>
          have hc : c = 48 := (one_eq c).mp (V.str.inj (of_decide_eq_true h))
          have hz0 : ¬ z = Str.ofString "0" := fun x => by
            rw [x] at h2
            simp at h2
          have en : isCount z = false := by
            rw [ec, hc]
            have : (48 :: r != [48]) = true := by
              rw [zero_sign, e, hc] at hz0
              simpa using hz0
            rw [this]
            simp
          rw [en] at q
          exact q
        case' ok1 =>
          have hh : (!(some c == some 48 && (c :: r) != [48])) = true := by
            have hz0 : z = Str.ofString "0" := by
              cases hd : decide (V.str z = V.str (Str.ofString "0")) with
              | true => exact V.str.inj (of_decide_eq_true hd)
              | false => rw [hd] at h2; exact absurd rfl h2
            rw [zero_sign, e] at hz0
            rw [hz0]
            simp
          clear h2
        case' ok2 =>
          have hh : (!(some c == some 48 && (c :: r) != [48])) = true := by
            have hc : c ≠ 48 := fun x => h (decide_eq_true (congrArg V.str ((one_eq c).mpr x)))
            simp [hc]
        all_goals
          have en : isCount z = (TL.tl z).all isFig := by
            rw [ec, hh, ← e, ← TL.len_tl, decide_eq_true h20]
            rfl
          rw [en] at q
          refine for_it walk_str (fun i σ H' => H' = H ∧ ∃ y, σ = [some (.str z), some (.int 20), y] ∧ ((TL.tl z).take i).all isFig = true) ⟨rfl, none, rfl, rfl⟩ (fun _ _ _ _ _ => trivial) (fun i x σ H1 H2 hi hP hY => ?_) (fun σ H1 hP => ?_)
          · obtain ⟨rfl, y, rfl, hall⟩ := hP
            obtain ⟨rfl, d, hd, rfl⟩ := hY
            have hd2 : (TL.tl z)[i]? = some d := by rw [← hd]; exact Array.getElem?_toList
            have ht : (TL.tl z).take (i + 1) = (TL.tl z).take i ++ [d] := by rw [List.take_add_one, hd2]; rfl
            refine ⟨_, rfl, _, _, rfl, rfl, _, rfl, ?_⟩
            rw [in_fig]
            refine ite2 (fun h2 => ?_) (fun h2 => ⟨rfl, _, rfl, ?_⟩)
            · have : ((TL.tl z).all isFig) = false := by
                rw [List.all_eq_false]
                refine ⟨d, List.mem_of_getElem? hd2, ?_⟩
                rw [show isFig d = false by simpa using h2]
                decide
              rw [this] at q
              exact q
            · rw [ht, List.all_append, hall]
              have : isFig d = true := by simpa using h2
              simp [this]
          · obtain ⟨rfl, y, rfl, hall⟩ := hP
            have : (TL.tl z).take z.cps.size = TL.tl z := List.take_of_length_le (by unfold TL.tl; simp)
            rw [this] at hall
            rw [hall] at q
            exact q
end
end K19

set_option Elab.async false
set_option linter.all false
set_option maxRecDepth 100000
set_option maxHeartbeats 4000000
/-! # A3: number_of -/
namespace K19
open PySem PySem.Spec PyProof.Rows L2
/-- the class NoExpr -/
abbrev cX (K : PySem.W.Frag) : Value := .ref (He.ga K "NoExpr")
section
variable {P : Program} {w : World} {K : PySem.W.Frag} {mg : Str → Option Value} {base : Heap}
def spNum (K : PySem.W.Frag) : Sp := fun vs H Q E => ∃ z : Str, vs = [.str z] ∧ z.length ≤ 1000000 ∧ (numOk z = true → Q (.int (numVal z)) H) ∧ (numOk z = false → E (cX K) none H)
theorem sc_number_of : FnScope ["word", "figures"] ["word"] (defScope (topS 20)) := ⟨rfl, rfl, rfl, by decide +kernel, rfl, by decide +kernel, by decide +kernel⟩
theorem D_number_of (T : Txt K w mg) : Def P w K mg base (L2.CX P w) 2 "number_of" ["word"] (spNum K) := by
  have D_is_count : DefW P w K mg base 1 "is_count" ["word", "most"] [.int 20] spCount := D_is_count T
  refine Def.of (T.fn ("number_of", 20) (by decide +kernel)) sc_number_of (fun _ _ _ _ _ _ us hl => match us, hl with | [_], _ => rfl) (fun vs H Q E h => ?_) (fun f cdv A outer s H vs Q E hr h => ?_)
  · obtain ⟨z, rfl, _⟩ := h
    rfl
  · obtain ⟨z, rfl, hz, q1, q2⟩ := h
    obtain ⟨gX, xX, kX, bX, tX⟩ := T.nx
    have fInt := T.free "int" (by decide +kernel)
    refine ⟨_, (pss_cons (ps_set (i := 1) sc_number_of.nd rfl (.inl rfl) (pv 0))
      (pss_cons (ps_if (pt_val (pe_m1 PySem.F.slot_str_startswith PySem.F.type_str_startswith mt_startswith (pv 0) pe_str))
          (pss_one (ps_set (i := 1) sc_number_of.nd rfl (.inl rfl) (pe_slice sl_str (pv 0) (po_some pe_int) po_none))) pss_nil)
      (pss_cons (ps_if (PW.pt (pw_or (pt_cmpR op_eq (pv 0) pe_str (nomark _)) (pw_or1 (pt_not (pt_val (pe_dw D_is_count hr (pa_cons (pv 1) pa_nil)))))))
          (pss_one (ps_raise rfl (takes_of rfl rfl rfl rfl) (pmk_own0 PySem.F.excBase_ValueError xX gX kX (raises_own bX tX) rfl))) pss_nil)
      (pss_one (ps_ret (pe_callTy call_int_str (by rfl) fInt (by decide +kernel) (pa_cons (pv 0) pa_nil))))))), ?_⟩
    have m0 : z = Str.ofString "-0" ↔ TL.tl z = [45, 48] := by
      have e : TL.tl (Str.ofString "-0") = [45, 48] := by decide +kernel
      exact ⟨fun x => by rw [x, e], fun x => TL.ext_tl (x.trans e.symm)⟩
    -- figures, whichever way
    have key : ∃ fg : Str, TL.tl fg = numFigs z ∧ fg.length ≤ 1000000 ∧ ((if Txt.startswith z (Str.ofString "-") = true then cutS z (some 1) none else z) = fg) := by
      refine ⟨_, ?_, ?_, rfl⟩
      · rw [starts_minus]
        unfold numFigs
        by_cases h : (TL.tl z).head? = some 45
        · rw [if_pos h, if_pos (by rw [h]; rfl)]
          exact cutS_from z 1
        · rw [if_neg h, if_neg (by simpa using h)]
      · split
        · exact Nat.le_trans (cutS_length _ _ _) hz
        · exact hz
    obtain ⟨fg, hfg, hlen, hif⟩ := key
    refine ⟨_, rfl, _, rfl, ⟨_, rfl⟩, _, _, rfl, rfl, _, rfl, ite2 (fun h => ?a) (fun h => ?b)⟩
    case' a =>
      rw [if_pos h] at hif
      refine ⟨_, rfl, 1, rfl, _, rfl, pw_short hz, ?_⟩
      show tSeq _ _ _ [some (V.str z), some (V.str (cutS z (some 1) none))] H
      rw [hif]
    case' b =>
      rw [if_neg h] at hif
      show tSeq _ _ _ [some (V.str z), some (V.str z)] H
      refine Eq.mp (congrArg (fun x => tSeq _ _ _ [some (V.str z), some (V.str x)] H) hif.symm) ?_
    all_goals
      refine ⟨_, rfl, rfl, _, rfl, ite2 (fun h0 => ?_) (fun h0 => ?_)⟩
      · have e0 : TL.tl z = [45, 48] := m0.mp (V.str.inj (of_decide_eq_true h0))
        refine iteT (q2 ?_)
        unfold numOk
        rw [e0]
        rfl
      · have e0 : (TL.tl z != [45, 48]) = true := by
          have : ¬ TL.tl z = [45, 48] := fun x => h0 (decide_eq_true (congrArg V.str (m0.mpr x)))
          simpa using this
        have en : numOk z = isCount fg := by
          unfold numOk isCount
          rw [e0, hfg]
          rfl
        rw [en] at q1 q2
        refine ⟨_, rfl, _, rfl, hlen, _, rfl, ?_⟩
        cases hc : isCount fg with
        | true =>
          obtain ⟨h1, h2⟩ := num_int (en.trans hc)
          exact ⟨_, rfl, z, _, rfl, h1, Nat.le_trans h2 (by decide), q1 hc⟩
        | false => exact q2 hc
end
end K19

set_option Elab.async false
set_option linter.all false
set_option maxRecDepth 100000
set_option maxHeartbeats 4000000
/-! # A4: the classes of expressions: C(..) makes something new, and leaves what stood -/
namespace K19
open PySem PySem.Spec PyProof.Rows L2
/-- __init__ with n arguments of a new instance -/
def spInit (C : Addr) (n : Nat) : Sp := fun vs H Q _ => ∃ (x dx : Addr) (as : List V), vs = .ref x :: as ∧ as.length = n ∧ H x = some (.ins C dx []) ∧ ∀ H', (∀ b o, H b = some o → b ≠ x → H' b = some o) → Q .non H'
/-- C(..) with n arguments -/
structure Mak (P : Program) (w : World) (K : PySem.W.Frag) (mg : Str → Option Value) (base : Heap) (c : Str) (n : Nat) : Prop where
  ex : ∃ (C f : Addr) (fd : FuncData) (ps : List Str), mg c = some (.ref C) ∧ Mk K C f ∧ Binds K fd ps [] ∧ FnOk P w K mg base CX0 1 f fd ps (spInit C n)
def tNew (n : Nat) (t : TA) : TE := fun σ H Q => t σ H fun vs H1 => vs.length = n ∧ ∀ x H2, Same H1 H2 → Q (.ref x) H2
theorem pe_new {X : Cx} {c : Str} {n : Nat} {t : TA} {e : Expr} {es : List Expr} {p pos : Pos} (M : Mak X.prog X.w X.K X.mg X.base c n) (hr : Room 2 X.A) (ha : PA X (e :: es) t) (hg : Gl X c := by rfl)
    (hdb : (c == ("__debug__" : Str)) = false := by decide) (he : starEach (e :: es) X.env = (false, eval e X.env) :: starEach es X.env := by rfl) (hpl : (backTo pos (starEach es X.env)).any (·.1) = false := by rfl) :
    PE X (.Call (.Name c p) (e :: es) [] pos) (tNew n t) := by
  obtain ⟨C, f, fd, ps, g, mk, b, F⟩ := M.ex
  have key := pe_make (pos := pos) (p := p) mk F hr hg g b .nil pass0 ha hdb he hpl
  have mono : PA X (e :: es) t := ha
  refine ⟨fun pins s σ H Q I h => ?_⟩
  refine wpAny_Call_Name_kw (ld_glob I hg g ?_ hdb)
  refine PySem.W.callWith_K (h₀ := X.base) I.ok.mod.kin mk.kp (thn (ha.run pos pins s σ H _ I h) fun us s1 hh => ?_) he hpl
  obtain ⟨vs, H1, I1, r, hl, q⟩ := hh
  refine ⟨I1.kIn, ?_⟩
  refine run_make mk F hr b .nil pass0 I1 r (fun x dx nx nd ne => ?_)
  refine ⟨x, dx, vs ++ [], rfl, by rw [List.append_nil]; exact hl, upd_same, fun H' k => ⟨rfl, q x H' (Same.made nx nd k)⟩⟩
section
variable {P : Program} {w : World} {K : PySem.W.Frag} {mg : Str → Option Value} {base : Heap}
theorem Mak.of {d : ClD} {N ps : List Str} {n : Nat} (T : ClT K mg d) (S : FnScope N ps (defScope d.st)) (hps : ps.length = n + 1)
    (hb : ∀ (kV doc pm : Value) (an : Option Addr) (cdv ct : Value) (us : List Value), us.length = ps.length → bindArgs (PySem.W.fnOf "__init__" d.q (defArgs d.st) (defBody d.st) (defScope d.st) .none kV doc pm an cdv ct) ⟨us, []⟩ = pure (ps.zip us))
    (hbody : ∀ (f : Addr) (cdv : Value) (A : Around) (outer : List Env) (s : Shared) (H : Hp) (x dx : Addr) (as : List V) (Q : VK) (E : XK), as.length = n → H x = some (.ins (He.ga K d.c) dx []) →
      (∀ H', (∀ b o, H b = some o → b ≠ x → H' b = some o) → Q .non H') →
      ∃ t, PSs (cxOf CX0 P w K mg base N d.q (defScope d.st) f cdv A outer s H E) (defBody d.st) t ∧ t { nx := fun _ H' => Q .non H', rt := Q } (start N (.ref x :: as)) H) : Mak P w K mg base d.c n := by
  obtain ⟨fd, F⟩ := T.fn
  refine ⟨_, _, fd, ps, T.g, T.mak, F.bindsN hb, F.ok S (fun vs H Q E h => ?_) (fun cdv A outer s H vs Q E hr h => ?_)⟩
  · obtain ⟨x, dx, as, rfl, hl, _⟩ := h
    rw [List.length_cons, hl, hps]
  · obtain ⟨x, dx, as, rfl, hl, hx, q⟩ := h
    exact hbody _ cdv A outer s H x dx as Q E hl hx q
theorem put_keep {H : Hp} {x : Addr} {o : HO} : ∀ b u, H b = some u → b ≠ x → upd H x o b = some u := fun b u e ne => by rw [upd_ne ne]; exact e
theorem put_keep2 {H : Hp} {x : Addr} {o o' : HO} : ∀ b u, H b = some u → b ≠ x → upd (upd H x o) x o' b = some u := fun b u e ne => by rw [upd_ne ne, upd_ne ne]; exact e
theorem put_keep3 {H : Hp} {x : Addr} {o o' o2 : HO} : ∀ b u, H b = some u → b ≠ x → upd (upd (upd H x o) x o') x o2 b = some u := fun b u e ne => by rw [upd_ne ne, upd_ne ne, upd_ne ne]; exact e
theorem put1 {f : Str} {v : V} : (putF f v []).length < 1000 := Nat.lt_of_le_of_lt (length_putF f v []) (by decide)
theorem put2 {f g : Str} {v u : V} : (putF g u (putF f v [])).length < 1000 := Nat.lt_of_le_of_lt (Nat.le_trans (length_putF g u _) (Nat.succ_le_succ (length_putF f v []))) (by decide)
theorem sc_number : FnScope ["self", "number"] ["self", "number"] (defScope (inClass (topS 11) 0)) := ⟨rfl, rfl, rfl, by decide +kernel, rfl, by decide +kernel, by decide +kernel⟩
theorem sc_letter : FnScope ["self", "letter"] ["self", "letter"] (defScope (inClass (topS 12) 0)) := ⟨rfl, rfl, rfl, by decide +kernel, rfl, by decide +kernel, by decide +kernel⟩
theorem sc_sign : FnScope ["self", "sign", "left", "right"] ["self", "sign", "left", "right"] (defScope (inClass (topS 13) 0)) := ⟨rfl, rfl, rfl, by decide +kernel, rfl, by decide +kernel, by decide +kernel⟩
theorem sc_less : FnScope ["self", "left", "right"] ["self", "left", "right"] (defScope (inClass (topS 15) 0)) := ⟨rfl, rfl, rfl, by decide +kernel, rfl, by decide +kernel, by decide +kernel⟩
theorem sc_turned : FnScope ["self", "part"] ["self", "part"] (defScope (inClass (topS 17) 0)) := ⟨rfl, rfl, rfl, by decide +kernel, rfl, by decide +kernel, by decide +kernel⟩
theorem sc_both : FnScope ["self", "sign", "left", "right"] ["self", "sign", "left", "right"] (defScope (inClass (topS 18) 0)) := ⟨rfl, rfl, rfl, by decide +kernel, rfl, by decide +kernel, by decide +kernel⟩
theorem M_number (T : Txt K w mg) : Mak P w K mg base "Number" 1 := by
  have C := T.cl ⟨"Number", ["number"], inClass (topS 11) 0, "Number.__init__"⟩ (List.mem_cons_self ..)
  refine Mak.of C sc_number rfl (fun _ _ _ _ _ _ us hl => match us, hl with | [_, _], _ => rfl) (fun f cdv A outer s H x dx as Q E hl hx q => ?_)
  match as, hl with
  | [v], _ =>
    exact ⟨_, pss_one (ps_fld (pv 0) (pv 1) rfl), _, rfl, _, rfl, x, _, dx, [], rfl, hx, C.cl, C.no _ (by decide +kernel), by decide, q _ put_keep⟩
theorem M_letter (T : Txt K w mg) : Mak P w K mg base "Letter" 1 := by
  have C := T.cl ⟨"Letter", ["letter"], inClass (topS 12) 0, "Letter.__init__"⟩ (.tail _ (.head _))
  refine Mak.of C sc_letter rfl (fun _ _ _ _ _ _ us hl => match us, hl with | [_, _], _ => rfl) (fun f cdv A outer s H x dx as Q E hl hx q => ?_)
  match as, hl with
  | [v], _ =>
    exact ⟨_, pss_one (ps_fld (pv 0) (pv 1) rfl), _, rfl, _, rfl, x, _, dx, [], rfl, hx, C.cl, C.no _ (by decide +kernel), by decide, q _ put_keep⟩
theorem M_sign (T : Txt K w mg) : Mak P w K mg base "Sign" 3 := by
  have C := T.cl ⟨"Sign", ["sign", "left", "right"], inClass (topS 13) 0, "Sign.__init__"⟩ (.tail _ (.tail _ (.head _)))
  refine Mak.of C sc_sign rfl (fun _ _ _ _ _ _ us hl => match us, hl with | [_, _, _, _], _ => rfl) (fun f cdv A outer s H x dx as Q E hl hx q => ?_)
  match as, hl with
  | [v, u, t], _ =>
    exact ⟨_, pss_cons (ps_fld (pv 0) (pv 1) rfl) (pss_cons (ps_fld (pv 0) (pv 2) rfl) (pss_one (ps_fld (pv 0) (pv 3) rfl))), _, rfl, _, rfl, x, _, dx, [], rfl, hx, C.cl, C.no _ (by decide +kernel), by decide,
      _, rfl, _, rfl, x, _, dx, _, rfl, upd_same, C.cl, C.no _ (by decide +kernel), put1, _, rfl, _, rfl, x, _, dx, _, rfl, upd_same, C.cl, C.no _ (by decide +kernel), put2, q _ put_keep3⟩
theorem M_both (T : Txt K w mg) : Mak P w K mg base "Both" 3 := by
  have C := T.cl ⟨"Both", ["sign", "left", "right"], inClass (topS 18) 0, "Both.__init__"⟩ (.tail _ (.tail _ (.tail _ (.tail _ (.tail _ (.tail _ (.head _)))))))
  refine Mak.of C sc_both rfl (fun _ _ _ _ _ _ us hl => match us, hl with | [_, _, _, _], _ => rfl) (fun f cdv A outer s H x dx as Q E hl hx q => ?_)
  match as, hl with
  | [v, u, t], _ =>
    exact ⟨_, pss_cons (ps_fld (pv 0) (pv 1) rfl) (pss_cons (ps_fld (pv 0) (pv 2) rfl) (pss_one (ps_fld (pv 0) (pv 3) rfl))), _, rfl, _, rfl, x, _, dx, [], rfl, hx, C.cl, C.no _ (by decide +kernel), by decide,
      _, rfl, _, rfl, x, _, dx, _, rfl, upd_same, C.cl, C.no _ (by decide +kernel), put1, _, rfl, _, rfl, x, _, dx, _, rfl, upd_same, C.cl, C.no _ (by decide +kernel), put2, q _ put_keep3⟩
theorem M_less (T : Txt K w mg) : Mak P w K mg base "Less" 2 := by
  have C := T.cl ⟨"Less", ["left", "right"], inClass (topS 15) 0, "Less.__init__"⟩ (.tail _ (.tail _ (.tail _ (.head _))))
  refine Mak.of C sc_less rfl (fun _ _ _ _ _ _ us hl => match us, hl with | [_, _, _], _ => rfl) (fun f cdv A outer s H x dx as Q E hl hx q => ?_)
  match as, hl with
  | [v, u], _ =>
    exact ⟨_, pss_cons (ps_fld (pv 0) (pv 1) rfl) (pss_one (ps_fld (pv 0) (pv 2) rfl)), _, rfl, _, rfl, x, _, dx, [], rfl, hx, C.cl, C.no _ (by decide +kernel), by decide,
      _, rfl, _, rfl, x, _, dx, _, rfl, upd_same, C.cl, C.no _ (by decide +kernel), put1, q _ put_keep2⟩
theorem M_same (T : Txt K w mg) : Mak P w K mg base "Same" 2 := by
  have C := T.cl ⟨"Same", ["left", "right"], inClass (topS 15) 0, "Less.__init__"⟩ (.tail _ (.tail _ (.tail _ (.tail _ (.head _)))))
  refine Mak.of C sc_less rfl (fun _ _ _ _ _ _ us hl => match us, hl with | [_, _, _], _ => rfl) (fun f cdv A outer s H x dx as Q E hl hx q => ?_)
  match as, hl with
  | [v, u], _ =>
    exact ⟨_, pss_cons (ps_fld (pv 0) (pv 1) rfl) (pss_one (ps_fld (pv 0) (pv 2) rfl)), _, rfl, _, rfl, x, _, dx, [], rfl, hx, C.cl, C.no _ (by decide +kernel), by decide,
      _, rfl, _, rfl, x, _, dx, _, rfl, upd_same, C.cl, C.no _ (by decide +kernel), put1, q _ put_keep2⟩
theorem M_turned (T : Txt K w mg) : Mak P w K mg base "Turned" 1 := by
  have C := T.cl ⟨"Turned", ["part"], inClass (topS 17) 0, "Turned.__init__"⟩ (.tail _ (.tail _ (.tail _ (.tail _ (.tail _ (.head _))))))
  refine Mak.of C sc_turned rfl (fun _ _ _ _ _ _ us hl => match us, hl with | [_, _], _ => rfl) (fun f cdv A outer s H x dx as Q E hl hx q => ?_)
  match as, hl with
  | [v], _ =>
    exact ⟨_, pss_one (ps_fld (pv 0) (pv 1) rfl), _, rfl, _, rfl, x, _, dx, [], rfl, hx, C.cl, C.no _ (by decide +kernel), by decide, q _ put_keep⟩
end
end K19

set_option Elab.async false
set_option linter.all false
set_option maxRecDepth 100000
set_option maxHeartbeats 4000000
/-! # A5: expr_at, read_expr -/
namespace K19
open PySem PySem.Spec PyProof.Rows L2
theorem same_new {H : Hp} {p : Addr} {o : HO} (h : H p = none) : Same H (upd H p o) := fun b x e => by
  rw [upd_ne (ne_of_none e h)]
  exact e
theorem line2 : (2 : Nat) ≤ sizeLine := by decide
theorem line4 : (4 : Nat) ≤ sizeLine := by decide
theorem inV_strs (w : Str) : ∀ l : List Str, inV (.str w) (l.map V.str) = decide (w ∈ l)
  | [] => rfl
  | a :: r => by
    show (eqV (V.str a) (V.str w) || inV (.str w) (r.map V.str)) = _
    rw [inV_strs w r, Bool.eq_iff_iff]
    show ((a == w) || decide (w ∈ r)) = true ↔ _
    simp only [Bool.or_eq_true, beq_iff_eq, decide_eq_true_eq, List.mem_cons]
    constructor
    · rintro (h | h)
      · exact .inl h.symm
      · exact .inr h
    · rintro (h | h)
      · exact .inl h.symm
      · exact .inr h
theorem flat_strs : ∀ l : List Str, (l.map V.str).all flatV = true
  | [] => rfl
  | _ :: r => flat_strs r
theorem at_strs {ws : List Str} {i : Nat} {w : Str} (h : ws[i]? = some w) : atI (ws.map V.str) (i : Int) = some (V.str w) := atI_nat (by rw [List.getElem?_map, h]; rfl)
/-- where an expression begins and ends -/
def spExpr (K : PySem.W.Frag) (n : Nat) : Sp := fun vs H Q E => ∃ (a : Addr) (ws : List Str) (i : Nat) (L : Str), vs = [.ref a, .int (i : Int), .str L] ∧ SqL K H a (ws.map V.str) ∧ i ≤ ws.length ∧ ws.length + 1 ≤ i + n ∧ (∀ w ∈ ws, w.length ≤ 1000000) ∧
  (∀ j x p H', At L ws false i j → Same H H' → H' p = some (.tup [x, .int (j : Int)]) → Q (.ref p) H') ∧ (scan L [false] (ws.drop i) = none → ∀ H', Same H H' → E (cX K) none H')
section
variable {P : Program} {w : World} {K : PySem.W.Frag} {mg : Str → Option Value} {base : Heap}
theorem sc_expr_at : FnScope ["words", "at", "letters", "word", "left", "middle", "right", "behind"] ["words", "at", "letters"] (defScope (topS 21)) := ⟨rfl, rfl, rfl, by decide +kernel, rfl, by decide +kernel, by decide +kernel⟩
theorem D_expr_at (T : Txt K w mg) : ∀ n, Def P w K mg base (L2.CX P w) (n + 4) "expr_at" ["words", "at", "letters"] (spExpr K n)
  | 0 => by
    refine Def.of (k := 3) (T.fn ("expr_at", 21) (by decide +kernel)) sc_expr_at (fun _ _ _ _ _ _ us hl => match us, hl with | [_, _, _], _ => rfl) (fun vs H Q E h => ?_) (fun f cdv A outer s H vs Q E hr h => ?_)
    · obtain ⟨a, ws, i, L, rfl, _⟩ := h
      rfl
    · obtain ⟨a, ws, i, L, rfl, _, h1, h2, _⟩ := h
      omega
  | n + 1 => by
    have D_expr_at : Def P w K mg base (L2.CX P w) (n + 4) "expr_at" ["words", "at", "letters"] (spExpr K n) := D_expr_at T n
    have D_number_of : Def P w K mg base (L2.CX P w) 2 "number_of" ["word"] (spNum K) := D_number_of T
    have mSign : Mak P w K mg base "Sign" 3 := M_sign T
    have mLetter : Mak P w K mg base "Letter" 1 := M_letter T
    have mNumber : Mak P w K mg base "Number" 1 := M_number T
    refine Def.of (k := n + 4) (T.fn ("expr_at", 21) (by decide +kernel)) sc_expr_at (fun _ _ _ _ _ _ us hl => match us, hl with | [_, _, _], _ => rfl) (fun vs H Q E h => ?_) (fun f cdv A outer s H vs Q E hr h => ?_)
    · obtain ⟨a, ws, i, L, rfl, _⟩ := h
      rfl
    · obtain ⟨a, ws, i, L, rfl, hS, hi, hn, hw, q1, q2⟩ := h
      obtain ⟨gX, xX, kX, bX, tX⟩ := T.nx
      obtain ⟨aS, gSIGNS, tS⟩ := T.signs
      have fLen := T.free "len" (by decide +kernel)
      have hr2 := hr.mono (j := 2) (by omega)
      refine ⟨_, (pss_cons (ps_if (pt_cmpR op_ge (pv 1) (pe_callB call_len_seq (by rfl) fLen PySem.boot_len (pa_cons (pv 0) pa_nil)) (nomark _))
          (pss_one (ps_raise rfl (takes_of rfl rfl rfl rfl) (pmk_own0 PySem.F.excBase_ValueError xX gX kX (raises_own bX tX) rfl))) pss_nil)
      (pss_cons (ps_set (i := 3) sc_expr_at.nd rfl (.inl rfl) (pe_ix ix_list (pv 0) (pv 1) (fun _ _ => rfl)))
      (pss_cons (ps_if (pt_cmpR op_in_seq (pv 3) (pe_gr rfl gSIGNS) (by rfl))
          (pss_cons (ps_asg (pe_dx D_expr_at hr (takes_of rfl rfl rfl rfl) (fun _ _ _ _ x => x) (pa_cons (pv 0) (pa_cons (pe_op op_add (pv 1) pe_int) (pa_cons (pv 2) pa_nil)))) (pg_tup (by rfl) (pgs_cons (pg_name (i := 4) sc_expr_at.nd rfl (.inl rfl)) (pgs_cons (pg_name (i := 5) sc_expr_at.nd rfl (.inl rfl)) pgs_nil))))
          (pss_cons (ps_asg (pe_dx D_expr_at hr (takes_of rfl rfl rfl rfl) (fun _ _ _ _ x => x) (pa_cons (pv 0) (pa_cons (pv 5) (pa_cons (pv 2) pa_nil)))) (pg_tup (by rfl) (pgs_cons (pg_name (i := 6) sc_expr_at.nd rfl (.inl rfl)) (pgs_cons (pg_name (i := 7) sc_expr_at.nd rfl (.inl rfl)) pgs_nil))))
          (pss_one (ps_ret (pe_tup (pa_cons (pe_new mSign hr2 (pa_cons (pv 3) (pa_cons (pv 4) (pa_cons (pv 6) pa_nil)))) (pa_cons (pv 7) pa_nil))))))) pss_nil)
      (pss_cons (ps_if (PW.pt (pw_and (pt_cmpR op_eq (pe_callB call_len_str (by rfl) fLen PySem.boot_len (pa_cons (pv 3) pa_nil)) pe_int (nomark _)) (pw_and1 (pt_cmpR op_in_sign (pv 3) (pv 2) (by rfl)))))
          (pss_one (ps_ret (pe_tup (pa_cons (pe_new mLetter hr2 (pa_cons (pv 3) pa_nil)) (pa_cons (pe_op op_add (pv 1) pe_int) pa_nil))))) pss_nil)
      (pss_one (ps_ret (pe_tup (pa_cons (pe_new mNumber hr2 (pa_cons (pe_dx D_number_of hr2 (takes_of rfl rfl rfl rfl) (fun _ _ _ _ x => x) (pa_cons (pv 3) pa_nil)) pa_nil)) (pa_cons (pe_op op_add (pv 1) pe_int) pa_nil))))))))), ?_⟩
      have hl : (ws.map V.str).length = ws.length := List.length_map _
      refine ⟨_, rfl, _, rfl, a, _, rfl, .inl hS, _, _, rfl, rfl, _, rfl, ite2 (fun h => ?_) (fun h => ?_)⟩
      · have h := of_decide_eq_true h
        rw [hl] at h
        exact q2 (out_bad (by omega) _) H (Same.refl H)
      · have hlt : i < ws.length := by
          have : ¬ ((ws.map V.str).length : Int) ≤ (i : Int) := fun x => h (decide_eq_true x)
          rw [hl] at this
          omega
        obtain ⟨wd, hwd⟩ : ∃ wd, ws[i]? = some wd := ⟨_, List.getElem?_eq_getElem hlt⟩
        have hwl : wd.length ≤ 1000000 := hw wd (List.mem_of_getElem? hwd)
        refine ⟨_, rfl, _, rfl, a, _, _, _, rfl, rfl, hS, at_strs hwd, ?_⟩
        refine ⟨_, rfl, aS, _, rfl, .inr (tS H), rfl, flat_strs _, _, rfl, ite2 (fun h => ?_) (fun h => ?_)⟩
        · have hsg : isSg wd = true := by
            have h : inV (V.str wd) (sgs.map V.str) = true := h
            rw [inV_strs] at h
            exact h
          have st := sg_step (L := L) hwd hsg
          refine ⟨_, rfl, _, rfl, _, _, rfl, rfl, _, rfl, a, ws, i + 1, L, rfl, hS, by omega, by omega, hw, fun j1 x1 p1 H1 A1 s1 e1 => ?_, fun hb H1 s1 => q2 (two_bad1 st hb) H1 s1⟩
          refine ⟨p1, _, rfl, SqT.of e1, rfl, _, _, rfl, _, _, rfl, rfl, ?_⟩
          refine ⟨_, rfl, _, rfl, _, rfl, a, ws, j1, L, rfl, s1.seq hS, A1.2.2, by have := A1.2.1; omega, hw, fun j2 x2 p2 H2 A2 s2 e2 => ?_, fun hb H2 s2 => q2 (two_bad2 st A1 hb) H2 (s1.trans s2)⟩
          refine ⟨p2, _, rfl, SqT.of e2, rfl, _, _, rfl, _, _, rfl, rfl, ?_⟩
          exact ⟨_, rfl, _, rfl, _, rfl, rfl, fun x H3 s3 => ⟨_, rfl, line2, fun p np => q1 j2 (.ref x) p _ (two_ok st A1 A2) (((s1.trans s2).trans s3).trans (same_new np)) upd_same⟩⟩
        · have hsg : isSg wd = false := by
            have h : ¬ inV (V.str wd) (sgs.map V.str) = true := h
            rw [inV_strs] at h
            simpa [isSg] using h
          refine ⟨_, rfl, wd, rfl, pw_short hwl, rfl, _, rfl, ite2 (fun h => ?_) (fun h => ?_)⟩
          · have h := V.int.inj (of_decide_eq_true h)
            obtain ⟨c, rfl, _⟩ := one_of (w := wd) (by omega)
            refine ⟨_, rfl, _, rfl, c, L, rfl, rfl, _, rfl, ite2 (fun h2 => ?_) (fun h2 => ?_)⟩
            · have hlf : leafOk L ⟨#[c]⟩ = true := by
                unfold leafOk
                rw [inOne_one, h2]
                rfl
              exact ⟨_, rfl, rfl, fun x H3 s3 => ⟨_, rfl, _, _, rfl, rfl, line2, fun p np => q1 (i + 1) (.ref x) p _ (leaf_step hwd hsg hlf) (s3.trans (same_new np)) upd_same⟩⟩
            · have hin : inOne (⟨#[c]⟩ : Str) L = false := by
                rw [inOne_one]
                simpa using h2
              refine ⟨_, rfl, _, rfl, hwl, fun hok => ⟨rfl, fun x H3 s3 => ⟨_, rfl, _, _, rfl, rfl, line2, fun p np => q1 (i + 1) (.ref x) p _ (leaf_step hwd hsg ?_) (s3.trans (same_new np)) upd_same⟩⟩, fun hno => q2 (leaf_bad hwd hsg ?_) H (Same.refl H)⟩
              · unfold leafOk
                rw [hok, Bool.or_true]
              · unfold leafOk
                rw [hin, hno]
                rfl
          · have hin : inOne wd L = false := inOne_long fun x => h (decide_eq_true (by rw [x]; rfl))
            refine iteF ⟨_, rfl, _, rfl, hwl, fun hok => ⟨rfl, fun x H3 s3 => ⟨_, rfl, _, _, rfl, rfl, line2, fun p np => q1 (i + 1) (.ref x) p _ (leaf_step hwd hsg ?_) (s3.trans (same_new np)) upd_same⟩⟩, fun hno => q2 (leaf_bad hwd hsg ?_) H (Same.refl H)⟩
            · unfold leafOk
              rw [hok, Bool.or_true]
            · unfold leafOk
              rw [hin, hno]
              rfl
/-- words that tell an expression -/
def spRead (K : PySem.W.Frag) : Sp := fun vs H Q E => ∃ (a : Addr) (ws : List Str) (L : Str), vs = [.ref a, .str L] ∧ SqL K H a (ws.map V.str) ∧ ws.length ≤ 60 ∧ (∀ w ∈ ws, w.length ≤ 1000000) ∧
  (isExpr L ws = true → ∀ v H', Same H H' → Q v H') ∧ (isExpr L ws = false → ∀ H', Same H H' → E (cX K) none H')
theorem sc_read_expr : FnScope ["words", "letters", "found", "behind"] ["words", "letters"] (defScope (topS 23)) := ⟨rfl, rfl, rfl, by decide +kernel, rfl, by decide +kernel, by decide +kernel⟩
theorem D_read_expr (T : Txt K w mg) : Def P w K mg base (L2.CX P w) 66 "read_expr" ["words", "letters"] (spRead K) := by
  have D_expr_at : Def P w K mg base (L2.CX P w) 65 "expr_at" ["words", "at", "letters"] (spExpr K 61) := D_expr_at T 61
  refine Def.of (T.fn ("read_expr", 23) (by decide +kernel)) sc_read_expr (fun _ _ _ _ _ _ us hl => match us, hl with | [_, _], _ => rfl) (fun vs H Q E h => ?_) (fun f cdv A outer s H vs Q E hr h => ?_)
  · obtain ⟨a, ws, L, rfl, _⟩ := h
    rfl
  · obtain ⟨a, ws, L, rfl, hS, hn, hw, q1, q2⟩ := h
    obtain ⟨gX, xX, kX, bX, tX⟩ := T.nx
    have fLen := T.free "len" (by decide +kernel)
    refine ⟨_, (pss_cons (ps_asg (pe_dx D_expr_at hr (takes_of rfl rfl rfl rfl) (fun _ _ _ _ x => x) (pa_cons (pv 0) (pa_cons pe_int (pa_cons (pv 1) pa_nil)))) (pg_tup (by rfl) (pgs_cons (pg_name (i := 2) sc_read_expr.nd rfl (.inl rfl)) (pgs_cons (pg_name (i := 3) sc_read_expr.nd rfl (.inl rfl)) pgs_nil))))
      (pss_cons (ps_if (pt_cmpR op_ne (pv 3) (pe_callB call_len_seq (by rfl) fLen PySem.boot_len (pa_cons (pv 0) pa_nil)) (nomark _))
          (pss_one (ps_raise rfl (takes_of rfl rfl rfl rfl) (pmk_own0 PySem.F.excBase_ValueError xX gX kX (raises_own bX tX) rfl))) pss_nil)
      (pss_one (ps_ret (pv 2))))), ?_⟩
    have hl : (ws.map V.str).length = ws.length := List.length_map _
    refine ⟨_, rfl, _, rfl, a, ws, 0, L, rfl, hS, Nat.zero_le _, by omega, hw, fun j x p H1 A1 s1 e1 => ?_, fun hb H1 s1 => q2 ?_ H1 s1⟩
    · refine ⟨p, _, rfl, SqT.of e1, rfl, _, _, rfl, _, _, rfl, rfl, ?_⟩
      refine ⟨_, rfl, _, rfl, a, _, rfl, .inl (s1.seq hS), rfl, _, rfl, ?_⟩
      rw [hl]
      by_cases hj : j = ws.length
      · have hd : (!decide (V.int (j : Int) = V.int (ws.length : Int))) = false := by rw [hj]; simp
        have he : isExpr L ws = true := by rw [expr_iff]; rw [hj] at A1; exact A1
        rw [hd]
        exact iteF ⟨_, rfl, q1 he x H1 s1⟩
      · have hd : (!decide (V.int (j : Int) = V.int (ws.length : Int))) = true := by
          simp only [V.int.injEq, Bool.not_eq_true', decide_eq_false_iff_not]
          omega
        have he : isExpr L ws = false := by
          cases hx : isExpr L ws with
          | false => rfl
          | true => exact absurd (A1.uniq (expr_iff.mp hx)) hj
        rw [hd]
        exact iteT (q2 he H1 s1)
    · cases hx : isExpr L ws with
      | false => rfl
      | true => exact absurd hb (expr_iff.mp hx).not_none
end
end K19

set_option Elab.async false
set_option linter.all false
set_option maxRecDepth 100000
set_option maxHeartbeats 4000000
/-! # A6: cond_at, read_cond -/
namespace K19
open PySem PySem.Spec PyProof.Rows L2
abbrev tvS : Str := Str.ofString "tv"
theorem eqT {a b : Str} (h : a = b) : decide (V.str a = V.str b) = true := decide_eq_true (congrArg V.str h)
theorem eqF {a b : Str} (h : a ≠ b) : decide (V.str a = V.str b) = false := decide_eq_false fun x => h (V.str.inj x)
def spCond (K : PySem.W.Frag) (n : Nat) : Sp := fun vs H Q E => ∃ (a : Addr) (ws : List Str) (i : Nat), vs = [.ref a, .int (i : Int)] ∧ SqL K H a (ws.map V.str) ∧ i ≤ ws.length ∧ ws.length + 1 ≤ i + n ∧ ws.length ≤ 60 ∧ (∀ w ∈ ws, w.length ≤ 1000000) ∧
  (∀ j x p H', At tvS ws true i j → Same H H' → H' p = some (.tup [x, .int (j : Int)]) → Q (.ref p) H') ∧ (scan tvS [true] (ws.drop i) = none → ∀ H', Same H H' → E (cX K) none H')
section
variable {P : Program} {w : World} {K : PySem.W.Frag} {mg : Str → Option Value} {base : Heap}
theorem sc_cond_at : FnScope ["words", "at", "word", "part", "behind", "left", "middle", "right"] ["words", "at"] (defScope (topS 22)) := ⟨rfl, rfl, rfl, by decide +kernel, rfl, by decide +kernel, by decide +kernel⟩
theorem D_cond_at (T : Txt K w mg) : ∀ n, Def P w K mg base (L2.CX P w) (n + 66) "cond_at" ["words", "at"] (spCond K n)
  | 0 => by
    refine Def.of (k := 65) (T.fn ("cond_at", 22) (by decide +kernel)) sc_cond_at (fun _ _ _ _ _ _ us hl => match us, hl with | [_, _], _ => rfl) (fun vs H Q E h => ?_) (fun f cdv A outer s H vs Q E hr h => ?_)
    · obtain ⟨a, ws, i, rfl, _⟩ := h
      rfl
    · obtain ⟨a, ws, i, rfl, _, h1, h2, _⟩ := h
      omega
  | n + 1 => by
    have D_cond_at : Def P w K mg base (L2.CX P w) (n + 66) "cond_at" ["words", "at"] (spCond K n) := D_cond_at T n
    have D_expr_at : Def P w K mg base (L2.CX P w) 65 "expr_at" ["words", "at", "letters"] (spExpr K 61) := D_expr_at T 61
    have mTurned : Mak P w K mg base "Turned" 1 := M_turned T
    have mBoth : Mak P w K mg base "Both" 3 := M_both T
    have mLess : Mak P w K mg base "Less" 2 := M_less T
    have mSame : Mak P w K mg base "Same" 2 := M_same T
    refine Def.of (k := n + 66) (T.fn ("cond_at", 22) (by decide +kernel)) sc_cond_at (fun _ _ _ _ _ _ us hl => match us, hl with | [_, _], _ => rfl) (fun vs H Q E h => ?_) (fun f cdv A outer s H vs Q E hr h => ?_)
    · obtain ⟨a, ws, i, rfl, _⟩ := h
      rfl
    · obtain ⟨a, ws, i, rfl, hS, hi, hn, h60, hw, q1, q2⟩ := h
      obtain ⟨gX, xX, kX, bX, tX⟩ := T.nx
      have fLen := T.free "len" (by decide +kernel)
      have hr2 := hr.mono (j := 2) (by omega)
      have hrE := hr.mono (j := 65) (by omega)
      refine ⟨_, (pss_cons (ps_if (pt_cmpR op_ge (pv 1) (pe_callB call_len_seq (by rfl) fLen PySem.boot_len (pa_cons (pv 0) pa_nil)) (nomark _))
          (pss_one (ps_raise rfl (takes_of rfl rfl rfl rfl) (pmk_own0 PySem.F.excBase_ValueError xX gX kX (raises_own bX tX) rfl))) pss_nil)
      (pss_cons (ps_set (i := 2) sc_cond_at.nd rfl (.inl rfl) (pe_ix ix_list (pv 0) (pv 1) (fun _ _ => rfl)))
      (pss_cons (ps_if (pt_cmpR op_eq (pv 2) pe_str (nomark _))
          (pss_cons (ps_asg (pe_dx D_cond_at hr (takes_of rfl rfl rfl rfl) (fun _ _ _ _ x => x) (pa_cons (pv 0) (pa_cons (pe_op op_add (pv 1) pe_int) pa_nil))) (pg_tup (by rfl) (pgs_cons (pg_name (i := 3) sc_cond_at.nd rfl (.inl rfl)) (pgs_cons (pg_name (i := 4) sc_cond_at.nd rfl (.inl rfl)) pgs_nil))))
          (pss_one (ps_ret (pe_tup (pa_cons (pe_new mTurned hr2 (pa_cons (pv 3) pa_nil)) (pa_cons (pv 4) pa_nil)))))) pss_nil)
      (pss_cons (ps_if (PW.pt (pw_or (pt_cmpR op_eq (pv 2) pe_str (nomark _)) (pw_or1 (pt_cmpR op_eq (pv 2) pe_str (nomark _)))))
          (pss_cons (ps_asg (pe_dx D_cond_at hr (takes_of rfl rfl rfl rfl) (fun _ _ _ _ x => x) (pa_cons (pv 0) (pa_cons (pe_op op_add (pv 1) pe_int) pa_nil))) (pg_tup (by rfl) (pgs_cons (pg_name (i := 5) sc_cond_at.nd rfl (.inl rfl)) (pgs_cons (pg_name (i := 6) sc_cond_at.nd rfl (.inl rfl)) pgs_nil))))
          (pss_cons (ps_asg (pe_dx D_cond_at hr (takes_of rfl rfl rfl rfl) (fun _ _ _ _ x => x) (pa_cons (pv 0) (pa_cons (pv 6) pa_nil))) (pg_tup (by rfl) (pgs_cons (pg_name (i := 7) sc_cond_at.nd rfl (.inl rfl)) (pgs_cons (pg_name (i := 4) sc_cond_at.nd rfl (.inl rfl)) pgs_nil))))
          (pss_one (ps_ret (pe_tup (pa_cons (pe_new mBoth hr2 (pa_cons (pv 2) (pa_cons (pv 5) (pa_cons (pv 7) pa_nil)))) (pa_cons (pv 4) pa_nil))))))) pss_nil)
      (pss_cons (ps_if (PW.pt (pw_and (pt_cmpR op_ne (pv 2) pe_str (nomark _)) (pw_and1 (pt_cmpR op_ne (pv 2) pe_str (nomark _)))))
          (pss_one (ps_raise rfl (takes_of rfl rfl rfl rfl) (pmk_own0 PySem.F.excBase_ValueError xX gX kX (raises_own bX tX) rfl))) pss_nil)
      (pss_cons (ps_asg (pe_dx D_expr_at hrE (takes_of rfl rfl rfl rfl) (fun _ _ _ _ x => x) (pa_cons (pv 0) (pa_cons (pe_op op_add (pv 1) pe_int) (pa_cons pe_str pa_nil)))) (pg_tup (by rfl) (pgs_cons (pg_name (i := 5) sc_cond_at.nd rfl (.inl rfl)) (pgs_cons (pg_name (i := 6) sc_cond_at.nd rfl (.inl rfl)) pgs_nil))))
      (pss_cons (ps_asg (pe_dx D_expr_at hrE (takes_of rfl rfl rfl rfl) (fun _ _ _ _ x => x) (pa_cons (pv 0) (pa_cons (pv 6) (pa_cons pe_str pa_nil)))) (pg_tup (by rfl) (pgs_cons (pg_name (i := 7) sc_cond_at.nd rfl (.inl rfl)) (pgs_cons (pg_name (i := 4) sc_cond_at.nd rfl (.inl rfl)) pgs_nil))))
      (pss_cons (ps_if (pt_cmpR op_eq (pv 2) pe_str (nomark _))
          (pss_one (ps_ret (pe_tup (pa_cons (pe_new mLess hr2 (pa_cons (pv 5) (pa_cons (pv 7) pa_nil))) (pa_cons (pv 4) pa_nil))))) pss_nil)
      (pss_one (ps_ret (pe_tup (pa_cons (pe_new mSame hr2 (pa_cons (pv 5) (pa_cons (pv 7) pa_nil))) (pa_cons (pv 4) pa_nil))))))))))))), ?_⟩
      have hl : (ws.map V.str).length = ws.length := List.length_map _
      refine ⟨_, rfl, _, rfl, a, _, rfl, .inl hS, _, _, rfl, rfl, _, rfl, ite2 (fun h => ?_) (fun h => ?_)⟩
      · have h := of_decide_eq_true h
        rw [hl] at h
        exact q2 (out_bad (by omega) _) H (Same.refl H)
      · have hlt : i < ws.length := by
          have : ¬ ((ws.map V.str).length : Int) ≤ (i : Int) := fun x => h (decide_eq_true x)
          rw [hl] at this
          omega
        obtain ⟨wd, hwd⟩ : ∃ wd, ws[i]? = some wd := ⟨_, List.getElem?_eq_getElem hlt⟩
        have hwl : wd.length ≤ 1000000 := hw wd (List.mem_of_getElem? hwd)
        refine ⟨_, rfl, _, rfl, a, _, _, _, rfl, rfl, hS, at_strs hwd, ?_⟩
        refine ⟨_, rfl, rfl, _, rfl, ite2 (fun h => ?_) (fun h => ?_)⟩
        · have hN : isNot wd = true := by
            have := V.str.inj (of_decide_eq_true h)
            unfold isNot
            exact decide_eq_true this
          have st := not_step (L := tvS) hwd hN
          refine ⟨_, rfl, _, rfl, _, _, rfl, rfl, a, ws, i + 1, rfl, hS, by omega, by omega, h60, hw, fun j1 x1 p1 H1 A1 s1 e1 => ?_, fun hb H1 s1 => q2 (st.trans hb) H1 s1⟩
          refine ⟨p1, _, rfl, SqT.of e1, rfl, _, _, rfl, _, _, rfl, rfl, ?_⟩
          exact ⟨_, rfl, rfl, fun x H3 s3 => ⟨_, rfl, line2, fun p np => q1 j1 (.ref x) p _ (one_ok st A1) ((s1.trans s3).trans (same_new np)) upd_same⟩⟩
        · have hN : isNot wd = false := by
            unfold isNot
            exact decide_eq_false fun x => h (eqT x)
          refine ⟨_, rfl, rfl, _, rfl, ite2 (fun h => iteT ?ao1) (fun h => ⟨_, rfl, rfl, _, rfl, ite2 (fun h' => ?ao2) (fun h' => ?rest)⟩)⟩
          case' ao1 =>
            have hA : isAO wd = true := by
              unfold isAO
              rw [decide_eq_true (V.str.inj (of_decide_eq_true h))]
              rfl
          case' ao2 =>
            have hA : isAO wd = true := by
              unfold isAO
              rw [decide_eq_true (V.str.inj (of_decide_eq_true h')), Bool.or_true]
          case rest =>
            have hA : isAO wd = false := by
              unfold isAO
              rw [decide_eq_false (fun x => h (eqT x)), decide_eq_false (fun x => h' (eqT x))]
              rfl
            refine ⟨_, rfl, rfl, _, rfl, ite2 (fun h2 => ⟨_, rfl, rfl, _, rfl, ite2 (fun h3 => ?bad) (fun h3 => ?le1)⟩) (fun h2 => iteF ?le2)⟩
            case bad =>
              refine q2 (le_bad hwd hN hA ?_) H (Same.refl H)
              unfold isLE
              rw [decide_eq_false (fun x => (by rw [eqT x] at h2; cases h2)), decide_eq_false (fun x => (by rw [eqT x] at h3; cases h3))]
              rfl
            case' le1 =>
              have hL : isLE wd = true := by
                unfold isLE
                by_cases hx : wd = Str.ofString "="
                · rw [decide_eq_true hx, Bool.or_true]
                · rw [eqF hx] at h3
                  exact absurd rfl h3
            case' le2 =>
              have hL : isLE wd = true := by
                unfold isLE
                by_cases hx : wd = Str.ofString "<"
                · rw [decide_eq_true hx]
                  rfl
                · rw [eqF hx] at h2
                  exact absurd rfl h2
            all_goals
              have st := le_step (L := tvS) hwd hN hA hL
              refine ⟨_, rfl, _, rfl, _, _, rfl, rfl, a, ws, i + 1, tvS, rfl, hS, by omega, by omega, hw, fun j1 x1 p1 H1 A1 s1 e1 => ?_, fun hb H1 s1 => q2 (two_bad1 st hb) H1 s1⟩
              refine ⟨p1, _, rfl, SqT.of e1, rfl, _, _, rfl, _, _, rfl, rfl, ?_⟩
              refine ⟨_, rfl, _, rfl, a, ws, j1, tvS, rfl, s1.seq hS, A1.2.2, by have := A1.2.1; omega, hw, fun j2 x2 p2 H2 A2 s2 e2 => ?_, fun hb H2 s2 => q2 (two_bad2 st A1 hb) H2 (s1.trans s2)⟩
              refine ⟨p2, _, rfl, SqT.of e2, rfl, _, _, rfl, _, _, rfl, rfl, ?_⟩
              refine ⟨_, rfl, rfl, _, rfl, ite2 (fun _ => ?_) (fun _ => ?_)⟩
              · exact ⟨_, rfl, _, rfl, rfl, fun x H3 s3 => ⟨_, rfl, line2, fun p np => q1 j2 (.ref x) p _ (two_ok st A1 A2) (((s1.trans s2).trans s3).trans (same_new np)) upd_same⟩⟩
              · exact ⟨_, rfl, _, rfl, rfl, fun x H3 s3 => ⟨_, rfl, line2, fun p np => q1 j2 (.ref x) p _ (two_ok st A1 A2) (((s1.trans s2).trans s3).trans (same_new np)) upd_same⟩⟩
          all_goals
            have st := ao_step (L := tvS) hwd hN hA
            refine ⟨_, rfl, _, rfl, _, _, rfl, rfl, a, ws, i + 1, rfl, hS, by omega, by omega, h60, hw, fun j1 x1 p1 H1 A1 s1 e1 => ?_, fun hb H1 s1 => q2 (two_bad1 st hb) H1 s1⟩
            refine ⟨p1, _, rfl, SqT.of e1, rfl, _, _, rfl, _, _, rfl, rfl, ?_⟩
            refine ⟨_, rfl, _, rfl, a, ws, j1, rfl, s1.seq hS, A1.2.2, by have := A1.2.1; omega, h60, hw, fun j2 x2 p2 H2 A2 s2 e2 => ?_, fun hb H2 s2 => q2 (two_bad2 st A1 hb) H2 (s1.trans s2)⟩
            refine ⟨p2, _, rfl, SqT.of e2, rfl, _, _, rfl, _, _, rfl, rfl, ?_⟩
            exact ⟨_, rfl, _, rfl, _, rfl, rfl, fun x H3 s3 => ⟨_, rfl, line2, fun p np => q1 j2 (.ref x) p _ (two_ok st A1 A2) (((s1.trans s2).trans s3).trans (same_new np)) upd_same⟩⟩
/-- words that tell a condition -/
def spReadC (K : PySem.W.Frag) : Sp := fun vs H Q E => ∃ (a : Addr) (ws : List Str), vs = [.ref a] ∧ SqL K H a (ws.map V.str) ∧ ws.length ≤ 60 ∧ (∀ w ∈ ws, w.length ≤ 1000000) ∧
  (isCond ws = true → ∀ v H', Same H H' → Q v H') ∧ (isCond ws = false → ∀ H', Same H H' → E (cX K) none H')
theorem sc_read_cond : FnScope ["words", "found", "behind"] ["words"] (defScope (topS 24)) := ⟨rfl, rfl, rfl, by decide +kernel, rfl, by decide +kernel, by decide +kernel⟩
theorem D_read_cond (T : Txt K w mg) : Def P w K mg base (L2.CX P w) 128 "read_cond" ["words"] (spReadC K) := by
  have D_cond_at : Def P w K mg base (L2.CX P w) 127 "cond_at" ["words", "at"] (spCond K 61) := D_cond_at T 61
  refine Def.of (T.fn ("read_cond", 24) (by decide +kernel)) sc_read_cond (fun _ _ _ _ _ _ us hl => match us, hl with | [_], _ => rfl) (fun vs H Q E h => ?_) (fun f cdv A outer s H vs Q E hr h => ?_)
  · obtain ⟨a, ws, rfl, _⟩ := h
    rfl
  · obtain ⟨a, ws, rfl, hS, hn, hw, q1, q2⟩ := h
    obtain ⟨gX, xX, kX, bX, tX⟩ := T.nx
    have fLen := T.free "len" (by decide +kernel)
    refine ⟨_, (pss_cons (ps_asg (pe_dx D_cond_at hr (takes_of rfl rfl rfl rfl) (fun _ _ _ _ x => x) (pa_cons (pv 0) (pa_cons pe_int pa_nil))) (pg_tup (by rfl) (pgs_cons (pg_name (i := 1) sc_read_cond.nd rfl (.inl rfl)) (pgs_cons (pg_name (i := 2) sc_read_cond.nd rfl (.inl rfl)) pgs_nil))))
      (pss_cons (ps_if (pt_cmpR op_ne (pv 2) (pe_callB call_len_seq (by rfl) fLen PySem.boot_len (pa_cons (pv 0) pa_nil)) (nomark _))
          (pss_one (ps_raise rfl (takes_of rfl rfl rfl rfl) (pmk_own0 PySem.F.excBase_ValueError xX gX kX (raises_own bX tX) rfl))) pss_nil)
      (pss_one (ps_ret (pv 1))))), ?_⟩
    have hl : (ws.map V.str).length = ws.length := List.length_map _
    refine ⟨_, rfl, a, ws, 0, rfl, hS, Nat.zero_le _, by omega, hn, hw, fun j x p H1 A1 s1 e1 => ?_, fun hb H1 s1 => q2 ?_ H1 s1⟩
    · refine ⟨p, _, rfl, SqT.of e1, rfl, _, _, rfl, _, _, rfl, rfl, ?_⟩
      refine ⟨_, rfl, _, rfl, a, _, rfl, .inl (s1.seq hS), rfl, _, rfl, ?_⟩
      rw [hl]
      by_cases hj : j = ws.length
      · have hd : (!decide (V.int (j : Int) = V.int (ws.length : Int))) = false := by rw [hj]; simp
        have he : isCond ws = true := by rw [cond_iff]; rw [hj] at A1; exact A1
        rw [hd]
        exact iteF ⟨_, rfl, q1 he x H1 s1⟩
      · have hd : (!decide (V.int (j : Int) = V.int (ws.length : Int))) = true := by
          simp only [V.int.injEq, Bool.not_eq_true', decide_eq_false_iff_not]
          omega
        have he : isCond ws = false := by
          cases hx : isCond ws with
          | false => rfl
          | true => exact absurd (A1.uniq (cond_iff.mp hx)) hj
        rw [hd]
        exact iteT (q2 he H1 s1)
    · cases hx : isCond ws with
      | false => rfl
      | true => exact absurd hb (cond_iff.mp hx).not_none
end
end K19

set_option Elab.async false
set_option linter.all false
set_option maxRecDepth 100000
set_option maxHeartbeats 4000000
/-! # A7: is_from, is_expr, is_cond, is_share, is_slide, is_rest -/
namespace K19
open PySem PySem.Spec PyProof.Rows L2
abbrev Small (ws : List Str) : Prop := ∀ w ∈ ws, w.length ≤ 1000000
def spFrom : Sp := fun vs H Q _ => ∃ (z : Str) (lo hi : Int), vs = [.str z, .int lo, .int hi] ∧ z.length ≤ 1000000 ∧ Q (.bl (isFrom z lo hi)) H
def spIsExpr (K : PySem.W.Frag) : Sp := fun vs H Q _ => ∃ (a : Addr) (ws : List Str) (L : Str), vs = [.ref a, .str L] ∧ SqL K H a (ws.map V.str) ∧ ws.length ≤ 60 ∧ Small ws ∧ ∀ H', Same H H' → Q (.bl (isExpr L ws)) H'
def spIsCond (K : PySem.W.Frag) : Sp := fun vs H Q _ => ∃ (a : Addr) (ws : List Str), vs = [.ref a] ∧ SqL K H a (ws.map V.str) ∧ ws.length ≤ 60 ∧ Small ws ∧ ∀ H', Same H H' → Q (.bl (isCond ws)) H'
def spWords (K : PySem.W.Frag) (f : List Str → Bool) : Sp := fun vs H Q _ => ∃ (a : Addr) (ws : List Str), vs = [.ref a] ∧ SqL K H a (ws.map V.str) ∧ Small ws ∧ Q (.bl (f ws)) H
def spRest (K : PySem.W.Frag) : Sp := fun vs H Q _ => ∃ (wd : Str) (a : Addr) (ws : List Str), vs = [.str wd, .ref a] ∧ SqL K H a (ws.map V.str) ∧ ws.length ≤ 60 ∧ Small ws ∧ ∀ H', Same H H' → Q (.bl (isRest wd ws)) H'
theorem share_no {ws : List Str} (h : ws.length ≠ 2) : isShare ws = false := match ws, h with
  | [], _ => rfl
  | [_], _ => rfl
  | [_, _], h => absurd rfl h
  | _ :: _ :: _ :: _, _ => rfl
theorem win_no {ws : List Str} (h : ws.length ≠ 2) : isWin ws = false := match ws, h with
  | [], _ => rfl
  | [_], _ => rfl
  | [_, _], h => absurd rfl h
  | _ :: _ :: _ :: _, _ => rfl
theorem slide_no {ws : List Str} (h : ws.length ≠ 3) : isSlide ws = false := match ws, h with
  | [], _ => rfl
  | [_], _ => rfl
  | [_, _], _ => rfl
  | [_, _, _], h => absurd rfl h
  | _ :: _ :: _ :: _ :: _, _ => rfl
theorem two_of {ws : List Str} (h : ws.length = 2) : ∃ x y, ws = [x, y] := match ws, h with
  | [x, y], _ => ⟨x, y, rfl⟩
theorem three_of {ws : List Str} (h : ws.length = 3) : ∃ x y z, ws = [x, y, z] := match ws, h with
  | [x, y, z], _ => ⟨x, y, z, rfl⟩
theorem count_len {w : Str} (h : isCount w = true) : intText? w = some (numVal w) ∧ w.length ≤ 640 := ⟨(count_int h).1, Nat.le_trans (count_int h).2.1 (by decide)⟩
theorem from_count {w : Str} {lo hi : Int} (h : isFrom w lo hi = true) : isCount w = true := (Bool.and_eq_true_iff.mp h).1
theorem len_strs {ws : List Str} {n : Nat} (h : decide (V.int ((ws.map V.str).length : Int) = V.int (n : Int)) = true) : ws.length = n := by
  have h := V.int.inj (of_decide_eq_true h)
  rw [List.length_map] at h
  omega
theorem len_strs_no {ws : List Str} {n : Nat} (h : ¬ decide (V.int ((ws.map V.str).length : Int) = V.int (n : Int)) = true) : ws.length ≠ n := fun x => h (by
  rw [List.length_map, x]
  exact decide_eq_true rfl)
section
variable {X : Cx}
/-- a list == [] -/
def rEqE (K : PySem.W.Frag) : R2 := fun x y H Q => ∃ (a b : Addr) (xs : List V), x = .ref a ∧ y = .ref b ∧ SqL K H a xs ∧ SqL K H b [] ∧ Q (.bl xs.isEmpty) H
theorem op_eqE (hu : X.A.units < cLine) : OpR X (compareOp .Eq) (rEqE X.K) := by
  intro pins s σ H x y v u Q I rx ry h
  obtain ⟨a, b, xs, rfl, rfl, ha, hb, q⟩ := h
  cases (show v = Value.ref a from rx)
  cases (show u = Value.ref b from ry)
  obtain ⟨us, r1, p1, _⟩ := I.list ha
  obtain ⟨ws, r2, p2, _⟩ := I.list hb
  cases r2
  cases r1 with
  | nil => exact SeqAt.eq_listAt (e := fun _ => true) p1.isList p2.isList rfl hu (fun j h1 _ => absurd h1 (Nat.not_lt_zero j)) ⟨.bl true, H, I, rfl, q⟩
  | cons h t => exact SeqAt.eq_list_lengthsAt p1.isList p2.isList (by simp) hu ⟨.bl false, H, I, rfl, q⟩
end
section
variable {P : Program} {w : World} {K : PySem.W.Frag} {mg : Str → Option Value} {base : Heap}
theorem sc_is_from : FnScope ["word", "least", "most"] ["word", "least", "most"] (defScope (topS 29)) := ⟨rfl, rfl, rfl, by decide +kernel, rfl, by decide +kernel, by decide +kernel⟩
theorem D_is_from (T : Txt K w mg) : Def P w K mg base CX0 2 "is_from" ["word", "least", "most"] spFrom := by
  have D_is_count : DefW P w K mg base 1 "is_count" ["word", "most"] [.int 20] spCount := D_is_count T
  refine Def.of (T.fn ("is_from", 29) (by decide +kernel)) sc_is_from (fun _ _ _ _ _ _ us hl => match us, hl with | [_, _, _], _ => rfl) (fun vs H Q E h => ?_) (fun f cdv A outer s H vs Q E hr h => ?_)
  · obtain ⟨z, lo, hi, rfl, _⟩ := h
    rfl
  · obtain ⟨z, lo, hi, rfl, hz, q⟩ := h
    have fInt := T.free "int" (by decide +kernel)
    refine ⟨_, PSs.nox ((pss_one (ps_ret (pe_and (pe_dw D_is_count hr (pa_cons (pv 0) pa_nil)) (pe_one (pe_chain op_le op_le (pv 1) (pe_callTy call_int_str (by rfl) fInt (by decide +kernel) (pa_cons (pv 0) pa_nil)) (pv 2))))))), ?_⟩
    refine ⟨_, rfl, z, rfl, hz, _, rfl, ite2 (fun h => ?_) (fun h => ?_)⟩
    · unfold isFrom at q
      rw [h] at q
      obtain ⟨h1, h2⟩ := count_len h
      refine ⟨_, rfl, _, rfl, z, _, rfl, h1, h2, _, _, rfl, rfl, _, rfl, ite2 (fun h3 => ?_) (fun h3 => ?_)⟩
      · rw [h3] at q
        exact ⟨_, rfl, _, _, rfl, rfl, q⟩
      · rw [Bool.eq_false_iff.mpr h3] at q
        exact q
    · unfold isFrom at q
      rw [Bool.eq_false_iff.mpr h] at q
      exact q
theorem sc_is_expr : FnScope ["words", "letters"] ["words", "letters"] (defScope (topS 30)) := ⟨rfl, rfl, rfl, by decide +kernel, rfl, by decide +kernel, by decide +kernel⟩
theorem D_is_expr (T : Txt K w mg) : Def P w K mg base CX0 67 "is_expr" ["words", "letters"] (spIsExpr K) := by
  have D_read_expr : Def P w K mg base (L2.CX P w) 66 "read_expr" ["words", "letters"] (spRead K) := D_read_expr T
  refine Def.of (T.fn ("is_expr", 30) (by decide +kernel)) sc_is_expr (fun _ _ _ _ _ _ us hl => match us, hl with | [_, _], _ => rfl) (fun vs H Q E h => ?_) (fun f cdv A outer s H vs Q E hr h => ?_)
  · obtain ⟨a, ws, L, rfl, _⟩ := h
    rfl
  · obtain ⟨a, ws, L, rfl, hS, hn, hw, q⟩ := h
    obtain ⟨gX, xX, kX, bX, tX⟩ := T.nx
    refine ⟨_, PSs.nox (pss_one (ps_try_onlyE (pss_one (ps_ret pe_bl)) rfl rfl ⟨rfl, rfl, .inl gX⟩ takes_none5 (fun W pn xe tk _ => pss_one (ps_expr (pe_ds D_read_expr hr tk (pa_cons (pv 0) (pa_cons (pv 1) pa_nil))))) (fun _ _ _ _ _ _ _ => pss_one (ps_ret pe_bl)))), ?_⟩
    refine ⟨_, rfl, _, rfl, a, ws, L, rfl, hS, hn, hw, fun h1 v H1 s1 => ?_, fun h1 H1 s1 => ?_⟩
    · rw [h1] at q
      exact q H1 s1
    · rw [h1] at q
      exact ⟨true, T.exx, fun _ a na => q H1 s1, fun h => by cases h⟩
theorem sc_is_cond : FnScope ["words"] ["words"] (defScope (topS 31)) := ⟨rfl, rfl, rfl, by decide +kernel, rfl, by decide +kernel, by decide +kernel⟩
theorem D_is_cond (T : Txt K w mg) : Def P w K mg base CX0 129 "is_cond" ["words"] (spIsCond K) := by
  have D_read_cond : Def P w K mg base (L2.CX P w) 128 "read_cond" ["words"] (spReadC K) := D_read_cond T
  refine Def.of (T.fn ("is_cond", 31) (by decide +kernel)) sc_is_cond (fun _ _ _ _ _ _ us hl => match us, hl with | [_], _ => rfl) (fun vs H Q E h => ?_) (fun f cdv A outer s H vs Q E hr h => ?_)
  · obtain ⟨a, ws, rfl, _⟩ := h
    rfl
  · obtain ⟨a, ws, rfl, hS, hn, hw, q⟩ := h
    obtain ⟨gX, xX, kX, bX, tX⟩ := T.nx
    refine ⟨_, PSs.nox (pss_one (ps_try_onlyE (pss_one (ps_ret pe_bl)) rfl rfl ⟨rfl, rfl, .inl gX⟩ takes_none5 (fun W pn xe tk _ => pss_one (ps_expr (pe_ds D_read_cond hr tk (pa_cons (pv 0) pa_nil)))) (fun _ _ _ _ _ _ _ => pss_one (ps_ret pe_bl)))), ?_⟩
    refine ⟨_, rfl, a, ws, rfl, hS, hn, hw, fun h1 v H1 s1 => ?_, fun h1 H1 s1 => ?_⟩
    · rw [h1] at q
      exact q H1 s1
    · rw [h1] at q
      exact ⟨true, T.exx, fun _ a na => q H1 s1, fun h => by cases h⟩
theorem sc_is_share : FnScope ["rest"] ["rest"] (defScope (topS 32)) := ⟨rfl, rfl, rfl, by decide +kernel, rfl, by decide +kernel, by decide +kernel⟩
theorem D_is_share (T : Txt K w mg) : Def P w K mg base CX0 3 "is_share" ["rest"] (spWords K isShare) := by
  have D_is_from : Def P w K mg base CX0 2 "is_from" ["word", "least", "most"] spFrom := D_is_from T
  refine Def.of (T.fn ("is_share", 32) (by decide +kernel)) sc_is_share (fun _ _ _ _ _ _ us hl => match us, hl with | [_], _ => rfl) (fun vs H Q E h => ?_) (fun f cdv A outer s H vs Q E hr h => ?_)
  · obtain ⟨a, ws, rfl, _⟩ := h
    rfl
  · obtain ⟨a, ws, rfl, hS, hw, q⟩ := h
    have fInt := T.free "int" (by decide +kernel)
    have fLen := T.free "len" (by decide +kernel)
    refine ⟨_, PSs.nox ((pss_one (ps_ret (pe_and (pe_cmpR op_eq (pe_callB call_len_seq (by rfl) fLen PySem.boot_len (pa_cons (pv 0) pa_nil)) pe_int (nomark _)) (pe_and (pe_d D_is_from hr (pa_cons (pe_ix ix_list (pv 0) pe_int (fun _ _ => rfl)) (pa_cons pe_int (pa_cons pe_int pa_nil)))) (pe_one (pe_d D_is_from hr (pa_cons (pe_ix ix_list (pv 0) pe_int (fun _ _ => rfl)) (pa_cons pe_int (pa_cons (pe_op op_sub (pe_callTy call_int_str (by rfl) fInt (by decide +kernel) (pa_cons (pe_ix ix_list (pv 0) pe_int (fun _ _ => rfl)) pa_nil)) pe_int) pa_nil)))))))))), ?_⟩
    refine ⟨_, rfl, a, _, rfl, .inl hS, rfl, _, rfl, ite2 (fun h => ?_) (fun h => ?_)⟩
    · obtain ⟨x, y, rfl⟩ := two_of (len_strs h)
      have hx := hw x (by simp)
      have hy := hw y (by simp)
      have q : Q (.bl (isFrom y 1 8 && isFrom x 0 (numVal y - 1))) H := q
      refine ⟨_, rfl, a, _, _, _, rfl, rfl, hS, at_strs (i := 1) rfl, y, _, _, rfl, hy, _, rfl, ite2 (fun h1 => ?_) (fun h1 => ?_)⟩
      · rw [h1] at q
        obtain ⟨k1, k2⟩ := count_len (from_count h1)
        refine ⟨_, rfl, a, _, _, _, rfl, rfl, hS, at_strs (i := 0) rfl, _, rfl, a, _, _, _, rfl, rfl, hS, at_strs (i := 1) rfl, y, _, rfl, k1, k2, _, _, rfl, rfl, x, _, _, rfl, hx, q⟩
      · rw [Bool.eq_false_iff.mpr h1] at q
        exact q
    · rw [share_no (len_strs_no h)] at q
      exact q
theorem sc_is_slide : FnScope ["rest"] ["rest"] (defScope (topS 33)) := ⟨rfl, rfl, rfl, by decide +kernel, rfl, by decide +kernel, by decide +kernel⟩
theorem D_is_slide (T : Txt K w mg) : Def P w K mg base CX0 3 "is_slide" ["rest"] (spWords K isSlide) := by
  have D_is_from : Def P w K mg base CX0 2 "is_from" ["word", "least", "most"] spFrom := D_is_from T
  refine Def.of (T.fn ("is_slide", 33) (by decide +kernel)) sc_is_slide (fun _ _ _ _ _ _ us hl => match us, hl with | [_], _ => rfl) (fun vs H Q E h => ?_) (fun f cdv A outer s H vs Q E hr h => ?_)
  · obtain ⟨a, ws, rfl, _⟩ := h
    rfl
  · obtain ⟨a, ws, rfl, hS, hw, q⟩ := h
    have fInt := T.free "int" (by decide +kernel)
    have fLen := T.free "len" (by decide +kernel)
    obtain ⟨aF, gFOLDS, tF⟩ := T.folds
    obtain ⟨_, gMOST_TIME⟩ := T.most
    refine ⟨_, PSs.nox ((pss_cons (ps_if (PW.pt (pw_or (pt_cmpR op_ne (pe_callB call_len_seq (by rfl) fLen PySem.boot_len (pa_cons (pv 0) pa_nil)) pe_int (nomark _)) (pw_or (pt_cmpR op_notIn_seq (pe_ix ix_list (pv 0) pe_int (fun _ _ => rfl)) (pe_gr rfl gFOLDS) (by rfl)) (pw_or1 (pt_not (pt_val (pe_d D_is_from hr (pa_cons (pe_ix ix_list (pv 0) pe_int (fun _ _ => rfl)) (pa_cons pe_int (pa_cons (pe_gi rfl gMOST_TIME) pa_nil))))))))))
          (pss_one (ps_ret pe_bl)) pss_nil)
      (pss_one (ps_ret (pe_and (pe_d D_is_from hr (pa_cons (pe_ix ix_list (pv 0) pe_int (fun _ _ => rfl)) (pa_cons pe_int (pa_cons (pe_callTy call_int_str (by rfl) fInt (by decide +kernel) (pa_cons (pe_ix ix_list (pv 0) pe_int (fun _ _ => rfl)) pa_nil)) pa_nil)))) (pe_one (pe_cmpR op_le (pe_callTy call_int_str (by rfl) fInt (by decide +kernel) (pa_cons (pe_ix ix_list (pv 0) pe_int (fun _ _ => rfl)) pa_nil)) (pe_op op_mul pe_int (pe_callTy call_int_str (by rfl) fInt (by decide +kernel) (pa_cons (pe_ix ix_list (pv 0) pe_int (fun _ _ => rfl)) pa_nil))) (nomark _)))))))), ?_⟩
    refine ⟨_, rfl, a, _, rfl, .inl hS, rfl, _, rfl, ite2 (fun h => ?_) (fun h => ?_)⟩
    · have : ws.length ≠ 3 := by
        refine len_strs_no fun x => ?_
        rw [show decide (V.int ((ws.map V.str).length : Int) = V.int 3) = true from x] at h
        cases h
      rw [slide_no this] at q
      exact iteT q
    · have : ws.length = 3 := by
        cases e : decide (V.int ((ws.map V.str).length : Int) = V.int 3) with
        | true => exact len_strs e
        | false => rw [e] at h; exact absurd rfl h
      obtain ⟨x, y, z, rfl⟩ := three_of this
      have hx := hw x (by simp)
      have hy := hw y (by simp)
      have q : Q (.bl (isFold z && (isFrom x 1 1000000000000 && (isFrom y 1 (numVal x) && decide (numVal x ≤ 8 * numVal y))))) H := q
      refine ⟨_, rfl, a, _, _, _, rfl, rfl, hS, at_strs (i := 2) rfl, aF, _, rfl, .inr (tF H), rfl, flat_strs _, _, rfl, ite2 (fun h => ?_) (fun h => ?_)⟩
      · rw [inV_strs] at h
        have hf : isFold z = false := by simpa [isFold] using h
        rw [hf] at q
        exact q
      · rw [inV_strs] at h
        have hf : isFold z = true := by simpa [isFold] using h
        rw [hf] at q
        refine ⟨_, rfl, a, _, _, _, rfl, rfl, hS, at_strs (i := 0) rfl, x, _, _, rfl, hx, ?_⟩
        cases hx1 : isFrom x 1 1000000000000 with
        | false =>
          rw [hx1] at q
          exact ⟨_, rfl, iteT q⟩
        | true =>
          rw [hx1] at q
          obtain ⟨k1, k2⟩ := count_len (from_count hx1)
          refine ⟨_, rfl, iteF ⟨_, rfl, a, _, _, _, rfl, rfl, hS, at_strs (i := 1) rfl, ?_⟩⟩
          refine ⟨_, rfl, a, _, _, _, rfl, rfl, hS, at_strs (i := 0) rfl, x, _, rfl, k1, k2, y, _, _, rfl, hy, _, rfl, ite2 (fun h1 => ?_) (fun h1 => ?_)⟩
          · rw [h1] at q
            obtain ⟨j1, j2⟩ := count_len (from_count h1)
            exact ⟨_, rfl, a, _, _, _, rfl, rfl, hS, at_strs (i := 0) rfl, x, _, rfl, k1, k2, _, rfl, a, _, _, _, rfl, rfl, hS, at_strs (i := 1) rfl, y, _, rfl, j1, j2, _, _, rfl, rfl, .inl ⟨by decide, by decide⟩, _, _, rfl, rfl, q⟩
          · rw [Bool.eq_false_iff.mpr h1] at q
            exact q
theorem sc_is_rest : FnScope ["word", "rest"] ["word", "rest"] (defScope (topS 34)) := ⟨rfl, rfl, rfl, by decide +kernel, rfl, by decide +kernel, by decide +kernel⟩
theorem D_is_rest (T : Txt K w mg) : Def P w K mg base CX0 130 "is_rest" ["word", "rest"] (spRest K) := by
  have D_is_from : Def P w K mg base CX0 2 "is_from" ["word", "least", "most"] spFrom := D_is_from T
  have D_is_share : Def P w K mg base CX0 3 "is_share" ["rest"] (spWords K isShare) := D_is_share T
  have D_is_slide : Def P w K mg base CX0 3 "is_slide" ["rest"] (spWords K isSlide) := D_is_slide T
  have D_is_expr : Def P w K mg base CX0 67 "is_expr" ["words", "letters"] (spIsExpr K) := D_is_expr T
  have D_is_cond : Def P w K mg base CX0 129 "is_cond" ["words"] (spIsCond K) := D_is_cond T
  refine Def.of (T.fn ("is_rest", 34) (by decide +kernel)) sc_is_rest (fun _ _ _ _ _ _ us hl => match us, hl with | [_, _], _ => rfl) (fun vs H Q E h => ?_) (fun f cdv A outer s H vs Q E hr h => ?_)
  · obtain ⟨wd, a, ws, rfl, _⟩ := h
    rfl
  · obtain ⟨wd, a, ws, rfl, hS, hn, hw, q⟩ := h
    have fLen := T.free "len" (by decide +kernel)
    obtain ⟨aF, gFOLDS, tF⟩ := T.folds
    obtain ⟨_, gMOST_TIME⟩ := T.most
    have hr2 := hr.mono (j := 2) (by decide)
    have hr3 := hr.mono (j := 3) (by decide)
    have hr67 := hr.mono (j := 67) (by decide)
    refine ⟨_, PSs.nox ((pss_cons (ps_if (pt_cmpR op_eq (pv 0) pe_str (nomark _))
          (pss_one (ps_ret (pe_d D_is_cond hr (pa_cons (pv 1) pa_nil)))) pss_nil)
      (pss_cons (ps_if (pt_cmpR op_eq (pv 0) pe_str (nomark _))
          (pss_one (ps_ret (pe_d D_is_expr hr67 (pa_cons (pv 1) (pa_cons pe_str pa_nil))))) pss_nil)
      (pss_cons (ps_if (pt_cmpR op_eq (pv 0) pe_str (nomark _))
          (pss_one (ps_ret (pe_d D_is_share hr3 (pa_cons (pv 1) pa_nil)))) pss_nil)
      (pss_cons (ps_if (PW.pt (pw_or (pt_cmpR op_eq (pv 0) pe_str (nomark _)) (pw_or1 (pt_cmpR op_eq (pv 0) pe_str (nomark _)))))
          (pss_one (ps_ret (pe_and (pe_cmpR op_eq (pe_callB call_len_seq (by rfl) fLen PySem.boot_len (pa_cons (pv 1) pa_nil)) pe_int (nomark _)) (pe_and (pe_cmpR op_in_seq (pe_ix ix_list (pv 1) pe_int (fun _ _ => rfl)) (pe_gr rfl gFOLDS) (by rfl)) (pe_one (pe_d D_is_from hr2 (pa_cons (pe_ix ix_list (pv 1) pe_int (fun _ _ => rfl)) (pa_cons pe_int (pa_cons (pe_gi rfl gMOST_TIME) pa_nil))))))))) pss_nil)
      (pss_cons (ps_if (pt_cmpR op_eq (pv 0) pe_str (nomark _))
          (pss_one (ps_ret (pe_d D_is_slide hr3 (pa_cons (pv 1) pa_nil)))) pss_nil)
      (pss_cons (ps_if (pt_cmpR op_eq (pv 0) pe_str (nomark _))
          (pss_one (ps_ret (pe_and (pe_cmpR op_gt (pe_callB call_len_seq (by rfl) fLen PySem.boot_len (pa_cons (pv 1) pa_nil)) pe_int (nomark _)) (pe_and (pe_d D_is_from hr2 (pa_cons (pe_ix ix_list (pv 1) pe_int (fun _ _ => rfl)) (pa_cons pe_int (pa_cons (pe_gi rfl gMOST_TIME) pa_nil)))) (pe_one (pe_d D_is_expr hr67 (pa_cons (pe_slice sl_list (pv 1) (po_some pe_int) po_none) (pa_cons pe_str pa_nil)))))))) pss_nil)
      (pss_one (ps_ret (pe_cmpR (op_eqE (Nat.lt_of_le_of_lt (Nat.le_add_right _ _) hr.units)) (pv 1) (pe_lst pa_nil) (nomark _))))))))))), ?_⟩
    have sS := Same.refl H
    refine ⟨_, rfl, rfl, _, rfl, ite2 (fun h => ?_) (fun h1 => ?_)⟩
    · have e := V.str.inj (of_decide_eq_true h)
      have e1 : isRest wd ws = isCond ws := by unfold isRest; rw [if_pos e]
      rw [e1] at q
      exact ⟨_, rfl, a, ws, rfl, hS, hn, hw, q⟩
    have h1 : wd ≠ Str.ofString "keep" := fun x => h1 (eqT x)
    refine ⟨_, rfl, rfl, _, rfl, ite2 (fun h => ?_) (fun h2 => ?_)⟩
    · have e := V.str.inj (of_decide_eq_true h)
      have e1 : isRest wd ws = isExpr (Str.ofString "tv") ws := by unfold isRest; rw [if_neg h1, if_pos e]
      rw [e1] at q
      exact ⟨_, rfl, a, ws, _, rfl, hS, hn, hw, q⟩
    have h2 : wd ≠ Str.ofString "turn" := fun x => h2 (eqT x)
    refine ⟨_, rfl, rfl, _, rfl, ite2 (fun h => ?_) (fun h3 => ?_)⟩
    · have e := V.str.inj (of_decide_eq_true h)
      have e1 : isRest wd ws = isShare ws := by unfold isRest; rw [if_neg h1, if_neg h2, if_pos e]
      rw [e1] at q
      exact ⟨_, rfl, a, ws, rfl, hS, hw, q H sS⟩
    have h3 : wd ≠ Str.ofString "share" := fun x => h3 (eqT x)
    refine ⟨_, rfl, rfl, _, rfl, ite2 (fun h => iteT ?w1) (fun h4 => ⟨_, rfl, rfl, _, rfl, ite2 (fun h => ?w2) (fun h5 => ?rest)⟩)⟩
    case' w1 =>
      have e := V.str.inj (of_decide_eq_true h)
      have e1 : isRest wd ws = isWin ws := by unfold isRest; rw [if_neg h1, if_neg h2, if_neg h3, if_pos (.inl e)]
    case' w2 =>
      have e := V.str.inj (of_decide_eq_true h)
      have e1 : isRest wd ws = isWin ws := by unfold isRest; rw [if_neg h1, if_neg h2, if_neg h3, if_pos (.inr e)]
    case rest =>
      have h4 : wd ≠ Str.ofString "fixed" := fun x => h4 (eqT x)
      have h5 : wd ≠ Str.ofString "gap" := fun x => h5 (eqT x)
      have hn4 : ¬ (wd = Str.ofString "fixed" ∨ wd = Str.ofString "gap") := fun x => x.elim h4 h5
      refine ⟨_, rfl, rfl, _, rfl, ite2 (fun h => ?_) (fun h6 => ?_)⟩
      · have e := V.str.inj (of_decide_eq_true h)
        have e1 : isRest wd ws = isSlide ws := by unfold isRest; rw [if_neg h1, if_neg h2, if_neg h3, if_neg hn4, if_pos e]
        rw [e1] at q
        exact ⟨_, rfl, a, ws, rfl, hS, hw, q H sS⟩
      have h6 : wd ≠ Str.ofString "slide" := fun x => h6 (eqT x)
      refine ⟨_, rfl, rfl, _, rfl, ite2 (fun h => ?_) (fun h7 => ?_)⟩
      · have e := V.str.inj (of_decide_eq_true h)
        have e1 : isRest wd ws = isJoin ws := by unfold isRest; rw [if_neg h1, if_neg h2, if_neg h3, if_neg hn4, if_neg h6, if_pos e]
        rw [e1] at q
        refine ⟨_, rfl, a, _, rfl, .inl hS, _, _, rfl, rfl, _, rfl, ite2 (fun h => ?_) (fun h => ?_)⟩
        · cases ws with
          | nil => exact absurd (of_decide_eq_true h) (by decide)
          | cons x r =>
            have q : ∀ H', Same H H' → Q (.bl (isFrom x 0 1000000000000 && isExpr (Str.ofString "tvw") r)) H' := q
            refine ⟨_, rfl, a, _, _, _, rfl, rfl, hS, at_strs (i := 0) rfl, x, _, _, rfl, hw x (by simp), _, rfl, ite2 (fun h1 => ?_) (fun h1 => ?_)⟩
            · rw [h1] at q
              refine ⟨_, rfl, _, rfl, a, _, rfl, hS, fun p np => ⟨p, r, _, rfl, SqL.of ?_, by simp at hn; omega, fun w hw' => hw w (by simp [hw']), fun H' s' => q H' ((same_new np).trans s')⟩⟩
              have : cutV ((x :: r).map V.str) (some ((1 : Nat) : Int)) none = r.map V.str := by rw [cutV_from]; rfl
              rw [← this]
              exact upd_same
            · rw [Bool.eq_false_iff.mpr h1] at q
              exact q H sS
        · cases ws with
          | nil => exact q H sS
          | cons x r => exact absurd (decide_eq_true (by simp)) h
      have h7 : wd ≠ Str.ofString "join" := fun x => h7 (eqT x)
      have e1 : isRest wd ws = ws.isEmpty := by unfold isRest; rw [if_neg h1, if_neg h2, if_neg h3, if_neg hn4, if_neg h6, if_neg h7]
      rw [e1] at q
      refine ⟨_, rfl, by decide, fun p np => ⟨a, p, _, rfl, rfl, (same_new np).seq hS, SqL.of upd_same, ?_⟩⟩
      have e2 : (ws.map V.str).isEmpty = ws.isEmpty := by cases ws <;> rfl
      rw [e2]
      exact q _ (same_new np)
    all_goals
      rw [e1] at q
      have q := q H sS
      refine ⟨_, rfl, a, _, rfl, .inl hS, rfl, _, rfl, ite2 (fun h => ?_) (fun h => ?_)⟩
      · obtain ⟨x, y, rfl⟩ := two_of (len_strs h)
        have q : Q (.bl (isFold y && isFrom x 1 1000000000000)) H := q
        refine ⟨_, rfl, a, _, _, _, rfl, rfl, hS, at_strs (i := 1) rfl, aF, _, rfl, .inr (tF H), rfl, flat_strs _, _, rfl, ite2 (fun h => ?_) (fun h => ?_)⟩
        · rw [inV_strs] at h
          have hf : isFold y = true := by simpa [isFold] using h
          rw [hf] at q
          exact ⟨_, rfl, a, _, _, _, rfl, rfl, hS, at_strs (i := 0) rfl, x, _, _, rfl, hw x (by simp), q⟩
        · rw [inV_strs] at h
          have hf : isFold y = false := by simpa [isFold] using h
          rw [hf] at q
          exact q
      · rw [win_no (len_strs_no h)] at q
        exact q
end
end K19

set_option Elab.async false
set_option linter.all false
set_option maxRecDepth 100000
set_option maxHeartbeats 4000000
/-! # A8: d.get(z) of a written dict; many_froms -/
namespace K19
open PySem PySem.Spec PyProof.Rows L2
section
variable {X : Cx} {o e : Expr} {apos cpos : Pos} {td ty : TE} {d : Addr} {es : Array DictEntry} {n : Nat}
def tKGet (K : PySem.W.Frag) (d : Addr) (td ty : TE) : TE := fun σ H Q => td σ H fun x H1 => x = .ref d ∧ ty σ H1 fun y H2 => ∃ (z : Str) (r : Option Value) (v : V), y = .str z ∧ PySem.W.nsIn K d z = some r ∧ RelV v (r.getD .none) ∧ Q v H2
theorem pe_kget (D : KDict X.K X.w d es n) (ho : PE X o td) (he : PE X e ty) (m : M1 X o "get" apos e cpos) : PE X (.Call (.Attribute o "get" apos) [e] [] cpos) (tKGet X.K d td ty) := by
  refine ⟨fun pins s σ H Q I h => ?_⟩
  refine wpAny_Call_method m.base m.few m.line PySem.F.plainAttrs_dict PySem.F.slot_dict_get PySem.F.type_dict_get (thn (ho.run pins s σ H _ I h) fun u s1 ⟨x, H1, I1, rx, ex, q1⟩ => ?_)
  subst ex
  obtain rfl : u = Value.ref d := rx
  refine ⟨kd_type D I1, fun b hb => ?_, ?_⟩
  · cases hb
    exact ⟨_, I1.kIn _ _ D.at_, rfl⟩
  rw [m.trees]
  refine Calls.callWith_builtin rfl (Calls.evalArgs_plain (Calls.spliced_cons (thn (he.run pins s1 σ H1 _ I1 q1) fun iv s2 ⟨y, H2, I2, ry, z, r, v, ey, en, rv, q2⟩ => Calls.spliced_nil ?_)))
  subst ey
  obtain ⟨t, rfl⟩ := ry
  refine call_meetsIn PySem.F.slot_dict_get (kd_type D I2) PySem.F.entry_dict_get (PySem.F.args_dict_get_2 _ _) (meets_dict_get (strKind X.prog X.w) d (PySem.strKind_is X.prog X.w z t) D.low) ⟨_, PySem.W.mapOf_K (prog := X.prog) I2.kIn D.at_ D.lit, v, H2, I2.tok _, ?_, q2⟩
  rw [PySem.W.find_K D.at_ en]
  exact rv
end
def manyV : Option Nat → V
  | none => .non
  | some m => .int (m : Int)
def spMany (K : PySem.W.Frag) : Sp := fun vs H Q _ => ∃ (a : Addr) (wd : Str) (t : List Str), vs = [.ref a] ∧ SqL K H a ((wd :: t).map V.str) ∧ Q (manyV (many wd (t.length + 1))) H
theorem fl_mem : ∀ {l : List (Str × Nat)} {w : Str} {m : Nat}, l.lookup w = some m → (w, m) ∈ l
  | (a, b) :: r, w, m, h => by
    rw [List.lookup_cons] at h
    by_cases e : w = a
    · subst e
      rw [beq_self_eq_true] at h
      obtain rfl := Option.some.inj h
      exact List.mem_cons_self
    · rw [beq_eq_false_iff_ne.mpr e] at h
      exact List.mem_cons_of_mem _ (fl_mem h)
section
variable {P : Program} {w : World} {K : PySem.W.Frag} {mg : Str → Option Value} {base : Heap}
theorem sc_many_froms : FnScope ["words"] ["words"] (defScope (topS 35)) := ⟨rfl, rfl, rfl, by decide +kernel, rfl, by decide +kernel, by decide +kernel⟩
theorem D_many_froms (T : Txt K w mg) : Def P w K mg base CX0 1 "many_froms" ["words"] (spMany K) := by
  refine Def.of (T.fn ("many_froms", 35) (by decide +kernel)) sc_many_froms (fun _ _ _ _ _ _ us hl => match us, hl with | [_], _ => rfl) (fun vs H Q E h => ?_) (fun f cdv A outer s H vs Q E hr h => ?_)
  · obtain ⟨a, wd, t, rfl, _⟩ := h
    rfl
  · obtain ⟨a, wd, t, rfl, hS, q⟩ := h
    have fLen := T.free "len" (by decide +kernel)
    obtain ⟨aF, es, n, gFROMS, KD, t1, t2⟩ := T.froms
    refine ⟨_, PSs.nox ((pss_cons (ps_if (pt_cmpR op_ne (pe_ix ix_list (pv 0) pe_int (fun _ _ => rfl)) pe_str (nomark _))
          (pss_one (ps_ret (pe_kget KD (pe_gr rfl gFROMS) (pe_ix ix_list (pv 0) pe_int (fun _ _ => rfl)) ⟨rfl, rfl, rfl, rfl⟩))) pss_nil)
      (pss_cons (ps_if (pt_chain op_le op_le pe_int (pe_callB call_len_seq (by rfl) fLen PySem.boot_len (pa_cons (pv 0) pa_nil)) pe_int)
          (pss_one (ps_ret (pe_op op_sub (pe_callB call_len_seq (by rfl) fLen PySem.boot_len (pa_cons (pv 0) pa_nil)) pe_int))) pss_nil)
      (pss_one (ps_ret pe_non))))), ?_⟩
    have hl : ((wd :: t).map V.str).length = t.length + 1 := by simp
    refine ⟨_, rfl, a, _, _, _, rfl, rfl, hS, at_strs (i := 0) rfl, rfl, _, rfl, ite2 (fun h => ?_) (fun h => ?_)⟩
    · have hw : wd ≠ Str.ofString "pour" := fun x => by
        rw [x] at h
        cases h
      have em : many wd (t.length + 1) = fromsT.lookup wd := by unfold many; rw [if_neg hw]
      rw [em] at q
      refine ⟨rfl, _, rfl, a, _, _, _, rfl, rfl, hS, at_strs (i := 0) rfl, ?_⟩
      cases e : fromsT.lookup wd with
      | none =>
        rw [e] at q
        exact ⟨wd, none, .non, rfl, t2 wd e, rfl, q⟩
      | some m =>
        rw [e] at q
        obtain ⟨tk, e2⟩ := t1 (wd, m) (fl_mem e)
        exact ⟨wd, _, .int (m : Int), rfl, e2, ⟨tk, rfl⟩, q⟩
    · have hw : wd = Str.ofString "pour" := by
        by_cases hx : wd = Str.ofString "pour"
        · exact hx
        · rw [eqF hx] at h
          exact absurd rfl h
      unfold many at q
      rw [if_pos hw] at q
      refine ⟨_, rfl, a, _, rfl, .inl hS, _, _, rfl, rfl, _, rfl, ite2 (fun h => ⟨_, _, rfl, rfl, _, rfl, ite2 (fun h2 => ?_) (fun h2 => ?_)⟩) (fun h => ⟨_, rfl, iteF ?_⟩)⟩
      · rw [hl] at h h2
        have h := of_decide_eq_true h
        have h2 := of_decide_eq_true h2
        rw [if_pos (by omega)] at q
        refine ⟨_, rfl, a, _, rfl, .inl hS, _, _, rfl, rfl, ?_⟩
        rw [hl]
        have e3 : (((t.length + 1 : Nat) : Int) - 2) = ((t.length + 1 - 2 : Nat) : Int) := by omega
        show Q (.int (((t.length + 1 : Nat) : Int) - 2)) H
        rw [e3]
        exact q
      · rw [hl] at h2
        rw [if_neg (fun x => h2 (decide_eq_true (by omega)))] at q
        exact q
      · rw [hl] at h
        rw [if_neg (fun x => h (decide_eq_true (by omega)))] at q
        exact q
end
end K19

set_option Elab.async false
set_option linter.all false
set_option maxRecDepth 100000
set_option maxHeartbeats 4000000
/-! # A9: NoText(at), NoName(at); row_of -/
namespace K19
open PySem PySem.Spec PyProof.Rows L2
/-- C.__init__(self, at) of a new exception -/
def spXi (C : Addr) : Sp := fun vs H Q _ => ∃ (a : Addr) (n : Int), vs = [.ref a, .int n] ∧ H a = some (exo a C none) ∧ ∀ dx, H dx = none → dx ≠ a → Q .non (upd (upd H dx (exd dx [("at", .int n)])) a (exo a C (some dx)))
structure Exi (P : Program) (w : World) (K : PySem.W.Frag) (mg : Str → Option Value) (base : Heap) (c : Str) : Prop where
  ex : ∃ (f : Addr) (fd : FuncData) (ps : List Str), mg c = some (.ref (He.ga K c)) ∧ OexC K (He.ga K c) ∧ PySem.W.findIn K (.ref (He.ga K c)) "__init__" = some (some (.ref f)) ∧ PySem.W.typeIn K (.ref f) = some (.type "function") ∧ Binds K fd ps [] ∧ FnOk P w K mg base CX0 1 f fd ps (spXi (He.ga K c))
def tAtX (C : Addr) (i : Nat) : St → Hp → XK → Prop := fun σ H Q => ∃ n : Int, σ[i]? = some (some (.int n)) ∧ ∀ d H2, Same H H2 → H2 d = some (.xd [("at", .int n)]) → Q (.ref C) (some d) H2
theorem pmk_at {X : Cx} {c y : Str} {i : Nat} {p p2 pos : Pos} (M : Exi X.prog X.w X.K X.mg X.base c) (hr : Room 2 X.A) (ha : PE X (.Name y p2) (tVar i)) (hg : Gl X c := by rfl) (hdb : (c == ("__debug__" : Str)) = false := by decide)
    (he : starEach [.Name y p2] X.env = (false, eval (.Name y p2) X.env) :: starEach [] X.env := by rfl) (hpl : (backTo pos (starEach [] X.env)).any (·.1) = false := by rfl) :
    PMk X (.Call (.Name c p) [.Name y p2] [] pos) (tAtX (He.ga X.K c) i) := by
  obtain ⟨f, fd, ps, g, ox, iC, tI, b, F⟩ := M.ex
  intro pins s σ H Q I h
  obtain ⟨n, hi, q⟩ := h
  refine pmk_oex ox iC tI F hr b .nil pass0 hg g (pa_cons ha pa_nil) hdb he hpl pins s σ H Q I ?_
  refine ⟨_, hi, (by show 1 ≤ 1000; decide), fun a na => ⟨a, n, rfl, upd_same, fun dx hd ne => ⟨rfl, dx, [("at", .int n)], upd_same, ?_, ?_, ?_⟩⟩⟩
  · rw [upd_ne ne]
    exact upd_same
  · rwa [upd_ne ne] at hd
  · refine q dx _ (fun b o e => ?_) upd_same
    have h1 : b ≠ a := fun x => by rw [x, na] at e; cases e
    have h0 : H dx = none := by rwa [upd_ne ne] at hd
    have h2 : b ≠ dx := fun x => by rw [x, h0] at e; cases e
    rw [upd_ne h2, del_ne h1, upd_ne h1, upd_ne h2, upd_ne h1]
    exact e
section
variable {P : Program} {w : World} {K : PySem.W.Frag} {mg : Str → Option Value} {base : Heap}
theorem sc_xi1 : FnScope ["self", "at"] ["self", "at"] (defScope (inClass (topS 3) 0)) := ⟨rfl, rfl, rfl, by decide +kernel, rfl, by decide +kernel, by decide +kernel⟩
theorem sc_xi2 : FnScope ["self", "at"] ["self", "at"] (defScope (inClass (topS 4) 0)) := ⟨rfl, rfl, rfl, by decide +kernel, rfl, by decide +kernel, by decide +kernel⟩
theorem E_text (T : Txt K w mg) : Exi P w K mg base "NoText" := by
  obtain ⟨fd, F⟩ := T.tx.fn
  obtain ⟨gB, tB⟩ := T.base
  have ox := T.tx.ox
  have no := T.tx.no
  refine ⟨_, fd, ["self", "at"], T.tx.g, ox, T.tx.iC, T.tx.tI, F.bindsN (fun _ _ _ _ _ _ us hl => match us, hl with | [_, _], _ => rfl), F.ok sc_xi1 (fun vs H Q E h => ?_) (fun cdv A outer s H vs Q E hr h => ?_)⟩
  · obtain ⟨a, n, rfl, _⟩ := h
    rfl
  · obtain ⟨a, n, rfl, ea, q⟩ := h
    exact ⟨_, PSs.nox (pss_cons (ps_expr (pe_binit rfl gB tB (pa_cons (pv 0) (pa_cons pe_str pa_nil)))) (pss_one (ps_ost (pv 0) (pv 1)))), _, rfl, a, _, [_], rfl, by decide, ox, ea, _, rfl, _, rfl, a, _, rfl, ox, no, .inl ⟨ea, q⟩⟩
theorem E_name (T : Txt K w mg) : Exi P w K mg base "NoName" := by
  obtain ⟨fd, F⟩ := T.nm.fn
  obtain ⟨gB, tB⟩ := T.base
  have ox := T.nm.ox
  have no := T.nm.no
  refine ⟨_, fd, ["self", "at"], T.nm.g, ox, T.nm.iC, T.nm.tI, F.bindsN (fun _ _ _ _ _ _ us hl => match us, hl with | [_, _], _ => rfl), F.ok sc_xi2 (fun vs H Q E h => ?_) (fun cdv A outer s H vs Q E hr h => ?_)⟩
  · obtain ⟨a, n, rfl, _⟩ := h
    rfl
  · obtain ⟨a, n, rfl, ea, q⟩ := h
    exact ⟨_, PSs.nox (pss_cons (ps_expr (pe_binit rfl gB tB (pa_cons (pv 0) (pa_cons pe_str pa_nil)))) (pss_one (ps_ost (pv 0) (pv 1)))), _, rfl, a, _, [_], rfl, by decide, ox, ea, _, rfl, _, rfl, a, _, rfl, ox, no, .inl ⟨ea, q⟩⟩
/-- a row as it lies in the heap -/
def RowAt (H : Hp) (p : Addr) (r : Row) : Prop := ∃ a b : Addr, H p = some (.tup [.str r.word, .str r.name, .ref a, .ref b]) ∧ H a = some (.tup (r.froms.map V.str)) ∧ H b = some (.tup (r.rest.map V.str))
theorem RowAt.mono {H H' : Hp} {p : Addr} {r : Row} (e : Same H H') (h : RowAt H p r) : RowAt H' p r := by
  obtain ⟨a, b, h1, h2, h3⟩ := h
  exact ⟨a, b, e _ _ h1, e _ _ h2, e _ _ h3⟩
def spRow (K : PySem.W.Frag) : Sp := fun vs H Q E => ∃ (line : Str) (n : Int), vs = [.str line, .int n] ∧ line.length ≤ 900000 ∧ (words line).length ≤ 60 ∧
  (∀ r, rowOf line = some r → ∀ p H', Same H H' → RowAt H' p r → Q (.ref p) H') ∧ (rowOf line = none → ∀ d H', Same H H' → H' d = some (.xd [("at", .int n)]) → E (.ref (He.ga K "NoText")) (some d) H')
theorem rowOf_cons {line w : Str} {t : List Str} (e : words line = w :: t) : rowOf line = match many w (t.length + 1) with
    | none => none
    | some m => if t.length + 1 < 2 + m then none
      else if ((t.take (1 + m)).all isName && isRest w (t.drop (1 + m))) = true then some ⟨w, t.headD w, (t.take (1 + m)).drop 1, t.drop (1 + m)⟩ else none := by
  unfold rowOf
  rw [e]
  all_goals rfl
theorem cut_1 (w : Str) (t : List Str) (m : Nat) : cutV ((w :: t).map V.str) (some (1 : Int)) (some (2 + (m : Int))) = (t.take (1 + m)).map V.str := by
  have e := cutV_mid ((w :: t).map V.str) 1 (2 + m)
  have e2 : ((2 + m : Nat) : Int) = 2 + (m : Int) := by omega
  rw [e2] at e
  refine e.trans ?_
  rw [show 2 + m = (1 + m) + 1 by omega, List.map_cons, List.take_succ_cons, List.drop_succ_cons, List.drop_zero, List.map_take]
theorem cut_2 (w : Str) (t : List Str) (m : Nat) : cutV ((w :: t).map V.str) (some (2 : Int)) (some (2 + (m : Int))) = ((t.take (1 + m)).drop 1).map V.str := by
  have e := cutV_mid ((w :: t).map V.str) 2 (2 + m)
  have e2 : ((2 + m : Nat) : Int) = 2 + (m : Int) := by omega
  rw [e2] at e
  refine e.trans ?_
  rw [show 2 + m = (1 + m) + 1 by omega, List.map_cons, List.take_succ_cons, List.drop_succ_cons, List.map_drop, List.map_take]
theorem cut_m (w : Str) (t : List Str) (m : Nat) : cutV ((w :: t).map V.str) (some (2 + (m : Int))) none = (t.drop (1 + m)).map V.str := by
  have e := cutV_from ((w :: t).map V.str) (2 + m)
  have e2 : ((2 + m : Nat) : Int) = 2 + (m : Int) := by omega
  rw [e2] at e
  refine e.trans ?_
  rw [show 2 + m = (1 + m) + 1 by omega, List.map_cons, List.drop_succ_cons, List.map_drop]
theorem sc_row_of : FnScope ["line", "at", "words", "many", "word"] ["line", "at"] (defScope (topS 36)) := ⟨rfl, rfl, rfl, by decide +kernel, rfl, by decide +kernel, by decide +kernel⟩
theorem D_row_of (T : Txt K w mg) : Def P w K mg base (L2.CX P w) 131 "row_of" ["line", "at"] (spRow K) := by
  have D_many_froms : Def P w K mg base CX0 1 "many_froms" ["words"] (spMany K) := D_many_froms T
  have D_is_name : Def P w K mg base CX0 1 "is_name" ["word"] spName := D_is_name T
  have D_is_rest : Def P w K mg base CX0 130 "is_rest" ["word", "rest"] (spRest K) := D_is_rest T
  have mNoText : Exi P w K mg base "NoText" := E_text T
  refine Def.of (T.fn ("row_of", 36) (by decide +kernel)) sc_row_of (fun _ _ _ _ _ _ us hl => match us, hl with | [_, _], _ => rfl) (fun vs H Q E h => ?_) (fun f cdv A outer s H vs Q E hr h => ?_)
  · obtain ⟨line, n, rfl, _⟩ := h
    rfl
  · obtain ⟨line, n, rfl, hl, h60, q1, q2⟩ := h
    have fLen := T.free "len" (by decide +kernel)
    have fTuple := T.free "tuple" (by decide +kernel)
    have hr1 := hr.mono (j := 1) (by decide)
    have hr2 := hr.mono (j := 2) (by decide)
    refine ⟨_, (pss_cons (ps_set (i := 2) sc_row_of.nd rfl (.inl rfl) (pe_split (pv 0) pe_str))
      (pss_cons (ps_set (i := 3) sc_row_of.nd rfl (.inl rfl) (pe_d D_many_froms hr1 (pa_cons (pv 2) pa_nil)))
      (pss_cons (ps_if (PW.pt (pw_or (pt_cmp (pc_isN (pv 3)) rfl) (pw_or1 (pt_cmpR op_lt (pe_callB call_len_seq (by rfl) fLen PySem.boot_len (pa_cons (pv 2) pa_nil)) (pe_op op_add pe_int (pv 3)) (nomark _)))))
          (pss_one (ps_raise rfl (takes_of rfl rfl rfl rfl) (pmk_at mNoText hr2 (pv 1)))) pss_nil)
      (pss_cons (ps_for (passes_of rfl) rfl (pi_list (pe_slice sl_list (pv 2) (po_some pe_int) (po_some (pe_op op_add pe_int (pv 3))))) (pg_name (i := 4) sc_row_of.nd rfl (.inl rfl))
          (pss_one (ps_if (pt_not (pt_val (pe_d D_is_name hr1 (pa_cons (pv 4) pa_nil))))
              (pss_one (ps_raise rfl (takes_of rfl rfl rfl rfl) (pmk_at mNoText hr2 (pv 1)))) pss_nil)))
      (pss_cons (ps_if (pt_not (pt_val (pe_d D_is_rest hr (pa_cons (pe_ix ix_list (pv 2) pe_int (fun _ _ => rfl)) (pa_cons (pe_slice sl_list (pv 2) (po_some (pe_op op_add pe_int (pv 3))) po_none) pa_nil)))))
          (pss_one (ps_raise rfl (takes_of rfl rfl rfl rfl) (pmk_at mNoText hr2 (pv 1)))) pss_nil)
      (pss_one (ps_ret (pe_tup (pa_cons (pe_ix ix_list (pv 2) pe_int (fun _ _ => rfl)) (pa_cons (pe_ix ix_list (pv 2) pe_int (fun _ _ => rfl)) (pa_cons (pe_callTy call_tuple_of (by rfl) fTuple (by decide +kernel) (pa_cons (pe_slice sl_list (pv 2) (po_some pe_int) (po_some (pe_op op_add pe_int (pv 3)))) pa_nil)) (pa_cons (pe_callTy call_tuple_of (by rfl) fTuple (by decide +kernel) (pa_cons (pe_slice sl_list (pv 2) (po_some (pe_op op_add pe_int (pv 3))) po_none) pa_nil)) pa_nil)))))))))))), ?_⟩
    refine ⟨_, rfl, ⟨_, rfl⟩, _, _, rfl, rfl, rfl, by rw [sizeLine_eq]; omega, fun p np => ?_⟩
    obtain ⟨wd, t, ew⟩ : ∃ wd t, words line = wd :: t := by
      cases e : words line with
      | nil => have := words_len line; rw [e] at this; cases this
      | cons a b => exact ⟨a, b, rfl⟩
    have s0 : Same H (upd H p (.lst ((words line).map V.str))) := same_new np
    have S0 : upd H p (.lst ((words line).map V.str)) p = some (.lst ((wd :: t).map V.str)) := by rw [ew]; exact upd_same
    have sm : Small (wd :: t) := fun x hx => by
      rw [← ew] at hx
      have := word_len hx
      omega
    rw [ew] at h60
    have en := rowOf_cons ew
    generalize eH0 : upd H p (.lst ((words line).map V.str)) = H0 at s0 S0
    rw [show (.lst ((Txt.split line (Str.ofString " ")).map V.str)) = HO.lst ((words line).map V.str) from rfl, eH0]
    have no : rowOf line = none → ∀ d H2, Same H0 H2 → H2 d = some (.xd [("at", .int n)]) → E (.ref (He.ga K "NoText")) (some d) H2 := fun h d H2 s2 => q2 h d H2 (s0.trans s2)
    refine ⟨_, rfl, p, wd, t, rfl, SqL.of S0, ?_⟩
    have hlw : ((wd :: t).map V.str).length = t.length + 1 := by simp
    cases em : many wd (t.length + 1) with
    | none =>
      rw [em] at en
      exact ⟨_, rfl, _, rfl, iteT ⟨n, rfl, fun d H2 s2 e2 => no en d H2 s2 e2⟩⟩
    | some m =>
      rw [em] at en
      have en : rowOf line = if t.length + 1 < 2 + m then none else if ((t.take (1 + m)).all isName && isRest wd (t.drop (1 + m))) = true then some ⟨wd, t.headD wd, (t.take (1 + m)).drop 1, t.drop (1 + m)⟩ else none := en
      refine ⟨_, rfl, _, rfl, iteF ⟨_, rfl, p, _, rfl, .inl (SqL.of S0), _, rfl, _, _, rfl, rfl, _, _, rfl, rfl, _, rfl, ite2 (fun h => ?_) (fun h => ?_)⟩⟩
      · rw [hlw] at h
        have h := of_decide_eq_true h
        rw [if_pos (by omega)] at en
        exact ⟨n, rfl, fun d H2 s2 e2 => no en d H2 s2 e2⟩
      · rw [hlw] at h
        have h : ¬ (t.length + 1 < 2 + m) := fun x => h (decide_eq_true (by omega))
        rw [if_neg h] at en
        refine ⟨_, rfl, 1, rfl, _, rfl, _, _, rfl, rfl, _, rfl, p, _, rfl, SqL.of S0, fun p2 np2 => ?_⟩
        have s1 : Same H0 (upd H0 p2 (.lst ((t.take (1 + m)).map V.str))) := same_new np2
        have S1 : upd H0 p2 (.lst ((t.take (1 + m)).map V.str)) p2 = some (.lst ((t.take (1 + m)).map V.str)) := upd_same
        rw [cut_1]
        generalize upd H0 p2 (.lst ((t.take (1 + m)).map V.str)) = H1 at s1 S1
        have S01 := s1 _ _ S0
        refine ⟨p2, rfl, ⟨_, SqL.of S1⟩, for_it (walk_list (xs := (t.take (1 + m)).map V.str)) (fun i σ H' => H' = H1 ∧ ∃ y, σ = [some (.str line), some (.int n), some (.ref p), some (.int (m : Int)), y] ∧ ((t.take (1 + m)).take i).all isName = true) ⟨rfl, none, rfl, rfl⟩
          (fun _ _ _ _ hP => by obtain ⟨rfl, _⟩ := hP; exact SqL.of S1) (fun i x σ H1' H2 hi hP hY => ?_) (fun σ H1' hP => ?_)⟩
        · obtain ⟨rfl, y, rfl, hall⟩ := hP
          obtain ⟨rfl, hx⟩ := hY
          obtain ⟨nm, hnm, rfl⟩ : ∃ nm, (t.take (1 + m))[i]? = some nm ∧ x = V.str nm := by
            rw [List.getElem?_map] at hx
            cases e : (t.take (1 + m))[i]? with
            | none => rw [e] at hx; cases hx
            | some nm => rw [e] at hx; exact ⟨nm, rfl, (Option.some.inj hx).symm⟩
          have ht : (t.take (1 + m)).take (i + 1) = (t.take (1 + m)).take i ++ [nm] := by rw [List.take_add_one, hnm]; rfl
          have hmem : nm ∈ t.take (1 + m) := List.mem_of_getElem? hnm
          refine ⟨_, rfl, nm, rfl, sm nm (List.mem_cons_of_mem _ (List.mem_of_mem_take hmem)), ?_⟩
          cases e : isName nm with
          | false =>
            have : ((t.take (1 + m)).all isName) = false := by
              rw [List.all_eq_false]
              exact ⟨nm, hmem, by rw [e]; decide⟩
            rw [this] at en
            exact ⟨_, rfl, iteT ⟨n, rfl, fun d H2 s2 e2 => no en d H2 (s1.trans s2) e2⟩⟩
          | true =>
            refine ⟨_, rfl, iteF ⟨rfl, _, rfl, ?_⟩⟩
            rw [ht, List.all_append, hall]
            simp [e]
        · obtain ⟨rfl, y, rfl, hall⟩ := hP
          rw [List.take_of_length_le (by simp)] at hall
          rw [hall, Bool.true_and] at en
          refine ⟨_, rfl, p, _, _, _, rfl, rfl, SqL.of S01, at_strs (i := 0) rfl, _, rfl, _, rfl, _, _, rfl, rfl, _, rfl, p, _, rfl, SqL.of S01, fun p3 np3 => ?_⟩
          rw [cut_m]
          have s2 := same_new (o := .lst ((t.drop (1 + m)).map V.str)) np3
          have S2 : upd H1' p3 (.lst ((t.drop (1 + m)).map V.str)) p3 = some (.lst ((t.drop (1 + m)).map V.str)) := upd_same
          generalize upd H1' p3 (.lst ((t.drop (1 + m)).map V.str)) = H2 at s2 S2
          refine ⟨wd, p3, t.drop (1 + m), rfl, SqL.of S2, ?_, fun x hx => sm x (List.mem_cons_of_mem _ (List.mem_of_mem_drop hx)), fun H3 s3 => ?_⟩
          · simp at h60 ⊢
            omega
          cases e : isRest wd (t.drop (1 + m)) with
          | false =>
            rw [e] at en
            exact ⟨_, rfl, iteT ⟨n, rfl, fun d H4 s4 e4 => no en d H4 (((s1.trans s2).trans s3).trans s4) e4⟩⟩
          | true =>
            rw [e] at en
            have en : rowOf line = some ⟨wd, t.headD wd, (t.take (1 + m)).drop 1, t.drop (1 + m)⟩ := en
            obtain ⟨nm, t', rfl⟩ : ∃ nm t', t = nm :: t' := by
              cases t with
              | nil => simp at h; omega
              | cons a b => exact ⟨a, b, rfl⟩
            have S3 := s3 _ _ (s2 _ _ S01)
            refine ⟨_, rfl, iteF ⟨_, rfl, p, _, _, _, rfl, rfl, SqL.of S3, at_strs (i := 0) rfl, _, rfl, p, _, _, _, rfl, rfl, SqL.of S3, at_strs (i := 1) rfl, _, rfl, 2, rfl, _, rfl, _, _, rfl, rfl, _, rfl, p, _, rfl, SqL.of S3, fun p4 np4 => ?_⟩⟩
            rw [cut_2]
            have s4 := same_new (o := .lst ((((nm :: t').take (1 + m)).drop 1).map V.str)) np4
            have S4 : upd H3 p4 (.lst ((((nm :: t').take (1 + m)).drop 1).map V.str)) p4 = some (.lst ((((nm :: t').take (1 + m)).drop 1).map V.str)) := upd_same
            generalize upd H3 p4 (.lst ((((nm :: t').take (1 + m)).drop 1).map V.str)) = H4 at s4 S4
            refine ⟨p4, _, rfl, .inl ⟨SqL.of S4, fun p5 np5 => ?_⟩⟩
            have s5 := same_new (o := .tup ((((nm :: t').take (1 + m)).drop 1).map V.str)) np5
            have S5 : upd H4 p5 (.tup ((((nm :: t').take (1 + m)).drop 1).map V.str)) p5 = some (.tup ((((nm :: t').take (1 + m)).drop 1).map V.str)) := upd_same
            generalize upd H4 p5 (.tup ((((nm :: t').take (1 + m)).drop 1).map V.str)) = H5 at s5 S5
            refine ⟨_, rfl, _, rfl, _, _, rfl, rfl, _, rfl, p, _, rfl, SqL.of (s5 _ _ (s4 _ _ S3)), fun p6 np6 => ?_⟩
            rw [cut_m]
            have s6 := same_new (o := .lst (((nm :: t').drop (1 + m)).map V.str)) np6
            have S6 : upd H5 p6 (.lst (((nm :: t').drop (1 + m)).map V.str)) p6 = some (.lst (((nm :: t').drop (1 + m)).map V.str)) := upd_same
            generalize upd H5 p6 (.lst (((nm :: t').drop (1 + m)).map V.str)) = H6 at s6 S6
            refine ⟨p6, _, rfl, .inl ⟨SqL.of S6, fun p7 np7 => ?_⟩⟩
            have s7 := same_new (o := .tup (((nm :: t').drop (1 + m)).map V.str)) np7
            have S7 : upd H6 p7 (.tup (((nm :: t').drop (1 + m)).map V.str)) p7 = some (.tup (((nm :: t').drop (1 + m)).map V.str)) := upd_same
            generalize upd H6 p7 (.tup (((nm :: t').drop (1 + m)).map V.str)) = H7 at s7 S7
            refine ⟨line4, fun p8 np8 => q1 _ en p8 _ ((((((((s0.trans s1).trans s2).trans s3).trans s4).trans s5).trans s6).trans s7).trans (same_new np8)) ⟨p5, p7, upd_same, same_new np8 _ _ (s7 _ _ (s6 _ _ S5)), same_new np8 _ _ S7⟩⟩
end
end K19

set_option Elab.async false
set_option linter.all false
set_option maxRecDepth 100000
set_option maxHeartbeats 4000000
/-! # A10: read_works, shown_works -/
namespace K19
open PySem PySem.Spec PyProof.Rows L2
theorem same_put {H H' : Hp} {a : Addr} {o : HO} (e : Same H H') (n : H a = none) : Same H (upd H' a o) := fun b u z => by
  rw [upd_ne (ne_of_none z n)]
  exact e b u z
theorem ne_of_val {H : Hp} {a b : Addr} {o u : HO} (h : H a = some o) (g : H b = some u) (n : o ≠ u) : a ≠ b := fun e => by
  rw [e, g] at h
  exact n (Option.some.inj h).symm
/-- rows lie at these addresses -/
def RowsAt (H : Hp) (as : List Addr) (rs : List Row) : Prop := as.length = rs.length ∧ ∀ (i : Nat) (a : Addr) (r : Row), as[i]? = some a → rs[i]? = some r → RowAt H a r
theorem RowsAt.mono {H H' : Hp} {as : List Addr} {rs : List Row} (e : Same H H') (h : RowsAt H as rs) : RowsAt H' as rs := ⟨h.1, fun i a r h1 h2 => (h.2 i a r h1 h2).mono e⟩
theorem RowAt.put {H : Hp} {l p : Addr} {r : Row} {o u : HO} (h : RowAt H p r) (hl : H l = some u) (hu : ∀ xs, u ≠ .tup xs) : RowAt (upd H l o) p r := by
  obtain ⟨a, b, h1, h2, h3⟩ := h
  exact ⟨a, b, by rw [upd_ne (ne_of_val h1 hl (hu _).symm)]; exact h1, by rw [upd_ne (ne_of_val h2 hl (hu _).symm)]; exact h2, by rw [upd_ne (ne_of_val h3 hl (hu _).symm)]; exact h3⟩
theorem RowsAt.put {H : Hp} {l : Addr} {as : List Addr} {rs : List Row} {o u : HO} (h : RowsAt H as rs) (hl : H l = some u) (hu : ∀ xs, u ≠ .tup xs) : RowsAt (upd H l o) as rs := ⟨h.1, fun i a r h1 h2 => (h.2 i a r h1 h2).put hl hu⟩
theorem RowsAt.nil {H : Hp} : RowsAt H [] [] := ⟨rfl, fun i a r h => by simp at h⟩
theorem RowsAt.snoc {H : Hp} {as : List Addr} {rs : List Row} {a : Addr} {r : Row} (h : RowsAt H as rs) (g : RowAt H a r) : RowsAt H (as ++ [a]) (rs ++ [r]) := by
  refine ⟨by simp [h.1], fun i b u h1 h2 => ?_⟩
  by_cases hi : i < as.length
  · rw [List.getElem?_append_left hi] at h1
    rw [List.getElem?_append_left (by rw [← h.1]; exact hi)] at h2
    exact h.2 i b u h1 h2
  · rw [List.getElem?_append_right (by omega)] at h1
    rw [List.getElem?_append_right (by rw [← h.1]; omega), ← h.1] at h2
    obtain ⟨hj, e1⟩ := List.getElem?_eq_some_iff.mp h1
    have hj0 : i - as.length = 0 := by simp at hj; omega
    rw [hj0] at h1 h2
    cases h1
    cases h2
    exact g
theorem lst_tup (xs ys : List V) : HO.lst xs ≠ .tup ys := fun x => by cases x
theorem dK_tup (xs : List (Key × V)) (ys : List V) : HO.dK xs ≠ .tup ys := fun x => by cases x
/-- names above as a dict -/
def dk (a : Above) : List (Key × V) := a.map fun p => (Sum.inr p.1, V.str p.2)
theorem dk_val : ∀ (a : Above) (x : Str), valV (dk a) (Sum.inr x : Key) = (a.lookup x).map V.str
  | [], x => rfl
  | (n, w) :: r, x => by
    show valV ((Sum.inr n, V.str w) :: dk r) (Sum.inr x) = _
    rw [List.lookup_cons]
    by_cases e : n = x
    · subst e
      rw [beq_self_eq_true, valV_pos (show (Sum.inr n : Key) = Sum.inr n from rfl)]
      rfl
    · rw [valV_neg (fun h => e (Sum.inr.inj h)), dk_val r x, beq_eq_false_iff_ne.mpr (fun h => e h.symm)]
theorem dk_put {a : Above} {n w : Str} (h : a.lookup n = none) : putK (dk a) (Sum.inr n : Key) (.str w) = dk (a ++ [(n, w)]) := by
  rw [putK_new _ (by rw [dk_val, h]; rfl)]
  unfold dk
  rw [List.map_append]
  rfl
theorem dk_len (rs : List Row) : (dk (aboveOf rs)).length = rs.length := by unfold dk aboveOf; simp
theorem strs_get {ws : List Str} {i : Nat} {x : V} (h : (ws.map V.str)[i]? = some x) : ∃ w, ws[i]? = some w ∧ x = V.str w := by
  rw [List.getElem?_map] at h
  cases e : ws[i]? with
  | none => rw [e] at h; cases h
  | some w => rw [e] at h; exact ⟨w, rfl, (Option.some.inj h).symm⟩
abbrev linesOf (t : Str) : List Str := Txt.split t sN
theorem lines_tl (t : Str) : (linesOf t).map TL.tl = cut 10 [] (TL.tl t) := by
  unfold linesOf
  rw [TL.split_spl _ _ (by rw [tl_N]; simp) (TL.kind_ok all_N), tl_N]
  rfl
theorem lines_len {t l : Str} (h : l ∈ linesOf t) : l.length ≤ t.length := by
  have hm : TL.tl l ∈ cut 10 [] (TL.tl t) := by
    rw [← lines_tl]
    exact List.mem_map.mpr ⟨l, h, rfl⟩
  have := cut_len 10 _ [] _ hm
  rw [TL.len_tl, TL.len_tl]
  simpa using this
def spWorks (K : PySem.W.Frag) : Sp := fun vs H Q E => ∃ text : Str, vs = [.str text] ∧ text.length ≤ 900000 ∧ (linesOf text).length ≤ 1000 ∧ (∀ l ∈ linesOf text, (words l).length ≤ 60) ∧
  (∀ rs, readAll (linesOf text) = .ok rs → ∀ p as H', Same H H' → H' p = some (.lst (as.map V.ref)) → RowsAt H' as rs → Q (.ref p) H') ∧
  (∀ n, readAll (linesOf text) = .error (true, n) → ∀ d H', Same H H' → H' d = some (.xd [("at", .int (n : Int))]) → E (.ref (He.ga K "NoText")) (some d) H') ∧
  (∀ n, readAll (linesOf text) = .error (false, n) → ∀ d H', Same H H' → H' d = some (.xd [("at", .int (n : Int))]) → E (.ref (He.ga K "NoName")) (some d) H')
abbrev sOut : Str := Str.ofString "out"
section
variable {P : Program} {w : World} {K : PySem.W.Frag} {mg : Str → Option Value} {base : Heap}
theorem sc_read_works : FnScope ["text", "works", "above", "at", "line", "row", "name"] ["text"] (defScope (topS 37)) := ⟨rfl, rfl, rfl, by decide +kernel, rfl, by decide +kernel, by decide +kernel⟩
theorem D_read_works (T : Txt K w mg) : Def P w K mg base (L2.CX P w) 132 "read_works" ["text"] (spWorks K) := by
  have D_row_of : Def P w K mg base (L2.CX P w) 131 "row_of" ["line", "at"] (spRow K) := D_row_of T
  have mNoName : Exi P w K mg base "NoName" := E_name T
  refine Def.of (T.fn ("read_works", 37) (by decide +kernel)) sc_read_works (fun _ _ _ _ _ _ us hl => match us, hl with | [_], _ => rfl) (fun vs H Q E h => ?_) (fun f cdv A outer s H vs Q E hr h => ?_)
  · obtain ⟨text, rfl, _⟩ := h
    rfl
  · obtain ⟨text, rfl, ht, h1000, h60, q1, q2, q3⟩ := h
    have fEnum := T.free "enumerate" (by decide +kernel)
    have hr2 := hr.mono (j := 2) (by decide)
    refine ⟨_, (pss_cons (ps_set (i := 1) sc_read_works.nd rfl (.inl rfl) (pe_lst pa_nil))
      (pss_cons (ps_set (i := 2) sc_read_works.nd rfl (.inl rfl) pe_dnewK)
      (pss_cons (ps_for (passes_of rfl) rfl (pi_enum (by rfl) fEnum (pa_cons (pe_split (pv 0) pe_str) pa_nil)) (pg_tup (by rfl) (pgs_cons (pg_name (i := 3) sc_read_works.nd rfl (.inl rfl)) (pgs_cons (pg_name (i := 4) sc_read_works.nd rfl (.inl rfl)) pgs_nil)))
          (pss_cons (ps_set (i := 5) sc_read_works.nd rfl (.inl rfl) (pe_dx D_row_of hr (takes_of rfl rfl rfl rfl) (fun _ _ _ _ x => x) (pa_cons (pv 4) (pa_cons (pv 3) pa_nil))))
          (pss_cons (ps_if (pt_cmp (pc_din (hu_of hr) (pe_ix ix_tup (pv 5) pe_int (fun _ _ => rfl)) (pv 2)) rfl)
              (pss_one (ps_raise rfl (takes_of rfl rfl rfl rfl) (pmk_at mNoName hr2 (pv 3)))) pss_nil)
          (pss_cons (ps_for (passes_of rfl) rfl (pi_tup (pe_ix ix_tup (pv 5) pe_int (fun _ _ => rfl))) (pg_name (i := 6) sc_read_works.nd rfl (.inl rfl))
              (pss_one (ps_if (pt_cmpR op_eq (pe_dget2 (hu_of hr) (pv 2) (pv 6) pe_str ⟨rfl, rfl, rfl, rfl⟩) pe_str (nomark _))
                  (pss_one (ps_raise rfl (takes_of rfl rfl rfl rfl) (pmk_at mNoName hr2 (pv 3)))) pss_nil)))
          (pss_cons (ps_dput (hu_of hr) (pv 2) (pe_ix ix_tup (pv 5) pe_int (fun _ _ => rfl)) (pe_ix ix_tup (pv 5) pe_int (fun _ _ => rfl)) rfl)
          (pss_one (ps_expr (pe_bm PySem.F.plainAttrs_list PySem.F.slot_list_append PySem.F.type_list_append mt_append (pv 1) (pa_cons (pv 5) pa_nil)))))))))
      (pss_one (ps_ret (pv 1)))))), ?_⟩
    refine ⟨by decide, fun lw nlw => ?_⟩
    intro la nla
    have nla0 : H la = none := (same_new nlw).free nla
    have hlwa : lw ≠ la := fun e => by rw [← e, upd_same] at nla; cases nla
    refine ⟨_, rfl, ⟨_, rfl⟩, _, _, rfl, rfl, rfl, by rw [sizeLine_eq]; omega, fun pl npl => ?_⟩
    have s0 : Same H (upd (upd (upd H lw (.lst [])) la (.dK [])) pl (.lst ((linesOf text).map V.str))) := ((same_new nlw).trans (same_new nla)).trans (same_new npl)
    have elw : upd (upd (upd H lw (.lst [])) la (.dK [])) pl (.lst ((linesOf text).map V.str)) lw = some (.lst []) := same_new npl _ _ (same_new nla _ _ upd_same)
    have ela : upd (upd (upd H lw (.lst [])) la (.dK [])) pl (.lst ((linesOf text).map V.str)) la = some (.dK []) := same_new npl _ _ upd_same
    have epl : upd (upd (upd H lw (.lst [])) la (.dK [])) pl (.lst ((linesOf text).map V.str)) pl = some (.lst ((linesOf text).map V.str)) := upd_same
    have hplw : pl ≠ lw := fun e => by
      rw [e] at npl
      rw [same_new nla _ _ upd_same] at npl
      cases npl
    have hpla : pl ≠ la := fun e => by
      rw [e, upd_same] at npl
      cases npl
    obtain ⟨ls, els⟩ : ∃ ls, ls = linesOf text := ⟨_, rfl⟩
    rw [← els] at h1000 h60 q1 q2 q3
    refine ⟨pl, ls.map V.str, rfl, SqL.of (by rw [els]; exact upd_same), for_it walk_enum (fun k σ H' => ∃ (rs : List Row) (as : List Addr) (y3 y4 y5 y6 : Option V), Went ls k rs ∧ σ = [some (.str text), some (.ref lw), some (.ref la), y3, y4, y5, y6] ∧ Same H H' ∧ H' lw = some (.lst (as.map V.ref)) ∧
      H' la = some (.dK (dk (aboveOf rs))) ∧ RowsAt H' as rs ∧ H' pl = some (.lst (ls.map V.str))) ⟨[], [], none, none, none, none, Went.start ls, rfl, s0, elw, ela, RowsAt.nil, by rw [els]; exact upd_same⟩
      (fun _ _ _ _ hP => by obtain ⟨_, _, _, _, _, _, _, _, _, _, _, _, e⟩ := hP; exact SqL.of e) (fun k x σ H1 H2 hk hP hY => ?_) (fun σ H1 hP => ?_)⟩
    · obtain ⟨rs, as, y3, y4, y5, y6, wt, rfl, s1, e1, e2, R1, e3⟩ := hP
      obtain ⟨T0, xa, xb, rfl, nT, rfl, hxa, hxb⟩ := hY
      cases hxa
      obtain ⟨l, hl, rfl⟩ := strs_get hxb
      have hk1000 : k < 1000 := by simp at hk; omega
      have hlm : l ∈ ls := List.mem_of_getElem? hl
      have sT := same_new (o := .tup [.int (k : Int), .str l]) nT
      refine ⟨T0, _, rfl, SqT.of upd_same, rfl, _, _, rfl, _, _, rfl, rfl, ?_⟩
      generalize upd H1 T0 (.tup [.int (k : Int), .str l]) = H2 at sT
      refine ⟨_, rfl, _, rfl, l, (k : Int), rfl, ?_, h60 l hlm, fun r hr p H3 s3 Rp => ?_, fun hn d H3 s3 e => ?_⟩
      · have : l.length ≤ text.length := lines_len (by rw [← els]; exact hlm)
        omega
      · have s13 := sT.trans s3
        obtain ⟨pa, pb, E1, E2, E3⟩ := id Rp
        have L1 := s13 _ _ e1
        have L2 := s13 _ _ e2
        refine ⟨_, rfl, p, _, 1, _, rfl, rfl, SqT.of E1, rfl, _, rfl, la, _, rfl, DGet.k (k := Sum.inr r.name) L2, _, rfl, ?_⟩
        rw [dk_val]
        refine ite2 (fun h => ?_) (fun h => ?_)
        · have hb : bad (aboveOf rs) r = true := by
            unfold bad
            rw [Option.isSome_map] at h
            rw [h]
            rfl
          exact ⟨_, rfl, fun d H4 s4 e4 => q3 k (wt.bad hl hr hb) d H4 ((s1.trans s13).trans s4) e4⟩
        · have hno : ((aboveOf rs).lookup r.name).isSome = false := by
            rw [Option.isSome_map] at h
            exact Bool.eq_false_iff.mpr h
          have eb : bad (aboveOf rs) r = r.froms.any fun f => ((aboveOf rs).lookup f).getD sOut == sOut := by
            unfold bad
            rw [hno]
            rfl
          refine ⟨_, rfl, p, _, 2, _, rfl, rfl, SqT.of E1, rfl, pa, rfl, ⟨_, SqT.of E2⟩, for_it (walk_tup (xs := r.froms.map V.str)) (fun j σ H' => H' = H3 ∧ ∃ y, σ = [some (.str text), some (.ref lw), some (.ref la), some (.int (k : Int)), some (.str l), some (.ref p), y] ∧
            ((r.froms.take j).any fun f => ((aboveOf rs).lookup f).getD sOut == sOut) = false) ⟨rfl, y6, rfl, rfl⟩ (fun _ _ _ _ hP => by obtain ⟨rfl, _⟩ := hP; exact SqT.of E2) (fun j x σ H3' H4 hj hP hY => ?_) (fun σ H3' hP => ?_)⟩
          · obtain ⟨rfl, y, rfl, hall⟩ := hP
            obtain ⟨rfl, hx⟩ := hY
            obtain ⟨nm, hnm, rfl⟩ := strs_get hx
            have htk : r.froms.take (j + 1) = r.froms.take j ++ [nm] := by rw [List.take_add_one, hnm]; rfl
            refine ⟨_, rfl, la, rfl, .inl ⟨_, .inl L2⟩, _, rfl, _, DGet.k (k := Sum.inr nm) L2, ?_⟩
            rw [dk_val]
            have eo : (((aboveOf rs).lookup nm).map V.str).getD (V.str (Str.ofString "out")) = V.str (((aboveOf rs).lookup nm).getD sOut) := by
              cases (aboveOf rs).lookup nm <;> rfl
            rw [eo]
            refine ⟨rfl, _, rfl, ite2 (fun h => ?_) (fun h => ⟨rfl, _, rfl, ?_⟩)⟩
            · have hb : bad (aboveOf rs) r = true := by
                rw [eb, List.any_eq_true]
                exact ⟨nm, List.mem_of_getElem? hnm, beq_iff_eq.mpr (V.str.inj (of_decide_eq_true h))⟩
              exact ⟨_, rfl, fun d H4 s4 e4 => q3 k (wt.bad hl hr hb) d H4 ((s1.trans s13).trans s4) e4⟩
            · rw [htk, List.any_append, hall]
              have : (((aboveOf rs).lookup nm).getD sOut == sOut) = false := beq_eq_false_iff_ne.mpr fun x => h (eqT x)
              simp [this]
          · obtain ⟨rfl, y, rfl, hall⟩ := hP
            rw [List.take_of_length_le (by simp)] at hall
            rw [hall] at eb
            have hnone : (aboveOf rs).lookup r.name = none := by
              cases e : (aboveOf rs).lookup r.name with
              | none => rfl
              | some z => rw [e] at hno; cases hno
            have hlen : rs.length < sizeLine := by rw [wt.len, sizeLine_eq]; omega
            have w2 := wt.on hl hr eb
            refine ⟨_, rfl, p, _, 0, _, rfl, rfl, SqT.of E1, rfl, _, rfl, _, rfl, p, _, 1, _, rfl, rfl, SqT.of E1, rfl, la, _, rfl, DPut.k (k := Sum.inr r.name) L2 (by rw [dk_len]; exact hlen), ?_⟩
            rw [dk_put hnone, ← aboveOf_snoc]
            have hla : ∀ b, b ≠ la → upd H3' la (.dK (dk (aboveOf (rs ++ [r])))) b = H3' b := fun b hb => upd_ne hb
            have L1' : upd H3' la (.dK (dk (aboveOf (rs ++ [r])))) lw = some (.lst (as.map V.ref)) := by rw [hla _ hlwa]; exact L1
            refine ⟨_, rfl, .inl ⟨rfl, _, SqL.of L1'⟩, _, rfl, lw, _, _, rfl, rfl, L1', by rw [List.length_map, R1.1]; exact hlen, ?_⟩
            refine ⟨rs ++ [r], as ++ [p], _, _, _, _, w2, rfl, same_put (same_put (s1.trans s13) nla0) nlw, ?_, ?_, ?_, ?_⟩
            · rw [upd_same, List.map_append]
              rfl
            · rw [upd_ne hlwa.symm]
              exact upd_same
            · exact ((((R1.mono s13).put L2 (dK_tup _)).snoc (Rp.put L2 (dK_tup _)))).put L1' (lst_tup _)
            · rw [upd_ne hplw, upd_ne hpla]
              exact s13 _ _ e3
      · exact q2 k (wt.none hl hn) d H3 ((s1.trans sT).trans s3) e
    · obtain ⟨rs, as, y3, y4, y5, y6, wt, rfl, s1, e1, e2, R1, e3⟩ := hP
      rw [List.length_map] at wt
      exact ⟨_, rfl, q1 rs wt.done lw as H1 s1 e1 R1⟩
end
end K19

set_option Elab.async false
set_option linter.all false
set_option maxRecDepth 100000
set_option maxHeartbeats 4000000
/-! # A11: shown_works -/
namespace K19
open PySem PySem.Spec PyProof.Rows L2
def spShown (K : PySem.W.Frag) : Sp := fun vs H Q _ => ∃ (p : Addr) (as : List Addr) (rs : List Row), vs = [.ref p] ∧ H p = some (.lst (as.map V.ref)) ∧ RowsAt H as rs ∧ rs.length ≤ 1000 ∧ (∀ r ∈ rs, r.words.length ≤ 60 ∧ r.line.length ≤ 900000) ∧
  ((rs.map Row.line).map (·.length)).sum ≤ 1000000 ∧ ∀ H', Same H H' → Q (.str (Txt.join sN (rs.map Row.line))) H'
section
variable {P : Program} {w : World} {K : PySem.W.Frag} {mg : Str → Option Value} {base : Heap}
theorem sc_shown_works : FnScope ["works", "lines", "word", "name", "froms", "rest"] ["works"] (defScope (topS 38)) := ⟨rfl, rfl, rfl, by decide +kernel, rfl, by decide +kernel, by decide +kernel⟩
theorem join_room {r : Row} (h : r.words.length ≤ 60 ∧ r.line.length ≤ 900000) : (r.words.map (·.length)).sum + r.words.length * sB.length ≤ 16777216 := by
  have e := line_size (ws := r.words) (by simp [Row.words])
  have e1 : (Txt.join sB r.words).length = r.line.length := rfl
  have e2 : sB.length = 1 := by decide +kernel
  rw [e2]
  omega
theorem D_shown_works (T : Txt K w mg) : Def P w K mg base CX0 1 "shown_works" ["works"] (spShown K) := by
  refine Def.of (T.fn ("shown_works", 38) (by decide +kernel)) sc_shown_works (fun _ _ _ _ _ _ us hl => match us, hl with | [_], _ => rfl) (fun vs H Q E h => ?_) (fun f cdv A outer s H vs Q E hr h => ?_)
  · obtain ⟨p, as, rs, rfl, _⟩ := h
    rfl
  · obtain ⟨p, as, rs, rfl, ep, R0, h1000, h60, hsum, q⟩ := h
    have fList := T.free "list" (by decide +kernel)
    refine ⟨_, PSs.nox ((pss_cons (ps_set (i := 1) sc_shown_works.nd rfl (.inl rfl) (pe_lst pa_nil))
      (pss_cons (ps_for PassesOwn.never rfl (pi_list (pv 0)) (pg_tup (by rfl) (pgs_cons (pg_name (i := 2) sc_shown_works.nd rfl (.inl rfl)) (pgs_cons (pg_name (i := 3) sc_shown_works.nd rfl (.inl rfl)) (pgs_cons (pg_name (i := 4) sc_shown_works.nd rfl (.inl rfl)) (pgs_cons (pg_name (i := 5) sc_shown_works.nd rfl (.inl rfl)) pgs_nil)))))
          (pss_one (ps_expr (pe_bm PySem.F.plainAttrs_list PySem.F.slot_list_append PySem.F.type_list_append mt_append (pv 1) (pa_cons (pe_join pe_str (pe_op op_cat (pe_op op_cat (pe_lst (pa_cons (pv 2) (pa_cons (pv 3) pa_nil))) (pe_callTy call_list_of (by rfl) fList (by decide +kernel) (pa_cons (pv 4) pa_nil))) (pe_callTy call_list_of (by rfl) fList (by decide +kernel) (pa_cons (pv 5) pa_nil)))) pa_nil)))))
      (pss_one (ps_ret (pe_join pe_str (pv 1))))))), ?_⟩
    refine ⟨by decide, fun lw nlw => ?_⟩
    have s0 := same_new (o := .lst []) nlw
    refine ⟨_, rfl, p, rfl, ⟨_, SqL.of (s0 _ _ ep)⟩, for_it (walk_list (xs := as.map V.ref)) (fun i σ H' => ∃ y2 y3 y4 y5 : Option V, σ = [some (.ref p), some (.ref lw), y2, y3, y4, y5] ∧ Same H H' ∧ H' lw = some (.lst (((rs.take i).map Row.line).map V.str))) ⟨_, _, _, _, rfl, s0, upd_same⟩
      (fun _ _ _ _ hP => by obtain ⟨_, _, _, _, _, s1, _⟩ := hP; exact SqL.of (s1 _ _ ep)) (fun i x σ H1 H2 hi hP hY => ?_) (fun σ H1 hP => ?_)⟩
    · obtain ⟨y2, y3, y4, y5, rfl, s1, e1⟩ := hP
      obtain ⟨rfl, hx⟩ := hY
      have hi1 : i < as.length := by simpa using hi
      have hi2 : i < rs.length := by rw [← R0.1]; exact hi1
      have ha : as[i]? = some as[i] := List.getElem?_eq_getElem hi1
      have hr2 : rs[i]? = some rs[i] := List.getElem?_eq_getElem hi2
      rw [List.getElem?_map, ha] at hx
      obtain rfl : V.ref as[i] = x := Option.some.inj hx
      have h60i := h60 rs[i] (List.getElem_mem hi2)
      obtain ⟨pa, pb, E1, E2, E3⟩ := (R0.2 i _ _ ha hr2).mono s1
      have ht : rs.take (i + 1) = rs.take i ++ [rs[i]] := by rw [List.take_add_one, hr2]; rfl
      generalize rs[i] = r at *
      have hfl : r.froms.length + r.rest.length + 2 ≤ 60 := by
        have := h60i.1
        unfold Row.words at this
        simp at this
        omega
      refine ⟨as[i], _, rfl, SqT.of E1, rfl, _, _, rfl, _, _, rfl, _, _, rfl, _, _, rfl, rfl, ?_⟩
      refine ⟨_, rfl, .inl ⟨rfl, _, SqL.of e1⟩, ⟨_, rfl⟩, ?_⟩
      refine ⟨_, rfl, _, rfl, line2, fun p1 n1 => ⟨_, rfl, pa, _, rfl, .inr (SqT.of (same_new n1 _ _ E2)), fun p2 n2 => ⟨p1, p2, _, _, rfl, rfl, same_new n2 _ _ upd_same, upd_same, ?_, fun p3 n3 => ?_⟩⟩⟩
      · rw [sizeLine_eq]
        simp
        omega
      have s2 := ((same_new (o := .lst [.str r.word, .str r.name]) n1).trans (same_new (o := .lst (r.froms.map V.str)) n2)).trans (same_new (o := .lst ([.str r.word, .str r.name] ++ r.froms.map V.str)) n3)
      refine ⟨_, rfl, pb, _, rfl, .inr (SqT.of (s2 _ _ E3)), fun p4 n4 => ⟨p3, p4, _, _, rfl, rfl, same_new n4 _ _ upd_same, upd_same, ?_, fun p5 n5 => ?_⟩⟩
      · rw [sizeLine_eq]
        simp
        omega
      have s3 := (s2.trans (same_new (o := .lst (r.rest.map V.str)) n4)).trans (same_new (o := .lst ([.str r.word, .str r.name] ++ r.froms.map V.str ++ r.rest.map V.str)) n5)
      have ew : [V.str r.word, .str r.name] ++ r.froms.map V.str ++ r.rest.map V.str = r.words.map V.str := by
        unfold Row.words
        simp
      refine ⟨_, p5, r.words, rfl, rfl, .inl (SqL.of (by rw [← ew]; exact upd_same)), join_room h60i, ?_⟩
      refine ⟨lw, _, _, rfl, rfl, s3 _ _ e1, ?_, ⟨_, _, _, _, rfl, same_put (s1.trans s3) nlw, ?_⟩⟩
      · rw [sizeLine_eq, List.length_map, List.length_map, List.length_take]
        omega
      · rw [upd_same, ht, List.map_append, List.map_append]
        rfl
    · obtain ⟨y2, y3, y4, y5, rfl, s1, e1⟩ := hP
      rw [List.length_map, R0.1, List.take_length] at e1
      refine ⟨⟨_, rfl⟩, _, rfl, _, lw, rs.map Row.line, rfl, rfl, .inl (SqL.of e1), ?_, q H1 s1⟩
      have e2 : sN.length = 1 := by decide +kernel
      show ((rs.map Row.line).map (·.length)).sum + (rs.map Row.line).length * sN.length ≤ 16777216
      rw [e2, List.length_map]
      omega
end
end K19

set_option Elab.async false
set_option linter.all false
set_option maxRecDepth 100000
set_option maxHeartbeats 4000000
/-! # B1: _law_cell_at, _law_drawn, _law_cells, _law_leaf -/
namespace K19
open PySem PySem.Spec PyProof.Rows L2
theorem at_memS {ws : List Str} {k : Int} (h0 : 0 ≤ k) (h1 : k < (ws.length : Int)) : ∃ w, w ∈ ws ∧ atI (ws.map V.str) k = some (.str w) := by
  obtain ⟨n, rfl⟩ := Int.eq_ofNat_of_zero_le h0
  have hn : n < ws.length := by omega
  exact ⟨ws[n], List.getElem_mem hn, at_strs (List.getElem?_eq_getElem hn)⟩
theorem at_memI {ns : List Int} {k : Int} (h0 : 0 ≤ k) (h1 : k < (ns.length : Int)) : ∃ i, i ∈ ns ∧ atI (ns.map V.int) k = some (.int i) := by
  obtain ⟨n, rfl⟩ := Int.eq_ofNat_of_zero_le h0
  have hn : n < ns.length := by omega
  exact ⟨ns[n], List.getElem_mem hn, atI_nat (by rw [List.getElem?_map, List.getElem?_eq_getElem hn]; rfl)⟩
theorem cm_r {i j : Int} (h1 : -(2 ^ 64) < j) (h2 : j < 2 ^ 64) : CMul i j := .inr ⟨h1, h2⟩
theorem cm_l {i j : Int} (h1 : -(2 ^ 64) < i) (h2 : i < 2 ^ 64) : CMul i j := .inl ⟨h1, h2⟩
theorem cd {i j : Int} (h1 : 0 < j) (h2 : j < 1073741824) : CDiv i j := ⟨h1, h2⟩
theorem md {j : Int} (h : 0 < j) : 0 < j := h
theorem small_log {i : Int} {n : Nat} (h : i.natAbs ≤ 10 ^ 25) : i.natAbs.log2 < 1920 := by
  by_cases h0 : i.natAbs = 0
  · rw [h0]; decide
  · exact (Nat.log2_lt h0).mpr (Nat.lt_of_le_of_lt h (by decide +kernel))
section
variable {P : Program} {w : World} {K : PySem.W.Frag} {mg : Str → Option Value} {base : Heap}
def spCell (K : PySem.W.Frag) : Sp := fun vs H Q _ => ∃ (a : Addr) (ns : List Int) (k : Nat), vs = [.ref a, .int (k : Int)] ∧ SqL K H a (ns.map V.int) ∧ ∀ v, Q (.int v) H
theorem sc_law_cell_at : FnScope ["_law_script", "_law_k"] ["_law_script", "_law_k"] (defScope (topS 40)) := ⟨rfl, rfl, rfl, by decide +kernel, rfl, by decide +kernel, by decide +kernel⟩
theorem D_law_cell_at (T : Txt K w mg) : Def P w K mg base CX0 1 "_law_cell_at" ["_law_script", "_law_k"] (spCell K) := by
  refine Def.of (T.fl ("_law_cell_at", 40) (by decide +kernel)) sc_law_cell_at (fun _ _ _ _ _ _ us hl => match us, hl with | [_, _], _ => rfl) (fun vs H Q E h => ?_) (fun f cdv A outer s H vs Q E hr h => ?_)
  · obtain ⟨a, ns, k, rfl, _⟩ := h
    rfl
  · obtain ⟨a, ns, k, rfl, hS, q⟩ := h
    have fLen := T.free "len" (by decide +kernel)
    refine ⟨_, PSs.nox ((pss_cons (ps_if (pt_cmpR op_lt (pv 1) (pe_callB call_len_seq (by rfl) fLen PySem.boot_len (pa_cons (pv 0) pa_nil)) (nomark _))
          (pss_one (ps_ret (pe_ix ix_list (pv 0) (pv 1) (fun _ _ => rfl)))) pss_nil)
      (pss_one (ps_ret pe_int)))), ?_⟩
    refine ⟨_, rfl, _, rfl, a, _, rfl, .inl hS, _, _, rfl, rfl, _, rfl, ite2 (fun h => ?_) (fun h => q 0)⟩
    have h := of_decide_eq_true h
    rw [List.length_map] at h
    obtain ⟨i, _, e⟩ := at_memI (ns := ns) (k := (k : Int)) (by omega) (by omega)
    exact ⟨_, rfl, _, rfl, a, _, _, _, rfl, rfl, hS, e, q i⟩
def spDrawn : Sp := fun vs H Q _ => ∃ (n m : Int), vs = [.int n, .int m] ∧ 0 ≤ m ∧ m ≤ 100 ∧ ∀ (p : Addr) (ns : List Int) (H' : Hp), Same H H' → H' p = some (.lst (ns.map V.int)) → ns.length = m.toNat → (∀ x ∈ ns, 0 ≤ x ∧ x < 2147483629) → Q (.ref p) H'
theorem sc_law_drawn : FnScope ["_law_number", "_law_many", "_law_found", "_law_x", "_law_k"] ["_law_number", "_law_many"] (defScope (topS 42)) := ⟨rfl, rfl, rfl, by decide +kernel, rfl, by decide +kernel, by decide +kernel⟩
theorem D_law_drawn (T : Txt K w mg) : Def P w K mg base CX0 1 "_law_drawn" ["_law_number", "_law_many"] spDrawn := by
  refine Def.of (T.fl ("_law_drawn", 42) (by decide +kernel)) sc_law_drawn (fun _ _ _ _ _ _ us hl => match us, hl with | [_, _], _ => rfl) (fun vs H Q E h => ?_) (fun f cdv A outer s H vs Q E hr h => ?_)
  · obtain ⟨n, m, rfl, _⟩ := h
    rfl
  · obtain ⟨n, m, rfl, hm0, hm1, q⟩ := h
    have fRange := T.free "range" (by decide +kernel)
    refine ⟨_, PSs.nox ((pss_cons (ps_set (i := 2) sc_law_drawn.nd rfl (.inl rfl) (pe_lst pa_nil))
      (pss_cons (ps_set (i := 3) sc_law_drawn.nd rfl (.inl rfl) (pe_op op_mod (pv 0) pe_int))
      (pss_cons (ps_for PassesOwn.never rfl (pi_range1 (by rfl) fRange (pa_cons (pv 1) pa_nil)) (pg_name (i := 4) sc_law_drawn.nd rfl (.inl rfl))
          (pss_cons (ps_set (i := 3) sc_law_drawn.nd rfl (.inl rfl) (pe_op op_mod (pe_op op_add (pe_op op_add (pe_op op_add (pe_op op_mul (pv 3) (pv 3)) (pe_op op_mul pe_int (pv 3))) (pe_op op_mul pe_int (pv 4))) pe_int) pe_int))
          (pss_one (ps_expr (pe_bm PySem.F.plainAttrs_list PySem.F.slot_list_append PySem.F.type_list_append mt_append (pv 2) (pa_cons (pe_op op_fdiv (pv 3) pe_int) pa_nil))))))
      (pss_one (ps_ret (pv 2))))))), ?_⟩
    refine ⟨by decide, fun p np => ?_⟩
    refine ⟨_, rfl, _, _, rfl, rfl, md (by decide), ?_⟩
    refine ⟨_, rfl, m, rfl, by omega, by omega, for_it walk_range (fun i σ H' => ∃ (x : Int) (y : Option V) (ns : List Int), σ = [some (.int n), some (.int m), some (.ref p), some (.int x), y] ∧ 0 ≤ x ∧ x < 2147483629 ∧ Same H H' ∧ H' p = some (.lst (ns.map V.int)) ∧ ns.length = i ∧ ∀ x ∈ ns, 0 ≤ x ∧ x < 2147483629)
      ⟨n % 2147483629, none, [], rfl, Int.emod_nonneg _ (by decide), Int.emod_lt_of_pos _ (by decide), same_new np, upd_same, rfl, fun x hx => by cases hx⟩ (fun _ _ _ _ _ => trivial) (fun i x σ H1 H2 hi hP hY => ?_) (fun σ H1 hP => ?_)⟩
    · obtain ⟨x0, y, ns, rfl, h0, h1, s1, e1, hl, hall⟩ := hP
      obtain ⟨rfl, hx⟩ := hY
      subst hx
      have hl2 : ns.length < sizeLine := by rw [sizeLine_eq]; omega
      refine ⟨_, rfl, _, rfl, _, _, rfl, rfl, cm_r (by omega) (by omega), _, rfl, _, _, rfl, rfl, cm_l (by decide) (by decide), _, _, rfl, rfl, _, rfl, _, _, rfl, rfl, cm_l (by decide) (by decide), _, _, rfl, rfl, _, _, rfl, rfl, _, _, rfl, rfl, md (by decide), ?_⟩
      have hz0 : 0 ≤ (x0 * x0 + 40692 * x0 + 2 * (0 + (i : Int)) + 1) % 2147483629 := Int.emod_nonneg _ (by decide)
      have hz1 : (x0 * x0 + 40692 * x0 + 2 * (0 + (i : Int)) + 1) % 2147483629 < 2147483629 := Int.emod_lt_of_pos _ (by decide)
      refine ⟨_, rfl, .inl ⟨rfl, _, SqL.of e1⟩, _, rfl, _, _, rfl, rfl, cd (by decide) (by decide), p, _, _, rfl, rfl, e1, by rw [List.length_map]; exact hl2, ?_⟩
      refine ⟨_, _, ns ++ [(x0 * x0 + 40692 * x0 + 2 * (0 + (i : Int)) + 1) % 2147483629 / 3], rfl, hz0, hz1, same_put s1 np, ?_, by simp [hl], fun u hu => ?_⟩
      · rw [upd_same, List.map_append]
        rfl
      · rcases List.mem_append.mp hu with hu | hu
        · exact hall u hu
        · obtain rfl := List.mem_singleton.mp hu
          omega
    · obtain ⟨x0, y, ns, rfl, h0, h1, s1, e1, hl, hall⟩ := hP
      exact ⟨_, rfl, q p ns H1 s1 e1 hl hall⟩
def spCells (K : PySem.W.Frag) : Sp := fun vs H Q _ => ∃ (a : Addr) (ns : List Int), vs = [.ref a] ∧ SqL K H a (ns.map V.int) ∧ ns.length ≤ 63 ∧ ∀ (p : Addr) (ms : List Int) (H' : Hp), Same H H' → H' p = some (.lst (ms.map V.int)) → 1 ≤ ms.length → ms.length ≤ 30 → Q (.ref p) H'
theorem sc_law_cells : FnScope ["_law_script", "_law_first"] ["_law_script"] (defScope (topS 41)) := ⟨rfl, rfl, rfl, by decide +kernel, rfl, by decide +kernel, by decide +kernel⟩
theorem D_law_cells (T : Txt K w mg) : Def P w K mg base CX0 2 "_law_cells" ["_law_script"] (spCells K) := by
  have D_law_cell_at : Def P w K mg base CX0 1 "_law_cell_at" ["_law_script", "_law_k"] (spCell K) := D_law_cell_at T
  have D_law_drawn : Def P w K mg base CX0 1 "_law_drawn" ["_law_number", "_law_many"] spDrawn := D_law_drawn T
  refine Def.of (T.fl ("_law_cells", 41) (by decide +kernel)) sc_law_cells (fun _ _ _ _ _ _ us hl => match us, hl with | [_], _ => rfl) (fun vs H Q E h => ?_) (fun f cdv A outer s H vs Q E hr h => ?_)
  · obtain ⟨a, ns, rfl, _⟩ := h
    rfl
  · obtain ⟨a, ns, rfl, hS, h63, q⟩ := h
    refine ⟨_, PSs.nox ((pss_cons (ps_set (i := 1) sc_law_cells.nd rfl (.inl rfl) (pe_d D_law_cell_at hr (pa_cons (pv 0) (pa_cons pe_int pa_nil))))
      (pss_cons (ps_if (pt_cmpR op_eq (pe_op op_mod (pv 1) pe_int) pe_int (nomark _))
          (pss_one (ps_ret (pe_d D_law_drawn hr (pa_cons (pe_op op_fdiv (pv 1) pe_int) (pa_cons (pe_op op_add pe_int (pe_op op_mod (pe_op op_fdiv (pv 1) pe_int) pe_int)) pa_nil))))) pss_nil)
      (pss_one (ps_ret (pe_op op_cat (pe_lst (pa_cons (pe_op op_fdiv (pv 1) pe_int) pa_nil)) (pe_slice sl_list (pv 0) (po_some pe_int) (po_some pe_int)))))))), ?_⟩
    refine ⟨_, rfl, a, ns, 0, rfl, hS, fun v => ?_⟩
    refine ⟨_, rfl, _, _, rfl, rfl, md (by decide), rfl, _, rfl, ite2 (fun _ => ?_) (fun _ => ?_)⟩
    · refine ⟨_, rfl, _, _, rfl, rfl, cd (by decide) (by decide), _, rfl, _, _, rfl, rfl, cd (by decide) (by decide), _, _, rfl, rfl, md (by decide), _, _, rfl, rfl, _, _, rfl, ?_, ?_, fun p ms H' s' e' hl _ => q p ms H' s' e' ?_ ?_⟩
      all_goals omega
    · refine ⟨_, rfl, _, _, rfl, rfl, cd (by decide) (by decide), (by show 1 ≤ sizeLine; decide), fun p np => ⟨_, rfl, _, rfl, _, rfl, a, _, rfl, (same_new np).seq hS, fun p2 np2 => ?_⟩⟩
      have e2 : cutV (ns.map V.int) (some ((1 : Nat) : Int)) (some ((12 : Nat) : Int)) = ((ns.take 12).drop 1).map V.int := by
        rw [cutV_mid, List.map_drop, List.map_take]
      have e3 : upd (upd H p (.lst [.int (v / 8)])) p2 (.lst (cutV (ns.map V.int) (some (1 : Int)) (some (12 : Int)))) p2 = some (.lst (((ns.take 12).drop 1).map V.int)) := by
        rw [← e2]
        exact upd_same
      refine ⟨p, p2, [.int (v / 8)], ((ns.take 12).drop 1).map V.int, rfl, rfl, same_new np2 _ _ upd_same, e3, ?_, fun p3 np3 => q p3 ((v / 8) :: (ns.take 12).drop 1) _ (((same_new np).trans (same_new np2)).trans (same_new np3)) upd_same ?_ ?_⟩
      · rw [sizeLine_eq]; simp; omega
      · simp
      · simp; omega
end
end K19

set_option Elab.async false
set_option linter.all false
set_option maxRecDepth 100000
set_option maxHeartbeats 4000000
/-! # B2: _law_leaf, _law_leaf_from, _law_expr, _law_expr_from -/
namespace K19
open PySem PySem.Spec PyProof.Rows L2
abbrev sTvw : Str := Str.ofString "tvw"
structure LeafW (L w : Str) : Prop where
  ok : leafOk L w = true
  sg : isSg w = false
  cl : clean w
theorem sg_not_num {w : Str} (h : numOk w = true) : isSg w = false := by
  cases e : isSg w with
  | false => rfl
  | true =>
    have hm : w ∈ sgs := of_decide_eq_true e
    have : numOk w = false := by
      simp only [sgs, List.mem_cons, List.not_mem_nil, or_false] at hm
      rcases hm with rfl | rfl | rfl | rfl | rfl <;> decide +kernel
    rw [this] at h
    cases h
theorem leaf_num {L w : Str} (h : numOk w = true) (hc : ∀ c ∈ TL.tl w, c ≠ 32 ∧ c ≠ 10) : LeafW L w := by
  refine ⟨by unfold leafOk; rw [h, Bool.or_true], sg_not_num h, hc, ?_⟩
  have := (num_int h).2
  omega
theorem figs_clean {n : Nat} : ∀ c ∈ TL.numL n, c ≠ 32 ∧ c ≠ 10 := fun c hc => by
  have := TL.numL_digits n c hc
  omega
theorem leaf_pos {L w : Str} {n : Nat} (e : TL.tl w = TL.numL n) (h : n < 10 ^ 20) : LeafW L w := leaf_num (numOk_nat e h) (by rw [e]; exact figs_clean)
theorem leaf_neg {L w : Str} {n : Nat} (e : TL.tl w = 45 :: TL.numL n) (h0 : 0 < n) (h : n < 10 ^ 20) : LeafW L w := leaf_num (numOk_neg e h0 h) (by
  rw [e]
  intro c hc
  rcases List.mem_cons.mp hc with rfl | hc
  · decide
  · exact figs_clean c hc)
theorem leaf_str {L : Str} {i : Int} (h0 : -(10 ^ 20) < i) (h1 : i < 10 ^ 20) : LeafW L (strI i) := by
  by_cases h : 0 ≤ i
  · obtain ⟨n, rfl⟩ := Int.eq_ofNat_of_zero_le h
    exact leaf_pos (tl_strI n) (by omega)
  · obtain ⟨n, hn⟩ := Int.eq_ofNat_of_zero_le (a := -i) (by omega)
    have e : i = -(n : Int) := by omega
    subst e
    exact leaf_neg (n := n) (tl_strI_neg (by omega)) (by omega) (by omega)
theorem leaf_sign {L : Str} {n : Nat} (h0 : 0 < n) (h : n < 10 ^ 20) : LeafW L (Str.ofString "-" ++ strI (n : Int)) := by
  refine leaf_neg (n := n) ?_ h0 h
  rw [TL.tl_append, tl_strI]
  rw [show TL.tl (Str.ofString "-") = [45] by decide +kernel]
  rfl
theorem tl_tv : TL.tl tvS = [116, 118] := by decide +kernel
theorem tl_tvw : TL.tl sTvw = [116, 118, 119] := by decide +kernel
theorem let_in {L : Str} (hL : L = tvS ∨ L = sTvw) {c : Nat} (h : c ∈ TL.tl L) : c = 116 ∨ c = 118 ∨ c = 119 := by
  rcases hL with rfl | rfl
  · rw [tl_tv] at h; simp at h; omega
  · rw [tl_tvw] at h; simp at h; omega
theorem leaf_let {L : Str} (hL : L = tvS ∨ L = sTvw) {c : Nat} (h : c ∈ TL.tl L) : LeafW L ⟨#[c]⟩ := by
  have hc := let_in hL h
  refine ⟨?_, ?_, fun d hd => ?_, Nat.le_of_ble_eq_true rfl⟩
  · unfold leafOk
    rw [inOne_one, decide_eq_true (show c ∈ L.cps.toList from h)]
    rfl
  · rcases hc with rfl | rfl | rfl <;> decide +kernel
  · have : d ∈ [c] := hd
    obtain rfl := List.mem_singleton.mp this
    omega
theorem tl_at {L : Str} {k : Int} (h0 : 0 ≤ k) (h1 : k < (L.length : Int)) : ∃ c, c ∈ TL.tl L ∧ atI L.cps.toList k = some c := by
  obtain ⟨n, rfl⟩ := Int.eq_ofNat_of_zero_le h0
  have hn : n < (TL.tl L).length := by rw [← TL.len_tl]; omega
  exact ⟨(TL.tl L)[n], List.getElem_mem hn, atI_nat (List.getElem?_eq_getElem hn)⟩
theorem let_len {L : Str} (hL : L = tvS ∨ L = sTvw) : 0 < L.length ∧ L.length ≤ 3 ∧ L ≠ Str.ofString "" := by
  rcases hL with rfl | rfl <;> decide +kernel
section
variable {P : Program} {w : World} {K : PySem.W.Frag} {mg : Str → Option Value} {base : Heap}
def spLeaf : Sp := fun vs H Q _ => ∃ (x : Int) (L : Str), vs = [.int x, .str L] ∧ (L = tvS ∨ L = sTvw) ∧ ∀ (w : Str) (H' : Hp), Same H H' → LeafW L w → Q (.str w) H'
theorem sc_law_leaf : FnScope ["_law_x", "_law_letters", "_law_number"] ["_law_x", "_law_letters"] (defScope (topS 43)) := ⟨rfl, rfl, rfl, by decide +kernel, rfl, by decide +kernel, by decide +kernel⟩
theorem D_law_leaf (T : Txt K w mg) : Def P w K mg base CX0 1 "_law_leaf" ["_law_x", "_law_letters"] spLeaf := by
  refine Def.of (T.fl ("_law_leaf", 43) (by decide +kernel)) sc_law_leaf (fun _ _ _ _ _ _ us hl => match us, hl with | [_, _], _ => rfl) (fun vs H Q E h => ?_) (fun f cdv A outer s H vs Q E hr h => ?_)
  · obtain ⟨x, L, rfl, _⟩ := h
    rfl
  · obtain ⟨x, L, rfl, hL, q⟩ := h
    have fLen := T.free "len" (by decide +kernel)
    have fStr := T.free "str" (by decide +kernel)
    obtain ⟨l1, l2, l3⟩ := let_len hL
    refine ⟨_, PSs.nox ((pss_cons (ps_if (PW.pt (pw_and (pt_cmpR op_gt (pe_op op_mod (pv 0) pe_int) pe_int (nomark _)) (pw_and1 (pt_cmpR op_ne (pv 1) pe_str (nomark _)))))
          (pss_one (ps_ret (pe_ix ix_str (pv 1) (pe_op op_mod (pe_op op_fdiv (pv 0) pe_int) (pe_callB call_len_str (by rfl) fLen PySem.boot_len (pa_cons (pv 1) pa_nil))) (fun _ _ => rfl)))) pss_nil)
      (pss_cons (ps_set (i := 2) sc_law_leaf.nd rfl (.inl rfl) (pe_op op_mod (pe_op op_mul (pe_op op_mul (pe_op op_mul (pv 0) pe_int) pe_int) pe_int) (pe_ix ix_list (pe_lst (pa_cons pe_int (pa_cons pe_int (pa_cons (pe_op op_pow pe_int pe_int) (pa_cons (pe_op op_pow pe_int pe_int) (pa_cons (pe_op op_pow pe_int pe_int) pa_nil)))))) (pe_op op_mod (pe_op op_fdiv (pv 0) pe_int) pe_int) (fun _ _ => rfl))))
      (pss_cons (ps_if (PW.pt (pw_and (pt_cmpR op_eq (pe_op op_mod (pe_op op_fdiv (pv 0) pe_int) pe_int) pe_int (nomark _)) (pw_and1 (pt_cmpR op_gt (pv 2) pe_int (nomark _)))))
          (pss_one (ps_ret (pe_op op_add_str pe_str (pe_callTy call_str_int (by rfl) fStr (by decide +kernel) (pa_cons (pv 2) pa_nil))))) pss_nil)
      (pss_one (ps_ret (pe_callTy call_str_int (by rfl) fStr (by decide +kernel) (pa_cons (pv 2) pa_nil)))))))), ?_⟩
    refine ⟨_, rfl, _, _, rfl, rfl, md (by decide), _, _, rfl, rfl, _, rfl, ite2 (fun h => ?_) (fun h => iteF ?_)⟩
    · refine ⟨_, rfl, rfl, _, rfl, ite2 (fun h2 => ?_) (fun h2 => ?_)⟩
      · obtain ⟨c, hc, e⟩ := tl_at (L := L) (k := x / 3 % (L.length : Int)) (Int.emod_nonneg _ (by omega)) (Int.emod_lt_of_pos _ (by omega))
        exact ⟨_, rfl, _, rfl, _, _, rfl, rfl, cd (by decide) (by decide), _, rfl, L, rfl, by rw [sizeLine_eq]; omega, _, _, rfl, rfl, md (by omega), L, _, c, rfl, rfl, by rw [sizeLine_eq]; omega, e, q _ H (Same.refl H) (leaf_let hL hc)⟩
      · rw [eqF l3] at h2
        exact absurd rfl h2
    · refine ⟨_, rfl, _, _, rfl, rfl, cm_r (by decide) (by decide), _, _, rfl, rfl, cm_r (by decide) (by decide), _, _, rfl, rfl, cm_r (by decide) (by decide), ?_⟩
      have c6 : CPow 10 6 := by unfold CPow; decide +kernel
      have c12 : CPow 10 12 := by unfold CPow; decide +kernel
      have c20 : CPow 10 20 := by unfold CPow; decide +kernel
      refine ⟨_, _, rfl, rfl, c6, _, _, rfl, rfl, c12, _, _, rfl, rfl, c20, (by show 5 ≤ sizeLine; decide), fun p np => ?_⟩
      have h90 := Int.emod_nonneg (x / 9) (b := 5) (by decide)
      have h91 := Int.emod_lt_of_pos (x / 9) (b := 5) (by decide)
      obtain ⟨d, hd, e⟩ := at_memI (ns := [10, 100, (10 : Int) ^ (6 : Int).toNat, (10 : Int) ^ (12 : Int).toNat, (10 : Int) ^ (20 : Int).toNat]) (k := x / 9 % 5) h90 h91
      have hd2 : 0 < d ∧ d ≤ 10 ^ 20 := by
        simp only [List.mem_cons, List.not_mem_nil, or_false] at hd
        rcases hd with rfl | rfl | rfl | rfl | rfl <;> decide +kernel
      refine ⟨_, rfl, _, _, rfl, rfl, cd (by decide) (by decide), _, _, rfl, rfl, md (by decide), p, _, _, _, rfl, rfl, SqL.of upd_same, e, _, _, rfl, rfl, md hd2.1, ?_⟩
      have hn0 := Int.emod_nonneg (x * 1000003 * 104729 * 7919) (b := d) (by omega)
      have hn1 := Int.emod_lt_of_pos (x * 1000003 * 104729 * 7919) hd2.1
      have sp := same_new (o := .lst [.int 10, .int 100, .int ((10 : Int) ^ (6 : Int).toNat), .int ((10 : Int) ^ (12 : Int).toNat), .int ((10 : Int) ^ (20 : Int).toNat)]) np
      obtain ⟨n, en⟩ := Int.eq_ofNat_of_zero_le hn0
      have hn : n < 10 ^ 20 := by omega
      have fin : tRet (tCB (fun xs H Q => ∃ i, xs = [V.int i] ∧ i.natAbs.log2 < 1920 ∧ Q (V.str (Str.ofString (toString i))) H) (tCons (tVar 2) tNil)) { nx := fun _ H' => Q .non H', rt := Q } [some (.int x), some (.str L), some (.int (n : Int))] (upd H p (.lst [.int 10, .int 100, .int ((10 : Int) ^ (6 : Int).toNat), .int ((10 : Int) ^ (12 : Int).toNat), .int ((10 : Int) ^ (20 : Int).toNat)])) :=
        ⟨_, rfl, _, rfl, small_log (n := n) (by omega), q _ _ sp (leaf_pos (tl_strI n) hn)⟩
      have e3 : (fun i j => V.int (i % j)) (x * 1000003 * 104729 * 7919) d = V.int (n : Int) := congrArg V.int en
      rw [e3]
      refine ⟨_, rfl, _, _, rfl, rfl, cd (by decide) (by decide), _, _, rfl, rfl, md (by decide), rfl, _, rfl, ite2 (fun h => ?_) (fun h => iteF fin)⟩
      refine ⟨_, rfl, _, _, rfl, rfl, _, rfl, ite2 (fun h2 => ?_) (fun h2 => fin)⟩
      have h2 : 0 < n := by
        have := of_decide_eq_true h2
        omega
      refine ⟨_, rfl, _, rfl, small_log (n := n) (by omega), _, _, rfl, rfl, ?_, q _ _ sp (leaf_sign h2 hn)⟩
      have := (leaf_pos (L := L) (tl_strI n) hn).cl.2
      have e4 : (Str.ofString "-").length = 1 := by decide +kernel
      rw [sizeLine_eq, e4]
      show 1 + (strI (n : Int)).length ≤ _
      omega
def spLeafF : Sp := fun vs H Q _ => ∃ (x : Int) (L : Str), vs = [.int x, .str L] ∧ (L = tvS ∨ L = sTvw) ∧ ∀ (w : Str) (n : Int) (p : Addr) (H' : Hp), Same H H' → H' p = some (.tup [.str w, .int n]) → LeafW L w → Q (.ref p) H'
theorem sc_law_leaf_from : FnScope ["_law_number", "_law_letters"] ["_law_number", "_law_letters"] (defScope (topS 49)) := ⟨rfl, rfl, rfl, by decide +kernel, rfl, by decide +kernel, by decide +kernel⟩
theorem D_law_leaf_from (T : Txt K w mg) : Def P w K mg base CX0 1 "_law_leaf_from" ["_law_number", "_law_letters"] spLeafF := by
  refine Def.of (T.fl ("_law_leaf_from", 49) (by decide +kernel)) sc_law_leaf_from (fun _ _ _ _ _ _ us hl => match us, hl with | [_, _], _ => rfl) (fun vs H Q E h => ?_) (fun f cdv A outer s H vs Q E hr h => ?_)
  · obtain ⟨x, L, rfl, _⟩ := h
    rfl
  · obtain ⟨x, L, rfl, hL, q⟩ := h
    have fLen := T.free "len" (by decide +kernel)
    have fStr := T.free "str" (by decide +kernel)
    obtain ⟨l1, l2, l3⟩ := let_len hL
    refine ⟨_, PSs.nox ((pss_cons (ps_if (pt_cmpR op_lt (pe_op op_mod (pv 0) pe_int) (pe_callB call_len_str (by rfl) fLen PySem.boot_len (pa_cons (pv 1) pa_nil)) (nomark _))
          (pss_one (ps_ret (pe_tup (pa_cons (pe_ix ix_str (pv 1) (pe_op op_mod (pv 0) pe_int) (fun _ _ => rfl)) (pa_cons (pe_op op_fdiv (pv 0) pe_int) pa_nil))))) pss_nil)
      (pss_one (ps_ret (pe_tup (pa_cons (pe_callTy call_str_int (by rfl) fStr (by decide +kernel) (pa_cons (pe_op op_sub (pe_op op_mod (pe_op op_fdiv (pv 0) pe_int) pe_int) pe_int) pa_nil)) (pa_cons (pe_op op_fdiv (pv 0) pe_int) pa_nil))))))), ?_⟩
    have h50 := Int.emod_nonneg x (b := 5) (by decide)
    refine ⟨_, rfl, _, _, rfl, rfl, md (by decide), _, rfl, L, rfl, by rw [sizeLine_eq]; omega, _, _, rfl, rfl, _, rfl, ite2 (fun h => ?_) (fun h => ?_)⟩
    · have h := of_decide_eq_true h
      obtain ⟨c, hc, e⟩ := tl_at (L := L) (k := x % 5) h50 h
      exact ⟨_, rfl, _, rfl, _, _, rfl, rfl, md (by decide), L, _, c, rfl, rfl, by rw [sizeLine_eq]; omega, e, _, rfl, _, _, rfl, rfl, cd (by decide) (by decide), line2, fun p np => q _ _ p _ (same_new np) upd_same (leaf_let hL hc)⟩
    · have h0 := Int.emod_nonneg (x / 5) (b := 2001) (by decide)
      have h1 := Int.emod_lt_of_pos (x / 5) (b := 2001) (by decide)
      refine ⟨_, rfl, _, _, rfl, rfl, cd (by decide) (by decide), _, _, rfl, rfl, md (by decide), _, _, rfl, rfl, _, rfl, small_log (n := 0) (by omega), _, rfl, _, _, rfl, rfl, cd (by decide) (by decide), line2, fun p np => q _ _ p _ (same_new np) upd_same (leaf_str (by omega) (by omega))⟩
end
end K19

set_option Elab.async false
set_option linter.all false
set_option maxRecDepth 100000
set_option maxHeartbeats 4000000
/-! # B3: _law_expr, _law_expr_from -/
namespace K19
open PySem PySem.Spec PyProof.Rows L2
abbrev Clean (ws : List Str) : Prop := ∀ w ∈ ws, clean w
theorem clean_snoc {ws : List Str} {w : Str} (h : Clean ws) (g : clean w) : Clean (ws ++ [w]) := fun x hx => by
  rcases List.mem_append.mp hx with hx | hx
  · exact h x hx
  · rw [List.mem_singleton.mp hx]
    exact g
theorem str_clean {w : Str} (h : (TL.tl w).all (fun c => c != 32 && c != 10) = true) (hl : w.length ≤ 25) : clean w := ⟨fun c hc => by
  have := List.all_eq_true.mp h c hc
  simpa using this, hl⟩
theorem sg_clean {w : Str} (h : w ∈ sgs) : clean w := by
  simp only [sgs, List.mem_cons, List.not_mem_nil, or_false] at h
  rcases h with rfl | rfl | rfl | rfl | rfl <;> exact str_clean (by decide +kernel) (by decide +kernel)
theorem rep_succ {n : Nat} (h : 0 < n) : List.replicate n false = false :: List.replicate (n - 1) false := by
  obtain ⟨m, rfl⟩ : ∃ m, n = m + 1 := ⟨n - 1, by omega⟩
  rfl
section
variable {P : Program} {w : World} {K : PySem.W.Frag} {mg : Str → Option Value} {base : Heap}
def spLexpr : Sp := fun vs H Q _ => ∃ (n m : Int) (L : Str), vs = [.int n, .str L, .int m] ∧ (L = tvS ∨ L = sTvw) ∧ 1 ≤ m ∧ m ≤ 100 ∧
  ∀ (p : Addr) (ws : List Str) (H' : Hp), Same H H' → H' p = some (.lst (ws.map V.str)) → isExpr L ws = true → Clean ws → (ws.length : Int) ≤ m → Q (.ref p) H'
theorem Left.isExpr {L : Str} {ws : List Str} (h : Left L [false] ws (List.replicate 0 false)) : K19.isExpr L ws = true := by
  unfold K19.isExpr
  rw [Left.done h]
  exact beq_self_eq_true _
theorem sc_law_expr : FnScope ["_law_number", "_law_letters", "_law_most", "_law_words", "_law_need", "_law_x", "_law_pick"] ["_law_number", "_law_letters", "_law_most"] (defScope (topS 44)) := ⟨rfl, rfl, rfl, by decide +kernel, rfl, by decide +kernel, by decide +kernel⟩
theorem D_law_expr (T : Txt K w mg) : Def P w K mg base CX0 2 "_law_expr" ["_law_number", "_law_letters", "_law_most"] spLexpr := by
  have D_law_leaf : Def P w K mg base CX0 1 "_law_leaf" ["_law_x", "_law_letters"] spLeaf := D_law_leaf T
  refine Def.of (T.fl ("_law_expr", 44) (by decide +kernel)) sc_law_expr (fun _ _ _ _ _ _ us hl => match us, hl with | [_, _, _], _ => rfl) (fun vs H Q E h => ?_) (fun f cdv A outer s H vs Q E hr h => ?_)
  · obtain ⟨n, m, L, rfl, _⟩ := h
    rfl
  · obtain ⟨n, m, L, rfl, hL, hm, hm2, q⟩ := h
    have fLen := T.free "len" (by decide +kernel)
    refine ⟨_, PSs.nox ((pss_cons (ps_set (i := 3) sc_law_expr.nd rfl (.inl rfl) (pe_lst pa_nil))
      (pss_cons (ps_set (i := 4) sc_law_expr.nd rfl (.inl rfl) pe_int)
      (pss_cons (ps_set (i := 5) sc_law_expr.nd rfl (.inl rfl) (pe_op op_mod (pv 0) pe_int))
      (pss_cons (ps_while PassesOwn.never (pt_cmpR op_gt (pv 4) pe_int (nomark _))
          (pss_cons (ps_set (i := 5) sc_law_expr.nd rfl (.inl rfl) (pe_op op_mod (pe_op op_add (pe_op op_add (pe_op op_add (pe_op op_mul (pv 5) (pv 5)) (pe_op op_mul pe_int (pv 5))) (pe_callB call_len_seq (by rfl) fLen PySem.boot_len (pa_cons (pv 3) pa_nil))) pe_int) pe_int))
          (pss_cons (ps_set (i := 6) sc_law_expr.nd rfl (.inl rfl) (pe_op op_fdiv (pv 5) pe_int))
          (pss_one (ps_if (PW.pt (pw_and (pt_cmpR op_eq (pe_op op_mod (pv 6) pe_int) pe_int (nomark _)) (pw_and1 (pt_cmpR op_le (pe_op op_add (pe_op op_add (pe_callB call_len_seq (by rfl) fLen PySem.boot_len (pa_cons (pv 3) pa_nil)) (pv 4)) pe_int) (pv 2) (nomark _)))))
              (pss_cons (ps_expr (pe_bm PySem.F.plainAttrs_list PySem.F.slot_list_append PySem.F.type_list_append mt_append (pv 3) (pa_cons (pe_ix ix_list (pe_lst (pa_cons pe_str (pa_cons pe_str (pa_cons pe_str (pa_cons pe_str (pa_cons pe_str pa_nil)))))) (pe_op op_mod (pe_op op_fdiv (pv 6) pe_int) pe_int) (fun _ _ => rfl)) pa_nil)))
              (pss_one (ps_set (i := 4) sc_law_expr.nd rfl (.inl rfl) (pe_op op_add (pv 4) pe_int))))
              (pss_cons (ps_expr (pe_bm PySem.F.plainAttrs_list PySem.F.slot_list_append PySem.F.type_list_append mt_append (pv 3) (pa_cons (pe_d D_law_leaf hr (pa_cons (pe_op op_fdiv (pv 6) pe_int) (pa_cons (pv 1) pa_nil))) pa_nil)))
              (pss_one (ps_set (i := 4) sc_law_expr.nd rfl (.inl rfl) (pe_op op_sub (pv 4) pe_int)))))))))
      (pss_one (ps_ret (pv 3)))))))), ?_⟩
    refine ⟨by decide, fun lw nlw => ?_⟩
    refine ⟨_, rfl, _, _, rfl, rfl, md (by decide), ?_⟩
    refine ⟨fun k σ H' => ∃ (ws : List Str) (need : Nat) (x : Int) (y : Option V), σ = [some (.int n), some (.str L), some (.int m), some (.ref lw), some (.int (need : Int)), some (.int x), y] ∧ 0 ≤ x ∧ x < 2147483629 ∧ Same H H' ∧ H' lw = some (.lst (ws.map V.str)) ∧
      Left L [false] ws (List.replicate need false) ∧ Clean ws ∧ (ws.length : Int) + need ≤ m ∧ (k : Int) + ws.length = m, ⟨m.toNat, [], 1, n % 2147483629, none, rfl, Int.emod_nonneg _ (by decide), Int.emod_lt_of_pos _ (by decide), same_new nlw, upd_same, Left.start _, fun x hx => (by cases hx), by simp; omega, by simp; omega⟩, ?_⟩
    rintro k σ H1 ⟨ws, need, x, y, rfl, hx0, hx1, s1, e1, hL1, hc, hb, hk⟩
    have hlw : (ws.map V.str).length < sizeLine := by rw [List.length_map, sizeLine_eq]; omega
    refine ⟨_, rfl, _, _, rfl, rfl, _, rfl, ite2 (fun h => ?_) (fun h => ?_)⟩
    · have hn : 0 < need := by
        have := of_decide_eq_true h
        omega
      rw [rep_succ hn] at hL1
      refine ⟨fun σ' H' => ∃ (ws' : List Str) (need' : Nat) (x : Int) (y : Option V), σ' = [some (.int n), some (.str L), some (.int m), some (.ref lw), some (.int (need' : Int)), some (.int x), y] ∧ 0 ≤ x ∧ x < 2147483629 ∧ Same H H' ∧ H' lw = some (.lst (ws'.map V.str)) ∧
        Left L [false] ws' (List.replicate need' false) ∧ Clean ws' ∧ (ws'.length : Int) + need' ≤ m ∧ ws'.length = ws.length + 1, ?_, ?_⟩
      · rintro σ' H' ⟨ws', need', x', y', e, h0, h1, s', e', L', c', b', l'⟩
        exact ⟨k - 1, by omega, ws', need', x', y', e, h0, h1, s', e', L', c', b', by omega⟩
      refine ⟨_, rfl, _, rfl, _, _, rfl, rfl, cm_r (by omega) (by omega), _, rfl, _, _, rfl, rfl, cm_l (by decide) (by decide), _, _, rfl, rfl, _, rfl, lw, _, rfl, .inl (SqL.of e1), _, _, rfl, rfl, _, _, rfl, rfl, _, _, rfl, rfl, md (by decide), ?_⟩
      have hz0 : 0 ≤ (x * x + 40692 * x + ((ws.map V.str).length : Int) + 1) % 2147483629 := Int.emod_nonneg _ (by decide)
      have hz1 : (x * x + 40692 * x + ((ws.map V.str).length : Int) + 1) % 2147483629 < 2147483629 := Int.emod_lt_of_pos _ (by decide)
      refine ⟨_, rfl, _, _, rfl, rfl, cd (by decide) (by decide), ?_⟩
      refine ⟨_, rfl, _, _, rfl, rfl, md (by decide), rfl, _, rfl, ite2 (fun h1 => ⟨_, rfl, lw, _, rfl, .inl (SqL.of e1), _, rfl, _, _, rfl, rfl, _, _, rfl, rfl, _, rfl, _, _, rfl, rfl, _, rfl, ite2 (fun h2 => ?_) (fun h2 => ?_)⟩) (fun h1 => iteF ?_)⟩
      · have h2 := of_decide_eq_true h2
        rw [List.length_map] at h2
        have k0 := Int.emod_nonneg ((x * x + 40692 * x + ((ws.map V.str).length : Int) + 1) % 2147483629 / 7 / 2) (b := 5) (by decide)
        have k1 := Int.emod_lt_of_pos ((x * x + 40692 * x + ((ws.map V.str).length : Int) + 1) % 2147483629 / 7 / 2) (b := 5) (by decide)
        obtain ⟨sg, hsg, e⟩ := at_memS (ws := sgs) k0 k1
        refine ⟨_, rfl, .inl ⟨rfl, _, SqL.of e1⟩, (by show 5 ≤ sizeLine; decide), fun p np => ⟨_, rfl, _, _, rfl, rfl, cd (by decide) (by decide), _, _, rfl, rfl, md (by decide), p, _, _, _, rfl, rfl, SqL.of upd_same, e, lw, _, _, rfl, rfl, same_new np _ _ e1, hlw, _, rfl, _, _, rfl, rfl, ?_⟩⟩
        refine ⟨ws ++ [sg], need + 1, _, _, rfl, hz0, hz1, same_put (s1.trans (same_new np)) nlw, ?_, ?_, clean_snoc hc (sg_clean hsg), by simp; omega, by simp⟩
        · rw [upd_same, List.map_append]
          rfl
        · have e3 : List.replicate (need + 1) false = false :: false :: List.replicate (need - 1) false := by
            rw [show need + 1 = (need - 1) + 1 + 1 by omega]
            rfl
          rw [e3]
          exact hL1.sg (decide_eq_true hsg)
      all_goals
        refine ⟨_, rfl, .inl ⟨rfl, _, SqL.of e1⟩, _, rfl, _, _, rfl, rfl, cd (by decide) (by decide), _, rfl, _, L, rfl, hL, fun w H2 s2 lw2 => ⟨lw, _, _, rfl, rfl, s2 _ _ e1, hlw, _, rfl, _, _, rfl, rfl, ?_⟩⟩
        have en : ((need - 1 : Nat) : Int) = (need : Int) - 1 := by omega
        refine ⟨ws ++ [w], need - 1, _, _, (by rw [en]; rfl), hz0, hz1, same_put (s1.trans s2) nlw, ?_, hL1.leaf lw2.sg lw2.ok, clean_snoc hc lw2.cl, by simp; omega, by simp⟩
        · rw [upd_same, List.map_append]
          rfl
    · have hn : need = 0 := by
        have : ¬ (0 : Int) < need := fun x => h (decide_eq_true x)
        omega
      subst hn
      exact ⟨_, rfl, q lw ws H1 s1 e1 hL1.isExpr hc (by omega)⟩
theorem sc_law_expr_from : FnScope ["_law_number", "_law_letters", "_law_most", "_law_words", "_law_need", "_law_code", "_law_word"] ["_law_number", "_law_letters", "_law_most"] (defScope (topS 50)) := ⟨rfl, rfl, rfl, by decide +kernel, rfl, by decide +kernel, by decide +kernel⟩
theorem D_law_expr_from (T : Txt K w mg) : Def P w K mg base CX0 2 "_law_expr_from" ["_law_number", "_law_letters", "_law_most"] spLexpr := by
  have D_law_leaf_from : Def P w K mg base CX0 1 "_law_leaf_from" ["_law_number", "_law_letters"] spLeafF := D_law_leaf_from T
  refine Def.of (T.fl ("_law_expr_from", 50) (by decide +kernel)) sc_law_expr_from (fun _ _ _ _ _ _ us hl => match us, hl with | [_, _, _], _ => rfl) (fun vs H Q E h => ?_) (fun f cdv A outer s H vs Q E hr h => ?_)
  · obtain ⟨n, m, L, rfl, _⟩ := h
    rfl
  · obtain ⟨n, m, L, rfl, hL, hm, hm2, q⟩ := h
    have fLen := T.free "len" (by decide +kernel)
    refine ⟨_, PSs.nox ((pss_cons (ps_set (i := 3) sc_law_expr_from.nd rfl (.inl rfl) (pe_lst pa_nil))
      (pss_cons (ps_set (i := 4) sc_law_expr_from.nd rfl (.inl rfl) pe_int)
      (pss_cons (ps_while PassesOwn.never (pt_cmpR op_gt (pv 4) pe_int (nomark _))
          (pss_cons (ps_set (i := 5) sc_law_expr_from.nd rfl (.inl rfl) (pe_op op_mod (pv 0) pe_int))
          (pss_cons (ps_set (i := 0) sc_law_expr_from.nd rfl (.inl rfl) (pe_op op_fdiv (pv 0) pe_int))
          (pss_one (ps_if (PW.pt (pw_and (pt_cmpR op_lt (pv 5) pe_int (nomark _)) (pw_and1 (pt_cmpR op_le (pe_op op_add (pe_op op_add (pe_callB call_len_seq (by rfl) fLen PySem.boot_len (pa_cons (pv 3) pa_nil)) (pv 4)) pe_int) (pv 2) (nomark _)))))
              (pss_cons (ps_expr (pe_bm PySem.F.plainAttrs_list PySem.F.slot_list_append PySem.F.type_list_append mt_append (pv 3) (pa_cons (pe_ix ix_list (pe_lst (pa_cons pe_str (pa_cons pe_str (pa_cons pe_str (pa_cons pe_str (pa_cons pe_str pa_nil)))))) (pv 5) (fun _ _ => rfl)) pa_nil)))
              (pss_one (ps_set (i := 4) sc_law_expr_from.nd rfl (.inl rfl) (pe_op op_add (pv 4) pe_int))))
              (pss_cons (ps_asg (pe_d D_law_leaf_from hr (pa_cons (pv 0) (pa_cons (pv 1) pa_nil))) (pg_tup (by rfl) (pgs_cons (pg_name (i := 6) sc_law_expr_from.nd rfl (.inl rfl)) (pgs_cons (pg_name (i := 0) sc_law_expr_from.nd rfl (.inl rfl)) pgs_nil))))
              (pss_cons (ps_expr (pe_bm PySem.F.plainAttrs_list PySem.F.slot_list_append PySem.F.type_list_append mt_append (pv 3) (pa_cons (pv 6) pa_nil)))
              (pss_one (ps_set (i := 4) sc_law_expr_from.nd rfl (.inl rfl) (pe_op op_sub (pv 4) pe_int))))))))))
      (pss_one (ps_ret (pv 3))))))), ?_⟩
    refine ⟨by decide, fun lw nlw => ?_⟩
    refine ⟨fun k σ H' => ∃ (ws : List Str) (need : Nat) (n : Int) (y y2 : Option V), σ = [some (.int n), some (.str L), some (.int m), some (.ref lw), some (.int (need : Int)), y, y2] ∧ Same H H' ∧ H' lw = some (.lst (ws.map V.str)) ∧
      Left L [false] ws (List.replicate need false) ∧ Clean ws ∧ (ws.length : Int) + need ≤ m ∧ (k : Int) + ws.length = m, ⟨m.toNat, [], 1, n, none, none, rfl, same_new nlw, upd_same, Left.start _, fun x hx => (by cases hx), by simp; omega, by simp; omega⟩, ?_⟩
    rintro k σ H1 ⟨ws, need, n, y, y2, rfl, s1, e1, hL1, hc, hb, hk⟩
    have hlw : (ws.map V.str).length < sizeLine := by rw [List.length_map, sizeLine_eq]; omega
    refine ⟨_, rfl, _, _, rfl, rfl, _, rfl, ite2 (fun h => ?_) (fun h => ?_)⟩
    · have hn : 0 < need := by
        have := of_decide_eq_true h
        omega
      rw [rep_succ hn] at hL1
      refine ⟨fun σ' H' => ∃ (ws' : List Str) (need' : Nat) (n : Int) (y y2 : Option V), σ' = [some (.int n), some (.str L), some (.int m), some (.ref lw), some (.int (need' : Int)), y, y2] ∧ Same H H' ∧ H' lw = some (.lst (ws'.map V.str)) ∧
        Left L [false] ws' (List.replicate need' false) ∧ Clean ws' ∧ (ws'.length : Int) + need' ≤ m ∧ ws'.length = ws.length + 1, ?_, ?_⟩
      · rintro σ' H' ⟨ws', need', n', y', y2', e, s', e', L', c', b', l'⟩
        exact ⟨k - 1, by omega, ws', need', n', y', y2', e, s', e', L', c', b', by omega⟩
      have k0 := Int.emod_nonneg n (b := 10) (by decide)
      refine ⟨_, rfl, _, _, rfl, rfl, md (by decide), _, rfl, _, _, rfl, rfl, cd (by decide) (by decide), ?_⟩
      refine ⟨_, rfl, _, _, rfl, rfl, _, rfl, ite2 (fun h1 => ⟨_, rfl, lw, _, rfl, .inl (SqL.of e1), _, rfl, _, _, rfl, rfl, _, _, rfl, rfl, _, rfl, _, _, rfl, rfl, _, rfl, ite2 (fun h2 => ?_) (fun h2 => ?_)⟩) (fun h1 => iteF ?_)⟩
      · have h2 := of_decide_eq_true h2
        have h1 := of_decide_eq_true h1
        rw [List.length_map] at h2
        obtain ⟨sg, hsg, e⟩ := at_memS (ws := sgs) k0 h1
        refine ⟨_, rfl, .inl ⟨rfl, _, SqL.of e1⟩, (by show 5 ≤ sizeLine; decide), fun p np => ⟨_, rfl, p, _, _, _, rfl, rfl, SqL.of upd_same, e, lw, _, _, rfl, rfl, same_new np _ _ e1, hlw, _, rfl, _, _, rfl, rfl, ?_⟩⟩
        refine ⟨ws ++ [sg], need + 1, _, _, _, rfl, same_put (s1.trans (same_new np)) nlw, ?_, ?_, clean_snoc hc (sg_clean hsg), by simp; omega, by simp⟩
        · rw [upd_same, List.map_append]
          rfl
        · have e3 : List.replicate (need + 1) false = false :: false :: List.replicate (need - 1) false := by
            rw [show need + 1 = (need - 1) + 1 + 1 by omega]
            rfl
          rw [e3]
          exact hL1.sg (decide_eq_true hsg)
      all_goals
        refine ⟨_, rfl, _, rfl, _, L, rfl, hL, fun w n2 p H2 s2 e2 lw2 => ⟨p, _, rfl, SqT.of e2, rfl, _, _, rfl, _, _, rfl, rfl, _, rfl, .inl ⟨rfl, _, SqL.of (s2 _ _ e1)⟩, _, rfl, lw, _, _, rfl, rfl, s2 _ _ e1, hlw, _, rfl, _, _, rfl, rfl, ?_⟩⟩
        have en : ((need - 1 : Nat) : Int) = (need : Int) - 1 := by omega
        refine ⟨ws ++ [w], need - 1, _, _, _, (by rw [en]; rfl), same_put (s1.trans s2) nlw, ?_, hL1.leaf lw2.sg lw2.ok, clean_snoc hc lw2.cl, by simp; omega, by simp⟩
        · rw [upd_same, List.map_append]
          rfl
    · have hn : need = 0 := by
        have : ¬ (0 : Int) < need := fun x => h (decide_eq_true x)
        omega
      subst hn
      exact ⟨_, rfl, q lw ws H1 s1 e1 hL1.isExpr hc (by omega)⟩
end
end K19

set_option Elab.async false
set_option linter.all false
set_option maxRecDepth 100000
set_option maxHeartbeats 4000000
/-! # B4: _law_cond, _law_cond_from -/
namespace K19
open PySem PySem.Spec PyProof.Rows L2
def kW (b : Bool) : Str := if b = true then Str.ofString "cond" else Str.ofString "expr"
/-- the stack, its top last -/
def pend (p : List Bool) : List V := p.reverse.map fun b => V.str (kW b)
theorem pend_cons (b : Bool) (p : List Bool) : pend (b :: p) = pend p ++ [V.str (kW b)] := by unfold pend; simp
/-- the same as data -/
def pendD (p : List Bool) : List PyData := p.reverse.map fun b => PyData.str (kW b)
theorem kw_ok (b : Bool) : PyData.strOk (kW b) = true := by cases b <;> decide +kernel
theorem kws_lay : ∀ l : List Bool, PyData.canLayAll0 (l.map fun b => PyData.str (kW b)) = true
  | [] => rfl
  | b :: r => by simp [PyData.canLayAll0, PyData.canLay0, kws_lay r, kw_ok b]
theorem kws_depth : ∀ l : List Bool, PyData.depthAll (l.map fun b => PyData.str (kW b)) = 0
  | [] => rfl
  | _ :: r => by simp [PyData.depthAll, PyData.depth, kws_depth r]
theorem pend_shaped (p : List Bool) : SeqAt.shaped (.list (pendD p)) = true := by
  simp [SeqAt.shaped, PyData.canLay0, PyData.depth, pendD, kws_lay, kws_depth, -List.map_reverse]
theorem kws_dp {K : PySem.W.Frag} {H : Hp} : ∀ l : List Bool, DpAll K H (l.map fun b => V.str (kW b)) (l.map fun b => PyData.str (kW b))
  | [] => .nil
  | b :: r => .cons (.str (kW b)) (kws_dp r)
theorem pend_dp {K : PySem.W.Frag} {H : Hp} (p : List Bool) : DpAll K H (pend p) (pendD p) := kws_dp _
theorem pend_eqv (p : List Bool) : PyData.eqv (.list (pendD p)) (.list []) = p.isEmpty := by
  unfold pendD
  cases p with
  | nil => rfl
  | cons b p =>
    rw [List.reverse_cons, List.map_append]
    cases h : p.reverse.map (fun b => PyData.str (kW b)) <;> simp [PyData.eqv, PyData.eqvAll]
theorem pend_len (p : List Bool) : (pend p).length = p.length := by unfold pend; simp
theorem pend_drop (b : Bool) (p : List Bool) : (pend (b :: p)).dropLast = pend p := by rw [pend_cons, List.dropLast_concat]
theorem pend_last (b : Bool) (p : List Bool) : (pend (b :: p))[(pend (b :: p)).length - 1]? = some (.str (kW b)) := by
  rw [pend_cons]
  simp
theorem pend_empty (p : List Bool) : (pend p).isEmpty = p.isEmpty := by
  cases p with
  | nil => rfl
  | cons b p => rw [pend_cons]; cases h : pend p <;> rfl
/-- how many words must still come -/
def wt : List Bool → Nat
  | [] => 0
  | true :: p => 3 + wt p
  | false :: p => 1 + wt p
theorem wt_le : ∀ p : List Bool, p.length ≤ wt p
  | [] => Nat.le_refl _
  | true :: p => by have := wt_le p; show p.length + 1 ≤ 3 + wt p; omega
  | false :: p => by have := wt_le p; show p.length + 1 ≤ 1 + wt p; omega
theorem kw_c : kW true = Str.ofString "cond" := rfl
theorem kw_e : kW false = Str.ofString "expr" := rfl
theorem expr_cond : Str.ofString "expr" ≠ Str.ofString "cond" := by decide +kernel
def aos : List Str := [Str.ofString "and", Str.ofString "or"]
def les : List Str := [Str.ofString "<", Str.ofString "="]
abbrev sNot : Str := Str.ofString "not"
theorem ao_facts {w : Str} (h : w ∈ aos) : isAO w = true ∧ isNot w = false ∧ clean w := by
  simp only [aos, List.mem_cons, List.not_mem_nil, or_false] at h
  rcases h with rfl | rfl <;> exact ⟨by decide +kernel, by decide +kernel, str_clean (by decide +kernel) (by decide +kernel)⟩
theorem le_facts {w : Str} (h : w ∈ les) : isLE w = true ∧ isAO w = false ∧ isNot w = false ∧ clean w := by
  simp only [les, List.mem_cons, List.not_mem_nil, or_false] at h
  rcases h with rfl | rfl <;> exact ⟨by decide +kernel, by decide +kernel, by decide +kernel, str_clean (by decide +kernel) (by decide +kernel)⟩
theorem not_facts : isNot sNot = true ∧ clean sNot := ⟨by decide +kernel, str_clean (by decide +kernel) (by decide +kernel)⟩
theorem Left.isCond {ws : List Str} (h : Left tvS [true] ws []) : K19.isCond ws = true := by
  unfold K19.isCond
  rw [show scan (Str.ofString "tv") [true] ws = some [] from Left.done h]
  exact beq_self_eq_true _
section
variable {P : Program} {w : World} {K : PySem.W.Frag} {mg : Str → Option Value} {base : Heap}
def spLcond : Sp := fun vs H Q _ => ∃ (n m : Int), vs = [.int n, .int m] ∧ 3 ≤ m ∧ m ≤ 100 ∧
  ∀ (p : Addr) (ws : List Str) (H' : Hp), Same H H' → H' p = some (.lst (ws.map V.str)) → isCond ws = true → Clean ws → (ws.length : Int) ≤ m → Q (.ref p) H'
/-- what holds of the words and the stack -/
structure CondAt (H H' : Hp) (lw lp : Addr) (ws : List Str) (p : List Bool) (room m : Int) : Prop where
  s : Same H H'
  e1 : H' lw = some (.lst (ws.map V.str))
  e2 : H' lp = some (.lst (pend p))
  n2 : H lp = none
  ne : lw ≠ lp
  lf : Left tvS [true] ws p
  cl : Clean ws
  r0 : 0 ≤ room
  sum : (ws.length : Int) + wt p + room = m
theorem CondAt.small {H H' : Hp} {lw lp : Addr} {ws : List Str} {p : List Bool} {room m : Int} (c : CondAt H H' lw lp ws p room m) (h : m ≤ 100) : (ws.map V.str).length < sizeLine := by
  have := c.sum
  have := c.r0
  rw [List.length_map, sizeLine_eq]
  omega
/-- the top is taken off -/
structure CondTop (H H' : Hp) (lw lp : Addr) (ws : List Str) (b : Bool) (p : List Bool) (room m : Int) : Prop where
  s : Same H H'
  e1 : H' lw = some (.lst (ws.map V.str))
  e2 : H' lp = some (.lst (pend p))
  n2 : H lp = none
  ne : lw ≠ lp
  lf : Left tvS [true] ws (b :: p)
  cl : Clean ws
  r0 : 0 ≤ room
  sum : (ws.length : Int) + wt (b :: p) + room = m
theorem CondAt.pop {H H' : Hp} {lw lp : Addr} {ws : List Str} {b : Bool} {p : List Bool} {room m : Int} (c : CondAt H H' lw lp ws (b :: p) room m) : CondTop H (upd H' lp (.lst (pend (b :: p)).dropLast)) lw lp ws b p room m :=
  ⟨same_put c.s c.n2, by rw [upd_ne c.ne]; exact c.e1, by rw [upd_same, pend_drop], c.n2, c.ne, c.lf, c.cl, c.r0, c.sum⟩
theorem CondAt.keep {H H' H2 : Hp} {lw lp : Addr} {ws : List Str} {p : List Bool} {room m : Int} (c : CondAt H H' lw lp ws p room m) (s : Same H' H2) : CondAt H H2 lw lp ws p room m :=
  ⟨c.s.trans s, s _ _ c.e1, s _ _ c.e2, c.n2, c.ne, c.lf, c.cl, c.r0, c.sum⟩
theorem CondTop.keep {H H' H2 : Hp} {lw lp : Addr} {ws : List Str} {b : Bool} {p : List Bool} {room m : Int} (c : CondTop H H' lw lp ws b p room m) (s : Same H' H2) : CondTop H H2 lw lp ws b p room m :=
  ⟨c.s.trans s, s _ _ c.e1, s _ _ c.e2, c.n2, c.ne, c.lf, c.cl, c.r0, c.sum⟩
/-- a word written, the stack in a new list -/
theorem CondTop.two {H H' : Hp} {lw lp q1 q2 : Addr} {ws : List Str} {b c d : Bool} {p : List Bool} {room room' m : Int} {w : Str} (t : CondTop H H' lw lp ws b p room m) (nlw : H lw = none) (n1 : upd H' lw (.lst (ws.map V.str ++ [V.str w])) q1 = none)
    (n2 : upd (upd H' lw (.lst (ws.map V.str ++ [V.str w]))) q1 (.lst [.str (kW d), .str (kW c)]) q2 = none) (lf : Left tvS [true] (ws ++ [w]) (c :: d :: p)) (cl : clean w) (r0 : 0 ≤ room') (sum : (ws.length : Int) + 1 + wt (c :: d :: p) + room' = m) :
    CondAt H (upd (upd (upd H' lw (.lst (ws.map V.str ++ [V.str w]))) q1 (.lst [.str (kW d), .str (kW c)])) q2 (.lst (pend p ++ [.str (kW d), .str (kW c)]))) lw q2 (ws ++ [w]) (c :: d :: p) room' m := by
  have s1 := same_put (o := .lst (ws.map V.str ++ [V.str w])) t.s nlw
  have s3 := (s1.trans (same_new (o := .lst [.str (kW d), .str (kW c)]) n1)).trans (same_new (o := .lst (pend p ++ [.str (kW d), .str (kW c)])) n2)
  refine ⟨s3, ?_, ?_, (s1.trans (same_new n1)).free n2, fun e => ?_, lf, clean_snoc t.cl cl, r0, by simp; omega⟩
  · refine same_new n2 _ _ (same_new n1 _ _ ?_)
    rw [upd_same, List.map_append]
    rfl
  · rw [upd_same, pend_cons, pend_cons, List.append_assoc]
    rfl
  · have e4 := same_new (o := .lst [.str (kW d), .str (kW c)]) n1 _ _ (upd_same (H := H') (a := lw) (o := .lst (ws.map V.str ++ [V.str w])))
    rw [e] at e4 n2
    rw [e4] at n2
    cases n2
/-- a word written, one put on the stack -/
theorem CondTop.one {H H' : Hp} {lw lp : Addr} {ws : List Str} {b c : Bool} {p : List Bool} {room room' m : Int} {w : Str} (t : CondTop H H' lw lp ws b p room m) (nlw : H lw = none) (lf : Left tvS [true] (ws ++ [w]) (c :: p)) (cl : clean w) (r0 : 0 ≤ room')
    (sum : (ws.length : Int) + 1 + wt (c :: p) + room' = m) :
    CondAt H (upd (upd H' lw (.lst (ws.map V.str ++ [V.str w]))) lp (.lst (pend p ++ [.str (kW c)]))) lw lp (ws ++ [w]) (c :: p) room' m := by
  refine ⟨same_put (same_put t.s nlw) t.n2, ?_, ?_, t.n2, t.ne, lf, clean_snoc t.cl cl, r0, by simp; omega⟩
  · rw [upd_ne t.ne, upd_same, List.map_append]
    rfl
  · rw [upd_same, pend_cons]
/-- a word written -/
theorem CondTop.none {H H' : Hp} {lw lp : Addr} {ws : List Str} {b : Bool} {p : List Bool} {room room' m : Int} {w : Str} (t : CondTop H H' lw lp ws b p room m) (nlw : H lw = Option.none) (lf : Left tvS [true] (ws ++ [w]) p) (cl : clean w) (r0 : 0 ≤ room')
    (sum : (ws.length : Int) + 1 + wt p + room' = m) : CondAt H (upd H' lw (.lst (ws.map V.str ++ [V.str w]))) lw lp (ws ++ [w]) p room' m := by
  refine ⟨same_put t.s nlw, ?_, ?_, t.n2, t.ne, lf, clean_snoc t.cl cl, r0, by simp; omega⟩
  · rw [upd_same, List.map_append]
    rfl
  · rw [upd_ne t.ne.symm]
    exact t.e2
theorem sc_law_cond : FnScope ["_law_number", "_law_most", "_law_words", "_law_pending", "_law_room", "_law_x", "_law_pick", "_law_kind"] ["_law_number", "_law_most"] (defScope (topS 45)) := ⟨rfl, rfl, rfl, by decide +kernel, rfl, by decide +kernel, by decide +kernel⟩
theorem D_law_cond (T : Txt K w mg) : Def P w K mg base CX0 2 "_law_cond" ["_law_number", "_law_most"] spLcond := by
  have D_law_leaf : Def P w K mg base CX0 1 "_law_leaf" ["_law_x", "_law_letters"] spLeaf := D_law_leaf T
  refine Def.of (T.fl ("_law_cond", 45) (by decide +kernel)) sc_law_cond (fun _ _ _ _ _ _ us hl => match us, hl with | [_, _], _ => rfl) (fun vs H Q E h => ?_) (fun f cdv A outer s H vs Q E hr h => ?_)
  · obtain ⟨n, m, rfl, _⟩ := h
    rfl
  · obtain ⟨n, m, rfl, hm, hm2, q⟩ := h
    have fLen := T.free "len" (by decide +kernel)
    refine ⟨_, PSs.nox ((pss_cons (ps_set (i := 2) sc_law_cond.nd rfl (.inl rfl) (pe_lst pa_nil))
      (pss_cons (ps_set (i := 3) sc_law_cond.nd rfl (.inl rfl) (pe_lst (pa_cons pe_str pa_nil)))
      (pss_cons (ps_set (i := 4) sc_law_cond.nd rfl (.inl rfl) (pe_op op_sub (pv 1) pe_int))
      (pss_cons (ps_set (i := 5) sc_law_cond.nd rfl (.inl rfl) (pe_op op_mod (pv 0) pe_int))
      (pss_cons (ps_while PassesOwn.never (pt_cmpR (op_neD hr.units) (pv 3) (pe_lst pa_nil) (nomark _))
          (pss_cons (ps_set (i := 5) sc_law_cond.nd rfl (.inl rfl) (pe_op op_mod (pe_op op_add (pe_op op_add (pe_op op_add (pe_op op_mul (pv 5) (pv 5)) (pe_op op_mul pe_int (pv 5))) (pe_callB call_len_seq (by rfl) fLen PySem.boot_len (pa_cons (pv 2) pa_nil))) pe_int) pe_int))
          (pss_cons (ps_set (i := 6) sc_law_cond.nd rfl (.inl rfl) (pe_op op_fdiv (pv 5) pe_int))
          (pss_cons (ps_set (i := 7) sc_law_cond.nd rfl (.inl rfl) (pe_bm0 PySem.F.plainAttrs_list PySem.F.slot_list_pop PySem.F.type_list_pop mt_pop (pv 3)))
          (pss_one (ps_if (PW.pt (pw_and (pt_cmpR op_eq (pv 7) pe_str (nomark _)) (pw_and (pt_cmpR op_ge (pv 4) pe_int (nomark _)) (pw_and1 (pt_cmpR op_eq (pe_op op_mod (pv 6) pe_int) pe_int (nomark _))))))
              (pss_cons (ps_expr (pe_bm PySem.F.plainAttrs_list PySem.F.slot_list_append PySem.F.type_list_append mt_append (pv 2) (pa_cons (pe_ix ix_list (pe_lst (pa_cons pe_str (pa_cons pe_str pa_nil))) (pe_op op_mod (pe_op op_fdiv (pv 6) pe_int) pe_int) (fun _ _ => rfl)) pa_nil)))
              (pss_cons (ps_set (i := 3) sc_law_cond.nd rfl (.inl rfl) (pe_op op_cat (pv 3) (pe_lst (pa_cons pe_str (pa_cons pe_str pa_nil)))))
              (pss_one (ps_set (i := 4) sc_law_cond.nd rfl (.inl rfl) (pe_op op_sub (pv 4) pe_int)))))
              (pss_one (ps_if (PW.pt (pw_and (pt_cmpR op_eq (pv 7) pe_str (nomark _)) (pw_and (pt_cmpR op_ge (pv 4) pe_int (nomark _)) (pw_and1 (pt_cmpR op_eq (pe_op op_mod (pv 6) pe_int) pe_int (nomark _))))))
                  (pss_cons (ps_expr (pe_bm PySem.F.plainAttrs_list PySem.F.slot_list_append PySem.F.type_list_append mt_append (pv 2) (pa_cons pe_str pa_nil)))
                  (pss_cons (ps_expr (pe_bm PySem.F.plainAttrs_list PySem.F.slot_list_append PySem.F.type_list_append mt_append (pv 3) (pa_cons pe_str pa_nil)))
                  (pss_one (ps_set (i := 4) sc_law_cond.nd rfl (.inl rfl) (pe_op op_sub (pv 4) pe_int)))))
                  (pss_one (ps_if (pt_cmpR op_eq (pv 7) pe_str (nomark _))
                      (pss_cons (ps_expr (pe_bm PySem.F.plainAttrs_list PySem.F.slot_list_append PySem.F.type_list_append mt_append (pv 2) (pa_cons (pe_ix ix_list (pe_lst (pa_cons pe_str (pa_cons pe_str pa_nil))) (pe_op op_mod (pe_op op_fdiv (pv 6) pe_int) pe_int) (fun _ _ => rfl)) pa_nil)))
                      (pss_one (ps_set (i := 3) sc_law_cond.nd rfl (.inl rfl) (pe_op op_cat (pv 3) (pe_lst (pa_cons pe_str (pa_cons pe_str pa_nil)))))))
                      (pss_one (ps_if (PW.pt (pw_and (pt_cmpR op_ge (pv 4) pe_int (nomark _)) (pw_and1 (pt_cmpR op_eq (pe_op op_mod (pv 6) pe_int) pe_int (nomark _)))))
                          (pss_cons (ps_expr (pe_bm PySem.F.plainAttrs_list PySem.F.slot_list_append PySem.F.type_list_append mt_append (pv 2) (pa_cons (pe_ix ix_list (pe_lst (pa_cons pe_str (pa_cons pe_str (pa_cons pe_str (pa_cons pe_str (pa_cons pe_str pa_nil)))))) (pe_op op_mod (pe_op op_fdiv (pv 6) pe_int) pe_int) (fun _ _ => rfl)) pa_nil)))
                          (pss_cons (ps_set (i := 3) sc_law_cond.nd rfl (.inl rfl) (pe_op op_cat (pv 3) (pe_lst (pa_cons pe_str (pa_cons pe_str pa_nil)))))
                          (pss_one (ps_set (i := 4) sc_law_cond.nd rfl (.inl rfl) (pe_op op_sub (pv 4) pe_int)))))
                          (pss_one (ps_expr (pe_bm PySem.F.plainAttrs_list PySem.F.slot_list_append PySem.F.type_list_append mt_append (pv 2) (pa_cons (pe_d D_law_leaf hr (pa_cons (pe_op op_fdiv (pv 6) pe_int) (pa_cons pe_str pa_nil))) pa_nil))))))))))))))))
      (pss_one (ps_ret (pv 2))))))))), ?_⟩
    refine ⟨by decide, fun lw nlw => ?_⟩
    refine ⟨(by show 1 ≤ sizeLine; decide), fun lp nlp => ?_⟩
    refine ⟨_, rfl, _, _, rfl, rfl, _, rfl, _, _, rfl, rfl, md (by decide), ?_⟩
    have hne : lw ≠ lp := fun e => by rw [← e, upd_same] at nlp; cases nlp
    refine ⟨fun k σ H' => ∃ (ws : List Str) (p : List Bool) (lp : Addr) (room x : Int) (y y2 : Option V), σ = [some (.int n), some (.int m), some (.ref lw), some (.ref lp), some (.int room), some (.int x), y, y2] ∧ 0 ≤ x ∧ x < 2147483629 ∧ CondAt H H' lw lp ws p room m ∧ (k : Int) + ws.length = m,
      ⟨m.toNat, [], [true], lp, m - 3, n % 2147483629, none, none, rfl, Int.emod_nonneg _ (by decide), Int.emod_lt_of_pos _ (by decide), ⟨(same_new nlw).trans (same_new nlp), same_new nlp _ _ upd_same, upd_same, (same_new nlw).free nlp, hne, Left.start _, fun x hx => (by cases hx), by omega, by show ((0 : Nat) : Int) + ((3 : Nat) : Int) + (m - 3) = m; omega⟩, by simp; omega⟩, ?_⟩
    rintro k σ H1 ⟨ws, p, lp, room, x, y, y2, rfl, hx0, hx1, C, hk⟩
    have hlw := C.small hm2
    refine ⟨_, rfl, by decide, fun qe nqe => ⟨_, _, .lst (SqL.of (same_new nqe _ _ C.e2)) (pend_dp p), .lst (SqL.of upd_same) .nil, pend_shaped p, rfl, _, rfl, ?_⟩⟩
    rw [pend_eqv]
    have C := C.keep (same_new (o := .lst []) nqe)
    generalize upd H1 qe (.lst []) = H2 at C
    match p, C with
    | [], C =>
      refine iteF ⟨_, rfl, q lw ws H2 C.s C.e1 C.lf.isCond C.cl ?_⟩
      have := C.sum
      have := C.r0
      omega
    | b :: p, C =>
      have hsum := C.sum
      have hr0 := C.r0
      have hw1 : 1 ≤ wt (b :: p) := Nat.le_trans (by simp) (wt_le (b :: p))
      refine iteT ?_
      refine ⟨fun σ' H' => ∃ (ws' : List Str) (p : List Bool) (lp : Addr) (room x : Int) (y y2 : Option V), σ' = [some (.int n), some (.int m), some (.ref lw), some (.ref lp), some (.int room), some (.int x), y, y2] ∧ 0 ≤ x ∧ x < 2147483629 ∧ CondAt H H' lw lp ws' p room m ∧ ws'.length = ws.length + 1, ?_, ?_⟩
      · rintro σ' H' ⟨ws', p', lp', room', x', y', y2', e, h0, h1, C', l'⟩
        exact ⟨k - 1, by omega, ws', p', lp', room', x', y', y2', e, h0, h1, C', by omega⟩
      refine ⟨_, rfl, _, rfl, _, _, rfl, rfl, cm_r (by omega) (by omega), _, rfl, _, _, rfl, rfl, cm_l (by decide) (by decide), _, _, rfl, rfl, _, rfl, lw, _, rfl, .inl (SqL.of C.e1), _, _, rfl, rfl, _, _, rfl, rfl, _, _, rfl, rfl, md (by decide), ?_⟩
      have hz0 : 0 ≤ (x * x + 40692 * x + ((ws.map V.str).length : Int) + 1) % 2147483629 := Int.emod_nonneg _ (by decide)
      have hz1 : (x * x + 40692 * x + ((ws.map V.str).length : Int) + 1) % 2147483629 < 2147483629 := Int.emod_lt_of_pos _ (by decide)
      refine ⟨_, rfl, _, _, rfl, rfl, cd (by decide) (by decide), ?_⟩
      refine ⟨_, rfl, .inl ⟨rfl, _, SqL.of C.e2⟩, lp, _, _, rfl, rfl, C.e2, pend_last b p, ?_⟩
      have D := C.pop
      generalize upd H2 lp (.lst (pend (b :: p)).dropLast) = H3 at D
      have kk : ∀ (a : Int) (n : Int), 0 < n → 0 ≤ a % n ∧ a % n < n := fun a n h => ⟨Int.emod_nonneg _ (by omega), Int.emod_lt_of_pos _ h⟩
      have hp2 : p.length ≤ wt (b :: p) := Nat.le_trans (by simp) (wt_le (b :: p))
      have hlp : (pend p).length + 2 ≤ sizeLine := by rw [pend_len, sizeLine_eq]; omega
      have hlp1 : (pend p).length < sizeLine := by omega
      cases b with
      | true =>
        have hsum : (ws.length : Int) + ((3 + wt p : Nat) : Int) + room = m := hsum
        have w2 : wt (true :: true :: p) = 3 + (3 + wt p) := rfl
        have w1 : wt (true :: p) = 3 + wt p := rfl
        have w3 : wt (false :: false :: p) = 1 + (1 + wt p) := rfl
        refine ⟨_, rfl, rfl, _, rfl, iteT ⟨_, rfl, _, _, rfl, rfl, _, rfl, ite2 (fun h4 => ⟨_, rfl, _, _, rfl, rfl, md (by decide), rfl, _, rfl, ite2 (fun hp => ?ao) (fun _ => ?n1)⟩) (fun _ => iteF ?n2)⟩⟩
        case ao =>
          have h4 := of_decide_eq_true h4
          obtain ⟨w, hw, e⟩ := at_memS (ws := aos) (kk ((x * x + 40692 * x + ((ws.map V.str).length : Int) + 1) % 2147483629 / 7 / 4) 2 (by decide)).1 (kk _ 2 (by decide)).2
          obtain ⟨f1, f2, f3⟩ := ao_facts hw
          refine ⟨_, rfl, .inl ⟨rfl, _, SqL.of D.e1⟩, line2, fun p1 n1 => ?_⟩
          have D := D.keep (same_new (o := .lst [.str (Str.ofString "and"), .str (Str.ofString "or")]) n1)
          refine ⟨_, rfl, _, _, rfl, rfl, cd (by decide) (by decide), _, _, rfl, rfl, md (by decide), p1, _, _, _, rfl, rfl, SqL.of upd_same, e, lw, _, _, rfl, rfl, D.e1, hlw, ?_⟩
          refine ⟨_, rfl, line2, fun q1 nq1 => ⟨lp, q1, _, _, rfl, rfl, same_new nq1 _ _ (by rw [upd_ne D.ne.symm]; exact D.e2), upd_same, hlp, fun q2 nq2 => ⟨_, rfl, _, _, rfl, rfl, ?_⟩⟩⟩
          exact ⟨ws ++ [w], true :: true :: p, q2, room - 4, _, _, _, rfl, hz0, hz1, D.two (c := true) (d := true) nlw nq1 nq2 (D.lf.ao f2 f1) f3 (by omega) (by rw [w2]; omega), by simp⟩
        all_goals
          refine ⟨_, rfl, rfl, _, rfl, iteT ⟨_, rfl, _, _, rfl, rfl, _, rfl, ite2 (fun h4 => ⟨_, rfl, _, _, rfl, rfl, md (by decide), rfl, _, rfl, ite2 (fun hp => ?_) (fun _ => ?_)⟩) (fun _ => iteF ?_)⟩⟩
          next =>
            have h4 := of_decide_eq_true h4
            have e2 : upd H3 lw (.lst (ws.map V.str ++ [V.str sNot])) lp = some (.lst (pend p)) := by rw [upd_ne D.ne.symm]; exact D.e2
            refine ⟨_, rfl, .inl ⟨rfl, _, SqL.of D.e1⟩, lw, _, _, rfl, rfl, D.e1, hlw, _, rfl, .inl ⟨rfl, _, SqL.of e2⟩, lp, _, _, rfl, rfl, e2, hlp1, _, rfl, _, _, rfl, rfl, ?_⟩
            exact ⟨ws ++ [sNot], true :: p, lp, room - 1, _, _, _, rfl, hz0, hz1, D.one (c := true) nlw (D.lf.not not_facts.1) not_facts.2 (by omega) (by rw [w1]; omega), by simp⟩
          all_goals
            obtain ⟨w, hw, e⟩ := at_memS (ws := les) (kk ((x * x + 40692 * x + ((ws.map V.str).length : Int) + 1) % 2147483629 / 7 / 4) 2 (by decide)).1 (kk _ 2 (by decide)).2
            obtain ⟨f1, f2, f3, f4⟩ := le_facts hw
            refine ⟨_, rfl, rfl, _, rfl, iteT ⟨_, rfl, .inl ⟨rfl, _, SqL.of D.e1⟩, line2, fun p1 n1 => ?_⟩⟩
            have D := D.keep (same_new (o := .lst [.str (Str.ofString "<"), .str (Str.ofString "=")]) n1)
            refine ⟨_, rfl, _, _, rfl, rfl, cd (by decide) (by decide), _, _, rfl, rfl, md (by decide), p1, _, _, _, rfl, rfl, SqL.of upd_same, e, lw, _, _, rfl, rfl, D.e1, hlw, ?_⟩
            refine ⟨_, rfl, line2, fun q1 nq1 => ⟨lp, q1, _, _, rfl, rfl, same_new nq1 _ _ (by rw [upd_ne D.ne.symm]; exact D.e2), upd_same, hlp, fun q2 nq2 => ?_⟩⟩
            exact ⟨ws ++ [w], false :: false :: p, q2, room, _, _, _, rfl, hz0, hz1, D.two (c := false) (d := false) nlw nq1 nq2 (D.lf.le f3 f2 f1) f4 hr0 (by rw [w3]; omega), by simp⟩
      | false =>
        have hsum : (ws.length : Int) + ((1 + wt p : Nat) : Int) + room = m := hsum
        have w3 : wt (false :: false :: p) = 1 + (1 + wt p) := rfl
        refine ⟨_, rfl, rfl, _, rfl, iteF ⟨_, rfl, rfl, _, rfl, iteF ⟨_, rfl, rfl, _, rfl, iteF ⟨_, rfl, _, _, rfl, rfl, _, rfl, ite2 (fun h4 => ⟨_, rfl, _, _, rfl, rfl, md (by decide), rfl, _, rfl, ite2 (fun hp => ?sg) (fun _ => ?l3)⟩) (fun _ => iteF ?l4)⟩⟩⟩⟩
        case sg =>
          have h4 := of_decide_eq_true h4
          obtain ⟨w, hw, e⟩ := at_memS (ws := sgs) (kk ((x * x + 40692 * x + ((ws.map V.str).length : Int) + 1) % 2147483629 / 7 / 3) 5 (by decide)).1 (kk _ 5 (by decide)).2
          refine ⟨_, rfl, .inl ⟨rfl, _, SqL.of D.e1⟩, (by show 5 ≤ sizeLine; decide), fun p1 n1 => ?_⟩
          have D := D.keep (same_new (o := .lst [.str (Str.ofString "+"), .str (Str.ofString "-"), .str (Str.ofString "*"), .str (Str.ofString "least"), .str (Str.ofString "most")]) n1)
          refine ⟨_, rfl, _, _, rfl, rfl, cd (by decide) (by decide), _, _, rfl, rfl, md (by decide), p1, _, _, _, rfl, rfl, SqL.of upd_same, e, lw, _, _, rfl, rfl, D.e1, hlw, ?_⟩
          refine ⟨_, rfl, line2, fun q1 nq1 => ⟨lp, q1, _, _, rfl, rfl, same_new nq1 _ _ (by rw [upd_ne D.ne.symm]; exact D.e2), upd_same, hlp, fun q2 nq2 => ⟨_, rfl, _, _, rfl, rfl, ?_⟩⟩⟩
          exact ⟨ws ++ [w], false :: false :: p, q2, room - 2, _, _, _, rfl, hz0, hz1, D.two (c := false) (d := false) nlw nq1 nq2 (D.lf.sg (decide_eq_true hw)) (sg_clean hw) (by omega) (by rw [w3]; omega), by simp⟩
        all_goals
          refine ⟨_, rfl, .inl ⟨rfl, _, SqL.of D.e1⟩, _, rfl, _, _, rfl, rfl, cd (by decide) (by decide), _, tvS, rfl, .inl rfl, fun w H4 s4 lw4 => ?_⟩
          have D := D.keep s4
          exact ⟨lw, _, _, rfl, rfl, D.e1, hlw, ws ++ [w], p, lp, room, _, _, _, rfl, hz0, hz1, D.none nlw (D.lf.leaf lw4.sg lw4.ok) lw4.cl hr0 (by omega), by simp⟩
end
end K19

set_option Elab.async false
set_option linter.all false
set_option maxRecDepth 100000
set_option maxHeartbeats 4000000
/-! # B5: _law_cond_from -/
namespace K19
open PySem PySem.Spec PyProof.Rows L2
section
variable {P : Program} {w : World} {K : PySem.W.Frag} {mg : Str → Option Value} {base : Heap}
theorem sc_law_cond_from : FnScope ["_law_number", "_law_most", "_law_words", "_law_pending", "_law_room", "_law_kind", "_law_code", "_law_word"] ["_law_number", "_law_most"] (defScope (topS 51)) := ⟨rfl, rfl, rfl, by decide +kernel, rfl, by decide +kernel, by decide +kernel⟩
theorem D_law_cond_from (T : Txt K w mg) : Def P w K mg base CX0 2 "_law_cond_from" ["_law_number", "_law_most"] spLcond := by
  have D_law_leaf_from : Def P w K mg base CX0 1 "_law_leaf_from" ["_law_number", "_law_letters"] spLeafF := D_law_leaf_from T
  refine Def.of (T.fl ("_law_cond_from", 51) (by decide +kernel)) sc_law_cond_from (fun _ _ _ _ _ _ us hl => match us, hl with | [_, _], _ => rfl) (fun vs H Q E h => ?_) (fun f cdv A outer s H vs Q E hr h => ?_)
  · obtain ⟨n, m, rfl, _⟩ := h
    rfl
  · obtain ⟨n, m, rfl, hm, hm2, q⟩ := h
    have fLen := T.free "len" (by decide +kernel)
    refine ⟨_, PSs.nox ((pss_cons (ps_set (i := 2) sc_law_cond_from.nd rfl (.inl rfl) (pe_lst pa_nil))
      (pss_cons (ps_set (i := 3) sc_law_cond_from.nd rfl (.inl rfl) (pe_lst (pa_cons pe_str pa_nil)))
      (pss_cons (ps_set (i := 4) sc_law_cond_from.nd rfl (.inl rfl) (pe_op op_sub (pv 1) pe_int))
      (pss_cons (ps_while PassesOwn.never (pt_cmpR (op_neD hr.units) (pv 3) (pe_lst pa_nil) (nomark _))
          (pss_cons (ps_set (i := 5) sc_law_cond_from.nd rfl (.inl rfl) (pe_bm0 PySem.F.plainAttrs_list PySem.F.slot_list_pop PySem.F.type_list_pop mt_pop (pv 3)))
          (pss_cons (ps_set (i := 6) sc_law_cond_from.nd rfl (.inl rfl) (pe_op op_mod (pv 0) pe_int))
          (pss_cons (ps_set (i := 0) sc_law_cond_from.nd rfl (.inl rfl) (pe_op op_fdiv (pv 0) pe_int))
          (pss_one (ps_if (PW.pt (pw_and (pt_cmpR op_eq (pv 5) pe_str (nomark _)) (pw_and (pt_cmpR op_ge (pv 4) pe_int (nomark _)) (pw_and1 (pt_cmpR op_lt (pv 6) pe_int (nomark _))))))
              (pss_cons (ps_expr (pe_bm PySem.F.plainAttrs_list PySem.F.slot_list_append PySem.F.type_list_append mt_append (pv 2) (pa_cons (pe_ix ix_list (pe_lst (pa_cons pe_str (pa_cons pe_str pa_nil))) (pv 6) (fun _ _ => rfl)) pa_nil)))
              (pss_cons (ps_set (i := 3) sc_law_cond_from.nd rfl (.inl rfl) (pe_op op_cat (pv 3) (pe_lst (pa_cons pe_str (pa_cons pe_str pa_nil)))))
              (pss_one (ps_set (i := 4) sc_law_cond_from.nd rfl (.inl rfl) (pe_op op_sub (pv 4) pe_int)))))
              (pss_one (ps_if (PW.pt (pw_and (pt_cmpR op_eq (pv 5) pe_str (nomark _)) (pw_and (pt_cmpR op_ge (pv 4) pe_int (nomark _)) (pw_and1 (pt_cmpR op_lt (pv 6) pe_int (nomark _))))))
                  (pss_cons (ps_expr (pe_bm PySem.F.plainAttrs_list PySem.F.slot_list_append PySem.F.type_list_append mt_append (pv 2) (pa_cons pe_str pa_nil)))
                  (pss_cons (ps_expr (pe_bm PySem.F.plainAttrs_list PySem.F.slot_list_append PySem.F.type_list_append mt_append (pv 3) (pa_cons pe_str pa_nil)))
                  (pss_one (ps_set (i := 4) sc_law_cond_from.nd rfl (.inl rfl) (pe_op op_sub (pv 4) pe_int)))))
                  (pss_one (ps_if (pt_cmpR op_eq (pv 5) pe_str (nomark _))
                      (pss_cons (ps_expr (pe_bm PySem.F.plainAttrs_list PySem.F.slot_list_append PySem.F.type_list_append mt_append (pv 2) (pa_cons (pe_ix ix_list (pe_lst (pa_cons pe_str (pa_cons pe_str pa_nil))) (pe_op op_mod (pv 6) pe_int) (fun _ _ => rfl)) pa_nil)))
                      (pss_one (ps_set (i := 3) sc_law_cond_from.nd rfl (.inl rfl) (pe_op op_cat (pv 3) (pe_lst (pa_cons pe_str (pa_cons pe_str pa_nil)))))))
                      (pss_one (ps_if (PW.pt (pw_and (pt_cmpR op_ge (pv 4) pe_int (nomark _)) (pw_and1 (pt_cmpR op_lt (pv 6) pe_int (nomark _)))))
                          (pss_cons (ps_expr (pe_bm PySem.F.plainAttrs_list PySem.F.slot_list_append PySem.F.type_list_append mt_append (pv 2) (pa_cons (pe_ix ix_list (pe_lst (pa_cons pe_str (pa_cons pe_str (pa_cons pe_str (pa_cons pe_str (pa_cons pe_str pa_nil)))))) (pv 6) (fun _ _ => rfl)) pa_nil)))
                          (pss_cons (ps_set (i := 3) sc_law_cond_from.nd rfl (.inl rfl) (pe_op op_cat (pv 3) (pe_lst (pa_cons pe_str (pa_cons pe_str pa_nil)))))
                          (pss_one (ps_set (i := 4) sc_law_cond_from.nd rfl (.inl rfl) (pe_op op_sub (pv 4) pe_int)))))
                          (pss_cons (ps_asg (pe_d D_law_leaf_from hr (pa_cons (pv 0) (pa_cons pe_str pa_nil))) (pg_tup (by rfl) (pgs_cons (pg_name (i := 7) sc_law_cond_from.nd rfl (.inl rfl)) (pgs_cons (pg_name (i := 0) sc_law_cond_from.nd rfl (.inl rfl)) pgs_nil))))
                          (pss_one (ps_expr (pe_bm PySem.F.plainAttrs_list PySem.F.slot_list_append PySem.F.type_list_append mt_append (pv 2) (pa_cons (pv 7) pa_nil)))))))))))))))))
      (pss_one (ps_ret (pv 2)))))))), ?_⟩
    refine ⟨by decide, fun lw nlw => ?_⟩
    refine ⟨(by show 1 ≤ sizeLine; decide), fun lp nlp => ?_⟩
    refine ⟨_, rfl, _, _, rfl, rfl, ?_⟩
    have hne : lw ≠ lp := fun e => by rw [← e, upd_same] at nlp; cases nlp
    refine ⟨fun k σ H' => ∃ (ws : List Str) (p : List Bool) (lp : Addr) (room n : Int) (y y2 y3 : Option V), σ = [some (.int n), some (.int m), some (.ref lw), some (.ref lp), some (.int room), y, y2, y3] ∧ CondAt H H' lw lp ws p room m ∧ (k : Int) + ws.length = m,
      ⟨m.toNat, [], [true], lp, m - 3, n, none, none, none, rfl, ⟨(same_new nlw).trans (same_new nlp), same_new nlp _ _ upd_same, upd_same, (same_new nlw).free nlp, hne, Left.start _, fun x hx => (by cases hx), by omega, by show ((0 : Nat) : Int) + ((3 : Nat) : Int) + (m - 3) = m; omega⟩, by simp; omega⟩, ?_⟩
    rintro k σ H1 ⟨ws, p, lp, room, n, y, y2, y3, rfl, C, hk⟩
    have hlw := C.small hm2
    refine ⟨_, rfl, by decide, fun qe nqe => ⟨_, _, .lst (SqL.of (same_new nqe _ _ C.e2)) (pend_dp p), .lst (SqL.of upd_same) .nil, pend_shaped p, rfl, _, rfl, ?_⟩⟩
    rw [pend_eqv]
    have C := C.keep (same_new (o := .lst []) nqe)
    generalize upd H1 qe (.lst []) = H2 at C
    match p, C with
    | [], C =>
      refine iteF ⟨_, rfl, q lw ws H2 C.s C.e1 C.lf.isCond C.cl ?_⟩
      have := C.sum
      have := C.r0
      omega
    | b :: p, C =>
      have hsum := C.sum
      have hr0 := C.r0
      have hw1 : 1 ≤ wt (b :: p) := Nat.le_trans (by simp) (wt_le (b :: p))
      refine iteT ?_
      refine ⟨fun σ' H' => ∃ (ws' : List Str) (p : List Bool) (lp : Addr) (room n : Int) (y y2 y3 : Option V), σ' = [some (.int n), some (.int m), some (.ref lw), some (.ref lp), some (.int room), y, y2, y3] ∧ CondAt H H' lw lp ws' p room m ∧ ws'.length = ws.length + 1, ?_, ?_⟩
      · rintro σ' H' ⟨ws', p', lp', room', x', y', y2', y3', e, C', l'⟩
        exact ⟨k - 1, by omega, ws', p', lp', room', x', y', y2', y3', e, C', by omega⟩
      refine ⟨_, rfl, .inl ⟨rfl, _, SqL.of C.e2⟩, lp, _, _, rfl, rfl, C.e2, pend_last b p, ?_⟩
      have D := C.pop
      generalize upd H2 lp (.lst (pend (b :: p)).dropLast) = H3 at D
      refine ⟨_, rfl, _, _, rfl, rfl, md (by decide), _, rfl, _, _, rfl, rfl, cd (by decide) (by decide), ?_⟩
      have k0 := Int.emod_nonneg n (b := 10) (by decide)
      have kk : ∀ (a : Int) (n : Int), 0 < n → 0 ≤ a % n ∧ a % n < n := fun a n h => ⟨Int.emod_nonneg _ (by omega), Int.emod_lt_of_pos _ h⟩
      have hp2 : p.length ≤ wt (b :: p) := Nat.le_trans (by simp) (wt_le (b :: p))
      have hlp : (pend p).length + 2 ≤ sizeLine := by rw [pend_len, sizeLine_eq]; omega
      have hlp1 : (pend p).length < sizeLine := by omega
      cases b with
      | true =>
        have hsum : (ws.length : Int) + ((3 + wt p : Nat) : Int) + room = m := hsum
        have w2 : wt (true :: true :: p) = 3 + (3 + wt p) := rfl
        have w1 : wt (true :: p) = 3 + wt p := rfl
        have w3 : wt (false :: false :: p) = 1 + (1 + wt p) := rfl
        refine ⟨_, rfl, rfl, _, rfl, iteT ⟨_, rfl, _, _, rfl, rfl, _, rfl, ite2 (fun h4 => ⟨_, rfl, _, _, rfl, rfl, _, rfl, ite2 (fun hp => ?ao) (fun _ => ?n1)⟩) (fun _ => iteF ?n2)⟩⟩
        case ao =>
          have h4 := of_decide_eq_true h4
          obtain ⟨w, hw, e⟩ := at_memS (ws := aos) k0 (of_decide_eq_true hp)
          obtain ⟨f1, f2, f3⟩ := ao_facts hw
          refine ⟨_, rfl, .inl ⟨rfl, _, SqL.of D.e1⟩, line2, fun p1 n1 => ?_⟩
          have D := D.keep (same_new (o := .lst [.str (Str.ofString "and"), .str (Str.ofString "or")]) n1)
          refine ⟨_, rfl, p1, _, _, _, rfl, rfl, SqL.of upd_same, e, lw, _, _, rfl, rfl, D.e1, hlw, ?_⟩
          refine ⟨_, rfl, line2, fun q1 nq1 => ⟨lp, q1, _, _, rfl, rfl, same_new nq1 _ _ (by rw [upd_ne D.ne.symm]; exact D.e2), upd_same, hlp, fun q2 nq2 => ⟨_, rfl, _, _, rfl, rfl, ?_⟩⟩⟩
          exact ⟨ws ++ [w], true :: true :: p, q2, room - 4, _, _, _, _, rfl, D.two (c := true) (d := true) nlw nq1 nq2 (D.lf.ao f2 f1) f3 (by omega) (by rw [w2]; omega), by simp⟩
        all_goals
          refine ⟨_, rfl, rfl, _, rfl, iteT ⟨_, rfl, _, _, rfl, rfl, _, rfl, ite2 (fun h4 => ⟨_, rfl, _, _, rfl, rfl, _, rfl, ite2 (fun hp => ?_) (fun _ => ?_)⟩) (fun _ => iteF ?_)⟩⟩
          next =>
            have h4 := of_decide_eq_true h4
            have e2 : upd H3 lw (.lst (ws.map V.str ++ [V.str sNot])) lp = some (.lst (pend p)) := by rw [upd_ne D.ne.symm]; exact D.e2
            refine ⟨_, rfl, .inl ⟨rfl, _, SqL.of D.e1⟩, lw, _, _, rfl, rfl, D.e1, hlw, _, rfl, .inl ⟨rfl, _, SqL.of e2⟩, lp, _, _, rfl, rfl, e2, hlp1, _, rfl, _, _, rfl, rfl, ?_⟩
            exact ⟨ws ++ [sNot], true :: p, lp, room - 1, _, _, _, _, rfl, D.one (c := true) nlw (D.lf.not not_facts.1) not_facts.2 (by omega) (by rw [w1]; omega), by simp⟩
          all_goals
            obtain ⟨w, hw, e⟩ := at_memS (ws := les) (kk (n % 10) 2 (by decide)).1 (kk _ 2 (by decide)).2
            obtain ⟨f1, f2, f3, f4⟩ := le_facts hw
            refine ⟨_, rfl, rfl, _, rfl, iteT ⟨_, rfl, .inl ⟨rfl, _, SqL.of D.e1⟩, line2, fun p1 n1 => ?_⟩⟩
            have D := D.keep (same_new (o := .lst [.str (Str.ofString "<"), .str (Str.ofString "=")]) n1)
            refine ⟨_, rfl, _, _, rfl, rfl, md (by decide), p1, _, _, _, rfl, rfl, SqL.of upd_same, e, lw, _, _, rfl, rfl, D.e1, hlw, ?_⟩
            refine ⟨_, rfl, line2, fun q1 nq1 => ⟨lp, q1, _, _, rfl, rfl, same_new nq1 _ _ (by rw [upd_ne D.ne.symm]; exact D.e2), upd_same, hlp, fun q2 nq2 => ?_⟩⟩
            exact ⟨ws ++ [w], false :: false :: p, q2, room, _, _, _, _, rfl, D.two (c := false) (d := false) nlw nq1 nq2 (D.lf.le f3 f2 f1) f4 hr0 (by rw [w3]; omega), by simp⟩
      | false =>
        have hsum : (ws.length : Int) + ((1 + wt p : Nat) : Int) + room = m := hsum
        have w3 : wt (false :: false :: p) = 1 + (1 + wt p) := rfl
        refine ⟨_, rfl, rfl, _, rfl, iteF ⟨_, rfl, rfl, _, rfl, iteF ⟨_, rfl, rfl, _, rfl, iteF ⟨_, rfl, _, _, rfl, rfl, _, rfl, ite2 (fun h4 => ⟨_, rfl, _, _, rfl, rfl, _, rfl, ite2 (fun hp => ?sg) (fun _ => ?l3)⟩) (fun _ => iteF ?l4)⟩⟩⟩⟩
        case sg =>
          have h4 := of_decide_eq_true h4
          obtain ⟨w, hw, e⟩ := at_memS (ws := sgs) k0 (of_decide_eq_true hp)
          refine ⟨_, rfl, .inl ⟨rfl, _, SqL.of D.e1⟩, (by show 5 ≤ sizeLine; decide), fun p1 n1 => ?_⟩
          have D := D.keep (same_new (o := .lst [.str (Str.ofString "+"), .str (Str.ofString "-"), .str (Str.ofString "*"), .str (Str.ofString "least"), .str (Str.ofString "most")]) n1)
          refine ⟨_, rfl, p1, _, _, _, rfl, rfl, SqL.of upd_same, e, lw, _, _, rfl, rfl, D.e1, hlw, ?_⟩
          refine ⟨_, rfl, line2, fun q1 nq1 => ⟨lp, q1, _, _, rfl, rfl, same_new nq1 _ _ (by rw [upd_ne D.ne.symm]; exact D.e2), upd_same, hlp, fun q2 nq2 => ⟨_, rfl, _, _, rfl, rfl, ?_⟩⟩⟩
          exact ⟨ws ++ [w], false :: false :: p, q2, room - 2, _, _, _, _, rfl, D.two (c := false) (d := false) nlw nq1 nq2 (D.lf.sg (decide_eq_true hw)) (sg_clean hw) (by omega) (by rw [w3]; omega), by simp⟩
        all_goals
          refine ⟨_, rfl, _, tvS, rfl, .inl rfl, fun w n2 pp H4 s4 e4 lw4 => ?_⟩
          have D := D.keep s4
          exact ⟨pp, _, rfl, SqT.of e4, rfl, _, _, rfl, _, _, rfl, rfl, _, rfl, .inl ⟨rfl, _, SqL.of D.e1⟩, _, rfl, lw, _, _, rfl, rfl, D.e1, hlw, ws ++ [w], p, lp, room, _, _, _, _, rfl, D.none nlw (D.lf.leaf lw4.sg lw4.ok) lw4.cl hr0 (by omega), by simp⟩
end
end K19

set_option Elab.async false
set_option linter.all false
set_option maxRecDepth 100000
set_option maxHeartbeats 4000000
/-! # C1: the rows that the law makes are good rows -/
namespace K19
open PySem PySem.Spec PyProof.Rows L2
theorem numL_len2 {k : Nat} (h : k < 100) : (TL.numL k).length ≤ 2 := TL.numL_len (k := 2) (by decide) h
theorem low_fig {c : Nat} (h : isLow c = true) : isFig c = false := by
  have := isLow_iff.mp h
  cases e : isFig c with
  | false => rfl
  | true => have := isFig_iff.mp e; omega
theorem name_ok {w : Str} {a b : List Nat} {k : Nat} (e : TL.tl w = a ++ (TL.numL k ++ b)) (ha : a ≠ []) (h1 : a.all isLow = true) (h2 : b.all isLow = true) (hl : a.length + b.length ≤ 10) (hk : k < 100) :
    isName w = true ∧ (TL.tl w).filter isFig = TL.numL k := by
  have hd : ∀ c ∈ TL.numL k, isFig c = true := fun c hc => isFig_iff.mpr (TL.numL_digits k c hc)
  have hl2 := numL_len2 hk
  constructor
  · unfold isName isNameL
    rw [e]
    cases a with
    | nil => exact absurd rfl ha
    | cons c t =>
      show (decide ((c :: (t ++ (TL.numL k ++ b))).length ≤ 12) && (isLow c && (c :: (t ++ (TL.numL k ++ b))).all fun c => isLow c || isFig c)) = true
      simp only [List.all_cons, Bool.and_eq_true] at h1
      simp only [Bool.and_eq_true, decide_eq_true_eq]
      refine ⟨by simp at hl ⊢; omega, h1.1, List.all_eq_true.mpr fun x hx => ?_⟩
      rw [Bool.or_eq_true]
      rcases List.mem_cons.mp hx with rfl | hx
      · exact .inl h1.1
      · rcases List.mem_append.mp hx with hx | hx
        · exact .inl (List.all_eq_true.mp h1.2 x hx)
        · rcases List.mem_append.mp hx with hx | hx
          · exact .inr (hd x hx)
          · exact .inl (List.all_eq_true.mp h2 x hx)
  · rw [e, List.filter_append, List.filter_append]
    have f1 : a.filter isFig = [] := List.filter_eq_nil_iff.mpr fun c hc => by rw [low_fig (List.all_eq_true.mp h1 c hc)]; decide
    have f2 : b.filter isFig = [] := List.filter_eq_nil_iff.mpr fun c hc => by rw [low_fig (List.all_eq_true.mp h2 c hc)]; decide
    have f3 : (TL.numL k).filter isFig = TL.numL k := List.filter_eq_self.mpr hd
    rw [f1, f2, f3]
    simp
theorem from_str {i lo hi : Int} (h0 : 0 ≤ i) (h1 : i < 10 ^ 20) (h2 : lo ≤ i) (h3 : i ≤ hi) : isFrom (strI i) lo hi = true := by
  obtain ⟨n, rfl⟩ := Int.eq_ofNat_of_zero_le h0
  have hn : n < 10 ^ 20 := by omega
  show (isCount (strI (n : Int)) && (decide (lo ≤ numVal (strI (n : Int))) && decide (numVal (strI (n : Int)) ≤ hi))) = true
  rw [strI_count hn, strI_val hn, decide_eq_true h2, decide_eq_true h3]
  rfl
theorem val_str {i : Int} (h0 : 0 ≤ i) (h1 : i < 10 ^ 20) : numVal (strI i) = i := by
  obtain ⟨n, rfl⟩ := Int.eq_ofNat_of_zero_le h0
  exact strI_val (by omega)
theorem str_cl {i : Int} (h0 : 0 ≤ i) (h1 : i < 10 ^ 20) : clean (strI i) := (leaf_str (L := tvS) (by omega) h1).cl
theorem fold_cl {w : Str} (h : w ∈ folds) : clean w := by
  simp only [folds, List.mem_cons, List.not_mem_nil, or_false] at h
  rcases h with rfl | rfl | rfl | rfl <;> exact str_clean (by decide +kernel) (by decide +kernel)
theorem fold_is {w : Str} (h : w ∈ folds) : isFold w = true := decide_eq_true h
section
variable {k : Nat} {above : List Str} {nm f g : Str} {fs ws : List Str}
/-- a row of a word with its froms and its rest -/
theorem good {wd : Str} {rest : List Str} (hn : isName nm = true ∧ (TL.tl nm).filter isFig = TL.numL k) (hf : ∀ f ∈ fs, f ∈ above) (h0 : wd ≠ Str.ofString "pour") (hm : fromsT.lookup wd = some fs.length) (hr : isRest wd rest = true) (hc : Clean rest) (hw : clean wd) (hl : rest.length ≤ 36) :
    GoodRow k above ⟨wd, nm, fs, rest⟩ := ⟨hn.1, hn.2, hf, .inr ⟨h0, hm⟩, hr, hc, hw, hl⟩
theorem nil_all {p : Str → Prop} : ∀ w ∈ ([] : List Str), p w := fun w h => by cases h
theorem one_all {p : Str → Prop} (h : p f) : ∀ w ∈ [f], p w := fun w hw => by rw [List.mem_singleton.mp hw]; exact h
theorem two_all {p : Str → Prop} (h : p f) (h2 : p g) : ∀ w ∈ [f, g], p w := fun w hw => by
  rcases List.mem_cons.mp hw with rfl | hw
  · exact h
  · rw [List.mem_singleton.mp hw]; exact h2
theorem three_all {p : Str → Prop} {h : Str} (h1 : p f) (h2 : p g) (h3 : p h) : ∀ w ∈ [f, g, h], p w := fun w hw => by
  rcases List.mem_cons.mp hw with rfl | hw
  · exact h1
  · exact two_all h2 h3 w hw
theorem wd_clean {w : Str} (h : ((TL.tl w).all (fun c => c != 32 && c != 10) && decide (w.length ≤ 25)) = true) : clean w := by
  rw [Bool.and_eq_true] at h
  exact str_clean h.1 (of_decide_eq_true h.2)
theorem good_in (hn : isName nm = true ∧ (TL.tl nm).filter isFig = TL.numL k) : GoodRow k above ⟨Str.ofString "in", nm, [], []⟩ :=
  good hn nil_all (by decide +kernel) (by decide +kernel) (by decide +kernel) nil_all (wd_clean (by decide +kernel)) (by decide)
theorem good_out (hn : isName nm = true ∧ (TL.tl nm).filter isFig = TL.numL k) (hf : f ∈ above) : GoodRow k above ⟨Str.ofString "out", nm, [f], []⟩ :=
  good hn (one_all hf) (by decide +kernel) (by show fromsT.lookup _ = some 1; decide +kernel) (by decide +kernel) nil_all (wd_clean (by decide +kernel)) (by decide)
theorem good_keep (hn : isName nm = true ∧ (TL.tl nm).filter isFig = TL.numL k) (hf : f ∈ above) (hr : isCond ws = true) (hc : Clean ws) (hl : ws.length ≤ 36) : GoodRow k above ⟨Str.ofString "keep", nm, [f], ws⟩ :=
  good hn (one_all hf) (by decide +kernel) (by show fromsT.lookup _ = some 1; decide +kernel) (by unfold isRest; rw [if_pos rfl]; exact hr) hc (wd_clean (by decide +kernel)) hl
theorem good_turn (hn : isName nm = true ∧ (TL.tl nm).filter isFig = TL.numL k) (hf : f ∈ above) (hr : isExpr tvS ws = true) (hc : Clean ws) (hl : ws.length ≤ 36) : GoodRow k above ⟨Str.ofString "turn", nm, [f], ws⟩ :=
  good hn (one_all hf) (by decide +kernel) (by show fromsT.lookup _ = some 1; decide +kernel) (by unfold isRest; rw [if_neg (by decide +kernel), if_pos rfl]; exact hr) hc (wd_clean (by decide +kernel)) hl
theorem good_share {a b : Int} (hn : isName nm = true ∧ (TL.tl nm).filter isFig = TL.numL k) (hf : f ∈ above) (h1 : 1 ≤ b) (h2 : b ≤ 8) (h3 : 0 ≤ a) (h4 : a < b) : GoodRow k above ⟨Str.ofString "share", nm, [f], [strI a, strI b]⟩ := by
  refine good hn (one_all hf) (by decide +kernel) (by show fromsT.lookup _ = some 1; decide +kernel) ?_ (two_all (str_cl h3 (by omega)) (str_cl (by omega) (by omega))) (wd_clean (by decide +kernel)) (by show 2 ≤ 36; decide)
  unfold isRest
  rw [if_neg (by decide +kernel), if_neg (by decide +kernel), if_pos rfl]
  show (isFrom (strI b) 1 8 && isFrom (strI a) 0 (numVal (strI b) - 1)) = true
  rw [from_str (by omega) (by omega) h1 h2, val_str (by omega) (by omega), from_str h3 (by omega) h3 (by omega)]
  rfl
theorem good_win {wd : Str} {a : Int} {fo : Str} (hw : wd = Str.ofString "fixed" ∨ wd = Str.ofString "gap") (hn : isName nm = true ∧ (TL.tl nm).filter isFig = TL.numL k) (hf : f ∈ above) (h1 : 1 ≤ a) (h2 : a ≤ 1000000000000) (hfo : fo ∈ folds) : GoodRow k above ⟨wd, nm, [f], [strI a, fo]⟩ := by
  have hr : isRest wd [strI a, fo] = true := by
    unfold isRest
    rw [if_neg (by rcases hw with rfl | rfl <;> decide +kernel), if_neg (by rcases hw with rfl | rfl <;> decide +kernel), if_neg (by rcases hw with rfl | rfl <;> decide +kernel), if_pos hw]
    show (isFold fo && isFrom (strI a) 1 1000000000000) = true
    rw [fold_is hfo, from_str (by omega) (by omega) h1 h2]
    rfl
  refine good hn (one_all hf) (by rcases hw with rfl | rfl <;> decide +kernel) ?_ hr (two_all (str_cl (by omega) (by omega)) (fold_cl hfo)) ?_ (by show 2 ≤ 36; decide)
  · show fromsT.lookup _ = some 1
    rcases hw with rfl | rfl <;> decide +kernel
  · rcases hw with rfl | rfl <;> exact wd_clean (by decide +kernel)
theorem good_slide {a b : Int} {fo : Str} (hn : isName nm = true ∧ (TL.tl nm).filter isFig = TL.numL k) (hf : f ∈ above) (h1 : 1 ≤ b) (h2 : b ≤ a) (h3 : a ≤ 1000000000000) (h4 : a ≤ 8 * b) (hfo : fo ∈ folds) : GoodRow k above ⟨Str.ofString "slide", nm, [f], [strI a, strI b, fo]⟩ := by
  refine good hn (one_all hf) (by decide +kernel) (by show fromsT.lookup _ = some 1; decide +kernel) ?_ (three_all (str_cl (by omega) (by omega)) (str_cl (by omega) (by omega)) (fold_cl hfo)) (wd_clean (by decide +kernel)) (by show 3 ≤ 36; decide)
  unfold isRest
  rw [if_neg (by decide +kernel), if_neg (by decide +kernel), if_neg (by decide +kernel), if_neg (by decide +kernel), if_pos rfl]
  show (isFold fo && (isFrom (strI a) 1 1000000000000 && (isFrom (strI b) 1 (numVal (strI a)) && decide (numVal (strI a) ≤ 8 * numVal (strI b))))) = true
  rw [fold_is hfo, val_str (i := a) (by omega) (by omega), val_str (i := b) (by omega) (by omega), from_str (i := a) (by omega) (by omega) (by omega) h3, from_str (i := b) (by omega) (by omega) h1 h2, decide_eq_true h4]
  rfl
theorem good_join {a : Int} (hn : isName nm = true ∧ (TL.tl nm).filter isFig = TL.numL k) (hf : f ∈ above) (hg : g ∈ above) (h1 : 0 ≤ a) (h2 : a ≤ 1000000000000) (hr : isExpr sTvw ws = true) (hc : Clean ws) (hl : ws.length ≤ 35) : GoodRow k above ⟨Str.ofString "join", nm, [f, g], strI a :: ws⟩ := by
  refine good hn (two_all hf hg) (by decide +kernel) (by show fromsT.lookup _ = some 2; decide +kernel) ?_ (fun w hw => ?_) (wd_clean (by decide +kernel)) (by show ws.length + 1 ≤ 36; omega)
  · unfold isRest
    rw [if_neg (by decide +kernel), if_neg (by decide +kernel), if_neg (by decide +kernel), if_neg (by decide +kernel), if_neg (by decide +kernel), if_pos rfl]
    show (isFrom (strI a) 0 1000000000000 && isExpr sTvw ws) = true
    rw [from_str h1 (by omega) h1 h2, hr]
    rfl
  · rcases List.mem_cons.mp hw with rfl | hw
    · exact str_cl h1 (by omega)
    · exact hc w hw
theorem good_pour (hn : isName nm = true ∧ (TL.tl nm).filter isFig = TL.numL k) (hf : ∀ f ∈ fs, f ∈ above) (h1 : 2 ≤ fs.length) (h2 : fs.length ≤ 8) : GoodRow k above ⟨Str.ofString "pour", nm, fs, []⟩ :=
  ⟨hn.1, hn.2, hf, .inl ⟨rfl, h1, h2⟩, (by show isRest (Str.ofString "pour") [] = true; decide +kernel), nil_all, (show clean (Str.ofString "pour") from wd_clean (by decide +kernel)), Nat.zero_le 36⟩
end
theorem joinL_one : ∀ cs : List Nat, TL.joinL [] (cs.map fun c => [c]) = cs
  | [] => rfl
  | [_] => rfl
  | a :: b :: r => by
    have ih := joinL_one (b :: r)
    show [a] ++ ([] ++ TL.joinL [] ((b :: r).map fun c => [c])) = a :: b :: r
    rw [ih]
    rfl
def one (c : Nat) : Str := ⟨#[c]⟩
theorem tl_ones (cs : List Nat) : TL.tl (Txt.join (Str.ofString "") (cs.map one)) = cs := by
  rw [TL.join_eq, TL.tl_join, show TL.tl (Str.ofString "") = [] by decide +kernel, List.map_map]
  exact joinL_one cs
end K19

set_option Elab.async false
set_option linter.all false
set_option maxRecDepth 100000
set_option maxHeartbeats 4000000
/-! # C2: _law_name, _law_line -/
namespace K19
open PySem PySem.Spec PyProof.Rows L2
abbrev sLow : Str := Str.ofString "abcdefghijklmnopqrstuvwxyz"
theorem low_at {k : Int} (h0 : 0 ≤ k) (h1 : k < 26) : ∃ c, isLow c = true ∧ atI sLow.cps.toList k = some c := by
  obtain ⟨c, hc, e⟩ := tl_at (L := sLow) h0 (by rw [show ((sLow.length : Nat) : Int) = 26 by decide +kernel]; exact h1)
  refine ⟨c, ?_, e⟩
  rw [← in_low]
  exact decide_eq_true hc
section
variable {P : Program} {w : World} {K : PySem.W.Frag} {mg : Str → Option Value} {base : Heap}
def spLname : Sp := fun vs H Q _ => ∃ (x : Int) (k : Nat), vs = [.int x, .int (k : Int)] ∧ k < 100 ∧ ∀ (w : Str) (H' : Hp), Same H H' → isName w = true ∧ (TL.tl w).filter isFig = TL.numL k → Q (.str w) H'
theorem sc_law_name : FnScope ["_law_x", "_law_k", "_law_word", "_law_j", "_law_at"] ["_law_x", "_law_k"] (defScope (topS 46)) := ⟨rfl, rfl, rfl, by decide +kernel, rfl, by decide +kernel, by decide +kernel⟩
theorem D_law_name (T : Txt K w mg) : Def P w K mg base CX0 1 "_law_name" ["_law_x", "_law_k"] spLname := by
  refine Def.of (T.fl ("_law_name", 46) (by decide +kernel)) sc_law_name (fun _ _ _ _ _ _ us hl => match us, hl with | [_, _], _ => rfl) (fun vs H Q E h => ?_) (fun f cdv A outer s H vs Q E hr h => ?_)
  · obtain ⟨x, k, rfl, _⟩ := h
    rfl
  · obtain ⟨x, k, rfl, hk, q⟩ := h
    have fLen := T.free "len" (by decide +kernel)
    have fStr := T.free "str" (by decide +kernel)
    have fRange := T.free "range" (by decide +kernel)
    refine ⟨_, PSs.nox ((pss_cons (ps_set (i := 2) sc_law_name.nd rfl (.inl rfl) (pe_join pe_str (pe_lc (own := [("_law_j", 3)]) (g := gName 3) (by rfl) sc_law_name.nd (pi_range1 (by rfl) fRange (pa_cons (pe_op op_add pe_int (pe_op op_mod (pv 0) pe_int)) pa_nil)) (blkOk_by (own := [("_law_j", 3)]) (N := ["_law_x", "_law_k", "_law_word", "_law_j", "_law_at"]) (sc := defScope (topS 46)) (by decide +kernel)) (fun _ _ _ _ _ => pg_name (i := 3) sc_law_name.nd rfl (Or.inl rfl)) (fun _ _ _ _ _ => pts_nil) (fun _ _ _ _ _ => (pe_ix ix_str pe_str (pe_op op_mod (pe_op op_fdiv (pv 0) (pe_op op_add pe_int (pe_op op_mul pe_int (pv 3)))) pe_int) (fun _ _ => rfl))))))
      (pss_cons (ps_set (i := 4) sc_law_name.nd rfl (.inl rfl) (pe_op op_add pe_int (pe_op op_mod (pe_op op_fdiv (pv 0) pe_int) (pe_callB call_len_str (by rfl) fLen PySem.boot_len (pa_cons (pv 2) pa_nil)))))
      (pss_one (ps_ret (pe_op op_add_str (pe_op op_add_str (pe_slice sl_str (pv 2) po_none (po_some (pv 4))) (pe_callTy call_str_int (by rfl) fStr (by decide +kernel) (pa_cons (pv 1) pa_nil))) (pe_slice sl_str (pv 2) (po_some (pv 4)) po_none))))))), ?_⟩
    have r0 := Int.emod_nonneg x (b := 10) (by decide)
    have r1 := Int.emod_lt_of_pos x (b := 10) (by decide)
    refine ⟨⟨_, rfl⟩, _, rfl, _, _, rfl, rfl, md (by decide), _, _, rfl, rfl, _, rfl, by omega, by omega, fun D nD => ?_⟩
    refine lc_it walk_range (fun i H' => ∃ cs : List Nat, cs.length = i ∧ cs.all isLow = true ∧ Same H H' ∧ H' D = some (.lst ((cs.map one).map V.str))) ⟨[], rfl, rfl, same_new nD, upd_same⟩ (fun _ _ _ _ => trivial) (fun i y H1 H2 hi hP hY => ?_) (fun H1 hP => ?_)
    · obtain ⟨cs, hl, hlow, s1, e1⟩ := hP
      obtain ⟨rfl, hx⟩ := hY
      subst hx
      have h0 := Int.emod_nonneg (x / (3 + 7 * (0 + (i : Int)))) (b := 26) (by decide)
      have h1 := Int.emod_lt_of_pos (x / (3 + 7 * (0 + (i : Int)))) (b := 26) (by decide)
      obtain ⟨c, hc, e⟩ := low_at h0 h1
      refine ⟨rfl, ⟨_, rfl, _, rfl, _, _, rfl, rfl, cm_l (by decide) (by decide), _, _, rfl, rfl, _, _, rfl, rfl, cd (by omega) (by omega), _, _, rfl, rfl, md (by decide), sLow, _, c, rfl, rfl, Nat.le_of_ble_eq_true rfl, e, _, e1, by rw [List.length_map, List.length_map, sizeLine_eq]; omega, cs ++ [c], by simp [hl], by simp [hlow, hc], same_put s1 nD, ?_⟩⟩
      rw [upd_same, List.map_append, List.map_append]
      rfl
    · obtain ⟨cs, hl, hlow, s1, e1⟩ := hP
      have hcl : cs.length = (1 + x % 10).toNat := hl
      have et : TL.tl (Txt.join (Str.ofString "") (cs.map one)) = cs := tl_ones cs
      have hln : (Txt.join (Str.ofString "") (cs.map one)).length = cs.length := by rw [TL.len_tl, et]
      have hsum : ((cs.map one).map (·.length)).sum ≤ (cs.map one).length * 1 := sum_len fun w hw => by
        obtain ⟨c, _, rfl⟩ := List.mem_map.mp hw
        exact Nat.le_refl 1
      refine ⟨_, D, cs.map one, rfl, rfl, .inl (SqL.of e1), ?_, ?_⟩
      · rw [List.length_map] at hsum ⊢
        rw [show (Str.ofString "").length = 0 by decide +kernel]
        omega
      generalize Txt.join (Str.ofString "") (cs.map one) = z at et hln
      have a0 := Int.emod_nonneg (x / 11) (b := (z.length : Int)) (by omega)
      have a1 := Int.emod_lt_of_pos (x / 11) (b := (z.length : Int)) (by omega)
      obtain ⟨n, en⟩ := Int.eq_ofNat_of_zero_le a0
      refine ⟨_, rfl, _, _, rfl, rfl, cd (by decide) (by decide), _, rfl, z, rfl, by rw [sizeLine_eq]; omega, _, _, rfl, rfl, md (by omega), _, _, rfl, rfl, ?_⟩
      have e3 : (fun i j => V.int (i + j)) 1 (x / 11 % (z.length : Int)) = V.int ((n + 1 : Nat) : Int) := congrArg V.int (by omega)
      rw [e3]
      have l1 := cutS_to z (n + 1)
      have l2 := cutS_from z (n + 1)
      have m1 : (cutS z none (some ((n + 1 : Nat) : Int))).length = (cs.take (n + 1)).length := by rw [TL.len_tl, l1, et]
      have m2 : (cutS z (some ((n + 1 : Nat) : Int)) none).length = (cs.drop (n + 1)).length := by rw [TL.len_tl, l2, et]
      have m3 : (strI (k : Int)).length = (TL.numL k).length := by rw [TL.len_tl, tl_strI]
      have m4 := numL_len2 hk
      have m5 : (cs.take (n + 1)).length ≤ cs.length := by simp; omega
      have m6 : (cs.drop (n + 1)).length ≤ cs.length := by simp
      refine ⟨_, rfl, _, rfl, _, rfl, z, rfl, by rw [sizeLine_eq]; omega, _, rfl, _, rfl, small_log (n := 0) (by omega), _, _, rfl, rfl, ?_, _, rfl, _, rfl, _, rfl, z, rfl, by rw [sizeLine_eq]; omega, _, _, rfl, rfl, ?_, q _ H1 s1 ?_⟩
      · rw [m1, sizeLine_eq]
        show _ + (strI (k : Int)).length ≤ _
        omega
      · have m7 : (cutS z none (some ((n + 1 : Nat) : Int)) ++ strI (k : Int)).length = (cs.take (n + 1)).length + (TL.numL k).length := by rw [TL.len_tl, TL.tl_append, l1, et, tl_strI, List.length_append]
        show (cutS z none (some ((n + 1 : Nat) : Int)) ++ strI (k : Int)).length + _ ≤ _
        rw [m7, m2, sizeLine_eq]
        omega
      · refine name_ok (a := cs.take (n + 1)) (b := cs.drop (n + 1)) ?_ ?_ ?_ ?_ ?_ hk
        · show TL.tl ((cutS z none (some ((n + 1 : Nat) : Int)) ++ strI (k : Int)) ++ cutS z (some ((n + 1 : Nat) : Int)) none) = _
          rw [TL.tl_append, TL.tl_append, l1, l2, et, tl_strI, List.append_assoc]
        · intro e
          have := congrArg List.length e
          rw [List.length_take, List.length_nil] at this
          omega
        · exact List.all_eq_true.mpr fun c hc => List.all_eq_true.mp hlow c (List.mem_of_mem_take hc)
        · exact List.all_eq_true.mpr fun c hc => List.all_eq_true.mp hlow c (List.mem_of_mem_drop hc)
        · have m8 : (cs.take (n + 1)).length + (cs.drop (n + 1)).length = cs.length := by rw [← List.length_append, List.take_append_drop]
          omega
def spLline : Sp := fun vs H Q _ => ∃ (p : Addr) (r : Row), vs = [.ref p] ∧ RowAt H p r ∧ r.words.length ≤ 60 ∧ r.line.length ≤ 900000 ∧ ∀ H', Same H H' → Q (.str r.line) H'
theorem sc_law_line : FnScope ["_law_row_here"] ["_law_row_here"] (defScope (topS 54)) := ⟨rfl, rfl, rfl, by decide +kernel, rfl, by decide +kernel, by decide +kernel⟩
theorem D_law_line (T : Txt K w mg) : Def P w K mg base CX0 1 "_law_line" ["_law_row_here"] spLline := by
  refine Def.of (T.fl ("_law_line", 54) (by decide +kernel)) sc_law_line (fun _ _ _ _ _ _ us hl => match us, hl with | [_], _ => rfl) (fun vs H Q E h => ?_) (fun f cdv A outer s H vs Q E hr h => ?_)
  · obtain ⟨p, r, rfl, _⟩ := h
    rfl
  · obtain ⟨p, r, rfl, ⟨pa, pb, E1, E2, E3⟩, h60, hl, q⟩ := h
    have fList := T.free "list" (by decide +kernel)
    refine ⟨_, PSs.nox ((pss_one (ps_ret (pe_join pe_str (pe_op op_cat (pe_op op_cat (pe_lst (pa_cons (pe_ix ix_tup (pv 0) pe_int (fun _ _ => rfl)) (pa_cons (pe_ix ix_tup (pv 0) pe_int (fun _ _ => rfl)) pa_nil))) (pe_callTy call_list_of (by rfl) fList (by decide +kernel) (pa_cons (pe_ix ix_tup (pv 0) pe_int (fun _ _ => rfl)) pa_nil))) (pe_callTy call_list_of (by rfl) fList (by decide +kernel) (pa_cons (pe_ix ix_tup (pv 0) pe_int (fun _ _ => rfl)) pa_nil))))))), ?_⟩
    have hfl : r.froms.length + r.rest.length + 2 ≤ 60 := by
      unfold Row.words at h60
      simp at h60
      omega
    refine ⟨⟨_, rfl⟩, _, rfl, p, _, 0, _, rfl, rfl, SqT.of E1, rfl, _, rfl, p, _, 1, _, rfl, rfl, SqT.of E1, rfl, line2, fun p1 n1 => ⟨_, rfl, p, _, 2, _, rfl, rfl, SqT.of (same_new n1 _ _ E1), rfl, pa, _, rfl, .inr (SqT.of (same_new n1 _ _ E2)), fun p2 n2 => ⟨p1, p2, _, _, rfl, rfl, same_new n2 _ _ upd_same, upd_same, ?_, fun p3 n3 => ?_⟩⟩⟩
    · rw [sizeLine_eq]
      simp
      omega
    have s2 := ((same_new (o := .lst [.str r.word, .str r.name]) n1).trans (same_new (o := .lst (r.froms.map V.str)) n2)).trans (same_new (o := .lst ([.str r.word, .str r.name] ++ r.froms.map V.str)) n3)
    refine ⟨_, rfl, p, _, 3, _, rfl, rfl, SqT.of (s2 _ _ E1), rfl, pb, _, rfl, .inr (SqT.of (s2 _ _ E3)), fun p4 n4 => ⟨p3, p4, _, _, rfl, rfl, same_new n4 _ _ upd_same, upd_same, ?_, fun p5 n5 => ?_⟩⟩
    · rw [sizeLine_eq]
      simp
      omega
    have s3 := (s2.trans (same_new (o := .lst (r.rest.map V.str)) n4)).trans (same_new (o := .lst ([.str r.word, .str r.name] ++ r.froms.map V.str ++ r.rest.map V.str)) n5)
    have ew : [V.str r.word, .str r.name] ++ r.froms.map V.str ++ r.rest.map V.str = r.words.map V.str := by
      unfold Row.words
      simp
    exact ⟨_, p5, r.words, rfl, rfl, .inl (SqL.of (by rw [← ew]; exact upd_same)), join_room ⟨h60, hl⟩, q _ s3⟩
end
end K19

set_option Elab.async false
set_option linter.all false
set_option maxRecDepth 100000
set_option maxHeartbeats 4000000
/-! # C3: _law_row -/
namespace K19
open PySem PySem.Spec PyProof.Rows L2
theorem at_ints {ns : List Int} {i : Nat} {x : Int} (h : ns[i]? = some x) : atI (ns.map V.int) (i : Int) = some (.int x) := atI_nat (by rw [List.getElem?_map, h]; rfl)
theorem row_made {H : Hp} {p a b : Addr} {wd nm : Str} {fs rest : List Str} (np : H p = none) (ea : H a = some (.tup (fs.map V.str))) (eb : H b = some (.tup (rest.map V.str))) :
    RowAt (upd H p (.tup [.str wd, .str nm, .ref a, .ref b])) p ⟨wd, nm, fs, rest⟩ := ⟨a, b, upd_same, same_new np _ _ ea, same_new np _ _ eb⟩
theorem eleven {ns : List Int} (h : ns.length = 11) : ∃ x0 x1 x2 x3 x4 x5 x6 x7 x8 x9 x10, ns = [x0, x1, x2, x3, x4, x5, x6, x7, x8, x9, x10] := match ns, h with
  | [x0, x1, x2, x3, x4, x5, x6, x7, x8, x9, x10], _ => ⟨x0, x1, x2, x3, x4, x5, x6, x7, x8, x9, x10, rfl⟩
theorem eight {fs : List Str} (h : fs.length = 8) : ∃ f0 f1 f2 f3 f4 f5 f6 f7, fs = [f0, f1, f2, f3, f4, f5, f6, f7] := match fs, h with
  | [f0, f1, f2, f3, f4, f5, f6, f7], _ => ⟨f0, f1, f2, f3, f4, f5, f6, f7, rfl⟩
theorem line0 : (0 : Nat) ≤ sizeLine := by decide
theorem line1 : (1 : Nat) ≤ sizeLine := by decide
theorem line3 : (3 : Nat) ≤ sizeLine := by decide
theorem c6 : CPow 10 6 := by unfold CPow; decide +kernel
theorem c12 : CPow 10 12 := by unfold CPow; decide +kernel
/-- within a comprehension: the part named outright -/
theorem call_len_K {X : Cx} {K : PySem.W.Frag} (h : X.K = K) : CallR X (.builtin "len") (fun xs H Q => ∃ p ys, xs = [V.ref p] ∧ (SqL K H p ys ∨ SqT K H p ys) ∧ Q (.int ys.length) H) := by
  subst h
  exact call_len_seq
theorem ix_list_K {X : Cx} {K : PySem.W.Frag} (h : X.K = K) : IxR X (rIxL K) := by
  subst h
  exact ix_list
theorem ix_tup_K {X : Cx} {K : PySem.W.Frag} (h : X.K = K) : IxR X (rIxT K) := by
  subst h
  exact ix_tup
section
variable {P : Program} {w : World} {K : PySem.W.Frag} {mg : Str → Option Value} {base : Heap}
def spLrow (K : PySem.W.Frag) : Sp := fun vs H Q _ => ∃ (k : Nat) (ax aa : Addr) (ns : List Int) (above : List Str), vs = [.int (k : Int), .ref ax, .ref aa] ∧ k < 100 ∧ SqL K H ax (ns.map V.int) ∧ ns.length = 11 ∧ SqL K H aa (above.map V.str) ∧ above.length ≤ 100 ∧
  ∀ (p : Addr) (r : Row) (H' : Hp), Same H H' → RowAt H' p r → GoodRow k above r → Q (.ref p) H'
theorem sc_law_row : FnScope ["_law_k", "_law_xs", "_law_above", "_law_name_here", "_law_pick", "_law_froms_here", "_law_x", "_law_fold", "_law_wide", "_law_width", "_law_words"] ["_law_k", "_law_xs", "_law_above"] (defScope (topS 47)) := ⟨rfl, rfl, rfl, by decide +kernel, rfl, by decide +kernel, by decide +kernel⟩
theorem D_law_row (T : Txt K w mg) : Def P w K mg base CX0 3 "_law_row" ["_law_k", "_law_xs", "_law_above"] (spLrow K) := by
  have D_law_name : Def P w K mg base CX0 1 "_law_name" ["_law_x", "_law_k"] spLname := D_law_name T
  have D_law_cond : Def P w K mg base CX0 2 "_law_cond" ["_law_number", "_law_most"] spLcond := D_law_cond T
  have D_law_expr : Def P w K mg base CX0 2 "_law_expr" ["_law_number", "_law_letters", "_law_most"] spLexpr := D_law_expr T
  refine Def.of (T.fl ("_law_row", 47) (by decide +kernel)) sc_law_row (fun _ _ _ _ _ _ us hl => match us, hl with | [_, _, _], _ => rfl) (fun vs H Q E h => ?_) (fun f cdv A outer s H vs Q E hr h => ?_)
  · obtain ⟨k, ax, aa, ns, above, rfl, _⟩ := h
    rfl
  · obtain ⟨k, ax, aa, ns, above, rfl, hk, hX, hns, hA, hal, q⟩ := h
    have fLen := T.free "len" (by decide +kernel)
    have fStr := T.free "str" (by decide +kernel)
    have fTuple := T.free "tuple" (by decide +kernel)
    have fMin := T.free "min" (by decide +kernel)
    have hr1 := hr.mono (j := 1) (by decide)
    refine ⟨_, PSs.nox ((pss_cons (ps_set (i := 3) sc_law_row.nd rfl (.inl rfl) (pe_d D_law_name hr1 (pa_cons (pe_ix ix_list (pv 1) pe_int (fun _ _ => rfl)) (pa_cons (pv 0) pa_nil))))
      (pss_cons (ps_set (i := 4) sc_law_row.nd rfl (.inl rfl) (pe_op op_mod (pe_ix ix_list (pv 1) pe_int (fun _ _ => rfl)) pe_int))
      (pss_cons (ps_if (PW.pt (pw_or (pt_cmpR (op_eqE (Nat.lt_of_le_of_lt (Nat.le_add_right _ _) hr.units)) (pv 2) (pe_lst pa_nil) (nomark _)) (pw_or1 (pt_cmpR op_eq (pv 4) pe_int (nomark _)))))
          (pss_one (ps_ret (pe_tup (pa_cons pe_str (pa_cons (pv 3) (pa_cons (pe_tup pa_nil) (pa_cons (pe_tup pa_nil) pa_nil))))))) pss_nil)
      (pss_cons (ps_setLc (i := 5) (own := [("_law_x", 6)]) (g := gName 6) (by rfl) sc_law_row.nd rfl rfl (sw_true rfl rfl rfl (by decide +kernel)) (pi_list (pe_slice sl_list (pv 1) (po_some pe_int) (po_some pe_int))) (blkOk_by (own := [("_law_x", 6)]) (N := ["_law_k", "_law_xs", "_law_above", "_law_name_here", "_law_pick", "_law_froms_here", "_law_x", "_law_fold", "_law_wide", "_law_width", "_law_words"]) (sc := defScope (topS 47)) (by decide +kernel)) (fun _ _ _ _ _ => pg_name (i := 6) sc_law_row.nd rfl (Or.inl rfl)) (fun _ _ _ _ _ => pts_nil) (fun _ _ _ _ _ => (pe_ix (ix_list_K (K := K) rfl) (pv 2) (pe_op op_mod (pv 6) (pe_callB (call_len_K (K := K) rfl) (by rfl) fLen PySem.boot_len (pa_cons (pv 2) pa_nil))) (fun _ _ => rfl))))
      (pss_cons (ps_set (i := 7) sc_law_row.nd rfl (.inl rfl) (pe_ix ix_list (pe_lst (pa_cons pe_str (pa_cons pe_str (pa_cons pe_str (pa_cons pe_str pa_nil))))) (pe_op op_mod (pe_ix ix_list (pv 1) pe_int (fun _ _ => rfl)) pe_int) (fun _ _ => rfl)))
      (pss_cons (ps_set (i := 8) sc_law_row.nd rfl (.inl rfl) (pe_op op_add pe_int (pe_op op_mod (pe_op op_mul (pe_op op_mul (pe_ix ix_list (pv 1) pe_int (fun _ _ => rfl)) pe_int) pe_int) (pe_ix ix_list (pe_lst (pa_cons pe_int (pa_cons (pe_op op_pow pe_int pe_int) (pa_cons (pe_op op_pow pe_int pe_int) pa_nil)))) (pe_op op_mod (pe_ix ix_list (pv 1) pe_int (fun _ _ => rfl)) pe_int) (fun _ _ => rfl)))))
      (pss_cons (ps_if (pt_cmpR op_eq (pv 4) pe_int (nomark _))
          (pss_one (ps_ret (pe_tup (pa_cons pe_str (pa_cons (pv 3) (pa_cons (pe_tup (pa_cons (pe_ix ix_list (pv 5) pe_int (fun _ _ => rfl)) pa_nil)) (pa_cons (pe_callTy call_tuple_of (by rfl) fTuple (by decide +kernel) (pa_cons (pe_d D_law_cond hr (pa_cons (pe_ix ix_list (pv 1) pe_int (fun _ _ => rfl)) (pa_cons (pe_op op_add pe_int (pe_op op_mod (pe_ix ix_list (pv 1) pe_int (fun _ _ => rfl)) pe_int)) pa_nil))) pa_nil)) pa_nil))))))) pss_nil)
      (pss_cons (ps_if (pt_cmpR op_eq (pv 4) pe_int (nomark _))
          (pss_one (ps_ret (pe_tup (pa_cons pe_str (pa_cons (pv 3) (pa_cons (pe_tup (pa_cons (pe_ix ix_list (pv 5) pe_int (fun _ _ => rfl)) pa_nil)) (pa_cons (pe_callTy call_tuple_of (by rfl) fTuple (by decide +kernel) (pa_cons (pe_d D_law_expr hr (pa_cons (pe_ix ix_list (pv 1) pe_int (fun _ _ => rfl)) (pa_cons pe_str (pa_cons (pe_op op_add pe_int (pe_op op_mod (pe_ix ix_list (pv 1) pe_int (fun _ _ => rfl)) pe_int)) pa_nil)))) pa_nil)) pa_nil))))))) pss_nil)
      (pss_cons (ps_if (pt_cmpR op_eq (pv 4) pe_int (nomark _))
          (pss_one (ps_ret (pe_tup (pa_cons pe_str (pa_cons (pv 3) (pa_cons (pe_tup (pa_cons (pe_ix ix_list (pv 5) pe_int (fun _ _ => rfl)) pa_nil)) (pa_cons (pe_tup (pa_cons (pe_callTy call_str_int (by rfl) fStr (by decide +kernel) (pa_cons (pe_op op_mod (pe_ix ix_list (pv 1) pe_int (fun _ _ => rfl)) (pe_op op_add pe_int (pe_op op_mod (pe_ix ix_list (pv 1) pe_int (fun _ _ => rfl)) pe_int))) pa_nil)) (pa_cons (pe_callTy call_str_int (by rfl) fStr (by decide +kernel) (pa_cons (pe_op op_add pe_int (pe_op op_mod (pe_ix ix_list (pv 1) pe_int (fun _ _ => rfl)) pe_int)) pa_nil)) pa_nil))) pa_nil))))))) pss_nil)
      (pss_cons (ps_if (PW.pt (pw_or (pt_cmpR op_eq (pv 4) pe_int (nomark _)) (pw_or1 (pt_cmpR op_eq (pv 4) pe_int (nomark _)))))
          (pss_one (ps_ret (pe_tup (pa_cons pe_str (pa_cons (pv 3) (pa_cons (pe_callTy call_tuple_of (by rfl) fTuple (by decide +kernel) (pa_cons (pe_slice sl_list (pv 5) po_none (po_some (pe_op op_add pe_int (pe_op op_mod (pe_ix ix_list (pv 1) pe_int (fun _ _ => rfl)) pe_int)))) pa_nil)) (pa_cons (pe_tup pa_nil) pa_nil))))))) pss_nil)
      (pss_cons (ps_if (pt_cmpR op_eq (pv 4) pe_int (nomark _))
          (pss_one (ps_ret (pe_tup (pa_cons pe_str (pa_cons (pv 3) (pa_cons (pe_tup (pa_cons (pe_ix ix_list (pv 5) pe_int (fun _ _ => rfl)) pa_nil)) (pa_cons (pe_tup (pa_cons (pe_callTy call_str_int (by rfl) fStr (by decide +kernel) (pa_cons (pv 8) pa_nil)) (pa_cons (pv 7) pa_nil))) pa_nil))))))) pss_nil)
      (pss_cons (ps_if (pt_cmpR op_eq (pv 4) pe_int (nomark _))
          (pss_cons (ps_set (i := 9) sc_law_row.nd rfl (.inl rfl) (pe_callB (call_min2 rfl) (by rfl) fMin (by decide +kernel) (pa_cons (pe_op op_pow pe_int pe_int) (pa_cons (pe_op op_add (pv 8) (pe_op op_mod (pe_op op_mul (pe_op op_mul (pe_ix ix_list (pv 1) pe_int (fun _ _ => rfl)) pe_int) pe_int) (pe_op op_add (pe_op op_mul pe_int (pv 8)) pe_int))) pa_nil))))
          (pss_one (ps_ret (pe_tup (pa_cons pe_str (pa_cons (pv 3) (pa_cons (pe_tup (pa_cons (pe_ix ix_list (pv 5) pe_int (fun _ _ => rfl)) pa_nil)) (pa_cons (pe_tup (pa_cons (pe_callTy call_str_int (by rfl) fStr (by decide +kernel) (pa_cons (pv 9) pa_nil)) (pa_cons (pe_callTy call_str_int (by rfl) fStr (by decide +kernel) (pa_cons (pv 8) pa_nil)) (pa_cons (pv 7) pa_nil)))) pa_nil)))))))) pss_nil)
      (pss_cons (ps_if (pt_cmpR op_eq (pv 4) pe_int (nomark _))
          (pss_one (ps_ret (pe_tup (pa_cons pe_str (pa_cons (pv 3) (pa_cons (pe_tup (pa_cons (pe_ix ix_list (pv 5) pe_int (fun _ _ => rfl)) pa_nil)) (pa_cons (pe_tup (pa_cons (pe_callTy call_str_int (by rfl) fStr (by decide +kernel) (pa_cons (pv 8) pa_nil)) (pa_cons (pv 7) pa_nil))) pa_nil))))))) pss_nil)
      (pss_cons (ps_if (pt_cmpR op_eq (pv 4) pe_int (nomark _))
          (pss_cons (ps_set (i := 10) sc_law_row.nd rfl (.inl rfl) (pe_d D_law_expr hr (pa_cons (pe_ix ix_list (pv 1) pe_int (fun _ _ => rfl)) (pa_cons pe_str (pa_cons (pe_op op_add pe_int (pe_op op_mod (pe_ix ix_list (pv 1) pe_int (fun _ _ => rfl)) pe_int)) pa_nil)))))
          (pss_one (ps_ret (pe_tup (pa_cons pe_str (pa_cons (pv 3) (pa_cons (pe_tup (pa_cons (pe_ix ix_list (pv 5) pe_int (fun _ _ => rfl)) (pa_cons (pe_ix ix_list (pv 5) pe_int (fun _ _ => rfl)) pa_nil))) (pa_cons (pe_callTy call_tuple_of (by rfl) fTuple (by decide +kernel) (pa_cons (pe_op op_cat (pe_lst (pa_cons (pe_callTy call_str_int (by rfl) fStr (by decide +kernel) (pa_cons (pe_op op_sub (pv 8) pe_int) pa_nil)) pa_nil)) (pv 10)) pa_nil)) pa_nil)))))))) pss_nil)
      (pss_one (ps_ret (pe_tup (pa_cons pe_str (pa_cons (pv 3) (pa_cons (pe_tup (pa_cons (pe_ix ix_list (pv 5) pe_int (fun _ _ => rfl)) pa_nil)) (pa_cons (pe_tup pa_nil) pa_nil)))))))))))))))))))))), ?_⟩
    obtain ⟨x0, x1, x2, x3, x4, x5, x6, x7, x8, x9, x10, rfl⟩ := eleven hns
    refine ⟨_, rfl, ax, _, _, _, rfl, rfl, hX, at_ints (i := 0) rfl, _, rfl, x0, k, rfl, hk, fun nm H1 s1 hn => ?_⟩
    have hX1 := s1.seq hX
    have hA1 := s1.seq hA
    refine ⟨_, rfl, ax, _, _, _, rfl, rfl, hX1, at_ints (i := 1) rfl, _, _, rfl, rfl, md (by decide), ?_⟩
    refine ⟨_, rfl, line0, fun pe ne => ⟨aa, pe, _, rfl, rfl, (same_new ne).seq hA1, SqL.of upd_same, _, rfl, ?_⟩⟩
    have s2 := s1.trans (same_new (o := .lst []) ne)
    have hX2 := (same_new (o := .lst []) ne).seq hX1
    have hA2 := (same_new (o := .lst []) ne).seq hA1
    generalize upd H1 pe (.lst []) = H2 at s2 hX2 hA2
    refine ite2 (fun h => iteT ?in1) (fun h => ⟨_, rfl, rfl, _, rfl, ite2 (fun _ => ?in2) (fun _ => ?rest)⟩)
    case rest =>
      have hpos : 0 < above.length := by
        cases above with
        | nil => exact absurd rfl h
        | cons a r => exact Nat.succ_pos _
      have ec : cutV ([x0, x1, x2, x3, x4, x5, x6, x7, x8, x9, x10].map V.int) (some (2 : Int)) (some (10 : Int)) = [x2, x3, x4, x5, x6, x7, x8, x9].map V.int := cutV_mid _ 2 10
      refine ⟨_, rfl, 2, rfl, 10, rfl, ax, _, rfl, hX2, fun p2 np2 => ?_⟩
      rw [ec]
      have s3 := s2.trans (same_new (o := .lst ([x2, x3, x4, x5, x6, x7, x8, x9].map V.int)) np2)
      have hX3 := (same_new (o := .lst ([x2, x3, x4, x5, x6, x7, x8, x9].map V.int)) np2).seq hX2
      have hA3 := (same_new (o := .lst ([x2, x3, x4, x5, x6, x7, x8, x9].map V.int)) np2).seq hA2
      have S3 : upd H2 p2 (.lst ([x2, x3, x4, x5, x6, x7, x8, x9].map V.int)) p2 = some (.lst ([x2, x3, x4, x5, x6, x7, x8, x9].map V.int)) := upd_same
      generalize upd H2 p2 (.lst ([x2, x3, x4, x5, x6, x7, x8, x9].map V.int)) = H3 at s3 hX3 hA3 S3
      refine ⟨p2, rfl, ⟨_, SqL.of S3⟩, fun D nD => lc_it (walk_list (xs := [x2, x3, x4, x5, x6, x7, x8, x9].map V.int)) (fun i H' => ∃ fs : List Str, fs.length = i ∧ (∀ f ∈ fs, f ∈ above) ∧ Same H3 H' ∧ H' D = some (.lst (fs.map V.str))) ⟨[], rfl, nil_all, same_new nD, upd_same⟩
        (fun _ _ _ hP => by obtain ⟨_, _, _, e, _⟩ := hP; exact SqL.of (e _ _ S3)) (fun i y H4 H5 hi hP hY => ?_) (fun H4 hP => ?_)⟩
      · obtain ⟨fs, hl, hin, s4, e4⟩ := hP
        obtain ⟨rfl, hy⟩ := hY
        rw [List.getElem?_map] at hy
        obtain ⟨yv, rfl⟩ : ∃ yv : Int, y = V.int yv := by
          cases e : [x2, x3, x4, x5, x6, x7, x8, x9][i]? with
          | none => rw [e] at hy; cases hy
          | some z => rw [e] at hy; exact ⟨z, (Option.some.inj hy).symm⟩
        have hi8 : i < 8 := hi
        have m0 := Int.emod_nonneg yv (b := (above.length : Int)) (by omega)
        have m1 := Int.emod_lt_of_pos yv (b := (above.length : Int)) (by omega)
        obtain ⟨f, hf, e⟩ := at_memS m0 m1
        have hl2 : (above.map V.str).length = above.length := List.length_map _
        rw [← hl2] at e
        refine ⟨rfl, ⟨_, rfl, _, rfl, _, rfl, aa, _, rfl, .inl (s4.seq hA3), _, _, rfl, rfl, md (by rw [hl2]; omega), aa, _, _, _, rfl, rfl, s4.seq hA3, e, _, e4, by rw [List.length_map, sizeLine_eq]; omega, fs ++ [f], by simp [hl], fun g hg => ?_, same_put s4 nD, ?_⟩⟩
        · rcases List.mem_append.mp hg with hg | hg
          · exact hin g hg
          · rw [List.mem_singleton.mp hg]; exact hf
        · rw [upd_same, List.map_append]
          rfl
      · obtain ⟨fs, hl, hin, s4, e4⟩ := hP
        obtain ⟨f0, f1, f2, f3, f4, f5, f6, f7, rfl⟩ := eight (fs := fs) hl
        have h0 : f0 ∈ above := hin f0 (by simp)
        have h1 : f1 ∈ above := hin f1 (by simp)
        have hX4 := s4.seq hX3
        have s5 := s3.trans s4
        refine ⟨(by show 4 ≤ sizeLine; decide), fun p3 n3 => ?_⟩
        obtain ⟨fo, hfo, efo⟩ := at_memS (ws := folds) (k := x4 % 4) (Int.emod_nonneg _ (by decide)) (Int.emod_lt_of_pos _ (by decide))
        have hX5 := (same_new (o := .lst (folds.map V.str)) n3).seq hX4
        have e5 := same_new (o := .lst (folds.map V.str)) n3 _ _ e4
        have s6 := s5.trans (same_new (o := .lst (folds.map V.str)) n3)
        refine ⟨_, rfl, ax, _, _, _, rfl, rfl, hX5, at_ints (i := 4) rfl, _, _, rfl, rfl, md (by decide), p3, _, _, _, rfl, rfl, SqL.of upd_same, efo, ?_⟩
        change Same H (upd H4 p3 (.lst [.str (Str.ofString "sum"), .str (Str.ofString "count"), .str (Str.ofString "most"), .str (Str.ofString "least")])) at s6
        change SqL K (upd H4 p3 (.lst [.str (Str.ofString "sum"), .str (Str.ofString "count"), .str (Str.ofString "most"), .str (Str.ofString "least")])) ax _ at hX5
        change (upd H4 p3 (.lst [.str (Str.ofString "sum"), .str (Str.ofString "count"), .str (Str.ofString "most"), .str (Str.ofString "least")])) D = _ at e5
        generalize upd H4 p3 (.lst [.str (Str.ofString "sum"), .str (Str.ofString "count"), .str (Str.ofString "most"), .str (Str.ofString "least")]) = H5 at s6 hX5 e5
        obtain ⟨d, hd, ed⟩ := at_memI (ns := [9, (10 : Int) ^ (6 : Int).toNat, (10 : Int) ^ (12 : Int).toNat]) (k := x6 % 3) (Int.emod_nonneg _ (by decide)) (Int.emod_lt_of_pos _ (by decide))
        have hd2 : 0 < d ∧ d ≤ 1000000000000 := by
          simp only [List.mem_cons, List.not_mem_nil, or_false] at hd
          rcases hd with rfl | rfl | rfl <;> decide +kernel
        refine ⟨_, rfl, ax, _, _, _, rfl, rfl, hX5, at_ints (i := 5) rfl, _, _, rfl, rfl, cm_r (by decide) (by decide), _, _, rfl, rfl, cm_r (by decide) (by decide), _, _, rfl, rfl, c6, _, _, rfl, rfl, c12, line3, fun p4 n4 => ?_⟩
        have hX6 := (same_new (o := .lst [.int 9, .int ((10 : Int) ^ (6 : Int).toNat), .int ((10 : Int) ^ (12 : Int).toNat)]) n4).seq hX5
        have e6 := same_new (o := .lst [.int 9, .int ((10 : Int) ^ (6 : Int).toNat), .int ((10 : Int) ^ (12 : Int).toNat)]) n4 _ _ e5
        have s7 := s6.trans (same_new (o := .lst [.int 9, .int ((10 : Int) ^ (6 : Int).toNat), .int ((10 : Int) ^ (12 : Int).toNat)]) n4)
        refine ⟨_, rfl, ax, _, _, _, rfl, rfl, hX6, at_ints (i := 6) rfl, _, _, rfl, rfl, md (by decide), p4, _, _, _, rfl, rfl, SqL.of upd_same, ed, _, _, rfl, rfl, md hd2.1, _, _, rfl, rfl, ?_⟩
        generalize upd H5 p4 (.lst [.int 9, .int ((10 : Int) ^ (6 : Int).toNat), .int ((10 : Int) ^ (12 : Int).toNat)]) = H6 at s7 hX6 e6
        obtain ⟨W, hW⟩ : ∃ W, W = 1 + x5 * 48271 * 7919 % d := ⟨_, rfl⟩
        have w0 : 1 ≤ W ∧ W ≤ 1000000000000 := by
          have a := Int.emod_nonneg (x5 * 48271 * 7919) (b := d) (by omega)
          have b := Int.emod_lt_of_pos (x5 * 48271 * 7919) hd2.1
          omega
        have eW : (fun i j => V.int (i + j)) 1 (x5 * 48271 * 7919 % d) = V.int W := congrArg V.int hW.symm
        rw [eW]
        clear eW hW
        have r31 := Int.emod_nonneg x7 (b := 31) (by decide)
        have r31' := Int.emod_lt_of_pos x7 (b := 31) (by decide)
        have r33 := Int.emod_nonneg x7 (b := 33) (by decide)
        have r33' := Int.emod_lt_of_pos x7 (b := 33) (by decide)
        have sF := fun p1 (n1 : H6 p1 = none) => same_new (o := .tup [.str f0]) n1
        have sl : W.natAbs.log2 < 1920 := small_log (n := 0) (by omega)
        refine ⟨_, rfl, rfl, _, rfl, ite2 (fun _ => ?keep) (fun _ => ⟨_, rfl, rfl, _, rfl, ite2 (fun _ => ?turn) (fun _ => ⟨_, rfl, rfl, _, rfl, ite2 (fun _ => ?share) (fun _ => ⟨_, rfl, rfl, _, rfl, ite2 (fun _ => iteT ?pour1) (fun _ => ⟨_, rfl, rfl, _, rfl, ite2 (fun _ => ?pour2)
          (fun _ => ⟨_, rfl, rfl, _, rfl, ite2 (fun _ => ?fixed) (fun _ => ⟨_, rfl, rfl, _, rfl, ite2 (fun _ => ?slide) (fun _ => ⟨_, rfl, rfl, _, rfl, ite2 (fun _ => ?gap) (fun _ => ⟨_, rfl, rfl, _, rfl, ite2 (fun _ => ?join) (fun _ => ?out)⟩)⟩)⟩)⟩)⟩)⟩)⟩)⟩)⟩
        case keep =>
          refine ⟨_, rfl, _, rfl, D, _, _, _, rfl, rfl, SqL.of e6, at_strs (i := 0) rfl, line1, fun p1 n1 => ?_⟩
          have sG := sF p1 n1
          refine ⟨_, rfl, ax, _, _, _, rfl, rfl, sG.seq hX6, at_ints (i := 6) rfl, _, rfl, ax, _, _, _, rfl, rfl, sG.seq hX6, at_ints (i := 7) rfl, _, _, rfl, rfl, md (by decide), _, _, rfl, rfl, _, _, rfl, by omega, by omega, fun pw ws H8 s8 e8 hc hcl hl => ⟨pw, _, rfl, .inl ⟨SqL.of e8, fun p2 n2 => ⟨line4, fun p n => ?_⟩⟩⟩⟩
          exact q p _ _ ((((s7.trans sG).trans s8).trans (same_new n2)).trans (same_new n)) (row_made (fs := [f0]) (rest := ws) n (same_new n2 _ _ (s8 _ _ upd_same)) upd_same) (good_keep hn h0 hc hcl (by omega))
        case turn =>
          refine ⟨_, rfl, _, rfl, D, _, _, _, rfl, rfl, SqL.of e6, at_strs (i := 0) rfl, line1, fun p1 n1 => ?_⟩
          have sG := sF p1 n1
          refine ⟨_, rfl, ax, _, _, _, rfl, rfl, sG.seq hX6, at_ints (i := 6) rfl, _, rfl, ax, _, _, _, rfl, rfl, sG.seq hX6, at_ints (i := 7) rfl, _, _, rfl, rfl, md (by decide), _, _, rfl, rfl, _, _, _, rfl, .inl rfl, by omega, by omega, fun pw ws H8 s8 e8 hc hcl hl => ⟨pw, _, rfl, .inl ⟨SqL.of e8, fun p2 n2 => ⟨line4, fun p n => ?_⟩⟩⟩⟩
          exact q p _ _ ((((s7.trans sG).trans s8).trans (same_new n2)).trans (same_new n)) (row_made (fs := [f0]) (rest := ws) n (same_new n2 _ _ (s8 _ _ upd_same)) upd_same) (good_turn hn h0 hc hcl (by omega))
        case share =>
          have b0 := Int.emod_nonneg x4 (b := 8) (by decide)
          have b1 := Int.emod_lt_of_pos x4 (b := 8) (by decide)
          have a0 := Int.emod_nonneg x5 (b := 1 + x4 % 8) (by omega)
          have a1 := Int.emod_lt_of_pos x5 (b := 1 + x4 % 8) (by omega)
          refine ⟨_, rfl, _, rfl, D, _, _, _, rfl, rfl, SqL.of e6, at_strs (i := 0) rfl, line1, fun p1 n1 => ?_⟩
          have sG := sF p1 n1
          refine ⟨_, rfl, ax, _, _, _, rfl, rfl, sG.seq hX6, at_ints (i := 5) rfl, _, rfl, ax, _, _, _, rfl, rfl, sG.seq hX6, at_ints (i := 4) rfl, _, _, rfl, rfl, md (by decide), _, _, rfl, rfl, _, _, rfl, rfl, md (by omega), _, rfl, small_log (n := 0) (by omega), ?_⟩
          refine ⟨_, rfl, ax, _, _, _, rfl, rfl, sG.seq hX6, at_ints (i := 4) rfl, _, _, rfl, rfl, md (by decide), _, _, rfl, rfl, _, rfl, small_log (n := 0) (by omega), line2, fun p2 n2 => ⟨line4, fun p n => ?_⟩⟩
          exact q p _ _ (((s7.trans sG).trans (same_new n2)).trans (same_new n)) (row_made (fs := [f0]) (rest := [strI (x5 % (1 + x4 % 8)), strI (1 + x4 % 8)]) n (same_new n2 _ _ upd_same) upd_same) (good_share hn h0 (by omega) (by omega) a0 a1)
        case slide =>
          have v0 := Int.emod_nonneg (x7 * 48271 * 7919) (b := 7 * W + 1) (by omega)
          have v1 := Int.emod_lt_of_pos (x7 * 48271 * 7919) (b := 7 * W + 1) (by omega)
          refine ⟨_, _, rfl, rfl, c12, _, rfl, _, rfl, ax, _, _, _, rfl, rfl, hX6, at_ints (i := 7) rfl, _, _, rfl, rfl, cm_r (by decide) (by decide), _, _, rfl, rfl, cm_r (by decide) (by decide), _, rfl, _, _, rfl, rfl, cm_l (by decide) (by decide), _, _, rfl, rfl, _, _, rfl, rfl, md (by omega), _, _, rfl, rfl, _, _, rfl, ?_⟩
          have e12 : (10 : Int) ^ (12 : Int).toNat = 1000000000000 := by decide +kernel
          rw [e12]
          obtain ⟨Z, hZ⟩ : ∃ Z, Z = (if W + x7 * 48271 * 7919 % (7 * W + 1) < 1000000000000 then W + x7 * 48271 * 7919 % (7 * W + 1) else 1000000000000) := ⟨_, rfl⟩
          have z0 : W ≤ Z ∧ Z ≤ 1000000000000 ∧ Z ≤ 8 * W := by
            rw [hZ]
            split <;> omega
          rw [← hZ]
          refine ⟨_, rfl, _, rfl, D, _, _, _, rfl, rfl, SqL.of e6, at_strs (i := 0) rfl, line1, fun p1 n1 => ?_⟩
          have sG := sF p1 n1
          refine ⟨_, rfl, _, rfl, small_log (n := 0) (by omega), _, rfl, _, rfl, sl, _, rfl, line3, fun p2 n2 => ⟨line4, fun p n => ?_⟩⟩
          exact q p _ _ (((s7.trans sG).trans (same_new n2)).trans (same_new n)) (row_made (fs := [f0]) (rest := [strI Z, strI W, fo]) n (same_new n2 _ _ upd_same) upd_same) (good_slide hn h0 w0.1 z0.1 z0.2.1 z0.2.2 hfo)
        case join =>
          refine ⟨_, rfl, ax, _, _, _, rfl, rfl, hX6, at_ints (i := 6) rfl, _, rfl, ax, _, _, _, rfl, rfl, hX6, at_ints (i := 7) rfl, _, _, rfl, rfl, md (by decide), _, _, rfl, rfl, _, _, _, rfl, .inr rfl, by omega, by omega, fun pw ws H8 s8 e8 hc hcl hl => ?_⟩
          have e9 := s8 _ _ e6
          refine ⟨_, rfl, _, rfl, D, _, _, _, rfl, rfl, SqL.of e9, at_strs (i := 0) rfl, _, rfl, D, _, _, _, rfl, rfl, SqL.of e9, at_strs (i := 1) rfl, line2, fun p1 n1 => ?_⟩
          refine ⟨_, rfl, _, _, rfl, rfl, _, rfl, small_log (n := 0) (by omega), line1, fun p2 n2 => ⟨_, rfl, p2, pw, _, _, rfl, rfl, upd_same, same_new n2 _ _ (same_new n1 _ _ e8), ?_, fun p3 n3 => ⟨p3, strI (W - 1) :: ws |>.map V.str, rfl, .inl ⟨SqL.of upd_same, fun p4 n4 => ⟨line4, fun p n => ?_⟩⟩⟩⟩⟩
          · rw [List.length_map, sizeLine_eq]
            show 1 + ws.length ≤ _
            omega
          · exact q p _ _ ((((((s7.trans s8).trans (same_new n1)).trans (same_new n2)).trans (same_new n3)).trans (same_new n4)).trans (same_new n)) (row_made (fs := [f0, f1]) (rest := strI (W - 1) :: ws) n (same_new n4 _ _ (same_new n3 _ _ (same_new n2 _ _ upd_same))) upd_same) (good_join hn h0 h1 (by omega) (by omega) hc hcl (by omega))
        case out =>
          refine ⟨_, rfl, _, rfl, D, _, _, _, rfl, rfl, SqL.of e6, at_strs (i := 0) rfl, line1, fun p1 n1 => ⟨line0, fun p2 n2 => ⟨line4, fun p n => ?_⟩⟩⟩
          exact q p _ _ (((s7.trans (sF p1 n1)).trans (same_new n2)).trans (same_new n)) (row_made (fs := [f0]) (rest := []) n (same_new n2 _ _ upd_same) upd_same) (good_out hn h0)
        case fixed =>
          refine ⟨_, rfl, _, rfl, D, _, _, _, rfl, rfl, SqL.of e6, at_strs (i := 0) rfl, line1, fun p1 n1 => ?_⟩
          refine ⟨_, rfl, _, rfl, sl, _, rfl, line2, fun p2 n2 => ⟨line4, fun p n => ?_⟩⟩
          exact q p _ _ (((s7.trans (sF p1 n1)).trans (same_new n2)).trans (same_new n)) (row_made (fs := [f0]) (rest := [strI W, fo]) n (same_new n2 _ _ upd_same) upd_same) (good_win (.inl rfl) hn h0 w0.1 w0.2 hfo)
        case gap =>
          refine ⟨_, rfl, _, rfl, D, _, _, _, rfl, rfl, SqL.of e6, at_strs (i := 0) rfl, line1, fun p1 n1 => ?_⟩
          refine ⟨_, rfl, _, rfl, sl, _, rfl, line2, fun p2 n2 => ⟨line4, fun p n => ?_⟩⟩
          exact q p _ _ (((s7.trans (sF p1 n1)).trans (same_new n2)).trans (same_new n)) (row_made (fs := [f0]) (rest := [strI W, fo]) n (same_new n2 _ _ upd_same) upd_same) (good_win (.inr rfl) hn h0 w0.1 w0.2 hfo)
        all_goals
          have b0 := Int.emod_nonneg x4 (b := 7) (by decide)
          have b1 := Int.emod_lt_of_pos x4 (b := 7) (by decide)
          obtain ⟨m, em⟩ : ∃ m : Nat, 2 + x4 % 7 = (m : Int) := Int.eq_ofNat_of_zero_le (by omega)
          refine ⟨_, rfl, _, rfl, _, rfl, ax, _, _, _, rfl, rfl, hX6, at_ints (i := 4) rfl, _, _, rfl, rfl, md (by decide), _, _, rfl, rfl, _, rfl, D, _, rfl, SqL.of e6, fun p1 n1 => ?_⟩
          rw [em, cutV_to, ← List.map_take]
          refine ⟨p1, _, rfl, .inl ⟨SqL.of upd_same, fun p2 n2 => ⟨line0, fun p3 n3 => ⟨line4, fun p n => ?_⟩⟩⟩⟩
          have hm : 2 ≤ m ∧ m ≤ 8 := by omega
          have hlen : ([f0, f1, f2, f3, f4, f5, f6, f7].take m).length = m := by rw [List.length_take]; exact Nat.min_eq_left hm.2
          exact q p _ _ ((((s7.trans (same_new n1)).trans (same_new n2)).trans (same_new n3)).trans (same_new n)) (row_made (fs := [f0, f1, f2, f3, f4, f5, f6, f7].take m) (rest := []) n (same_new n3 _ _ upd_same) upd_same) (good_pour hn (fun f hf => hin f (List.mem_of_mem_take hf)) (by omega) (by omega))
    all_goals
      refine ⟨_, rfl, line0, fun p1 n1 => ⟨line0, fun p2 n2 => ⟨line4, fun p n => ?_⟩⟩⟩
      exact q p _ _ (((s2.trans (same_new n1)).trans (same_new n2)).trans (same_new n)) (row_made (fs := []) (rest := []) n (same_new n2 _ _ upd_same) upd_same) (good_in hn)
end
end K19

set_option Elab.async false
set_option linter.all false
set_option maxRecDepth 100000
set_option maxHeartbeats 4000000
/-! # C4: _law_digits, _law_row_from -/
namespace K19
open PySem PySem.Spec PyProof.Rows L2
/-- digits below their sizes -/
def Below (ds ss : List Int) : Prop := ds.length = ss.length ∧ ∀ (i : Nat) (d s : Int), ds[i]? = some d → ss[i]? = some s → 0 ≤ d ∧ d < s
theorem Below.nil : Below [] [] := ⟨rfl, fun i d s h => by simp at h⟩
theorem Below.snoc {ds ss : List Int} {d s : Int} (h : Below ds ss) (h0 : 0 ≤ d) (h1 : d < s) : Below (ds ++ [d]) (ss ++ [s]) := by
  refine ⟨by simp [h.1], fun i e t g1 g2 => ?_⟩
  by_cases hi : i < ds.length
  · rw [List.getElem?_append_left hi] at g1
    rw [List.getElem?_append_left (by rw [← h.1]; exact hi)] at g2
    exact h.2 i e t g1 g2
  · rw [List.getElem?_append_right (by omega)] at g1
    rw [List.getElem?_append_right (by rw [← h.1]; omega), ← h.1] at g2
    obtain ⟨hj, _⟩ := List.getElem?_eq_some_iff.mp g1
    have hj0 : i - ds.length = 0 := by simp at hj; omega
    rw [hj0] at g1 g2
    cases g1
    cases g2
    exact ⟨h0, h1⟩
section
variable {P : Program} {w : World} {K : PySem.W.Frag} {mg : Str → Option Value} {base : Heap}
def spDigits (K : PySem.W.Frag) : Sp := fun vs H Q _ => ∃ (n : Int) (a : Addr) (ss : List Int), vs = [.int n, .ref a] ∧ SqL K H a (ss.map V.int) ∧ ss.length ≤ 100 ∧ (∀ s ∈ ss, 0 < s ∧ s < 1073741824) ∧
  ∀ (t fp : Addr) (ds : List Int) (m : Int) (H' : Hp), Same H H' → H' t = some (.tup [.ref fp, .int m]) → H' fp = some (.lst (ds.map V.int)) → Below ds ss → Q (.ref t) H'
theorem sc_law_digits : FnScope ["_law_number", "_law_sizes", "_law_found", "_law_size"] ["_law_number", "_law_sizes"] (defScope (topS 48)) := ⟨rfl, rfl, rfl, by decide +kernel, rfl, by decide +kernel, by decide +kernel⟩
theorem D_law_digits (T : Txt K w mg) : Def P w K mg base CX0 1 "_law_digits" ["_law_number", "_law_sizes"] (spDigits K) := by
  refine Def.of (T.fl ("_law_digits", 48) (by decide +kernel)) sc_law_digits (fun _ _ _ _ _ _ us hl => match us, hl with | [_, _], _ => rfl) (fun vs H Q E h => ?_) (fun f cdv A outer s H vs Q E hr h => ?_)
  · obtain ⟨n, a, ss, rfl, _⟩ := h
    rfl
  · obtain ⟨n, a, ss, rfl, hS, h100, hss, q⟩ := h
    refine ⟨_, PSs.nox ((pss_cons (ps_set (i := 2) sc_law_digits.nd rfl (.inl rfl) (pe_lst pa_nil))
      (pss_cons (ps_for PassesOwn.never rfl (pi_list (pv 1)) (pg_name (i := 3) sc_law_digits.nd rfl (.inl rfl))
          (pss_cons (ps_expr (pe_bm PySem.F.plainAttrs_list PySem.F.slot_list_append PySem.F.type_list_append mt_append (pv 2) (pa_cons (pe_op op_mod (pv 0) (pv 3)) pa_nil)))
          (pss_one (ps_set (i := 0) sc_law_digits.nd rfl (.inl rfl) (pe_op op_fdiv (pv 0) (pv 3))))))
      (pss_one (ps_ret (pe_tup (pa_cons (pv 2) (pa_cons (pv 0) pa_nil)))))))), ?_⟩
    refine ⟨line0, fun fp nfp => ?_⟩
    have hS0 := (same_new (o := .lst []) nfp).seq hS
    refine ⟨_, rfl, a, rfl, ⟨_, hS0⟩, for_it (walk_list (xs := ss.map V.int)) (fun i σ H' => ∃ (n : Int) (ds : List Int) (y : Option V), σ = [some (.int n), some (.ref a), some (.ref fp), y] ∧ Same H H' ∧ H' fp = some (.lst (ds.map V.int)) ∧ Below ds (ss.take i)) ⟨n, [], none, rfl, same_new nfp, upd_same, Below.nil⟩
      (fun _ _ _ _ hP => by obtain ⟨_, _, _, _, e, _⟩ := hP; exact e.seq hS) (fun i x σ H1 H2 hi hP hY => ?_) (fun σ H1 hP => ?_)⟩
    · obtain ⟨n, ds, y, rfl, s1, e1, hb⟩ := hP
      obtain ⟨rfl, hx⟩ := hY
      obtain ⟨sz, hsz, rfl⟩ : ∃ sz, ss[i]? = some sz ∧ x = V.int sz := by
        rw [List.getElem?_map] at hx
        cases e : ss[i]? with
        | none => rw [e] at hx; cases hx
        | some z => rw [e] at hx; exact ⟨z, rfl, (Option.some.inj hx).symm⟩
      have hs2 := hss sz (List.mem_of_getElem? hsz)
      have hlen : ds.length ≤ 100 := by rw [hb.1, List.length_take]; omega
      refine ⟨_, rfl, .inl ⟨rfl, _, SqL.of e1⟩, _, rfl, _, rfl, _, _, rfl, rfl, md hs2.1, fp, _, _, rfl, rfl, e1, by rw [List.length_map, sizeLine_eq]; omega, _, rfl, _, rfl, _, _, rfl, rfl, cd hs2.1 hs2.2, ?_⟩
      refine ⟨n / sz, ds ++ [n % sz], _, rfl, same_put s1 nfp, ?_, ?_⟩
      · rw [upd_same, List.map_append]
        rfl
      · rw [List.take_add_one, hsz]
        exact hb.snoc (Int.emod_nonneg _ (by omega)) (Int.emod_lt_of_pos _ hs2.1)
    · obtain ⟨n, ds, y, rfl, s1, e1, hb⟩ := hP
      rw [List.length_map, List.take_length] at hb
      exact ⟨_, rfl, _, rfl, line2, fun t nt => q t fp ds n _ (s1.trans (same_new nt)) upd_same (same_new nt _ _ e1) hb⟩
def kinds : List Str := [Str.ofString "keep", Str.ofString "turn", Str.ofString "share", Str.ofString "pour", Str.ofString "pour", Str.ofString "fixed", Str.ofString "slide", Str.ofString "gap", Str.ofString "join", Str.ofString "out"]
abbrev sPour : Str := Str.ofString "pour"
abbrev sJoin : Str := Str.ofString "join"
theorem many_get (kd : Str) (v : V) : (valV (mergeK [] [((Sum.inr sPour : Key), v), (Sum.inr sJoin, .int 2)]) (Sum.inr kd : Key)).getD (.int 1) = if kd = sPour then v else if kd = sJoin then .int 2 else .int 1 := by
  have e : mergeK [] [((Sum.inr sPour : Key), v), (Sum.inr sJoin, .int 2)] = [((Sum.inr sPour : Key), v), (Sum.inr sJoin, .int 2)] := rfl
  rw [e]
  by_cases h : kd = sPour
  · rw [if_pos h, valV_pos (by rw [h])]
    rfl
  · rw [if_neg h, valV_neg (fun x => h (Sum.inr.inj x).symm)]
    by_cases h2 : kd = sJoin
    · rw [if_pos h2, valV_pos (by rw [h2])]
      rfl
    · rw [if_neg h2, valV_neg (fun x => h2 (Sum.inr.inj x).symm)]
      rfl
end
end K19

set_option Elab.async false
set_option linter.all false
set_option maxRecDepth 100000
set_option maxHeartbeats 4000000
/-! # C5: _law_row_from -/
namespace K19
open PySem PySem.Spec PyProof.Rows L2
def sizes : List Int := [11, 26, 27, 40, (10 : Int) ^ (6 : Int).toNat, 8, 4, 64, 64, 64, 64, 64, 64, 64, 64]
theorem sizes_ok : ∀ s ∈ sizes, 0 < s ∧ s < 1073741824 := by decide +kernel
theorem fifteen {ds : List Int} (h : Below ds sizes) : ∃ d0 d1 d2 d3 d4 d5 d6 e0 e1 e2 e3 e4 e5 e6 e7, ds = [d0, d1, d2, d3, d4, d5, d6, e0, e1, e2, e3, e4, e5, e6, e7] ∧ (0 ≤ d0 ∧ d0 < 11) ∧ (0 ≤ d1 ∧ d1 < 26) ∧ (0 ≤ d2 ∧ d2 < 27) ∧ (0 ≤ d4 ∧ d4 < 1000000) ∧ (0 ≤ d5 ∧ d5 < 8) ∧ (0 ≤ d6 ∧ d6 < 4) := match ds, h.1, h.2 with
  | [d0, d1, d2, d3, d4, d5, d6, e0, e1, e2, e3, e4, e5, e6, e7], _, h => ⟨d0, d1, d2, d3, d4, d5, d6, e0, e1, e2, e3, e4, e5, e6, e7, rfl, h 0 _ _ rfl rfl, h 1 _ _ rfl rfl, h 2 _ _ rfl rfl,
    (by have a : 0 ≤ d4 ∧ d4 < (10 : Int) ^ (6 : Int).toNat := h 4 _ _ rfl rfl; rwa [show (10 : Int) ^ (6 : Int).toNat = 1000000 by decide +kernel] at a), h 5 _ _ rfl rfl, h 6 _ _ rfl rfl⟩
theorem fold_lst : [V.str (Str.ofString "sum"), .str (Str.ofString "count"), .str (Str.ofString "most"), .str (Str.ofString "least")] = folds.map V.str := rfl
theorem kinds_lst : [V.str (Str.ofString "keep"), .str (Str.ofString "turn"), .str (Str.ofString "share"), .str (Str.ofString "pour"), .str (Str.ofString "pour"), .str (Str.ofString "fixed"), .str (Str.ofString "slide"), .str (Str.ofString "gap"), .str (Str.ofString "join"), .str (Str.ofString "out")] = kinds.map V.str := rfl
theorem line10 : (10 : Nat) ≤ sizeLine := by decide
theorem line7 : (7 : Nat) ≤ sizeLine := by decide
theorem low_len : sLow.length = 26 := by decide +kernel
theorem low_all : (TL.tl sLow).all isLow = true := by decide +kernel
theorem ifF {b : Bool} {A B : Prop} (h : b = false) (x : B) : if b = true then A else B := by
  subst h
  exact iteF x
theorem ifT {b : Bool} {A B : Prop} (h : b = true) (x : A) : if b = true then A else B := by
  subst h
  exact iteT x
section
variable {P : Program} {w : World} {K : PySem.W.Frag} {mg : Str → Option Value} {base : Heap}
def spLrowF (K : PySem.W.Frag) : Sp := fun vs H Q _ => ∃ (k : Nat) (n : Int) (aa : Addr) (above : List Str), vs = [.int (k : Int), .int n, .ref aa] ∧ k < 100 ∧ SqL K H aa (above.map V.str) ∧ above.length ≤ 100 ∧
  ∀ (p : Addr) (r : Row) (H' : Hp), Same H H' → RowAt H' p r → GoodRow k above r → Q (.ref p) H'
theorem sc_law_row_from : FnScope ["_law_k", "_law_number", "_law_above", "_law_sizes", "_law_digits_here", "_law_letters", "_law_name_here", "_law_froms_here", "_law_digit", "_law_wide", "_law_fold", "_law_kind", "_law_rest", "_law_many"] ["_law_k", "_law_number", "_law_above"] (defScope (topS 52)) := ⟨rfl, rfl, rfl, by decide +kernel, rfl, by decide +kernel, by decide +kernel⟩
theorem rf_tail (T : Txt K w mg) {f : Addr} {cdv : Value} {A : Around} {outer : List Env} {s : Shared} {H : Hp} {E : XK} {Q : VK} (hr : Room 2 (A.deeper (envOfC "_law_row_from" (defScope (topS 52)) s.heap.objs.size f cdv))) {k : Nat} {above : List Str}
    (q : ∀ (p : Addr) (r : Row) (H' : Hp), Same H H' → RowAt H' p r → GoodRow k above r → Q (.ref p) H') : ∃ tT, PSs (cxOf CX0 P w K mg base ["_law_k", "_law_number", "_law_above", "_law_sizes", "_law_digits_here", "_law_letters", "_law_name_here", "_law_froms_here", "_law_digit", "_law_wide", "_law_fold", "_law_kind", "_law_rest", "_law_many"] "_law_row_from" (defScope (topS 52)) f cdv A outer s H E).nox ((defBody (topS 52)).drop 16) tT ∧
      ∀ (kd nm : Str) (m : Nat) (fs rest : List Str) (b xd D : Addr) (ds : List Int) (d5 : Int) (y0 y1 y2 y3 y5 y8 y9 y10 y13 : Option V) (H' : Hp), Same H H' → H' b = some (.tup (rest.map V.str)) → H' xd = some (.lst (ds.map V.int)) → ds[5]? = some d5 → H' D = some (.lst (fs.map V.str)) →
        (if kd = sPour then V.int (2 + d5 % 7) else if kd = sJoin then .int 2 else .int 1) = V.int (m : Int) → GoodRow k above ⟨kd, nm, fs.take m, rest⟩ →
        tT { nx := fun _ H' => Q .non H', rt := Q } [y0, y1, y2, y3, some (.ref xd), y5, some (.str nm), some (.ref D), y8, y9, y10, some (.str kd), some (.ref b), y13] H' := by
  have fLen := T.free "len" (by decide +kernel)
  have fStr := T.free "str" (by decide +kernel)
  have fTuple := T.free "tuple" (by decide +kernel)
  have fMin := T.free "min" (by decide +kernel)
  refine ⟨_, pss_cons (ps_set (i := 13) sc_law_row_from.nd rfl (.inl rfl) (pe_dget2 (hu_of hr) (pe_disp (pps_cons pe_str (pe_op op_add pe_int (pe_op op_mod (pe_ix ix_list (pv 4) pe_int (fun _ _ => rfl)) pe_int)) (pps_cons pe_str pe_int pps_nil)) (by rfl) (by rfl) (fun z => by cases z) (by decide)) (pv 11) pe_int ⟨rfl, rfl, rfl, rfl⟩))
    (pss_one (ps_ret (pe_tup (pa_cons (pv 11) (pa_cons (pv 6) (pa_cons (pe_callTy call_tuple_of (by rfl) fTuple (by decide +kernel) (pa_cons (pe_slice sl_list (pv 7) po_none (po_some (pv 13))) pa_nil)) (pa_cons (pv 12) pa_nil))))))), ?_⟩
  intro kd nm m fs rest b xd D ds d5 y0 y1 y2 y3 y5 y8 y9 y10 y13 H' s1 eb ex e5 eD hm g
  intro pd nd
  have sd := same_new (o := .dK []) nd
  refine ⟨_, rfl, xd, _, _, _, rfl, rfl, SqL.of (sd _ _ ex), at_ints (i := 5) e5, _, _, rfl, rfl, md (by decide), _, _, rfl, rfl, upd_same, [(Sum.inr sPour, .int (2 + d5 % 7)), (Sum.inr sJoin, .int 2)], rfl, Nat.le_of_ble_eq_true rfl, ?_⟩
  refine ⟨pd, rfl, .inl ⟨_, .inl upd_same⟩, _, rfl, _, DGet.k (k := Sum.inr kd) upd_same, ?_⟩
  rw [many_get, hm]
  have s2 : Same H' (upd (upd H' pd (.dK [])) pd (.dK (mergeK [] [((Sum.inr sPour : Key), .int (2 + d5 % 7)), (Sum.inr sJoin, .int 2)]))) := same_put sd nd
  generalize upd (upd H' pd (.dK [])) pd (.dK (mergeK [] [((Sum.inr sPour : Key), .int (2 + d5 % 7)), (Sum.inr sJoin, .int 2)])) = H2 at s2
  refine ⟨_, rfl, _, rfl, _, rfl, _, rfl, _, rfl, D, _, rfl, SqL.of (s2 _ _ eD), fun p1 n1 => ?_⟩
  rw [cutV_to, ← List.map_take]
  refine ⟨p1, _, rfl, .inl ⟨SqL.of upd_same, fun p2 n2 => ⟨_, rfl, line4, fun p n => ?_⟩⟩⟩
  have s3 := (s2.trans (same_new (o := .lst ((fs.take m).map V.str)) n1)).trans (same_new (o := .tup ((fs.take m).map V.str)) n2)
  exact q p _ _ ((s1.trans s3).trans (same_new n)) (row_made n upd_same (s3 _ _ eb)) g
theorem rf_mid (T : Txt K w mg) {f : Addr} {cdv : Value} {A : Around} {outer : List Env} {s : Shared} {H : Hp} {E : XK} {Q : VK} (hr : Room 2 (A.deeper (envOfC "_law_row_from" (defScope (topS 52)) s.heap.objs.size f cdv))) {k : Nat} {above : List Str}
    (q : ∀ (p : Addr) (r : Row) (H' : Hp), Same H H' → RowAt H' p r → GoodRow k above r → Q (.ref p) H') : ∃ tM, PSs (cxOf CX0 P w K mg base ["_law_k", "_law_number", "_law_above", "_law_sizes", "_law_digits_here", "_law_letters", "_law_name_here", "_law_froms_here", "_law_digit", "_law_wide", "_law_fold", "_law_kind", "_law_rest", "_law_many"] "_law_row_from" (defScope (topS 52)) f cdv A outer s H E).nox ((defBody (topS 52)).drop 10) tM ∧
    ∀ (kd nm fo : Str) (f0 f1 f2 f3 f4 f5 f6 f7 : Str) (b xd D : Addr) (d0 d1 m2 d3 d4 d5 d6 e0 e1 e2 e3 e4 e5 e6 e7 n2 W : Int) (y0 y2 y3 y5 y8 y13 : Option V) (H6 : Hp), Same H H6 → H6 b = some (.tup []) → H6 xd = some (.lst ([d0, d1, m2, d3, d4, d5, d6, e0, e1, e2, e3, e4, e5, e6, e7].map V.int)) → H6 D = some (.lst ([f0, f1, f2, f3, f4, f5, f6, f7].map V.str)) →
      (isName nm = true ∧ (TL.tl nm).filter isFig = TL.numL k) → (∀ f ∈ [f0, f1, f2, f3, f4, f5, f6, f7], f ∈ above) → kd ∈ kinds → fo ∈ folds → (1 ≤ W ∧ W ≤ 1000000) → (0 ≤ d4 ∧ d4 < 1000000) → (0 ≤ d5 ∧ d5 < 8) →
      tM { nx := fun _ H' => Q .non H', rt := Q } [y0, some (.int n2), y2, y3, some (.ref xd), y5, some (.str nm), some (.ref D), y8, some (.int W), some (.str fo), some (.str kd), some (.ref b), y13] H6 := by
  have D_law_cond_from : Def P w K mg base CX0 2 "_law_cond_from" ["_law_number", "_law_most"] spLcond := D_law_cond_from T
  have D_law_expr_from : Def P w K mg base CX0 2 "_law_expr_from" ["_law_number", "_law_letters", "_law_most"] spLexpr := D_law_expr_from T
  have fLen := T.free "len" (by decide +kernel)
  have fStr := T.free "str" (by decide +kernel)
  have fTuple := T.free "tuple" (by decide +kernel)
  have fMin := T.free "min" (by decide +kernel)
  obtain ⟨tT, dT, hT⟩ := rf_tail T (f := f) (cdv := cdv) (A := A) (outer := outer) (s := s) (E := E) hr q
  refine ⟨_, (pss_cons (ps_if (pt_cmpR op_eq (pv 11) pe_str (nomark _))
          (pss_one (ps_set (i := 12) sc_law_row_from.nd rfl (.inl rfl) (pe_callTy call_tuple_of (by rfl) fTuple (by decide +kernel) (pa_cons (pe_d D_law_cond_from hr (pa_cons (pv 1) (pa_cons (pe_op op_add pe_int (pe_op op_mod (pe_ix ix_list (pv 4) pe_int (fun _ _ => rfl)) pe_int)) pa_nil))) pa_nil)))) pss_nil)
      (pss_cons (ps_if (pt_cmpR op_eq (pv 11) pe_str (nomark _))
          (pss_one (ps_set (i := 12) sc_law_row_from.nd rfl (.inl rfl) (pe_callTy call_tuple_of (by rfl) fTuple (by decide +kernel) (pa_cons (pe_d D_law_expr_from hr (pa_cons (pv 1) (pa_cons pe_str (pa_cons (pe_op op_add pe_int (pe_op op_mod (pe_ix ix_list (pv 4) pe_int (fun _ _ => rfl)) pe_int)) pa_nil)))) pa_nil)))) pss_nil)
      (pss_cons (ps_if (pt_cmpR op_eq (pv 11) pe_str (nomark _))
          (pss_one (ps_set (i := 12) sc_law_row_from.nd rfl (.inl rfl) (pe_tup (pa_cons (pe_callTy call_str_int (by rfl) fStr (by decide +kernel) (pa_cons (pe_op op_mod (pe_ix ix_list (pv 4) pe_int (fun _ _ => rfl)) (pe_op op_add pe_int (pe_ix ix_list (pv 4) pe_int (fun _ _ => rfl)))) pa_nil)) (pa_cons (pe_callTy call_str_int (by rfl) fStr (by decide +kernel) (pa_cons (pe_op op_add pe_int (pe_ix ix_list (pv 4) pe_int (fun _ _ => rfl))) pa_nil)) pa_nil))))) pss_nil)
      (pss_cons (ps_if (PW.pt (pw_or (pt_cmpR op_eq (pv 11) pe_str (nomark _)) (pw_or1 (pt_cmpR op_eq (pv 11) pe_str (nomark _)))))
          (pss_one (ps_set (i := 12) sc_law_row_from.nd rfl (.inl rfl) (pe_tup (pa_cons (pe_callTy call_str_int (by rfl) fStr (by decide +kernel) (pa_cons (pv 9) pa_nil)) (pa_cons (pv 10) pa_nil))))) pss_nil)
      (pss_cons (ps_if (pt_cmpR op_eq (pv 11) pe_str (nomark _))
          (pss_one (ps_set (i := 12) sc_law_row_from.nd rfl (.inl rfl) (pe_tup (pa_cons (pe_callTy call_str_int (by rfl) fStr (by decide +kernel) (pa_cons (pe_callB (call_min2 rfl) (by rfl) fMin (by decide +kernel) (pa_cons (pe_op op_pow pe_int pe_int) (pa_cons (pe_op op_add (pv 9) (pe_op op_mod (pv 1) (pe_op op_add (pe_op op_mul pe_int (pv 9)) pe_int))) pa_nil))) pa_nil)) (pa_cons (pe_callTy call_str_int (by rfl) fStr (by decide +kernel) (pa_cons (pv 9) pa_nil)) (pa_cons (pv 10) pa_nil)))))) pss_nil)
      (pss_cons (ps_if (pt_cmpR op_eq (pv 11) pe_str (nomark _))
          (pss_one (ps_set (i := 12) sc_law_row_from.nd rfl (.inl rfl) (pe_callTy call_tuple_of (by rfl) fTuple (by decide +kernel) (pa_cons (pe_op op_cat (pe_lst (pa_cons (pe_callTy call_str_int (by rfl) fStr (by decide +kernel) (pa_cons (pe_op op_sub (pv 9) pe_int) pa_nil)) pa_nil)) (pe_d D_law_expr_from hr (pa_cons (pv 1) (pa_cons pe_str (pa_cons (pe_op op_add pe_int (pe_op op_mod (pe_ix ix_list (pv 4) pe_int (fun _ _ => rfl)) pe_int)) pa_nil))))) pa_nil)))) pss_nil)
      dT)))))), ?_⟩
  intro kd nm fo f0 f1 f2 f3 f4 f5 f6 f7 p5 xd D d0 d1 m2 d3 d4 d5 d6 e0 e1 e2 e3 e4 e5 e6 e7 n2 W y0 y2 y3 y5 y8 y13 H6 s8 er ex7 g7 hn hin hkd hfo w0 b4 b5
  have h0 : f0 ∈ above := hin f0 (by simp)
  have h1 : f1 ∈ above := hin f1 (by simp)
  have r31 := Int.emod_nonneg d3 (b := 31) (by decide)
  have r31' := Int.emod_lt_of_pos d3 (b := 31) (by decide)
  have r33 := Int.emod_nonneg d3 (b := 33) (by decide)
  have r33' := Int.emod_lt_of_pos d3 (b := 33) (by decide)
  have sl : W.natAbs.log2 < 1920 := small_log (n := 0) (by omega)
  simp only [kinds, List.mem_cons, List.not_mem_nil, or_false] at hkd
  rcases hkd with rfl | rfl | rfl | rfl | rfl | rfl | rfl | rfl | rfl | rfl
  · refine ⟨_, rfl, rfl, _, rfl, ifT (eqT rfl) ⟨_, rfl, _, rfl, xd, _, _, _, rfl, rfl, SqL.of ex7, at_ints (i := 3) rfl, _, _, rfl, rfl, md (by decide), _, _, rfl, rfl, _, _, rfl, by omega, by omega, fun pw ws H8 t8 u8 hc hcl hl => ⟨pw, _, rfl, .inl ⟨SqL.of u8, fun p6 n6 => ⟨_, rfl, rfl, _, rfl, ifF (eqF (by decide +kernel)) ⟨_, rfl, rfl, _, rfl, ifF (eqF (by decide +kernel)) ⟨_, rfl, rfl, _, rfl, ifF (eqF (by decide +kernel)) ⟨_, rfl, rfl, _, rfl, ifF (eqF (by decide +kernel)) ⟨_, rfl, rfl, _, rfl, ifF (eqF (by decide +kernel)) ⟨_, rfl, rfl, _, rfl, ifF (eqF (by decide +kernel)) ?_⟩⟩⟩⟩⟩⟩⟩⟩⟩⟩
    have t9 := t8.trans (same_new (o := .tup (ws.map V.str)) n6)
    exact hT _ _ 1 [f0, f1, f2, f3, f4, f5, f6, f7] ws p6 xd D _ d5 _ _ _ _ _ _ _ _ _ _ (s8.trans t9) upd_same (t9 _ _ ex7) rfl (t9 _ _ g7) (by rw [if_neg (by decide +kernel), if_neg (by decide +kernel)]; rfl) (good_keep hn h0 hc hcl (by omega))
  · refine ⟨_, rfl, rfl, _, rfl, ifF (eqF (by decide +kernel)) ⟨_, rfl, rfl, _, rfl, ifT (eqT rfl) ⟨_, rfl, _, rfl, xd, _, _, _, rfl, rfl, SqL.of ex7, at_ints (i := 3) rfl, _, _, rfl, rfl, md (by decide), _, _, rfl, rfl, _, _, _, rfl, .inl rfl, by omega, by omega, fun pw ws H8 t8 u8 hc hcl hl => ⟨pw, _, rfl, .inl ⟨SqL.of u8, fun p6 n6 => ⟨_, rfl, rfl, _, rfl, ifF (eqF (by decide +kernel)) ⟨_, rfl, rfl, _, rfl, ifF (eqF (by decide +kernel)) ⟨_, rfl, rfl, _, rfl, ifF (eqF (by decide +kernel)) ⟨_, rfl, rfl, _, rfl, ifF (eqF (by decide +kernel)) ⟨_, rfl, rfl, _, rfl, ifF (eqF (by decide +kernel)) ?_⟩⟩⟩⟩⟩⟩⟩⟩⟩⟩
    have t9 := t8.trans (same_new (o := .tup (ws.map V.str)) n6)
    exact hT _ _ 1 [f0, f1, f2, f3, f4, f5, f6, f7] ws p6 xd D _ d5 _ _ _ _ _ _ _ _ _ _ (s8.trans t9) upd_same (t9 _ _ ex7) rfl (t9 _ _ g7) (by rw [if_neg (by decide +kernel), if_neg (by decide +kernel)]; rfl) (good_turn hn h0 hc hcl (by omega))
  · have a0 := Int.emod_nonneg d4 (b := 1 + d5) (by omega)
    have a1 := Int.emod_lt_of_pos d4 (b := 1 + d5) (by omega)
    refine ⟨_, rfl, rfl, _, rfl, ifF (eqF (by decide +kernel)) ⟨_, rfl, rfl, _, rfl, ifF (eqF (by decide +kernel)) ⟨_, rfl, rfl, _, rfl, ifT (eqT rfl) ⟨_, rfl, xd, _, _, _, rfl, rfl, SqL.of ex7, at_ints (i := 4) rfl, _, rfl, xd, _, _, _, rfl, rfl, SqL.of ex7, at_ints (i := 5) rfl, _, _, rfl, rfl, _, _, rfl, rfl, md (by omega), _, rfl, small_log (n := 0) (by omega), _, rfl, xd, _, _, _, rfl, rfl, SqL.of ex7, at_ints (i := 5) rfl, _, _, rfl, rfl, _, rfl, small_log (n := 0) (by omega), line2, fun p6 n6 => ⟨_, rfl, rfl, _, rfl, ifF (eqF (by decide +kernel)) ⟨_, rfl, rfl, _, rfl, ifF (eqF (by decide +kernel)) ⟨_, rfl, rfl, _, rfl, ifF (eqF (by decide +kernel)) ⟨_, rfl, rfl, _, rfl, ifF (eqF (by decide +kernel)) ?_⟩⟩⟩⟩⟩⟩⟩⟩
    have t9 := same_new (o := .tup ([strI (d4 % (1 + d5)), strI (1 + d5)].map V.str)) n6
    exact hT _ _ 1 [f0, f1, f2, f3, f4, f5, f6, f7] [strI (d4 % (1 + d5)), strI (1 + d5)] p6 xd D _ d5 _ _ _ _ _ _ _ _ _ _ (s8.trans t9) upd_same (t9 _ _ ex7) rfl (t9 _ _ g7) (by rw [if_neg (by decide +kernel), if_neg (by decide +kernel)]; rfl) (good_share hn h0 (by omega) (by omega) a0 a1)
  · have a0 := Int.emod_nonneg d5 (b := 7) (by decide)
    have a1 := Int.emod_lt_of_pos d5 (b := 7) (by decide)
    obtain ⟨m, em⟩ : ∃ m : Nat, 2 + d5 % 7 = (m : Int) := Int.eq_ofNat_of_zero_le (by omega)
    have hm : 2 ≤ m ∧ m ≤ 8 := by omega
    have hlen : ([f0, f1, f2, f3, f4, f5, f6, f7].take m).length = m := by rw [List.length_take]; exact Nat.min_eq_left hm.2
    refine ⟨_, rfl, rfl, _, rfl, ifF (eqF (by decide +kernel)) ⟨_, rfl, rfl, _, rfl, ifF (eqF (by decide +kernel)) ⟨_, rfl, rfl, _, rfl, ifF (eqF (by decide +kernel)) ⟨_, rfl, rfl, _, rfl, ifF (eqF (by decide +kernel)) ⟨_, rfl, rfl, _, rfl, ifF (eqF (by decide +kernel)) ⟨_, rfl, rfl, _, rfl, ifF (eqF (by decide +kernel)) ⟨_, rfl, rfl, _, rfl, ifF (eqF (by decide +kernel)) ?_⟩⟩⟩⟩⟩⟩⟩
    exact hT _ _ m [f0, f1, f2, f3, f4, f5, f6, f7] [] p5 xd D _ d5 _ _ _ _ _ _ _ _ _ _ s8 er ex7 rfl g7 (by rw [if_pos rfl, em]) (good_pour hn (fun f hf => hin f (List.mem_of_mem_take hf)) (by omega) (by omega))
  · have a0 := Int.emod_nonneg d5 (b := 7) (by decide)
    have a1 := Int.emod_lt_of_pos d5 (b := 7) (by decide)
    obtain ⟨m, em⟩ : ∃ m : Nat, 2 + d5 % 7 = (m : Int) := Int.eq_ofNat_of_zero_le (by omega)
    have hm : 2 ≤ m ∧ m ≤ 8 := by omega
    have hlen : ([f0, f1, f2, f3, f4, f5, f6, f7].take m).length = m := by rw [List.length_take]; exact Nat.min_eq_left hm.2
    refine ⟨_, rfl, rfl, _, rfl, ifF (eqF (by decide +kernel)) ⟨_, rfl, rfl, _, rfl, ifF (eqF (by decide +kernel)) ⟨_, rfl, rfl, _, rfl, ifF (eqF (by decide +kernel)) ⟨_, rfl, rfl, _, rfl, ifF (eqF (by decide +kernel)) ⟨_, rfl, rfl, _, rfl, ifF (eqF (by decide +kernel)) ⟨_, rfl, rfl, _, rfl, ifF (eqF (by decide +kernel)) ⟨_, rfl, rfl, _, rfl, ifF (eqF (by decide +kernel)) ?_⟩⟩⟩⟩⟩⟩⟩
    exact hT _ _ m [f0, f1, f2, f3, f4, f5, f6, f7] [] p5 xd D _ d5 _ _ _ _ _ _ _ _ _ _ s8 er ex7 rfl g7 (by rw [if_pos rfl, em]) (good_pour hn (fun f hf => hin f (List.mem_of_mem_take hf)) (by omega) (by omega))
  · refine ⟨_, rfl, rfl, _, rfl, ifF (eqF (by decide +kernel)) ⟨_, rfl, rfl, _, rfl, ifF (eqF (by decide +kernel)) ⟨_, rfl, rfl, _, rfl, ifF (eqF (by decide +kernel)) ⟨_, rfl, rfl, _, rfl, ifT (eqT rfl) ⟨_, rfl, _, rfl, sl, _, rfl, line2, fun p6 n6 => ⟨_, rfl, rfl, _, rfl, ifF (eqF (by decide +kernel)) ⟨_, rfl, rfl, _, rfl, ifF (eqF (by decide +kernel)) ?_⟩⟩⟩⟩⟩⟩⟩
    have t9 := same_new (o := .tup ([strI W, fo].map V.str)) n6
    exact hT _ _ 1 [f0, f1, f2, f3, f4, f5, f6, f7] [strI W, fo] p6 xd D _ d5 _ _ _ _ _ _ _ _ _ _ (s8.trans t9) upd_same (t9 _ _ ex7) rfl (t9 _ _ g7) (by rw [if_neg (by decide +kernel), if_neg (by decide +kernel)]; rfl) (good_win (.inl rfl) hn h0 w0.1 (by omega) hfo)
  · have v0 := Int.emod_nonneg n2 (b := 7 * W + 1) (by omega)
    have v1 := Int.emod_lt_of_pos n2 (b := 7 * W + 1) (by omega)
    have e12 : (10 : Int) ^ (12 : Int).toNat = 1000000000000 := by decide +kernel
    obtain ⟨Z, hZ⟩ : ∃ Z, Z = (if W + n2 % (7 * W + 1) < (10 : Int) ^ (12 : Int).toNat then W + n2 % (7 * W + 1) else (10 : Int) ^ (12 : Int).toNat) := ⟨_, rfl⟩
    have z0 : W ≤ Z ∧ Z ≤ 1000000000000 ∧ Z ≤ 8 * W := by
      rw [hZ, e12]
      split <;> omega
    refine ⟨_, rfl, rfl, _, rfl, ifF (eqF (by decide +kernel)) ⟨_, rfl, rfl, _, rfl, ifF (eqF (by decide +kernel)) ⟨_, rfl, rfl, _, rfl, ifF (eqF (by decide +kernel)) ⟨_, rfl, rfl, _, rfl, ifF (eqF (by decide +kernel)) ⟨_, rfl, rfl, _, rfl, ifF (eqF (by decide +kernel)) ⟨_, rfl, rfl, _, rfl, ifT (eqT rfl) ⟨_, _, rfl, rfl, c12, _, rfl, _, rfl, _, rfl, _, _, rfl, rfl, cm_l (by decide) (by decide), _, _, rfl, rfl, _, _, rfl, rfl, md (by omega), _, _, rfl, rfl, _, _, rfl, ?_⟩⟩⟩⟩⟩⟩⟩
    rw [← hZ]
    refine ⟨_, rfl, small_log (n := 0) (by omega), _, rfl, _, rfl, sl, _, rfl, line3, fun p6 n6 => ⟨_, rfl, rfl, _, rfl, ifF (eqF (by decide +kernel)) ?_⟩⟩
    have t9 := same_new (o := .tup ([strI Z, strI W, fo].map V.str)) n6
    exact hT _ _ 1 [f0, f1, f2, f3, f4, f5, f6, f7] [strI Z, strI W, fo] p6 xd D _ d5 _ _ _ _ _ _ _ _ _ _ (s8.trans t9) upd_same (t9 _ _ ex7) rfl (t9 _ _ g7) (by rw [if_neg (by decide +kernel), if_neg (by decide +kernel)]; rfl) (good_slide hn h0 w0.1 z0.1 z0.2.1 z0.2.2 hfo)
  · refine ⟨_, rfl, rfl, _, rfl, ifF (eqF (by decide +kernel)) ⟨_, rfl, rfl, _, rfl, ifF (eqF (by decide +kernel)) ⟨_, rfl, rfl, _, rfl, ifF (eqF (by decide +kernel)) ⟨_, rfl, rfl, _, rfl, ifF (eqF (by decide +kernel)) ⟨_, rfl, rfl, _, rfl, ifT (eqT rfl) ⟨_, rfl, _, rfl, sl, _, rfl, line2, fun p6 n6 => ⟨_, rfl, rfl, _, rfl, ifF (eqF (by decide +kernel)) ⟨_, rfl, rfl, _, rfl, ifF (eqF (by decide +kernel)) ?_⟩⟩⟩⟩⟩⟩⟩⟩
    have t9 := same_new (o := .tup ([strI W, fo].map V.str)) n6
    exact hT _ _ 1 [f0, f1, f2, f3, f4, f5, f6, f7] [strI W, fo] p6 xd D _ d5 _ _ _ _ _ _ _ _ _ _ (s8.trans t9) upd_same (t9 _ _ ex7) rfl (t9 _ _ g7) (by rw [if_neg (by decide +kernel), if_neg (by decide +kernel)]; rfl) (good_win (.inr rfl) hn h0 w0.1 (by omega) hfo)
  · refine ⟨_, rfl, rfl, _, rfl, ifF (eqF (by decide +kernel)) ⟨_, rfl, rfl, _, rfl, ifF (eqF (by decide +kernel)) ⟨_, rfl, rfl, _, rfl, ifF (eqF (by decide +kernel)) ⟨_, rfl, rfl, _, rfl, ifF (eqF (by decide +kernel)) ⟨_, rfl, rfl, _, rfl, ifF (eqF (by decide +kernel)) ⟨_, rfl, rfl, _, rfl, ifF (eqF (by decide +kernel)) ⟨_, rfl, rfl, _, rfl, ifT (eqT rfl) ⟨_, rfl, _, _, rfl, rfl, _, rfl, small_log (n := 0) (by omega), line1, fun p6 n6 => ?_⟩⟩⟩⟩⟩⟩⟩⟩
    have t6 := same_new (o := .lst [.str (strI (W - 1))]) n6
    refine ⟨_, rfl, _, rfl, xd, _, _, _, rfl, rfl, SqL.of (t6 _ _ ex7), at_ints (i := 3) rfl, _, _, rfl, rfl, md (by decide), _, _, rfl, rfl, _, _, _, rfl, .inr rfl, by omega, by omega, fun pw ws H8 t8 u8 hc hcl hl => ⟨p6, pw, _, _, rfl, rfl, t8 _ _ upd_same, u8, ?_, fun p7 n7 => ⟨p7, (strI (W - 1) :: ws).map V.str, rfl, .inl ⟨SqL.of upd_same, fun p8 n8 => ?_⟩⟩⟩⟩
    · rw [List.length_map, sizeLine_eq]
      show 1 + ws.length ≤ _
      omega
    have t9 := ((t6.trans t8).trans (same_new (o := .lst ((strI (W - 1) :: ws).map V.str)) n7)).trans (same_new (o := .tup ((strI (W - 1) :: ws).map V.str)) n8)
    exact hT _ _ 2 [f0, f1, f2, f3, f4, f5, f6, f7] (strI (W - 1) :: ws) p8 xd D _ d5 _ _ _ _ _ _ _ _ _ _ (s8.trans t9) upd_same (t9 _ _ ex7) rfl (t9 _ _ g7) (by rw [if_neg (by decide +kernel), if_pos rfl]; rfl) (good_join hn h0 h1 (by omega) (by omega) hc hcl (by omega))
  · refine ⟨_, rfl, rfl, _, rfl, ifF (eqF (by decide +kernel)) ⟨_, rfl, rfl, _, rfl, ifF (eqF (by decide +kernel)) ⟨_, rfl, rfl, _, rfl, ifF (eqF (by decide +kernel)) ⟨_, rfl, rfl, _, rfl, ifF (eqF (by decide +kernel)) ⟨_, rfl, rfl, _, rfl, ifF (eqF (by decide +kernel)) ⟨_, rfl, rfl, _, rfl, ifF (eqF (by decide +kernel)) ⟨_, rfl, rfl, _, rfl, ifF (eqF (by decide +kernel)) ?_⟩⟩⟩⟩⟩⟩⟩
    exact hT _ _ 1 [f0, f1, f2, f3, f4, f5, f6, f7] [] p5 xd D _ d5 _ _ _ _ _ _ _ _ _ _ s8 er ex7 rfl g7 (by rw [if_neg (by decide +kernel), if_neg (by decide +kernel)]; rfl) (good_out hn h0)
theorem D_law_row_from (T : Txt K w mg) : Def P w K mg base CX0 3 "_law_row_from" ["_law_k", "_law_number", "_law_above"] (spLrowF K) := by
  have D_law_digits : Def P w K mg base CX0 1 "_law_digits" ["_law_number", "_law_sizes"] (spDigits K) := D_law_digits T
  have D_law_cond_from : Def P w K mg base CX0 2 "_law_cond_from" ["_law_number", "_law_most"] spLcond := D_law_cond_from T
  have D_law_expr_from : Def P w K mg base CX0 2 "_law_expr_from" ["_law_number", "_law_letters", "_law_most"] spLexpr := D_law_expr_from T
  refine Def.of (T.fl ("_law_row_from", 52) (by decide +kernel)) sc_law_row_from (fun _ _ _ _ _ _ us hl => match us, hl with | [_, _, _], _ => rfl) (fun vs H Q E h => ?_) (fun f cdv A outer s H vs Q E hr h => ?_)
  · obtain ⟨k, n, aa, above, rfl, _⟩ := h
    rfl
  · obtain ⟨k, n, aa, above, rfl, hk, hA, hal, q⟩ := h
    have fLen := T.free "len" (by decide +kernel)
    have fStr := T.free "str" (by decide +kernel)
    have fTuple := T.free "tuple" (by decide +kernel)
    have fMin := T.free "min" (by decide +kernel)
    have hr1 := hr.mono (j := 1) (by decide)
    obtain ⟨tM, dM, hM⟩ := rf_mid T (f := f) (cdv := cdv) (A := A) (outer := outer) (s := s) (E := E) hr q
    refine ⟨_, PSs.nox ((pss_cons (ps_set (i := 3) sc_law_row_from.nd rfl (.inl rfl) (pe_op op_cat (pe_lst (pa_cons pe_int (pa_cons pe_int (pa_cons pe_int (pa_cons pe_int (pa_cons (pe_op op_pow pe_int pe_int) (pa_cons pe_int (pa_cons pe_int pa_nil)))))))) (pe_op op_rep (pe_lst (pa_cons pe_int pa_nil)) pe_int)))
      (pss_cons (ps_asg (pe_d D_law_digits hr1 (pa_cons (pv 1) (pa_cons (pv 3) pa_nil))) (pg_tup (by rfl) (pgs_cons (pg_name (i := 4) sc_law_row_from.nd rfl (.inl rfl)) (pgs_cons (pg_name (i := 1) sc_law_row_from.nd rfl (.inl rfl)) pgs_nil))))
      (pss_cons (ps_set (i := 5) sc_law_row_from.nd rfl (.inl rfl) pe_str)
      (pss_cons (ps_set (i := 6) sc_law_row_from.nd rfl (.inl rfl) (pe_op op_add_str (pe_op op_add_str (pe_ix ix_str (pv 5) (pe_ix ix_list (pv 4) pe_int (fun _ _ => rfl)) (fun _ _ => rfl)) (pe_slice sl_str (pe_slice sl_str (pv 5) (po_some (pe_ix ix_list (pv 4) pe_int (fun _ _ => rfl))) po_none) po_none (po_some pe_int))) (pe_callTy call_str_int (by rfl) fStr (by decide +kernel) (pa_cons (pv 0) pa_nil))))
      (pss_cons (ps_if (PW.pt (pw_or (pt_cmpR (op_eqE (Nat.lt_of_le_of_lt (Nat.le_add_right _ _) hr.units)) (pv 2) (pe_lst pa_nil) (nomark _)) (pw_or1 (pt_cmpR op_eq (pe_ix ix_list (pv 4) pe_int (fun _ _ => rfl)) pe_int (nomark _)))))
          (pss_one (ps_ret (pe_tup (pa_cons pe_str (pa_cons (pv 6) (pa_cons (pe_tup pa_nil) (pa_cons (pe_tup pa_nil) pa_nil))))))) pss_nil)
      (pss_cons (ps_setLc (i := 7) (own := [("_law_digit", 8)]) (g := gName 8) (by rfl) sc_law_row_from.nd rfl rfl (sw_true rfl rfl rfl (by decide +kernel)) (pi_list (pe_slice sl_list (pv 4) (po_some pe_int) po_none)) (blkOk_by (own := [("_law_digit", 8)]) (N := ["_law_k", "_law_number", "_law_above", "_law_sizes", "_law_digits_here", "_law_letters", "_law_name_here", "_law_froms_here", "_law_digit", "_law_wide", "_law_fold", "_law_kind", "_law_rest", "_law_many"]) (sc := defScope (topS 52)) (by decide +kernel)) (fun _ _ _ _ _ => pg_name (i := 8) sc_law_row_from.nd rfl (Or.inl rfl)) (fun _ _ _ _ _ => pts_nil) (fun _ _ _ _ _ => (pe_ix (ix_list_K (K := K) rfl) (pv 2) (pe_op op_mod (pv 8) (pe_callB (call_len_K (K := K) rfl) (by rfl) fLen PySem.boot_len (pa_cons (pv 2) pa_nil))) (fun _ _ => rfl))))
      (pss_cons (ps_set (i := 9) sc_law_row_from.nd rfl (.inl rfl) (pe_op op_add pe_int (pe_ix ix_list (pv 4) pe_int (fun _ _ => rfl))))
      (pss_cons (ps_set (i := 10) sc_law_row_from.nd rfl (.inl rfl) (pe_ix ix_list (pe_lst (pa_cons pe_str (pa_cons pe_str (pa_cons pe_str (pa_cons pe_str pa_nil))))) (pe_ix ix_list (pv 4) pe_int (fun _ _ => rfl)) (fun _ _ => rfl)))
      (pss_cons (ps_set (i := 11) sc_law_row_from.nd rfl (.inl rfl) (pe_ix ix_list (pe_lst (pa_cons pe_str (pa_cons pe_str (pa_cons pe_str (pa_cons pe_str (pa_cons pe_str (pa_cons pe_str (pa_cons pe_str (pa_cons pe_str (pa_cons pe_str (pa_cons pe_str pa_nil))))))))))) (pe_op op_sub (pe_ix ix_list (pv 4) pe_int (fun _ _ => rfl)) pe_int) (fun _ _ => rfl)))
      (pss_cons (ps_set (i := 12) sc_law_row_from.nd rfl (.inl rfl) (pe_tup pa_nil))
      dM))))))))))), ?_⟩
    refine ⟨_, _, rfl, rfl, c6, line7, fun p1 n1 => ⟨line1, fun p2 n2 => ⟨p2, 8, _, rfl, rfl, upd_same, by decide, by decide, Nat.le_of_ble_eq_true rfl, fun p3 n3 => ⟨p1, p3, _, _, rfl, rfl, same_new n3 _ _ (same_new n2 _ _ upd_same), upd_same, Nat.le_of_ble_eq_true rfl, fun p4 n4 => ?_⟩⟩⟩⟩
    have sA := (((same_new (o := .lst [.int 11, .int 26, .int 27, .int 40, .int ((10 : Int) ^ (6 : Int).toNat), .int 8, .int 4]) n1).trans (same_new (o := .lst [.int 64]) n2)).trans (same_new n3)).trans (same_new (o := .lst (sizes.map V.int)) n4)
    refine ⟨_, rfl, _, rfl, n, p4, sizes, rfl, SqL.of upd_same, (by decide), sizes_ok, fun t xd ds n2 H1 s1 et exd hb => ?_⟩
    have s1 := sA.trans s1
    clear sA
    obtain ⟨d0, d1, d2, d3, d4, d5, d6, e0, e1, e2, e3, e4, e5, e6, e7, rfl, b0, b1, b2, b4, b5, b6⟩ := fifteen hb
    refine ⟨t, _, rfl, SqT.of et, rfl, _, _, rfl, _, _, rfl, rfl, ?_⟩
    have low := SqL.of (K := K) exd
    obtain ⟨c, hc, ec⟩ := low_at b1.1 b1.2
    obtain ⟨m2, em2⟩ := Int.eq_ofNat_of_zero_le b2.1
    subst em2
    have z1 := cutS_from sLow m2
    have z2 := cutS_to (cutS sLow (some (m2 : Int)) none) 1
    have hz1 : (cutS sLow (some (m2 : Int)) none).length ≤ 26 := by rw [TL.len_tl, z1, List.length_drop, ← TL.len_tl, low_len]; omega
    have hz2 : (cutS (cutS sLow (some (m2 : Int)) none) none (some ((1 : Nat) : Int))).length ≤ 1 := by rw [TL.len_tl, z2, List.length_take]; omega
    have m4 := numL_len2 hk
    have m3 : (strI (k : Int)).length = (TL.numL k).length := by rw [TL.len_tl, tl_strI]
    refine ⟨_, rfl, _, rfl, xd, _, _, _, rfl, rfl, low, at_ints (i := 1) rfl, sLow, _, c, rfl, rfl, by rw [low_len, sizeLine_eq]; omega, ec, ?_⟩
    refine ⟨_, rfl, _, rfl, xd, _, _, _, rfl, rfl, low, at_ints (i := 2) rfl, _, rfl, sLow, rfl, by rw [low_len, sizeLine_eq]; omega, 1, rfl, _, rfl, by rw [sizeLine_eq]; omega, _, _, rfl, rfl, ?_, _, rfl, _, rfl, small_log (n := 0) (by omega), _, _, rfl, rfl, ?_, ?_⟩
    · rw [sizeLine_eq]
      show 1 + (cutS (cutS sLow (some (m2 : Int)) none) none (some ((1 : Nat) : Int))).length ≤ _
      omega
    · have e9 : ((⟨#[c]⟩ : Str) ++ cutS (cutS sLow (some (m2 : Int)) none) none (some ((1 : Nat) : Int))).length = 1 + (cutS (cutS sLow (some (m2 : Int)) none) none (some ((1 : Nat) : Int))).length := by
        rw [TL.len_tl, TL.tl_append, List.length_append, ← TL.len_tl, ← TL.len_tl]
        rfl
      show ((⟨#[c]⟩ : Str) ++ cutS (cutS sLow (some (m2 : Int)) none) none (some ((1 : Nat) : Int))).length + (strI (k : Int)).length ≤ _
      rw [e9, sizeLine_eq]
      omega
    have hn : isName (((⟨#[c]⟩ : Str) ++ cutS (cutS sLow (some (m2 : Int)) none) none (some ((1 : Nat) : Int))) ++ strI (k : Int)) = true ∧ (TL.tl (((⟨#[c]⟩ : Str) ++ cutS (cutS sLow (some (m2 : Int)) none) none (some ((1 : Nat) : Int))) ++ strI (k : Int))).filter isFig = TL.numL k := by
      refine name_ok (a := c :: TL.tl (cutS (cutS sLow (some (m2 : Int)) none) none (some ((1 : Nat) : Int)))) (b := []) ?_ (by simp) ?_ rfl ?_ hk
      · rw [TL.tl_append, TL.tl_append, tl_strI, List.append_nil]
        rfl
      · rw [List.all_cons, hc, z2, z1]
        exact List.all_eq_true.mpr fun x hx => List.all_eq_true.mp low_all x (List.mem_of_mem_drop (List.mem_of_mem_take hx))
      · have := hz2
        rw [TL.len_tl] at this
        simp at this ⊢
        omega
    refine ⟨_, rfl, line0, fun pe ne => ⟨aa, pe, _, rfl, rfl, (same_new ne).seq (s1.seq hA), SqL.of upd_same, _, rfl, ?_⟩⟩
    have s2 := s1.trans (same_new (o := .lst []) ne)
    have hA2 := s2.seq hA
    have ex2 := same_new (o := .lst []) ne _ _ exd
    generalize upd H1 pe (.lst []) = H2 at s2 hA2 ex2
    refine ite2 (fun h => iteT ?in1) (fun h => ⟨_, rfl, xd, _, _, _, rfl, rfl, SqL.of ex2, at_ints (i := 0) rfl, rfl, _, rfl, ite2 (fun _ => ?in2) (fun hd0 => ?rest)⟩)
    case rest =>
      have hd0 : 1 ≤ d0 := by
        have : d0 ≠ 0 := fun x => hd0 (by rw [x]; exact decide_eq_true rfl)
        omega
      have hpos : 0 < above.length := by
        cases above with
        | nil => exact absurd rfl h
        | cons a r => exact Nat.succ_pos _
      have ecut : cutV ([d0, d1, (m2 : Int), d3, d4, d5, d6, e0, e1, e2, e3, e4, e5, e6, e7].map V.int) (some (7 : Int)) none = [e0, e1, e2, e3, e4, e5, e6, e7].map V.int := cutV_from _ 7
      refine ⟨_, rfl, 7, rfl, xd, _, rfl, SqL.of ex2, fun p2 np2 => ?_⟩
      rw [ecut]
      have s3 := s2.trans (same_new (o := .lst ([e0, e1, e2, e3, e4, e5, e6, e7].map V.int)) np2)
      have ex3 := same_new (o := .lst ([e0, e1, e2, e3, e4, e5, e6, e7].map V.int)) np2 _ _ ex2
      have hA3 := (same_new (o := .lst ([e0, e1, e2, e3, e4, e5, e6, e7].map V.int)) np2).seq hA2
      have S3 : upd H2 p2 (.lst ([e0, e1, e2, e3, e4, e5, e6, e7].map V.int)) p2 = some (.lst ([e0, e1, e2, e3, e4, e5, e6, e7].map V.int)) := upd_same
      generalize upd H2 p2 (.lst ([e0, e1, e2, e3, e4, e5, e6, e7].map V.int)) = H3 at s3 ex3 hA3 S3
      refine ⟨p2, rfl, ⟨_, SqL.of S3⟩, fun D nD => lc_it (walk_list (xs := [e0, e1, e2, e3, e4, e5, e6, e7].map V.int)) (fun i H' => ∃ fs : List Str, fs.length = i ∧ (∀ f ∈ fs, f ∈ above) ∧ Same H3 H' ∧ H' D = some (.lst (fs.map V.str))) ⟨[], rfl, nil_all, same_new nD, upd_same⟩
        (fun _ _ _ hP => by obtain ⟨_, _, _, e, _⟩ := hP; exact SqL.of (e _ _ S3)) (fun i y H4 H5 hi hP hY => ?_) (fun H4 hP => ?_)⟩
      · obtain ⟨fs, hl, hin, s4, g4⟩ := hP
        obtain ⟨rfl, hy⟩ := hY
        rw [List.getElem?_map] at hy
        obtain ⟨yv, rfl⟩ : ∃ yv : Int, y = V.int yv := by
          cases e : [e0, e1, e2, e3, e4, e5, e6, e7][i]? with
          | none => rw [e] at hy; cases hy
          | some z => rw [e] at hy; exact ⟨z, (Option.some.inj hy).symm⟩
        have hi8 : i < 8 := hi
        have m0 := Int.emod_nonneg yv (b := (above.length : Int)) (by omega)
        have m1 := Int.emod_lt_of_pos yv (b := (above.length : Int)) (by omega)
        obtain ⟨f, hf, e⟩ := at_memS m0 m1
        have hl2 : (above.map V.str).length = above.length := List.length_map _
        rw [← hl2] at e
        refine ⟨rfl, ⟨_, rfl, _, rfl, _, rfl, aa, _, rfl, .inl (s4.seq hA3), _, _, rfl, rfl, md (by rw [hl2]; omega), aa, _, _, _, rfl, rfl, s4.seq hA3, e, _, g4, by rw [List.length_map, sizeLine_eq]; omega, fs ++ [f], by simp [hl], fun g hg => ?_, same_put s4 nD, ?_⟩⟩
        · rcases List.mem_append.mp hg with hg | hg
          · exact hin g hg
          · rw [List.mem_singleton.mp hg]; exact hf
        · rw [upd_same, List.map_append]
          rfl
      · obtain ⟨fs, hl, hin, s4, g4⟩ := hP
        obtain ⟨f0, f1, f2, f3, f4, f5, f6, f7, rfl⟩ := eight (fs := fs) hl
        have h0 : f0 ∈ above := hin f0 (by simp)
        have h1 : f1 ∈ above := hin f1 (by simp)
        have ex4 := s4 _ _ ex3
        have s5 := s3.trans s4
        obtain ⟨W, hW⟩ : ∃ W, W = 1 + d4 := ⟨_, rfl⟩
        have w0 : 1 ≤ W ∧ W ≤ 1000000 := by omega
        refine ⟨_, rfl, xd, _, _, _, rfl, rfl, SqL.of ex4, at_ints (i := 4) rfl, _, _, rfl, rfl, ?_⟩
        have eW : (fun i j => V.int (i + j)) 1 d4 = V.int W := congrArg V.int hW.symm
        rw [eW]
        refine ⟨(by show 4 ≤ sizeLine; decide), fun p3 n3 => ?_⟩
        obtain ⟨fo, hfo, efo⟩ := at_memS (ws := folds) (k := d6) b6.1 b6.2
        rw [fold_lst]
        have ex5 := same_new (o := .lst (folds.map V.str)) n3 _ _ ex4
        have g5 := same_new (o := .lst (folds.map V.str)) n3 _ _ g4
        have s6 := s5.trans (same_new (o := .lst (folds.map V.str)) n3)
        refine ⟨_, rfl, xd, _, _, _, rfl, rfl, SqL.of ex5, at_ints (i := 6) rfl, p3, _, _, _, rfl, rfl, SqL.of upd_same, efo, ?_⟩
        generalize upd H4 p3 (.lst (folds.map V.str)) = H5 at s6 ex5 g5
        refine ⟨line10, fun p4 n4 => ?_⟩
        obtain ⟨kd, hkd, ekd⟩ := at_memS (ws := kinds) (k := d0 - 1) (by omega) (by show d0 - 1 < (10 : Int); omega)
        rw [kinds_lst]
        have ex6 := same_new (o := .lst (kinds.map V.str)) n4 _ _ ex5
        have g6 := same_new (o := .lst (kinds.map V.str)) n4 _ _ g5
        have s7 := s6.trans (same_new (o := .lst (kinds.map V.str)) n4)
        refine ⟨_, rfl, xd, _, _, _, rfl, rfl, SqL.of ex6, at_ints (i := 0) rfl, _, _, rfl, rfl, p4, _, _, _, rfl, rfl, SqL.of upd_same, ekd, line0, fun p5 n5 => ?_⟩
        have ex7 := same_new (o := .tup []) n5 _ _ ex6
        have g7 := same_new (o := .tup []) n5 _ _ g6
        have s8 := s7.trans (same_new (o := .tup []) n5)
        have er : upd (upd H5 p4 (.lst (kinds.map V.str))) p5 (.tup []) p5 = some (.tup []) := upd_same
        generalize upd (upd H5 p4 (.lst (kinds.map V.str))) p5 (.tup []) = H6 at s8 ex7 g7 er
        exact hM kd _ fo f0 f1 f2 f3 f4 f5 f6 f7 p5 xd D d0 d1 m2 d3 d4 d5 d6 e0 e1 e2 e3 e4 e5 e6 e7 n2 W _ _ _ _ _ _ _ s8 er ex7 g7 hn hin hkd hfo w0 b4 b5
    all_goals
      refine ⟨_, rfl, line0, fun p1 n1 => ⟨line0, fun p2 n2 => ⟨line4, fun p n => ?_⟩⟩⟩
      exact q p _ _ (((s2.trans (same_new n1)).trans (same_new n2)).trans (same_new n)) (row_made (fs := []) (rest := []) n (same_new n2 _ _ upd_same) upd_same) (good_in hn)
end
end K19

set_option Elab.async false
set_option linter.all false
set_option maxRecDepth 100000
set_option maxHeartbeats 4000000
/-! # C6: _law_rows -/
namespace K19
open PySem PySem.Spec PyProof.Rows L2
theorem outless_len (rs : List Row) : (outless rs).length ≤ rs.length := by
  unfold outless
  rw [List.length_map]
  exact List.length_filter_le _ _
section
variable {P : Program} {w : World} {K : PySem.W.Frag} {mg : Str → Option Value} {base : Heap}
def spLrows (K : PySem.W.Frag) : Sp := fun vs H Q _ => ∃ (c : Addr) (b : Bool) (ns : List Int), vs = [.ref c, .bl b] ∧ SqL K H c (ns.map V.int) ∧ ns.length ≤ 60 ∧
  ∀ (p : Addr) (as : List Addr) (rs : List Row) (H' : Hp), Same H H' → H' p = some (.lst (as.map V.ref)) → RowsAt H' as rs → RowsOk rs → rs.length = ns.length → Q (.ref p) H'
theorem sc_law_rows : FnScope ["_law_cells_here", "_law_by_digits", "_law_rows_here", "_law_above", "_law_k", "_law_row_here"] ["_law_cells_here", "_law_by_digits"] (defScope (topS 53)) := ⟨rfl, rfl, rfl, by decide +kernel, rfl, by decide +kernel, by decide +kernel⟩
theorem D_law_rows (T : Txt K w mg) : Def P w K mg base CX0 4 "_law_rows" ["_law_cells_here", "_law_by_digits"] (spLrows K) := by
  have D_law_drawn : Def P w K mg base CX0 1 "_law_drawn" ["_law_number", "_law_many"] spDrawn := D_law_drawn T
  have D_law_row : Def P w K mg base CX0 3 "_law_row" ["_law_k", "_law_xs", "_law_above"] (spLrow K) := D_law_row T
  have D_law_row_from : Def P w K mg base CX0 3 "_law_row_from" ["_law_k", "_law_number", "_law_above"] (spLrowF K) := D_law_row_from T
  refine Def.of (T.fl ("_law_rows", 53) (by decide +kernel)) sc_law_rows (fun _ _ _ _ _ _ us hl => match us, hl with | [_, _], _ => rfl) (fun vs H Q E h => ?_) (fun f cdv A outer s H vs Q E hr h => ?_)
  · obtain ⟨c, b, ns, rfl, _⟩ := h
    rfl
  · obtain ⟨c, b, ns, rfl, hC, h60, q⟩ := h
    have fLen := T.free "len" (by decide +kernel)
    have fRange := T.free "range" (by decide +kernel)
    have hr1 := hr.mono (j := 1) (by decide)
    refine ⟨_, PSs.nox ((pss_cons (ps_set (i := 2) sc_law_rows.nd rfl (.inl rfl) (pe_lst pa_nil))
      (pss_cons (ps_set (i := 3) sc_law_rows.nd rfl (.inl rfl) (pe_lst pa_nil))
      (pss_cons (ps_for PassesOwn.never rfl (pi_range1 (by rfl) fRange (pa_cons (pe_callB call_len_seq (by rfl) fLen PySem.boot_len (pa_cons (pv 0) pa_nil)) pa_nil)) (pg_name (i := 4) sc_law_rows.nd rfl (.inl rfl))
          (pss_cons (ps_if (pt_val (pv 1))
              (pss_one (ps_set (i := 5) sc_law_rows.nd rfl (.inl rfl) (pe_d D_law_row_from hr (pa_cons (pv 4) (pa_cons (pe_ix ix_list (pv 0) (pv 4) (fun _ _ => rfl)) (pa_cons (pv 3) pa_nil))))))
              (pss_one (ps_set (i := 5) sc_law_rows.nd rfl (.inl rfl) (pe_d D_law_row hr (pa_cons (pv 4) (pa_cons (pe_d D_law_drawn hr1 (pa_cons (pe_op op_add (pe_ix ix_list (pv 0) (pv 4) (fun _ _ => rfl)) (pe_op op_mul pe_int (pv 4))) (pa_cons pe_int pa_nil))) (pa_cons (pv 3) pa_nil)))))))
          (pss_cons (ps_expr (pe_bm PySem.F.plainAttrs_list PySem.F.slot_list_append PySem.F.type_list_append mt_append (pv 2) (pa_cons (pv 5) pa_nil)))
          (pss_one (ps_if (pt_cmpR op_ne (pe_ix ix_tup (pv 5) pe_int (fun _ _ => rfl)) pe_str (nomark _))
              (pss_one (ps_expr (pe_bm PySem.F.plainAttrs_list PySem.F.slot_list_append PySem.F.type_list_append mt_append (pv 3) (pa_cons (pe_ix ix_tup (pv 5) pe_int (fun _ _ => rfl)) pa_nil)))) pss_nil)))))
      (pss_one (ps_ret (pv 2))))))), ?_⟩
    refine ⟨line0, fun rw_ nrw => ?_⟩
    refine ⟨line0, fun ab nab => ?_⟩
    have nab0 : H ab = none := (same_new nrw).free nab
    have hne : rw_ ≠ ab := fun e => by rw [← e, upd_same] at nab; cases nab
    have s0 := (same_new (o := .lst []) nrw).trans (same_new (o := .lst []) nab)
    have hl : (ns.map V.int).length = ns.length := List.length_map _
    refine ⟨_, rfl, c, _, rfl, .inl (s0.seq hC), _, rfl, by rw [hl]; omega, by rw [hl]; omega, for_it walk_range (fun i σ H' => ∃ (as : List Addr) (rs : List Row) (y4 y5 : Option V), σ = [some (.ref c), some (.bl b), some (.ref rw_), some (.ref ab), y4, y5] ∧ Same H H' ∧ H' rw_ = some (.lst (as.map V.ref)) ∧
      RowsAt H' as rs ∧ RowsOk rs ∧ rs.length = i ∧ H' ab = some (.lst ((outless rs).map V.str))) ⟨[], [], none, none, rfl, s0, same_new nab _ _ upd_same, RowsAt.nil, fun k r e => (by simp at e), rfl, upd_same⟩ (fun _ _ _ _ _ => trivial) (fun i x σ H1 H2 hi hP hY => ?_) (fun σ H1 hP => ?_)⟩
    · obtain ⟨as, rs, y4, y5, rfl, s1, e1, R1, ok, hrl, e2⟩ := hP
      obtain ⟨rfl, hx⟩ := hY
      have hx : x = V.int (i : Int) := hx.trans (congrArg V.int (Int.zero_add _))
      subst hx
      have hi2 : i < ns.length := by rw [hl] at hi; omega
      have eat := at_ints (List.getElem?_eq_getElem hi2)
      have hol := outless_len rs
      have hk : i < 100 := by omega
      have fin : ∀ (p : Addr) (r : Row) (H3 : Hp), Same H2 H3 → RowAt H3 p r → GoodRow i (outless rs) r →
          tBM K "list" rAppend (tVar 2) (tCons (tVar 5) tNil) [some (.ref c), some (.bl b), some (.ref rw_), some (.ref ab), some (.int (i : Int)), some (.ref p)] H3 (fun _ H4 =>
            (tIfS (tTest (tOp rNe (tOp (rIxT K) (tVar 5) (tC (.int 0))) (tC (.str sOut)))) (tDrop (tBM K "list" rAppend (tVar 3) (tCons (tOp (rIxT K) (tVar 5) (tC (.int 1))) tNil))) tNext)
              { nx := fun σ' H' => ∃ (as : List Addr) (rs : List Row) (y4 y5 : Option V), σ' = [some (.ref c), some (.bl b), some (.ref rw_), some (.ref ab), y4, y5] ∧ Same H H' ∧ H' rw_ = some (.lst (as.map V.ref)) ∧ RowsAt H' as rs ∧ RowsOk rs ∧ rs.length = i + 1 ∧ H' ab = some (.lst ((outless rs).map V.str)), rt := Q }
              [some (.ref c), some (.bl b), some (.ref rw_), some (.ref ab), some (.int (i : Int)), some (.ref p)] H4) := by
        intro p r H3 s3 R g
        have e1 := s3 _ _ e1
        have e2 := s3 _ _ e2
        have hle : (as.map V.ref).length < sizeLine := by rw [List.length_map, R1.1, sizeLine_eq]; omega
        have hlo : ((outless rs).map V.str).length < sizeLine := by rw [List.length_map, sizeLine_eq]; omega
        refine ⟨_, rfl, .inl ⟨rfl, _, SqL.of e1⟩, _, rfl, rw_, _, _, rfl, rfl, e1, hle, ?_⟩
        have R2 := R.put (o := .lst (as.map V.ref ++ [V.ref p])) e1 (lst_tup _)
        have RS := ((R1.mono s3).snoc R).put (o := .lst (as.map V.ref ++ [V.ref p])) e1 (lst_tup _)
        have f2 : upd H3 rw_ (.lst (as.map V.ref ++ [V.ref p])) ab = some (.lst ((outless rs).map V.str)) := by rw [upd_ne hne.symm]; exact e2
        have f1 : upd H3 rw_ (.lst (as.map V.ref ++ [V.ref p])) rw_ = some (.lst ((as ++ [p]).map V.ref)) := by rw [upd_same, List.map_append]; rfl
        have t3 := same_put (o := .lst (as.map V.ref ++ [V.ref p])) (s1.trans s3) nrw
        have g2 : GoodRow rs.length (outless rs) r := by rw [hrl]; exact g
        generalize upd H3 rw_ (.lst (as.map V.ref ++ [V.ref p])) = H4 at R2 RS f1 f2 t3
        obtain ⟨pa, pb, E1, E2, E3⟩ := id R2
        refine ⟨_, rfl, p, _, 0, _, rfl, rfl, SqT.of E1, rfl, rfl, _, rfl, ite2 (fun h => ?_) (fun h => ?_)⟩
        · refine ⟨_, rfl, .inl ⟨rfl, _, SqL.of f2⟩, _, rfl, p, _, 1, _, rfl, rfl, SqT.of E1, rfl, ab, _, _, rfl, rfl, f2, hlo, ?_⟩
          refine ⟨as ++ [p], rs ++ [r], _, _, rfl, same_put t3 nab0, by rw [upd_ne hne]; exact f1, RS.put f2 (lst_tup _), ok.snoc g2, by simp [hrl], ?_⟩
          rw [upd_same, outless_snoc]
          have hw : (r.word != Str.ofString "out") = true := by
            rw [bne_iff_ne]
            intro e
            rw [e] at h
            simp at h
          rw [if_pos hw, List.map_append]
          rfl
        · refine ⟨as ++ [p], rs ++ [r], _, _, rfl, t3, f1, RS, ok.snoc g2, by simp [hrl], ?_⟩
          rw [outless_snoc]
          have hw : ¬ (r.word != Str.ofString "out") = true := fun e => h (by
            have := bne_iff_ne.mp e
            rw [eqF this]
            rfl)
          rw [if_neg hw, List.append_nil]
          exact f2
      cases b with
      | true =>
        refine ⟨_, rfl, _, rfl, iteT ⟨_, rfl, _, rfl, _, rfl, c, _, _, _, rfl, rfl, s1.seq hC, eat, _, rfl, i, _, ab, _, rfl, hk, SqL.of e2, by omega, fun p r H3 s3 R g => ?_⟩⟩
        exact fin p r H3 s3 R g
      | false =>
        refine ⟨_, rfl, _, rfl, iteF ⟨_, rfl, _, rfl, _, rfl, c, _, _, _, rfl, rfl, s1.seq hC, eat, _, rfl, _, _, rfl, rfl, cm_l (by decide) (by decide), _, _, rfl, rfl, _, _, rfl, by decide, by decide, fun px xs H5 s5 e5 hxl _ => ?_⟩⟩
        refine ⟨_, rfl, i, px, ab, xs, _, rfl, hk, SqL.of e5, hxl, SqL.of (s5 _ _ e2), by omega, fun p r H3 s3 R g => ?_⟩
        exact fin p r H3 (s5.trans s3) R g
    · obtain ⟨as, rs, y4, y5, rfl, s1, e1, R1, ok, hrl, e2⟩ := hP
      exact ⟨_, rfl, q rw_ as rs H1 s1 e1 R1 ok (by rw [hrl]; rw [hl]; omega)⟩
end
end K19

set_option Elab.async false
set_option linter.all false
set_option maxRecDepth 100000
set_option maxHeartbeats 4000000
/-! # C7: _law_sign_in -/
namespace K19
open PySem PySem.Spec PyProof.Rows L2
abbrev sSigns : Str := Str.ofString " ab in ot vw 0189-+<=Z."
theorem signs_len : sSigns.length = 23 := by decide +kernel
theorem signs_nl : ∀ c ∈ TL.tl sSigns, c ≠ 10 := by decide +kernel
/-- a line changed by a sign at most -/
def Near (l l' : Str) : Prop := ∀ m b, LnOk m b l → LnOk (m + 1) (b + 1) l'
section
variable {P : Program} {w : World} {K : PySem.W.Frag} {mg : Str → Option Value} {base : Heap}
def spSign : Sp := fun vs H Q _ => ∃ (l : Str) (x way : Int), vs = [.str l, .int x, .int way] ∧ l.length ≤ 900000 ∧ ∀ (l' : Str) (H' : Hp), Same H H' → Near l l' → Q (.str l') H'
theorem sc_law_sign_in : FnScope ["_law_line_here", "_law_x", "_law_way", "_law_at"] ["_law_line_here", "_law_x", "_law_way"] (defScope (topS 55)) := ⟨rfl, rfl, rfl, by decide +kernel, rfl, by decide +kernel, by decide +kernel⟩
theorem D_law_sign_in (T : Txt K w mg) : Def P w K mg base CX0 1 "_law_sign_in" ["_law_line_here", "_law_x", "_law_way"] spSign := by
  refine Def.of (T.fl ("_law_sign_in", 55) (by decide +kernel)) sc_law_sign_in (fun _ _ _ _ _ _ us hl => match us, hl with | [_, _, _], _ => rfl) (fun vs H Q E h => ?_) (fun f cdv A outer s H vs Q E hr h => ?_)
  · obtain ⟨l, x, way, rfl, _⟩ := h
    rfl
  · obtain ⟨l, x, way, rfl, hl, q⟩ := h
    have fLen := T.free "len" (by decide +kernel)
    have hls : l.length ≤ sizeLine := by rw [sizeLine_eq]; omega
    refine ⟨_, PSs.nox ((pss_cons (ps_set (i := 3) sc_law_sign_in.nd rfl (.inl rfl) (pe_ix ix_list (pe_lst (pa_cons (pe_op op_mod (pv 1) (pe_op op_add (pe_callB call_len_str (by rfl) fLen PySem.boot_len (pa_cons (pv 0) pa_nil)) pe_int)) (pa_cons (pe_op op_mod (pv 1) (pe_op op_add (pe_callB call_len_str (by rfl) fLen PySem.boot_len (pa_cons (pv 0) pa_nil)) pe_int)) (pa_cons (pe_callB call_len_str (by rfl) fLen PySem.boot_len (pa_cons (pv 0) pa_nil)) (pa_cons pe_int pa_nil))))) (pe_op op_mod (pe_op op_fdiv (pv 1) pe_int) pe_int) (fun _ _ => rfl)))
      (pss_cons (ps_if (pt_cmpR op_eq (pv 2) pe_int (nomark _))
          (pss_one (ps_ret (pe_op op_add_str (pe_slice sl_str (pv 0) po_none (po_some (pv 3))) (pe_slice sl_str (pv 0) (po_some (pe_op op_add (pv 3) pe_int)) po_none)))) pss_nil)
      (pss_one (ps_ret (pe_op op_add_str (pe_op op_add_str (pe_slice sl_str (pv 0) po_none (po_some (pv 3))) (pe_ix ix_str pe_str (pe_op op_mod (pe_op op_fdiv (pv 1) pe_int) pe_int) (fun _ _ => rfl))) (pe_slice sl_str (pv 0) (po_some (pv 3)) po_none))))))), ?_⟩
    refine ⟨_, rfl, _, rfl, l, rfl, hls, _, _, rfl, rfl, _, _, rfl, rfl, md (by omega), _, rfl, _, rfl, l, rfl, hls, _, _, rfl, rfl, _, _, rfl, rfl, md (by omega), _, rfl, l, rfl, hls, (by show 4 ≤ sizeLine; decide), fun p np => ?_⟩
    have a0 := Int.emod_nonneg x (b := (l.length : Int) + 1) (by omega)
    have a1 := Int.emod_lt_of_pos x (b := (l.length : Int) + 1) (by omega)
    obtain ⟨i, hi, e⟩ := at_memI (ns := [x % ((l.length : Int) + 1), x % ((l.length : Int) + 1), (l.length : Int), 0]) (k := x / 943 % 4) (Int.emod_nonneg _ (by decide)) (Int.emod_lt_of_pos _ (by decide))
    have hi2 : 0 ≤ i ∧ i ≤ (l.length : Int) := by
      simp only [List.mem_cons, List.not_mem_nil, or_false] at hi
      omega
    refine ⟨_, rfl, _, _, rfl, rfl, cd (by decide) (by decide), _, _, rfl, rfl, md (by decide), p, _, _, _, rfl, rfl, SqL.of upd_same, e, ?_⟩
    have sp := same_new (o := .lst [.int (x % ((l.length : Int) + 1)), .int (x % ((l.length : Int) + 1)), .int (l.length : Int), .int 0]) np
    obtain ⟨n, rfl⟩ := Int.eq_ofNat_of_zero_le hi2.1
    have z1 := cutS_to l n
    have hz1 : (cutS l none (some (n : Int))).length ≤ l.length := by rw [TL.len_tl, z1, List.length_take, ← TL.len_tl]; omega
    refine ⟨_, rfl, rfl, _, rfl, ite2 (fun _ => ?_) (fun _ => ?_)⟩
    · have z2 := cutS_from l (n + 1)
      have hz2 : (cutS l (some ((n + 1 : Nat) : Int)) none).length ≤ l.length := by rw [TL.len_tl, z2, List.length_drop, ← TL.len_tl]; omega
      refine ⟨_, rfl, _, rfl, _, rfl, l, rfl, hls, _, rfl, _, rfl, _, _, rfl, rfl, _, rfl, l, rfl, hls, _, _, rfl, rfl, ?_, q _ _ sp fun m b ok => ?_⟩
      · show (cutS l none (some (n : Int))).length + (cutS l (some ((n + 1 : Nat) : Int)) none).length ≤ _
        rw [sizeLine_eq]
        omega
      · refine (ok.out (i := n) (j := n + 1) ?_ (by omega)).mono (by omega) (by omega)
        rw [TL.tl_append, z1]
        exact congrArg _ z2
    · have z2 := cutS_from l n
      have hz2 : (cutS l (some (n : Int)) none).length ≤ l.length := by rw [TL.len_tl, z2, List.length_drop, ← TL.len_tl]; omega
      obtain ⟨c, hc, ec⟩ := tl_at (L := sSigns) (k := x / 41 % 23) (Int.emod_nonneg _ (by decide)) (by
        have := Int.emod_lt_of_pos (x / 41) (b := 23) (by decide)
        have e := signs_len
        omega)
      have z3 : TL.tl (cutS l none (some (n : Int)) ++ (⟨#[c]⟩ : Str)) = (TL.tl l).take n ++ [c] := by rw [TL.tl_append, z1]
      have hz3 : (cutS l none (some (n : Int)) ++ (⟨#[c]⟩ : Str)).length ≤ l.length + 1 := by
        rw [TL.len_tl, z3, List.length_append, List.length_take, List.length_singleton, ← TL.len_tl]
        omega
      refine ⟨_, rfl, _, rfl, _, rfl, l, rfl, hls, _, rfl, _, _, rfl, rfl, cd (by decide) (by decide), _, _, rfl, rfl, md (by decide), sSigns, _, c, rfl, rfl, by rw [signs_len, sizeLine_eq]; omega, ec, _, _, rfl, rfl, ?_, _, rfl, _, rfl, _, rfl, l, rfl, hls, _, _, rfl, rfl, ?_, q _ _ sp fun m b ok => ?_⟩
      · show (cutS l none (some (n : Int))).length + 1 ≤ _
        rw [sizeLine_eq]
        omega
      · show (cutS l none (some (n : Int)) ++ (⟨#[c]⟩ : Str)).length + _ ≤ _
        rw [sizeLine_eq]
        omega
      · refine ok.ins (i := n) (c := c) ?_ (signs_nl c hc)
        rw [TL.tl_append, z3, z2, List.append_assoc]
        rfl
end
end K19

set_option Elab.async false
set_option linter.all false
set_option maxRecDepth 100000
set_option maxHeartbeats 4000000
/-! # C8: _law_changed -/
namespace K19
open PySem PySem.Spec PyProof.Rows L2
theorem ixN_nat {n i : Nat} (h : i < n) : ixN n (i : Int) = some i := by
  unfold ixN
  rw [if_pos (by omega), if_pos (by omega)]
  simp
theorem set_strs (ws : List Str) (i : Nat) (w : Str) : (ws.map V.str).set i (.str w) = (ws.set i w).map V.str := by rw [List.map_set]
theorem erase_strs : ∀ (ws : List Str) (i : Nat), (ws.map V.str).eraseIdx i = (ws.eraseIdx i).map V.str
  | [], _ => rfl
  | _ :: _, 0 => rfl
  | a :: r, i + 1 => by
    show V.str a :: (r.map V.str).eraseIdx i = V.str a :: (r.eraseIdx i).map V.str
    rw [erase_strs r i]
/-- lines of a size -/
def Lines (m b : Nat) (ls : List Str) : Prop := ∀ l ∈ ls, LnOk m b l
theorem Lines.set {m b i : Nat} {ls : List Str} {l : Str} (h : Lines m b ls) (g : LnOk m b l) : Lines m b (ls.set i l) := fun x hx => by
  rcases List.mem_or_eq_of_mem_set hx with hx | hx
  · exact h x hx
  · rw [hx]; exact g
theorem Lines.mono {m b m' b' : Nat} {ls : List Str} (h : Lines m b ls) (h1 : m ≤ m') (h2 : b ≤ b') : Lines m' b' ls := fun l hl => (h l hl).mono h1 h2
theorem cut_2c (xs : List V) : cutV xs none (some (2 : Int)) = xs.take 2 := cutV_to xs 2
theorem cut_3c (xs : List V) : cutV xs (some (3 : Int)) none = xs.drop 3 := cutV_from xs 3
theorem cut_12 (xs : List V) : cutV xs (some (1 : Int)) (some (2 : Int)) = (xs.take 2).drop 1 := cutV_mid xs 1 2
section
variable {P : Program} {w : World} {K : PySem.W.Frag} {mg : Str → Option Value} {base : Heap}
def spLch (K : PySem.W.Frag) : Sp := fun vs H Q _ => ∃ (p : Addr) (x y : Int) (ls : List Str) (m b : Nat), vs = [.ref p, .int x, .int y] ∧ SqL K H p (ls.map V.str) ∧ 1 ≤ ls.length ∧ ls.length ≤ 100 ∧ Lines m b ls ∧ m ≤ 100000 ∧ b ≤ 55 ∧
  ∀ (p' : Addr) (ls' : List Str) (H' : Hp), Same H H' → H' p' = some (.lst (ls'.map V.str)) → 1 ≤ ls'.length → ls'.length ≤ ls.length + 1 → Lines (2 * m + 1) (b + 1) ls' → Q (.ref p') H'
theorem sc_law_changed : FnScope ["_law_lines", "_law_x", "_law_y", "_law_found", "_law_at", "_law_other", "_law_way", "_law_words", "_law_some"] ["_law_lines", "_law_x", "_law_y"] (defScope (topS 56)) := ⟨rfl, rfl, rfl, by decide +kernel, rfl, by decide +kernel, by decide +kernel⟩
theorem D_law_changed (T : Txt K w mg) : Def P w K mg base CX0 2 "_law_changed" ["_law_lines", "_law_x", "_law_y"] (spLch K) := by
  have D_law_sign_in : Def P w K mg base CX0 1 "_law_sign_in" ["_law_line_here", "_law_x", "_law_way"] spSign := D_law_sign_in T
  refine Def.of (T.fl ("_law_changed", 56) (by decide +kernel)) sc_law_changed (fun _ _ _ _ _ _ us hl => match us, hl with | [_, _, _], _ => rfl) (fun vs H Q E h => ?_) (fun f cdv A outer s H vs Q E hr h => ?_)
  · obtain ⟨p, x, y, ls, m, b, rfl, _⟩ := h
    rfl
  · obtain ⟨p, x, y, ls, m, b, rfl, hS, hl1, hl2, hL, hm, hb, q⟩ := h
    have fLen := T.free "len" (by decide +kernel)
    have fList := T.free "list" (by decide +kernel)
    refine ⟨_, PSs.nox ((pss_cons (ps_set (i := 3) sc_law_changed.nd rfl (.inl rfl) (pe_callTy call_list_of (by rfl) fList (by decide +kernel) (pa_cons (pv 0) pa_nil)))
      (pss_cons (ps_set (i := 4) sc_law_changed.nd rfl (.inl rfl) (pe_op op_mod (pv 1) (pe_callB call_len_seq (by rfl) fLen PySem.boot_len (pa_cons (pv 3) pa_nil))))
      (pss_cons (ps_set (i := 5) sc_law_changed.nd rfl (.inl rfl) (pe_op op_mod (pv 2) (pe_callB call_len_seq (by rfl) fLen PySem.boot_len (pa_cons (pv 3) pa_nil))))
      (pss_cons (ps_set (i := 6) sc_law_changed.nd rfl (.inl rfl) (pe_op op_mod (pe_op op_fdiv (pv 1) pe_int) pe_int))
      (pss_cons (ps_if (pt_cmpR op_eq (pv 6) pe_int (nomark _))
          (pss_cons (ps_asg (pe_ix ix_list (pv 0) (pv 5) (fun _ _ => rfl)) (pg_sub (pv 3) (pv 4) set_list (fun _ => rfl)))
          (pss_one (ps_asg (pe_ix ix_list (pv 0) (pv 4) (fun _ _ => rfl)) (pg_sub (pv 3) (pv 5) set_list (fun _ => rfl)))))
          (pss_one (ps_if (pt_cmpR op_eq (pv 6) pe_int (nomark _))
              (pss_one (ps_expr (pe_bm PySem.F.plainAttrs_list PySem.F.slot_list_insert PySem.F.type_list_insert mt_insert (pv 3) (pa_cons (pv 5) (pa_cons (pe_ix ix_list (pv 0) (pv 4) (fun _ _ => rfl)) pa_nil)))))
              (pss_one (ps_if (PW.pt (pw_and (pt_cmpR op_eq (pv 6) pe_int (nomark _)) (pw_and1 (pt_cmpR op_gt (pe_callB call_len_seq (by rfl) fLen PySem.boot_len (pa_cons (pv 3) pa_nil)) pe_int (nomark _)))))
                  (pss_one (ps_expr (pe_bm PySem.F.plainAttrs_list PySem.F.slot_list_pop PySem.F.type_list_pop mt_popAt (pv 3) (pa_cons (pv 4) pa_nil))))
                  (pss_one (ps_if (pt_cmpR op_eq (pv 6) pe_int (nomark _))
                      (pss_cons (ps_set (i := 7) sc_law_changed.nd rfl (.inl rfl) (pe_split (pe_ix ix_list (pv 0) (pv 4) (fun _ _ => rfl)) pe_str))
                      (pss_cons (ps_set (i := 8) sc_law_changed.nd rfl (.inl rfl) (pe_split (pe_ix ix_list (pv 0) (pv 5) (fun _ _ => rfl)) pe_str))
                      (pss_cons (ps_asg (pe_ix ix_list (pv 8) (pe_op op_mod (pe_op op_fdiv (pv 2) pe_int) (pe_callB call_len_seq (by rfl) fLen PySem.boot_len (pa_cons (pv 8) pa_nil))) (fun _ _ => rfl)) (pg_sub (pv 7) (pe_op op_mod (pe_op op_fdiv (pv 2) pe_int) (pe_callB call_len_seq (by rfl) fLen PySem.boot_len (pa_cons (pv 7) pa_nil))) set_list (fun _ => rfl)))
                      (pss_one (ps_asg (pe_join pe_str (pv 7)) (pg_sub (pv 3) (pv 4) set_list (fun _ => rfl)))))))
                      (pss_one (ps_if (pt_cmpR op_eq (pv 6) pe_int (nomark _))
                          (pss_cons (ps_set (i := 7) sc_law_changed.nd rfl (.inl rfl) (pe_split (pe_ix ix_list (pv 0) (pv 4) (fun _ _ => rfl)) pe_str))
                          (pss_one (ps_asg (pe_join pe_str (pe_op op_cat (pe_op op_cat (pe_slice sl_list (pv 7) po_none (po_some pe_int)) (pe_slice sl_list (pe_split (pe_ix ix_list (pv 0) (pv 5) (fun _ _ => rfl)) pe_str) (po_some pe_int) (po_some pe_int))) (pe_slice sl_list (pv 7) (po_some pe_int) po_none))) (pg_sub (pv 3) (pv 4) set_list (fun _ => rfl)))))
                          (pss_one (ps_asg (pe_d D_law_sign_in hr (pa_cons (pe_ix ix_list (pv 0) (pv 4) (fun _ _ => rfl)) (pa_cons (pv 2) (pa_cons (pv 6) pa_nil)))) (pg_sub (pv 3) (pv 4) set_list (fun _ => rfl)))))))))))))
      (pss_one (ps_ret (pv 3))))))))), ?_⟩
    have hll : (ls.map V.str).length = ls.length := List.length_map _
    have i0 := Int.emod_nonneg x (b := ((ls.map V.str).length : Int)) (by omega)
    have i1 := Int.emod_lt_of_pos x (b := ((ls.map V.str).length : Int)) (by omega)
    have j0 := Int.emod_nonneg y (b := ((ls.map V.str).length : Int)) (by omega)
    have j1 := Int.emod_lt_of_pos y (b := ((ls.map V.str).length : Int)) (by omega)
    obtain ⟨i, ei⟩ := Int.eq_ofNat_of_zero_le i0
    obtain ⟨j, ej⟩ := Int.eq_ofNat_of_zero_le j0
    have hi : i < ls.length := by omega
    have hj : j < ls.length := by omega
    refine ⟨_, rfl, p, _, rfl, .inl hS, fun fl nfl => ?_⟩
    have s0 := same_new (o := .lst (ls.map V.str)) nfl
    have S0 := s0.seq hS
    have e0 : upd H fl (.lst (ls.map V.str)) fl = some (.lst (ls.map V.str)) := upd_same
    refine ⟨_, rfl, _, rfl, fl, _, rfl, .inl (SqL.of e0), _, _, rfl, rfl, md (by omega), ?_⟩
    have e3 : (fun i j => V.int (i % j)) x ((ls.map V.str).length : Int) = V.int (i : Int) := congrArg V.int ei
    rw [e3]
    refine ⟨_, rfl, _, rfl, fl, _, rfl, .inl (SqL.of e0), _, _, rfl, rfl, md (by omega), ?_⟩
    have e4 : (fun i j => V.int (i % j)) y ((ls.map V.str).length : Int) = V.int (j : Int) := congrArg V.int ej
    rw [e4]
    refine ⟨_, rfl, _, _, rfl, rfl, cd (by decide) (by decide), _, _, rfl, rfl, md (by decide), ?_⟩
    generalize upd H fl (.lst (ls.map V.str)) = H0 at s0 S0 e0
    have hi' : ls[i]? = some ls[i] := List.getElem?_eq_getElem hi
    have hj' : ls[j]? = some ls[j] := List.getElem?_eq_getElem hj
    have Li := hL _ (List.getElem_mem hi)
    have Lj := hL _ (List.getElem_mem hj)
    generalize ls[i] = li at hi' Li
    generalize ls[j] = lj at hj' Lj
    have ai := at_strs hi'
    have aj := at_strs hj'
    have up := hL.mono (m' := 2 * m + 1) (b' := b + 1) (by omega) (by omega)
    have hsz : (ls.map V.str).length < sizeLine := by rw [hll, sizeLine_eq]; omega
    have ixi : ixN (ls.map V.str).length (i : Int) = some i := ixN_nat (by omega)
    have ixj : ixN (ls.map V.str).length (j : Int) = some j := ixN_nat (by omega)
    have hli : li.length ≤ 100000 := Nat.le_trans Li.ln hm
    have hlj : lj.length ≤ 100000 := Nat.le_trans Lj.ln hm
    have wi : (words li).length ≤ 56 := by have := Li.words; omega
    have wj : (words lj).length ≤ 56 := by have := Lj.words; omega
    have e1B : sB.length = 1 := by decide +kernel
    have room : ∀ ys : List Str, (∀ w ∈ ys, w ∈ words li ∨ w ∈ words lj) → ys.length ≤ 60 → (ys.map (·.length)).sum + ys.length * sB.length ≤ 16777216 := fun ys h1 h2 => by
      have := sum_len (m := 100000) (ws := ys) fun w hw => by
        rcases h1 w hw with h | h
        · exact Nat.le_trans (word_len h) hli
        · exact Nat.le_trans (word_len h) hlj
      rw [e1B]
      have : ys.length * 100000 ≤ 60 * 100000 := Nat.mul_le_mul_right _ h2
      omega
    refine ⟨_, rfl, rfl, _, rfl, ite2 (fun _ => ?_) (fun _ => ⟨_, rfl, rfl, _, rfl, ite2 (fun _ => ?_) (fun _ => ⟨_, rfl, rfl, _, rfl, ite2 (fun _ => ⟨_, rfl, fl, _, rfl, .inl (SqL.of e0), _, _, rfl, rfl, _, rfl, ite2 (fun h => ?_) (fun _ => ?_)⟩) (fun _ => iteF ?_)⟩)⟩)⟩
    next =>
      refine ⟨_, rfl, _, rfl, p, _, _, _, rfl, rfl, S0, aj, _, rfl, _, rfl, fl, _, _, i, rfl, rfl, e0, ixi, ?_⟩
      have s1 := same_put (o := .lst ((ls.map V.str).set i (.str lj))) s0 nfl
      refine ⟨_, rfl, _, rfl, p, _, _, _, rfl, rfl, s1.seq hS, ai, _, rfl, _, rfl, fl, _, _, j, rfl, rfl, upd_same, by rw [List.length_set]; exact ixj, ?_⟩
      refine ⟨_, rfl, q fl ((ls.set i lj).set j li) _ (same_put s1 nfl) (by rw [upd_same, set_strs, set_strs]) (by simp; omega) (by simp) ((up.set (Lj.mono (by omega) (by omega))).set (Li.mono (by omega) (by omega)))⟩
    next =>
      refine ⟨_, rfl, .inl ⟨rfl, _, SqL.of e0⟩, _, rfl, _, rfl, _, rfl, p, _, _, _, rfl, rfl, S0, ai, fl, _, _, _, rfl, rfl, e0, hsz, by omega, by omega, ?_⟩
      refine ⟨_, rfl, q fl (ls.take j ++ [li] ++ ls.drop j) _ (same_put s0 nfl) ?_ (by simp; omega) (by simp; omega) fun l hl => ?_⟩
      · rw [upd_same, Int.toNat_natCast, List.map_append, List.map_append, List.map_take, List.map_drop]
        rfl
      · rcases List.mem_append.mp hl with hl | hl
        · rcases List.mem_append.mp hl with hl | hl
          · exact up l (List.mem_of_mem_take hl)
          · rw [List.mem_singleton.mp hl]
            exact Li.mono (by omega) (by omega)
        · exact up l (List.mem_of_mem_drop hl)
    next =>
      have h := of_decide_eq_true h
      rw [hll] at h
      have ai2 : (ls.map V.str)[i]? = some (.str li) := by rw [List.getElem?_map, hi']; rfl
      refine ⟨_, rfl, .inl ⟨rfl, _, SqL.of e0⟩, _, rfl, fl, _, _, i, _, rfl, rfl, e0, by omega, by omega, (ixN_seq ixi).1, ai2, ?_⟩
      have hle : (ls.eraseIdx i).length = ls.length - 1 := List.length_eraseIdx_of_lt hi
      refine ⟨_, rfl, q fl (ls.eraseIdx i) _ (same_put s0 nfl) ?_ (by omega) (by omega) fun l hl => up l (List.mem_of_mem_eraseIdx hl)⟩
      rw [upd_same, erase_strs]
    all_goals
      refine ⟨_, rfl, rfl, _, rfl, ite2 (fun _ => ?_) (fun _ => ⟨_, rfl, rfl, _, rfl, ite2 (fun _ => ?_) (fun _ => ?_)⟩)⟩
      next =>
        refine ⟨_, rfl, _, rfl, p, _, _, _, rfl, rfl, S0, ai, ⟨_, rfl⟩, _, _, rfl, rfl, rfl, by rw [sizeLine_eq]; omega, fun pw npw => ?_⟩
        have t1 := same_new (o := .lst ((words li).map V.str)) npw
        have s1 := s0.trans t1
        refine ⟨_, rfl, _, rfl, p, _, _, _, rfl, rfl, s1.seq hS, aj, ⟨_, rfl⟩, _, _, rfl, rfl, rfl, by rw [sizeLine_eq]; omega, fun pz npz => ?_⟩
        have t2 := same_new (o := .lst ((words lj).map V.str)) npz
        have s2 := s1.trans t2
        have nw : H pw = none := s0.free npw
        have ew : upd (upd H0 pw (.lst ((words li).map V.str))) pz (.lst ((words lj).map V.str)) pw = some (.lst ((words li).map V.str)) := t2 _ _ upd_same
        have ez : upd (upd H0 pw (.lst ((words li).map V.str))) pz (.lst ((words lj).map V.str)) pz = some (.lst ((words lj).map V.str)) := upd_same
        have ef := t2 _ _ (t1 _ _ e0)
        have hwl : ((words li).map V.str).length = (words li).length := List.length_map _
        have hzl : ((words lj).map V.str).length = (words lj).length := List.length_map _
        have pwi := words_len li
        have pwj := words_len lj
        have k0 := Int.emod_nonneg (y / 1681) (b := (((words lj).map V.str).length : Int)) (by omega)
        have k1 := Int.emod_lt_of_pos (y / 1681) (b := (((words lj).map V.str).length : Int)) (by omega)
        have a0 := Int.emod_nonneg (y / 41) (b := (((words li).map V.str).length : Int)) (by omega)
        have a1 := Int.emod_lt_of_pos (y / 41) (b := (((words li).map V.str).length : Int)) (by omega)
        obtain ⟨wd, hwd, ewd⟩ := at_memS (ws := words lj) k0 (by omega)
        obtain ⟨a, ea⟩ := Int.eq_ofNat_of_zero_le a0
        have ixa : ixN ((words li).map V.str).length (y / 41 % (((words li).map V.str).length : Int)) = some a := by rw [ea]; exact ixN_nat (by omega)
        refine ⟨_, rfl, _, rfl, _, _, rfl, rfl, cd (by decide) (by decide), _, rfl, pz, _, rfl, .inl (SqL.of ez), _, _, rfl, rfl, md (by omega), pz, _, _, _, rfl, rfl, SqL.of ez, ewd, ?_⟩
        refine ⟨_, rfl, _, rfl, _, _, rfl, rfl, cd (by decide) (by decide), _, rfl, pw, _, rfl, .inl (SqL.of ew), _, _, rfl, rfl, md (by omega), pw, _, _, a, rfl, rfl, ew, ixa, ?_⟩
        have hne : fl ≠ pw := fun e => by rw [e, npw] at e0; cases e0
        refine ⟨⟨_, rfl⟩, _, rfl, _, pw, (words li).set a wd, rfl, rfl, .inl (SqL.of (by rw [upd_same, set_strs])), ?_, ?_⟩
        · refine room _ (fun w hw => ?_) (by rw [List.length_set]; omega)
          rcases List.mem_or_eq_of_mem_set hw with h | h
          · exact .inl h
          · exact .inr (h ▸ hwd)
        refine ⟨_, rfl, _, rfl, fl, _, _, i, rfl, rfl, by rw [upd_ne hne]; exact ef, ixi, ?_⟩
        refine ⟨_, rfl, q fl (ls.set i (Txt.join sB ((words li).set a wd))) _ (same_put (same_put s2 nw) nfl) (by rw [upd_same, ← set_strs]) (by simp; omega) (by simp) (up.set (Li.swap Lj hwd))⟩
      next =>
        refine ⟨_, rfl, _, rfl, p, _, _, _, rfl, rfl, S0, ai, ⟨_, rfl⟩, _, _, rfl, rfl, rfl, by rw [sizeLine_eq]; omega, fun pw npw => ?_⟩
        have t1 := same_new (o := .lst ((words li).map V.str)) npw
        have s1 := s0.trans t1
        have ew : upd H0 pw (.lst ((words li).map V.str)) pw = some (.lst ((words li).map V.str)) := upd_same
        refine ⟨⟨_, rfl⟩, _, rfl, 2, rfl, pw, _, rfl, SqL.of ew, fun q1 nq1 => ?_⟩
        rw [cut_2c, ← List.map_take]
        have t2 := same_new (o := .lst (((words li).take 2).map V.str)) nq1
        have s2 := s1.trans t2
        refine ⟨_, rfl, _, rfl, p, _, _, _, rfl, rfl, s2.seq hS, aj, ⟨_, rfl⟩, _, _, rfl, rfl, rfl, by rw [sizeLine_eq]; omega, fun q2 nq2 => ⟨1, rfl, 2, rfl, q2, _, rfl, SqL.of upd_same, fun q3 nq3 => ?_⟩⟩
        rw [cut_12, ← List.map_take, ← List.map_drop, show Txt.split lj (Str.ofString " ") = words lj from rfl]
        have t3 := same_new (o := .lst ((words lj).map V.str)) nq2
        have t4 := same_new (o := .lst ((((words lj).take 2).drop 1).map V.str)) nq3
        have hx2 : ((words li).take 2).length ≤ 2 := by simp; omega
        have hx1 : (((words lj).take 2).drop 1).length ≤ 1 := by simp; omega
        have hx3 : ((words li).drop 3).length ≤ 56 := by simp; omega
        refine ⟨q1, q3, _, _, rfl, rfl, t4 _ _ (t3 _ _ upd_same), upd_same, by rw [List.length_map, List.length_map, sizeLine_eq]; omega, fun q4 nq4 => ?_⟩
        rw [← List.map_append]
        have t5 := same_new (o := .lst (((words li).take 2 ++ ((words lj).take 2).drop 1).map V.str)) nq4
        have s5 := ((s2.trans t3).trans t4).trans t5
        refine ⟨_, rfl, 3, rfl, pw, _, rfl, SqL.of (t5 _ _ (t4 _ _ (t3 _ _ (t2 _ _ ew)))), fun q5 nq5 => ?_⟩
        rw [cut_3c, ← List.map_drop]
        have t6 := same_new (o := .lst (((words li).drop 3).map V.str)) nq5
        refine ⟨q4, q5, _, _, rfl, rfl, t6 _ _ upd_same, upd_same, by rw [List.length_map, List.length_map, List.length_append, sizeLine_eq]; omega, fun q6 nq6 => ?_⟩
        rw [← List.map_append]
        have t7 := same_new (o := .lst (((words li).take 2 ++ ((words lj).take 2).drop 1 ++ (words li).drop 3).map V.str)) nq6
        have s7 := (s5.trans t6).trans t7
        have ef := t7 _ _ (t6 _ _ (t5 _ _ (t4 _ _ (t3 _ _ (t2 _ _ (t1 _ _ e0))))))
        refine ⟨_, q6, _, rfl, rfl, .inl (SqL.of upd_same), ?_, ?_⟩
        · refine room _ (fun w hw => ?_) (by rw [List.length_append, List.length_append]; omega)
          rcases List.mem_append.mp hw with h | h
          · rcases List.mem_append.mp h with h | h
            · exact .inl (List.mem_of_mem_take h)
            · exact .inr (List.mem_of_mem_take (List.mem_of_mem_drop h))
          · exact .inl (List.mem_of_mem_drop h)
        refine ⟨_, rfl, _, rfl, fl, _, _, i, rfl, rfl, ef, ixi, ?_⟩
        refine ⟨_, rfl, q fl (ls.set i (Txt.join sB ((words li).take 2 ++ ((words lj).take 2).drop 1 ++ (words li).drop 3))) _ (same_put s7 nfl) (by rw [upd_same, ← set_strs]) (by simp; omega) (by simp)
          (up.set (Li.third Lj (fun x hx => List.mem_of_mem_take (List.mem_of_mem_drop hx)) hx1))⟩
      next =>
        refine ⟨_, rfl, _, rfl, p, _, _, _, rfl, rfl, S0, ai, _, rfl, _, rfl, li, _, _, rfl, by omega, fun l' H2 s2 near => ?_⟩
        refine ⟨_, rfl, _, rfl, fl, _, _, i, rfl, rfl, s2 _ _ e0, ixi, ?_⟩
        exact ⟨_, rfl, q fl (ls.set i l') _ (same_put (s0.trans s2) nfl) (by rw [upd_same, set_strs]) (by simp; omega) (by simp) (up.set ((near m b Li).mono (by omega) (by omega)))⟩
end
end K19

set_option Elab.async false
set_option linter.all false
set_option maxRecDepth 100000
set_option maxHeartbeats 4000000
/-! # C9: != of equal tuples; _law_told, _law_froms -/
namespace K19
open PySem PySem.Spec PyProof.Rows L2
/-- the same plain value, or two tuples of the same plain values -/
def Tw (K : PySem.W.Frag) (H : Hp) (u v : V) : Prop := (u = v ∧ flatB u = true) ∨ ∃ (a b : Addr) (zs : List V), u = .ref a ∧ v = .ref b ∧ SqT K H a zs ∧ SqT K H b zs ∧ ∀ z ∈ zs, flatB z = true
section
variable {X : Cx} {pins : List (Addr × Obj)} {σ : St} {H : Hp} {s : Shared}
theorem vals_at {vs : List V} {us : List Value} (r : Vals vs us) {j : Nat} (hj : j < us.length) : ∃ (h : j < vs.length), RelV vs[j] us[j] := by
  induction r generalizing j with
  | nil => exact absurd hj (Nat.not_lt_zero j)
  | cons h t ih =>
    cases j with
    | zero => exact ⟨Nat.succ_pos _, h⟩
    | succ j =>
      obtain ⟨h1, h2⟩ := ih (Nat.lt_of_succ_lt_succ hj)
      exact ⟨Nat.succ_lt_succ h1, h2⟩
theorem all_range_true (n : Nat) : ((List.range n).all fun _ => true) = true := List.all_eq_true.mpr fun _ _ => rfl
theorem tw_at (I : Inv X pins σ H s) {A : Around} (hu : A.units < cLine) {u v : V} {x y : Value} (h : Tw X.K H u v) (rx : RelV u x) (ry : RelV v y) : SeqAt.EqAt A s x y true := by
  rcases h with ⟨rfl, f⟩ | ⟨a, b, zs, rfl, rfl, ha, hb, hf⟩
  · exact eqAt_same rx ry f
  · cases (show x = Value.ref a from rx)
    cases (show y = Value.ref b from ry)
    by_cases e : a = b
    · subst e
      exact SeqAt.EqAt.same _
    · obtain ⟨its, r1, p1, _⟩ := I.tuple ha
      obtain ⟨its2, r2, p2, _⟩ := I.tuple hb
      refine SeqAt.EqAt.of_refs e ?_
      have hl : its.length = its2.length := by rw [← r1.length, ← r2.length]
      have key := SeqAt.RcAt.tuples (A := A) (s := s) (e := fun _ => true) p1 p2 hu (fun j h1 h2 => by
        obtain ⟨g1, q1⟩ := vals_at r1 (j := j) (by simpa using h1)
        obtain ⟨g2, q2⟩ := vals_at r2 (j := j) (by simpa using h2)
        have := eqAt_same (A := A.in1) (s := s) q1 q2 (hf _ (List.getElem_mem g1))
        simpa using this)
      rw [all_range_true] at key
      have hs : (its.toArray.size == its2.toArray.size) = true := by simp [hl]
      rw [hs] at key
      exact key
end
section
variable {X : Cx}
/-- a tuple != its equal -/
def rNeTw (K : PySem.W.Frag) : R2 := fun x y H Q => ∃ (a b : Addr) (xs ys : List V), x = .ref a ∧ y = .ref b ∧ SqT K H a xs ∧ SqT K H b ys ∧ Paired (Tw K H) xs ys ∧ Q (.bl false) H
theorem paired_at {α β : Type} {R : α → β → Prop} {xs : List α} {ys : List β} (h : Paired R xs ys) {j : Nat} (h1 : j < xs.length) (h2 : j < ys.length) : R xs[j] ys[j] := by
  induction h generalizing j with
  | nil => exact absurd h1 (Nat.not_lt_zero j)
  | cons h t ih =>
    cases j with
    | zero => exact h
    | succ j => exact ih (Nat.lt_of_succ_lt_succ h1) (Nat.lt_of_succ_lt_succ h2)
theorem op_neTw (hu : X.A.units + 1 < cLine) : OpR X (compareOp .NotEq) (rNeTw X.K) := by
  intro pins s σ H x y v u Q I rx ry h
  obtain ⟨a, b, xs, ys, rfl, rfl, ha, hb, hp, q⟩ := h
  cases (show v = Value.ref a from rx)
  cases (show u = Value.ref b from ry)
  obtain ⟨its, r1, p1, _⟩ := I.tuple ha
  obtain ⟨its2, r2, p2, _⟩ := I.tuple hb
  have hl : its.length = its2.length := by rw [← r1.length, ← r2.length]; exact Paired.length hp
  have key := SeqAt.RcNeAt.tuples (A := X.A) (s := s) (e := fun _ => true) p1 p2 (by omega) (fun j h1 h2 => by
    obtain ⟨g1, q1⟩ := vals_at r1 (j := j) (by simpa using h1)
    obtain ⟨g2, q2⟩ := vals_at r2 (j := j) (by simpa using h2)
    have := tw_at I (A := X.A.in1) (by show X.A.units + 1 < cLine; exact hu) (paired_at hp g1 g2) q1 q2
    simpa using this)
  rw [all_range_true] at key
  have hs : (its.toArray.size == its2.toArray.size) = true := by simp [hl]
  rw [hs] at key
  exact key _ _ _ _ ⟨.bl false, H, I, rfl, q⟩
end
end K19

set_option Elab.async false
set_option linter.all false
set_option maxRecDepth 100000
set_option maxHeartbeats 4000000
/-! # D1: _law_told, _law_froms, _law_misnamed -/
namespace K19
open PySem PySem.Spec PyProof.Rows L2
/-- the lines that a text of these lines holds -/
def eff (ls : List Str) : List Str := if ls = [] then [Str.ofString ""] else ls
theorem lines_eff {m b : Nat} {ls : List Str} (h : Lines m b ls) : linesOf (Txt.join sN ls) = eff ls := by
  unfold eff
  by_cases e : ls = []
  · rw [if_pos e, e]
    exact lines_nil
  · rw [if_neg e]
    exact lines_of e fun l hl => (h l hl).nl
theorem eff_words {m b : Nat} {ls : List Str} (h : Lines m b ls) (hb : b ≤ 55) : ∀ l ∈ eff ls, (words l).length ≤ 60 := fun l hl => by
  unfold eff at hl
  by_cases e : ls = []
  · rw [if_pos e] at hl
    rw [List.mem_singleton.mp hl]
    decide +kernel
  · rw [if_neg e] at hl
    have := (h l hl).words
    omega
theorem eff_len {ls : List Str} (h : ls.length ≤ 50) : (eff ls).length ≤ 1000 := by
  unfold eff
  split
  · decide
  · omega
theorem text_len {m b : Nat} {ls : List Str} (h : Lines m b ls) (hm : m ≤ 11000) (hl : ls.length ≤ 50) : (Txt.join sN ls).length ≤ 900000 := by
  have := joinL_len 10 m (ps := ls.map TL.tl) fun p hp => by
    obtain ⟨l, hl, rfl⟩ := List.mem_map.mp hp
    rw [← TL.len_tl]
    exact (h l hl).ln
  have e : (Txt.join sN ls).length = (TL.joinL [10] (ls.map TL.tl)).length := by rw [TL.len_tl, TL.join_eq, TL.tl_join, tl_N]
  rw [e]
  rw [List.length_map] at this
  have : ls.length * (m + 1) ≤ 50 * 11001 := Nat.mul_le_mul hl (by omega)
  omega
def ToldAt (H : Hp) (fa wa : Addr) : Except (Bool × Nat) (List Row) → Prop
  | .ok rs => H fa = some (.tup [.str (Str.ofString "read"), .int (-1)]) ∧ ∃ as : List Addr, H wa = some (.lst (as.map V.ref)) ∧ RowsAt H as rs
  | .error (true, n) => H fa = some (.tup [.str (Str.ofString "text"), .int (n : Int)]) ∧ H wa = some (.lst [])
  | .error (false, n) => H fa = some (.tup [.str (Str.ofString "name"), .int (n : Int)]) ∧ H wa = some (.lst [])
theorem ToldAt.mono {H H' : Hp} {fa wa : Addr} (s : Same H H') : ∀ {x : Except (Bool × Nat) (List Row)}, ToldAt H fa wa x → ToldAt H' fa wa x
  | .ok _, ⟨h, as, h2, h3⟩ => ⟨s _ _ h, as, s _ _ h2, h3.mono s⟩
  | .error (true, _), ⟨h, h2⟩ => ⟨s _ _ h, s _ _ h2⟩
  | .error (false, _), ⟨h, h2⟩ => ⟨s _ _ h, s _ _ h2⟩
def lMany (wd : Str) : Nat := if wd = Str.ofString "in" then 0 else if wd = sJoin then 2 else 1
def lFroms (wd : Str) (t : List Str) : List Str := if wd = sPour then t.drop 1 else (t.take (1 + lMany wd)).drop 1
theorem many_get2 (kd : Str) : (valV (mergeK [] [((Sum.inr (Str.ofString "in") : Key), .int 0), (Sum.inr sJoin, .int 2)]) (Sum.inr kd : Key)).getD (.int 1) = V.int (lMany kd : Int) := by
  have e : mergeK [] [((Sum.inr (Str.ofString "in") : Key), V.int 0), (Sum.inr sJoin, .int 2)] = [((Sum.inr (Str.ofString "in") : Key), .int 0), (Sum.inr sJoin, .int 2)] := rfl
  rw [e]
  unfold lMany
  by_cases h : kd = Str.ofString "in"
  · rw [if_pos h, valV_pos (by rw [h])]
    rfl
  · rw [if_neg h, valV_neg (fun x => h (Sum.inr.inj x).symm)]
    by_cases h2 : kd = sJoin
    · rw [if_pos h2, valV_pos (by rw [h2])]
      rfl
    · rw [if_neg h2, valV_neg (fun x => h2 (Sum.inr.inj x).symm)]
      rfl
section
variable {X : Cx} {o e : Expr} {to te : TE}
/-- sep.join(..) where the context is bound: the part named outright -/
theorem pe_join_K {K : PySem.W.Frag} {apos pos : Pos} (h : X.K = K) (ho : PE X o to) (he : PE X e te) (hs : starEach [e] X.env = [(false, eval e X.env)] := by rfl) (hbase : attributeBase o "join" X.env (eval o X.env) = eval o X.env := by rfl) (hline : (apos.endLine == pos.line) = true := by rfl) :
    PE X (.Call (.Attribute o "join" apos) [e] [] pos) (tM1 (fun x xs H Q => ∃ a p, ∃ ys : List Str, x = .str a ∧ xs = [.ref p] ∧ (SqL K H p (ys.map V.str) ∨ SqT K H p (ys.map V.str)) ∧
      (ys.map (·.length)).sum + ys.length * a.length ≤ 16777216 ∧ Q (.str (Txt.join a ys)) H) to te) := by
  subst h
  exact pe_join ho he hs hbase hline
end
section
variable {P : Program} {w : World} {K : PySem.W.Frag} {mg : Str → Option Value} {base : Heap}
def spTold (K : PySem.W.Frag) : Sp := fun vs H Q _ => ∃ (p : Addr) (ls : List Str) (m b : Nat), vs = [.ref p] ∧ SqL K H p (ls.map V.str) ∧ Lines m b ls ∧ m ≤ 11000 ∧ b ≤ 55 ∧ ls.length ≤ 50 ∧
  ∀ (t fa wa : Addr) (H' : Hp), Same H H' → H' t = some (.tup [.ref fa, .ref wa]) → ToldAt H' fa wa (readAll (eff ls)) → Q (.ref t) H'
theorem sc_law_told : FnScope ["_law_lines", "_law_found", "_law_works", "e"] ["_law_lines"] (defScope (topS 57)) := ⟨rfl, rfl, rfl, by decide +kernel, rfl, by decide +kernel, by decide +kernel⟩
theorem D_law_told (T : Txt K w mg) : Def P w K mg base CX0 133 "_law_told" ["_law_lines"] (spTold K) := by
  have D_read_works : Def P w K mg base (L2.CX P w) 132 "read_works" ["text"] (spWorks K) := D_read_works T
  refine Def.of (T.fl ("_law_told", 57) (by decide +kernel)) sc_law_told (fun _ _ _ _ _ _ us hl => match us, hl with | [_], _ => rfl) (fun vs H Q E h => ?_) (fun f cdv A outer s H vs Q E hr h => ?_)
  · obtain ⟨p, ls, m, b, rfl, _⟩ := h
    rfl
  · obtain ⟨p, ls, m, b, rfl, hS, hL, hm, hb, hn, q⟩ := h
    refine ⟨_, PSs.nox ((pss_cons (ps_set (i := 1) sc_law_told.nd rfl (.inl rfl) (pe_tup (pa_cons pe_str (pa_cons (pe_un un_neg pe_int) pa_nil))))
      (pss_cons (ps_set (i := 2) sc_law_told.nd rfl (.inl rfl) (pe_lst pa_nil))
      (pss_cons (ps_try_asM rfl rfl sc_law_told.nd takes_none5 (fun W pn xe tk _ => pss_one (ps_set (i := 2) sc_law_told.nd rfl (.inl rfl) (pe_ds D_read_works hr tk (pa_cons (pe_join_K (K := K) rfl pe_str (pv 0)) pa_nil))))
        (HdsAs.cons (i := 3) rfl rfl ⟨rfl, rfl, .inl T.tx.g⟩ (fun a oe cls d pn hz hf => pss_one (ps_set (i := 1) sc_law_told.nd rfl (.inl rfl) (pe_tup (pa_cons pe_str (pa_cons (pe_xf T.tx.xf T.tx.no hz hf (pv 3)) pa_nil)))))
          (HdsAs.cons (i := 3) rfl rfl ⟨rfl, rfl, .inl T.nm.g⟩ (fun a oe cls d pn hz hf => pss_one (ps_set (i := 1) sc_law_told.nd rfl (.inl rfl) (pe_tup (pa_cons pe_str (pa_cons (pe_xf T.nm.xf T.nm.no hz hf (pv 3)) pa_nil))))) HdsAs.nil)))
      (pss_one (ps_ret (pe_tup (pa_cons (pv 1) (pa_cons (pv 2) pa_nil))))))))), ?_⟩
    refine ⟨_, rfl, line2, fun f0 nf0 => ?_⟩
    refine ⟨line0, fun w0 nw0 => ?_⟩
    have s0 := (same_new (o := .tup [.str (Str.ofString "read"), .int (-1)]) nf0).trans (same_new (o := .lst []) nw0)
    have ef : upd (upd H f0 (.tup [.str (Str.ofString "read"), .int (-1)])) w0 (.lst []) f0 = some (.tup [.str (Str.ofString "read"), .int (-1)]) := same_new nw0 _ _ upd_same
    have ew : upd (upd H f0 (.tup [.str (Str.ofString "read"), .int (-1)])) w0 (.lst []) w0 = some (.lst []) := upd_same
    have ht := text_len hL hm hn
    have el := lines_eff hL
    have hsum := sum_len (m := 11000) (ws := ls) fun l hl => Nat.le_trans (hL l hl).ln hm
    have e2 : sN.length = 1 := by decide +kernel
    have hbound : (ls.map (·.length)).sum + ls.length * sN.length ≤ 16777216 := by
      have : ls.length * 11000 ≤ 50 * 11000 := Nat.mul_le_mul_right _ hn
      rw [e2]
      omega
    refine ⟨⟨_, rfl⟩, _, rfl, _, p, ls, rfl, rfl, .inl (s0.seq hS), hbound, _, rfl, ht, by rw [show linesOf (Txt.join (Str.ofString "\n") ls) = eff ls from el]; exact eff_len hn, by rw [show linesOf (Txt.join (Str.ofString "\n") ls) = eff ls from el]; exact eff_words hL hb, ?_⟩
    rw [show linesOf (Txt.join (Str.ofString "\n") ls) = eff ls from el]
    refine ⟨fun rs e pp as H1 s1 e1 R1 => ?_, fun n e d H1 s1 ed => ?_, fun n e d H1 s1 ed => ?_⟩
    · refine ⟨_, rfl, _, rfl, line2, fun t nt => q t f0 pp _ ((s0.trans s1).trans (same_new nt)) upd_same ?_⟩
      rw [e]
      exact ⟨same_new nt _ _ (s1 _ _ ef), as, same_new nt _ _ e1, R1.mono (same_new nt)⟩
    · refine ⟨true, T.ett, fun _ a na => ?_, fun h => nomatch h⟩
      refine ⟨_, rfl, rfl, rfl, d, _, _, rfl, ed, rfl, line2, fun f1 nf1 => ?_⟩
      refine ⟨_, rfl, _, rfl, line2, fun t nt => q t f1 w0 _ (((s0.trans s1).trans (same_new nf1)).trans (same_new nt)) upd_same ?_⟩
      rw [e]
      exact ⟨same_new nt _ _ upd_same, same_new nt _ _ (same_new nf1 _ _ (s1 _ _ ew))⟩
    · refine ⟨false, T.ent, (fun h => nomatch h), fun _ => ⟨true, T.enn, fun _ a na => ?_, fun h => nomatch h⟩⟩
      refine ⟨_, rfl, rfl, rfl, d, _, _, rfl, ed, rfl, line2, fun f1 nf1 => ?_⟩
      refine ⟨_, rfl, _, rfl, line2, fun t nt => q t f1 w0 _ (((s0.trans s1).trans (same_new nf1)).trans (same_new nt)) upd_same ?_⟩
      rw [e]
      exact ⟨same_new nt _ _ upd_same, same_new nt _ _ (same_new nf1 _ _ (s1 _ _ ew))⟩
def spLfroms (K : PySem.W.Frag) : Sp := fun vs H Q _ => ∃ (a : Addr) (wd : Str) (t : List Str), vs = [.ref a] ∧ SqL K H a ((wd :: t).map V.str) ∧ ∀ (p : Addr) (H' : Hp), Same H H' → H' p = some (.lst ((lFroms wd t).map V.str)) → Q (.ref p) H'
theorem sc_law_froms : FnScope ["_law_words", "_law_many"] ["_law_words"] (defScope (topS 58)) := ⟨rfl, rfl, rfl, by decide +kernel, rfl, by decide +kernel, by decide +kernel⟩
theorem D_law_froms (T : Txt K w mg) : Def P w K mg base CX0 1 "_law_froms" ["_law_words"] (spLfroms K) := by
  refine Def.of (T.fl ("_law_froms", 58) (by decide +kernel)) sc_law_froms (fun _ _ _ _ _ _ us hl => match us, hl with | [_], _ => rfl) (fun vs H Q E h => ?_) (fun f cdv A outer s H vs Q E hr h => ?_)
  · obtain ⟨a, wd, t, rfl, _⟩ := h
    rfl
  · obtain ⟨a, wd, t, rfl, hS, q⟩ := h
    refine ⟨_, PSs.nox ((pss_cons (ps_if (pt_cmpR op_eq (pe_ix ix_list (pv 0) pe_int (fun _ _ => rfl)) pe_str (nomark _))
          (pss_one (ps_ret (pe_slice sl_list (pv 0) (po_some pe_int) po_none))) pss_nil)
      (pss_cons (ps_set (i := 1) sc_law_froms.nd rfl (.inl rfl) (pe_dget2 (hu_of hr) (pe_disp (pps_cons pe_str pe_int (pps_cons pe_str pe_int pps_nil)) (by rfl) (by rfl) (fun z => by cases z) (by decide)) (pe_ix ix_list (pv 0) pe_int (fun _ _ => rfl)) pe_int ⟨rfl, rfl, rfl, rfl⟩))
      (pss_one (ps_ret (pe_slice sl_list (pv 0) (po_some pe_int) (po_some (pe_op op_add pe_int (pv 1))))))))), ?_⟩
    refine ⟨_, rfl, a, _, _, _, rfl, rfl, hS, at_strs (i := 0) rfl, rfl, _, rfl, ite2 (fun h => ?_) (fun h => ?_)⟩
    · have h := V.str.inj (of_decide_eq_true h)
      unfold lFroms at q
      rw [if_pos h] at q
      refine ⟨_, rfl, 2, rfl, a, _, rfl, hS, fun p np => q p _ (same_new np) ?_⟩
      have e : cutV ((wd :: t).map V.str) (some ((2 : Nat) : Int)) none = (t.drop 1).map V.str := by rw [cutV_from, List.map_cons, List.drop_succ_cons, List.map_drop]
      rw [upd_same]
      exact congrArg (fun x => some (HO.lst x)) e
    · have h : wd ≠ sPour := fun x => h (eqT x)
      unfold lFroms at q
      rw [if_neg h] at q
      intro pd nd
      have sd := same_new (o := .dK []) nd
      refine ⟨upd_same, [(Sum.inr (Str.ofString "in"), .int 0), (Sum.inr sJoin, .int 2)], rfl, by decide, ?_⟩
      have s2 : Same H (upd (upd H pd (.dK [])) pd (.dK (mergeK [] [((Sum.inr (Str.ofString "in") : Key), V.int 0), (Sum.inr sJoin, .int 2)]))) := same_put sd nd
      refine ⟨pd, rfl, .inl ⟨_, .inl upd_same⟩, _, rfl, a, _, _, _, rfl, rfl, s2.seq hS, at_strs (i := 0) rfl, _, DGet.k (k := Sum.inr wd) upd_same, ?_⟩
      rw [many_get2]
      generalize upd (upd H pd (.dK [])) pd (.dK (mergeK [] [((Sum.inr (Str.ofString "in") : Key), V.int 0), (Sum.inr sJoin, .int 2)])) = H2 at s2
      refine ⟨_, rfl, 2, rfl, _, rfl, _, _, rfl, rfl, _, rfl, a, _, rfl, s2.seq hS, fun p np => ?_⟩
      rw [cut_2]
      exact q p _ (s2.trans (same_new np)) upd_same
def lMis (wd nm : Str) (t : List Str) (a : Above) : Bool := (a.lookup nm).isSome || (lFroms wd (nm :: t)).any fun f => (a.lookup f).getD sOut == sOut
def spLmis (K : PySem.W.Frag) : Sp := fun vs H Q _ => ∃ (a d : Addr) (wd nm : Str) (t : List Str) (ab : Above), vs = [.ref a, .ref d] ∧ SqL K H a ((wd :: nm :: t).map V.str) ∧ H d = some (.dK (dk ab)) ∧ t.length ≤ 1000 ∧ ∀ (H' : Hp), Same H H' → Q (.bl (lMis wd nm t ab)) H'
theorem sc_law_misnamed : FnScope ["_law_words", "_law_above", "_law_name_here"] ["_law_words", "_law_above"] (defScope (topS 59)) := ⟨rfl, rfl, rfl, by decide +kernel, rfl, by decide +kernel, by decide +kernel⟩
theorem lFroms_len (wd : Str) (t : List Str) : (lFroms wd t).length ≤ t.length := by
  unfold lFroms
  split <;> simp <;> omega
theorem D_law_misnamed (T : Txt K w mg) : Def P w K mg base CX0 2 "_law_misnamed" ["_law_words", "_law_above"] (spLmis K) := by
  have D_law_froms : Def P w K mg base CX0 1 "_law_froms" ["_law_words"] (spLfroms K) := D_law_froms T
  refine Def.of (T.fl ("_law_misnamed", 59) (by decide +kernel)) sc_law_misnamed (fun _ _ _ _ _ _ us hl => match us, hl with | [_, _], _ => rfl) (fun vs H Q E h => ?_) (fun f cdv A outer s H vs Q E hr h => ?_)
  · obtain ⟨a, d, wd, nm, t, ab, rfl, _⟩ := h
    rfl
  · obtain ⟨a, d, wd, nm, t, ab, rfl, hS, ed, ht, q⟩ := h
    have fAny := T.free "any" (by decide +kernel)
    refine ⟨_, PSs.nox ((pss_cons (ps_if (pt_cmp (pc_din (hu_of hr) (pe_ix ix_list (pv 0) pe_int (fun _ _ => rfl)) (pv 1)) rfl)
          (pss_one (ps_ret pe_bl)) pss_nil)
      (pss_one (ps_ret (pe_callB (cr_any rfl) (by rfl) fAny (by decide +kernel) (pa_cons (pe_lc (own := [("_law_name_here", 2)]) (g := gName 2) (by rfl) sc_law_misnamed.nd (pi_list (pe_d D_law_froms hr (pa_cons (pv 0) pa_nil))) (blkOk_by (own := [("_law_name_here", 2)]) (N := ["_law_words", "_law_above", "_law_name_here"]) (sc := defScope (topS 59)) (by decide +kernel)) (fun _ _ _ _ _ => pg_name (i := 2) sc_law_misnamed.nd rfl (Or.inl rfl)) (fun _ _ _ _ _ => pts_nil) (fun _ _ _ _ _ => (pe_cmpR op_eq (pe_dget2 (hu_of hr) (pv 1) (pv 2) pe_str ⟨rfl, rfl, rfl, rfl⟩) pe_str (nomark _)))) pa_nil)))))), ?_⟩
    refine ⟨_, rfl, a, _, _, _, rfl, rfl, hS, at_strs (i := 1) rfl, _, rfl, d, _, rfl, DGet.k (k := Sum.inr nm) ed, _, rfl, ?_⟩
    rw [dk_val, Option.isSome_map]
    unfold lMis at q
    cases e : (ab.lookup nm).isSome with
    | true =>
      rw [e] at q
      exact iteT (q H (Same.refl H))
    | false =>
      rw [e, Bool.false_or] at q
      have hfl := lFroms_len wd (nm :: t)
      refine iteF ⟨_, rfl, a, wd, nm :: t, rfl, hS, fun p H1 s1 e1 => ⟨p, rfl, ⟨_, SqL.of e1⟩, fun D nD => ?_⟩⟩
      refine lc_it (walk_list (xs := (lFroms wd (nm :: t)).map V.str)) (fun i H' => Same H1 H' ∧ H' D = some (.lst ((((lFroms wd (nm :: t)).take i).map fun f => (ab.lookup f).getD sOut == sOut).map V.bl))) ⟨same_new nD, upd_same⟩
        (fun _ _ _ hP => SqL.of (hP.1 _ _ e1)) (fun i y H4 H5 hi hP hY => ?_) (fun H4 hP => ?_)
      · obtain ⟨s4, e4⟩ := hP
        obtain ⟨rfl, hy⟩ := hY
        obtain ⟨g, hg, rfl⟩ := strs_get hy
        refine ⟨rfl, ⟨_, rfl, d, rfl, .inl ⟨_, .inl (s4 _ _ (s1 _ _ ed))⟩, _, rfl, _, DGet.k (k := Sum.inr g) (s4 _ _ (s1 _ _ ed)), ?_⟩⟩
        rw [dk_val]
        have eo : (((ab.lookup g).map V.str).getD (V.str (Str.ofString "out"))) = V.str ((ab.lookup g).getD sOut) := by cases ab.lookup g <;> rfl
        rw [eo]
        refine ⟨rfl, _, e4, ?_, same_put s4 nD, ?_⟩
        · rw [List.length_map, List.length_map, List.length_take, sizeLine_eq]
          simp at hfl
          omega
        · have ht2 : (lFroms wd (nm :: t)).take (i + 1) = (lFroms wd (nm :: t)).take i ++ [g] := by rw [List.take_add_one, hg]; rfl
          have eb : decide (V.str ((ab.lookup g).getD sOut) = V.str (Str.ofString "out")) = ((ab.lookup g).getD sOut == sOut) := by
            rw [Bool.eq_iff_iff, decide_eq_true_iff, beq_iff_eq]
            exact ⟨fun h => V.str.inj h, fun h => by rw [h]⟩
          rw [upd_same, ht2, List.map_append, List.map_append, eb]
          rfl
      · obtain ⟨s4, e4⟩ := hP
        rw [List.length_map, List.take_length] at e4
        refine ⟨D, _, rfl, SqL.of e4, ?_⟩
        have := q H4 (s1.trans s4)
        rw [List.any_map]
        exact this
end
end K19

set_option Elab.async false
set_option linter.all false
set_option maxRecDepth 100000
set_option maxHeartbeats 4000000
/-! # D2: _law_read -/
namespace K19
open PySem PySem.Spec PyProof.Rows L2
theorem at_refs {as : List Addr} {i : Nat} {a : Addr} (h : as[i]? = some a) : atI (as.map V.ref) (i : Int) = some (.ref a) := atI_nat (by rw [List.getElem?_map, h]; rfl)
theorem many_of {wd : Str} {n : Nat} (h : fromsT.lookup wd = some n) : lMany wd = n := by
  have hm := lookup_mem h
  simp only [fromsT, List.mem_cons, Prod.mk.injEq, List.not_mem_nil, or_false] at hm
  rcases hm with ⟨rfl, rfl⟩ | ⟨rfl, rfl⟩ | ⟨rfl, rfl⟩ | ⟨rfl, rfl⟩ | ⟨rfl, rfl⟩ | ⟨rfl, rfl⟩ | ⟨rfl, rfl⟩ | ⟨rfl, rfl⟩ | ⟨rfl, rfl⟩ <;> decide +kernel
/-- what the law takes for the froms of a row's words are its froms -/
theorem froms_of {line : Str} {r : Row} (h : rowOf line = some r) : lFroms r.word (r.name :: (r.froms ++ r.rest)) = r.froms := by
  obtain ⟨_, h2, h3, _⟩ := rowOf_words h
  unfold lFroms
  by_cases hp : r.word = sPour
  · rw [if_pos hp, empty_rest h3 hp, List.append_nil]
    rfl
  · rw [if_neg hp]
    unfold many at h2
    rw [if_neg hp] at h2
    rw [many_of h2, show 1 + r.froms.length = r.froms.length + 1 by omega, List.take_succ_cons, List.drop_succ_cons, List.drop_zero, List.take_left]
theorem mis_of {line : Str} {r : Row} (h : rowOf line = some r) (a : Above) : lMis r.word r.name (r.froms ++ r.rest) a = bad a r := by
  unfold lMis bad
  rw [froms_of h]
theorem bad_none {a : Above} {r : Row} (h : bad a r = false) : a.lookup r.name = none := by
  unfold bad at h
  rw [Bool.or_eq_false_iff] at h
  cases e : a.lookup r.name with
  | none => rfl
  | some z => rw [e] at h; cases h.1
theorem lines_back {ls : List Str} {rs : List Row} (h : readAll ls = .ok rs) : rs.map Row.line = ls := by
  obtain ⟨h1, h2⟩ := read_ok ls [] 0 rs h
  refine List.ext_getElem? fun k => ?_
  rw [List.getElem?_map]
  cases e : ls[k]? with
  | none =>
    have : ls.length ≤ k := List.getElem?_eq_none_iff.mp e
    rw [List.getElem?_eq_none_iff.mpr (by omega)]
    rfl
  | some l =>
    obtain ⟨r, e1, e2, _⟩ := h2 k l e
    rw [e1]
    exact congrArg some (rowOf_line e2)
section
variable {P : Program} {w : World} {K : PySem.W.Frag} {mg : Str → Option Value} {base : Heap}
def spLread (K : PySem.W.Frag) : Sp := fun vs H Q _ => ∃ (wa la : Addr) (as : List Addr) (rs : List Row) (ls : List Str) (m b : Nat), vs = [.ref wa, .ref la] ∧ H wa = some (.lst (as.map V.ref)) ∧ RowsAt H as rs ∧ SqL K H la (ls.map V.str) ∧ readAll ls = .ok rs ∧
  Lines m b ls ∧ m ≤ 11000 ∧ b ≤ 55 ∧ ls.length ≤ 50 ∧ ∀ H', Same H H' → Q (.bl true) H'
theorem sc_law_read : FnScope ["_law_works", "_law_lines", "_law_above", "_law_k", "_law_words", "_law_froms_here"] ["_law_works", "_law_lines"] (defScope (topS 60)) := ⟨rfl, rfl, rfl, by decide +kernel, rfl, by decide +kernel, by decide +kernel⟩
theorem D_law_read (T : Txt K w mg) : Def P w K mg base CX0 3 "_law_read" ["_law_works", "_law_lines"] (spLread K) := by
  have D_shown_works : Def P w K mg base CX0 1 "shown_works" ["works"] (spShown K) := D_shown_works T
  have D_law_froms : Def P w K mg base CX0 1 "_law_froms" ["_law_words"] (spLfroms K) := D_law_froms T
  have D_law_misnamed : Def P w K mg base CX0 2 "_law_misnamed" ["_law_words", "_law_above"] (spLmis K) := D_law_misnamed T
  refine Def.of (T.fl ("_law_read", 60) (by decide +kernel)) sc_law_read (fun _ _ _ _ _ _ us hl => match us, hl with | [_, _], _ => rfl) (fun vs H Q E h => ?_) (fun f cdv A outer s H vs Q E hr h => ?_)
  · obtain ⟨wa, la, as, rs, ls, m, b, rfl, _⟩ := h
    rfl
  · obtain ⟨wa, la, as, rs, ls, m, b, rfl, ew, R0, hS, hread, hL, hm, hb, hn, q⟩ := h
    have fIsi := T.free "isinstance" (by decide +kernel)
    have fLen := T.free "len" (by decide +kernel)
    have fList := T.free "list" (by decide +kernel)
    have fTuple := T.free "tuple" (by decide +kernel)
    have fRange := T.free "range" (by decide +kernel)
    have hr1 := hr.mono (j := 1) (by decide)
    refine ⟨_, PSs.nox ((pss_cons (ps_if (PW.pt (pw_or (pt_not (pt_val (pe_callB call_isi (by rfl) fIsi (by decide +kernel) (pa_cons (pv 0) (pa_cons (pe_bltn (v := .ty "list") (by rfl) fList (by decide +kernel) rfl) pa_nil))))) (pw_or (pt_cmpR op_ne (pe_callB call_len_seq (by rfl) fLen PySem.boot_len (pa_cons (pv 0) pa_nil)) (pe_callB call_len_seq (by rfl) fLen PySem.boot_len (pa_cons (pv 1) pa_nil)) (nomark _)) (pw_or1 (pt_cmpR op_ne (pe_d D_shown_works hr1 (pa_cons (pv 0) pa_nil)) (pe_join pe_str (pv 1)) (nomark _))))))
          (pss_one (ps_ret pe_bl)) pss_nil)
      (pss_cons (ps_set (i := 2) sc_law_read.nd rfl (.inl rfl) pe_dnewK)
      (pss_cons (ps_for PassesOwn.never rfl (pi_range1 (by rfl) fRange (pa_cons (pe_callB call_len_seq (by rfl) fLen PySem.boot_len (pa_cons (pv 0) pa_nil)) pa_nil)) (pg_name (i := 3) sc_law_read.nd rfl (.inl rfl))
          (pss_cons (ps_set (i := 4) sc_law_read.nd rfl (.inl rfl) (pe_split (pe_ix ix_list (pv 1) (pv 3) (fun _ _ => rfl)) pe_str))
          (pss_cons (ps_set (i := 5) sc_law_read.nd rfl (.inl rfl) (pe_d D_law_froms hr1 (pa_cons (pv 4) pa_nil)))
          (pss_cons (ps_if (pt_cmpR (op_neTw (hu_of hr)) (pe_ix ix_list (pv 0) (pv 3) (fun _ _ => rfl)) (pe_tup (pa_cons (pe_ix ix_list (pv 4) pe_int (fun _ _ => rfl)) (pa_cons (pe_ix ix_list (pv 4) pe_int (fun _ _ => rfl)) (pa_cons (pe_callTy call_tuple_of (by rfl) fTuple (by decide +kernel) (pa_cons (pv 5) pa_nil)) (pa_cons (pe_callTy call_tuple_of (by rfl) fTuple (by decide +kernel) (pa_cons (pe_slice sl_list (pv 4) (po_some (pe_op op_add pe_int (pe_callB call_len_seq (by rfl) fLen PySem.boot_len (pa_cons (pv 5) pa_nil)))) po_none) pa_nil)) pa_nil))))) (nomark _))
              (pss_one (ps_ret pe_bl)) pss_nil)
          (pss_cons (ps_if (pt_val (pe_d D_law_misnamed hr (pa_cons (pv 4) (pa_cons (pv 2) pa_nil))))
              (pss_one (ps_ret pe_bl)) pss_nil)
          (pss_one (ps_dput (hu_of hr) (pv 2) (pe_ix ix_list (pv 4) pe_int (fun _ _ => rfl)) (pe_ix ix_list (pv 4) pe_int (fun _ _ => rfl)) rfl)))))))
      (pss_one (ps_ret pe_bl)))))), ?_⟩
    obtain ⟨hlen, hrow⟩ := read_ok ls [] 0 rs hread
    have hback := lines_back hread
    have l1 : (as.map V.ref).length = rs.length := by rw [List.length_map]; exact R0.1
    have l2 : (ls.map V.str).length = ls.length := List.length_map _
    have hsum := sum_len (m := 11000) (ws := ls) fun l hl => Nat.le_trans (hL l hl).ln hm
    have hsum2 : (ls.map (·.length)).sum ≤ 1000000 := by
      have : ls.length * 11000 ≤ 50 * 11000 := Nat.mul_le_mul_right _ hn
      omega
    have e2 : sN.length = 1 := by decide +kernel
    refine ⟨_, rfl, .ref wa, .ty "list", .type "list", _, true, rfl, .ty "list", .base (.lst ew), kit_ty (by decide +kernel), _, rfl, iteF ?_⟩
    refine ⟨_, rfl, wa, _, rfl, .inl (SqL.of ew), _, rfl, la, _, rfl, .inl hS, rfl, _, rfl, ?_⟩
    have e3 : (!decide (V.int ((as.map V.ref).length : Int) = V.int ((ls.map V.str).length : Int))) = false := by
      rw [l1, l2, hlen]
      simp
    rw [e3]
    refine iteF ?_
    refine ⟨_, rfl, wa, as, rs, rfl, ew, R0, by omega, fun r hr => ?_, by rw [hback]; exact hsum2, fun H1 s1 => ?_⟩
    · obtain ⟨k, hk, e⟩ := List.mem_iff_getElem.mp hr
      have hk2 : k < ls.length := by omega
      obtain ⟨r', g1, g2, _⟩ := hrow k _ (List.getElem?_eq_getElem hk2)
      rw [List.getElem?_eq_getElem hk, e] at g1
      obtain rfl := Option.some.inj g1
      have ok := hL _ (List.getElem_mem hk2)
      refine ⟨?_, ?_⟩
      · rw [← (rowOf_words g2).1]
        have := ok.words
        omega
      · rw [rowOf_line g2]
        have := ok.ln
        omega
    refine ⟨⟨_, rfl⟩, _, rfl, _, la, ls, rfl, rfl, .inl (s1.seq hS), ?_, rfl, _, rfl, ?_⟩
    · show (ls.map (·.length)).sum + ls.length * sN.length ≤ 16777216
      rw [e2]
      omega
    have e4 : (!decide (V.str (Txt.join sN (rs.map Row.line)) = V.str (Txt.join (Str.ofString "\n") ls))) = false := by
      rw [hback]
      simp
    rw [e4]
    refine iteF ?_
    intro da nda
    have s2 := s1.trans (same_new (o := .dK []) nda)
    have nda0 : H da = none := s1.free nda
    refine ⟨_, rfl, wa, _, rfl, .inl (SqL.of (s2 _ _ ew)), _, rfl, by omega, by omega, for_it walk_range (fun k σ H' => ∃ y3 y4 y5 : Option V, σ = [some (.ref wa), some (.ref la), some (.ref da), y3, y4, y5] ∧ Same H H' ∧ H' da = some (.dK (dk (aboveOf (rs.take k))))) ⟨_, _, _, rfl, s2, upd_same⟩ (fun _ _ _ _ _ => trivial) (fun k x σ H2 H3 hk hP hY => ?_) (fun σ H2 hP => ?_)⟩
    · obtain ⟨y3, y4, y5, rfl, s3, ed⟩ := hP
      obtain ⟨rfl, hx⟩ := hY
      have hx : x = V.int (k : Int) := hx.trans (congrArg V.int (Int.zero_add _))
      subst hx
      have hk2 : k < ls.length := by omega
      have hl := List.getElem?_eq_getElem hk2
      obtain ⟨r, g1, g2, g3⟩ := hrow k _ hl
      have ok := hL _ (List.getElem_mem hk2)
      generalize ls[k] = l at hl g2 ok
      rw [List.nil_append] at g3
      have hll : l.length ≤ 11000 := Nat.le_trans ok.ln hm
      obtain ⟨a, ha⟩ : ∃ a, as[k]? = some a := ⟨_, List.getElem?_eq_getElem (by rw [R0.1]; omega)⟩
      have Ra := (R0.2 k a r ha g1).mono s3
      have hwl : words l = r.word :: r.name :: (r.froms ++ r.rest) := (rowOf_words g2).1
      have hwn : r.froms.length + r.rest.length + 2 ≤ 60 := by
        have := ok.words
        rw [hwl] at this
        simp at this
        omega
      refine ⟨_, rfl, _, rfl, la, _, _, _, rfl, rfl, s3.seq hS, at_strs hl, ⟨_, rfl⟩, _, _, rfl, rfl, rfl, by rw [sizeLine_eq]; omega, fun pw npw => ?_⟩
      rw [show Txt.split l (Str.ofString " ") = r.word :: r.name :: (r.froms ++ r.rest) from hwl]
      have t1 := same_new (o := .lst ((r.word :: r.name :: (r.froms ++ r.rest)).map V.str)) npw
      have w1 : upd H3 pw (.lst ((r.word :: r.name :: (r.froms ++ r.rest)).map V.str)) pw = some (.lst ((r.word :: r.name :: (r.froms ++ r.rest)).map V.str)) := upd_same
      have R1 := Ra.mono t1
      have ed1 := t1 _ _ ed
      have s4 := s3.trans t1
      generalize upd H3 pw (.lst ((r.word :: r.name :: (r.froms ++ r.rest)).map V.str)) = H4 at t1 w1 R1 ed1 s4
      refine ⟨_, rfl, pw, r.word, r.name :: (r.froms ++ r.rest), rfl, SqL.of w1, fun pf H5 t2 ef => ?_⟩
      rw [froms_of g2] at ef
      obtain ⟨pa, pb, E1, E2, E3⟩ := R1.mono t2
      have w2 := t2 _ _ w1
      have s5 := s4.trans t2
      refine ⟨_, rfl, _, rfl, wa, _, _, _, rfl, rfl, SqL.of (s5 _ _ ew), at_refs ha, _, rfl, pw, _, _, _, rfl, rfl, SqL.of w2, at_strs (i := 0) rfl, _, rfl, pw, _, _, _, rfl, rfl, SqL.of w2, at_strs (i := 1) rfl, _, rfl, pf, _, rfl, .inl ⟨SqL.of ef, fun p1 n1 => ?_⟩⟩
      have t3 := same_new (o := .tup (r.froms.map V.str)) n1
      refine ⟨_, rfl, _, rfl, pf, _, rfl, .inl (SqL.of (t3 _ _ ef)), _, _, rfl, rfl, _, rfl, pw, _, rfl, SqL.of (t3 _ _ w2), fun p2 n2 => ?_⟩
      have ecut : cutV ((r.word :: r.name :: (r.froms ++ r.rest)).map V.str) (some (2 + ((r.froms.map V.str).length : Int))) none = r.rest.map V.str := by
        have e := cutV_from ((r.word :: r.name :: (r.froms ++ r.rest)).map V.str) (2 + r.froms.length)
        have e5 : ((2 + r.froms.length : Nat) : Int) = 2 + ((r.froms.map V.str).length : Int) := by rw [List.length_map]; omega
        rw [e5] at e
        rw [e, show 2 + r.froms.length = r.froms.length + 1 + 1 by omega, List.map_cons, List.map_cons, List.drop_succ_cons, List.drop_succ_cons, List.map_append]
        exact List.drop_left' (by rw [List.length_map])
      rw [ecut]
      have t4 := same_new (o := .lst (r.rest.map V.str)) n2
      refine ⟨p2, _, rfl, .inl ⟨SqL.of upd_same, fun p3 n3 => ⟨line4, fun p4 n4 => ?_⟩⟩⟩
      have t5 := same_new (o := .tup (r.rest.map V.str)) n3
      have t6 := same_new (o := .tup [.str r.word, .str r.name, .ref p1, .ref p3]) n4
      have tt := ((t3.trans t4).trans t5).trans t6
      refine ⟨a, p4, _, _, rfl, rfl, SqT.of (tt _ _ E1), SqT.of upd_same, ?_, _, rfl, iteF ?_⟩
      · refine .cons (.inl ⟨rfl, rfl⟩) (.cons (.inl ⟨rfl, rfl⟩) (.cons (.inr ⟨pa, p1, r.froms.map V.str, rfl, rfl, SqT.of (tt _ _ E2), SqT.of (t6 _ _ (t5 _ _ (t4 _ _ upd_same))), ?_⟩) (.cons (.inr ⟨pb, p3, r.rest.map V.str, rfl, rfl, SqT.of (tt _ _ E3), SqT.of (t6 _ _ upd_same), ?_⟩) .nil)))
        all_goals
          intro z hz
          obtain ⟨w, _, rfl⟩ := List.mem_map.mp hz
          rfl
      have w6 := tt _ _ w2
      have ed6 := tt _ _ (t2 _ _ ed1)
      have s6 := s5.trans tt
      refine ⟨_, rfl, _, rfl, pw, da, r.word, r.name, r.froms ++ r.rest, _, rfl, SqL.of w6, ed6, by simp; omega, fun H6 t7 => ⟨_, rfl, ?_⟩⟩
      rw [mis_of g2, g3]
      refine iteF ?_
      refine ⟨_, rfl, pw, _, _, _, rfl, rfl, SqL.of (t7 _ _ w6), at_strs (i := 0) rfl, _, rfl, _, rfl, pw, _, _, _, rfl, rfl, SqL.of (t7 _ _ w6), at_strs (i := 1) rfl, da, _, rfl, DPut.k (k := Sum.inr r.name) (t7 _ _ ed6) ?_, ?_⟩
      · rw [dk_len, List.length_take, sizeLine_eq]
        omega
      refine ⟨_, _, _, rfl, same_put (s6.trans t7) nda0, ?_⟩
      rw [upd_same, dk_put (bad_none g3), ← aboveOf_snoc, List.take_add_one, g1]
      rfl
    · obtain ⟨y3, y4, y5, rfl, s3, ed⟩ := hP
      exact q H2 s3
end
end K19

set_option Elab.async false
set_option linter.all false
set_option maxRecDepth 100000
set_option maxHeartbeats 8000000
/-! # D3: law -/
namespace K19
open PySem PySem.Spec PyProof.Rows L2
def mk (k : Nat) : Nat := match k with
  | 0 => 1300
  | k + 1 => 2 * mk k + 1
theorem mk_le {k : Nat} (h : k ≤ 3) : mk k ≤ 11000 := by
  match k, h with
  | 0, _ => decide
  | 1, _ => decide
  | 2, _ => decide
  | 3, _ => decide
theorem mk_ge (k : Nat) : 1300 ≤ mk k := by
  induction k with
  | zero => exact Nat.le_refl _
  | succ k ih => show 1300 ≤ 2 * mk k + 1; omega
theorem eff_ne {ls : List Str} (h : 1 ≤ ls.length) : eff ls = ls := by
  unfold eff
  rw [if_neg (fun e => by rw [e] at h; exact absurd h (by decide))]
theorem rowOf_empty : rowOf (Str.ofString "") = none := Option.isNone_iff_eq_none.mp (by decide +kernel)
theorem read_empty : readAll (eff []) = .error (true, 0) := by
  have e : eff [] = [Str.ofString ""] := if_pos rfl
  rw [e]
  exact read_none rowOf_empty
theorem merge_snoc (xs : List (Key × V)) (x : Key × V) : mergeK [] (xs ++ [x]) = putK (mergeK [] xs) x.1 x.2 := by
  unfold mergeK
  rw [List.foldl_append]
  rfl
theorem merge_rows {ls : List Str} {rs : List Row} (h : readAll ls = .ok rs) : mergeK [] (dk (aboveOf rs)) = dk (aboveOf rs) := by
  obtain ⟨h1, h2⟩ := read_ok ls [] 0 rs h
  have key : ∀ i, i ≤ rs.length → mergeK [] (dk (aboveOf (rs.take i))) = dk (aboveOf (rs.take i)) := by
    intro i
    induction i with
    | zero => intro _; rfl
    | succ i ih =>
      intro hi
      obtain ⟨r, e1, _, e3⟩ := h2 i _ (List.getElem?_eq_getElem (by omega))
      rw [List.nil_append] at e3
      have e4 : rs.take (i + 1) = rs.take i ++ [r] := by rw [List.take_add_one, e1]; rfl
      have e5 : dk (aboveOf (rs.take i) ++ [(r.name, r.word)]) = dk (aboveOf (rs.take i)) ++ [(Sum.inr r.name, V.str r.word)] := by unfold dk; rw [List.map_append]; rfl
      rw [e4, aboveOf_snoc, e5, merge_snoc, ih (by omega)]
      show putK (dk (aboveOf (rs.take i))) (Sum.inr r.name : Key) (V.str r.word) = _
      rw [dk_put (bad_none e3), e5]
  have := key rs.length (Nat.le_refl _)
  rwa [List.take_length] at this
theorem Lines.take {m b : Nat} {ls : List Str} (h : Lines m b ls) (n : Nat) : Lines m b (ls.take n) := fun l hl => h l (List.mem_of_mem_take hl)
theorem Lines.app {m b : Nat} {ls : List Str} (h : Lines m b ls) (hm : 1300 ≤ m) : Lines m b (ls ++ [Str.ofString "", Str.ofString "in"]) := fun l hl => by
  rcases List.mem_append.mp hl with hl | hl
  · exact h l hl
  · simp only [List.mem_cons, List.not_mem_nil, or_false] at hl
    have : LnOk 1300 0 l := by
      rcases hl with rfl | rfl <;> exact ⟨by decide +kernel, by decide +kernel, by decide +kernel⟩
    exact this.mono hm (Nat.zero_le _)
/-- the two words for what is wrong -/
def kdOf (b : Bool) : Str := if b = true then Str.ofString "text" else Str.ofString "name"
theorem told_err {H : Hp} {fa wa : Addr} {b : Bool} {n : Nat} (h : ToldAt H fa wa (.error (b, n))) : H fa = some (.tup [.str (kdOf b), .int (n : Int)]) ∧ H wa = some (.lst []) := by
  cases b with
  | true => exact h
  | false => exact h
theorem kd_read (b : Bool) : kdOf b ≠ Str.ofString "read" := by cases b <;> decide +kernel
theorem cut_nt (ls : List Str) (n : Nat) : cutV (ls.map V.str) none (some (n : Int)) = (ls.take n).map V.str := by rw [cutV_to, List.map_take]
theorem cut_n1 (ls : List Str) (n : Nat) : cutV (ls.map V.str) none (some ((n : Int) + 1)) = (ls.take (n + 1)).map V.str := by
  have e := cut_nt ls (n + 1)
  rw [show ((n + 1 : Nat) : Int) = (n : Int) + 1 by omega] at e
  exact e
theorem paired_imp {α β : Type} {R S : α → β → Prop} {xs : List α} {ys : List β} (h : Paired R xs ys) (f : ∀ x y, R x y → S x y) : Paired S xs ys := by
  induction h with
  | nil => exact .nil
  | cons h _ ih => exact .cons (f _ _ h) ih
theorem paired_app {α β : Type} {R : α → β → Prop} {xs us : List α} {ys ws : List β} (h : Paired R xs ys) (g : Paired R us ws) : Paired R (xs ++ us) (ys ++ ws) := by
  induction h with
  | nil => exact g
  | cons h _ ih => exact .cons h ih
section
variable {P : Program} {w : World} {K : PySem.W.Frag} {mg : Str → Option Value} {base : Heap}
def spLaw (K : PySem.W.Frag) : Sp := fun vs H Q _ => ∃ (a : Addr) (ns : List Int), vs = [.ref a] ∧ SqL K H a (ns.map V.int) ∧ ns.length ≤ 63 ∧ ∀ H', Q (.bl true) H'
theorem sc_law : FnScope ["_law_script", "_law_by_digits", "_law_lines", "_law_row_here", "_law_xs", "_law_many", "_law_k", "_law_found", "_law_works", "_law_at", "_law_ahead", "_law_above"] ["_law_script"] (defScope (topS 61)) := ⟨rfl, rfl, rfl, by decide +kernel, rfl, by decide +kernel, by decide +kernel⟩
theorem D_law (T : Txt K w mg) {f : Addr} {fd : FuncData} (F : FnP K "law" (topS 61) f fd) : FnOk P w K mg base CX0 134 f fd ["_law_script"] (spLaw K) := by
  have D_law_cell_at : Def P w K mg base CX0 1 "_law_cell_at" ["_law_script", "_law_k"] (spCell K) := D_law_cell_at T
  have D_law_cells : Def P w K mg base CX0 2 "_law_cells" ["_law_script"] (spCells K) := D_law_cells T
  have D_law_drawn : Def P w K mg base CX0 1 "_law_drawn" ["_law_number", "_law_many"] spDrawn := D_law_drawn T
  have D_law_rows : Def P w K mg base CX0 4 "_law_rows" ["_law_cells_here", "_law_by_digits"] (spLrows K) := D_law_rows T
  have D_law_line : Def P w K mg base CX0 1 "_law_line" ["_law_row_here"] spLline := D_law_line T
  have D_law_changed : Def P w K mg base CX0 2 "_law_changed" ["_law_lines", "_law_x", "_law_y"] (spLch K) := D_law_changed T
  have D_law_told : Def P w K mg base CX0 133 "_law_told" ["_law_lines"] (spTold K) := D_law_told T
  have D_law_read : Def P w K mg base CX0 3 "_law_read" ["_law_works", "_law_lines"] (spLread K) := D_law_read T
  have D_law_misnamed : Def P w K mg base CX0 2 "_law_misnamed" ["_law_words", "_law_above"] (spLmis K) := D_law_misnamed T
  refine F.ok sc_law (fun vs H Q E h => ?_) (fun cdv A outer s H vs Q E hr h => ?_)
  · obtain ⟨a, ns, rfl, _⟩ := h
    rfl
  · obtain ⟨a, ns, rfl, hS, h63, q⟩ := h
    have fIsi := T.free "isinstance" (by decide +kernel)
    have fLen := T.free "len" (by decide +kernel)
    have fBool := T.free "bool" (by decide +kernel)
    have fRange := T.free "range" (by decide +kernel)
    have fDict := T.free "dict" (by decide +kernel)
    have hr1 := hr.mono (j := 1) (by decide)
    have hr2 := hr.mono (j := 2) (by decide)
    have hr3 := hr.mono (j := 3) (by decide)
    have hr4 := hr.mono (j := 4) (by decide)
    refine ⟨_, PSs.nox ((pss_cons (ps_set (i := 1) sc_law.nd rfl (.inl rfl) (pe_cmpR op_eq (pe_op op_mod (pe_op op_fdiv (pe_d D_law_cell_at hr1 (pa_cons (pv 0) (pa_cons pe_int pa_nil))) pe_int) pe_int) pe_int (nomark _)))
      (pss_cons (ps_setLc (i := 2) (own := [("_law_row_here", 3)]) (g := gName 3) (by rfl) sc_law.nd rfl rfl (sw_true rfl rfl rfl (by decide +kernel)) (pi_list (pe_d D_law_rows hr4 (pa_cons (pe_d D_law_cells hr2 (pa_cons (pv 0) pa_nil)) (pa_cons (pv 1) pa_nil)))) (blkOk_by (own := [("_law_row_here", 3)]) (N := ["_law_script", "_law_by_digits", "_law_lines", "_law_row_here", "_law_xs", "_law_many", "_law_k", "_law_found", "_law_works", "_law_at", "_law_ahead", "_law_above"]) (sc := defScope (topS 61)) (by decide +kernel)) (fun _ _ _ _ _ => pg_name (i := 3) sc_law.nd rfl (Or.inl rfl)) (fun _ _ _ _ _ => pts_nil) (fun _ _ _ _ _ => (pe_d D_law_line hr1 (pa_cons (pv 3) pa_nil))))
      (pss_cons (ps_set (i := 4) sc_law.nd rfl (.inl rfl) (pe_d D_law_drawn hr1 (pa_cons (pe_op op_add (pe_op op_add (pe_d D_law_cell_at hr1 (pa_cons (pv 0) (pa_cons pe_int pa_nil))) (pe_op op_mul pe_int (pe_d D_law_cell_at hr1 (pa_cons (pv 0) (pa_cons pe_int pa_nil))))) (pe_d D_law_cell_at hr1 (pa_cons (pv 0) (pa_cons pe_int pa_nil)))) (pa_cons pe_int pa_nil))))
      (pss_cons (ps_set (i := 5) sc_law.nd rfl (.inl rfl) (pe_op op_mod (pe_ix ix_list (pv 4) pe_int (fun _ _ => rfl)) pe_int))
      (pss_cons (ps_for PassesOwn.never rfl (pi_range1 (by rfl) fRange (pa_cons (pv 5) pa_nil)) (pg_name (i := 6) sc_law.nd rfl (.inl rfl))
          (pss_one (ps_set (i := 2) sc_law.nd rfl (.inl rfl) (pe_d D_law_changed hr2 (pa_cons (pv 2) (pa_cons (pe_ix ix_list (pv 4) (pe_op op_add pe_int (pe_op op_mul pe_int (pv 6))) (fun _ _ => rfl)) (pa_cons (pe_ix ix_list (pv 4) (pe_op op_add pe_int (pe_op op_mul pe_int (pv 6))) (fun _ _ => rfl)) pa_nil)))))))
      (pss_cons (ps_asg (pe_d D_law_told hr (pa_cons (pv 2) pa_nil)) (pg_tup (by rfl) (pgs_cons (pg_name (i := 7) sc_law.nd rfl (.inl rfl)) (pgs_cons (pg_name (i := 8) sc_law.nd rfl (.inl rfl)) pgs_nil))))
      (pss_cons (ps_if (pt_cmpR op_eq (pe_ix ix_tup (pv 7) pe_int (fun _ _ => rfl)) pe_str (nomark _))
          (pss_one (ps_ret (pe_d D_law_read hr3 (pa_cons (pv 8) (pa_cons (pv 2) pa_nil))))) pss_nil)
      (pss_cons (ps_set (i := 9) sc_law.nd rfl (.inl rfl) (pe_ix ix_tup (pv 7) pe_int (fun _ _ => rfl)))
      (pss_cons (ps_if (PW.pt (pw_or (pt_cmpR op_eq (pv 5) pe_int (nomark _)) (pw_or (pt_val (pe_callB call_isi (by rfl) fIsi (by decide +kernel) (pa_cons (pv 9) (pa_cons (pe_bltn (v := .ty "bool") (by rfl) fBool (by decide +kernel) rfl) pa_nil)))) (pw_or1 (pt_not (pt_chain op_le op_lt pe_int (pv 9) (pe_callB call_len_seq (by rfl) fLen PySem.boot_len (pa_cons (pv 2) pa_nil))))))))
          (pss_one (ps_ret pe_bl)) pss_nil)
      (pss_cons (ps_set (i := 10) sc_law.nd rfl (.inl rfl) (pe_d D_law_told hr (pa_cons (pe_slice sl_list (pv 2) po_none (po_some (pv 9))) pa_nil)))
      (pss_cons (ps_if (PW.pt (pw_and (pt_cmpR op_gt (pv 9) pe_int (nomark _)) (pw_and1 (PW.pt (pw_or (pt_cmpR (op_neTw (hu_of hr)) (pe_ix ix_tup (pv 10) pe_int (fun _ _ => rfl)) (pe_tup (pa_cons pe_str (pa_cons (pe_un un_neg pe_int) pa_nil))) (nomark _)) (pw_or1 (pt_not (pt_val (pe_d D_law_read hr3 (pa_cons (pe_ix ix_tup (pv 10) pe_int (fun _ _ => rfl)) (pa_cons (pe_slice sl_list (pv 2) po_none (po_some (pv 9))) pa_nil)))))))))))
          (pss_one (ps_ret pe_bl)) pss_nil)
      (pss_cons (ps_if (PW.pt (pw_or (pt_cmpR (op_neTw (hu_of hr)) (pe_ix ix_tup (pe_d D_law_told hr (pa_cons (pe_slice sl_list (pv 2) po_none (po_some (pe_op op_add (pv 9) pe_int))) pa_nil)) pe_int (fun _ _ => rfl)) (pv 7) (nomark _)) (pw_or1 (pt_cmpR (op_neTw (hu_of hr)) (pe_ix ix_tup (pe_d D_law_told hr (pa_cons (pe_op op_cat (pe_slice sl_list (pv 2) po_none (po_some (pe_op op_add (pv 9) pe_int))) (pe_lst (pa_cons pe_str (pa_cons pe_str pa_nil)))) pa_nil)) pe_int (fun _ _ => rfl)) (pv 7) (nomark _)))))
          (pss_one (ps_ret pe_bl)) pss_nil)
      (pss_cons (ps_set (i := 11) sc_law.nd rfl (.inl rfl) (pe_callTy (call_dictP rfl) (by rfl) fDict (by decide +kernel) (pa_cons (pe_lc (own := [("_law_row_here", 3)]) (g := gName 3) (by rfl) sc_law.nd (pi_list (pe_ix ix_tup (pv 10) pe_int (fun _ _ => rfl))) (blkOk_by (own := [("_law_row_here", 3)]) (N := ["_law_script", "_law_by_digits", "_law_lines", "_law_row_here", "_law_xs", "_law_many", "_law_k", "_law_found", "_law_works", "_law_at", "_law_ahead", "_law_above"]) (sc := defScope (topS 61)) (by decide +kernel)) (fun _ _ _ _ _ => pg_name (i := 3) sc_law.nd rfl (Or.inl rfl)) (fun _ _ _ _ _ => pts_nil) (fun _ _ _ _ _ => (pe_tup (pa_cons (pe_ix (ix_tup_K (K := K) rfl) (pv 3) pe_int (fun _ _ => rfl)) (pa_cons (pe_ix (ix_tup_K (K := K) rfl) (pv 3) pe_int (fun _ _ => rfl)) pa_nil))))) pa_nil)))
      (pss_one (ps_ret (pe_or (pe_cmpR op_eq (pe_ix ix_tup (pv 7) pe_int (fun _ _ => rfl)) pe_str (nomark _)) (pe_one (pe_d D_law_misnamed hr2 (pa_cons (pe_split (pe_ix ix_list (pv 2) (pv 9) (fun _ _ => rfl)) pe_str) (pa_cons (pv 11) pa_nil))))))))))))))))))))), ?_⟩
    refine ⟨_, rfl, a, ns, 0, rfl, hS, fun v0 => ⟨_, _, rfl, rfl, cd (by decide) (by decide), _, _, rfl, rfl, md (by decide), rfl, ?_⟩⟩
    refine ⟨_, rfl, a, ns, rfl, hS, h63, fun pc ms H1 s1 e1 hm1 hm30 => ⟨_, rfl, pc, _, ms, rfl, SqL.of e1, by omega, fun pr as rs H2 s2 e2 R2 ok hrl => ?_⟩⟩
    have s02 := s1.trans s2
    refine ⟨pr, rfl, ⟨_, SqL.of e2⟩, fun D nD => lc_it (walk_list (xs := as.map V.ref)) (fun i H' => Same H2 H' ∧ H' D = some (.lst (((rs.take i).map Row.line).map V.str))) ⟨same_new nD, upd_same⟩ (fun _ _ _ hP => SqL.of (hP.1 _ _ e2)) (fun i y H3 H4 hi hP hY => ?_) (fun H3 hP => ?_)⟩
    · obtain ⟨s3, e3⟩ := hP
      obtain ⟨rfl, hy⟩ := hY
      have hi1 : i < as.length := by simpa using hi
      have hi2 : i < rs.length := by rw [← R2.1]; exact hi1
      have ha : as[i]? = some as[i] := List.getElem?_eq_getElem hi1
      have hr' : rs[i]? = some rs[i] := List.getElem?_eq_getElem hi2
      rw [List.getElem?_map, ha] at hy
      obtain rfl : V.ref as[i] = y := Option.some.inj hy
      have Ra := (R2.2 i _ _ ha hr').mono s3
      have Lr := GoodRow.line ok hr'
      have ht : rs.take (i + 1) = rs.take i ++ [rs[i]] := by rw [List.take_add_one, hr']; rfl
      have hw : (rs[i].words).length ≤ 60 := by
        have := Lr.words
        rw [(rowOf_words (GoodRow.row ok hr')).1] at this
        omega
      refine ⟨rfl, ⟨_, rfl, as[i], rs[i], rfl, Ra, hw, by have := Lr.ln; omega, fun H5 s5 => ⟨_, s5 _ _ e3, ?_, same_put (s3.trans s5) nD, ?_⟩⟩⟩
      · rw [List.length_map, List.length_map, List.length_take, sizeLine_eq]
        omega
      · rw [upd_same, ht, List.map_append, List.map_append]
        rfl
    obtain ⟨s3, e3⟩ := hP
    rw [List.length_map, R2.1, List.take_length] at e3
    have s03 := s02.trans s3
    have L0 : Lines 1300 46 (rs.map Row.line) := fun l hl => by
      obtain ⟨r, hr', rfl⟩ := List.mem_map.mp hl
      obtain ⟨i, hi, e⟩ := List.mem_iff_getElem.mp hr'
      exact GoodRow.line ok (k := i) (by rw [List.getElem?_eq_getElem hi, e])
    have hread0 := ok.read
    have hlen0 : (rs.map Row.line).length = rs.length := List.length_map _
    generalize rs.map Row.line = ls0 at e3 L0 hread0 hlen0
    refine ⟨_, rfl, a, ns, 12, rfl, s03.seq hS, fun u1 => ⟨_, rfl, a, ns, 1, rfl, s03.seq hS, fun u2 => ⟨_, _, rfl, rfl, cm_l (by decide) (by decide), _, _, rfl, rfl, _, rfl, a, ns, 0, rfl, s03.seq hS, fun u3 => ⟨_, _, rfl, rfl, _, _, rfl, by decide, by decide, fun px xs H4 s4 e4 hxl hxb => ?_⟩⟩⟩⟩
    have hx8 : xs.length = 8 := hxl
    obtain ⟨x0, hx0⟩ : ∃ x0, xs[0]? = some x0 := ⟨_, List.getElem?_eq_getElem (by omega)⟩
    refine ⟨_, rfl, px, _, _, _, rfl, rfl, SqL.of e4, at_ints (i := 0) hx0, _, _, rfl, rfl, md (by decide), ?_⟩
    have M0 := Int.emod_nonneg x0 (b := 4) (by decide)
    have M1 := Int.emod_lt_of_pos x0 (b := 4) (by decide)
    have s04 := s03.trans s4
    refine ⟨_, rfl, _, rfl, by omega, by omega, for_it walk_range (fun k σ H' => ∃ (y1 y3 y6 y7 y8 y9 y10 y11 : Option V) (D : Addr) (ls : List Str), σ = [some (.ref a), y1, some (.ref D), y3, some (.ref px), some (.int (x0 % 4)), y6, y7, y8, y9, y10, y11] ∧ Same H H' ∧ H' px = some (.lst (xs.map V.int)) ∧ H' D = some (.lst (ls.map V.str)) ∧
      Lines (mk k) (46 + k) ls ∧ 1 ≤ ls.length ∧ ls.length ≤ 30 + k ∧ (k = 0 → ∃ rs, readAll ls = .ok rs)) ⟨_, _, _, _, _, _, _, _, D, ls0, rfl, s04, e4, s4 _ _ e3, L0, by omega, by omega, fun _ => ⟨rs, hread0⟩⟩ (fun _ _ _ _ _ => trivial) (fun k x σ H5 H6 hk hP hY => ?_) (fun σ H5 hP => ?_)⟩
    · obtain ⟨y1, y3, y6, y7, y8, y9, y10, y11, D, ls, rfl, s5, e5, e6, L, hl1, hl2, _⟩ := hP
      obtain ⟨rfl, hx⟩ := hY
      have hx : x = V.int (k : Int) := hx.trans (congrArg V.int (Int.zero_add _))
      subst hx
      have hk3 : k < 3 := by omega
      obtain ⟨xa, _, ea⟩ := at_memI (ns := xs) (k := 1 + 2 * (k : Int)) (by omega) (by omega)
      obtain ⟨xb, _, eb⟩ := at_memI (ns := xs) (k := 2 + 2 * (k : Int)) (by omega) (by omega)
      refine ⟨_, rfl, _, rfl, _, rfl, _, _, rfl, rfl, cm_l (by decide) (by decide), _, _, rfl, rfl, px, _, _, _, rfl, rfl, SqL.of e5, ea, _, rfl, _, rfl, _, _, rfl, rfl, cm_l (by decide) (by decide), _, _, rfl, rfl, px, _, _, _, rfl, rfl, SqL.of e5, eb, ?_⟩
      have hmk := mk_le (k := k) (by omega)
      exact ⟨D, xa, xb, ls, mk k, 46 + k, rfl, SqL.of e6, hl1, by omega, L, by omega, by omega, fun D2 ls2 H7 s7 e7 h1 h2 L2 => ⟨_, _, _, _, _, _, _, _, D2, ls2, rfl, s5.trans s7, s7 _ _ e5, e7, L2, h1, by omega, fun h => absurd h (Nat.succ_ne_zero k)⟩⟩
    obtain ⟨y1, y3, y6, y7, y8, y9, y10, y11, D, ls, rfl, s5, e5, e6, L, hl1, hl2, h0⟩ := hP
    have hMn : (x0 % 4).toNat ≤ 3 := by omega
    generalize hKK : (x0 % 4).toNat = kk at L hl2 h0 hMn
    have hmk := mk_le hMn
    have hmg := mk_ge kk
    refine ⟨_, rfl, D, ls, mk kk, 46 + kk, rfl, SqL.of e6, L, hmk, by omega, by omega, fun t fa wa H6 s6 et told => ⟨t, _, rfl, SqT.of et, rfl, _, _, rfl, _, _, rfl, rfl, ?_⟩⟩
    rw [eff_ne hl1] at told
    have eD := s6 _ _ e6
    have s06 := s5.trans s6
    cases hres : readAll ls with
    | ok rs1 =>
      rw [hres] at told
      obtain ⟨hf, as1, hw, R1⟩ := told
      refine ⟨_, rfl, fa, _, 0, _, rfl, rfl, SqT.of hf, rfl, rfl, _, rfl, iteT ?_⟩
      exact ⟨_, rfl, _, rfl, wa, D, as1, rs1, ls, mk kk, 46 + kk, rfl, hw, R1, SqL.of eD, hres, L, hmk, by omega, by omega, fun H' _ => q H'⟩
    | error e =>
      obtain ⟨bk, n⟩ := e
      rw [hres] at told
      obtain ⟨hf, hw⟩ := told_err told
      obtain ⟨_, hn, rs1, i3, i4, i5⟩ := read_err ls [] 0 bk n hres
      rw [Nat.zero_add] at hn
      rw [Nat.sub_zero] at i3 i4 i5
      have hdl : (ls.map V.str).length = ls.length := List.length_map _
      have hnr : decide (V.str (kdOf bk) = V.str (Str.ofString "read")) = false := eqF (kd_read bk)
      refine ⟨_, rfl, fa, _, 0, _, rfl, rfl, SqT.of hf, rfl, rfl, _, rfl, ?_⟩
      rw [hnr]
      refine iteF ⟨_, rfl, fa, _, 1, _, rfl, rfl, SqT.of hf, rfl, ?_⟩
      refine ⟨_, rfl, rfl, _, rfl, ite2 (fun h => ?_) (fun _ => ?_)⟩
      · have h := V.int.inj (of_decide_eq_true h)
        obtain ⟨rs2, h2⟩ := h0 (by omega)
        rw [hres] at h2
        cases h2
      refine ⟨_, rfl, .int (n : Int), .ty "bool", .type "int", _, false, rfl, .ty "bool", .base (.int _), kit_ty (by decide +kernel), _, rfl, iteF ?_⟩
      have c0 : decide ((0 : Int) ≤ (n : Int)) = true := decide_eq_true (by omega)
      refine ⟨_, rfl, _, _, rfl, rfl, _, rfl, ?_⟩
      rw [c0]
      refine iteT ⟨_, rfl, D, _, rfl, .inl (SqL.of eD), _, _, rfl, rfl, _, rfl, ?_⟩
      have c1 : decide ((n : Int) < ((ls.map V.str).length : Int)) = true := decide_eq_true (by omega)
      rw [c1]
      refine iteF ?_
      refine ⟨_, rfl, _, rfl, _, rfl, D, _, rfl, SqL.of eD, fun pl npl => ?_⟩
      rw [cut_nt]
      have t1 := same_new (o := .lst ((ls.take n).map V.str)) npl
      refine ⟨pl, ls.take n, mk kk, 46 + kk, rfl, SqL.of upd_same, L.take n, hmk, by omega, by simp; omega, fun t2 fa2 wa2 H7 s7 et2 told2 => ?_⟩
      have s07 := (s06.trans t1).trans s7
      have eD7 := s7 _ _ (t1 _ _ eD)
      have hf7 := s7 _ _ (t1 _ _ hf)
      clear t1
      have wrk : ∃ as2 : List Addr, H7 wa2 = some (.lst (as2.map V.ref)) ∧ RowsAt H7 as2 rs1 := by
        by_cases hn0 : n = 0
        · subst hn0
          rw [List.take_zero, read_nil] at i3
          cases i3
          rw [List.take_zero, read_empty] at told2
          exact ⟨[], (told_err told2).2, RowsAt.nil⟩
        · rw [eff_ne (by rw [List.length_take]; omega), show readAll (ls.take n) = .ok rs1 from i3] at told2
          obtain ⟨_, as2, h2, h3⟩ := told2
          exact ⟨as2, h2, h3⟩
      obtain ⟨as2, hw2, R2⟩ := wrk
      refine ⟨_, rfl, _, _, rfl, rfl, _, rfl, ite2 (fun hpos => ?p1) (fun _ => iteF ?p2)⟩
      case' p1 =>
        have hpos := of_decide_eq_true hpos
        rw [eff_ne (by rw [List.length_take]; omega), show readAll (ls.take n) = .ok rs1 from i3] at told2
        refine ⟨_, rfl, t2, _, 0, _, rfl, rfl, SqT.of et2, rfl, _, rfl, line2, fun p1 n1 => ?_⟩
        have v1 := same_new (o := .tup [.str (Str.ofString "read"), .int (-1)]) n1
        refine ⟨fa2, p1, _, _, rfl, rfl, SqT.of (v1 _ _ told2.1), SqT.of upd_same, .cons (.inl ⟨rfl, rfl⟩) (.cons (.inl ⟨rfl, rfl⟩) .nil), _, rfl, iteF ?_⟩
        refine ⟨_, rfl, t2, _, 1, _, rfl, rfl, SqT.of (v1 _ _ et2), rfl, _, rfl, _, rfl, _, rfl, D, _, rfl, SqL.of (v1 _ _ eD7), fun p2 n2 => ?_⟩
        rw [cut_nt]
        have v2 := same_new (o := .lst ((ls.take n).map V.str)) n2
        refine ⟨wa2, p2, as2, rs1, ls.take n, mk kk, 46 + kk, rfl, v2 _ _ (v1 _ _ hw2), R2.mono (v1.trans v2), SqL.of upd_same, i3, L.take n, hmk, by omega, by simp; omega, fun H8 v3 => ⟨_, rfl, iteF ?_⟩⟩
        have tt := (v1.trans v2).trans v3
        clear v1 v2 v3
      case' p2 =>
        have tt := Same.refl H7
      all_goals
        have eD8 := tt _ _ eD7
        have hf8 := tt _ _ hf7
        have et8 := tt _ _ et2
        have hw8 := tt _ _ hw2
        have R8 := R2.mono tt
        refine ⟨_, rfl, _, rfl, _, _, rfl, rfl, _, rfl, D, _, rfl, SqL.of eD8, fun p3 n3 => ?_⟩
        rw [cut_n1]
        have v4 := same_new (o := .lst ((ls.take (n + 1)).map V.str)) n3
        have hne1 : 1 ≤ (ls.take (n + 1)).length := by rw [List.length_take]; omega
        have r3 : readAll (ls.take (n + 1)) = .error (bk, n) := by
          have := i4 []
          rw [List.append_nil] at this
          exact this
        refine ⟨p3, ls.take (n + 1), mk kk, 46 + kk, rfl, SqL.of upd_same, L.take (n + 1), hmk, by omega, by simp; omega, fun t3 fa3 wa3 H9 v5 et3 told3 => ?_⟩
        rw [eff_ne hne1, r3] at told3
        have hf3 := (told_err told3).1
        have hf9 := v5 _ _ (v4 _ _ hf8)
        refine ⟨t3, _, 0, _, rfl, rfl, SqT.of et3, rfl, _, rfl, fa3, fa, _, _, rfl, rfl, SqT.of hf3, SqT.of hf9, .cons (.inl ⟨rfl, rfl⟩) (.cons (.inl ⟨rfl, rfl⟩) .nil), _, rfl, iteF ?_⟩
        have eD9 := v5 _ _ (v4 _ _ eD8)
        have v45 := v4.trans v5
        refine ⟨_, rfl, _, rfl, _, _, rfl, rfl, _, rfl, D, _, rfl, SqL.of eD9, fun p4 n4 => ?_⟩
        rw [cut_n1]
        have v6 := same_new (o := .lst ((ls.take (n + 1)).map V.str)) n4
        refine ⟨line2, fun p5 n5 => ?_⟩
        have v7 := same_new (o := .lst ([Str.ofString "", Str.ofString "in"].map V.str)) n5
        refine ⟨p4, p5, _, [Str.ofString "", Str.ofString "in"].map V.str, rfl, rfl, v7 _ _ upd_same, upd_same, ?_, fun p6 n6 => ?_⟩
        · rw [List.length_map, List.length_map, List.length_take, sizeLine_eq]
          show _ + 2 ≤ _
          omega
        rw [← List.map_append]
        have v8 := same_new (o := .lst ((ls.take (n + 1) ++ [Str.ofString "", Str.ofString "in"]).map V.str)) n6
        have hne2 : 1 ≤ (ls.take (n + 1) ++ [Str.ofString "", Str.ofString "in"]).length := by rw [List.length_append]; omega
        refine ⟨p6, ls.take (n + 1) ++ [Str.ofString "", Str.ofString "in"], mk kk, 46 + kk, rfl, SqL.of upd_same, (L.take (n + 1)).app hmg, hmk, by omega, ?_, fun t4 fa4 wa4 H10 v9 et4 told4 => ?_⟩
        · rw [List.length_append, List.length_take]
          show _ + 2 ≤ _
          omega
        rw [eff_ne hne2, show readAll (ls.take (n + 1) ++ [Str.ofString "", Str.ofString "in"]) = .error (bk, n) from i4 _] at told4
        have hf4 := (told_err told4).1
        have v69 := ((v6.trans v7).trans v8).trans v9
        have hf10 := v69 _ _ hf9
        refine ⟨t4, _, 0, _, rfl, rfl, SqT.of et4, rfl, _, rfl, fa4, fa, _, _, rfl, rfl, SqT.of hf4, SqT.of hf10, .cons (.inl ⟨rfl, rfl⟩) (.cons (.inl ⟨rfl, rfl⟩) .nil), _, rfl, iteF ?_⟩
        have vv := v45.trans v69
        have et10 := vv _ _ et8
        have hw10 := vv _ _ hw8
        have R10 := R8.mono vv
        have eD10 := vv _ _ eD8
        clear v4 v5 v6 v7 v8 v9 v45 v69 vv
        refine ⟨_, rfl, t2, _, 1, _, rfl, rfl, SqT.of et10, rfl, wa2, rfl, ⟨_, SqL.of hw10⟩, fun D2 nD2 => lc_it (walk_list (xs := as2.map V.ref)) (fun i H' => ∃ ps : List Addr, Same H10 H' ∧ H' D2 = some (.lst (ps.map V.ref)) ∧ Paired (fun p kv => H' p = some (.tup [kV kv.1, kv.2])) ps (dk (aboveOf (rs1.take i)))) ⟨[], same_new nD2, upd_same, .nil⟩
          (fun _ _ _ hP => by obtain ⟨_, e, _⟩ := hP; exact SqL.of (e _ _ hw10)) (fun i y H11 H12 hi hP hY => ?_) (fun H11 hP => ?_)⟩
        · obtain ⟨ps, w1, e11, hp⟩ := hP
          obtain ⟨rfl, hy⟩ := hY
          have hi1 : i < as2.length := by simpa using hi
          have hi2 : i < rs1.length := by rw [← R2.1]; exact hi1
          have ha : as2[i]? = some as2[i] := List.getElem?_eq_getElem hi1
          have hr' : rs1[i]? = some rs1[i] := List.getElem?_eq_getElem hi2
          rw [List.getElem?_map, ha] at hy
          obtain rfl : V.ref as2[i] = y := Option.some.inj hy
          obtain ⟨qa, qb, Q1, _, _⟩ := (R10.2 i _ _ ha hr').mono w1
          have ht : dk (aboveOf (rs1.take (i + 1))) = dk (aboveOf (rs1.take i)) ++ [(Sum.inr rs1[i].name, V.str rs1[i].word)] := by
            rw [List.take_add_one, hr']
            show dk (aboveOf (rs1.take i ++ [rs1[i]])) = _
            rw [aboveOf_snoc]
            unfold dk
            rw [List.map_append]
            rfl
          refine ⟨rfl, ⟨_, rfl, as2[i], _, 1, _, rfl, rfl, SqT.of Q1, rfl, _, rfl, as2[i], _, 0, _, rfl, rfl, SqT.of Q1, rfl, line2, fun p np => ⟨_, same_new np _ _ e11, ?_, ps ++ [p], same_put (w1.trans (same_new np)) nD2, ?_, ?_⟩⟩⟩
          · rw [List.length_map, Paired.length hp, dk_len, List.length_take, sizeLine_eq]
            have h1 := (read_ok _ [] 0 rs1 i3).1
            rw [List.length_take] at h1
            omega
          · rw [upd_same, List.map_append]
            rfl
          · have hneD : ∀ (b : Addr) (xs : List V), upd H12 p (.tup [.str rs1[i].name, .str rs1[i].word]) b = some (.tup xs) → upd (upd H12 p (.tup [.str rs1[i].name, .str rs1[i].word])) D2 (.lst (ps.map V.ref ++ [V.ref p])) b = some (.tup xs) := fun b xs hb => by
              rw [upd_ne (ne_of_val hb (same_new np _ _ e11) (fun x => by cases x))]
              exact hb
            rw [ht]
            exact paired_app (paired_imp hp fun b kv hb => hneD b _ (same_new np _ _ hb)) (.cons (hneD p _ upd_same) .nil)
        · obtain ⟨ps, w1, e11, hp⟩ := hP
          rw [List.length_map, R2.1, List.take_length] at hp
          refine ⟨D2, ps, _, rfl, SqL.of e11, paired_imp hp fun b kv hb => SqT.of hb, fun dd ndd => ?_⟩
          rw [merge_rows i3]
          have w2 := w1.trans (same_new (o := .dK (dk (aboveOf rs1))) ndd)
          have edd : upd H11 dd (.dK (dk (aboveOf rs1))) dd = some (.dK (dk (aboveOf rs1))) := upd_same
          generalize upd H11 dd (.dK (dk (aboveOf rs1))) = H13 at w2 edd
          refine ⟨_, rfl, fa, _, 0, _, rfl, rfl, SqT.of (w2 _ _ hf10), rfl, rfl, _, rfl, ?_⟩
          cases bk with
          | true => exact iteT (q H13)
          | false =>
            have hnt : decide (V.str (kdOf false) = V.str (Str.ofString "text")) = false := eqF (by decide +kernel)
            rw [hnt]
            obtain ⟨l, r, g1, g2, g3⟩ := i5 rfl
            rw [List.nil_append] at g3
            have hll : l.length ≤ 900000 := by
              have := (L l (List.mem_of_getElem? g1)).ln
              omega
            have hwl : words l = r.word :: r.name :: (r.froms ++ r.rest) := (rowOf_words g2).1
            refine iteF ⟨_, rfl, _, rfl, D, _, _, _, rfl, rfl, SqL.of (w2 _ _ eD10), at_strs g1, ⟨_, rfl⟩, _, _, rfl, rfl, rfl, by rw [sizeLine_eq]; omega, fun pw npw => ?_⟩
            rw [show Txt.split l (Str.ofString " ") = r.word :: r.name :: (r.froms ++ r.rest) from hwl]
            refine ⟨_, rfl, pw, dd, r.word, r.name, r.froms ++ r.rest, aboveOf rs1, rfl, SqL.of upd_same, same_new npw _ _ edd, ?_, fun H14 _ => ?_⟩
            · have := (L l (List.mem_of_getElem? g1)).words
              rw [hwl] at this
              simp at this ⊢
              omega
            · rw [mis_of g2, g3]
              exact q H14
end
end K19

set_option Elab.async false
set_option linter.all false
set_option maxRecDepth 100000
set_option maxHeartbeats 0
namespace K19
open PySem PySem.Spec PyProof.Rows L2
theorem facts {P : Program} {w : World} {K : PySem.W.Frag} {h : Heap} {mg : Str → Option Value} {f : Addr} (X : K.In h) (G : h.Ns mainGlobals mg) (hfa : mg ("law" : Str) = some (.ref f)) (ct : He.SaysT fa fn ts w K) (cm : ex K = true) :
    ∃ fd : FuncData, (∀ (s : Shared) (v : Value), BindsTo s fd ⟨[v], []⟩ [("_law_script", v)]) ∧ ∀ base : Heap, K.In base → base.Ns mainGlobals mg → FnOk P w K mg base CX0 134 f fd ["_law_script"] (spLaw K) := by
  have T := txt_of X G ct cm
  obtain ⟨f', fd, g, F⟩ := T.fl ("law", 61) (by decide +kernel)
  have e : f = f' := by
    have h1 := hfa.symm.trans g
    injection h1 with h2
    injection h2
  subst e
  have b := FunD.bindsA (ps := ["_law_script"]) F fun _ _ _ _ _ _ us hl => match us, hl with | [_], _ => rfl
  exact ⟨fd, fun s v => b s [v] rfl, fun base _ _ => D_law T F⟩
end K19
open PySem PySem.W PySem.Calls PyProof.Rows
theorem PySem.Challenge.cw_rowdam_k19_whole_texts_holds : PySem.Challenge.rw_rowdam_k19_whole_texts.Holds := by
  w_on; o_law
  refine HandSHeadRun.head_any (r := OpenLaw.row PySem.Challenge.rw_rowdam_k19_whole_texts) (q := view (OpenLaw.row PySem.Challenge.rw_rowdam_k19_whole_texts).prog [61]) (H := K19.hk) (ob := K19.ob) (M := 8000) (loose := K19.nm1 ++ K19.nm2 ++ K19.nm3) (d := HandSHeadRun.topDef (OpenLaw.row PySem.Challenge.rw_rowdam_k19_whole_texts).prog 61) (kwd := []) K19.ob_eq
    (by kernel_rfl) (fun s => by kernel_rfl) K19.run (by kernel_rfl) (by kernel_rfl) (by kernel_rfl) (by rfl) (by first | assumption | decide +kernel) (by decide +kernel) ⟨rfl, rfl, rfl, rfl, rfl, by decide +kernel⟩ ?hw ?hc
  case hw => w_witness2
  case hc =>
    refine L2.walk_ofE (l := PySem.Challenge.rw_rowdam_k19_whole_texts) (n := 63) (k := 134) (x := "_law_script") (CX := L2.CX0) rfl (by decide) (by kernel_rfl) ⟨rfl, by decide, by decide⟩ ?F (fun _ _ _ _ z => z)
    intro w mg fa h Y G hmg0
    obtain ⟨K, KX, ct, cm⟩ := Y
    have hmg : mg ("law" : PySem.Str) = some (.ref fa) := by
      have e : (HandSHeadRun.topDef (OpenLaw.row PySem.Challenge.rw_rowdam_k19_whole_texts).prog 61).name = ("law" : PySem.Str) := by kernel_rfl
      rw [← e]
      exact hmg0
    obtain ⟨fd, hb, hF⟩ := K19.facts (P := (PySem.Challenge.rw_rowdam_k19_whole_texts).prog) (w := w) KX G hmg ct cm
    exact ⟨K, fd, K19.spLaw K, KX, hb, fun H a ns hl _ hS => ⟨a, ns, rfl, hS, hl, fun _ => rfl⟩, hF⟩
