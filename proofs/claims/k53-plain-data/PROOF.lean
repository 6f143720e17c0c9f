import PyProof.Rows.All
import Wide.All
import OpenK.AllK
import Wide.FinOn
import HandS.Text
import HandS.Codes
import PyProof.EqAt
import PyProof.EqKinds
import PyProof.TupleCall
import PyProof.ReprRoads
import KE.GoesEnum
import HandS.ForMost
import HandS.ForExc
import HandS.IsInst
import HandS.Style
import HandS.TupAny
import HandS.WideBits
import HandS.Wide
import HandS.Deep
import HandS.Conv
import HandS.More
import HandS.RaiseMore
import KE.KIntText
import HandS.Walk
import PySem.Challenge.RW_wirewary_k53_whole_plain_data
set_option Elab.async false
set_option linter.all false
namespace M53
open PySem

/-! plain data as texts: the mirror of both readers and writers -/
def isLet (c : Nat) : Bool := decide (97 ≤ c) && decide (c ≤ 122)
def isDig (c : Nat) : Bool := decide (48 ≤ c) && decide (c ≤ 57)
def isDel (c : Nat) : Bool := c == 91 || c == 93 || c == 44
def wordL (l : List Nat) : Bool := match l with
  | [] => false
  | c :: r => decide (r.length ≤ 11) && isLet c && r.all fun x => isLet x || isDig x
def natL (l : List Nat) : Bool := match l with
  | [] => false
  | c :: r => isDig c && r.all isDig && (c != 48 || r.isEmpty)
/-- the integer of a text -/
def numOf (l : List Nat) : Option Int := match l with
  | 45 :: r => if natL r && r != [48] then some (-(NumText.digitsVal r : Int)) else none
  | r => if natL r then some (NumText.digitsVal r : Int) else none
def atomOf (l : List Nat) : Option PyData := if wordL l then some (.str (SX.S l)) else (numOf l).map .int
/-- the text of an integer -/
def intL (z : Int) : List Nat := if z < 0 then 45 :: TL.numL z.natAbs else TL.numL z.natAbs

mutual
def wT : PyData → Option (List Nat)
  | .tuple xs => (wTs xs).map fun l => 91 :: (l ++ [93])
  | .str s => if wordL (TL.tl s) then some (TL.tl s) else none
  | .int z => some (intL z)
  | _ => none
def wTs : List PyData → Option (List Nat)
  | [] => some []
  | d :: r => (wT d).bind fun a => (wTs r).map fun b => if r.isEmpty then a else a ++ 44 :: b
end

/-! ### numbers -/
theorem dv_snoc (l : List Nat) (c : Nat) : NumText.digitsVal (l ++ [c]) = NumText.digitsVal l * 10 + (c - 48) := by
  unfold NumText.digitsVal
  rw [List.foldl_append]
  rfl
theorem dig_iff {c : Nat} : isDig c = true ↔ 48 ≤ c ∧ c ≤ 57 := by
  unfold isDig
  rw [Bool.and_eq_true, decide_eq_true_iff, decide_eq_true_iff]
theorem dv_pos {c : Nat} {r : List Nat} (h : natL (c :: r) = true) (hc : c ≠ 48) : 0 < NumText.digitsVal (c :: r) := by
  have h1 : isDig c = true := by
    unfold natL at h
    simp only [Bool.and_eq_true] at h
    exact h.1.1
  obtain ⟨h2, h3⟩ := dig_iff.mp h1
  have : ∀ (r : List Nat) (a : Nat), 0 < a → 0 < r.foldl (fun acc c => acc * 10 + (c - 48)) a := by
    intro r
    induction r with
    | nil => intro a h; exact h
    | cons x r ih =>
      intro a h
      refine ih _ ?_
      show 0 < a * 10 + (x - 48)
      omega
  show 0 < (c :: r).foldl (fun acc c => acc * 10 + (c - 48)) 0
  rw [List.foldl_cons]
  refine this r _ ?_
  show 0 < 0 * 10 + (c - 48)
  omega
/-- a number without noughts ahead is the text of its value -/
theorem numL_of : ∀ (n : Nat) (l : List Nat), l.length = n → natL l = true → TL.numL (NumText.digitsVal l) = l
  | 0, l, hl, h => by
    cases l with
    | nil => simp [natL] at h
    | cons c r => simp at hl
  | n + 1, l, hl, h => by
    obtain ⟨p, c, rfl⟩ : ∃ p c, l = p ++ [c] := by
      rcases List.eq_nil_or_concat l with e | ⟨p, c, e⟩
      · rw [e] at hl
        simp at hl
      · exact ⟨p, c, by rw [e, List.concat_eq_append]⟩
    have hp : p.length = n := by simpa using hl
    rw [dv_snoc]
    cases p with
    | nil =>
      have hd : isDig c = true := by
        simp only [List.nil_append, natL, Bool.and_eq_true] at h
        exact h.1.1
      obtain ⟨h2, h3⟩ := dig_iff.mp hd
      have e : NumText.digitsVal [] * 10 + (c - 48) = c - 48 := by
        show 0 * 10 + (c - 48) = c - 48
        omega
      rw [e, TL.numL_lt (by omega)]
      have : 48 + (c - 48) = c := by omega
      rw [this]
      rfl
    | cons x p =>
      have hx : natL (x :: p) = true ∧ x ≠ 48 ∧ isDig c = true := by
        simp only [List.cons_append, natL, Bool.and_eq_true, List.all_append, List.all_cons, List.all_nil, Bool.or_eq_true, bne_iff_ne, ne_eq] at h
        obtain ⟨⟨h1, h2, h3, _⟩, h4⟩ := h
        have h5 : ¬ x = 48 := by
          rcases h4 with h4 | h4
          · exact h4
          · simp at h4
        refine ⟨?_, h5, h3⟩
        simp only [natL, Bool.and_eq_true, Bool.or_eq_true, bne_iff_ne, ne_eq]
        exact ⟨⟨h1, h2⟩, .inl h5⟩
      obtain ⟨ha, hb, hc⟩ := hx
      obtain ⟨h2, h3⟩ := dig_iff.mp hc
      have hpos := dv_pos ha hb
      have ih := numL_of n (x :: p) hp ha
      rw [TL.numL_step (by omega)]
      have e1 : (NumText.digitsVal (x :: p) * 10 + (c - 48)) / 10 = NumText.digitsVal (x :: p) := by omega
      have e2 : 48 + (NumText.digitsVal (x :: p) * 10 + (c - 48)) % 10 = c := by omega
      rw [e1, e2, ih]
theorem numL_nat (n : Nat) : natL (TL.numL n) = true := by
  induction n using Nat.strongRecOn with
  | ind n ih =>
    by_cases h : n < 10
    · rw [TL.numL_lt h]
      have : isDig (48 + n) = true := dig_iff.mpr (by omega)
      simp only [natL, this, List.all_nil, List.isEmpty_nil, Bool.or_true, Bool.and_self]
    · rw [TL.numL_step (by omega)]
      have i := ih (n / 10) (by omega)
      have hne : TL.numL (n / 10) ≠ [48] := by
        intro e
        have := congrArg NumText.digitsVal e
        rw [TL.numL_val] at this
        have e2 : NumText.digitsVal [48] = 0 := by decide
        rw [e2] at this
        omega
      cases q : TL.numL (n / 10) with
      | nil => exact absurd q (TL.numL_ne _)
      | cons c r =>
        rw [q] at i hne
        simp only [natL, Bool.and_eq_true, Bool.or_eq_true, bne_iff_ne, ne_eq] at i
        obtain ⟨⟨h1, h2⟩, h3⟩ := i
        have h4 : ¬ c = 48 := by
          rcases h3 with h3 | h3
          · exact h3
          · intro e
            apply hne
            rw [e]
            cases r with
            | nil => rfl
            | cons _ _ => simp at h3
        have h5 : isDig (48 + n % 10) = true := dig_iff.mpr (by omega)
        simp only [List.cons_append, natL, Bool.and_eq_true, List.all_append, List.all_cons, List.all_nil, Bool.or_eq_true, bne_iff_ne, ne_eq]
        exact ⟨⟨h1, h2, h5, trivial⟩, .inl h4⟩
theorem natL_ne45 {l : List Nat} (h : natL l = true) : ∀ r, l ≠ 45 :: r := by
  intro r e
  subst e
  simp [natL, isDig] at h
theorem numOf_nat {l : List Nat} (h : natL l = true) : numOf l = some (NumText.digitsVal l : Int) := by
  unfold numOf
  split
  · exact absurd rfl (natL_ne45 h _)
  · rw [if_pos h]
theorem numOf_neg (r : List Nat) : numOf (45 :: r) = if natL r && r != [48] then some (-(NumText.digitsVal r : Int)) else none := rfl
theorem numOf_intL (z : Int) : numOf (intL z) = some z := by
  unfold intL
  by_cases h : z < 0
  · rw [if_pos h, numOf_neg]
    have h1 := numL_nat z.natAbs
    have h2 : TL.numL z.natAbs ≠ [48] := by
      intro e
      have := congrArg NumText.digitsVal e
      rw [TL.numL_val] at this
      have e2 : NumText.digitsVal [48] = 0 := by decide
      rw [e2] at this
      omega
    rw [if_pos (by simp [h1, h2]), TL.numL_val]
    congr 1
    omega
  · rw [if_neg h, numOf_nat (numL_nat _), TL.numL_val]
    congr 1
    omega
theorem intL_numOf {l : List Nat} {z : Int} (h : numOf l = some z) : intL z = l := by
  unfold numOf at h
  split at h
  · rename_i r
    split at h
    · rename_i hc
      rw [Bool.and_eq_true, bne_iff_ne] at hc
      obtain ⟨h1, h2⟩ := hc
      cases h
      have hp : 0 < NumText.digitsVal r := by
        cases r with
        | nil => simp [natL] at h1
        | cons c r =>
          by_cases hc : c = 48
          · simp only [natL, Bool.and_eq_true, Bool.or_eq_true, bne_iff_ne, ne_eq] at h1
            rcases h1.2 with h3 | h3
            · exact absurd hc h3
            · cases r with
              | nil => exact absurd (by rw [hc]) h2
              | cons _ _ => simp at h3
          · exact dv_pos h1 hc
      unfold intL
      rw [if_pos (by omega)]
      have e : (-(NumText.digitsVal r : Int)).natAbs = NumText.digitsVal r := by omega
      rw [e, numL_of _ r rfl h1]
    · cases h
  · split at h
    · rename_i hc
      cases h
      unfold intL
      rw [if_neg (by omega)]
      have e : ((NumText.digitsVal l : Int)).natAbs = NumText.digitsVal l := by omega
      rw [e, numL_of _ l rfl hc]
    · cases h
theorem intL_ne (z : Int) : intL z ≠ [] := by
  unfold intL
  split
  · simp
  · exact TL.numL_ne _
/-- no word -/
theorem numOf_word {l : List Nat} {z : Int} (h : numOf l = some z) : wordL l = false := by
  cases l with
  | nil => rfl
  | cons c r =>
    have : isLet c = false := by
      unfold numOf at h
      split at h
      · rename_i e
        cases e
        rfl
      · split at h
        · rename_i hc
          simp only [natL, Bool.and_eq_true] at hc
          have := dig_iff.mp hc.1.1
          unfold isLet
          rw [decide_eq_false (by omega), Bool.false_and]
        · cases h
    simp only [wordL, this, Bool.and_false, Bool.false_and]
theorem atomOf_intL (z : Int) : atomOf (intL z) = some (.int z) := by
  unfold atomOf
  rw [numOf_word (numOf_intL z), if_neg (by simp), numOf_intL]
  rfl
/-- an atom's text is the one that it was read from -/
theorem wT_atomOf {l : List Nat} {d : PyData} (h : atomOf l = some d) : wT d = some l := by
  unfold atomOf at h
  split at h
  · rename_i hw
    cases h
    have e : TL.tl (SX.S l) = l := TL.tl_mk l
    simp only [wT, e, hw, if_pos]
  · cases q : numOf l with
    | none => rw [q] at h; cases h
    | some z =>
      rw [q] at h
      cases h
      simp only [wT, intL_numOf q]
/-! ### the law's reader: rows (the top first), the item that is done, the token -/
structure LS where
  rows : List (List PyData)
  done : Option PyData
  tok : List Nat
def flushL (s : LS) : Option LS := if s.tok = [] then some s else match s.done with
  | none => (atomOf s.tok).map fun a => ⟨s.rows, some a, []⟩
  | some _ => none
def actL (c : Nat) (s : LS) : Option LS :=
  if c = 91 then (match s.done with | none => some ⟨[] :: s.rows, none, s.tok⟩ | some _ => none)
  else if c = 44 then (match s.done, s.rows with | some d, r :: rs => some ⟨(r ++ [d]) :: rs, none, s.tok⟩ | _, _ => none)
  else if c = 93 then (match s.rows, s.done with
    | [], _ => none
    | r :: rs, none => if r = [] then some ⟨rs, some (.tuple []), s.tok⟩ else none
    | r :: rs, some d => some ⟨rs, some (.tuple (r ++ [d])), s.tok⟩)
  else some s
def stepL (s : LS) (c : Nat) : Option LS := if isDel c || c == 59 then (flushL s).bind (actL c) else some ⟨s.rows, s.done, s.tok ++ [c]⟩
def runL : LS → List Nat → Option LS
  | s, [] => some s
  | s, c :: r => (stepL s c).bind fun s' => runL s' r
def endL (s : LS) : Option PyData := if s.rows = [] then s.done else none
def lawRead (l : List Nat) : Option PyData := if 59 ∈ l then none else ((runL ⟨[], none, []⟩ l).bind flushL).bind endL

theorem runL_append (a b : List Nat) : ∀ s, runL s (a ++ b) = (runL s a).bind fun s' => runL s' b := by
  induction a with
  | nil => intro s; rfl
  | cons c r ih =>
    intro s
    simp only [List.cons_append, runL]
    cases stepL s c with
    | none => rfl
    | some s' => exact ih s'

/-! ### the program's reader -/
def pcs : List Nat → List Nat → List (List Nat)
  | cur, [] => if cur = [] then [] else [cur]
  | cur, c :: r => if isDel c then (if cur = [] then [] else [cur]) ++ [c] :: pcs [] r else pcs (cur ++ [c]) r
structure PSt where
  rows : List (List PyData)
  ready : Bool
  told : List PyData
def itemP (d : PyData) (s : PSt) : Option PSt :=
  if s.ready then (match s.rows with
    | r :: rs => some ⟨(r ++ [d]) :: rs, false, s.told⟩
    | [] => some ⟨[], false, s.told ++ [d]⟩) else none
def openP (s : PSt) : Option PSt := if s.ready && decide (s.rows.length < 1000) then some ⟨[] :: s.rows, s.ready, s.told⟩ else none
def closeP (s : PSt) : Option PSt := match s.rows with
  | [] => none
  | r :: rs => if s.ready && !r.isEmpty then none else itemP (.tuple r) ⟨rs, true, s.told⟩
def commaP (s : PSt) : Option PSt := if s.ready || s.rows.isEmpty then none else some ⟨s.rows, true, s.told⟩
/-- read_whole -/
def wholeP (l : List Nat) : Option Int := match l with
  | 45 :: r => if r.length ≤ 4000 then numOf l else none
  | r => if r.length ≤ 4000 then numOf l else none
def atomP (l : List Nat) : Option PyData := if wordL l then some (.str (SX.S l)) else (wholeP l).map .int
def takeP (s : PSt) (p : List Nat) : Option PSt :=
  if p = [91] then openP s else if p = [93] then closeP s else if p = [44] then commaP s else (atomP p).bind fun d => itemP d s
def runP : PSt → List (List Nat) → Option PSt
  | s, [] => some s
  | s, p :: r => (takeP s p).bind fun s' => runP s' r
def endP (s : PSt) : Option PyData := if s.rows = [] then (match s.told with | [d] => some d | _ => none) else none
def progRead (l : List Nat) : Option PyData := (runP ⟨[], true, []⟩ (pcs [] l)).bind endP

theorem runP_append (a b : List (List Nat)) : ∀ s, runP s (a ++ b) = (runP s a).bind fun s' => runP s' b := by
  induction a with
  | nil => intro s; rfl
  | cons c r ih =>
    intro s
    simp only [List.cons_append, runP]
    cases takeP s c with
    | none => rfl
    | some s' => exact ih s'

theorem numOf_len {l : List Nat} (h : l.length ≤ 4000) : wholeP l = numOf l := by
  unfold wholeP
  split
  · rw [if_pos (by simp at h; omega)]
  · rw [if_pos h]
theorem atomP_eq {l : List Nat} (h : l.length ≤ 4000) : atomP l = atomOf l := by
  unfold atomP atomOf
  rw [numOf_len h]

/-- how the two stand -/
def Rel (s : LS) (p : PSt) : Prop := match s.done with
  | none => p = ⟨s.rows, true, []⟩
  | some d => match s.rows with
    | [] => p = ⟨[], false, [d]⟩
    | r :: rs => p = ⟨(r ++ [d]) :: rs, false, []⟩
/-- both end alike -/
def Same2 (a : Option LS) (b : Option PSt) : Prop := match a, b with
  | some s, some p => Rel s p ∧ s.tok = []
  | none, none => True
  | _, _ => False
theorem del_ne59 {c : Nat} (h : isDel c = true) : c ≠ 59 := by
  intro e
  subst e
  simp [isDel] at h
theorem rel_item {s : LS} {p : PSt} {d : PyData} (h : Rel s p) (hn : s.done = none) : ∃ p', itemP d p = some p' ∧ Rel ⟨s.rows, some d, []⟩ p' := by
  obtain ⟨rows, done, tok⟩ := s
  cases hn
  unfold Rel at h
  simp only at h
  subst h
  cases rows with
  | nil => exact ⟨_, rfl, rfl⟩
  | cons r rs => exact ⟨_, rfl, rfl⟩
theorem rel_noitem {s : LS} {p : PSt} {d d' : PyData} (h : Rel s p) (hn : s.done = some d') : itemP d p = none := by
  obtain ⟨rows, done, tok⟩ := s
  cases hn
  unfold Rel at h
  cases rows with
  | nil => simp only at h; subst h; rfl
  | cons r rs => simp only at h; subst h; rfl
theorem rel_act {s : LS} {p : PSt} {c : Nat} (h : Rel s p) (ht : s.tok = []) (hd : isDel c = true) (hz : c = 91 → s.rows.length < 1000) : Same2 (actL c s) (takeP p [c]) := by
  obtain ⟨rows, done, tok⟩ := s
  cases ht
  unfold isDel at hd
  simp only [Bool.or_eq_true, beq_iff_eq] at hd
  rcases hd with (hd | hd) | hd
  · subst hd
    have hz := hz rfl
    simp only at hz
    unfold actL takeP
    rw [if_pos rfl, if_pos rfl]
    unfold Rel at h
    cases done with
    | none =>
      simp only at h
      subst h
      simp only [openP, hz, decide_true, Bool.and_self, if_true]
      exact ⟨rfl, rfl⟩
    | some d =>
      cases rows with
      | nil => simp only at h; subst h; exact trivial
      | cons r rs => simp only at h; subst h; exact trivial
  · subst hd
    unfold actL takeP
    rw [if_neg (by decide), if_neg (by decide), if_pos rfl, if_neg (by decide), if_pos rfl]
    unfold Rel at h
    cases done with
    | none =>
      simp only at h
      subst h
      cases rows with
      | nil => exact trivial
      | cons r rs =>
        cases r with
        | nil =>
          cases rs with
          | nil => exact ⟨rfl, rfl⟩
          | cons r rs => exact ⟨rfl, rfl⟩
        | cons x r => exact trivial
    | some d =>
      cases rows with
      | nil => simp only at h; subst h; exact trivial
      | cons r rs =>
        simp only at h
        subst h
        cases rs with
        | nil => exact ⟨rfl, rfl⟩
        | cons r rs => exact ⟨rfl, rfl⟩
  · subst hd
    unfold actL takeP
    rw [if_neg (by decide), if_pos rfl, if_neg (by decide), if_neg (by decide), if_pos rfl]
    unfold Rel at h
    cases done with
    | none =>
      simp only at h
      subst h
      cases rows with
      | nil => exact trivial
      | cons r rs => exact trivial
    | some d =>
      cases rows with
      | nil => simp only at h; subst h; exact trivial
      | cons r rs => simp only at h; subst h; exact ⟨rfl, rfl⟩

def cnt (l : List Nat) : Nat := l.countP (· == 91)
theorem act_rows {s s' : LS} {c : Nat} (h : actL c s = some s') : s'.rows.length ≤ s.rows.length + (if c = 91 then 1 else 0) := by
  unfold actL at h
  split at h
  · rename_i hc
    rw [if_pos hc]
    split at h
    · cases h; simp
    · cases h
  · rename_i hc
    rw [if_neg hc]
    split at h
    · split at h
      · cases h; rename_i e; rw [e]; simp
      · cases h
    · split at h
      · split at h
        · cases h
        · rename_i e _
          split at h
          · cases h; rw [e]; simp
          · cases h
        · rename_i e _
          cases h; rw [e]; simp
      · cases h; simp
theorem flush_rows {s s' : LS} (h : flushL s = some s') : s'.rows = s.rows ∧ s'.tok = [] := by
  unfold flushL at h
  split at h
  · cases h; exact ⟨rfl, by assumption⟩
  · split at h
    · cases q : atomOf s.tok with
      | none => rw [q] at h; cases h
      | some a => rw [q] at h; cases h; exact ⟨rfl, rfl⟩
    · cases h
theorem flush_same {s : LS} {p : PSt} (h : Rel ⟨s.rows, s.done, []⟩ p) (hl : s.tok.length ≤ 4000) (h1 : ∀ c ∈ s.tok, isDel c = false) :
    Same2 (flushL s) (runP p (if s.tok = [] then [] else [s.tok])) := by
  unfold flushL
  by_cases e : s.tok = []
  · rw [if_pos e, if_pos e]
    obtain ⟨rows, done, tok⟩ := s
    cases e
    exact ⟨h, rfl⟩
  · rw [if_neg e, if_neg e]
    have ht : takeP p s.tok = (atomP s.tok).bind fun d => itemP d p := by
      unfold takeP
      have n1 : ∀ c, isDel c = true → s.tok ≠ [c] := by
        intro c hc q
        have := h1 c (by rw [q]; simp)
        rw [hc] at this
        cases this
      rw [if_neg (n1 91 rfl), if_neg (n1 93 rfl), if_neg (n1 44 rfl)]
    unfold runP
    rw [ht, atomP_eq hl]
    obtain ⟨rows, done, tok⟩ := s
    simp only
    cases q : atomOf tok with
    | none =>
      cases done with
      | none => exact trivial
      | some d => exact trivial
    | some a =>
      cases done with
      | none =>
        obtain ⟨p', e1, e2⟩ := rel_item (d := a) h rfl
        simp only [Option.map_some, Option.bind_some, e1, runP]
        exact ⟨e2, rfl⟩
      | some d =>
        have := rel_noitem (d := a) h rfl
        simp only [Option.bind_some, this, Option.bind_none]
        exact trivial
/-- the two readers go alike -/
theorem run_same : ∀ (r : List Nat) (s : LS) (p : PSt), Rel ⟨s.rows, s.done, []⟩ p → (∀ c ∈ s.tok, isDel c = false) → 59 ∉ r → (∀ x ∈ pcs s.tok r, x.length ≤ 4000) → s.rows.length + cnt r ≤ 1000 →
    Same2 ((runL s r).bind flushL) (runP p (pcs s.tok r))
  | [], s, p, h, h1, _, hl, _ => by
    simp only [runL, pcs, Option.bind_some]
    refine flush_same h ?_ h1
    by_cases e : s.tok = []
    · rw [e]; simp
    · refine hl s.tok ?_
      simp only [pcs, if_neg e]
      exact List.mem_singleton.mpr rfl
  | c :: r, s, p, h, h1, h59, hl, hz => by
    have h59' : 59 ∉ r := fun m => h59 (List.mem_cons_of_mem _ m)
    have hc59 : (c == 59) = false := beq_eq_false_iff_ne.mpr fun e => h59 (by rw [e]; exact List.mem_cons_self)
    by_cases hd : isDel c = true
    · have e1 : runL s (c :: r) = ((flushL s).bind (actL c)).bind fun s' => runL s' r := by
        simp only [runL, stepL, hd, Bool.true_or, if_true]
      have e2 : pcs s.tok (c :: r) = (if s.tok = [] then [] else [s.tok]) ++ ([c] :: pcs [] r) := by
        simp only [pcs, hd, if_true]
      have hl1 : s.tok.length ≤ 4000 := by
        by_cases e : s.tok = []
        · rw [e]; simp
        · refine hl s.tok ?_
          rw [e2, if_neg e]
          simp
      have F := flush_same h hl1 h1
      rw [e1, e2, runP_append]
      cases q1 : flushL s with
      | none =>
        rw [q1] at F
        cases q2 : runP p (if s.tok = [] then [] else [s.tok]) with
        | none => exact trivial
        | some p1 => rw [q2] at F; exact F.elim
      | some s1 =>
        rw [q1] at F
        cases q2 : runP p (if s.tok = [] then [] else [s.tok]) with
        | none => rw [q2] at F; exact F.elim
        | some p1 =>
          rw [q2] at F
          obtain ⟨F1, F2⟩ := F
          obtain ⟨fr, ft⟩ := flush_rows q1
          have hcnt : cnt (c :: r) = (if c = 91 then 1 else 0) + cnt r := by
            unfold cnt
            rw [List.countP_cons]
            by_cases e : c = 91
            · rw [if_pos e, if_pos (by simp [e])]; omega
            · rw [if_neg e, if_neg (by simp [e])]; omega
          have A := rel_act (c := c) F1 F2 hd (fun e => by rw [fr]; rw [hcnt, if_pos e] at hz; omega)
          simp only [Option.bind_some, runP]
          cases q3 : actL c s1 with
          | none =>
            rw [q3] at A
            cases q4 : takeP p1 [c] with
            | none => exact trivial
            | some p2 => rw [q4] at A; exact A.elim
          | some s2 =>
            rw [q3] at A
            cases q4 : takeP p1 [c] with
            | none => rw [q4] at A; exact A.elim
            | some p2 =>
              rw [q4] at A
              obtain ⟨A1, A2⟩ := A
              have hr := act_rows q3
              simp only [Option.bind_some]
              have ih := run_same r s2 p2 (by obtain ⟨a, b, t⟩ := s2; exact A1) (by rw [A2]; intro c hc; cases hc) h59' (by rw [A2]; intro x hx; exact hl x (by rw [e2]; simp [hx])) (by rw [fr] at hr; rw [hcnt] at hz; omega)
              rw [A2] at ih
              exact ih
    · have hd' : isDel c = false := by simpa using hd
      have e1 : runL s (c :: r) = runL ⟨s.rows, s.done, s.tok ++ [c]⟩ r := by
        simp only [runL, stepL, hd', hc59, Bool.or_self, Bool.false_eq_true, if_false, Option.bind_some]
      have e2 : pcs s.tok (c :: r) = pcs (s.tok ++ [c]) r := by
        simp only [pcs, hd', Bool.false_eq_true, if_false]
      have hcnt : cnt (c :: r) = cnt r := by
        unfold cnt
        rw [List.countP_cons]
        have : c ≠ 91 := by intro e; subst e; simp [isDel] at hd'
        simp [this]
      rw [e1, e2]
      refine run_same r ⟨s.rows, s.done, s.tok ++ [c]⟩ p h ?_ h59' (by rw [e2] at hl; exact hl) (by rw [hcnt] at hz; exact hz)
      intro x hx
      rcases List.mem_append.mp hx with m | m
      · exact h1 x m
      · rw [List.mem_singleton.mp m]; exact hd'
theorem read_same {l : List Nat} (h59 : 59 ∉ l) (hl : ∀ x ∈ pcs [] l, x.length ≤ 4000) (hz : cnt l ≤ 1000) : lawRead l = progRead l := by
  have := run_same l ⟨[], none, []⟩ ⟨[], true, []⟩ rfl (by intro c hc; cases hc) h59 hl (by simpa using hz)
  unfold lawRead progRead
  rw [if_neg h59]
  cases q1 : (runL ⟨[], none, []⟩ l).bind flushL with
  | none =>
    rw [q1] at this
    cases q2 : runP ⟨[], true, []⟩ (pcs [] l) with
    | none => rfl
    | some p => rw [q2] at this; exact this.elim
  | some s =>
    rw [q1] at this
    cases q2 : runP ⟨[], true, []⟩ (pcs [] l) with
    | none => rw [q2] at this; exact this.elim
    | some p =>
      rw [q2] at this
      obtain ⟨h1, h2⟩ := this
      obtain ⟨rows, done, tok⟩ := s
      simp only [Option.bind_some, endL, endP]
      unfold Rel at h1
      cases done with
      | none => simp only at h1; subst h1; simp
      | some d =>
        cases rows with
        | nil => simp only at h1; subst h1; rfl
        | cons r rs => simp only at h1; subst h1; rfl
end M53

set_option maxRecDepth 100000
set_option maxHeartbeats 2000000
namespace Ux
open PySem PySem.Spec PyProof.Rows L2

/-! ### operations whose rule hangs on the types: any of some -/
section
variable {X : Cx} {K : PySem.W.Frag} {H : Hp} {Q : VK}
def rAddS : R2 := fun x y H Q => ∃ i j, x = .str i ∧ y = .str j ∧ i.length + j.length ≤ sizeLine ∧ Q (.str (i ++ j)) H
def rAddI : R2 := rI0 fun i j => .int (i + j)
def rAddU (K : PySem.W.Frag) : R2 := fun x y H Q => rAddI x y H Q ∨ rAddS x y H Q ∨ rCat x y H Q ∨ rCatA K x y H Q
theorem op_addU : OpR X (binaryOp .Add) (rAddU X.K) := op_add.or (OpR.or op_add_str (op_cat.or op_catA))
theorem add_i {i j : Int} (q : Q (.int (i + j)) H) : rAddU K (.int i) (.int j) H Q := .inl ⟨i, j, rfl, rfl, q⟩
theorem add_s {i j : Str} (h : i.length + j.length ≤ sizeLine) (q : Q (.str (i ++ j)) H) : rAddU K (.str i) (.str j) H Q := .inr (.inl ⟨i, j, rfl, rfl, h, q⟩)
theorem add_l {a b : Addr} {xs ys : List V} (h1 : H a = some (.lst xs)) (h2 : H b = some (.lst ys)) (hz : xs.length + ys.length ≤ sizeLine) (q : ∀ p, H p = none → Q (.ref p) (upd H p (.lst (xs ++ ys)))) : rAddU K (.ref a) (.ref b) H Q :=
  .inr (.inr (.inl ⟨a, b, xs, ys, rfl, rfl, h1, h2, hz, q⟩))

def rMulS : R2 := fun x y H Q => ∃ i n, x = .str i ∧ y = .int n ∧ MulOk i n ∧ Q (.str (Txt.mul i n)) H
theorem op_mul_str : OpR X (binaryOp .Mult) rMulS := by
  intro pins s σ H x y v u Q I rx ry h
  obtain ⟨i, n, rfl, rfl, ok, q⟩ := h
  obtain ⟨t, rfl⟩ := rx
  obtain ⟨t', rfl⟩ := ry
  exact SB.mul ok fun t' k => ⟨.str _, H, I.tok _, ⟨_, rfl⟩, q⟩
def rMulI : R2 := rI CMul fun i j => .int (i * j)
def rMulU : R2 := fun x y H Q => rMulI x y H Q ∨ rMulS x y H Q ∨ rRep x y H Q
theorem op_mulU : OpR X (binaryOp .Mult) rMulU := op_mul.or (op_mul_str.or op_rep)
theorem mul_i {i j : Int} (h : CMul i j) (q : Q (.int (i * j)) H) : rMulU (.int i) (.int j) H Q := .inl ⟨i, j, rfl, rfl, h, q⟩
theorem mul_s {i : Str} {n : Int} (h : MulOk i n) (q : Q (.str (Txt.mul i n)) H) : rMulU (.str i) (.int n) H Q := .inr (.inl ⟨i, n, rfl, rfl, h, q⟩)
theorem mul_l {a : Addr} {k : Int} {xs : List V} (h1 : H a = some (.lst xs)) (h2 : 0 ≤ k) (h3 : k < 2 ^ 63) (hz : xs.length * k.toNat ≤ sizeLine) (q : ∀ p, H p = none → Q (.ref p) (upd H p (.lst (List.replicate k.toNat xs).flatten))) : rMulU (.ref a) (.int k) H Q :=
  .inr (.inr ⟨a, k, xs, rfl, rfl, h1, by omega, h3, hz, q⟩)
/-- a product of great ints, in place -/
theorem iop_mulX : OpR X (inplaceOp .Mult) (rI CMulX fun i j => .int (i * j)) := opI fun _ _ _ _ _ _ _ hc q => imul_int q hc.ok

def rEqU (K : PySem.W.Frag) : R2 := fun x y H Q => rEq x y H Q ∨ rEqD K x y H Q
def rNeU (K : PySem.W.Frag) : R2 := fun x y H Q => rNe x y H Q ∨ rNeD K x y H Q
theorem op_eqU (hu : X.A.units + 64 < cLine) : OpR X (compareOp .Eq) (rEqU X.K) := op_eq.or (op_eqD hu)
theorem op_neU (hu : X.A.units + 64 < cLine) : OpR X (compareOp .NotEq) (rNeU X.K) := op_ne.or (op_neD hu)
theorem eq_i {i j : Int} (q : Q (.bl (decide (i = j))) H) : rEqU K (.int i) (.int j) H Q := .inl ⟨rfl, by
  have e : decide (V.int i = V.int j) = decide (i = j) := by
    by_cases h : i = j
    · rw [h]; simp
    · rw [decide_eq_false h, decide_eq_false fun z => h (V.int.inj z)]
  rw [e]; exact q⟩
theorem ne_i {i j : Int} (q : Q (.bl (!decide (i = j))) H) : rNeU K (.int i) (.int j) H Q := .inl ⟨rfl, by
  have e : decide (V.int i = V.int j) = decide (i = j) := by
    by_cases h : i = j
    · rw [h]; simp
    · rw [decide_eq_false h, decide_eq_false fun z => h (V.int.inj z)]
  rw [e]; exact q⟩
theorem dec_strV {i j : Str} : decide (V.str i = V.str j) = decide (i = j) := by
  by_cases h : i = j
  · rw [h]; simp
  · rw [decide_eq_false h, decide_eq_false fun z => h (V.str.inj z)]
theorem eq_s {i j : Str} (q : Q (.bl (decide (i = j))) H) : rEqU K (.str i) (.str j) H Q := .inl ⟨rfl, by rw [dec_strV]; exact q⟩
theorem ne_s {i j : Str} (q : Q (.bl (!decide (i = j))) H) : rNeU K (.str i) (.str j) H Q := .inl ⟨rfl, by rw [dec_strV]; exact q⟩
theorem eq_d {x y : V} {d e : PyData} (h1 : Dp K H x d) (h2 : Dp K H y e) (s1 : SeqAt.shaped d = true) (s2 : SeqAt.shaped e = true) (q : Q (.bl (PyData.eqv d e)) H) : rEqU K x y H Q := .inr ⟨d, e, h1, h2, s1, s2, q⟩
theorem ne_d {x y : V} {d e : PyData} (h1 : Dp K H x d) (h2 : Dp K H y e) (s1 : SeqAt.shaped d = true) (s2 : SeqAt.shaped e = true) (q : Q (.bl (!PyData.eqv d e)) H) : rNeU K x y H Q := .inr ⟨d, e, h1, h2, s1, s2, q⟩

/-- one sign in a text -/
def rSign (neg : Bool) : R2 := fun x y H Q => ∃ (c : Nat) (z : Str), x = .str ⟨#[c]⟩ ∧ y = .str z ∧ Q (.bl (if neg then !decide (c ∈ z.cps.toList) else decide (c ∈ z.cps.toList))) H
def rSub (neg : Bool) : R2 := fun x y H Q => ∃ i j, x = .str i ∧ y = .str j ∧ Q (.bl (if neg then (!(!(Builtin.Str.occurrences j i 0 j.length 1).isEmpty)) else (!(Builtin.Str.occurrences j i 0 j.length 1).isEmpty))) H
def rInU (K : PySem.W.Frag) : R2 := fun x y H Q => rSign false x y H Q ∨ rSub false x y H Q ∨ rIn K false x y H Q ∨ rInD K x y H Q
def rNotInU (K : PySem.W.Frag) : R2 := fun x y H Q => rSign true x y H Q ∨ rSub true x y H Q ∨ rIn K true x y H Q ∨ rNotInD K x y H Q
theorem op_inU {k : Nat} (hr : Room k X.A) : OpR X (compareOp .In) (rInU X.K) := OpR.or op_in_sign (OpR.or op_in_str (OpR.or op_in_seq (op_inD (by have := hr.un; omega))))
theorem op_notInU {k : Nat} (hr : Room k X.A) : OpR X (compareOp .NotIn) (rNotInU X.K) := OpR.or op_notIn_sign (OpR.or op_notIn_str (OpR.or op_notIn_seq (op_notInD (by have := hr.un; omega))))
theorem in_c {c : Nat} {z : Str} (q : Q (.bl (decide (c ∈ z.cps.toList))) H) : rInU K (.str ⟨#[c]⟩) (.str z) H Q := .inl ⟨c, z, rfl, rfl, q⟩
theorem nin_c {c : Nat} {z : Str} (q : Q (.bl (!decide (c ∈ z.cps.toList))) H) : rNotInU K (.str ⟨#[c]⟩) (.str z) H Q := .inl ⟨c, z, rfl, rfl, q⟩
theorem in_d {x : V} {a : Addr} {d : PyData} {ds : List PyData} (h1 : Dp K H x d) (h2 : Dp K H (.ref a) (.list ds)) (s1 : SeqAt.shaped d = true) (s2 : SeqAt.shaped (.list ds) = true) (q : Q (.bl (ds.any fun z => PyData.eqv z d)) H) : rInU K x (.ref a) H Q :=
  .inr (.inr (.inr ⟨d, ds, h1, h2, s1, s2, q⟩))
theorem nin_d {x : V} {a : Addr} {d : PyData} {ds : List PyData} (h1 : Dp K H x d) (h2 : Dp K H (.ref a) (.list ds)) (s1 : SeqAt.shaped d = true) (s2 : SeqAt.shaped (.list ds) = true) (q : Q (.bl (!ds.any fun z => PyData.eqv z d)) H) : rNotInU K x (.ref a) H Q :=
  .inr (.inr (.inr ⟨d, ds, h1, h2, s1, s2, q⟩))

def rLeS : R2 := fun x y H Q => ∃ i j, x = .str i ∧ y = .str j ∧ Q (.bl (!decide (j.cps.toList < i.cps.toList))) H
def rGeS : R2 := fun x y H Q => ∃ i j, x = .str i ∧ y = .str j ∧ Q (.bl (!decide (i.cps.toList < j.cps.toList))) H
def rLeU : R2 := fun x y H Q => (rI0 fun i j => .bl (decide (i ≤ j))) x y H Q ∨ rLeS x y H Q
def rGeU : R2 := fun x y H Q => (rI0 fun i j => .bl (decide (j ≤ i))) x y H Q ∨ rGeS x y H Q
theorem op_leU : OpR X (compareOp .LtE) rLeU := OpR.or op_le op_le_str
theorem op_geU : OpR X (compareOp .GtE) rGeU := OpR.or op_ge op_ge_str
theorem le_i {i j : Int} (q : Q (.bl (decide (i ≤ j))) H) : rLeU (.int i) (.int j) H Q := .inl ⟨i, j, rfl, rfl, q⟩
theorem ge_i {i j : Int} (q : Q (.bl (decide (j ≤ i))) H) : rGeU (.int i) (.int j) H Q := .inl ⟨i, j, rfl, rfl, q⟩
theorem le_s {i j : Str} (q : Q (.bl (!decide (j.cps.toList < i.cps.toList))) H) : rLeU (.str i) (.str j) H Q := .inr ⟨i, j, rfl, rfl, q⟩

def rSlU (K : PySem.W.Frag) : V → Option Int → Option Int → Hp → VK → Prop := fun x lo hi H Q => rSlL K x lo hi H Q ∨ rSlS x lo hi H Q ∨ rSlA K x lo hi H Q
theorem sl_U : SlR X (rSlU X.K) := SlR.or sl_list (SlR.or sl_str sl_tupA)
theorem cut_s {z : Str} {lo hi : Option Int} (h : z.length ≤ sizeLine) (q : Q (.str (cutS z lo hi)) H) : rSlU K (.str z) lo hi H Q := .inr (.inl ⟨z, rfl, h, q⟩)

theorem ip_of {op : Operator} {r : R2} (h : OpR X (inplaceOp op) r) : PIp X op r := h
end

/-! ### texts of great ints -/
structure Dg (K : PySem.W.Frag) : Prop where
  ok : PySem.W.nsOkIn K PySem.cStatics = true
  no : PySem.W.nsIn K PySem.cStatics "sys.int_max_str_digits" = some none
theorem Dg.nd {K : PySem.W.Frag} (d : Dg K) {h : Heap} (X : K.In h) : h.NoDigits := ⟨_, .of_isNs (PySem.W.isNs_of_in X d.ok), PySem.W.nsMap_none_of_in X d.ok d.no⟩
section
variable {X : Cx} {K : PySem.W.Frag} {H : Hp} {Q : VK}
def rStrI : List V → Hp → VK → Prop := fun xs H Q => ∃ i : Int, xs = [.int i] ∧ i.natAbs < 10 ^ 4300 ∧ Q (.str (toString i)) H
theorem call_strI (hc : X.calm = true) (d : Dg X.K) : CallR X (.type "str") rStrI := by
  intro pins s σ H xs us Q I r h
  obtain ⟨i, rfl, hz, q⟩ := h
  obtain ⟨u, rfl, t, rfl⟩ := vals1 r
  refine str_of_int_or (I.ok.hd hc) (d.nd I.kIn) (fun _ => ⟨.str _, H, I.tok _, ⟨_, rfl⟩, q⟩) fun hge => ?_
  exact absurd hz (Nat.not_lt.mpr hge)
def rStrS : List V → Hp → VK → Prop := fun xs H Q => ∃ a, xs = [.str a] ∧ Q (.str a) H
def rStrU : List V → Hp → VK → Prop := fun xs H Q => rStrI xs H Q ∨ rStrS xs H Q
theorem CallR.or {f : Value} {r r' : List V → Hp → VK → Prop} (h : CallR X f r) (h' : CallR X f r') : CallR X f (fun xs H Q => r xs H Q ∨ r' xs H Q) := by
  intro pins s σ H xs us Q I rr q
  rcases q with q | q
  · exact h pins s σ H xs us Q I rr q
  · exact h' pins s σ H xs us Q I rr q
theorem call_strU (hc : X.calm = true) (d : Dg X.K) : CallR X (.type "str") rStrU := CallR.or (call_strI hc d) SkE.call_str_str
theorem str_i {i : Int} (h : i.natAbs < 10 ^ 4300) (q : Q (.str (toString i)) H) : rStrU [.int i] H Q := .inl ⟨i, rfl, h, q⟩
theorem str_s {a : Str} (q : Q (.str a) H) : rStrU [.str a] H Q := .inr ⟨a, rfl, q⟩
end
end Ux

set_option maxHeartbeats 4000000
namespace Ux
open PySem PySem.Calls PySem.NumText PyProof.Rows PySem.W.KIN
theorem wp_textN {M : Model} {A : Around} {E : Value → Shared → Prop} {s : Shared} {Q : Value → Shared → Prop} {v : Value} {text : List Nat} {n : Int}
    (hs : ¬ (text.takeWhile (· != 0)).length ≤ 640) (hd : s.heap.NoDigits) (hr : (int_private% "readNumeral") 4300 10 (text.takeWhile (· != 0)) = (int_private% "Numeral.value") n)
    (ha : ((text.takeWhile (· != 0)).length == text.length) = true) (h : Q (.int n s.toks) { s with toks := s.toks + 1 }) :
    wpAny M A ((int_private% "intFromText") v text 10) Q E s := by
  obtain ⟨mc, hns, hnone⟩ := hd
  obtain ⟨hp, g, d, tk, os⟩ := s
  show wpAny M A (do
    let limit ← if (text.takeWhile (· != 0)).length ≤ 640 then pure 0 else Builtin.intMaxStrDigits
    _) Q E _
  rw [if_neg hs]
  unfold Builtin.intMaxStrDigits
  refine wpAny_bind (wpAny_bind (wpAny_nsGet hns ?_))
  rw [hnone]
  refine wpAny_pure ?_
  show wpAny M A (match (int_private% "readNumeral") 4300 10 (text.takeWhile (· != 0)) with | _ => _) Q E _
  rw [hr]
  dsimp only
  repeat (any_goals (first
    | assumption
    | (with_reducible refine wpAny_ite_true (decide_eq_true hs) ?_)
    | (with_reducible refine wpAny_ite_true (decide_eq_true ha) ?_)
    | wp_step))
theorem gives_text' {x : PySem.Str} {u : Tok} {n : Int} (hs : (numSeenOf x).length ≤ 640) (hn : PySem.intText? x = some n) : Gives (Builtin.«int.__new__» ⟨[.type "int", .str x u], []⟩) (.int n) :=
  .of_wp fun M A E s Q h => by
    obtain ⟨hp, g, d, tk, os⟩ := s
    have f1 := F.conv_sub_int
    have f2 := F.madeHere_int
    have f3 := str_int
    have f4 := str_idx
    have f5 := str_trunc
    have f6 : typeOf (.str x u) = pure (.type "str") := rfl
    have hr : (int_private% "readNumeral") 0 10 (numSeenOf x) = (int_private% "Numeral.value") n ∧ ((numSeenOf x).length == (numTextOf x).length) = true := by
      rcases read0 x hs with ⟨m, h1, h2, h3⟩ | ⟨h1, _⟩
      · rw [hn] at h1
        injection h1 with h1
        subst h1
        exact ⟨h3, h2⟩
      · rw [hn] at h1
        cases h1
    have hk := Hid.mk (And.intro hs hr)
    clear hs hr hn
    repeat (any_goals (first
      | assumption
      | ((with_reducible show wpAny _ _ ((int_private% "intFromText") _ _ _) _ _ _); refine wp_text hk.out.1 hk.out.2.1 hk.out.2.2 ?_)
      | wp_step))
    all_goals first | exact ⟨_, rfl, h⟩ | skip
structure HidN (p : Prop) : Prop where
  out : p
theorem meets_textN {x : PySem.Str} {u : Tok} {n : Int} (hx : x.length ≤ sizeLine) (hl : ¬ (numSeenOf x).length ≤ 640) (hn : PySem.intText? x = some n) :
    Meets (Builtin.«int.__new__» ⟨[.type "int", .str x u], []⟩) (fun _ R s => s.heap.NoDigits ∧ R (.ok (.ret (.int n s.toks))) { s with toks := s.toks + 1 }) :=
  Meets.of_wp fun prog w A R s hq => by
    obtain ⟨hd, h⟩ := hq
    have f1 := F.conv_sub_int
    have f2 := F.madeHere_int
    have f3 := str_int
    have f4 := str_idx
    have f5 := str_trunc
    have f6 : typeOf (.str x u) = pure (.type "str") := rfl
    have hr : (int_private% "readNumeral") 4300 10 (numSeenOf x) = (int_private% "Numeral.value") n ∧ ((numSeenOf x).length == (numTextOf x).length) = true := by
      rcases read4300 x hx with ⟨m, h1, h2, h3⟩ | ⟨h1, _⟩
      · rw [hn] at h1
        injection h1 with h1
        subst h1
        exact ⟨h3, h2⟩
      · rw [hn] at h1
        cases h1
    have hk := HidN.mk (And.intro hl (And.intro hd hr))
    clear hl hr hn hd hx
    obtain ⟨hp, g, d, tk, os⟩ := s
    repeat (any_goals (first
      | assumption
      | ((with_reducible show wpAny _ _ ((int_private% "intFromText") _ _ _) _ _ _); refine wp_textN hk.out.1 hk.out.2.1 hk.out.2.2.1 hk.out.2.2.2 ?_)
      | wp_step))
    all_goals first | exact ⟨_, rfl, h⟩ | skip
section
variable {prog : Program} {w : World} {A : Around} {E : Value → Shared → Prop} {s : Shared} {Q : Value → Shared → Prop} {x : PySem.Str} {t : Tok} {n : Int}
/-- int(x), x a text of a number, of at most 4300 digits -/
theorem call_textN (hd : s.heap.NoDigits) (hn : PySem.intText? x = some n) (hx : x.length ≤ sizeLine) (h : Q (.int n s.toks) { s with toks := s.toks + 1 }) : wpAny (model prog w) A (call (.type "int") [.str x t]) Q E s := by
  by_cases hl : (numSeenOf x).length ≤ 640
  · exact call_int_1 (gives_text' hl hn).meets (show (Made.int n).post _ s from ⟨rfl, h⟩)
  · exact call_int_1 (meets_textN hx hl hn) ⟨hd, rfl, h⟩
end
end Ux

namespace Ux
open PySem PySem.Spec PyProof.Rows L2
section
variable {X : Cx} {K : PySem.W.Frag} {H : Hp} {Q : VK}
def rIntI : List V → Hp → VK → Prop := fun xs H Q => (∃ i, xs = [.int i] ∧ Q (.int i) H) ∨ ∃ k, xs = [.bl k] ∧ Q (.int (if k then 1 else 0)) H
def rIntT : List V → Hp → VK → Prop := fun xs H Q => ∃ a n, xs = [.str a] ∧ PySem.intText? a = some n ∧ a.length ≤ sizeLine ∧ Q (.int n) H
def rIntU : List V → Hp → VK → Prop := fun xs H Q => rIntI xs H Q ∨ rIntT xs H Q
theorem call_intT (d : Dg X.K) : CallR X (.type "int") rIntT := by
  intro pins s σ H xs us Q I r h
  obtain ⟨a, n, rfl, hn, hz, q⟩ := h
  obtain ⟨u, rfl, t, rfl⟩ := vals1 r
  exact call_textN (d.nd I.kIn) hn hz ⟨.int n, H, I.tok _, ⟨_, rfl⟩, q⟩
theorem call_intU (d : Dg X.K) : CallR X (.type "int") rIntU := CallR.or call_int1 (call_intT d)
theorem int_i {i : Int} (q : Q (.int i) H) : rIntU [.int i] H Q := .inl (.inl ⟨i, rfl, q⟩)
theorem int_t {a : Str} {n : Int} (h : PySem.intText? a = some n) (hz : a.length ≤ sizeLine) (q : Q (.int n) H) : rIntU [.str a] H Q := .inr ⟨a, n, rfl, h, hz, q⟩

/-- repr of data of any depth -/
def rRepr (K : PySem.W.Frag) : List V → Hp → VK → Prop := fun xs H Q => ∃ x d, xs = [x] ∧ Dp K H x d ∧ d.showable = true ∧ d.hasDict = false ∧ d.shown.length ≤ sizeLine ∧ d.depth ≤ 4000 ∧ Q (.str d.shown) H
theorem call_reprD (hc : X.A.guards = some []) (hu : X.A.units + 4001 < cLine) : CallR X (.builtin "repr") (rRepr X.K) := by
  intro pins s σ H xs us Q I r h
  obtain ⟨x, d, rfl, hd, hs, hn, hz, hdp, q⟩ := h
  obtain ⟨u, rfl, rx⟩ := vals1 r
  obtain ⟨as, rd⟩ := Dp.reads I d x u hd rx
  have fin : ∀ h' (k t : Nat), (∀ b o, s.heap.get? b = some o → h'.get? b = some o) → EP X pins σ Q (.str d.shown t) { s with heap := h', toks := k } := fun h' k t hk =>
    ⟨.str _, H, I.kept hk, ⟨_, rfl⟩, q⟩
  cases hd with
  | non =>
    cases rx
    exact PySem.P.repr_of_none (fin s.heap _ _ fun _ _ e => e)
  | bl b =>
    cases rx
    exact PySem.P.repr_of_bool (fin s.heap _ _ fun _ _ e => e)
  | int i =>
    obtain ⟨t, rfl⟩ := rx
    exact PySem.P.repr_of_int (by simpa [PyData.showable] using hs) (fin s.heap _ _ fun _ _ e => e)
  | str z =>
    obtain ⟨t, rfl⟩ := rx
    exact PySem.P.repr_of_str (fin s.heap _ _ fun _ _ e => e) (by simpa only [PyData.shown] using hz)
  | lst hs' ha =>
    cases rx
    exact repr_of_reads' rd hs (fun z => by rw [hn] at z; cases z) hc (by omega) (fun _ _ e => e) (fun h' t k hk => fin h' k t hk) hz
  | tup hs' ha =>
    cases rx
    exact repr_of_reads' rd hs (fun z => by rw [hn] at z; cases z) hc (by omega) (fun _ _ e => e) (fun h' t k hk => fin h' k t hk) hz
theorem isi {x : V} {a n : String} {b : Bool} (hx : TyX K H x (.type a)) (h : kitB a n = some b) (q : Q (.bl b) H) : rIsi K [x, .ty n] H Q := ⟨x, .ty n, .type a, .type n, b, rfl, .ty n, hx, kit_ty h, q⟩
end

/-! ### for i, c in enumerate(text) -/
section
/-- the signs of a text, each in a new pair with its place -/
def ItsE (x : Str) : It :=
  ⟨fun i _ => i < x.cps.size, fun i H v H' => ∃ T c, v = .ref T ∧ H T = none ∧ H' = upd H T (.tup [.int (i : Nat), .str ⟨#[c]⟩]) ∧ x.cps[i]? = some c, fun i _ => x.cps.size ≤ i⟩
theorem turn_enumS {P : Program} {w : World} {K : PySem.W.Frag} {elts : List Expr} {kk : Nat} {tpos : Pos} (x : Str) (t : Tok) (e it : Addr) (hne : e ≠ it) :
    Turn P w K (.Tuple elts kk tpos) (ItsE x) [e, it] e (fun i h => i ≤ x.cps.size ∧ (∃ old, IsEnum h e it (0 + ((i : Nat) : Int)) old) ∧ h.IsStrIter it (strIterType x) x t i) where
  mem := by simp
  obj := fun i h st b hb => by
    obtain ⟨_, ⟨old, he⟩, o, ho, hc, hd⟩ := st
    have e' : b = e ∨ b = it := by simpa using hb
    rcases e' with z | z
    · rw [z]; exact ⟨_, he, fun v q => nomatch q⟩
    · rw [z]; exact ⟨o, ho, fun v q => by rw [hd] at q; cases q⟩
  keep := fun i h h' st k => by
    obtain ⟨hi, ⟨old, he⟩, o, ho, hx⟩ := st
    exact ⟨hi, ⟨old, k e (by simp) _ he⟩, o, k it (by simp) _ ho, hx⟩
  item := by
    intro X hP hw hK hc i pins s σ H E I hf st hg
    subst hP hw hK
    obtain ⟨_, ⟨old, he⟩, hit⟩ := st
    have hel : e < s.heap.objs.size := Heap.lt_size he
    have hil : it < s.heap.objs.size := by
      obtain ⟨_, q, _⟩ := hit
      exact Heap.lt_size q
    have D := Draws.text (prog := X.prog) (w := X.w) (A := X.A.in1) (I.ok.hd hc) it x t
    refine wpAny_pyNext_enum_itemC D he hit hg hne (by simpa using hne) fun v h' tk hv ho hs' hT hsz hk => ?_
    obtain ⟨c, u, hcx, rfl⟩ := hv
    refine ⟨_, rfl, wpAny_letOwnedTupleGo_enum (s := { s with heap := h', toks := tk + 1 }) ho fun h2 he' sb => ?_⟩
    have hT2 : h2.get? s.heap.objs.size = some { cls := .type "tuple", data := .seq #[.int (0 + ((i : Nat) : Int)) tk, .str ⟨#[c]⟩ u] } := (sb.2 _ (Nat.ne_of_gt hel)).trans hT
    have new : ObjOk X.prog X.w (upd H s.heap.objs.size (.tup [.int (i : Nat), .str ⟨#[c]⟩])) h2 s.heap.objs.size (.tup [.int (i : Nat), .str ⟨#[c]⟩]) :=
      ⟨by show 2 ≤ sizeLine; decide, [.int (0 + ((i : Nat) : Int)) tk, .str ⟨#[c]⟩ u], .cons ⟨tk, by rw [Int.zero_add]⟩ (.cons ⟨u, rfl⟩ .nil), ⟨_, hT2, rfl, _, rfl⟩⟩
    have I1 : Inv X pins σ (upd H s.heap.objs.size (.tup [.int (i : Nat), .str ⟨#[c]⟩])) { s with heap := h2, toks := tk + 1 } :=
      I.turnedNew (ch := [e, it]) (fun b ob hb q => (sb.2 b fun z => hb (by simp [z])).trans (hk b ob (fun z => hb (by simp [z])) (fun z => hb (by simp [z])) q)) hf (Nat.le_refl _) new
    refine ⟨.ref s.heap.objs.size, _, I1, rfl, ⟨_, c, rfl, I.hok.fresh (Nat.le_refl _), rfl, hcx⟩, ⟨hg, ⟨.str ⟨#[c]⟩ u, ?_⟩, ?_⟩, fun b hb => ?_⟩
    · have e1 : (0 : Int) + ((i + 1 : Nat) : Int) = 0 + ((i : Nat) : Int) + 1 := by omega
      rw [e1]
      exact he'
    · obtain ⟨o, q, r⟩ := hs'
      exact ⟨o, (sb.2 it (Ne.symm hne)).trans q, r⟩
    · have hb' : b < s.heap.objs.size := by
        have e' : b = e ∨ b = it := by simpa using hb
        rcases e' with z | z
        · rw [z]; exact hel
        · rw [z]; exact hil
      rw [upd_ne (Nat.ne_of_lt hb')]
      exact (hf b hb).1
  done := by
    intro X hP hw hK hc i pins s σ H E I hf st hg
    subst hP hw hK
    obtain ⟨hi, ⟨old, he⟩, hit⟩ := st
    have hi' : i = x.cps.size := Nat.le_antisymm hi hg
    subst hi'
    obtain ⟨f0, f1, f2, f3, f4, f5⟩ := hf it (by simp)
    have D := Draws.text (prog := X.prog) (w := X.w) (A := X.A.in1) (I.ok.hd hc) it x t
    exact wpAny_pyNext_enum_endD D he hit fun h' eb => ⟨rfl, I.turned (t' := s.toks) (fun b o hb q => eb b o hb q) f0 f1 f3 f4 f5⟩
  self := fun A i s Q E st h => let ⟨_, ⟨_, he⟩, _⟩ := st; wpAny_pyIter_enum he h
def iEnumS (ta : TA) : TI := fun σ H R => ta σ H fun vs H1 => ∃ x, vs = [.str x] ∧ R (ItsE x) H1
theorem pi_enumS {X : Cx} {e : Expr} {ta : TA} {p pos tpos : Pos} {elts : List Expr} {kk : Nat} (hg : Gl X "enumerate") (hm : X.mg "enumerate" = none) (ha : PA X [e] ta) (hs : starEach [e] X.env = [(false, eval e X.env)] := by rfl) :
    PI X (.Tuple elts kk tpos) (.Call (.Name "enumerate" p) [e] [] pos) (iEnumS ta) := by
  refine ⟨fun pins s σ H R I h => ?_⟩
  refine Call_ (ld_blt I hg hm boot_enumerate (PyProof.Rows.callWith_type1 (thn (ha.run pos pins s σ H _ I h) fun us s1 ⟨vs, H1, I1, r1, q1⟩ => ?_) hs rfl))
  obtain ⟨x, ex, q⟩ := q1
  subst ex
  obtain ⟨u, rfl, t, rfl⟩ := vals1 r1
  refine call_enumerate_str fun h' he hit hsz hk => wpAny_pyIter_enum he ?_
  have I2 : Inv X pins σ H1 { s1 with heap := h' } := I1.kept (t' := s1.toks) hk
  have hz : IsEnum h' (s1.heap.objs.size + 1) s1.heap.objs.size (0 + ((0 : Nat) : Int)) .none := he
  refine ⟨s1.heap.objs.size + 1, [s1.heap.objs.size + 1, s1.heap.objs.size], _, _, H1, rfl, I2, turn_enumS x t (s1.heap.objs.size + 1) s1.heap.objs.size (Nat.succ_ne_self _), ⟨Nat.zero_le _, ⟨.none, hz⟩, hit⟩, fun b hb => ?_, q⟩
  have e' : b = s1.heap.objs.size + 1 ∨ b = s1.heap.objs.size := by simpa using hb
  have hle : s1.heap.objs.size ≤ b := by
    rcases e' with z | z
    · rw [z]; exact Nat.le_add_right _ _
    · rw [z]; exact Nat.le_refl _
  exact I1.fpOk hle (I1.hok.fresh hle)
end
end Ux

namespace Ux
open PySem PySem.Spec PyProof.Rows L2
/-! ### a def, a method, a class of the program, with the promise that it keeps -/
structure Cl (P : Program) (w : World) (K : PySem.W.Frag) (mg : Str → Option Value) (base : Heap) (k : Nat) (x : Str) (sp : Sp) : Prop where
  ex : ∃ f fd ps, FnOk P w K mg base (L2.CX P w) k f fd ps sp ∧ mg x = some (.ref f) ∧ PySem.W.keepIn K (.ref f) = true ∧ Binds K fd ps []
structure Md (P : Program) (w : World) (K : PySem.W.Frag) (mg : Str → Option Value) (base : Heap) (k : Nat) (C : Addr) (m : Str) (sp : Sp) : Prop where
  ex : ∃ f fd ps, Cls K C ∧ Meth K C m f ∧ FnOk P w K mg base (L2.CX P w) k f fd ps sp ∧ Binds K fd ps []
structure Mr (P : Program) (w : World) (K : PySem.W.Frag) (mg : Str → Option Value) (base : Heap) (k : Nat) (x : Str) (C : Addr) (sp : Sp) (dvs : List V) : Prop where
  ex : ∃ f fd ps ds, Mk K C f ∧ FnOk P w K mg base (L2.CX P w) k f fd ps sp ∧ mg x = some (.ref C) ∧ Binds K fd ps ds ∧ Vals dvs ds
section
variable {X : Cx} {k j : Nat} {C : Addr} {x m : Str} {sp : Sp} {dvs : List V} {p pos apos : Pos} {e o : Expr} {es : List Expr} {ta : TE} {t : TA} {W : WX} {E : XK}
/-- a call of which E is wished, in a def's body -/
theorem pcall (c : Cl X.prog X.w X.K X.mg X.base k x sp) (hr : Room j X.A) (hk : k ≤ j) (hg : Gl X x) (hx : Passes (L2.CX X.prog X.w) X E) (ha : PA X (e :: es) t) (hdb : (x == ("__debug__" : Str)) = false := by decide)
    (he : starEach (e :: es) X.env = (false, eval e X.env) :: starEach es X.env := by rfl) (hpl : (backTo pos (starEach es X.env)).any (·.1) = false := by rfl) : PE X (.Call (.Name x p) (e :: es) [] pos) (tCall sp [] E t) := by
  obtain ⟨f, fd, ps, F, hm, kp, hb⟩ := c.ex
  exact pe_call F (hr.mono hk) hg hm kp hb .nil hx ha hdb he hpl
/-- .. within a try -/
theorem pcallT (c : Cl X.prog X.w X.K X.mg X.base k x sp) (hr : Room j X.A) (hk : k ≤ j) (hg : Gl X x) (tk : Takes X W) (ha : PA X (e :: es) t) (hdb : (x == ("__debug__" : Str)) = false := by decide)
    (he : starEach (e :: es) X.env = (false, eval e X.env) :: starEach es X.env := by rfl) (hpl : (backTo pos (starEach es X.env)).any (·.1) = false := by rfl) : PE X (.Call (.Name x p) (e :: es) [] pos) (tCallS sp (WE W) t) := by
  obtain ⟨f, fd, ps, F, hm, kp, hb⟩ := c.ex
  exact pe_callS F (hr.mono hk) hg hm kp hb (fun σ => passAt tk σ) ha hdb he hpl
/-- .. that raises nothing -/
theorem pcall0 (c : Cl X.prog X.w X.K X.mg X.base k x sp) (hr : Room j X.A) (hk : k ≤ j) (hg : Gl X x) (ha : PA X (e :: es) t) (hdb : (x == ("__debug__" : Str)) = false := by decide)
    (he : starEach (e :: es) X.env = (false, eval e X.env) :: starEach es X.env := by rfl) (hpl : (backTo pos (starEach es X.env)).any (·.1) = false := by rfl) : PE X (.Call (.Name x p) (e :: es) [] pos) (tCall sp [] E0 t) :=
  pcall c hr hk hg passL ha hdb he hpl
theorem pmeth {pl : Sem Bool} (c : Md X.prog X.w X.K X.mg X.base k C m sp) (hr : Room j X.A) (hk : k ≤ j) (hx : Passes (L2.CX X.prog X.w) X E) (he : PE X o ta) (ha : PA X (e :: es) t)
    (hst : starEach (e :: es) X.env = (false, eval e X.env) :: starEach es X.env := by rfl) (hpl : (backTo pos (starEach es X.env)).any (·.1) = false := by rfl)
    (ht : eval (.Call (.Attribute o m apos) (e :: es) [] pos) X.env = (do
      let ov ← eval o X.env
      standAt apos.atName
      let (f, first) ← holding [ov] (getMethod ov m pl)
      callWith pos f first (backTo pos (starEach (e :: es) X.env)) (backToKw pos (keywordEach [] X.env))) := by rfl) : PE X (.Call (.Attribute o m apos) (e :: es) [] pos) (tMeth C m sp [] E ta t) := by
  obtain ⟨f, fd, ps, hc, hm, F, hb⟩ := c.ex
  exact pe_meth he hc hm F (hr.mono hk) hb .nil hx ha hst hpl ht
theorem pmethN {pl : Sem Bool} (c : Md X.prog X.w X.K X.mg X.base k C m sp) (hr : Room j X.A) (hk : k ≤ j) (hx : Passes (L2.CX X.prog X.w) X E) (he : PE X o ta)
    (ht : eval (.Call (.Attribute o m apos) [] [] pos) X.env = (do
      let ov ← eval o X.env
      standAt apos.atName
      let (f, first) ← holding [ov] (getMethod ov m pl)
      callWith pos f first (backTo pos (starEach [] X.env)) (backToKw pos (keywordEach [] X.env))) := by rfl) : PE X (.Call (.Attribute o m apos) [] [] pos) (tMeth C m sp [] E ta tNil) := by
  obtain ⟨f, fd, ps, hc, hm, F, hb⟩ := c.ex
  exact pe_meth0 he hc hm F (hr.mono hk) hb .nil hx ht
theorem pmakeN (c : Mr X.prog X.w X.K X.mg X.base k x C sp dvs) (hr : Room j X.A) (hk : k + 1 ≤ j) (hg : Gl X x) (hx : Passes (L2.CX X.prog X.w) X E) (hdb : (x == ("__debug__" : Str)) = false := by decide) :
    PE X (.Call (.Name x p) [] [] pos) (tMake C sp dvs E tNil) := by
  obtain ⟨f, fd, ps, ds, M, F, hm, hb, hd⟩ := c.ex
  exact pe_make0 M F (hr.mono hk) hg hm hb hd hx hdb
theorem pmake (c : Mr X.prog X.w X.K X.mg X.base k x C sp dvs) (hr : Room j X.A) (hk : k + 1 ≤ j) (hg : Gl X x) (hx : Passes (L2.CX X.prog X.w) X E) (ha : PA X (e :: es) t) (hdb : (x == ("__debug__" : Str)) = false := by decide)
    (he : starEach (e :: es) X.env = (false, eval e X.env) :: starEach es X.env := by rfl) (hpl : (backTo pos (starEach es X.env)).any (·.1) = false := by rfl) :
    PE X (.Call (.Name x p) (e :: es) [] pos) (tMake C sp dvs E t) := by
  obtain ⟨f, fd, ps, ds, M, F, hm, hb, hd⟩ := c.ex
  exact pe_make M F (hr.mono hk) hg hm hb hd hx ha hdb he hpl
end
/-- what leaves a def's body -/
theorem outX {P : Program} {w : World} {K : PySem.W.Frag} {mg : Str → Option Value} {base : Heap} {N : List Str} {qual : Str} {scope : Scope} {f : Addr} {cd : Value} {A : Around} {outer : List Env} {s : Shared} {H : Hp} {E : XK} :
    Passes (L2.CX P w) (cxOf (L2.CX P w) P w K mg base N qual scope f cd A outer s H E) E :=
  passes_call (W := fun cls d _ H => E cls d H) (takes_of rfl rfl rfl rfl) fun _ _ _ _ h => h

theorem bb_len : bootBuiltins "len" = some (.builtin "len") := by decide +kernel
theorem bb_int : bootBuiltins "int" = some (.type "int") := by decide +kernel
theorem bb_str : bootBuiltins "str" = some (.type "str") := by decide +kernel
theorem bb_bool : bootBuiltins "bool" = some (.type "bool") := by decide +kernel
theorem bb_abs : bootBuiltins "abs" = some (.builtin "abs") := by decide +kernel
theorem bb_tuple : bootBuiltins "tuple" = some (.type "tuple") := by decide +kernel
theorem bb_list : bootBuiltins "list" = some (.type "list") := by decide +kernel
theorem bb_isinstance : bootBuiltins "isinstance" = some (.builtin "isinstance") := by decide +kernel
theorem bb_all : bootBuiltins "all" = some (.builtin "all") := by decide +kernel
theorem bb_any : bootBuiltins "any" = some (.builtin "any") := by decide +kernel
theorem bb_repr : bootBuiltins "repr" = some (.builtin "repr") := by decide +kernel
theorem bb_sorted : bootBuiltins "sorted" = some (.builtin "sorted") := by decide +kernel
theorem bb_set : bootBuiltins "set" = some (.type "set") := by decide +kernel

/-! within a comprehension's block: the written part by its own name -/
section
variable {X : Cx}
theorem opK {f : Value → Value → Sem Value} {r : PySem.W.Frag → R2} (K : PySem.W.Frag) (h : OpR X f (r X.K)) (hK : X.K = K := by rfl) : OpR X f (r K) := by subst hK; exact h
theorem ixK {r : PySem.W.Frag → R2} (K : PySem.W.Frag) (h : IxR X (r X.K)) (hK : X.K = K := by rfl) : IxR X (r K) := by subst hK; exact h
theorem slK {r : PySem.W.Frag → V → Option Int → Option Int → Hp → VK → Prop} (K : PySem.W.Frag) (h : SlR X (r X.K)) (hK : X.K = K := by rfl) : SlR X (r K) := by subst hK; exact h
theorem callK {f : Value} {r : PySem.W.Frag → List V → Hp → VK → Prop} (K : PySem.W.Frag) (h : CallR X f (r X.K)) (hK : X.K = K := by rfl) : CallR X f (r K) := by subst hK; exact h
def rLenU (K : PySem.W.Frag) : List V → Hp → VK → Prop := fun xs H Q => ∃ x n, xs = [x] ∧ LenV K x H n ∧ Q (.int n) H
theorem call_lenU : CallR X (.builtin "len") (rLenU X.K) := call_len
def rTupOf (K : PySem.W.Frag) : List V → Hp → VK → Prop := fun xs H Q => ∃ p ys, xs = [.ref p] ∧ ((SqL K H p ys ∧ ∀ l, H l = none → Q (.ref l) (upd H l (.tup ys))) ∨ (SqT K H p ys ∧ Q (.ref p) H))
theorem call_tupOf : CallR X (.type "tuple") (rTupOf X.K) := call_tuple_of
def rLstOf (K : PySem.W.Frag) : List V → Hp → VK → Prop := fun xs H Q => ∃ p ys, xs = [.ref p] ∧ (SqL K H p ys ∨ SqT K H p ys) ∧ ∀ l, H l = none → Q (.ref l) (upd H l (.lst ys))
theorem call_lstOf : CallR X (.type "list") (rLstOf X.K) := call_list_of
def rAbs : List V → Hp → VK → Prop := fun xs H Q => ∃ i, xs = [.int i] ∧ Q (.int (if i < 0 then -i else i)) H
theorem call_absU : CallR X (.builtin "abs") rAbs := call_abs
end
/-- a built-in class as a value -/
theorem pe_ty {X : Cx} {x : Str} {n : String} {pos : Pos} (hg : Gl X x) (hm : X.mg x = none) (hv : bootBuiltins x = some (.type n)) (hn : x ≠ "__name__" := by decide) (hd : (x == ("__debug__" : Str)) = false := by decide) : PE X (.Name x pos) (tC (.ty n)) :=
  pe_bltn (v := .ty n) hg hm hv rfl hn hd
/-! ### the law's own body, where nothing is under way around it -/
/-- the def at f runs as promised, called by the law's caller -/
def RunG (P : Program) (w : World) (K : PySem.W.Frag) (mg : Str → Option Value) (base : Heap) (f : Addr) (fd : FuncData) (ps : List Str) (sp : Sp) : Prop :=
  ∀ (s : Shared) (H : Hp) (args : Args) (us : List Value) (vs : List V) (Q : VK) (E : XK), Env0 P w K mg base callerA [] s H → BindsTo s fd args (ps.zip us) → Vals vs us → sp vs H Q E →
    codeAny (model P w) callerA (.call (.ref f) args) (CR (L2.CX P w) [] P w H s Q E) s
/-- .. as a def of the text -/
theorem Fun.runG {P : Program} {w : World} {K : PySem.W.Frag} {mg : Str → Option Value} {base : Heap} {x qual : Str} {st : Stmt} {f : Addr} {fd : FuncData} {N ps : List Str} {k : Nat} {sp : Sp} (F : Fun K x qual st f fd) (S : FnScope N ps (defScope st))
    (len : ∀ vs H Q E, sp vs H Q E → vs.length = ps.length) (hr : Room (k + 1) callerA)
    (hbody : ∀ (cdv : Value) (s : Shared) (H : Hp) (vs : List V) (Q : VK) (E : XK), Room k (callerA.deeper (envOfC qual (defScope st) s.heap.objs.size f cdv)) → sp vs H Q E →
      ∃ t, PSs (cxOf (L2.CX P w) P w K mg base N qual (defScope st) f cdv callerA [] s H E) (defBody st) t ∧ t { nx := fun _ H' => Q .non H', rt := Q } (start N vs) H) : RunG P w K mg base f fd ps sp := by
  intro s H args us vs Q E e0 hb rv hsp
  obtain ⟨oc, od, kV, doc, pm, an, cdv, ct, osl, efd, lk, hcd⟩ := F.ex
  subst efd
  have kin : K.In s.heap := e0.mod.kin.keeps fun b o e => (e0.bs b o e).1
  have far : s.heap.NoLimit := e0.mod.nolimit.keeps fun b o e => (e0.bs b o e).1
  have hk : ∀ y ∈ ps.zip us, (defScope st).names.lookup y.1 = some .local ∨ ((defScope st).names.lookup y.1 = some .cell ∧ ((cellsFrom (s.heap.objs.size + 1) (defScope st).names []).lookup y.1).isSome = true) := by
    rintro ⟨n, v⟩ hy
    cases S.par n (List.of_mem_zip hy).1 with
    | inl q => exact .inl q
    | inr q => exact .inr ⟨q, PySem.W.cellsFrom_some _ _ _ (.inl q)⟩
  refine codeAny_call_function hr.depth (kin _ _ lk) rfl S.co S.gen rfl (PySem.W.codeRec_of kin hcd) (hb _ _ _ _ ?_)
  refine wpAny_newFunctionEnv_cells S.kind hk fun env he s1 z => ?_
  subst he
  refine ⟨far.keeps z.toInCall.keep, codeAny_func ?_⟩
  obtain ⟨t, ht, hq⟩ := hbody cdv s H vs Q E (hr.deeper _) hsp
  have J := inv_start (CX := L2.CX P w) (E := E) S hr.hd e0 (len _ _ _ _ hsp) rv z
  refine wpAny_mono (ht.run [] s1 (start N vs) H _ J hq) (fun fl s' hs => ?_) fun e s' hs => hs
  cases fl with
  | ret u =>
    obtain ⟨v, σ', H', J', rv', q⟩ := hs
    exact ⟨v, H', J'.os, J'.bare, J'.base, J'.hok, rv', q⟩
  | next =>
    obtain ⟨σ', H', J', q⟩ := hs
    exact ⟨.non, H', J'.os, J'.bare, J'.base, J'.hok, rfl, q⟩
  | brk => exact hs.elim fun _ z => z.elim fun _ z => z.2.elim
  | cont => exact hs.elim fun _ z => z.elim fun _ z => z.2.elim
end Ux

namespace Ux
open PySem PySem.Spec PyProof.Rows L2
/-- the script as the one thing that is tracked -/
def scriptH (a : Addr) (o : Obj) (ns : List Int) : Hp := fun b => if b = a then some (.frz o (.lst (ns.map V.int))) else none
theorem scriptH_at {a : Addr} {o : Obj} {ns : List Int} : scriptH a o ns a = some (.frz o (.lst (ns.map V.int))) := if_pos rfl
theorem scriptH_ne {a b : Addr} {o : Obj} {ns : List Int} (h : b ≠ a) : scriptH a o ns b = none := if_neg h
theorem law_callG {P : Program} {w : World} {K : PySem.W.Frag} {mg mb : Str → Option Value} {fa a : Addr} {fd : FuncData} {x : Str} {sp : Sp} {s : Shared} {vs : List Value} {ns : List Int}
    (kin : K.In s.heap) (gl : s.heap.Ns mainGlobals mg) (bl : s.heap.Ns builtinsNs mb) (bb : ∀ x : Str, x ≠ "__name__" → mb x = bootBuiltins x) (far : s.heap.NoLimit) (gens : s.gens = #[])
    (ha : s.heap.get? a = some { cls := .type "list", data := .seq vs.toArray }) (hi : IntsAre vs ns) (hl : ns.length ≤ sizeLine)
    (F : ∀ base : Heap, K.In base → base.Ns mainGlobals mg → RunG P w K mg base fa fd [x] sp) (hb : ∀ (s : Shared) (u : Value), BindsTo s fd ⟨[u], []⟩ [(x, u)])
    (hsp : ∀ H : Hp, SqL K H a (ns.map V.int) → (∀ b, H b = none ∨ b = a) → sp [.ref a] H (fun v _ => v = .bl true) fun _ _ _ => False) :
    codeAny (model P w) callerA (.call (.ref fa) ⟨[.ref a], []⟩) (fun r s' => r = .ok (.ret (.bool true)) ∧ OldK s.heap s'.heap ∧ s'.os = s.os ∧ AllBare s'.gens) s := by
  have rv := vals_ints hi
  suffices main : ∀ H : Hp, SqL K H a (ns.map V.int) → HOk P w H s.heap → (∀ b u, H b = some u → b = a ∧ K.lookup a = none ∧ ∃ o ys, u = .frz o (.lst ys)) →
      codeAny (model P w) callerA (.call (.ref fa) ⟨[.ref a], []⟩) (fun r s' => r = .ok (.ret (.bool true)) ∧ OldK s.heap s'.heap ∧ s'.os = s.os ∧ AllBare s'.gens) s by
    cases hk : K.lookup a with
    | some o =>
      have e := kin a o hk
      rw [ha] at e
      cases e
      refine main (fun _ => none) (.inr ⟨_, vs.toArray, _, hk, rfl, rfl, rfl, ?_, by simpa using rv⟩) (fun b u z => nomatch z) fun b u z => nomatch z
      rw [List.size_toArray, hi.length]
      exact hl
    | none =>
      refine main (scriptH a { cls := .type "list", data := .seq vs.toArray } ns) (.inl (.inr ⟨{ cls := .type "list", data := .seq vs.toArray }, scriptH_at⟩)) ?_ ?_
      · intro b u z
        by_cases e : b = a
        · subst e
          rw [scriptH_at] at z
          cases z
          exact ⟨ha, by rw [List.length_map]; exact hl, vs, _, rv, ha⟩
        · rw [scriptH_ne e] at z
          cases z
      · intro b u z
        by_cases e : b = a
        · subst e
          rw [scriptH_at] at z
          cases z
          exact ⟨rfl, hk, _, _, rfl⟩
        · rw [scriptH_ne e] at z
          cases z
  intro H hS hok only
  have off : ∀ {b : Addr} {o : Obj} {es : Array DictEntry} {n : Nat}, s.heap.get? b = some o → o.data = .dict es n → H b = none := by
    intro b o es n e d
    cases q : H b with
    | none => rfl
    | some u =>
      obtain ⟨eb, _⟩ := only b u q
      rw [eb, ha] at e
      cases e
      cases d
  have nsK : ∀ {b : Addr} {m : Str → Option Value}, s.heap.Ns b m → (hidT s.heap H).Ns b m := by
    rintro b m ⟨o, es, n, e, d, r⟩
    exact ⟨o, es, n, hidT_get e (off e d), d, r⟩
  have kinB : K.In (hidT s.heap H) := by
    intro b o e
    refine hidT_get (kin b o e) ?_
    cases q : H b with
    | none => rfl
    | some u =>
      obtain ⟨eb, en, _⟩ := only b u q
      rw [eb, en] at e
      cases e
  have md : Mod K mg (hidT s.heap H) := by
    refine ⟨kinB, nsK gl, ⟨mb, nsK bl, bb⟩, ?_⟩
    obtain ⟨mc, h1, h2⟩ := far
    exact ⟨mc, nsK h1, h2⟩
  have e0 : Env0 P w K mg (hidT s.heap H) callerA [] s H := ⟨rfl, md, fun b o e => of_hidT e, Nat.le_of_eq (hidT_size _ _), trivial, fun b hb => absurd (show b ∈ ([] : List Addr) from hb) List.not_mem_nil, hok, .of_eq gens⟩
  have hsp' := hsp H hS fun b => by
    cases q : H b with
    | none => exact .inl rfl
    | some u => exact .inr (only b u q).1
  refine codeAny_mono (F _ kinB (nsK gl) s H ⟨[.ref a], []⟩ [.ref a] [.ref a] _ _ e0 (hb s (.ref a)) (.cons rfl .nil) hsp') fun r s' h => ?_
  cases r with
  | error e =>
    obtain ⟨_, _, _, _, _, _, _, _, _, _, _, _, z⟩ := h
    exact z.elim
  | ok fl =>
    cases fl with
    | next => exact h.elim
    | brk => exact h.elim
    | cont => exact h.elim
    | ret u =>
      obtain ⟨v, H', hos, bare, un, hok', r', q⟩ := h
      have q' : v = .bl true := q
      subst q'
      have eu : u = Value.bool true := r'
      subst eu
      refine ⟨rfl, OldK.of_keep fun b o e => ?_, hos, bare⟩
      cases z : H b with
      | none => exact un.keep b o e z (fun m => absurd (show b ∈ ([] : List Addr) from m) List.not_mem_nil) List.not_mem_nil
      | some u =>
        obtain ⟨_, _, ob, ys, eu⟩ := only b u z
        subst eu
        obtain ⟨e1, _⟩ := hok b _ z
        obtain ⟨e2, _⟩ := hok' b _ (un.frzs b ob _ z)
        rw [e] at e1
        cases e1
        exact e2
/-- the goal that the head leaves, from the law's promise -/
theorem walk_ofG {l : PySem.W.OpenLaw} {n : Nat} {q : Program} {loose : List Str} {XP : (Str → Option Value) → Heap → Prop} {YP : World → Heap → Prop} {d : DefRec} {K : Params → PySem.W.Frag} {sp : World → Sp} {x : Str}
    (hn : l.most = some n) (hn2 : n ≤ sizeLine) (hdf : d.params.defaults = []) (hY : ∀ (w : World) (h : Heap), YP w h → (K w.params).In h)
    (F : ∀ (w : World) (mg : Str → Option Value) (fa : Addr) (h : Heap), (K w.params).In h → h.Ns mainGlobals mg → mg d.name = some (.ref fa) →
      ∃ fd : FuncData, (∀ (s : Shared) (u : Value), BindsTo s fd ⟨[u], []⟩ [(x, u)]) ∧ ∀ base : Heap, (K w.params).In base → base.Ns mainGlobals mg → RunG l.prog w (K w.params) mg base fa fd [x] (sp w))
    (hsp : ∀ (w : World) (H : Hp) (a : Addr) (ns : List Int), ns.length ≤ n → SqL (K w.params) H a (ns.map V.int) → (∀ b, H b = none ∨ b = a) → sp w [.ref a] H (fun v _ => v = .bl true) fun _ _ _ => False) :
    PySem.W.WalkO q loose XP YP l.row.toRowW d [] (fun f vs => PySem.call f vs) := by
  refine Att.attach_call hn hdf fun w s₀ s₁ mg mb fa o pm cd doc a vs ns G Y ho hd hcd hmg hobj hints hlen hg => ?_
  obtain ⟨fd, hb, hF⟩ := F w mg fa _ (hY w _ Y) G.T.g hmg
  exact law_callG (hY w _ Y) G.T.g G.T.b G.T.builtins G.T.nolimit hg hobj hints (Nat.le_trans hlen hn2) hF hb fun H hS hO => hsp w H a ns hlen hS hO
end Ux

/-! readings, one construct at a time -/
namespace Rd
open PySem L2 Ux
variable {K : PySem.W.Frag} {σ : L2.St} {H : Hp} {Q : VK} {QT : Bool → Hp → Prop} {QA : List V → Hp → Prop} {ta tb tc te : TE} {tt uu : TT} {tr : TA} {v x y : V} {i j : Nat} {D : Ends} {t u : TS} {g : TG} {r r' : R2} {b : Bool}
theorem var (h : σ[i]? = some (some v)) (q : Q v H) : tVar i σ H Q := ⟨v, h, q⟩
theorem c (q : Q v H) : tC v σ H Q := q
theorem cb {r : List V → Hp → VK → Prop} (q : tr σ H fun vs H1 => r vs H1 Q) : tCB r tr σ H Q := q
theorem cons (q : ta σ H fun x H1 => tr σ H1 fun xs H2 => QA (x :: xs) H2) : tCons ta tr σ H QA := q
theorem nil (q : QA [] H) : tNil σ H QA := q
theorem op (q : ta σ H fun x H1 => tb σ H1 fun y H2 => r x y H2 Q) : tOp r ta tb σ H Q := q
theorem un {r : V → Hp → VK → Prop} (q : ta σ H fun x H1 => r x H1 Q) : tUn r ta σ H Q := q
theorem test (q : te σ H fun x H' => ∃ k, x = .bl k ∧ QT k H') : tTest te σ H QT := q
theorem tb_ (q : te σ H fun x H' => ∃ k, x = .bl k ∧ QT k H') : tB te σ H QT := q
theorem isb {p : Bool → Prop} (q : p b) : ∃ k, V.bl b = .bl k ∧ p k := ⟨b, rfl, q⟩
theorem and (q : tt σ H fun c H1 => if c = true then uu σ H1 QT else QT false H1) : tAnd tt uu σ H QT := q
theorem or (q : tt σ H fun c H1 => if c = true then QT true H1 else uu σ H1 QT) : tOr tt uu σ H QT := q
theorem not (q : tt σ H fun c H1 => QT (!c) H1) : tNot tt σ H QT := q
theorem andV (q : ta σ H fun x H1 => ∃ c, x = .bl c ∧ if c = true then tb σ H1 Q else Q (.bl false) H1) : tAndV ta tb σ H Q := q
theorem orV (q : ta σ H fun x H1 => ∃ c, x = .bl c ∧ if c = true then Q (.bl true) H1 else tb σ H1 Q) : tOrV ta tb σ H Q := q
theorem notV (q : ta σ H fun x H1 => ∃ c, x = .bl c ∧ Q (.bl (!c)) H1) : tNotV ta σ H Q := q
theorem ifx (q : tt σ H fun c H1 => if c = true then ta σ H1 Q else tb σ H1 Q) : tIf tt ta tb σ H Q := q
theorem chain (q : ta σ H fun x H1 => tb σ H1 fun y H2 => r x y H2 fun z H3 => ∃ k, z = .bl k ∧ (if k = true then tc σ H3 fun w' H4 => r' y w' H4 Q else Q (.bl false) H3)) : tChain r r' ta tb tc σ H Q := q
theorem tup (q : tr σ H fun xs H1 => xs.length ≤ sizeLine ∧ ∀ p, H1 p = none → Q (.ref p) (upd H1 p (.tup xs))) : tTup tr σ H Q := q
theorem lst (q : tr σ H fun xs H1 => xs.length ≤ sizeLine ∧ ∀ p, H1 p = none → Q (.ref p) (upd H1 p (.lst xs))) : tLst tr σ H Q := q
theorem bm {T : String} {r : V → List V → Hp → VK → Prop} (q : ta σ H fun x H1 => tyV K T x H1 ∧ tr σ H1 fun xs H2 => r x xs H2 Q) : tBM K T r ta tr σ H Q := q
theorem bm0 {T : String} {r : V → List V → Hp → VK → Prop} (q : ta σ H fun x H1 => tyV K T x H1 ∧ r x [] H1 Q) : tBM0 K T r ta σ H Q := q
theorem m1 {r : V → List V → Hp → VK → Prop} (q : ta σ H fun x H1 => (∃ a, x = .str a) ∧ te σ H1 fun y H2 => r x [y] H2 Q) : tM1 r ta te σ H Q := q
theorem call {sp : Sp} {E : XK} (q : tr σ H fun vs H1 => sp (vs ++ []) H1 Q E) : tCall sp [] E tr σ H Q := q
theorem callS {sp : Sp} {E : L2.St → XK} (q : tr σ H fun vs H1 => sp vs H1 Q (E σ)) : tCallS sp E tr σ H Q := q
theorem slice {r : V → Option Int → Option Int → Hp → VK → Prop} {tl th : TO} (q : te σ H fun x H1 => tl σ H1 fun l H2 => th σ H2 fun u H3 => r x l u H3 Q) : tSl r te tl th σ H Q := q
theorem nopart {QO : Option Int → Hp → Prop} (q : QO none H) : tNoPart σ H QO := q
theorem part {QO : Option Int → Hp → Prop} (q : te σ H fun x H1 => ∃ i, x = .int i ∧ QO (some i) H1) : tPart te σ H QO := q
theorem isi {n : Int} {p : Int → Prop} (q : p n) : ∃ i, V.int n = .int i ∧ p i := ⟨n, rfl, q⟩
/-! ints -/
theorem i0 {f : Int → Int → V} {m n : Int} (q : Q (f m n) H) : rI0 f (.int m) (.int n) H Q := ⟨m, n, rfl, rfl, q⟩
theorem i1 {C : Int → Int → Prop} {f : Int → Int → V} {m n : Int} (h : C m n) (q : Q (f m n) H) : rI C f (.int m) (.int n) H Q := ⟨m, n, rfl, rfl, h, q⟩
theorem iu {f : Int → V} {m : Int} (q : Q (f m) H) : rU f (.int m) H Q := ⟨m, rfl, q⟩
/-! statements -/
theorem seq (q : t { D with nx := u D } σ H) : tSeq t u D σ H := q
theorem next (q : D.nx σ H) : tNext D σ H := q
theorem brk (q : D.bk σ H) : tBreak D σ H := q
theorem cont (q : D.ct σ H) : tCont D σ H := q
theorem drop (q : te σ H fun _ H1 => D.nx σ H1) : tDrop te D σ H := q
theorem ret (q : te σ H D.rt) : tRet te D σ H := q
theorem retN (q : D.rt .non H) : tRetN D σ H := q
theorem ifs (q : tt σ H fun b H1 => if b = true then t D σ H1 else u D σ H1) : tIfS tt t u D σ H := q
theorem asg (q : te σ H fun x H1 => D.nx (σ.set i (some x)) H1) : tAsg te (gName i) D σ H := q
theorem asgG (q : te σ H fun x H1 => g x σ H1 D.nx) : tAsg te g D σ H := q
theorem aug {ti : TIp} (h : σ[i]? = some (some x)) (q : te σ H fun y H1 => ti x y H1 fun z H2 => D.nx (σ.set i (some z)) H2) : tAug i te ti D σ H := ⟨x, h, q⟩
theorem par (q : tr σ H fun vs H1 => ∃ v w, vs = [v, w] ∧ D.nx ((σ.set i (some v)).set j (some w)) H1) : tPar i j tr D σ H := q
theorem is2 {p : V → V → Prop} (q : p x y) : ∃ v w, [x, y] = [v, w] ∧ p v w := ⟨x, y, rfl, q⟩
/-! indices -/
theorem ixL {p : Addr} {xs : List V} {n : Int} (h : SqL K H p xs) (ha : atI xs n = some v) (q : Q v H) : rIx K (.ref p) (.int n) H Q := .inl ⟨p, xs, n, v, rfl, rfl, h, ha, q⟩
theorem ixT {p : Addr} {xs : List V} {n : Int} (h : SqT K H p xs) (ha : atI xs n = some v) (q : Q v H) : rIx K (.ref p) (.int n) H Q := .inr (.inl ⟨p, xs, n, v, rfl, rfl, h, ha, q⟩)
theorem ixS {z : Str} {n : Int} {c : Nat} (h : z.length ≤ sizeLine) (ha : atI z.cps.toList n = some c) (q : Q (.str ⟨#[c]⟩) H) : rIx K (.str z) (.int n) H Q := .inr (.inr ⟨z, n, c, rfl, rfl, h, ha, q⟩)
/-! calls of what is built in -/
theorem lenS {z : Str} (h : z.length ≤ sizeLine) (q : Q (.int (z.length : Int)) H) : rLenU K [.str z] H Q := ⟨_, z.length, rfl, ⟨h, rfl⟩, q⟩
theorem lenL {p : Addr} {xs : List V} (h : SqL K H p xs) (q : Q (.int (xs.length : Int)) H) : rLenU K [.ref p] H Q := ⟨_, xs.length, rfl, .inl ⟨xs, h, rfl⟩, q⟩
theorem lenT {p : Addr} {xs : List V} (h : SqT K H p xs) (q : Q (.int (xs.length : Int)) H) : rLenU K [.ref p] H Q := ⟨_, xs.length, rfl, .inr ⟨xs, h, rfl⟩, q⟩
theorem tupL {p : Addr} {xs : List V} (h : SqL K H p xs) (q : ∀ l, H l = none → Q (.ref l) (upd H l (.tup xs))) : rTupOf K [.ref p] H Q := ⟨p, xs, rfl, .inl ⟨h, q⟩⟩
theorem tupT {p : Addr} {xs : List V} (h : SqT K H p xs) (q : Q (.ref p) H) : rTupOf K [.ref p] H Q := ⟨p, xs, rfl, .inr ⟨h, q⟩⟩
theorem lstL {p : Addr} {xs : List V} (h : SqL K H p xs ∨ SqT K H p xs) (q : ∀ l, H l = none → Q (.ref l) (upd H l (.lst xs))) : rLstOf K [.ref p] H Q := ⟨p, xs, rfl, h, q⟩
theorem allL {p : Addr} {bs : List Bool} (h : SqL K H p (bs.map V.bl)) (q : Q (.bl (bs.all id)) H) : rAll K [.ref p] H Q := ⟨p, bs, rfl, h, q⟩
theorem anyL {p : Addr} {bs : List Bool} (h : SqL K H p (bs.map V.bl)) (q : Q (.bl (bs.any id)) H) : rAny K [.ref p] H Q := ⟨p, bs, rfl, h, q⟩
theorem abs_ {m : Int} (q : Q (.int (if m < 0 then -m else m)) H) : rAbs [.int m] H Q := ⟨m, rfl, q⟩
/-- a comprehension, what it walks -/
theorem lc {wi : TI} {vs : List Nat} (q : wi σ H fun J H1 => ∀ D, H1 D = none → ∃ W : Nat → Nat → Hp → Prop, (∃ m, W 0 m (upd H1 D (.lst []))) ∧ ∀ i m H, W i m H →
      (J.stop i H ∧ Q (.ref D) H) ∨ (J.go i H ∧ ∃ Nx : Hp → Prop, (∀ H', Nx H' → ∃ m', m' < m ∧ W (i + 1) m' H') ∧ ∀ x H', J.yld i H x H' → g x (wipe σ vs) H' fun σ2 H2 => wipe σ2 vs = wipe σ vs ∧ tt σ2 H2 fun b H3 =>
        if b = true then te σ2 H3 fun y H4 => ∃ acc, H4 D = some (.lst acc) ∧ acc.length < sizeLine ∧ Nx (upd H4 D (.lst (acc ++ [y]))) else Nx H3)) : tLc wi g tt te vs σ H Q := q
theorem iStr {R : It → Hp → Prop} (q : te σ H fun v H1 => ∃ x, v = .str x ∧ R (Its x) H1) : L2.iStr te σ H R := q
theorem iss {z : Str} {p : Str → Prop} (q : p z) : ∃ x, V.str z = .str x ∧ p x := ⟨z, rfl, q⟩
theorem iList {R : It → Hp → Prop} (q : te σ H fun x H1 => ∃ a, x = .ref a ∧ (∃ xs, SqL K H1 a xs) ∧ R (Itl K a) H1) : L2.iList K te σ H R := q
theorem isr {p : Addr} {xs : List V} {q : Addr → Prop} (h : SqL K H p xs) (k : q p) : ∃ a, V.ref p = .ref a ∧ (∃ xs, SqL K H a xs) ∧ q a := ⟨p, rfl, ⟨xs, h⟩, k⟩
theorem isT {p : Addr} {xs : List V} {q : Addr → Prop} (h : SqT K H p xs) (k : q p) : ∃ a, V.ref p = .ref a ∧ (∃ xs, SqT K H a xs) ∧ q a := ⟨p, rfl, ⟨xs, h⟩, k⟩
/-! what a for walks -/
theorem for_ {wi : TI} {tb : TS} (q : wi σ H fun J H1 => ∃ W : Nat → Nat → L2.St → Hp → Prop, (∃ m, W 0 m σ H1) ∧ ∀ i m σ H, W i m σ H →
      (J.stop i H ∧ D.nx σ H) ∨ (J.go i H ∧ ∃ N : L2.St → Hp → Prop, (∀ σ' H', N σ' H' → ∃ m', m' < m ∧ W (i + 1) m' σ' H') ∧ ∀ x H', J.yld i H x H' → g x σ H' fun σ2 H2 => tb { D with nx := N, ct := N, bk := D.nx } σ2 H2)) : tFor wi g tb D σ H := q
theorem rng1 {R : It → Hp → Prop} (q : tr σ H fun vs H1 => ∃ j : Int, vs = [.int j] ∧ -(2 ^ 62) ≤ j ∧ j < 2 ^ 62 ∧ R (Itr 0 j.toNat) H1) : iRng1 tr σ H R := q
theorem rng1n {n : Int} {p : Int → Prop} (h1 : -(2 ^ 62) ≤ n) (h2 : n < 2 ^ 62) (q : p n) : ∃ j : Int, [V.int n] = [.int j] ∧ -(2 ^ 62) ≤ j ∧ j < 2 ^ 62 ∧ p j := ⟨n, rfl, h1, h2, q⟩
theorem rng2 {R : It → Hp → Prop} (q : tr σ H fun vs H1 => ∃ i j : Int, vs = [.int i, .int j] ∧ (-(2 ^ 62) ≤ i ∧ i < 2 ^ 62 ∧ -(2 ^ 62) ≤ j ∧ j < 2 ^ 62) ∧ R (Itr i (j - i).toNat) H1) : iRng2 tr σ H R := q
theorem rng2n {m n : Int} {p : Int → Int → Prop} (h : -(2 ^ 62) ≤ m ∧ m < 2 ^ 62 ∧ -(2 ^ 62) ≤ n ∧ n < 2 ^ 62) (q : p m n) : ∃ i j : Int, [V.int m, V.int n] = [.int i, .int j] ∧ (-(2 ^ 62) ≤ i ∧ i < 2 ^ 62 ∧ -(2 ^ 62) ≤ j ∧ j < 2 ^ 62) ∧ p i j := ⟨m, n, rfl, h, q⟩
theorem rng3 {R : It → Hp → Prop} (q : tr σ H fun vs H1 => ∃ (i j c : Int) (n : Nat), vs = [.int i, .int j, .int c] ∧ RgC i j c n ∧ R (Itc i c n) H1) : iRng3 tr σ H R := q
theorem rng3n {i j c : Int} {n : Nat} {p : Int → Int → Nat → Prop} (h : RgC i j c n) (q : p i c n) : ∃ (i' j' c' : Int) (n : Nat), [V.int i, V.int j, V.int c] = [.int i', .int j', .int c'] ∧ RgC i' j' c' n ∧ p i' c' n := ⟨i, j, c, n, rfl, h, q⟩
theorem enumS {R : It → Hp → Prop} (q : tr σ H fun vs H1 => ∃ x, vs = [.str x] ∧ R (ItsE x) H1) : iEnumS tr σ H R := q
theorem enumSn {z : Str} {p : Str → Prop} (q : p z) : ∃ x, [V.str z] = [.str x] ∧ p x := ⟨z, rfl, q⟩
/-! branches -/
theorem yes {A B : Prop} (h : b = true) (q : A) : if b = true then A else B := by rw [if_pos h]; exact q
theorem no {A B : Prop} (h : b = false) (q : B) : if b = true then A else B := by rw [if_neg (by rw [h]; exact Bool.false_ne_true)]; exact q
theorem dyes {p A B : Prop} [Decidable p] (h : p) (q : A) : if decide p = true then A else B := yes (decide_eq_true h) q
theorem dno {p A B : Prop} [Decidable p] (h : ¬ p) (q : B) : if decide p = true then A else B := no (decide_eq_false h) q
theorem nyes {A B : Prop} (h : b = false) (q : A) : if (!b) = true then A else B := yes (by rw [h]; rfl) q
theorem nno {A B : Prop} (h : b = true) (q : B) : if (!b) = true then A else B := no (by rw [h]; rfl) q
theorem ff {A B : Prop} (h : if false = true then A else B) : B := by rw [if_neg Bool.false_ne_true] at h; exact h
theorem both {A Z : Prop} (h : b = true → Z → A) (z : Z) : if b = true then A else Z := by
  cases b with
  | true => exact yes rfl (h rfl z)
  | false => exact no rfl z
/-- what a statement leaves, told once -/
theorem seqV {N : L2.St → Hp → Prop} (hN : ∀ σ' H', N σ' H' → u D σ' H') (q : ∀ nx : L2.St → Hp → Prop, (∀ σ' H', N σ' H' → nx σ' H') → t { D with nx := nx } σ H) : tSeq t u D σ H := q _ hN
/-- what an expression gives, told once -/
theorem via {t : TE} (z : V) (h : ∀ R : VK, R z H → t σ H R) (q : Q z H) : t σ H Q := h Q q
/-! comprehensions whose element is pure -/
def chars (z : Str) : List V := z.cps.toList.map fun c => V.str ⟨#[c]⟩
theorem chars_len (z : Str) : (chars z).length = z.cps.size := by simp [chars]
theorem walk_chars {z : Str} : Walk (Its z) (chars z).length (fun _ => True) (YAt (chars z)) := by
  rw [chars_len]
  refine walk_str.mono (fun _ h => h) fun i H x H' _ _ y => ?_
  obtain ⟨e, c, h1, h2⟩ := y
  refine ⟨e, ?_⟩
  subst h2
  unfold chars
  rw [List.getElem?_map, Array.getElem?_toList, h1]
  rfl
theorem wipe1 {σ : L2.St} {i : Nat} {x : Option V} : wipe ((wipe σ [i]).set i x) [i] = wipe σ [i] := by
  show ((σ.set i none).set i x).set i none = σ.set i none
  rw [List.set_set, List.set_set]
theorem take_map_succ {f : V → V} {xs : List V} {i : Nat} {x : V} (h : xs[i]? = some x) : (xs.take (i + 1)).map f = (xs.take i).map f ++ [f x] := by
  rw [List.take_add_one, h]
  simp
theorem yesT (q : QT true H) : tYes σ H QT := q
/-- [f(x) for x in ..], the heap as it was -/
theorem lcP {J : It} {xs : List V} {G : Hp → Prop} (w : Walk J xs.length G (YAt xs)) {H1 : Hp} {Dl : Addr} {i : Nat} {te : TE} {f : V → V} {σ : L2.St} {Qd : Hp → Prop} (hD : H1 Dl = none) (hG : ∀ H', Same H1 H' → G H') (hz : xs.length ≤ sizeLine)
    (he : ∀ x ∈ xs, ∀ H', Same H1 H' → ∀ Q' : VK, Q' (f x) H' → te ((wipe σ [i]).set i (some x)) H' Q') (hd : Qd (upd H1 Dl (.lst (xs.map f)))) :
    ∃ W : Nat → Nat → Hp → Prop, (∃ m, W 0 m (upd H1 Dl (.lst []))) ∧ ∀ k m H, W k m H →
      (J.stop k H ∧ Qd H) ∨ (J.go k H ∧ ∃ Nx : Hp → Prop, (∀ H', Nx H' → ∃ m', m' < m ∧ W (k + 1) m' H') ∧ ∀ x H', J.yld k H x H' → gName i x (wipe σ [i]) H' fun σ2 H2 => wipe σ2 [i] = wipe σ [i] ∧ tYes σ2 H2 fun b H3 =>
        if b = true then te σ2 H3 fun y H4 => ∃ acc, H4 Dl = some (.lst acc) ∧ acc.length < sizeLine ∧ Nx (upd H4 Dl (.lst (acc ++ [y]))) else Nx H3) := by
  have sm : ∀ l : List V, Same H1 (upd H1 Dl (.lst l)) := fun l b o e => by rw [upd_ne (ne_of_none e hD)]; exact e
  refine lc_it w (fun k H => H = upd H1 Dl (.lst ((xs.take k).map f))) (by simp) (fun k H _ e => by rw [e]; exact hG _ (sm _)) (fun k x H H' hk e y => ?_) (fun H e => by rw [e, List.take_length]; exact hd)
  subst e
  obtain ⟨e, hx⟩ := y
  subst e
  refine ⟨wipe1, ?_⟩
  refine yesT (yes rfl ?_)
  refine he x (List.mem_of_getElem? hx) _ (sm _) (fun y H4 => ∃ acc, H4 Dl = some (.lst acc) ∧ acc.length < sizeLine ∧ upd H4 Dl (.lst (acc ++ [y])) = upd H1 Dl (.lst ((xs.take (k + 1)).map f))) ⟨_, upd_same, ?_, ?_⟩
  · have hl := (List.getElem?_eq_some_iff.mp hx).1
    simp only [List.length_map, List.length_take]
    omega
  · rw [upd_upd, take_map_succ hx]
/-- [f(c) for c in text] -/
theorem lcC {z : Str} {H1 : Hp} {Dl : Addr} {i : Nat} {te : TE} {f : Nat → V} {σ : L2.St} {Qd : Hp → Prop} (hD : H1 Dl = none) (hz : z.length ≤ sizeLine)
    (he : ∀ c ∈ z.cps.toList, ∀ H', Same H1 H' → ∀ Q' : VK, Q' (f c) H' → te ((wipe σ [i]).set i (some (.str ⟨#[c]⟩))) H' Q') (hd : Qd (upd H1 Dl (.lst (z.cps.toList.map f)))) :
    ∃ W : Nat → Nat → Hp → Prop, (∃ m, W 0 m (upd H1 Dl (.lst []))) ∧ ∀ k m H, W k m H →
      ((Its z).stop k H ∧ Qd H) ∨ ((Its z).go k H ∧ ∃ Nx : Hp → Prop, (∀ H', Nx H' → ∃ m', m' < m ∧ W (k + 1) m' H') ∧ ∀ x H', (Its z).yld k H x H' → gName i x (wipe σ [i]) H' fun σ2 H2 => wipe σ2 [i] = wipe σ [i] ∧ tYes σ2 H2 fun b H3 =>
        if b = true then te σ2 H3 fun y H4 => ∃ acc, H4 Dl = some (.lst acc) ∧ acc.length < sizeLine ∧ Nx (upd H4 Dl (.lst (acc ++ [y]))) else Nx H3) := by
  refine lcP (f := fun v => match v with | .str y => f (y.cps.getD 0 0) | _ => .non) walk_chars hD (fun _ _ => trivial) (by rw [chars_len]; exact hz) (fun x hx H' hs Q' q => ?_) ?_
  · unfold chars at hx
    obtain ⟨c, hc, e⟩ := List.mem_map.mp hx
    subst e
    exact he c hc H' hs Q' q
  · have e : (chars z).map (fun v => match v with | .str y => f (y.cps.getD 0 0) | _ => .non) = z.cps.toList.map f := by
      unfold chars
      rw [List.map_map]
      rfl
    rw [e]
    exact hd
/-! list methods, targets -/
theorem tyL {p : Addr} {xs : List V} (h : SqL K H p xs) : tyV K "list" (.ref p) H := .inl ⟨rfl, xs, h⟩
theorem app1 {l : Addr} {xs : List V} (h : H l = some (.lst xs)) (q : te σ H fun y H2 => ∃ xs', H2 l = some (.lst xs') ∧ xs'.length < sizeLine ∧ Q .non (upd H2 l (.lst (xs' ++ [y])))) :
    tyV K "list" (.ref l) H ∧ tCons te tNil σ H fun vs H2 => rAppend (.ref l) vs H2 Q := by
  refine ⟨tyL (.inl (.inl h)), ?_⟩
  have e : (fun (y : V) H2 => ∃ xs', H2 l = some (.lst xs') ∧ xs'.length < sizeLine ∧ Q .non (upd H2 l (.lst (xs' ++ [y])))) = fun y H2 => rAppend (.ref l) [y] H2 Q := by
    funext y H2
    refine propext ⟨fun ⟨xs', a, b, c⟩ => ⟨l, xs', y, rfl, rfl, a, b, c⟩, ?_⟩
    rintro ⟨l', xs', y', e1, e2, a, b, c⟩
    cases e1
    cases e2
    exact ⟨xs', a, b, c⟩
  rw [e] at q
  exact q
theorem pop1 {l : Addr} {xs : List V} {y : V} (h : H l = some (.lst (xs ++ [y]))) (q : Q y (upd H l (.lst xs))) : tyV K "list" (.ref l) H ∧ rPop (.ref l) [] H Q := by
  refine ⟨tyL (.inl (.inl h)), l, xs ++ [y], y, rfl, rfl, h, by simp, ?_⟩
  rw [List.dropLast_concat]
  exact q
theorem gn {R : L2.St → Hp → Prop} (q : R (σ.set i (some v)) H) : gName i v σ H R := q
theorem g2 {p : Addr} (h : SqT K H p [x, y]) {R : L2.St → Hp → Prop} (q : R ((σ.set i (some x)).set j (some y)) H) : gTup K 2 (gCons (gName i) (gCons (gName j) gNil)) (.ref p) σ H R :=
  ⟨p, [x, y], rfl, h, rfl, x, [y], rfl, y, [], rfl, rfl, q⟩
/-- a text joined from texts -/
theorem join {z : Str} {p : Addr} {ys : List Str} (h : SqL K H p (ys.map V.str)) (hz : (ys.map (·.length)).sum + ys.length * z.length ≤ 16777216) (q : Q (.str (Txt.join z ys)) H) :
    ∃ (a : Str) (p' : Addr) (ys : List Str), V.str z = .str a ∧ [V.ref p] = [.ref p'] ∧ (SqL K H p' (ys.map V.str) ∨ SqT K H p' (ys.map V.str)) ∧ (ys.map (·.length)).sum + ys.length * a.length ≤ 16777216 ∧ Q (.str (Txt.join a ys)) H :=
  ⟨z, p, ys, rfl, rfl, .inl h, hz, q⟩
/-! cuts -/
theorem cut_to (l : List Nat) (k : Nat) : cutS (SX.S l) none (some (k : Int)) = SX.S (l.take k) := by
  unfold cutS
  rw [HT.sIx_none, HT.sIx_nat, SX.S_len]
  refine TL.ext_tl ?_
  show (l.drop 0).take (min k l.length - 0) = l.take k
  rw [List.drop_zero, Nat.sub_zero]
  by_cases h : k ≤ l.length
  · rw [Nat.min_eq_left h]
  · rw [Nat.min_eq_right (by omega), List.take_of_length_le (Nat.le_refl _), List.take_of_length_le (by omega)]
theorem cut_from (l : List Nat) (k : Nat) : cutS (SX.S l) (some (k : Int)) none = SX.S (l.drop k) := by
  unfold cutS
  rw [HT.sIx_none, HT.sIx_nat, SX.S_len]
  refine TL.ext_tl ?_
  show (l.drop (min k l.length)).take (l.length - min k l.length) = l.drop k
  by_cases h : k ≤ l.length
  · rw [Nat.min_eq_left h, List.take_of_length_le (by rw [List.length_drop]; omega)]
  · rw [Nat.min_eq_right (by omega), List.drop_length, List.drop_eq_nil_of_le (by omega), List.take_nil]
theorem cut_mid (l : List Nat) {a b : Nat} (h : a ≤ b) (hb : b ≤ l.length) : cutS (SX.S l) (some (a : Int)) (some (b : Int)) = SX.S ((l.take b).drop a) := by
  unfold cutS
  rw [HT.sIx_nat, HT.sIx_nat, SX.S_len, Nat.min_eq_left hb, Nat.min_eq_left (by omega)]
  refine TL.ext_tl ?_
  show (l.drop a).take (b - a) = (l.take b).drop a
  rw [List.drop_take]
/-- enumerate(text) -/
theorem walk_enumS {z : Str} : Walk (ItsE z) z.cps.size (fun _ => True) (fun i H v H' => ∃ T c, v = .ref T ∧ H T = none ∧ H' = upd H T (.tup [.int (i : Nat), .str ⟨#[c]⟩]) ∧ z.cps[i]? = some c) :=
  ⟨fun _ _ hi _ => hi, fun _ _ => Nat.le_refl _, fun _ _ _ _ _ _ y => y⟩
/-! fields -/
theorem fld {f : Str} (q : te σ H fun x H1 => ∃ a C dx fs v, x = .ref a ∧ H1 a = some (.ins C dx fs) ∧ Cls K C ∧ NoAttr K C f ∧ fs.lookup f = some v ∧ Q v H1) : tFld K te f σ H Q := q
theorem fldA {C : Addr} {f : Str} {H : Hp} {Q : V → Prop} {a dx : Addr} {fs : List (Str × V)} {v : V} (h : H a = some (.ins C dx fs)) (c : Cls K C) (n : NoAttr K C f) (l : fs.lookup f = some v) (q : Q v) :
    ∃ a' C dx fs v, V.ref a = .ref a' ∧ H a' = some (.ins C dx fs) ∧ Cls K C ∧ NoAttr K C f ∧ fs.lookup f = some v ∧ Q v := ⟨a, C, dx, fs, v, rfl, h, c, n, l, q⟩
theorem sfld {f : Str} (q : ta σ H fun y H1 => tb σ H1 fun x H2 => ∃ a C dx fs, x = .ref a ∧ H2 a = some (.ins C dx fs) ∧ Cls K C ∧ NoAttr K C f ∧ fs.length < 1000 ∧ D.nx σ (upd H2 a (.ins C dx (putF f y fs)))) : sFld K tb ta f D σ H := q
theorem sfldA {C : Addr} {f : Str} {H : Hp} {Q : Hp → Prop} {a dx : Addr} {fs gs : List (Str × V)} {v : V} (h : H a = some (.ins C dx fs)) (c : Cls K C) (n : NoAttr K C f) (l : fs.length < 1000) (e : putF f v fs = gs) (q : Q (upd H a (.ins C dx gs))) :
    ∃ a' C dx fs, V.ref a = .ref a' ∧ H a' = some (.ins C dx fs) ∧ Cls K C ∧ NoAttr K C f ∧ fs.length < 1000 ∧ Q (upd H a' (.ins C dx (putF f v fs))) := ⟨a, C, dx, fs, rfl, h, c, n, l, by rw [e]; exact q⟩
theorem meth {C : Addr} {m : Str} {sp : Sp} {E : XK} (q : ta σ H fun x H1 => ∃ a dx fs, x = .ref a ∧ H1 a = some (.ins C dx fs) ∧ fs.lookup m = none ∧ tr σ H1 fun vs H2 => sp (x :: (vs ++ [])) H2 Q E) : tMeth C m sp [] E ta tr σ H Q := q
theorem methA {C : Addr} {m : Str} {H : Hp} {Z : Prop} {a dx : Addr} {fs : List (Str × V)} (h : H a = some (.ins C dx fs)) (l : fs.lookup m = none) (q : Z) :
    ∃ a' dx fs, V.ref a = .ref a' ∧ H a' = some (.ins C dx fs) ∧ fs.lookup m = none ∧ Z := ⟨a, dx, fs, rfl, h, l, q⟩
end Rd

namespace K53
open PySem L2 Ux
open C8 (pe_gc)
def topS (i : Nat) : Stmt := PySem.Challenge.pw_wirewary_k53_whole_plain_data.main.body.getD i (.Pass ⟨0, 0, 0, 0⟩)
/-! ### data on the heap -/
theorem same_seqT {K : PySem.W.Frag} {H H' : Hp} {a : Addr} {xs : List V} (e : Same H H') (h : SqT K H a xs) : SqT K H' a xs := by
  rcases h with (h | ⟨o, h⟩) | h
  · exact .inl (.inl (e _ _ h))
  · exact .inl (.inr ⟨o, e _ _ h⟩)
  · exact .inr h
mutual
theorem dp_same {K : PySem.W.Frag} {H H' : Hp} (e : Same H H') : ∀ (d : PyData) (v : V), Dp K H v d → Dp K H' v d
  | .none, _, h => by cases h; exact .non
  | .bool b, _, h => by cases h; exact .bl b
  | .int i, _, h => by cases h; exact .int i
  | .str s, _, h => by cases h; exact .str s
  | .list ds, _, h => by
    cases h with
    | lst h1 h2 => exact .lst (e.seq h1) (dpAll_same e ds _ h2)
  | .tuple ds, _, h => by
    cases h with
    | tup h1 h2 => exact .tup (same_seqT e h1) (dpAll_same e ds _ h2)
  | .dict _, _, h => by cases h
theorem dpAll_same {K : PySem.W.Frag} {H H' : Hp} (e : Same H H') : ∀ (ds : List PyData) (vs : List V), DpAll K H vs ds → DpAll K H' vs ds
  | [], _, h => by cases h; exact .nil
  | d :: ds, _, h => by
    cases h with
    | cons h1 h2 => exact .cons (dp_same e d _ h1) (dpAll_same e ds _ h2)
end
def tyD : PyData → String
  | .none => "NoneType" | .bool _ => "bool" | .int _ => "int" | .str _ => "str" | .list _ => "list" | .tuple _ => "tuple" | .dict _ => "dict"
theorem ty_of {K : PySem.W.Frag} {H : Hp} {v : V} {d : PyData} (h : Dp K H v d) : TyX K H v (.type (tyD d)) := by
  cases h with
  | non => exact .base .non
  | bl b => exact .base (.bl b)
  | int i => exact .base (.int i)
  | str s => exact .base (.str s)
  | lst h1 h2 =>
    rcases h1 with (h | ⟨o, h⟩) | ⟨o, its, n, h, hc, _⟩
    · exact .base (.lst h)
    · exact .base (.frz h)
    · exact .kList h hc
  | tup h1 h2 =>
    rcases h1 with (h | ⟨o, h⟩) | ⟨o, its, n, h, hc, _⟩
    · exact .base (.tup h)
    · exact .fTuple h
    · exact .kTuple h hc
/-- isinstance of data -/
def isD (d : PyData) (n : String) : Bool := tyD d == n || (tyD d == "bool" && n == "int")
theorem kit_all : ∀ a ∈ ["NoneType", "bool", "int", "str", "list", "tuple"], ∀ n ∈ ["int", "bool", "str", "tuple", "list"], kitB a n = some (a == n || (a == "bool" && n == "int")) := by decide +kernel
theorem tyD_mem {K : PySem.W.Frag} {H : Hp} {v : V} {d : PyData} (h : Dp K H v d) : tyD d ∈ ["NoneType", "bool", "int", "str", "list", "tuple"] := by cases h <;> simp [tyD]
theorem kitD {K : PySem.W.Frag} {H : Hp} {v : V} {d : PyData} {n : String} (h : Dp K H v d) (hn : n ∈ ["int", "bool", "str", "tuple", "list"]) : kitB (tyD d) n = some (isD d n) := kit_all _ (tyD_mem h) _ hn
/-- isinstance(v, n) -/
theorem isiD {K : PySem.W.Frag} {H : Hp} {Q : VK} {v : V} {d : PyData} {n : String} (h : Dp K H v d) (hn : n ∈ ["int", "bool", "str", "tuple", "list"]) (q : Q (.bl (isD d n)) H) : rIsi K [v, .ty n] H Q := isi (ty_of h) (kitD h hn) q
def wholeD : PyData → Bool
  | .int _ => true
  | _ => false
def wordD : PyData → Bool
  | .str s => M53.wordL (TL.tl s)
  | _ => false
def shortD : PyData → Bool
  | .int z => decide (z.natAbs < 10 ^ 4000)
  | _ => false
theorem let_mem (c : Nat) : decide (c ∈ ("abcdefghijklmnopqrstuvwxyz" : Str).cps.toList) = M53.isLet c := by
  have e : ("abcdefghijklmnopqrstuvwxyz" : Str).cps.toList = List.range' 97 26 := by decide +kernel
  rw [e]
  unfold M53.isLet
  by_cases h : 97 ≤ c ∧ c ≤ 122
  · rw [decide_eq_true (List.mem_range'_1.mpr ⟨h.1, by omega⟩), decide_eq_true h.1, decide_eq_true h.2]
    rfl
  · rw [decide_eq_false fun m => h ?_]
    · by_cases h1 : 97 ≤ c
      · rw [decide_eq_false fun h2 => h ⟨h1, h2⟩, Bool.and_false]
      · rw [decide_eq_false h1, Bool.false_and]
    · have := List.mem_range'_1.mp m
      omega
theorem dig_mem (c : Nat) : decide (c ∈ ("0123456789" : Str).cps.toList) = M53.isDig c := by
  have e : ("0123456789" : Str).cps.toList = List.range' 48 10 := by decide +kernel
  rw [e]
  unfold M53.isDig
  by_cases h : 48 ≤ c ∧ c ≤ 57
  · rw [decide_eq_true (List.mem_range'_1.mpr ⟨h.1, by omega⟩), decide_eq_true h.1, decide_eq_true h.2]
    rfl
  · rw [decide_eq_false fun m => h ?_]
    · by_cases h1 : 48 ≤ c
      · rw [decide_eq_false fun h2 => h ⟨h1, h2⟩, Bool.and_false]
      · rw [decide_eq_false h1, Bool.false_and]
    · have := List.mem_range'_1.mp m
      omega
theorem wordL_cons (c : Nat) (r : List Nat) : M53.wordL (c :: r) = (decide (r.length ≤ 11) && (M53.isLet c && (c :: r).all fun x => M53.isLet x || M53.isDig x)) := by
  show (decide (r.length ≤ 11) && M53.isLet c && r.all _) = _
  rw [List.all_cons, Bool.and_assoc]
  cases M53.isLet c <;> simp
/-- what the top has written -/
structure Txt (K : PySem.W.Frag) (mg : Str → Option Value) (M : Addr) : Prop where
  b_len : mg "len" = none
  b_int : mg "int" = none
  b_str : mg "str" = none
  b_bool : mg "bool" = none
  b_abs : mg "abs" = none
  b_tuple : mg "tuple" = none
  b_range : mg "range" = none
  b_isinstance : mg "isinstance" = none
  b_all : mg "all" = none
  b_any : mg "any" = none
  b_repr : mg "repr" = none
  b_enumerate : mg "enumerate" = none
  c_LETTERS : ∃ u, mg "LETTERS" = some u ∧ RelV (.str "abcdefghijklmnopqrstuvwxyz") u
  c_DIGITS : ∃ u, mg "DIGITS" = some u ∧ RelV (.str "0123456789") u
  c_MOST_WORD : ∃ u, mg "MOST_WORD" = some u ∧ RelV (.int 12) u
  c_MOST_DEPTH : ∃ u, mg "MOST_DEPTH" = some u ∧ RelV (.int 1000) u
  c_MOST_DIGITS : ∃ u, mg "MOST_DIGITS" = some u ∧ RelV (.int 4000) u
  g_Malformed : mg "Malformed" = some (.ref M)
  k_Malformed : PySem.W.keepIn K (.ref M) = true
  x_Malformed : PySem.W.excIn K M [.type "ValueError", .type "Exception", .type "BaseException", .type "object"] "ValueError.__new__" = true
  s_Malformed : PySem.W.subIn K (.ref M) (.type "BaseException") = some true
  t_Malformed : PySem.W.typeIn K (.ref M) = some (.type "type")
  e_Malformed : PySem.W.exmOne K (.ref M) (.ref M) = some true
  dg : Dg K
local macro_rules | `(tactic| walk_at "rd") => `(tactic| with_reducible first
  | refine Rd.c ?_ | refine Rd.cb ?_ | refine Rd.cons ?_ | refine Rd.nil ?_ | refine Rd.op ?_ | refine Rd.un ?_ | refine Rd.test ?_ | refine Rd.tb_ ?_ | refine Rd.isb ?_ | refine Rd.and ?_ | refine Rd.or ?_ | refine Rd.not ?_
  | refine Rd.andV ?_ | refine Rd.orV ?_ | refine Rd.notV ?_ | refine Rd.ifx ?_ | refine Rd.chain ?_ | refine Rd.tup ?_ | refine Rd.lst ?_ | refine Rd.bm ?_ | refine Rd.bm0 ?_ | refine Rd.m1 ?_ | refine Rd.call ?_ | refine Rd.callS ?_ | refine Rd.slice ?_ | refine Rd.nopart ?_ | refine Rd.part ?_ | refine Rd.isi ?_
  | refine Rd.i0 ?_ | refine Rd.iu ?_ | refine Ux.add_i ?_ | refine Ux.eq_i ?_ | refine Ux.ne_i ?_ | refine Ux.eq_s ?_ | refine Ux.ne_s ?_ | refine Ux.le_i ?_ | refine Ux.ge_i ?_ | refine Ux.int_i ?_ | refine Ux.in_c ?_ | refine Ux.nin_c ?_ | refine Rd.abs_ ?_ | refine Rd.lc ?_ | refine Rd.iStr ?_ | refine Rd.iss ?_ | refine Rd.iList ?_ | refine Rd.for_ ?_ | refine Rd.fld ?_ | refine Rd.sfld ?_ | refine Rd.meth ?_ | refine Rd.gn ?_ | refine Rd.rng1 ?_ | refine Rd.rng2 ?_ | refine Rd.rng3 ?_ | refine Rd.enumS ?_ | refine Rd.enumSn ?_
  | refine Rd.seq ?_ | refine Rd.next ?_ | refine Rd.brk ?_ | refine Rd.cont ?_ | refine Rd.drop ?_ | refine Rd.ret ?_ | refine Rd.retN ?_ | refine Rd.ifs ?_ | refine Rd.asg ?_ | refine Rd.par ?_ | refine Rd.is2 ?_)
local macro_rules | `(tactic| walk_at "rv") => `(tactic| first
  | ((with_reducible refine' Rd.var ?zvar ?_); (case zvar => rfl)) | walk_at "rd")

section
variable {P : Program} {w : World} {K : PySem.W.Frag} {mg : Str → Option Value} {base : Heap} {M : Addr}
/-! ### is_whole -/
abbrev s_is_whole : Stmt := topS 6
abbrev N_is_whole : List Str := ["value"]
theorem sc_is_whole : FnScope N_is_whole ["value"] (defScope s_is_whole) := ⟨rfl, rfl, rfl, by decide +kernel, rfl, by decide +kernel, by decide +kernel⟩
def sp_is_whole (K : PySem.W.Frag) : Sp := fun vs H Q _ => ∃ v d, vs = [v] ∧ Dp K H v d ∧ Q (.bl (wholeD d)) H
theorem ok_is_whole {f : Addr} {fd : FuncData} (F : Fun K "is_whole" "is_whole" s_is_whole f fd) (T : Txt K mg M) : FnOk P w K mg base (L2.CX P w) 1 f fd ["value"] (sp_is_whole K) := by
  refine F.okX sc_is_whole (fun vs H Q E h => ?_) (fun cdv A outer s H vs Q E hr h => ?_)
  · obtain ⟨v, d, rfl, _⟩ := h
    rfl
  · obtain ⟨v, d, rfl, hd, q⟩ := h
    refine ⟨_, (pss_one (ps_ret (pe_and (pe_callB call_isi rfl T.b_isinstance bb_isinstance (pa_cons (pv 0) (pa_cons (pe_ty rfl T.b_int bb_int) pa_nil))) (pe_one (pe_not (pe_callB call_isi rfl T.b_isinstance bb_isinstance (pa_cons (pv 0) (pa_cons (pe_ty rfl T.b_bool bb_bool) pa_nil)))))))), ?_⟩
    repeat walk_at "rv"
    refine isiD hd (by decide) ?_
    repeat walk_at "rv"
    cases d with
    | int i =>
      refine Rd.yes rfl ?_
      repeat walk_at "rv"
      refine isiD hd (by decide) ?_
      repeat walk_at "rv"
      exact q
    | bool b =>
      refine Rd.yes rfl ?_
      repeat walk_at "rv"
      refine isiD hd (by decide) ?_
      repeat walk_at "rv"
      exact q
    | _ => exact q
/-! ### is_word -/
abbrev s_is_word : Stmt := topS 11
abbrev N_is_word : List Str := ["value", "sign"]
theorem sc_is_word : FnScope N_is_word ["value"] (defScope s_is_word) := ⟨rfl, rfl, rfl, by decide +kernel, rfl, by decide +kernel, by decide +kernel⟩
def sp_is_word (K : PySem.W.Frag) : Sp := fun vs H Q _ => ∃ v d, vs = [v] ∧ Dp K H v d ∧ (∀ s, d = .str s → s.length ≤ sizeLine) ∧ ∀ H', Same H H' → Q (.bl (wordD d)) H'
theorem ok_is_word {f : Addr} {fd : FuncData} (F : Fun K "is_word" "is_word" s_is_word f fd) (T : Txt K mg M) : FnOk P w K mg base (L2.CX P w) 1 f fd ["value"] (sp_is_word K) := by
  refine F.okX sc_is_word (fun vs H Q E h => ?_) (fun cdv A outer s H vs Q E hr h => ?_)
  · obtain ⟨v, d, rfl, _⟩ := h
    rfl
  · obtain ⟨v, d, rfl, hd, hz, q⟩ := h
    have nd := sc_is_word.nd
    refine ⟨_, (pss_cons (ps_if (PW.pt (pw_or (pt_not (pt_val (pe_callB call_isi rfl T.b_isinstance bb_isinstance (pa_cons (pv 0) (pa_cons (pe_ty rfl T.b_str bb_str) pa_nil))))) (pw_or (pt_not (pt_chain op_leU op_leU pe_int (pe_callB call_lenU rfl T.b_len bb_len (pa_cons (pv 0) pa_nil)) (pe_gc rfl T.c_MOST_WORD))) (pw_or1 (pt_cmpR (op_notInU hr) (pe_ix ix_seq (pv 0) pe_int (fun _ _ => rfl)) (pe_gc rfl T.c_LETTERS) rfl)))))
  (pss_one (ps_ret pe_bl))
  pss_nil)
  (pss_one (ps_ret (pe_callB (cr_all rfl) rfl T.b_all bb_all (pa_cons (pe_lc (own := [("sign", 1)]) rfl nd (pi_str (pv 0)) (blkOk_by (own := [("sign", 1)]) (N := N_is_word) (sc := defScope s_is_word) (by decide +kernel)) (fun _ _ _ _ _ => (pg_name (i := 1) nd rfl (.inl rfl))) (fun _ _ _ _ _ => pts_nil) (fun _ _ _ _ _ => (pe_or (pe_cmpR (opK (r := rInU) K (op_inU hr)) (pv 1) (pe_gc rfl T.c_LETTERS) rfl) (pe_one (pe_cmpR (opK (r := rInU) K (op_inU hr)) (pv 1) (pe_gc rfl T.c_DIGITS) rfl))))) pa_nil))))), ?_⟩
    repeat walk_at "rv"
    refine isiD hd (by decide) ?_
    repeat walk_at "rv"
    cases d with
    | str s =>
      cases hd
      refine Rd.nno rfl ?_
      repeat walk_at "rv"
      refine Rd.lenS (hz s rfl) ?_
      repeat walk_at "rv"
      have lq : s.length = (TL.tl s).length := TL.len_tl s
      cases hs : TL.tl s with
      | nil =>
        rw [hs] at lq
        refine Rd.dno (by simp at lq; omega) ?_
        repeat walk_at "rv"
        refine Rd.yes rfl (Rd.yes rfl ?_)
        repeat walk_at "rv"
        have e : wordD (.str s) = false := by
          show M53.wordL (TL.tl s) = false
          rw [hs]
          rfl
        rw [← e]
        exact q H (Same.refl H)
      | cons c r =>
        rw [hs, List.length_cons] at lq
        have ew : wordD (.str s) = (decide (r.length ≤ 11) && (M53.isLet c && (c :: r).all fun x => M53.isLet x || M53.isDig x)) := by
          show M53.wordL (TL.tl s) = _
          rw [hs]
          exact wordL_cons c r
        refine Rd.dyes (by omega) ?_
        repeat walk_at "rv"
        by_cases h : r.length ≤ 11
        · refine Rd.nno (decide_eq_true (by omega)) ?_
          repeat walk_at "rv"
          refine Rd.ixS (c := c) (hz s rfl) (atI_nat (j := 0) (by show (TL.tl s)[0]? = some c; rw [hs]; rfl)) ?_
          repeat walk_at "rv"
          rw [let_mem]
          rw [decide_eq_true h, Bool.true_and] at ew
          cases hc : M53.isLet c with
          | false =>
            rw [hc, Bool.false_and] at ew
            refine Rd.yes rfl ?_
            repeat walk_at "rv"
            rw [← ew]
            exact q H (Same.refl H)
          | true =>
            rw [hc, Bool.true_and] at ew
            refine Rd.no rfl ?_
            repeat walk_at "rv"
            intro D hD
            refine Rd.lcC (f := fun x => V.bl (M53.isLet x || M53.isDig x)) hD (hz s rfl) (fun x hx H' hs' Q' q' => ?_) ?_
            · repeat walk_at "rv"
              rw [let_mem]
              cases hx : M53.isLet x with
              | true =>
                refine Rd.yes rfl ?_
                rw [hx] at q'
                exact q'
              | false =>
                refine Rd.no rfl ?_
                repeat walk_at "rv"
                rw [dig_mem]
                rw [hx, Bool.false_or] at q'
                exact q'
            · repeat walk_at "rv"
              refine Rd.allL (bs := s.cps.toList.map fun x => M53.isLet x || M53.isDig x) ?_ ?_
              · rw [List.map_map]
                exact SqL.of upd_same
              · have e : wordD (.str s) = (s.cps.toList.map fun x => M53.isLet x || M53.isDig x).all id := by
                  have hs' : s.cps.toList = c :: r := hs
                  rw [ew, hs', List.all_map]
                  rfl
                rw [← e]
                refine q _ fun b o eb => ?_
                rw [upd_ne (ne_of_none eb hD)]
                exact eb
        · refine Rd.nyes (decide_eq_false (by omega)) (Rd.yes rfl ?_)
          repeat walk_at "rv"
          rw [decide_eq_false h, Bool.false_and] at ew
          rw [← ew]
          exact q H (Same.refl H)
    | _ =>
      refine Rd.nyes rfl (Rd.yes rfl ?_)
      repeat walk_at "rv"
      exact q H (Same.refl H)
/-! ### is_short -/
abbrev s_is_short : Stmt := topS 12
abbrev N_is_short : List Str := ["value", "most", "_"]
theorem sc_is_short : FnScope N_is_short ["value"] (defScope s_is_short) := ⟨rfl, rfl, rfl, by decide +kernel, rfl, by decide +kernel, by decide +kernel⟩
def sp_is_short (K : PySem.W.Frag) : Sp := fun vs H Q _ => ∃ v d, vs = [v] ∧ Dp K H v d ∧ Q (.bl (shortD d)) H
theorem pow10 (n : Nat) : ((10 : Int) ^ n).natAbs < 2 ^ (4 * n + 1) := by
  rw [Int.natAbs_pow]
  show 10 ^ n < 2 ^ (4 * n + 1)
  have h1 : 10 ^ n ≤ 16 ^ n := Nat.pow_le_pow_left (by decide) n
  have h2 : 2 ^ (4 * n) = 16 ^ n := by rw [Nat.pow_mul]
  have h3 : 2 ^ (4 * n + 1) = 2 * 16 ^ n := by rw [Nat.pow_succ, h2, Nat.mul_comm]
  have h4 : 0 < 16 ^ n := Nat.pow_pos (by decide)
  omega
theorem lim (z : Int) (m : Nat) : (¬ (-((10 : Int) ^ m) < z ∧ z < 10 ^ m) → ¬ z.natAbs < 10 ^ m) ∧ ((-((10 : Int) ^ m) < z ∧ z < 10 ^ m) → z.natAbs < 10 ^ m) := by
  have e : ((10 ^ m : Nat) : Int) = (10 : Int) ^ m := by rw [Int.natCast_pow]; rfl
  rw [← e]
  generalize 10 ^ m = k
  constructor <;> intro h <;> omega
theorem ok_is_short {f : Addr} {fd : FuncData} (F : Fun K "is_short" "is_short" s_is_short f fd) (T : Txt K mg M) (F_is_whole : Cl P w K mg base 1 "is_whole" (sp_is_whole K)) : FnOk P w K mg base (L2.CX P w) 2 f fd ["value"] (sp_is_short K) := by
  refine F.okX sc_is_short (fun vs H Q E h => ?_) (fun cdv A outer s H vs Q E hr h => ?_)
  · obtain ⟨v, d, rfl, _⟩ := h
    rfl
  · obtain ⟨v, d, rfl, hd, q⟩ := h
    have nd := sc_is_short.nd
    refine ⟨_, (pss_cons (ps_if (pt_not (pt_val (pcall F_is_whole hr (by decide) rfl outX (pa_cons (pv 0) pa_nil))))
  (pss_one (ps_ret pe_bl))
  pss_nil)
  (pss_cons (ps_set (i := 1) nd rfl (.inl rfl) (pe_op op_pow pe_int pe_int))
  (pss_cons (ps_if (pt_chain op_lt op_lt (pe_un un_neg (pv 1)) (pv 0) (pv 1))
  (pss_one (ps_ret pe_bl))
  pss_nil)
  (pss_cons (ps_for (passes_of rfl) rfl (pi_range1 rfl T.b_range (pa_cons (pe_op op_sub (pe_op op_fdiv (pe_gc rfl T.c_MOST_DIGITS) pe_int) pe_int) pa_nil)) (pg_name (i := 2) nd rfl (.inl rfl))
  (pss_one (ps_aug (i := 1) nd rfl (.inl rfl) (pe_op op_pow pe_int pe_int) (ip_of iop_mulX))))
  (pss_one (ps_ret (pe_chain op_lt op_lt (pe_un un_neg (pv 1)) (pv 0) (pv 1)))))))), ?_⟩
    repeat walk_at "rv"
    refine ⟨v, d, rfl, hd, ?_⟩
    repeat walk_at "rv"
    cases d with
    | int z =>
      cases hd
      refine Rd.nno rfl ?_
      repeat walk_at "rv"
      refine Rd.i1 ⟨by decide, by decide, by decide⟩ ?_
      repeat walk_at "rv"
      have more : tFor (iRng1 (tCons (tOp (rI0 fun i j => V.int (i - j)) (tOp (rI CDiv fun i j => V.int (i / j)) (tC (V.int 4000)) (tC (V.int 32))) (tC (V.int 1))) tNil)) (gName 2)
          (tAug 1 (tOp (rI CPow fun i j => V.int (i ^ j.toNat)) (tC (V.int 10)) (tC (V.int 32))) (rI CMulX fun i j => V.int (i * j)))
          { nx := tRet (tChain (rI0 fun i j => V.bl (decide (i < j))) (rI0 fun i j => V.bl (decide (i < j))) (tUn (rU fun i => V.int (-i)) (tVar 1)) (tVar 0) (tVar 1)) { nx := fun x H' => Q V.non H', rt := Q }, rt := Q }
          [some (.int z), some (.int (10 ^ 32)), none] H := by
        repeat walk_at "rv"
        refine Rd.i1 ⟨by decide, by decide⟩ ?_
        repeat walk_at "rv"
        refine Rd.rng1n (by decide) (by decide) ?_
        refine for_it walk_range (fun i σ H' => H' = H ∧ ∃ x, σ = [some (.int z), some (.int (10 ^ (32 * (i + 1)))), x]) ⟨rfl, none, rfl⟩ (fun _ _ _ _ _ => trivial) (fun i x σ H1 H2 hi p y => ?_) (fun σ H1 p => ?_)
        · obtain ⟨rfl, x0, rfl⟩ := p
          obtain ⟨e, rfl⟩ := y
          subst e
          refine Rd.aug rfl ?_
          repeat walk_at "rv"
          refine Rd.i1 ⟨by decide, by decide, by decide⟩ ?_
          have hi' : i < 124 := hi
          refine Rd.i1 (mulx_ok (pow10 _) (pow10 _) (by have e32 : Int.toNat 32 = 32 := rfl; rw [e32]; omega)) ?_
          refine ⟨rfl, some (.int (0 + (i : Int))), ?_⟩
          have e1 : (10 : Int) ^ (32 * (i + 1)) * 10 ^ Int.toNat 32 = 10 ^ (32 * (i + 1 + 1)) := by
            rw [← Int.pow_add]
            congr 1
          rw [← e1]
          rfl
        · obtain ⟨rfl, x0, rfl⟩ := p
          repeat walk_at "rv"
          show if decide (-((10 : Int) ^ 4000) < z) = true then _ else _
          have l := lim z 4000
          by_cases h1 : -((10 : Int) ^ 4000) < z
          · refine Rd.dyes h1 ?_
            repeat walk_at "rv"
            have e : shortD (.int z) = decide (z < 10 ^ 4000) := by
              show decide (z.natAbs < 10 ^ 4000) = _
              by_cases h2 : z < 10 ^ 4000
              · rw [decide_eq_true h2, decide_eq_true (l.2 ⟨h1, h2⟩)]
              · rw [decide_eq_false h2, decide_eq_false (l.1 fun x => h2 x.2)]
            rw [e] at q
            exact q
          · refine Rd.dno h1 ?_
            have e : shortD (.int z) = false := decide_eq_false (l.1 fun x => h1 x.1)
            rw [e] at q
            exact q
      have l := lim z 32
      have big : z.natAbs < 10 ^ 32 → shortD (.int z) = true := fun h => decide_eq_true (Nat.lt_of_lt_of_le h (Nat.pow_le_pow_right (by decide) (by decide)))
      show if decide (-((10 : Int) ^ 32) < z) = true then _ else _
      by_cases h1 : -((10 : Int) ^ 32) < z
      · refine Rd.dyes h1 ?_
        repeat walk_at "rv"
        show if decide (z < (10 : Int) ^ 32) = true then _ else _
        by_cases h2 : z < (10 : Int) ^ 32
        · refine Rd.dyes h2 ?_
          repeat walk_at "rv"
          rw [big (l.2 ⟨h1, h2⟩)] at q
          exact q
        · refine Rd.dno h2 ?_
          repeat walk_at "rv"
          exact more
      · refine Rd.dno h1 ?_
        repeat walk_at "rv"
        refine Rd.no rfl ?_
        repeat walk_at "rv"
        exact more
    | _ =>
      refine Rd.nyes rfl ?_
      repeat walk_at "rv"
      exact q
end
end K53

namespace K53
open PySem L2 Ux
open C8 (pe_gc)
local macro_rules | `(tactic| walk_at "rd") => `(tactic| with_reducible first
  | refine Rd.c ?_ | refine Rd.cb ?_ | refine Rd.cons ?_ | refine Rd.nil ?_ | refine Rd.op ?_ | refine Rd.un ?_ | refine Rd.test ?_ | refine Rd.tb_ ?_ | refine Rd.isb ?_ | refine Rd.and ?_ | refine Rd.or ?_ | refine Rd.not ?_
  | refine Rd.andV ?_ | refine Rd.orV ?_ | refine Rd.notV ?_ | refine Rd.ifx ?_ | refine Rd.chain ?_ | refine Rd.tup ?_ | refine Rd.lst ?_ | refine Rd.bm ?_ | refine Rd.bm0 ?_ | refine Rd.m1 ?_ | refine Rd.call ?_ | refine Rd.callS ?_ | refine Rd.slice ?_ | refine Rd.nopart ?_ | refine Rd.part ?_ | refine Rd.isi ?_
  | refine Rd.i0 ?_ | refine Rd.iu ?_ | refine Ux.add_i ?_ | refine Ux.eq_i ?_ | refine Ux.ne_i ?_ | refine Ux.eq_s ?_ | refine Ux.ne_s ?_ | refine Ux.le_i ?_ | refine Ux.ge_i ?_ | refine Ux.int_i ?_ | refine Ux.in_c ?_ | refine Ux.nin_c ?_ | refine Rd.abs_ ?_ | refine Rd.lc ?_ | refine Rd.iStr ?_ | refine Rd.iss ?_ | refine Rd.iList ?_ | refine Rd.for_ ?_ | refine Rd.fld ?_ | refine Rd.sfld ?_ | refine Rd.meth ?_ | refine Rd.gn ?_ | refine Rd.rng1 ?_ | refine Rd.rng2 ?_ | refine Rd.rng3 ?_ | refine Rd.enumS ?_ | refine Rd.enumSn ?_
  | refine Rd.seq ?_ | refine Rd.next ?_ | refine Rd.brk ?_ | refine Rd.cont ?_ | refine Rd.drop ?_ | refine Rd.ret ?_ | refine Rd.retN ?_ | refine Rd.ifs ?_ | refine Rd.asg ?_ | refine Rd.par ?_ | refine Rd.is2 ?_)
local macro_rules | `(tactic| walk_at "rv") => `(tactic| first
  | ((with_reducible refine' Rd.var ?zvar ?_); (case zvar => rfl)) | walk_at "rd")

/-! ### write_data -/
mutual
def pw (k : Nat) : PyData → Option (List Nat)
  | .tuple ds => if k ≤ 1000 then (pws (k + 1) ds).map fun l => 91 :: (l ++ [93]) else none
  | .str s => if M53.wordL (TL.tl s) then some (TL.tl s) else none
  | .int z => if z.natAbs < 10 ^ 4000 then some (M53.intL z) else none
  | _ => none
def pws (k : Nat) : List PyData → Option (List Nat)
  | [] => some []
  | d :: r => (pw k d).bind fun a => (pws k r).map fun b => if r.isEmpty then a else a ++ 44 :: b
end
mutual
def wgt : PyData → Nat
  | .tuple ds => 2 + wgts ds
  | .str s => 1 + s.length
  | _ => 1
def wgts : List PyData → Nat
  | [] => 0
  | d :: r => wgt d + 1 + wgts r
end
inductive Wi
  | mk (s : Str)
  | dat (d : PyData) (k : Nat)
def wiW : Wi → Nat
  | .mk _ => 1
  | .dat d _ => wgt d
def mu : List Wi → Nat
  | [] => 0
  | w :: r => wiW w + mu r
def out : List Wi → Option (List Nat)
  | [] => some []
  | .mk s :: r => (out r).map (TL.tl s ++ ·)
  | .dat d k :: r => (pw k d).bind fun a => (out r).map (a ++ ·)
def kids (k : Nat) : List PyData → List Wi
  | [] => []
  | d :: r => .dat d k :: (if r.isEmpty then [] else .mk "," :: kids k r)
theorem wgt_pos : ∀ d, 1 ≤ wgt d
  | .tuple _ => by unfold wgt; omega
  | .str _ => by unfold wgt; omega
  | .none => Nat.le_refl _
  | .bool _ => Nat.le_refl _
  | .int _ => Nat.le_refl _
  | .list _ => Nat.le_refl _
  | .dict _ => Nat.le_refl _
theorem wiW_pos : ∀ w, 1 ≤ wiW w
  | .mk _ => Nat.le_refl _
  | .dat d _ => wgt_pos d
theorem mu_len : ∀ ws, ws.length ≤ mu ws
  | [] => Nat.le_refl _
  | w :: r => by
    have := wiW_pos w
    have := mu_len r
    unfold mu
    rw [List.length_cons]
    omega
theorem mu_append (b : List Wi) : ∀ a, mu (a ++ b) = mu a + mu b
  | [] => by simp [mu]
  | w :: r => by simp only [List.cons_append, mu, mu_append b r]; omega
theorem wgts_len : ∀ ds, 2 * ds.length ≤ wgts ds
  | [] => Nat.le_refl _
  | d :: r => by
    have := wgt_pos d
    have := wgts_len r
    unfold wgts
    rw [List.length_cons]
    omega
theorem mu_kids (k : Nat) : ∀ ds, mu (kids k ds) ≤ wgts ds
  | [] => Nat.le_refl _
  | d :: r => by
    have := mu_kids k r
    unfold kids wgts
    split
    · simp only [mu, wiW]
      omega
    · simp only [mu, wiW]
      omega
theorem kids_len (k : Nat) : ∀ ds, (kids k ds).length ≤ 2 * ds.length
  | [] => Nat.le_refl _
  | d :: r => by
    have := kids_len k r
    unfold kids
    split
    · simp
      omega
    · simp
      omega
theorem out_kids (k : Nat) (r : List Wi) : ∀ ds, out (kids k ds ++ r) = (pws k ds).bind fun a => (out r).map (a ++ ·)
  | [] => by
    simp only [kids, pws, List.nil_append, Option.bind_some]
    cases out r with
    | none => rfl
    | some l => rfl
  | d :: ds => by
    have ih := out_kids k r ds
    by_cases h : ds.isEmpty = true
    · have : ds = [] := List.isEmpty_iff.mp h
      subst this
      have e : kids k [d] = [.dat d k] := rfl
      rw [e]
      simp only [List.cons_append, List.nil_append, out, pws, List.isEmpty_nil, if_true, Option.bind_some, Option.map_some]
      cases pw k d with
      | none => rfl
      | some a => rfl
    · have e : kids k (d :: ds) = .dat d k :: .mk "," :: kids k ds := by
        show Wi.dat d k :: (if ds.isEmpty = true then [] else _) = _
        rw [if_neg h]
      have e44 : TL.tl "," = [44] := rfl
      rw [e]
      simp only [List.cons_append, out, pws, h, ih, e44, Bool.false_eq_true, if_false]
      cases pw k d with
      | none => rfl
      | some a =>
        cases pws k ds with
        | none => rfl
        | some b =>
          cases out r with
          | none => rfl
          | some l => simp
theorem out_tup {k : Nat} {ds : List PyData} {r : List Wi} (h : k ≤ 1000) : out (.dat (.tuple ds) k :: r) = (out (kids (k + 1) ds ++ .mk "]" :: r)).map ([91] ++ ·) := by
  rw [out_kids]
  have e93 : TL.tl "]" = [93] := rfl
  simp only [out, pw, if_pos h, e93]
  cases pws (k + 1) ds with
  | none => rfl
  | some a =>
    cases out r with
    | none => rfl
    | some l => simp
/-- an item of the stack -/
def WiR (K : PySem.W.Frag) (H0 H : Hp) (v : V) (w : Wi) : Prop := ∃ p x n, v = .ref p ∧ H p = some (.tup [x, .int n]) ∧ match w with
  | .mk s => x = .str s ∧ n = 0
  | .dat d k => Dp K H0 x d ∧ n = (k : Int) ∧ 1 ≤ k
inductive All2 (R : V → Wi → Prop) : List V → List Wi → Prop
  | nil : All2 R [] []
  | cons {u w us ws} : R u w → All2 R us ws → All2 R (u :: us) (w :: ws)
theorem All2.mono {R S : V → Wi → Prop} (h : ∀ u w, R u w → S u w) : ∀ {us ws}, All2 R us ws → All2 S us ws
  | _, _, .nil => .nil
  | _, _, .cons a b => .cons (h _ _ a) (b.mono h)
theorem All2.len {R : V → Wi → Prop} : ∀ {us ws}, All2 R us ws → us.length = ws.length
  | _, _, .nil => rfl
  | _, _, .cons _ b => by rw [List.length_cons, List.length_cons, b.len]
structure Stk (K : PySem.W.Frag) (H0 H : Hp) (lw lf : Addr) (us : List V) (ws : List Wi) (fs : List Str) : Prop where
  nw : H0 lw = none
  nf : H0 lf = none
  ne : lw ≠ lf
  hw : H lw = some (.lst us.reverse)
  hf : H lf = some (.lst (fs.map V.str))
  sm : Same H0 H
  al : All2 (WiR K H0 H) us ws
theorem Stk.keep {K : PySem.W.Frag} {H0 H H' : Hp} {us : List V} {ws : List Wi} (al : All2 (WiR K H0 H) us ws) (h : ∀ p xs, H p = some (.tup xs) → H' p = some (.tup xs)) : All2 (WiR K H0 H') us ws := by
  refine al.mono fun u w => ?_
  rintro ⟨p, x, n, e, hp, m⟩
  exact ⟨p, x, n, e, h _ _ hp, m⟩
theorem upd_tup {H : Hp} {l : Addr} {xs : List V} {o : HO} (hl : H l = some (.lst xs)) : ∀ p ys, H p = some (.tup ys) → upd H l o p = some (.tup ys) := by
  intro p ys h
  rw [upd_ne fun e => by rw [e, hl] at h; cases h]
  exact h
theorem same_upd {H0 H : Hp} {l : Addr} {o : HO} (h : Same H0 H) (n : H0 l = none) : Same H0 (upd H l o) := fun b o' e => by
  rw [upd_ne (ne_of_none e n)]
  exact h b o' e
/-- one more in waiting -/
theorem Stk.push {K : PySem.W.Frag} {H0 H : Hp} {lw lf : Addr} {us : List V} {ws : List Wi} {fs : List Str} (S : Stk K H0 H lw lf us ws fs) {p : Addr} (hp : H p = none) {x : V} {n : Int} {w : Wi}
    (hw : match w with | .mk s => x = .str s ∧ n = 0 | .dat d k => Dp K H0 x d ∧ n = (k : Int) ∧ 1 ≤ k) :
    upd H p (.tup [x, .int n]) lw = some (.lst us.reverse) ∧ Stk K H0 (upd (upd H p (.tup [x, .int n])) lw (.lst (us.reverse ++ [.ref p]))) lw lf (.ref p :: us) (w :: ws) fs := by
  have h1 : p ≠ lw := fun e => by rw [e, S.hw] at hp; cases hp
  have h2 : p ≠ lf := fun e => by rw [e, S.hf] at hp; cases hp
  have h3 : upd H p (.tup [x, .int n]) lw = some (.lst us.reverse) := by rw [upd_ne (Ne.symm h1)]; exact S.hw
  refine ⟨h3, S.nw, S.nf, S.ne, ?_, ?_, same_upd (same_upd S.sm (S.sm.free hp)) S.nw, .cons ⟨p, x, n, rfl, ?_, hw⟩ (Stk.keep S.al fun q ys e => ?_)⟩
  · rw [upd_same, List.reverse_cons]
  · rw [upd_ne (Ne.symm S.ne), upd_ne (Ne.symm h2)]
    exact S.hf
  · rw [upd_ne h1, upd_same]
  · refine upd_tup h3 q ys ?_
    rw [upd_ne (ne_of_none e hp)]
    exact e
theorem Stk.found {K : PySem.W.Frag} {H0 H : Hp} {lw lf : Addr} {us : List V} {ws : List Wi} {fs : List Str} (S : Stk K H0 H lw lf us ws fs) (s : Str) : Stk K H0 (upd H lf (.lst (fs.map V.str ++ [.str s]))) lw lf us ws (fs ++ [s]) :=
  ⟨S.nw, S.nf, S.ne, by rw [upd_ne S.ne]; exact S.hw, by rw [upd_same, List.map_append]; rfl, same_upd S.sm S.nf, Stk.keep S.al (upd_tup S.hf)⟩
theorem Stk.pop {K : PySem.W.Frag} {H0 H : Hp} {lw lf : Addr} {u : V} {us : List V} {w : Wi} {ws : List Wi} {fs : List Str} (S : Stk K H0 H lw lf (u :: us) (w :: ws) fs) :
    H lw = some (.lst (us.reverse ++ [u])) ∧ Stk K H0 (upd H lw (.lst us.reverse)) lw lf us ws fs ∧ WiR K H0 (upd H lw (.lst us.reverse)) u w := by
  have a := Stk.keep S.al (upd_tup (o := HO.lst us.reverse) S.hw)
  cases a with
  | cons a b => exact ⟨by rw [S.hw, List.reverse_cons], ⟨S.nw, S.nf, S.ne, upd_same, by rw [upd_ne (Ne.symm S.ne)]; exact S.hf, same_upd S.sm S.nw, b⟩, a⟩
theorem joinL_e : ∀ ys : List (List Nat), TL.joinL [] ys = ys.flatten
  | [] => rfl
  | [p] => by simp [TL.joinL]
  | p :: q :: r => by
    have := joinL_e (q :: r)
    simp only [TL.joinL, List.nil_append, this, List.flatten_cons]
theorem join_e (fs : List Str) : Txt.join "" fs = SX.S ((fs.map TL.tl).flatten) := by
  rw [← joinL_e, ← SX.join_S]
  congr 1
  rw [List.map_map]
  have : SX.S ∘ TL.tl = id := by funext x; exact TL.mk_tl x
  rw [this, List.map_id]
theorem sum_len : ∀ fs : List Str, (fs.map Str.length).sum = (fs.map TL.tl).flatten.length
  | [] => rfl
  | f :: r => by
    rw [List.map_cons, List.sum_cons, sum_len r, List.map_cons, List.flatten_cons, List.length_append, TL.len_tl]
theorem strInt (z : Int) : Str.ofString (toString z) = SX.S (M53.intL z) := by
  unfold M53.intL
  cases z with
  | ofNat n =>
    rw [if_neg (by show ¬ ((n : Nat) : Int) < 0; omega)]
    exact SX.num_S n
  | negSucc n =>
    rw [if_pos (by omega)]
    have e : toString (Int.negSucc n) = "-" ++ toString (((n + 1 : Nat) : Int)) := rfl
    have e2 : (Int.negSucc n).natAbs = n + 1 := rfl
    rw [e, e2]
    refine TL.ext_tl ?_
    have h := TL.tl_num (n + 1)
    rw [TL.tl_ofString] at h
    rw [TL.tl_ofString, String.toList_append, List.map_append, h]
    rfl
theorem dpAll_at {K : PySem.W.Frag} {H : Hp} : ∀ {xs : List V} {ds : List PyData}, DpAll K H xs ds → xs.length = ds.length ∧ ∀ (j : Nat) (x : V), xs[j]? = some x → ∃ d, ds[j]? = some d ∧ Dp K H x d
  | _, _, .nil => ⟨rfl, fun _ _ h => by cases h⟩
  | _, _, .cons a b => by
    obtain ⟨h1, h2⟩ := dpAll_at b
    refine ⟨by rw [List.length_cons, List.length_cons, h1], fun j x h => ?_⟩
    cases j with
    | zero => cases h; exact ⟨_, rfl, a⟩
    | succ j => exact h2 j x h
def half (k : Nat) (ds : List PyData) (i : Nat) : List Wi := (if 0 < i ∧ i < ds.length then [.mk ","] else []) ++ kids (k + 1) (ds.drop (ds.length - i))
theorem half_0 (k : Nat) (ds : List PyData) : half k ds 0 = [] := by
  unfold half
  rw [if_neg (by omega), Nat.sub_zero, List.drop_length]
  rfl
theorem half_n (k : Nat) (ds : List PyData) : half k ds ds.length = kids (k + 1) ds := by
  unfold half
  rw [if_neg (by omega), Nat.sub_self, List.drop_zero]
  rfl
theorem half_len (k : Nat) (ds : List PyData) (i : Nat) : (half k ds i).length ≤ 2 * i + 1 := by
  unfold half
  have h := kids_len (k + 1) (ds.drop (ds.length - i))
  rw [List.length_drop] at h
  rw [List.length_append]
  split <;> simp <;> omega
theorem half_step (k : Nat) {ds : List PyData} {i : Nat} {d : PyData} (hi : i < ds.length) (hd : ds[ds.length - 1 - i]? = some d) : half k ds (i + 1) = (if 0 < ds.length - 1 - i then [.mk ","] else []) ++ .dat d (k + 1) :: half k ds i := by
  have e : ds.drop (ds.length - (i + 1)) = d :: ds.drop (ds.length - i) := by
    have e1 : ds.length - (i + 1) = ds.length - 1 - i := by omega
    have hlt : ds.length - 1 - i < ds.length := by omega
    rw [e1, List.drop_eq_getElem_cons hlt]
    have e2 : ds.length - 1 - i + 1 = ds.length - i := by omega
    rw [e2]
    congr 1
    rw [List.getElem?_eq_getElem hlt] at hd
    exact Option.some.inj hd
  unfold half
  rw [e]
  congr 1
  · by_cases h : 0 < ds.length - 1 - i
    · rw [if_pos (by omega), if_pos h]
    · rw [if_neg (by omega), if_neg h]
  · show Wi.dat d (k + 1) :: (if (ds.drop (ds.length - i)).isEmpty = true then [] else .mk "," :: kids (k + 1) (ds.drop (ds.length - i))) = _
    congr 1
    by_cases h : i = 0
    · subst h
      simp [kids]
    · rw [if_neg (by rw [List.isEmpty_iff, List.drop_eq_nil_iff]; omega), if_pos (by omega)]
      rfl
section
variable {P : Program} {w : World} {K : PySem.W.Frag} {mg : Str → Option Value} {base : Heap} {M : Addr}
abbrev s_write_data : Stmt := topS 13
abbrev N_write_data : List Str := ["data", "waiting", "found", "one", "depth", "k"]
theorem sc_write_data : FnScope N_write_data ["data"] (defScope s_write_data) := ⟨rfl, rfl, rfl, by decide +kernel, rfl, by decide +kernel, by decide +kernel⟩
def sp_write_data (K : PySem.W.Frag) (M : Addr) : Sp := fun vs H Q E => ∃ v d, vs = [v] ∧ Dp K H v d ∧ wgt d ≤ sizeLine ∧ (∀ l, pw 1 d = some l → l.length ≤ 16777216 ∧ ∀ H', Same H H' → Q (.str (SX.S l)) H') ∧ (pw 1 d = none → ∀ H', Same H H' → E (.ref M) none H')
/-- what stands for the rest -/
structure WInv (K : PySem.W.Frag) (H0 H : Hp) (lw lf : Addr) (R : Option (List Nat)) (us : List V) (ws : List Wi) (fs : List Str) : Prop extends Stk K H0 H lw lf us ws fs where
  res : (out ws).map ((fs.map TL.tl).flatten ++ ·) = R
  sz : fs.length + mu ws ≤ sizeLine
theorem ok_write_data {f : Addr} {fd : FuncData} (F : Fun K "write_data" "write_data" s_write_data f fd) (T : Txt K mg M) (F_is_word : Cl P w K mg base 1 "is_word" (sp_is_word K)) (F_is_short : Cl P w K mg base 2 "is_short" (sp_is_short K)) : FnOk P w K mg base (L2.CX P w) 3 f fd ["data"] (sp_write_data K M) := by
  refine F.okX sc_write_data (fun vs H Q E h => ?_) (fun cdv A outer s H0 vs Q E hr h => ?_)
  · obtain ⟨v, d, rfl, _⟩ := h
    rfl
  · obtain ⟨v, d, rfl, hd, hz, q, qe⟩ := h
    have nd := sc_write_data.nd
    refine ⟨_, (pss_cons (ps_par (i := 1) (j := 2) rfl nd rfl rfl (by decide) rfl rfl (pa_cons (pe_lst (pa_cons (pe_tup (pa_cons (pv 0) (pa_cons pe_int pa_nil))) pa_nil)) (pa_cons (pe_lst pa_nil) pa_nil)) (by rfl))
  (pss_cons (ps_while (passes_of rfl) (pt_cmpR op_gt (pe_callB call_lenU rfl T.b_len bb_len (pa_cons (pv 1) pa_nil)) pe_int (nomark _))
  (pss_cons (ps_asg (pe_bm0 PySem.F.plainAttrs_list PySem.F.slot_list_pop PySem.F.type_list_pop mt_pop (pv 1)) (pg_tup rfl (pgs_cons (pg_name (i := 3) nd rfl (.inl rfl)) (pgs_cons (pg_name (i := 4) nd rfl (.inl rfl)) pgs_nil))))
  (pss_one (ps_if (pt_cmpR (op_eqU hr.units) (pv 4) pe_int (nomark _))
  (pss_one (ps_expr (pe_bm PySem.F.plainAttrs_list PySem.F.slot_list_append PySem.F.type_list_append mt_append (pv 2) (pa_cons (pv 3) pa_nil))))
  (pss_one (ps_if (PW.pt (pw_and (pt_val (pe_callB call_isi rfl T.b_isinstance bb_isinstance (pa_cons (pv 3) (pa_cons (pe_ty rfl T.b_tuple bb_tuple) pa_nil)))) (pw_and1 (pt_cmpR op_leU (pv 4) (pe_gc rfl T.c_MOST_DEPTH) (nomark _)))))
  (pss_cons (ps_expr (pe_bm PySem.F.plainAttrs_list PySem.F.slot_list_append PySem.F.type_list_append mt_append (pv 2) (pa_cons pe_str pa_nil)))
  (pss_cons (ps_expr (pe_bm PySem.F.plainAttrs_list PySem.F.slot_list_append PySem.F.type_list_append mt_append (pv 1) (pa_cons (pe_tup (pa_cons pe_str (pa_cons pe_int pa_nil))) pa_nil)))
  (pss_one (ps_for (passes_of rfl) rfl (pi_range3 rfl T.b_range (pa_cons (pe_op op_sub (pe_callB call_lenU rfl T.b_len bb_len (pa_cons (pv 3) pa_nil)) pe_int) (pa_cons (pe_un un_neg pe_int) (pa_cons (pe_un un_neg pe_int) pa_nil)))) (pg_name (i := 5) nd rfl (.inl rfl))
  (pss_cons (ps_expr (pe_bm PySem.F.plainAttrs_list PySem.F.slot_list_append PySem.F.type_list_append mt_append (pv 1) (pa_cons (pe_tup (pa_cons (pe_ix ix_seq (pv 3) (pv 5) (fun _ _ => rfl)) (pa_cons (pe_op op_addU (pv 4) pe_int) pa_nil))) pa_nil)))
  (pss_one (ps_if (pt_cmpR op_gt (pv 5) pe_int (nomark _))
  (pss_one (ps_expr (pe_bm PySem.F.plainAttrs_list PySem.F.slot_list_append PySem.F.type_list_append mt_append (pv 1) (pa_cons (pe_tup (pa_cons pe_str (pa_cons pe_int pa_nil))) pa_nil))))
  pss_nil)))))))
  (pss_one (ps_if (PW.pt (pw_or (pt_val (pcall F_is_word hr (by decide) rfl outX (pa_cons (pv 3) pa_nil))) (pw_or1 (pt_val (pcall F_is_short hr (by decide) rfl outX (pa_cons (pv 3) pa_nil))))))
  (pss_one (ps_expr (pe_bm PySem.F.plainAttrs_list PySem.F.slot_list_append PySem.F.type_list_append mt_append (pv 2) (pa_cons (pe_callTy (call_strU rfl T.dg) rfl T.b_str bb_str (pa_cons (pv 3) pa_nil)) pa_nil))))
  (pss_one (ps_raise rfl (takes_of rfl rfl rfl rfl) (pmk_own PySem.F.excBase_ValueError T.x_Malformed T.g_Malformed T.k_Malformed (raises_own T.s_Malformed T.t_Malformed) rfl)))))))))))
  (pss_one (ps_ret (pe_join pe_str (pv 2)))))), ?_⟩
    repeat walk_at "rv"
    refine ⟨(by decide : 2 ≤ sizeLine), fun p hp => ?_⟩
    repeat walk_at "rv"
    refine ⟨(by decide : 1 ≤ sizeLine), fun lw hlw => ?_⟩
    repeat walk_at "rv"
    refine ⟨(by decide : 0 ≤ sizeLine), fun lf hlf => ?_⟩
    repeat walk_at "rv"
    have n1 : p ≠ lw := fun e => by rw [← e, upd_same] at hlw; cases hlw
    have n2 : p ≠ lf := fun e => by
      rw [← e, upd_ne n1, upd_same] at hlf
      cases hlf
    have n3 : lw ≠ lf := fun e => by rw [← e, upd_same] at hlf; cases hlf
    have s1 : Same H0 (upd H0 p (.tup [v, .int 1])) := same_upd (Same.refl H0) hp
    have s2 := same_upd (o := HO.lst [.ref p]) s1 (s1.free hlw)
    have S0 : Stk K H0 (upd (upd (upd H0 p (.tup [v, .int 1])) lw (.lst [.ref p])) lf (.lst [])) lw lf [.ref p] [.dat d 1] [] := by
      refine ⟨s1.free hlw, s2.free hlf, n3, ?_, upd_same, same_upd s2 (s2.free hlf), .cons ⟨p, v, 1, rfl, ?_, hd, rfl, Nat.le_refl _⟩ .nil⟩
      · rw [upd_ne n3, upd_same]; rfl
      · rw [upd_ne n2, upd_ne n1, upd_same]
    have I0 : WInv K H0 (upd (upd (upd H0 p (.tup [v, .int 1])) lw (.lst [.ref p])) lf (.lst [])) lw lf (pw 1 d) [.ref p] [.dat d 1] [] := by
      refine ⟨S0, ?_, ?_⟩
      · simp only [out]
        cases pw 1 d <;> simp
      · simpa [mu, wiW] using hz
    clear hlf hlw
    refine ⟨fun m σ H => ∃ us ws fs x3 x4 x5, σ = [some v, some (.ref lw), some (.ref lf), x3, x4, x5] ∧ m = mu ws ∧ WInv K H0 H lw lf (pw 1 d) us ws fs, ⟨_, _, _, _, none, none, none, rfl, rfl, I0⟩, ?_⟩
    rintro m σ H ⟨us, ws, fs, x3, x4, x5, rfl, rfl, I⟩
    repeat walk_at "rv"
    refine Rd.lenL (.inl (.inl I.hw)) ?_
    repeat walk_at "rv"
    have hlen := I.al.len
    cases ws with
    | nil =>
      cases us with
      | cons _ _ => cases hlen
      | nil =>
        refine Rd.dno (by simp) ?_
        repeat walk_at "rv"
        refine ⟨⟨_, rfl⟩, ?_⟩
        repeat walk_at "rv"
        have hr' := I.res
        simp only [out, Option.map_some, List.append_nil] at hr'
        obtain ⟨z1, z2⟩ := q _ hr'.symm
        refine Rd.join (.inl (.inl I.hf)) ?_ ?_
        · show (fs.map Str.length).sum + fs.length * 0 ≤ 16777216
          rw [sum_len]
          simpa using z1
        · rw [join_e]
          exact z2 H I.sm
    | cons w ws =>
      cases us with
      | nil => cases hlen
      | cons u us =>
        refine Rd.dyes (by simp) ⟨fun σ' H' => ∃ m', m' < mu (w :: ws) ∧ ∃ us ws fs x3 x4 x5, σ' = [some v, some (.ref lw), some (.ref lf), x3, x4, x5] ∧ m' = mu ws ∧ WInv K H0 H' lw lf (pw 1 d) us ws fs, fun _ _ h => h, ?_⟩
        repeat walk_at "rv"
        refine Rd.asgG ?_
        repeat walk_at "rv"
        obtain ⟨hp1, S1, p1, x, n, eu, hpu, hx⟩ := I.pop
        subst eu
        refine Rd.pop1 hp1 (Rd.g2 (.inl (.inl hpu)) ?_)
        repeat walk_at "rv"
        have hsz := I.sz
        have hres := I.res
        have hpos := wiW_pos w
        unfold mu at hsz
        cases w with
        | mk s =>
          obtain ⟨rfl, rfl⟩ := hx
          refine Rd.dyes rfl ?_
          repeat walk_at "rv"
          refine Rd.app1 S1.hf ?_
          repeat walk_at "rv"
          refine ⟨_, S1.hf, ?_, ?_⟩
          · rw [List.length_map]
            simp only [wiW] at hsz
            omega
          · refine ⟨mu ws, ?_, us, ws, fs ++ [s], _, _, _, rfl, rfl, S1.found s, ?_, ?_⟩
            · simp only [mu, wiW]
              omega
            · rw [← hres]
              simp only [out]
              cases out ws <;> simp
            · simp only [wiW] at hsz
              rw [List.length_append]
              simp only [List.length_singleton]
              omega
        | dat e k =>
          obtain ⟨hx, rfl, hk⟩ := hx
          refine Rd.dno (by omega) ?_
          repeat walk_at "rv"
          have hx' := dp_same S1.sm e x hx
          refine isiD hx' (by decide) ?_
          repeat walk_at "rv"
          simp only [wiW] at hsz
          by_cases hT : isD e "tuple" = true ∧ k ≤ 1000
          · obtain ⟨ht, hk2⟩ := hT
            refine Rd.yes ht ?_
            · repeat walk_at "rv"
              refine Rd.dyes (by omega) ?_
              cases e with
              | tuple ds =>
                cases hx with
                | tup ht0 hall0 =>
                rename_i a xs
                obtain ⟨hxl, hat⟩ := dpAll_at hall0
                have htup : SqT K (upd H lw (.lst us.reverse)) a xs := same_seqT S1.sm ht0
                have hwl := wgts_len ds
                have hwg : wgt (.tuple ds) = 2 + wgts ds := by simp only [wgt]
                have hmu := mu_len ws
                have hul := S1.al.len
                rw [hwg] at hsz
                repeat walk_at "rv"
                refine Rd.app1 S1.hf ?_
                repeat walk_at "rv"
                refine ⟨_, S1.hf, by rw [List.length_map]; omega, ?_⟩
                have S2 := S1.found "["
                repeat walk_at "rv"
                refine Rd.app1 S2.hw ?_
                repeat walk_at "rv"
                refine ⟨(by decide : 2 ≤ sizeLine), fun p2 hp2 => ?_⟩
                repeat walk_at "rv"
                obtain ⟨h3, S3⟩ := S2.push hp2 (w := .mk "]") (x := .str "]") (n := 0) ⟨rfl, rfl⟩
                refine ⟨_, h3, by rw [List.length_reverse]; omega, ?_⟩
                repeat walk_at "rv"
                refine Rd.lenT (same_seqT S3.sm ht0) ?_
                repeat walk_at "rv"
                have hz62 : sizeLine < 2 ^ 62 := by decide
                have rg := RgC.neg (i := (xs.length : Int) - 1) (j := -1) (by omega) (by omega) (by decide) (by decide)
                have e0 : ((xs.length : Int) - 1 - -1).toNat = ds.length := by omega
                rw [e0] at rg
                refine Rd.rng3n rg ?_
                refine for_it walk_rangeC (fun i σ H' => ∃ us' x5, σ = [some v, some (.ref lw), some (.ref lf), some (.ref a), some (.int k), x5] ∧ Stk K H0 H' lw lf us' (half k ds i ++ .mk "]" :: ws) (fs ++ [("[" : Str)])) ⟨_, _, rfl, by rw [half_0]; exact S3⟩ (fun _ _ _ _ _ => trivial) (fun i x σ H1 H2 hi p y => ?_) (fun σ H1 p => ?_)
                · obtain ⟨us', x5, rfl, S⟩ := p
                  obtain ⟨rfl, ex⟩ := y
                  have ex : x = .int ((ds.length - 1 - i : Nat) : Int) := by
                    rw [ex]
                    show V.int ((xs.length : Int) - 1 + ((i : Nat) : Int) * (-1)) = _
                    congr 1
                    omega
                  subst ex
                  have hl1 := S.al.len
                  rw [List.length_append, List.length_cons] at hl1
                  have hl2 := half_len k ds i
                  have hj : ds.length - 1 - i < xs.length := by omega
                  obtain ⟨dj, hdj, hpj⟩ := hat (ds.length - 1 - i) _ (List.getElem?_eq_getElem hj)
                  have hst := half_step k hi hdj
                  repeat walk_at "rv"
                  refine Rd.app1 S.hw ?_
                  repeat walk_at "rv"
                  refine Rd.ixT (same_seqT S.sm ht0) (atI_nat (List.getElem?_eq_getElem hj)) ?_
                  repeat walk_at "rv"
                  refine ⟨(by decide : 2 ≤ sizeLine), fun p3 hp3 => ?_⟩
                  repeat walk_at "rv"
                  obtain ⟨h4, S4⟩ := S.push hp3 (w := .dat dj (k + 1)) (x := xs[ds.length - 1 - i]) (n := (k : Int) + 1) ⟨hpj, rfl, by omega⟩
                  refine ⟨_, h4, by rw [List.length_reverse]; omega, ?_⟩
                  repeat walk_at "rv"
                  by_cases hj0 : 0 < ds.length - 1 - i
                  · refine Rd.dyes (by omega) ?_
                    repeat walk_at "rv"
                    refine Rd.app1 S4.hw ?_
                    repeat walk_at "rv"
                    refine ⟨(by decide : 2 ≤ sizeLine), fun p5 hp5 => ?_⟩
                    repeat walk_at "rv"
                    obtain ⟨h6, S6⟩ := S4.push hp5 (w := .mk ",") (x := .str ",") (n := 0) ⟨rfl, rfl⟩
                    refine ⟨_, h6, by rw [List.length_reverse, List.length_cons]; omega, .ref p5 :: .ref p3 :: us', _, rfl, ?_⟩
                    rw [hst, if_pos hj0]
                    exact S6
                  · refine Rd.dno (by omega) ?_
                    refine ⟨.ref p3 :: us', _, rfl, ?_⟩
                    rw [hst, if_neg hj0]
                    exact S4
                · obtain ⟨us', x5, rfl, S⟩ := p
                  rw [half_n] at S
                  have hmk := mu_kids (k + 1) ds
                  refine ⟨_, ?_, us', _, fs ++ [("[" : Str)], _, _, _, rfl, rfl, S, ?_, ?_⟩
                  · rw [mu_append]
                    simp only [mu, wiW, hwg]
                    omega
                  · rw [← hres, out_tup hk2]
                    cases out (kids (k + 1) ds ++ .mk "]" :: ws) with
                    | none => rfl
                    | some l =>
                      have e91 : TL.tl "[" = [91] := rfl
                      simp [e91]
                  · rw [mu_append, List.length_append]
                    simp only [mu, wiW, List.length_singleton]
                    omega
              | _ => cases ht
          · refine Rd.both (fun ht z => ?_) ?_
            · repeat walk_at "rv"
              exact Rd.dno (fun hk2 => hT ⟨ht, by omega⟩) (Rd.ff z)
            refine Rd.no rfl ?_
            repeat walk_at "rv"
            have hstr : ∀ s, e = .str s → s.length ≤ sizeLine := fun s he => by
              subst he
              simp only [wgt] at hsz
              omega
            refine ⟨x, e, rfl, hx', hstr, fun H2 s2 => ?_⟩
            repeat walk_at "rv"
            have S2 : Stk K H0 H2 lw lf us ws fs := ⟨S1.nw, S1.nf, S1.ne, s2 _ _ S1.hw, s2 _ _ S1.hf, S1.sm.trans s2, Stk.keep S1.al fun p xs h => s2 _ _ h⟩
            have app : ∀ t : Str, pw k e = some (TL.tl t) → WInv K H0 (upd H2 lf (.lst (fs.map V.str ++ [.str t]))) lw lf (pw 1 d) us ws (fs ++ [t]) := fun t ht => by
              refine ⟨S2.found t, ?_, ?_⟩
              · rw [← hres]
                simp only [out, ht, Option.bind_some]
                cases out ws with
                | none => rfl
                | some l => simp
              · have := wgt_pos e
                rw [List.length_append, List.length_singleton]
                omega
            have hfl : (fs.map V.str).length < sizeLine := by
              have := wgt_pos e
              rw [List.length_map]
              omega
            by_cases hw1 : wordD e = true
            · refine Rd.yes hw1 (Rd.yes rfl ?_)
              repeat walk_at "rv"
              refine Rd.app1 S2.hf ?_
              repeat walk_at "rv"
              cases e with
              | str t =>
                cases hx
                refine str_s ?_
                repeat walk_at "rv"
                refine ⟨_, S2.hf, hfl, mu ws, ?_, us, ws, fs ++ [t], _, _, _, rfl, rfl, app t (by simp only [pw]; exact if_pos hw1)⟩
                simp only [mu, wiW, wgt]
                omega
              | _ => cases hw1
            · refine Rd.no (by simpa using hw1) ?_
              repeat walk_at "rv"
              refine ⟨x, e, rfl, dp_same s2 e x hx', ?_⟩
              repeat walk_at "rv"
              by_cases hw2 : shortD e = true
              · refine Rd.yes hw2 ?_
                repeat walk_at "rv"
                refine Rd.app1 S2.hf ?_
                repeat walk_at "rv"
                cases e with
                | int z =>
                  cases hx
                  have hz2 : z.natAbs < 10 ^ 4000 := of_decide_eq_true hw2
                  refine str_i (Nat.lt_of_lt_of_le hz2 (Nat.pow_le_pow_right (by decide) (by decide))) ?_
                  repeat walk_at "rv"
                  have ap := app (Str.ofString (toString z)) (by rw [strInt]; exact if_pos hz2)
                  refine ⟨_, S2.hf, hfl, mu ws, ?_, us, ws, _, _, _, _, rfl, rfl, ap⟩
                  simp only [mu, wiW, wgt]
                  omega
                | _ => cases hw2
              · refine Rd.no (by simpa using hw2) ?_
                have hn : pw k e = none := by
                  cases e with
                  | tuple ds => exact if_neg fun hk2 => hT ⟨rfl, hk2⟩
                  | str t => exact if_neg hw1
                  | int z => exact if_neg fun h => hw2 (decide_eq_true h)
                  | _ => rfl
                refine qe ?_ H2 S2.sm
                rw [← hres]
                simp only [out, hn]
                rfl
end
end K53

namespace K53
open PySem L2 Ux
open C8 (pe_gc)
local macro_rules | `(tactic| walk_at "rd") => `(tactic| with_reducible first
  | refine Rd.c ?_ | refine Rd.cb ?_ | refine Rd.cons ?_ | refine Rd.nil ?_ | refine Rd.op ?_ | refine Rd.un ?_ | refine Rd.test ?_ | refine Rd.tb_ ?_ | refine Rd.isb ?_ | refine Rd.and ?_ | refine Rd.or ?_ | refine Rd.not ?_
  | refine Rd.andV ?_ | refine Rd.orV ?_ | refine Rd.notV ?_ | refine Rd.ifx ?_ | refine Rd.chain ?_ | refine Rd.tup ?_ | refine Rd.lst ?_ | refine Rd.bm ?_ | refine Rd.bm0 ?_ | refine Rd.m1 ?_ | refine Rd.call ?_ | refine Rd.callS ?_ | refine Rd.slice ?_ | refine Rd.nopart ?_ | refine Rd.part ?_ | refine Rd.isi ?_
  | refine Rd.i0 ?_ | refine Rd.iu ?_ | refine Ux.add_i ?_ | refine Ux.eq_i ?_ | refine Ux.ne_i ?_ | refine Ux.eq_s ?_ | refine Ux.ne_s ?_ | refine Ux.le_i ?_ | refine Ux.ge_i ?_ | refine Ux.int_i ?_ | refine Ux.in_c ?_ | refine Ux.nin_c ?_ | refine Rd.abs_ ?_ | refine Rd.lc ?_ | refine Rd.iStr ?_ | refine Rd.iss ?_ | refine Rd.iList ?_ | refine Rd.for_ ?_ | refine Rd.fld ?_ | refine Rd.sfld ?_ | refine Rd.meth ?_ | refine Rd.gn ?_ | refine Rd.rng1 ?_ | refine Rd.rng2 ?_ | refine Rd.rng3 ?_ | refine Rd.enumS ?_ | refine Rd.enumSn ?_
  | refine Rd.seq ?_ | refine Rd.next ?_ | refine Rd.brk ?_ | refine Rd.cont ?_ | refine Rd.drop ?_ | refine Rd.ret ?_ | refine Rd.retN ?_ | refine Rd.ifs ?_ | refine Rd.asg ?_ | refine Rd.par ?_ | refine Rd.is2 ?_)
local macro_rules | `(tactic| walk_at "rv") => `(tactic| first
  | ((with_reducible refine' Rd.var ?zvar ?_); (case zvar => rfl)) | walk_at "rd")

/-! ### read_whole -/
def bodyOf (l : List Nat) : List Nat := if l.take 1 = [45] then l.drop 1 else l
theorem body_cases (l : List Nat) : (∃ r, l = 45 :: r ∧ bodyOf l = r) ∨ (bodyOf l = l ∧ ∀ r, l ≠ 45 :: r) := by
  cases l with
  | nil => exact .inr ⟨rfl, fun r h => by cases h⟩
  | cons c r =>
    by_cases h : c = 45
    · subst h
      exact .inl ⟨r, rfl, rfl⟩
    · refine .inr ⟨if_neg fun e => h ?_, fun r' e => h ?_⟩
      · cases e; rfl
      · cases e; rfl
theorem whole_eq (l : List Nat) : M53.wholeP l = if (bodyOf l).length ≤ 4000 then M53.numOf l else none := by
  rcases body_cases l with ⟨r, rfl, e⟩ | ⟨e, h⟩
  · rw [e]; rfl
  · rw [e]
    unfold M53.wholeP
    split
    · rename_i r
      exact absurd rfl (h r)
    · rfl
theorem num_eq (l : List Nat) : M53.numOf l = if (M53.natL (bodyOf l) && (bodyOf l != [48] || l == [48])) = true then some (if bodyOf l = l then (NumText.digitsVal l : Int) else -(NumText.digitsVal (bodyOf l) : Int)) else none := by
  rcases body_cases l with ⟨r, rfl, e⟩ | ⟨e, h⟩
  · have nr : ¬ r = 45 :: r := fun q => by have := congrArg List.length q; simp at this
    have : (45 :: r == [48]) = false := by
      rw [beq_eq_false_iff_ne]
      intro q
      cases q
    rw [e, M53.numOf_neg, if_neg nr, this, Bool.or_false]
  · rw [e, if_pos rfl]
    unfold M53.numOf
    split
    · rename_i r
      exact absurd rfl (h r)
    · have : (l != [48] || l == [48]) = true := by cases q : (l == [48]) <;> simp [bne, q]
      rw [this, Bool.and_true]
theorem whole_none {l : List Nat} (h : ¬ ((bodyOf l).length ≤ 4000 ∧ M53.natL (bodyOf l) = true ∧ (bodyOf l = [48] → l = [48]))) : M53.wholeP l = none := by
  rw [whole_eq]
  by_cases h1 : (bodyOf l).length ≤ 4000
  · rw [if_pos h1, num_eq, if_neg]
    intro q
    rw [Bool.and_eq_true, Bool.or_eq_true, bne_iff_ne, beq_iff_eq] at q
    exact h ⟨h1, q.1, fun e => q.2.elim (fun n => absurd e n) id⟩
  · rw [if_neg h1]
theorem natL_all {b : List Nat} (h : M53.natL b = true) : b.all M53.isDig = true ∧ b ≠ [] := by
  cases b with
  | nil => cases h
  | cons c r =>
    simp only [M53.natL, Bool.and_eq_true] at h
    exact ⟨by rw [List.all_cons, h.1.1, h.1.2]; rfl, fun e => by cases e⟩
theorem all_digs {b : List Nat} (h : b.all M53.isDig = true) : NumText.AllDigits b := by
  intro c hc
  exact M53.dig_iff.mp (List.all_eq_true.mp h c hc)
theorem whole_some {l : List Nat} (h1 : (bodyOf l).length ≤ 4000) (h2 : M53.natL (bodyOf l) = true) (h3 : bodyOf l = [48] → l = [48]) : ∃ n, M53.wholeP l = some n ∧ intText? (SX.S l) = some n := by
  obtain ⟨a1, a2⟩ := natL_all h2
  refine ⟨_, by rw [whole_eq, if_pos h1, num_eq, if_pos]; rw [Bool.and_eq_true, Bool.or_eq_true, bne_iff_ne, beq_iff_eq]; exact ⟨h2, (Classical.em (bodyOf l = [48])).elim (fun e => .inr (h3 e)) .inl⟩, ?_⟩
  rcases body_cases l with ⟨r, rfl, e⟩ | ⟨e, h⟩
  · rw [e] at a1 a2 h1 ⊢
    rw [if_neg (fun q => by have := congrArg List.length q; simp at this)]
    exact PySem.intText_neg (x := SX.S (45 :: r)) (cs := r) rfl (all_digs a1) a2 (by rw [SX.S_len, List.length_cons]; omega)
  · rw [e] at a1 a2 h1 ⊢
    rw [if_pos rfl]
    exact PySem.intText_digits (x := SX.S l) (all_digs a1) a2 (by rw [SX.S_len]; omega)
theorem natL_of_all {b : List Nat} (h : b.all M53.isDig = true) (hne : b ≠ []) (h0 : b.head? = some 48 → b = [48]) : M53.natL b = true := by
  cases b with
  | nil => exact absurd rfl hne
  | cons c r =>
    rw [List.all_cons, Bool.and_eq_true] at h
    simp only [M53.natL, h.1, h.2, Bool.true_and, Bool.or_eq_true, bne_iff_ne]
    by_cases e : c = 48
    · subst e
      have := h0 rfl
      cases this
      exact .inr rfl
    · exact .inl e
theorem natL_head {b : List Nat} (h : M53.natL b = true) (h0 : b.head? = some 48) : b = [48] := by
  cases b with
  | nil => cases h
  | cons c r =>
    cases h0
    simp only [M53.natL, Bool.and_eq_true, Bool.or_eq_true, bne_iff_ne] at h
    rcases h.2 with h | h
    · exact absurd rfl h
    · rw [List.isEmpty_iff.mp h]
theorem S_dec {a b : List Nat} : decide (SX.S a = SX.S b) = decide (a = b) := by
  by_cases h : a = b
  · rw [decide_eq_true h, decide_eq_true (congrArg SX.S h)]
  · rw [decide_eq_false h, decide_eq_false fun e => h (SX.S_inj e)]
section
variable {P : Program} {w : World} {K : PySem.W.Frag} {mg : Str → Option Value} {base : Heap} {M : Addr}
abbrev s_read_whole : Stmt := topS 14
abbrev N_read_whole : List Str := ["text", "body", "sign"]
theorem sc_read_whole : FnScope N_read_whole ["text"] (defScope s_read_whole) := ⟨rfl, rfl, rfl, by decide +kernel, rfl, by decide +kernel, by decide +kernel⟩
def sp_read_whole (M : Addr) : Sp := fun vs H Q E => ∃ l, vs = [.str (SX.S l)] ∧ l.length ≤ sizeLine ∧ (∀ n, M53.wholeP l = some n → ∀ H', Same H H' → Q (.int n) H') ∧ (M53.wholeP l = none → ∀ H', Same H H' → E (.ref M) none H')
theorem ok_read_whole {f : Addr} {fd : FuncData} (F : Fun K "read_whole" "read_whole" s_read_whole f fd) (T : Txt K mg M) : FnOk P w K mg base (L2.CX P w) 1 f fd ["text"] (sp_read_whole M) := by
  refine F.okX sc_read_whole (fun vs H Q E h => ?_) (fun cdv A outer s H vs Q E hr h => ?_)
  · obtain ⟨l, rfl, _⟩ := h
    rfl
  · obtain ⟨l, rfl, hz, q, qe⟩ := h
    have nd := sc_read_whole.nd
    have hz' : (SX.S l).length ≤ sizeLine := by rw [SX.S_len]; exact hz
    refine ⟨_, (pss_cons (ps_set (i := 1) nd rfl (.inl rfl) (pe_ifExp (pt_cmpR (op_eqU hr.units) (pe_slice sl_U (pv 0) po_none (po_some pe_int)) pe_str (nomark _)) (pe_slice sl_U (pv 0) (po_some pe_int) po_none) (pv 0)))
  (pss_cons (ps_if (PW.pt (pw_or (pt_not (pt_chain op_leU op_leU pe_int (pe_callB call_lenU rfl T.b_len bb_len (pa_cons (pv 1) pa_nil)) (pe_gc rfl T.c_MOST_DIGITS))) (pw_or1 (pt_not (pt_val (pe_callB (cr_all rfl) rfl T.b_all bb_all (pa_cons (pe_lc (own := [("sign", 2)]) rfl nd (pi_str (pv 1)) (blkOk_by (own := [("sign", 2)]) (N := N_read_whole) (sc := defScope s_read_whole) (by decide +kernel)) (fun _ _ _ _ _ => (pg_name (i := 2) nd rfl (.inl rfl))) (fun _ _ _ _ _ => pts_nil) (fun _ _ _ _ _ => (pe_cmpR (opK (r := rInU) K (op_inU hr)) (pv 2) (pe_gc rfl T.c_DIGITS) rfl))) pa_nil)))))))
  (pss_one (ps_raise rfl (takes_of rfl rfl rfl rfl) (pmk_own PySem.F.excBase_ValueError T.x_Malformed T.g_Malformed T.k_Malformed (raises_own T.s_Malformed T.t_Malformed) rfl)))
  pss_nil)
  (pss_cons (ps_if (PW.pt (pw_and (pt_cmpR (op_eqU hr.units) (pe_ix ix_seq (pv 1) pe_int (fun _ _ => rfl)) pe_str (nomark _)) (pw_and1 (pt_cmpR (op_neU hr.units) (pv 0) pe_str (nomark _)))))
  (pss_one (ps_raise rfl (takes_of rfl rfl rfl rfl) (pmk_own PySem.F.excBase_ValueError T.x_Malformed T.g_Malformed T.k_Malformed (raises_own T.s_Malformed T.t_Malformed) rfl)))
  pss_nil)
  (pss_one (ps_ret (pe_callTy (call_intU T.dg) rfl T.b_int bb_int (pa_cons (pv 0) pa_nil))))))), ?_⟩
    refine Rd.seq (Rd.asg (Rd.via (.str (SX.S (bodyOf l))) (fun R hR => ?_) ?_))
    · repeat walk_at "rv"
      refine cut_s hz' ?_
      repeat walk_at "rv"
      have e1 : cutS (SX.S l) none (some 1) = SX.S (l.take 1) := Rd.cut_to l 1
      have e45 : Str.ofString "-" = SX.S [45] := rfl
      rw [e1, e45, S_dec]
      by_cases h : l.take 1 = [45]
      · refine Rd.dyes h ?_
        repeat walk_at "rv"
        refine cut_s hz' ?_
        have e2 : cutS (SX.S l) (some 1) none = SX.S (l.drop 1) := Rd.cut_from l 1
        rw [e2, ← show bodyOf l = l.drop 1 from if_pos h]
        exact hR
      · refine Rd.dno h ?_
        repeat walk_at "rv"
        rw [show bodyOf l = l from if_neg h] at hR
        exact hR
    · have hzb : (SX.S (bodyOf l)).length ≤ sizeLine := by
        rw [SX.S_len]
        have : (bodyOf l).length ≤ l.length := by
          unfold bodyOf
          split
          · rw [List.length_drop]; omega
          · exact Nat.le_refl _
        omega
      repeat walk_at "rv"
      refine Rd.lenS hzb ?_
      repeat walk_at "rv"
      have bad : ¬ ((bodyOf l).length ≤ 4000 ∧ M53.natL (bodyOf l) = true ∧ (bodyOf l = [48] → l = [48])) → ∀ H', Same H H' → E (.ref M) none H' := fun h => qe (whole_none h)
      rw [SX.S_len]
      by_cases h1 : 1 ≤ (bodyOf l).length
      · refine Rd.dyes (by omega) ?_
        repeat walk_at "rv"
        by_cases h2 : (bodyOf l).length ≤ 4000
        · refine Rd.nno (decide_eq_true (by omega)) ?_
          repeat walk_at "rv"
          intro D hD
          refine Rd.lcC (f := fun x => V.bl (M53.isDig x)) hD hzb (fun x hx H' hs' Q' q' => ?_) ?_
          · repeat walk_at "rv"
            rw [dig_mem]
            exact q'
          · repeat walk_at "rv"
            refine Rd.allL (bs := (bodyOf l).map M53.isDig) ?_ ?_
            · rw [List.map_map]
              exact SqL.of upd_same
            · repeat walk_at "rv"
              have sD : ∀ y, Same H (upd H D y) := fun y => same_upd (Same.refl H) hD
              rw [List.all_map]
              by_cases h3 : (bodyOf l).all M53.isDig = true
              · refine Rd.nno h3 ?_
                repeat walk_at "rv"
                obtain ⟨c, r, hb⟩ : ∃ c r, bodyOf l = c :: r := by
                  cases q : bodyOf l with
                  | nil => rw [q] at h1; simp at h1
                  | cons c r => exact ⟨c, r, rfl⟩
                refine Rd.ixS (c := c) hzb (atI_nat (j := 0) (by show (bodyOf l)[0]? = some c; rw [hb]; rfl)) ?_
                repeat walk_at "rv"
                have e0 : ∀ a : List Nat, decide (SX.S a = Str.ofString "0") = decide (a = [48]) := fun a => S_dec
                have e1 : (⟨#[c]⟩ : Str) = SX.S [c] := rfl
                rw [e1, e0]
                have fin : (c = 48 → l = [48]) → rIntU [V.str (SX.S l)] (upd H D (.lst ((bodyOf l).map fun x => V.bl (M53.isDig x)))) Q := fun h4 => by
                  have h5 : M53.natL (bodyOf l) = true := natL_of_all h3 (by rw [hb]; simp) fun h => by
                    rw [hb] at h
                    have e : c = 48 := by simpa using h
                    have e2 := h4 e
                    rcases body_cases l with ⟨r', e3, _⟩ | ⟨e3, _⟩
                    · rw [e3] at e2; cases e2
                    · rw [e3]; exact e2
                  obtain ⟨n, w1, w2⟩ := whole_some h2 h5 (fun e => h4 (by rw [hb] at e; cases e; rfl))
                  exact int_t w2 hz' (q n w1 _ (sD _))
                by_cases h4 : [c] = [48]
                · refine Rd.dyes h4 ?_
                  repeat walk_at "rv"
                  rw [e0]
                  by_cases h5 : l = [48]
                  · refine Rd.nno (decide_eq_true h5) ?_
                    repeat walk_at "rv"
                    exact fin fun _ => h5
                  · refine Rd.nyes (decide_eq_false h5) ?_
                    refine bad (fun h => h5 (h.2.2 ?_)) _ (sD _)
                    have hc : c = 48 := by simpa using h4
                    exact natL_head h.2.1 (by rw [hb, hc]; rfl)
                · refine Rd.dno h4 ?_
                  repeat walk_at "rv"
                  refine Rd.no rfl ?_
                  repeat walk_at "rv"
                  exact fin fun e => absurd (by rw [e]) h4
              · refine Rd.nyes (by simpa using h3) ?_
                refine bad (fun h => h3 (natL_all h.2.1).1) _ (sD _)
        · refine Rd.nyes (decide_eq_false (by omega)) ?_
          exact bad (fun h => h2 h.1) H (Same.refl H)
      · refine Rd.dno (by omega) ?_
        repeat walk_at "rv"
        refine Rd.yes rfl ?_
        exact bad (fun h => (natL_all h.2.1).2 (List.eq_nil_of_length_eq_zero (by omega))) H (Same.refl H)
/-! ### pieces_of -/
abbrev s_pieces_of : Stmt := topS 15
abbrev N_pieces_of : List Str := ["text", "found", "start", "place", "sign"]
theorem sc_pieces_of : FnScope N_pieces_of ["text"] (defScope s_pieces_of) := ⟨rfl, rfl, rfl, by decide +kernel, rfl, by decide +kernel, by decide +kernel⟩
def pcV (l : List Nat) : List V := (M53.pcs [] l).map fun p => V.str (SX.S p)
def sp_pieces_of : Sp := fun vs H Q _ => ∃ l, vs = [.str (SX.S l)] ∧ 2 * l.length + 2 ≤ sizeLine ∧ ∀ q H', Same H H' → H q = none → H' q = some (.lst (pcV l)) → Q (.ref q) H'
theorem del_mem (c : Nat) : decide (c ∈ ("[]," : Str).cps.toList) = M53.isDel c := by
  have e : ("[]," : Str).cps.toList = [91, 93, 44] := by decide +kernel
  rw [e]
  unfold M53.isDel
  by_cases h1 : c = 91 <;> by_cases h2 : c = 93 <;> by_cases h3 : c = 44 <;> simp [h1, h2, h3]
theorem ok_pieces_of {f : Addr} {fd : FuncData} (F : Fun K "pieces_of" "pieces_of" s_pieces_of f fd) (T : Txt K mg M) : FnOk P w K mg base (L2.CX P w) 1 f fd ["text"] sp_pieces_of := by
  refine F.okX sc_pieces_of (fun vs H Q E h => ?_) (fun cdv A outer s H vs Q E hr h => ?_)
  · obtain ⟨l, rfl, _⟩ := h
    rfl
  · obtain ⟨l, rfl, hz, q⟩ := h
    have nd := sc_pieces_of.nd
    have hz' : (SX.S l).length ≤ sizeLine := by rw [SX.S_len]; omega
    refine ⟨_, (pss_cons (ps_par (i := 1) (j := 2) rfl nd rfl rfl (by decide) rfl rfl (pa_cons (pe_lst pa_nil) (pa_cons pe_int pa_nil)) (by rfl))
  (pss_cons (ps_for (passes_of rfl) rfl (pi_enumS rfl T.b_enumerate (pa_cons (pv 0) pa_nil)) (pg_tup rfl (pgs_cons (pg_name (i := 3) nd rfl (.inl rfl)) (pgs_cons (pg_name (i := 4) nd rfl (.inl rfl)) pgs_nil)))
  (pss_one (ps_if (pt_cmpR (op_inU hr) (pv 4) pe_str rfl)
  (pss_cons (ps_if (pt_cmpR op_lt (pv 2) (pv 3) (nomark _))
  (pss_one (ps_expr (pe_bm PySem.F.plainAttrs_list PySem.F.slot_list_append PySem.F.type_list_append mt_append (pv 1) (pa_cons (pe_slice sl_U (pv 0) (po_some (pv 2)) (po_some (pv 3))) pa_nil))))
  pss_nil)
  (pss_cons (ps_expr (pe_bm PySem.F.plainAttrs_list PySem.F.slot_list_append PySem.F.type_list_append mt_append (pv 1) (pa_cons (pv 4) pa_nil)))
  (pss_one (ps_set (i := 2) nd rfl (.inl rfl) (pe_op op_addU (pv 3) pe_int)))))
  pss_nil)))
  (pss_one (ps_ret (pe_op op_addU (pv 1) (pe_ifExp (pt_cmpR op_lt (pv 2) (pe_callB call_lenU rfl T.b_len bb_len (pa_cons (pv 0) pa_nil)) (nomark _)) (pe_lst (pa_cons (pe_slice sl_U (pv 0) (po_some (pv 2)) po_none) pa_nil)) (pe_lst pa_nil))))))), ?_⟩
    repeat walk_at "rv"
    refine ⟨(by decide : 0 ≤ sizeLine), fun lf hlf => ?_⟩
    repeat walk_at "rv"
    refine for_it Rd.walk_enumS (fun i σ H' => ∃ (fs : List (List Nat)) (st : Nat) (x3 x4 : Option V), σ = [some (.str (SX.S l)), some (.ref lf), some (.int (st : Int)), x3, x4] ∧ H' lf = some (.lst (fs.map fun p => V.str (SX.S p))) ∧ Same H H' ∧ st ≤ i ∧
      fs.length ≤ 2 * i ∧ M53.pcs [] l = fs ++ M53.pcs ((l.take i).drop st) (l.drop i)) ⟨[], 0, none, none, rfl, upd_same, same_upd (Same.refl H) hlf, Nat.le_refl _, Nat.le_refl _, by simp⟩ (fun _ _ _ _ _ => trivial) (fun i x σ H1 H2 hi p y => ?_) (fun σ H1 p => ?_)
    · obtain ⟨fs, st, x3, x4, rfl, hf, hs, hst, hfl, hpc⟩ := p
      obtain ⟨t, c, rfl, ht, rfl, hc⟩ := y
      have hn : t ≠ lf := fun e => by rw [e, hf] at ht; cases ht
      have hi' : i < l.length := hi
      have hc' : l[i]? = some c := by
        rw [← Array.getElem?_toList] at hc
        exact hc
      have hd : l.drop i = c :: l.drop (i + 1) := by
        rw [List.drop_eq_getElem_cons hi']
        congr 1
        rw [List.getElem?_eq_getElem hi'] at hc'
        exact Option.some.inj hc'
      have htk : l.take (i + 1) = l.take i ++ [c] := by
        rw [List.take_add_one, hc']
        rfl
      have hf2 : upd H1 t (.tup [.int (i : Nat), .str ⟨#[c]⟩]) lf = some (.lst (fs.map fun p => V.str (SX.S p))) := by rw [upd_ne (Ne.symm hn)]; exact hf
      have hs2 : Same H (upd H1 t (.tup [.int (i : Nat), .str ⟨#[c]⟩])) := same_upd hs (hs.free ht)
      have hT : SqT K (upd H1 t (.tup [.int (i : Nat), .str ⟨#[c]⟩])) t [.int (i : Nat), .str ⟨#[c]⟩] := .inl (.inl upd_same)
      generalize upd H1 t (.tup [.int (i : Nat), .str ⟨#[c]⟩]) = H2 at *
      refine Rd.g2 hT ?_
      repeat walk_at "rv"
      rw [del_mem]
      have hsz : fs.length + 2 < sizeLine := by omega
      have hcur : ((l.take i).drop st) = [] ↔ ¬ st < i := by
        rw [List.drop_eq_nil_iff, List.length_take]
        omega
      have hend : (l.take (i + 1)).drop (i + 1) = [] := by
        rw [List.drop_eq_nil_iff, List.length_take]
        omega
      cases hcd : M53.isDel c with
      | true =>
        refine Rd.yes rfl ?_
        repeat walk_at "rv"
        have hp1 : M53.pcs [] l = (fs ++ (if (l.take i).drop st = [] then [] else [(l.take i).drop st])) ++ [c] :: M53.pcs [] (l.drop (i + 1)) := by
          rw [hpc, hd]
          show fs ++ (if M53.isDel c = true then _ else _) = _
          rw [if_pos hcd]
          simp
        by_cases hlt : st < i
        · refine Rd.dyes (by omega) ?_
          repeat walk_at "rv"
          refine Rd.app1 hf2 ?_
          repeat walk_at "rv"
          refine cut_s hz' ?_
          rw [Rd.cut_mid l hst (by omega)]
          repeat walk_at "rv"
          refine ⟨_, hf2, by rw [List.length_map]; omega, ?_⟩
          repeat walk_at "rv"
          have hf3 : upd H2 lf (.lst (fs.map (fun p => V.str (SX.S p)) ++ [V.str (SX.S ((l.take i).drop st))])) lf = some (.lst ((fs ++ [(l.take i).drop st]).map fun p => V.str (SX.S p))) := by
            rw [upd_same, List.map_append]
            rfl
          refine Rd.app1 hf3 ?_
          repeat walk_at "rv"
          refine ⟨_, hf3, by rw [List.length_map, List.length_append, List.length_singleton]; omega, ?_⟩
          repeat walk_at "rv"
          rw [if_neg fun e => hcur.mp e hlt] at hp1
          refine ⟨fs ++ [(l.take i).drop st] ++ [[c]], i + 1, _, _, rfl, ?_, same_upd (same_upd hs2 hlf) hlf, Nat.le_refl _, ?_, ?_⟩
          · rw [upd_same, List.map_append (l₂ := [[c]])]
            rfl
          · simp only [List.length_append, List.length_singleton]
            omega
          · rw [hp1, hend]
            simp
        · refine Rd.dno (by omega) ?_
          repeat walk_at "rv"
          refine Rd.app1 hf2 ?_
          repeat walk_at "rv"
          refine ⟨_, hf2, by rw [List.length_map]; omega, ?_⟩
          repeat walk_at "rv"
          rw [if_pos (hcur.mpr hlt), List.append_nil] at hp1
          refine ⟨fs ++ [[c]], i + 1, _, _, rfl, ?_, same_upd hs2 hlf, Nat.le_refl _, ?_, ?_⟩
          · rw [upd_same, List.map_append]
            rfl
          · simp only [List.length_append, List.length_singleton]
            omega
          · rw [hp1, hend]
            simp
      | false =>
        refine Rd.no rfl ?_
        repeat walk_at "rv"
        refine ⟨fs, st, _, _, rfl, hf2, hs2, by omega, by omega, ?_⟩
        rw [hpc, hd]
        show fs ++ (if M53.isDel c = true then _ else _) = _
        rw [if_neg (by rw [hcd]; exact Bool.false_ne_true), htk, List.drop_append_of_le_length (by rw [List.length_take]; omega)]
    · obtain ⟨fs, st, x3, x4, rfl, hf, hs, hst, hfl, hpc⟩ := p
      have hsz : (SX.S l).cps.size = l.length := SX.S_len l
      rw [hsz] at hst hfl hpc
      rw [List.take_length, List.drop_length] at hpc
      repeat walk_at "rv"
      refine Rd.lenS hz' ?_
      rw [SX.S_len]
      repeat walk_at "rv"
      by_cases hlt : st < l.length
      · have hp1 : M53.pcs [] l = fs ++ [l.drop st] := by
          rw [hpc]
          show fs ++ (if l.drop st = [] then [] else [l.drop st]) = _
          rw [if_neg (by rw [List.drop_eq_nil_iff]; omega)]
        refine Rd.dyes (by omega) ?_
        repeat walk_at "rv"
        refine cut_s hz' ?_
        rw [Rd.cut_from]
        repeat walk_at "rv"
        refine ⟨(by decide : 1 ≤ sizeLine), fun la hla => ?_⟩
        have n1 : lf ≠ la := fun e => by rw [← e, hf] at hla; cases hla
        have s1 := same_upd (o := HO.lst [V.str (SX.S (l.drop st))]) hs (hs.free hla)
        refine add_l (by rw [upd_ne n1]; exact hf) upd_same (by rw [List.length_map]; simp; omega) fun p hp => ?_
        refine q p _ (same_upd s1 (s1.free hp)) (s1.free hp) ?_
        rw [upd_same]
        unfold pcV
        rw [hp1, List.map_append]
        rfl
      · have hp1 : M53.pcs [] l = fs := by
          rw [hpc]
          show fs ++ (if l.drop st = [] then [] else [l.drop st]) = _
          rw [if_pos (by rw [List.drop_eq_nil_iff]; omega), List.append_nil]
        refine Rd.dno (by omega) ?_
        repeat walk_at "rv"
        refine ⟨(by decide : 0 ≤ sizeLine), fun la hla => ?_⟩
        have n1 : lf ≠ la := fun e => by rw [← e, hf] at hla; cases hla
        have s1 := same_upd (o := HO.lst []) hs (hs.free hla)
        refine add_l (by rw [upd_ne n1]; exact hf) upd_same (by rw [List.length_map]; simp; omega) fun p hp => ?_
        refine q p _ (same_upd s1 (s1.free hp)) (s1.free hp) ?_
        rw [upd_same, List.append_nil]
        unfold pcV
        rw [hp1]
end
end K53

namespace K53
open PySem L2 Ux
open C8 (pe_gc)
local macro_rules | `(tactic| walk_at "rd") => `(tactic| with_reducible first
  | refine Rd.c ?_ | refine Rd.cb ?_ | refine Rd.cons ?_ | refine Rd.nil ?_ | refine Rd.op ?_ | refine Rd.un ?_ | refine Rd.test ?_ | refine Rd.tb_ ?_ | refine Rd.isb ?_ | refine Rd.and ?_ | refine Rd.or ?_ | refine Rd.not ?_
  | refine Rd.andV ?_ | refine Rd.orV ?_ | refine Rd.notV ?_ | refine Rd.ifx ?_ | refine Rd.chain ?_ | refine Rd.tup ?_ | refine Rd.lst ?_ | refine Rd.bm ?_ | refine Rd.bm0 ?_ | refine Rd.m1 ?_ | refine Rd.call ?_ | refine Rd.callS ?_ | refine Rd.slice ?_ | refine Rd.nopart ?_ | refine Rd.part ?_ | refine Rd.isi ?_
  | refine Rd.i0 ?_ | refine Rd.iu ?_ | refine Ux.add_i ?_ | refine Ux.eq_i ?_ | refine Ux.ne_i ?_ | refine Ux.eq_s ?_ | refine Ux.ne_s ?_ | refine Ux.le_i ?_ | refine Ux.ge_i ?_ | refine Ux.int_i ?_ | refine Ux.in_c ?_ | refine Ux.nin_c ?_ | refine Rd.abs_ ?_ | refine Rd.lc ?_ | refine Rd.iStr ?_ | refine Rd.iss ?_ | refine Rd.iList ?_ | refine Rd.for_ ?_ | refine Rd.fld ?_ | refine Rd.sfld ?_ | refine Rd.meth ?_ | refine Rd.gn ?_ | refine Rd.rng1 ?_ | refine Rd.rng2 ?_ | refine Rd.rng3 ?_ | refine Rd.enumS ?_ | refine Rd.enumSn ?_
  | refine Rd.seq ?_ | refine Rd.next ?_ | refine Rd.brk ?_ | refine Rd.cont ?_ | refine Rd.drop ?_ | refine Rd.ret ?_ | refine Rd.retN ?_ | refine Rd.ifs ?_ | refine Rd.asg ?_ | refine Rd.par ?_ | refine Rd.is2 ?_)
local macro_rules | `(tactic| walk_at "rv") => `(tactic| first
  | ((with_reducible refine' Rd.var ?zvar ?_); (case zvar => rfl)) | walk_at "rd")

/-! ### DataReader on the heap -/
mutual
def flat : PyData → Bool
  | .tuple ds => flats ds
  | .str _ => true
  | .int _ => true
  | _ => false
def flats : List PyData → Bool
  | [] => true
  | d :: r => flat d && flats r
end
def mutH : HO → Bool
  | .lst _ => true
  | .ins _ _ _ => true
  | _ => false
def KeepT (H H' : Hp) : Prop := ∀ p u, H p = some u → mutH u = false → H' p = some u
theorem KeepT.upd_mut {H : Hp} {x : Addr} {u o : HO} (h : H x = some u) (m : mutH u = true) : KeepT H (upd H x o) := fun p v e n => by
  rw [upd_ne fun q => by subst q; rw [h] at e; cases e; rw [m] at n; cases n]
  exact e
theorem KeepT.upd_new {H : Hp} {x : Addr} {o : HO} (h : H x = none) : KeepT H (upd H x o) := fun p v e n => by
  rw [upd_ne (ne_of_none e h)]
  exact e
theorem KeepT.trans {H H1 H2 : Hp} (a : KeepT H H1) (b : KeepT H1 H2) : KeepT H H2 := fun p u e m => b p u (a p u e m) m
theorem keep_seqT {K : PySem.W.Frag} {H H' : Hp} {a : Addr} {xs : List V} (e : KeepT H H') (h : SqT K H a xs) : SqT K H' a xs := by
  rcases h with (h | ⟨o, h⟩) | h
  · exact .inl (.inl (e _ _ h rfl))
  · exact .inl (.inr ⟨o, e _ _ h rfl⟩)
  · exact .inr h
mutual
theorem dp_keep {K : PySem.W.Frag} {H H' : Hp} (e : KeepT H H') : ∀ (d : PyData) (v : V), flat d = true → Dp K H v d → Dp K H' v d
  | .none, _, f, h => by cases f
  | .bool b, _, f, h => by cases f
  | .int i, _, f, h => by cases h; exact .int i
  | .str s, _, f, h => by cases h; exact .str s
  | .list ds, _, f, h => by cases f
  | .tuple ds, _, f, h => by
    cases h with
    | tup h1 h2 => exact .tup (keep_seqT e h1) (dpAll_keep e ds _ f h2)
  | .dict _, _, f, h => by cases f
theorem dpAll_keep {K : PySem.W.Frag} {H H' : Hp} (e : KeepT H H') : ∀ (ds : List PyData) (vs : List V), flats ds = true → DpAll K H vs ds → DpAll K H' vs ds
  | [], _, _, h => by cases h; exact .nil
  | d :: ds, _, f, h => by
    have f' : (flat d && flats ds) = true := f
    rw [Bool.and_eq_true] at f'
    cases h with
    | cons h1 h2 => exact .cons (dp_keep e d _ f'.1 h1) (dpAll_keep e ds _ f'.2 h2)
end
theorem dpAll_snoc {K : PySem.W.Frag} {H : Hp} {v : V} {d : PyData} (h : Dp K H v d) : ∀ {xs : List V} {ds : List PyData}, DpAll K H xs ds → DpAll K H (xs ++ [v]) (ds ++ [d])
  | _, _, .nil => .cons h .nil
  | _, _, .cons a b => .cons a (dpAll_snoc h b)
theorem flats_snoc {d : PyData} (h : flat d = true) : ∀ {ds : List PyData}, flats ds = true → flats (ds ++ [d]) = true
  | [], _ => by show (flat d && true) = true; rw [h]; rfl
  | e :: ds, f => by
    have f' : (flat e && flats ds) = true := f
    rw [Bool.and_eq_true] at f'
    show (flat e && flats (ds ++ [d])) = true
    rw [f'.1, flats_snoc h f'.2]
    rfl
/-- a list of data at q -/
def RowOk (K : PySem.W.Frag) (H : Hp) (q : Addr) (r : List PyData) : Prop := ∃ xs, H q = some (.lst xs) ∧ DpAll K H xs r ∧ flats r = true
inductive RowsA (K : PySem.W.Frag) (H : Hp) : List Addr → List (List PyData) → Prop
  | nil : RowsA K H [] []
  | cons {q ps r rs} : RowOk K H q r → RowsA K H ps rs → RowsA K H (q :: ps) (r :: rs)
theorem RowOk.keep {K : PySem.W.Frag} {H H' : Hp} {q : Addr} {r : List PyData} (e : KeepT H H') (h : H' q = H q) (k : RowOk K H q r) : RowOk K H' q r := by
  obtain ⟨xs, a, b, c⟩ := k
  exact ⟨xs, by rw [h]; exact a, dpAll_keep e _ _ c b, c⟩
theorem RowsA.keep {K : PySem.W.Frag} {H H' : Hp} (e : KeepT H H') : ∀ {ps : List Addr} {rs : List (List PyData)}, (∀ q ∈ ps, H' q = H q) → RowsA K H ps rs → RowsA K H' ps rs
  | _, _, _, .nil => .nil
  | _, _, h, .cons a b => .cons (a.keep e (h _ List.mem_cons_self)) (b.keep e fun q m => h q (List.mem_cons_of_mem _ m))
theorem RowsA.len {K : PySem.W.Frag} {H : Hp} : ∀ {ps : List Addr} {rs : List (List PyData)}, RowsA K H ps rs → ps.length = rs.length
  | _, _, .nil => rfl
  | _, _, .cons a b => by rw [List.length_cons, List.length_cons, b.len]
theorem RowsA.some {K : PySem.W.Frag} {H : Hp} {q : Addr} : ∀ {ps : List Addr} {rs : List (List PyData)}, RowsA K H ps rs → q ∈ ps → ∃ xs, H q = .some (.lst xs)
  | _, _, .nil, m => by cases m
  | _, _, .cons a b, m => by
    rcases List.mem_cons.mp m with e | m
    · subst e
      obtain ⟨xs, h, _⟩ := a
      exact ⟨xs, h⟩
    · exact b.some m
def fldsOf (lt lo : Addr) (b : Bool) : List (Str × V) := [("tuples", .ref lt), ("ready", .bl b), ("told", .ref lo)]
section
variable {lt lo : Addr} {b : Bool}
theorem fl_t : (fldsOf lt lo b).lookup ("tuples" : Str) = some (V.ref lt) := rfl
theorem fl_r : (fldsOf lt lo b).lookup ("ready" : Str) = some (V.bl b) := rfl
theorem fl_o : (fldsOf lt lo b).lookup ("told" : Str) = some (V.ref lo) := rfl
theorem fl_put {c : Bool} : putF ("ready" : Str) (V.bl c) (fldsOf lt lo b) = fldsOf lt lo c := rfl
theorem fl_len : (fldsOf lt lo b).length < 1000 := by show 3 < 1000; decide
theorem fl_item : (fldsOf lt lo b).lookup ("item" : Str) = none := rfl
theorem fl_open : (fldsOf lt lo b).lookup ("open_one" : Str) = none := rfl
theorem fl_close : (fldsOf lt lo b).lookup ("close_one" : Str) = none := rfl
theorem fl_comma : (fldsOf lt lo b).lookup ("comma" : Str) = none := rfl
theorem fl_take : (fldsOf lt lo b).lookup ("take" : Str) = none := rfl
end
/-- the reader at a stands at p -/
structure RS (K : PySem.W.Frag) (C : Addr) (H0 H : Hp) (a dx lt lo : Addr) (ps : List Addr) (p : M53.PSt) : Prop where
  ha : H a = some (.ins C dx (fldsOf lt lo p.ready))
  ht : H lt = some (.lst (ps.map V.ref).reverse)
  ho : RowOk K H lo p.told
  hr : RowsA K H ps p.rows
  n1 : lt ≠ lo
  n2 : lt ∉ ps
  n3 : lo ∉ ps
  n4 : ps.Nodup
  sm : Same H0 H
  fa : H0 a = none
  ft : H0 lt = none
  fo : H0 lo = none
  fp : ∀ q ∈ ps, H0 q = none
section
variable {K : PySem.W.Frag} {C : Addr} {H0 H : Hp} {a dx lt lo : Addr} {ps : List Addr} {p : M53.PSt}
theorem RS.a_t (S : RS K C H0 H a dx lt lo ps p) : a ≠ lt := fun e => by have := S.ht; rw [← e, S.ha] at this; cases this
theorem RS.a_o (S : RS K C H0 H a dx lt lo ps p) : a ≠ lo := fun e => by obtain ⟨xs, h, _⟩ := S.ho; rw [← e, S.ha] at h; cases h
theorem RS.a_p (S : RS K C H0 H a dx lt lo ps p) : a ∉ ps := fun m => by obtain ⟨xs, h⟩ := S.hr.some m; rw [S.ha] at h; cases h
theorem ne_mem {ps : List Addr} {q x : Addr} (m : q ∈ ps) (n : x ∉ ps) : q ≠ x := fun e => n (e ▸ m)
/-- a thing that is new -/
theorem RS.new (S : RS K C H0 H a dx lt lo ps p) {x : Addr} (hx : H x = none) {o : HO} : RS K C H0 (upd H x o) a dx lt lo ps p := by
  have k : KeepT H (upd H x o) := .upd_new hx
  have e : ∀ {y u}, H y = some u → upd H x o y = H y := fun h => upd_ne (ne_of_none h hx)
  obtain ⟨xs, hl, _⟩ := S.ho
  exact ⟨by rw [e S.ha]; exact S.ha, by rw [e S.ht]; exact S.ht, S.ho.keep k (e hl), S.hr.keep k fun q m => by obtain ⟨ys, h⟩ := S.hr.some m; exact e h, S.n1, S.n2, S.n3, S.n4, same_upd S.sm (S.sm.free hx), S.fa, S.ft, S.fo, S.fp⟩
/-- ready is set -/
theorem RS.ready (S : RS K C H0 H a dx lt lo ps p) (b : Bool) : RS K C H0 (upd H a (.ins C dx (fldsOf lt lo b))) a dx lt lo ps ⟨p.rows, b, p.told⟩ := by
  have k : KeepT H (upd H a (.ins C dx (fldsOf lt lo b))) := .upd_mut S.ha rfl
  exact ⟨upd_same, by rw [upd_ne (Ne.symm S.a_t)]; exact S.ht, S.ho.keep k (upd_ne (Ne.symm S.a_o)), S.hr.keep k fun q m => upd_ne (ne_mem m S.a_p), S.n1, S.n2, S.n3, S.n4, same_upd S.sm S.fa, S.fa, S.ft, S.fo, S.fp⟩
/-- told gets one more -/
theorem RS.told (S : RS K C H0 H a dx lt lo ps p) {xs : List V} (hx : H lo = some (.lst xs)) {v : V} {d : PyData} (hd : Dp K H v d) (f : flat d = true) : RS K C H0 (upd H lo (.lst (xs ++ [v]))) a dx lt lo ps ⟨p.rows, p.ready, p.told ++ [d]⟩ := by
  have k : KeepT H (upd H lo (.lst (xs ++ [v]))) := .upd_mut hx rfl
  obtain ⟨ys, h1, h2, h3⟩ := S.ho
  rw [hx] at h1
  cases h1
  exact ⟨by rw [upd_ne S.a_o]; exact S.ha, by rw [upd_ne S.n1]; exact S.ht, ⟨_, upd_same, dpAll_snoc (dp_keep k _ _ f hd) (dpAll_keep k _ _ h3 h2), flats_snoc f h3⟩, S.hr.keep k fun q m => upd_ne (ne_mem m S.n3), S.n1, S.n2, S.n3, S.n4, same_upd S.sm S.fo, S.fa, S.ft, S.fo, S.fp⟩
/-- the top row gets one more -/
theorem RS.row {q : Addr} {r : List PyData} {rs : List (List PyData)} {rd : Bool} {td : List PyData} (S : RS K C H0 H a dx lt lo (q :: ps) ⟨r :: rs, rd, td⟩) {xs : List V} (hx : H q = some (.lst xs)) {v : V} {d : PyData} (hd : Dp K H v d) (f : flat d = true) :
    RS K C H0 (upd H q (.lst (xs ++ [v]))) a dx lt lo (q :: ps) ⟨(r ++ [d]) :: rs, rd, td⟩ := by
  have k : KeepT H (upd H q (.lst (xs ++ [v]))) := .upd_mut hx rfl
  have n4 := List.nodup_cons.mp S.n4
  have q1 : lt ≠ q := fun e => S.n2 (by rw [e]; exact List.mem_cons_self)
  have q2 : lo ≠ q := fun e => S.n3 (by rw [e]; exact List.mem_cons_self)
  have q3 : a ≠ q := fun e => S.a_p (by rw [e]; exact List.mem_cons_self)
  have hr := S.hr
  cases hr with
  | cons h1 h2 =>
    obtain ⟨ys, e1, e2, e3⟩ := h1
    rw [hx] at e1
    cases e1
    exact ⟨by rw [upd_ne q3]; exact S.ha, by rw [upd_ne q1]; exact S.ht, S.ho.keep k (upd_ne q2), .cons ⟨_, upd_same, dpAll_snoc (dp_keep k _ _ f hd) (dpAll_keep k _ _ e3 e2), flats_snoc f e3⟩ (h2.keep k fun x m => upd_ne (ne_mem m n4.1)), S.n1, S.n2, S.n3, S.n4,
      same_upd S.sm (S.fp q List.mem_cons_self), S.fa, S.ft, S.fo, S.fp⟩
/-- a new row -/
theorem RS.push (S : RS K C H0 H a dx lt lo ps p) {q : Addr} (hq : H q = none) : upd H q (.lst []) lt = some (.lst (ps.map V.ref).reverse) ∧ RS K C H0 (upd (upd H q (.lst [])) lt (.lst ((ps.map V.ref).reverse ++ [.ref q]))) a dx lt lo (q :: ps) ⟨[] :: p.rows, p.ready, p.told⟩ := by
  have S1 := S.new hq (o := .lst [])
  have k : KeepT (upd H q (.lst [])) (upd (upd H q (.lst [])) lt (.lst ((ps.map V.ref).reverse ++ [.ref q]))) := .upd_mut S1.ht rfl
  have q0 : ∀ {x u}, H x = some u → x ≠ q := fun h => ne_of_none h hq
  obtain ⟨xs, hl, _⟩ := S.ho
  refine ⟨S1.ht, by rw [upd_ne S1.a_t]; exact S1.ha, by rw [upd_same, List.map_cons, List.reverse_cons], S1.ho.keep k (upd_ne (Ne.symm S.n1)), .cons ⟨[], by rw [upd_ne (Ne.symm (q0 S.ht)), upd_same], .nil, rfl⟩ (S1.hr.keep k fun x m => upd_ne (ne_mem m S.n2)), S.n1, ?_, ?_, ?_, same_upd S1.sm S.ft, S.fa, S.ft, S.fo, ?_⟩
  · intro m
    rcases List.mem_cons.mp m with e | m
    · exact q0 S.ht e
    · exact S.n2 m
  · intro m
    rcases List.mem_cons.mp m with e | m
    · exact q0 hl e
    · exact S.n3 m
  · refine List.nodup_cons.mpr ⟨fun m => ?_, S.n4⟩
    obtain ⟨ys, h⟩ := S.hr.some m
    exact q0 h rfl
  · intro x m
    rcases List.mem_cons.mp m with e | m
    · rw [e]; exact S.sm.free hq
    · exact S.fp x m
/-- the top row goes -/
theorem RS.pop {q : Addr} {r : List PyData} {rs : List (List PyData)} {rd : Bool} {td : List PyData} (S : RS K C H0 H a dx lt lo (q :: ps) ⟨r :: rs, rd, td⟩) :
    H lt = some (.lst ((ps.map V.ref).reverse ++ [.ref q])) ∧ RS K C H0 (upd H lt (.lst (ps.map V.ref).reverse)) a dx lt lo ps ⟨rs, rd, td⟩ ∧ RowOk K (upd H lt (.lst (ps.map V.ref).reverse)) q r := by
  have k : KeepT H (upd H lt (.lst (ps.map V.ref).reverse)) := .upd_mut S.ht rfl
  have n4 := List.nodup_cons.mp S.n4
  have q1 : q ≠ lt := fun e => S.n2 (by rw [e]; exact List.mem_cons_self)
  have hr := S.hr
  cases hr with
  | cons h1 h2 =>
    refine ⟨by rw [S.ht, List.map_cons, List.reverse_cons], ⟨by rw [upd_ne S.a_t]; exact S.ha, upd_same, S.ho.keep k (upd_ne (Ne.symm S.n1)), h2.keep k fun x m => upd_ne (ne_mem (List.mem_cons_of_mem _ m) S.n2), S.n1, fun m => S.n2 (List.mem_cons_of_mem _ m), fun m => S.n3 (List.mem_cons_of_mem _ m), n4.2,
      same_upd S.sm S.ft, S.fa, S.ft, S.fo, fun x m => S.fp x (List.mem_cons_of_mem _ m)⟩, h1.keep k (upd_ne q1)⟩
end
/-- how much it holds -/
def big (p : M53.PSt) : Nat := p.told.length + (p.rows.map fun r => r.length + 1).sum
/-- what is known of the class -/
structure Rdr (K : PySem.W.Frag) (C : Addr) : Prop where
  cls : Cls K C
  tuples : NoAttr K C "tuples"
  ready : NoAttr K C "ready"
  told : NoAttr K C "told"
section
variable {P : Program} {w : World} {K : PySem.W.Frag} {mg : Str → Option Value} {base : Heap} {M C : Addr}
/-! ### item -/
abbrev s_DataReader_item : Stmt := inClass (topS 16) 1
abbrev N_DataReader_item : List Str := ["self", "value"]
theorem sc_DataReader_item : FnScope N_DataReader_item ["self", "value"] (defScope s_DataReader_item) := ⟨rfl, rfl, rfl, by decide +kernel, rfl, by decide +kernel, by decide +kernel⟩
def sp_item (K : PySem.W.Frag) (C M : Addr) : Sp := fun vs H Q E => ∃ H0 a dx lt lo ps p v d, vs = [.ref a, v] ∧ RS K C H0 H a dx lt lo ps p ∧ Dp K H v d ∧ flat d = true ∧ big p < sizeLine ∧
  (∀ p', M53.itemP d p = some p' → ∀ H' ps', RS K C H0 H' a dx lt lo ps' p' → Q .non H') ∧ (M53.itemP d p = none → ∀ H', Same H0 H' → E (.ref M) none H')
theorem ok_item {f : Addr} {fd : FuncData} (F : Fun K "item" "DataReader.item" s_DataReader_item f fd) (T : Txt K mg M) (R : Rdr K C) : FnOk P w K mg base (L2.CX P w) 1 f fd ["self", "value"] (sp_item K C M) := by
  refine F.okX sc_DataReader_item (fun vs H Q E h => ?_) (fun cdv A outer s H vs Q E hr h => ?_)
  · obtain ⟨_, _, _, _, _, _, _, _, _, rfl, _⟩ := h
    rfl
  · obtain ⟨H0, a, dx, lt, lo, ps, p, v, d, rfl, S, hd, hf, hz, q, qe⟩ := h
    have nd := sc_DataReader_item.nd
    refine ⟨_, (pss_cons (ps_if (pt_not (pt_val (pe_fld (pv 0) rfl)))
  (pss_one (ps_raise rfl (takes_of rfl rfl rfl rfl) (pmk_own PySem.F.excBase_ValueError T.x_Malformed T.g_Malformed T.k_Malformed (raises_own T.s_Malformed T.t_Malformed) rfl)))
  pss_nil)
  (pss_cons (ps_if (pt_cmpR op_gt (pe_callB call_lenU rfl T.b_len bb_len (pa_cons (pe_fld (pv 0) rfl) pa_nil)) pe_int (nomark _))
  (pss_one (ps_expr (pe_bm PySem.F.plainAttrs_list PySem.F.slot_list_append PySem.F.type_list_append mt_append (pe_ix ix_seq (pe_fld (pv 0) rfl) (pe_un un_neg pe_int) (fun _ _ => rfl)) (pa_cons (pv 1) pa_nil))))
  (pss_one (ps_expr (pe_bm PySem.F.plainAttrs_list PySem.F.slot_list_append PySem.F.type_list_append mt_append (pe_fld (pv 0) rfl) (pa_cons (pv 1) pa_nil)))))
  (pss_one (ps_fld (pv 0) pe_bl rfl)))), ?_⟩
    repeat walk_at "rv"
    refine Rd.fldA S.ha R.cls R.ready fl_r ?_
    repeat walk_at "rv"
    obtain ⟨rows, rd, td⟩ := p
    cases rd with
    | false =>
      refine Rd.nyes rfl ?_
      exact qe rfl H S.sm
    | true =>
      refine Rd.nno rfl ?_
      repeat walk_at "rv"
      refine Rd.fldA S.ha R.cls R.tuples fl_t ?_
      repeat walk_at "rv"
      refine Rd.lenL (.inl (.inl S.ht)) ?_
      repeat walk_at "rv"
      have hlen := S.hr.len
      rw [List.length_reverse, List.length_map]
      cases rows with
      | nil =>
        cases ps with
        | cons _ _ => cases hlen
        | nil =>
          refine Rd.dno (by simp) ?_
          repeat walk_at "rv"
          refine Rd.fldA S.ha R.cls R.told fl_o ?_
          repeat walk_at "rv"
          obtain ⟨xs, hx, hy⟩ := S.ho
          refine Rd.app1 hx ?_
          repeat walk_at "rv"
          have S1 := S.told hx hd hf
          have hl : xs.length = td.length := (dpAll_at hy.1).1
          refine ⟨xs, hx, by simp only [big] at hz; simp at hz; omega, ?_⟩
          repeat walk_at "rv"
          refine Rd.sfldA S1.ha R.cls R.ready fl_len fl_put ?_
          exact q _ rfl _ _ (S1.ready false)
      | cons r rs =>
        cases ps with
        | nil => cases hlen
        | cons t ps =>
          refine Rd.dyes (by simp) ?_
          repeat walk_at "rv"
          refine Rd.fldA S.ha R.cls R.tuples fl_t ?_
          repeat walk_at "rv"
          refine Rd.ixL (v := .ref t) (.inl (.inl S.ht)) (by rw [List.map_cons, List.reverse_cons]; exact atI_last _ _) ?_
          have hr2 := S.hr
          cases hr2 with
          | cons h1 h2 =>
            obtain ⟨xs, hx, hy⟩ := h1
            refine Rd.app1 hx ?_
            repeat walk_at "rv"
            have S1 := S.row hx hd hf
            have hl := (dpAll_at hy.1).1
            refine ⟨xs, hx, by simp only [big] at hz; simp at hz; omega, ?_⟩
            repeat walk_at "rv"
            refine Rd.sfldA S1.ha R.cls R.ready fl_len fl_put ?_
            exact q _ rfl _ _ (S1.ready false)
/-! ### open_one, close_one, comma -/
def stepSp (K : PySem.W.Frag) (C M : Addr) (f : M53.PSt → Option M53.PSt) : Sp := fun vs H Q E => ∃ H0 a dx lt lo ps p, vs = [.ref a] ∧ RS K C H0 H a dx lt lo ps p ∧ big p < sizeLine ∧
  (∀ p', f p = some p' → ∀ H' ps', RS K C H0 H' a dx lt lo ps' p' → Q .non H') ∧ (f p = none → ∀ H', Same H0 H' → E (.ref M) none H')
abbrev s_DataReader_open_one : Stmt := inClass (topS 16) 2
abbrev N_DataReader_open_one : List Str := ["self"]
theorem sc_DataReader_open_one : FnScope N_DataReader_open_one ["self"] (defScope s_DataReader_open_one) := ⟨rfl, rfl, rfl, by decide +kernel, rfl, by decide +kernel, by decide +kernel⟩
theorem ok_open_one {f : Addr} {fd : FuncData} (F : Fun K "open_one" "DataReader.open_one" s_DataReader_open_one f fd) (T : Txt K mg M) (R : Rdr K C) : FnOk P w K mg base (L2.CX P w) 1 f fd ["self"] (stepSp K C M M53.openP) := by
  refine F.okX sc_DataReader_open_one (fun vs H Q E h => ?_) (fun cdv A outer s H vs Q E hr h => ?_)
  · obtain ⟨_, _, _, _, _, _, _, rfl, _⟩ := h
    rfl
  · obtain ⟨H0, a, dx, lt, lo, ps, p, rfl, S, hz, q, qe⟩ := h
    have nd := sc_DataReader_open_one.nd
    refine ⟨_, (pss_cons (ps_if (PW.pt (pw_or (pt_not (pt_val (pe_fld (pv 0) rfl))) (pw_or1 (pt_cmpR op_geU (pe_callB call_lenU rfl T.b_len bb_len (pa_cons (pe_fld (pv 0) rfl) pa_nil)) (pe_gc rfl T.c_MOST_DEPTH) (nomark _)))))
  (pss_one (ps_raise rfl (takes_of rfl rfl rfl rfl) (pmk_own PySem.F.excBase_ValueError T.x_Malformed T.g_Malformed T.k_Malformed (raises_own T.s_Malformed T.t_Malformed) rfl)))
  pss_nil)
  (pss_one (ps_expr (pe_bm PySem.F.plainAttrs_list PySem.F.slot_list_append PySem.F.type_list_append mt_append (pe_fld (pv 0) rfl) (pa_cons (pe_lst pa_nil) pa_nil))))), ?_⟩
    repeat walk_at "rv"
    refine Rd.fldA S.ha R.cls R.ready fl_r ?_
    repeat walk_at "rv"
    have hlen := S.hr.len
    by_cases h1 : p.ready = true
    · refine Rd.nno h1 ?_
      repeat walk_at "rv"
      refine Rd.fldA S.ha R.cls R.tuples fl_t ?_
      repeat walk_at "rv"
      refine Rd.lenL (.inl (.inl S.ht)) ?_
      repeat walk_at "rv"
      rw [List.length_reverse, List.length_map]
      by_cases h2 : 1000 ≤ p.rows.length
      · refine Rd.dyes (by omega) ?_
        exact qe (by unfold M53.openP; rw [decide_eq_false (by omega), Bool.and_false]; rfl) H S.sm
      · refine Rd.dno (by omega) ?_
        repeat walk_at "rv"
        refine Rd.fldA S.ha R.cls R.tuples fl_t ?_
        repeat walk_at "rv"
        refine Rd.app1 S.ht ?_
        repeat walk_at "rv"
        refine ⟨(by decide : 0 ≤ sizeLine), fun t ht => ?_⟩
        obtain ⟨e1, S1⟩ := S.push ht
        refine ⟨_, e1, ?_, ?_⟩
        · rw [List.length_reverse, List.length_map]
          have : 1000 < sizeLine := by decide
          omega
        · exact q _ (by unfold M53.openP; rw [decide_eq_true (by omega), h1]; rfl) _ _ (by rw [← h1]; exact S1)
    · refine Rd.nyes (by simpa using h1) (Rd.yes rfl ?_)
      exact qe (by unfold M53.openP; rw [Bool.eq_false_iff.mpr h1]; rfl) H S.sm
abbrev s_DataReader_comma : Stmt := inClass (topS 16) 4
abbrev N_DataReader_comma : List Str := ["self"]
theorem sc_DataReader_comma : FnScope N_DataReader_comma ["self"] (defScope s_DataReader_comma) := ⟨rfl, rfl, rfl, by decide +kernel, rfl, by decide +kernel, by decide +kernel⟩
theorem ok_comma {f : Addr} {fd : FuncData} (F : Fun K "comma" "DataReader.comma" s_DataReader_comma f fd) (T : Txt K mg M) (R : Rdr K C) : FnOk P w K mg base (L2.CX P w) 1 f fd ["self"] (stepSp K C M M53.commaP) := by
  refine F.okX sc_DataReader_comma (fun vs H Q E h => ?_) (fun cdv A outer s H vs Q E hr h => ?_)
  · obtain ⟨_, _, _, _, _, _, _, rfl, _⟩ := h
    rfl
  · obtain ⟨H0, a, dx, lt, lo, ps, p, rfl, S, hz, q, qe⟩ := h
    have nd := sc_DataReader_comma.nd
    refine ⟨_, (pss_cons (ps_if (PW.pt (pw_or (pt_val (pe_fld (pv 0) rfl)) (pw_or1 (pt_cmpR (op_eqU hr.units) (pe_callB call_lenU rfl T.b_len bb_len (pa_cons (pe_fld (pv 0) rfl) pa_nil)) pe_int (nomark _)))))
  (pss_one (ps_raise rfl (takes_of rfl rfl rfl rfl) (pmk_own PySem.F.excBase_ValueError T.x_Malformed T.g_Malformed T.k_Malformed (raises_own T.s_Malformed T.t_Malformed) rfl)))
  pss_nil)
  (pss_one (ps_fld (pv 0) pe_bl rfl))), ?_⟩
    repeat walk_at "rv"
    refine Rd.fldA S.ha R.cls R.ready fl_r ?_
    repeat walk_at "rv"
    have hlen := S.hr.len
    by_cases h1 : p.ready = true
    · refine Rd.yes h1 (Rd.yes rfl ?_)
      exact qe (by unfold M53.commaP; rw [h1]; rfl) H S.sm
    · refine Rd.no (by simpa using h1) ?_
      repeat walk_at "rv"
      refine Rd.fldA S.ha R.cls R.tuples fl_t ?_
      repeat walk_at "rv"
      refine Rd.lenL (.inl (.inl S.ht)) ?_
      repeat walk_at "rv"
      rw [List.length_reverse, List.length_map]
      by_cases h2 : p.rows = []
      · refine Rd.dyes (by rw [hlen, h2]; rfl) ?_
        exact qe (by unfold M53.commaP; rw [h2, List.isEmpty_nil, Bool.or_true]; rfl) H S.sm
      · have h3 : p.rows.length ≠ 0 := fun e => h2 (List.eq_nil_of_length_eq_zero e)
        refine Rd.dno (by omega) ?_
        repeat walk_at "rv"
        refine Rd.sfldA S.ha R.cls R.ready fl_len fl_put ?_
        refine q _ ?_ _ _ (S.ready true)
        unfold M53.commaP
        rw [Bool.eq_false_iff.mpr h1, Bool.false_or, if_neg (by rw [List.isEmpty_iff]; exact h2)]
abbrev s_DataReader_close_one : Stmt := inClass (topS 16) 3
abbrev N_DataReader_close_one : List Str := ["self", "found"]
theorem sc_DataReader_close_one : FnScope N_DataReader_close_one ["self"] (defScope s_DataReader_close_one) := ⟨rfl, rfl, rfl, by decide +kernel, rfl, by decide +kernel, by decide +kernel⟩
theorem ok_close_one {f : Addr} {fd : FuncData} (F : Fun K "close_one" "DataReader.close_one" s_DataReader_close_one f fd) (T : Txt K mg M) (R : Rdr K C) (M_DataReader_item : Md P w K mg base 1 C "item" (sp_item K C M)) : FnOk P w K mg base (L2.CX P w) 2 f fd ["self"] (stepSp K C M M53.closeP) := by
  refine F.okX sc_DataReader_close_one (fun vs H Q E h => ?_) (fun cdv A outer s H vs Q E hr h => ?_)
  · obtain ⟨_, _, _, _, _, _, _, rfl, _⟩ := h
    rfl
  · obtain ⟨H0, a, dx, lt, lo, ps, p, rfl, S, hz, q, qe⟩ := h
    have nd := sc_DataReader_close_one.nd
    refine ⟨_, (pss_cons (ps_if (PW.pt (pw_or (pt_cmpR (op_eqU hr.units) (pe_callB call_lenU rfl T.b_len bb_len (pa_cons (pe_fld (pv 0) rfl) pa_nil)) pe_int (nomark _)) (pw_or1 (PW.pt (pw_and (pt_val (pe_fld (pv 0) rfl)) (pw_and1 (pt_cmpR op_gt (pe_callB call_lenU rfl T.b_len bb_len (pa_cons (pe_ix ix_seq (pe_fld (pv 0) rfl) (pe_un un_neg pe_int) (fun _ _ => rfl)) pa_nil)) pe_int (nomark _))))))))
  (pss_one (ps_raise rfl (takes_of rfl rfl rfl rfl) (pmk_own PySem.F.excBase_ValueError T.x_Malformed T.g_Malformed T.k_Malformed (raises_own T.s_Malformed T.t_Malformed) rfl)))
  pss_nil)
  (pss_cons (ps_set (i := 1) nd rfl (.inl rfl) (pe_callTy call_tupOf rfl T.b_tuple bb_tuple (pa_cons (pe_bm0 PySem.F.plainAttrs_list PySem.F.slot_list_pop PySem.F.type_list_pop mt_pop (pe_fld (pv 0) rfl)) pa_nil)))
  (pss_cons (ps_fld (pv 0) pe_bl rfl)
  (pss_one (ps_expr (pmeth M_DataReader_item hr (by decide) outX (pv 0) (pa_cons (pv 1) pa_nil))))))), ?_⟩
    repeat walk_at "rv"
    refine Rd.fldA S.ha R.cls R.tuples fl_t ?_
    repeat walk_at "rv"
    refine Rd.lenL (.inl (.inl S.ht)) ?_
    repeat walk_at "rv"
    rw [List.length_reverse, List.length_map]
    have hlen := S.hr.len
    obtain ⟨rows, rd, td⟩ := p
    cases rows with
    | nil =>
      cases ps with
      | cons _ _ => cases hlen
      | nil =>
        refine Rd.dyes rfl (Rd.yes rfl ?_)
        exact qe rfl H S.sm
    | cons r rs =>
      cases ps with
      | nil => cases hlen
      | cons t ps =>
        refine Rd.dno (by rw [List.length_cons]; omega) ?_
        repeat walk_at "rv"
        refine Rd.fldA S.ha R.cls R.ready fl_r ?_
        repeat walk_at "rv"
        have hr2 := S.hr
        have hrow : RowOk K H t r := by cases hr2 with | cons h1 h2 => exact h1
        obtain ⟨xs, hx, hy, hfl⟩ := hrow
        have hl : xs.length = r.length := (dpAll_at hy).1
        have eT : atI ((t :: ps).map V.ref).reverse (-1) = some (V.ref t) := by rw [List.map_cons, List.reverse_cons]; exact atI_last _ _
        by_cases hb : rd = true ∧ r ≠ []
        · obtain ⟨rfl, hne⟩ := hb
          have hpos : 0 < r.length := List.length_pos_iff.mpr hne
          refine Rd.yes rfl ?_
          repeat walk_at "rv"
          refine Rd.fldA S.ha R.cls R.tuples fl_t ?_
          repeat walk_at "rv"
          refine Rd.ixL (.inl (.inl S.ht)) eT ?_
          repeat walk_at "rv"
          refine Rd.lenL (.inl (.inl hx)) ?_
          repeat walk_at "rv"
          refine Rd.dyes (by omega) ?_
          refine qe ?_ H S.sm
          show (if (true && !r.isEmpty) = true then none else _) = none
          rw [if_pos]
          cases r with
          | nil => exact absurd rfl hne
          | cons _ _ => rfl
        · refine Rd.both (fun ht z => ?_) ?_
          · have hne : r = [] := Classical.byContradiction fun h => hb ⟨ht, h⟩
            repeat walk_at "rv"
            refine Rd.fldA S.ha R.cls R.tuples fl_t ?_
            repeat walk_at "rv"
            refine Rd.ixL (.inl (.inl S.ht)) eT ?_
            repeat walk_at "rv"
            refine Rd.lenL (.inl (.inl hx)) ?_
            repeat walk_at "rv"
            rw [hne] at hl
            exact Rd.dno (by rw [hl]; simp) (Rd.ff z)
          · refine Rd.no rfl ?_
            repeat walk_at "rv"
            refine Rd.fldA S.ha R.cls R.tuples fl_t ?_
            obtain ⟨e1, S1, ys, hx1, hy1, _⟩ := S.pop
            refine Rd.pop1 e1 ?_
            repeat walk_at "rv"
            refine Rd.tupL (.inl (.inl hx1)) fun l hl' => ?_
            repeat walk_at "rv"
            have S2 := S1.new hl' (o := .tup ys)
            refine Rd.sfldA S2.ha R.cls R.ready fl_len fl_put ?_
            have S3 := S2.ready true
            repeat walk_at "rv"
            refine Rd.methA S3.ha fl_item ?_
            repeat walk_at "rv"
            have ec : M53.closeP ⟨r :: rs, rd, td⟩ = M53.itemP (.tuple r) ⟨rs, true, td⟩ := by
              show (if (rd && !r.isEmpty) = true then none else _) = _
              rw [if_neg]
              intro h
              rw [Bool.and_eq_true, Bool.not_eq_true', ← Bool.not_eq_true, List.isEmpty_iff] at h
              exact hb h
            have kt : KeepT (upd H lt (.lst (ps.map V.ref).reverse)) (upd (upd (upd H lt (.lst (ps.map V.ref).reverse)) l (.tup ys)) a (.ins C dx (fldsOf lt lo true))) := (KeepT.upd_new hl').trans (.upd_mut S2.ha rfl)
            refine ⟨H0, a, dx, lt, lo, ps, ⟨rs, true, td⟩, .ref l, .tuple r, rfl, S3, ?_, hfl, ?_, ?_, ?_⟩
            · refine .tup (.inl (.inl ?_)) (dpAll_keep kt _ _ hfl hy1)
              rw [upd_ne (fun e => by have := S2.ha; rw [← e, upd_same] at this; cases this), upd_same]
            · simp only [big] at hz ⊢
              simp at hz ⊢
              omega
            · intro p' hp' H' ps' S'
              exact q p' (ec.trans hp') H' ps' S'
            · intro hn H' hs
              exact qe (ec.trans hn) H' hs
end
end K53

namespace K53
open PySem L2 Ux
open C8 (pe_gc)
local macro_rules | `(tactic| walk_at "rd") => `(tactic| with_reducible first
  | refine Rd.c ?_ | refine Rd.cb ?_ | refine Rd.cons ?_ | refine Rd.nil ?_ | refine Rd.op ?_ | refine Rd.un ?_ | refine Rd.test ?_ | refine Rd.tb_ ?_ | refine Rd.isb ?_ | refine Rd.and ?_ | refine Rd.or ?_ | refine Rd.not ?_
  | refine Rd.andV ?_ | refine Rd.orV ?_ | refine Rd.notV ?_ | refine Rd.ifx ?_ | refine Rd.chain ?_ | refine Rd.tup ?_ | refine Rd.lst ?_ | refine Rd.bm ?_ | refine Rd.bm0 ?_ | refine Rd.m1 ?_ | refine Rd.call ?_ | refine Rd.callS ?_ | refine Rd.slice ?_ | refine Rd.nopart ?_ | refine Rd.part ?_ | refine Rd.isi ?_
  | refine Rd.i0 ?_ | refine Rd.iu ?_ | refine Ux.add_i ?_ | refine Ux.eq_i ?_ | refine Ux.ne_i ?_ | refine Ux.eq_s ?_ | refine Ux.ne_s ?_ | refine Ux.le_i ?_ | refine Ux.ge_i ?_ | refine Ux.int_i ?_ | refine Ux.in_c ?_ | refine Ux.nin_c ?_ | refine Rd.abs_ ?_ | refine Rd.lc ?_ | refine Rd.iStr ?_ | refine Rd.iss ?_ | refine Rd.iList ?_ | refine Rd.for_ ?_ | refine Rd.fld ?_ | refine Rd.sfld ?_ | refine Rd.meth ?_ | refine Rd.gn ?_ | refine Rd.rng1 ?_ | refine Rd.rng2 ?_ | refine Rd.rng3 ?_ | refine Rd.enumS ?_ | refine Rd.enumSn ?_
  | refine Rd.seq ?_ | refine Rd.next ?_ | refine Rd.brk ?_ | refine Rd.cont ?_ | refine Rd.drop ?_ | refine Rd.ret ?_ | refine Rd.retN ?_ | refine Rd.ifs ?_ | refine Rd.asg ?_ | refine Rd.par ?_ | refine Rd.is2 ?_)
local macro_rules | `(tactic| walk_at "rv") => `(tactic| first
  | ((with_reducible refine' Rd.var ?zvar ?_); (case zvar => rfl)) | walk_at "rd")

section
variable {K : PySem.W.Frag} {C : Addr} {H0 H : Hp} {a dx lt lo : Addr} {ps : List Addr} {p : M53.PSt}
theorem keepT_same {H H' : Hp} (e : Same H H') : KeepT H H' := fun p u h _ => e p u h
theorem RS.same (S : RS K C H0 H a dx lt lo ps p) {H' : Hp} (e : Same H H') : RS K C H0 H' a dx lt lo ps p := by
  have k := keepT_same e
  obtain ⟨xs, hl, _⟩ := S.ho
  exact ⟨e _ _ S.ha, e _ _ S.ht, S.ho.keep k (by rw [hl]; exact e _ _ hl), S.hr.keep k fun q m => by obtain ⟨ys, h⟩ := S.hr.some m; rw [h]; exact e _ _ h, S.n1, S.n2, S.n3, S.n4, S.sm.trans e, S.fa, S.ft, S.fo, S.fp⟩
end
section
variable {P : Program} {w : World} {K : PySem.W.Frag} {mg : Str → Option Value} {base : Heap} {M C : Addr}
abbrev s_DataReader_take : Stmt := inClass (topS 16) 5
abbrev N_DataReader_take : List Str := ["self", "piece"]
theorem sc_DataReader_take : FnScope N_DataReader_take ["self", "piece"] (defScope s_DataReader_take) := ⟨rfl, rfl, rfl, by decide +kernel, rfl, by decide +kernel, by decide +kernel⟩
def sp_take (K : PySem.W.Frag) (C M : Addr) : Sp := fun vs H Q E => ∃ H0 a dx lt lo ps p l, vs = [.ref a, .str (SX.S l)] ∧ RS K C H0 H a dx lt lo ps p ∧ l.length ≤ sizeLine ∧ big p < sizeLine ∧
  (∀ p', M53.takeP p l = some p' → ∀ H' ps', RS K C H0 H' a dx lt lo ps' p' → Q .non H') ∧ (M53.takeP p l = none → ∀ H', Same H0 H' → E (.ref M) none H')
theorem ok_take {f : Addr} {fd : FuncData} (F : Fun K "take" "DataReader.take" s_DataReader_take f fd) (T : Txt K mg M)
    (F_is_word : Cl P w K mg base 1 "is_word" (sp_is_word K)) (F_read_whole : Cl P w K mg base 1 "read_whole" (sp_read_whole M))
    (M_DataReader_item : Md P w K mg base 1 C "item" (sp_item K C M)) (M_DataReader_open_one : Md P w K mg base 1 C "open_one" (stepSp K C M M53.openP))
    (M_DataReader_close_one : Md P w K mg base 2 C "close_one" (stepSp K C M M53.closeP)) (M_DataReader_comma : Md P w K mg base 1 C "comma" (stepSp K C M M53.commaP)) : FnOk P w K mg base (L2.CX P w) 3 f fd ["self", "piece"] (sp_take K C M) := by
  refine F.okX sc_DataReader_take (fun vs H Q E h => ?_) (fun cdv A outer s H vs Q E hr h => ?_)
  · obtain ⟨_, _, _, _, _, _, _, _, rfl, _⟩ := h
    rfl
  · obtain ⟨H0, a, dx, lt, lo, ps, p, l, rfl, S, hz, hb, q, qe⟩ := h
    have nd := sc_DataReader_take.nd
    refine ⟨_, (pss_one (ps_if (pt_cmpR (op_eqU hr.units) (pv 1) pe_str (nomark _))
  (pss_one (ps_expr (pmethN M_DataReader_open_one hr (by decide) outX (pv 0))))
  (pss_one (ps_if (pt_cmpR (op_eqU hr.units) (pv 1) pe_str (nomark _))
  (pss_one (ps_expr (pmethN M_DataReader_close_one hr (by decide) outX (pv 0))))
  (pss_one (ps_if (pt_cmpR (op_eqU hr.units) (pv 1) pe_str (nomark _))
  (pss_one (ps_expr (pmethN M_DataReader_comma hr (by decide) outX (pv 0))))
  (pss_one (ps_expr (pmeth M_DataReader_item hr (by decide) outX (pv 0) (pa_cons (pe_ifExp (pt_val (pcall F_is_word hr (by decide) rfl outX (pa_cons (pv 1) pa_nil))) (pv 1) (pcall F_read_whole hr (by decide) rfl outX (pa_cons (pv 1) pa_nil))) pa_nil)))))))))), ?_⟩
    have e1 : decide (SX.S l = Str.ofString "[") = decide (l = [91]) := S_dec
    have e2 : decide (SX.S l = Str.ofString "]") = decide (l = [93]) := S_dec
    have e3 : decide (SX.S l = Str.ofString ",") = decide (l = [44]) := S_dec
    repeat walk_at "rv"
    rw [e1]
    unfold M53.takeP at q qe
    by_cases h1 : l = [91]
    · rw [if_pos h1] at q qe
      refine Rd.dyes h1 ?_
      repeat walk_at "rv"
      refine Rd.methA S.ha fl_open ?_
      repeat walk_at "rv"
      exact ⟨H0, a, dx, lt, lo, ps, p, rfl, S, hb, q, qe⟩
    · rw [if_neg h1] at q qe
      refine Rd.dno h1 ?_
      repeat walk_at "rv"
      rw [e2]
      by_cases h2 : l = [93]
      · rw [if_pos h2] at q qe
        refine Rd.dyes h2 ?_
        repeat walk_at "rv"
        refine Rd.methA S.ha fl_close ?_
        repeat walk_at "rv"
        exact ⟨H0, a, dx, lt, lo, ps, p, rfl, S, hb, q, qe⟩
      · rw [if_neg h2] at q qe
        refine Rd.dno h2 ?_
        repeat walk_at "rv"
        rw [e3]
        by_cases h3 : l = [44]
        · rw [if_pos h3] at q qe
          refine Rd.dyes h3 ?_
          repeat walk_at "rv"
          refine Rd.methA S.ha fl_comma ?_
          repeat walk_at "rv"
          exact ⟨H0, a, dx, lt, lo, ps, p, rfl, S, hb, q, qe⟩
        · rw [if_neg h3] at q qe
          refine Rd.dno h3 ?_
          repeat walk_at "rv"
          refine Rd.methA S.ha fl_item ?_
          repeat walk_at "rv"
          refine ⟨.str (SX.S l), .str (SX.S l), rfl, .str _, fun s e => by cases e; rw [SX.S_len]; exact hz, fun H1 s1 => ?_⟩
          repeat walk_at "rv"
          have S1 := S.same s1
          have ew : wordD (.str (SX.S l)) = M53.wordL l := rfl
          rw [ew]
          unfold M53.atomP at q qe
          cases hw : M53.wordL l with
          | true =>
            refine Rd.yes rfl ?_
            repeat walk_at "rv"
            rw [if_pos hw] at q qe
            exact ⟨H0, a, dx, lt, lo, ps, p, _, .str (SX.S l), rfl, S1, .str _, rfl, hb, q, qe⟩
          | false =>
            refine Rd.no rfl ?_
            repeat walk_at "rv"
            rw [if_neg (by rw [hw]; exact Bool.false_ne_true)] at q qe
            refine ⟨l, rfl, hz, fun n hn H2 s2 => ?_, fun hn H2 s2 => ?_⟩
            · repeat walk_at "rv"
              rw [hn] at q qe
              exact ⟨H0, a, dx, lt, lo, ps, p, _, .int n, rfl, S1.same s2, .int _, rfl, hb, q, qe⟩
            · rw [hn] at qe
              exact qe rfl H2 (S1.sm.trans s2)
/-! ### __init__ -/
abbrev s_DataReader_init : Stmt := inClass (topS 16) 0
abbrev N_DataReader_init : List Str := ["self"]
theorem sc_DataReader_init : FnScope N_DataReader_init ["self"] (defScope s_DataReader_init) := ⟨rfl, rfl, rfl, by decide +kernel, rfl, by decide +kernel, by decide +kernel⟩
def sp_init (K : PySem.W.Frag) (C : Addr) : Sp := fun vs H Q _ => ∃ H0 x dx, vs = [.ref x] ∧ H x = some (.ins C dx []) ∧ H0 x = none ∧ Same H0 H ∧ ∀ H' lt lo, RS K C H0 H' x dx lt lo [] ⟨[], true, []⟩ → Q .non H'
theorem ok_init {f : Addr} {fd : FuncData} (F : Fun K "__init__" "DataReader.__init__" s_DataReader_init f fd) (T : Txt K mg M) (R : Rdr K C) : FnOk P w K mg base (L2.CX P w) 1 f fd ["self"] (sp_init K C) := by
  refine F.okX sc_DataReader_init (fun vs H Q E h => ?_) (fun cdv A outer s H vs Q E hr h => ?_)
  · obtain ⟨_, _, _, rfl, _⟩ := h
    rfl
  · obtain ⟨H0, x, dx, rfl, hx, h0, hs, q⟩ := h
    have nd := sc_DataReader_init.nd
    refine ⟨_, (pss_cons (ps_fld (pv 0) (pe_lst pa_nil) rfl)
  (pss_cons (ps_fld (pv 0) pe_bl rfl)
  (pss_one (ps_fld (pv 0) (pe_lst pa_nil) rfl)))), ?_⟩
    repeat walk_at "rv"
    refine ⟨(by decide : 0 ≤ sizeLine), fun lt hlt => ?_⟩
    repeat walk_at "rv"
    have n1 : x ≠ lt := fun e => by rw [← e, hx] at hlt; cases hlt
    refine Rd.sfldA (gs := [("tuples", .ref lt)]) (by rw [upd_ne n1]; exact hx) R.cls R.tuples (by show 0 < 1000; decide) rfl ?_
    repeat walk_at "rv"
    refine Rd.sfldA (gs := [("tuples", .ref lt), ("ready", .bl true)]) upd_same R.cls R.ready (by show 1 < 1000; decide) rfl ?_
    repeat walk_at "rv"
    refine ⟨(by decide : 0 ≤ sizeLine), fun lo hlo => ?_⟩
    repeat walk_at "rv"
    have n2 : x ≠ lo := fun e => by rw [← e, upd_same] at hlo; cases hlo
    have n3 : lt ≠ lo := fun e => by rw [← e, upd_ne (Ne.symm n1), upd_ne (Ne.symm n1), upd_same] at hlo; cases hlo
    have s1 : Same H0 (upd H lt (.lst [])) := same_upd hs (hs.free hlt)
    have s2 := same_upd (o := HO.ins C dx [("tuples", .ref lt), ("ready", .bl true)]) (same_upd (o := HO.ins C dx [("tuples", .ref lt)]) s1 h0) h0
    refine Rd.sfldA (gs := fldsOf lt lo true) (by rw [upd_ne n2, upd_same]) R.cls R.told (by show 2 < 1000; decide) rfl ?_
    refine q _ lt lo ⟨upd_same, ?_, ⟨[], ?_, .nil, rfl⟩, .nil, n3, List.not_mem_nil, List.not_mem_nil, List.nodup_nil, ?_, h0, hs.free hlt, s2.free hlo, fun _ m => by cases m⟩
    · rw [upd_ne (Ne.symm n1), upd_ne n3, upd_ne (Ne.symm n1), upd_ne (Ne.symm n1), upd_same]
      rfl
    · rw [upd_ne (Ne.symm n2), upd_same]
    · exact same_upd (same_upd s2 (s2.free hlo)) h0
end
end K53

namespace K53
open PySem L2 Ux
open C8 (pe_gc)
local macro_rules | `(tactic| walk_at "rd") => `(tactic| with_reducible first
  | refine Rd.c ?_ | refine Rd.cb ?_ | refine Rd.cons ?_ | refine Rd.nil ?_ | refine Rd.op ?_ | refine Rd.un ?_ | refine Rd.test ?_ | refine Rd.tb_ ?_ | refine Rd.isb ?_ | refine Rd.and ?_ | refine Rd.or ?_ | refine Rd.not ?_
  | refine Rd.andV ?_ | refine Rd.orV ?_ | refine Rd.notV ?_ | refine Rd.ifx ?_ | refine Rd.chain ?_ | refine Rd.tup ?_ | refine Rd.lst ?_ | refine Rd.bm ?_ | refine Rd.bm0 ?_ | refine Rd.m1 ?_ | refine Rd.call ?_ | refine Rd.callS ?_ | refine Rd.slice ?_ | refine Rd.nopart ?_ | refine Rd.part ?_ | refine Rd.isi ?_
  | refine Rd.i0 ?_ | refine Rd.iu ?_ | refine Ux.add_i ?_ | refine Ux.eq_i ?_ | refine Ux.ne_i ?_ | refine Ux.eq_s ?_ | refine Ux.ne_s ?_ | refine Ux.le_i ?_ | refine Ux.ge_i ?_ | refine Ux.int_i ?_ | refine Ux.in_c ?_ | refine Ux.nin_c ?_ | refine Rd.abs_ ?_ | refine Rd.lc ?_ | refine Rd.iStr ?_ | refine Rd.iss ?_ | refine Rd.iList ?_ | refine Rd.for_ ?_ | refine Rd.fld ?_ | refine Rd.sfld ?_ | refine Rd.meth ?_ | refine Rd.gn ?_ | refine Rd.rng1 ?_ | refine Rd.rng2 ?_ | refine Rd.rng3 ?_ | refine Rd.enumS ?_ | refine Rd.enumSn ?_
  | refine Rd.seq ?_ | refine Rd.next ?_ | refine Rd.brk ?_ | refine Rd.cont ?_ | refine Rd.drop ?_ | refine Rd.ret ?_ | refine Rd.retN ?_ | refine Rd.ifs ?_ | refine Rd.asg ?_ | refine Rd.par ?_ | refine Rd.is2 ?_)
local macro_rules | `(tactic| walk_at "rv") => `(tactic| first
  | ((with_reducible refine' Rd.var ?zvar ?_); (case zvar => rfl)) | walk_at "rd")

/-! ### read_data -/
theorem pcs_count : ∀ (l cur : List Nat), (M53.pcs cur l).length ≤ 2 * l.length + 1
  | [], cur => by
    unfold M53.pcs
    split <;> simp
  | c :: r, cur => by
    have h1 := pcs_count r []
    have h2 := pcs_count r (cur ++ [c])
    unfold M53.pcs
    split
    · rw [List.length_append, List.length_cons, List.length_cons]
      split
      · simp only [List.length_nil]; omega
      · simp only [List.length_singleton]; omega
    · rw [List.length_cons]
      omega
theorem pcs_short : ∀ (l cur : List Nat), ∀ x ∈ M53.pcs cur l, x.length ≤ cur.length + l.length
  | [], cur => by
    unfold M53.pcs
    split
    · simp
    · simp
  | c :: r, cur => by
    have h1 := pcs_short r []
    have h2 := pcs_short r (cur ++ [c])
    unfold M53.pcs
    split
    · intro x hx
      rw [List.length_cons]
      rcases List.mem_append.mp hx with m | m
      · split at m
        · cases m
        · rw [List.mem_singleton.mp m]; omega
      · rcases List.mem_cons.mp m with m | m
        · rw [m, List.length_singleton]; omega
        · have := h1 x m
          rw [List.length_nil] at this
          omega
    · intro x hx
      have := h2 x hx
      rw [List.length_append, List.length_singleton] at this
      rw [List.length_cons]
      omega
theorem big_item {d : PyData} {p p' : M53.PSt} (h : M53.itemP d p = some p') : big p' ≤ big p + 1 := by
  obtain ⟨rows, rd, td⟩ := p
  cases rd with
  | false => cases h
  | true =>
    cases rows with
    | nil => cases h; simp [big]
    | cons r rs => cases h; simp [big]; omega
theorem big_take {x : List Nat} {p p' : M53.PSt} (h : M53.takeP p x = some p') : big p' ≤ big p + 1 := by
  unfold M53.takeP at h
  split at h
  · unfold M53.openP at h
    split at h
    · cases h; simp [big]; omega
    · cases h
  · split at h
    · obtain ⟨rows, rd, td⟩ := p
      unfold M53.closeP at h
      cases rows with
      | nil => cases h
      | cons r rs =>
        simp only at h
        split at h
        · cases h
        · have := big_item h
          simp [big] at this ⊢
          omega
    · split at h
      · unfold M53.commaP at h
        split at h
        · cases h
        · cases h; simp [big]
      · cases q : M53.atomP x with
        | none => rw [q] at h; cases h
        | some d => rw [q] at h; exact big_item h
theorem runP_step {s p : M53.PSt} {xs : List (List Nat)} {i : Nat} {x : List Nat} (hx : xs[i]? = some x) (h : M53.runP s (xs.take i) = some p) : M53.runP s (xs.take (i + 1)) = M53.takeP p x := by
  rw [List.take_add_one, hx]
  show M53.runP s (xs.take i ++ [x]) = _
  rw [M53.runP_append, h]
  show (M53.takeP p x).bind (fun s' => some s') = _
  cases M53.takeP p x <;> rfl
theorem runP_fail {s : M53.PSt} {xs : List (List Nat)} {i : Nat} (h : M53.runP s (xs.take i) = none) : M53.runP s xs = none := by
  rw [← List.take_append_drop i xs, M53.runP_append, h]
  rfl
def rdD : PyData → Option PyData
  | .str s => M53.progRead (TL.tl s)
  | _ => none
theorem RS.frame {K : PySem.W.Frag} {C : Addr} {H0 H : Hp} {a dx lt lo : Addr} {ps : List Addr} {p : M53.PSt} (S : RS K C H0 H a dx lt lo ps p) {q : Addr} {o : HO} (hq : H q = some o) (ha : a ≠ q) (ht : lt ≠ q) (ho : lo ≠ q) (hp : q ∉ ps) : RS K C (upd H0 q o) H a dx lt lo ps p := by
  refine ⟨S.ha, S.ht, S.ho, S.hr, S.n1, S.n2, S.n3, S.n4, fun b u e => ?_, by rw [upd_ne ha]; exact S.fa, by rw [upd_ne ht]; exact S.ft, by rw [upd_ne ho]; exact S.fo, fun x m => by rw [upd_ne (ne_mem m hp)]; exact S.fp x m⟩
  by_cases h : b = q
  · subst h
    rw [upd_same] at e
    rw [hq, ← e]
  · rw [upd_ne h] at e
    exact S.sm b u e
section
variable {P : Program} {w : World} {K : PySem.W.Frag} {mg : Str → Option Value} {base : Heap} {M C : Addr}
abbrev s_read_data : Stmt := topS 17
abbrev N_read_data : List Str := ["text", "reader", "piece"]
theorem sc_read_data : FnScope N_read_data ["text"] (defScope s_read_data) := ⟨rfl, rfl, rfl, by decide +kernel, rfl, by decide +kernel, by decide +kernel⟩
def sp_read_data (K : PySem.W.Frag) (M : Addr) : Sp := fun vs H Q E => ∃ v d, vs = [v] ∧ Dp K H v d ∧ (∀ s, d = .str s → 2 * s.length + 2 < sizeLine) ∧ (∀ d', rdD d = some d' → ∀ v' H', Same H H' → Dp K H' v' d' → flat d' = true → Q v' H') ∧ (rdD d = none → ∀ H', Same H H' → E (.ref M) none H')
theorem ok_read_data {f : Addr} {fd : FuncData} (F : Fun K "read_data" "read_data" s_read_data f fd) (T : Txt K mg M) (R : Rdr K C)
    (F_pieces_of : Cl P w K mg base 1 "pieces_of" sp_pieces_of) (M_DataReader : Mr P w K mg base 1 "DataReader" C (sp_init K C) []) (M_DataReader_take : Md P w K mg base 3 C "take" (sp_take K C M)) : FnOk P w K mg base (L2.CX P w) 4 f fd ["text"] (sp_read_data K M) := by
  refine F.okX sc_read_data (fun vs H Q E h => ?_) (fun cdv A outer s H vs Q E hr h => ?_)
  · obtain ⟨_, _, rfl, _⟩ := h
    rfl
  · obtain ⟨v, d, rfl, hd, hz, q, qe⟩ := h
    have nd := sc_read_data.nd
    refine ⟨_, (pss_cons (ps_if (pt_not (pt_val (pe_callB call_isi rfl T.b_isinstance bb_isinstance (pa_cons (pv 0) (pa_cons (pe_ty rfl T.b_str bb_str) pa_nil)))))
  (pss_one (ps_raise rfl (takes_of rfl rfl rfl rfl) (pmk_own PySem.F.excBase_ValueError T.x_Malformed T.g_Malformed T.k_Malformed (raises_own T.s_Malformed T.t_Malformed) rfl)))
  pss_nil)
  (pss_cons (ps_set (i := 1) nd rfl (.inl rfl) (pmakeN M_DataReader hr (by decide) rfl outX))
  (pss_cons (ps_for (passes_of rfl) rfl (pi_list (pcall F_pieces_of hr (by decide) rfl outX (pa_cons (pv 0) pa_nil))) (pg_name (i := 2) nd rfl (.inl rfl))
  (pss_one (ps_expr (pmeth M_DataReader_take hr (by decide) outX (pv 1) (pa_cons (pv 2) pa_nil)))))
  (pss_cons (ps_if (PW.pt (pw_or (pt_cmpR op_gt (pe_callB call_lenU rfl T.b_len bb_len (pa_cons (pe_fld (pv 1) rfl) pa_nil)) pe_int (nomark _)) (pw_or1 (pt_cmpR (op_neU hr.units) (pe_callB call_lenU rfl T.b_len bb_len (pa_cons (pe_fld (pv 1) rfl) pa_nil)) pe_int (nomark _)))))
  (pss_one (ps_raise rfl (takes_of rfl rfl rfl rfl) (pmk_own PySem.F.excBase_ValueError T.x_Malformed T.g_Malformed T.k_Malformed (raises_own T.s_Malformed T.t_Malformed) rfl)))
  pss_nil)
  (pss_one (ps_ret (pe_ix ix_seq (pe_fld (pv 1) rfl) pe_int (fun _ _ => rfl)))))))), ?_⟩
    repeat walk_at "rv"
    refine isiD hd (by decide) ?_
    repeat walk_at "rv"
    cases d with
    | str z =>
      cases hd
      refine Rd.nno rfl ?_
      repeat walk_at "rv"
      have hz := hz z rfl
      intro a dx ha hdx hne
      refine ⟨H, a, dx, rfl, upd_same, ha, same_upd (same_upd (Same.refl H) hdx) ha, fun H1 lt lo S => ⟨rfl, ?_⟩⟩
      repeat walk_at "rv"
      have ez : z = SX.S (TL.tl z) := (TL.mk_tl z).symm
      have lz : z.length = (TL.tl z).length := TL.len_tl z
      generalize hl : TL.tl z = l at *
      subst ez
      rw [lz] at hz
      refine ⟨l, rfl, by omega, fun pq H2 s2 hpq hpv => ?_⟩
      have S2 := (S.same s2).frame hpv (ne_of_none S.ha hpq) (ne_of_none S.ht hpq) (by obtain ⟨xs, h, _⟩ := S.ho; exact ne_of_none h hpq) List.not_mem_nil
      have hpq0 : H pq = none := S.sm.free hpq
      have sF : ∀ {H'}, Same (upd H pq (.lst (pcV l))) H' → Same H H' := fun h => (same_upd (Same.refl H) hpq0).trans h
      have hFq : ∀ {H'}, Same (upd H pq (.lst (pcV l))) H' → H' pq = some (.lst (pcV l)) := fun h => h _ _ upd_same
      clear S s2 hpq hpv ha hdx
      have hcl := pcs_count l []
      have hcs := pcs_short l []
      have lenV : (pcV l).length = (M53.pcs [] l).length := List.length_map ..
      have ed : rdD (.str (SX.S l)) = (M53.runP ⟨[], true, []⟩ (M53.pcs [] l)).bind M53.endP := rfl
      refine Rd.isr (.inl (.inl (hFq S2.sm))) ?_
      refine for_it (walk_list (xs := pcV l)) (fun i σ H' => ∃ ps p x2, σ = [some (.str (SX.S l)), some (.ref a), x2] ∧ RS K C (upd H pq (.lst (pcV l))) H' a dx lt lo ps p ∧ M53.runP ⟨[], true, []⟩ ((M53.pcs [] l).take i) = some p ∧ big p ≤ i)
        ⟨_, _, none, rfl, S2, rfl, Nat.le_refl _⟩ (fun i σ H' _ p => ?_) (fun i x σ H1 H2 hi p y => ?_) (fun σ H1 p => ?_)
      · obtain ⟨ps, p, x2, _, S, _⟩ := p
        exact .inl (.inl (hFq S.sm))
      · obtain ⟨ps, p, x2, rfl, S, hrun, hbig⟩ := p
        obtain ⟨rfl, hx⟩ := y
        rw [lenV] at hi
        have hpc : (M53.pcs [] l)[i]? = some (M53.pcs [] l)[i] := List.getElem?_eq_getElem hi
        have ex : x = .str (SX.S (M53.pcs [] l)[i]) := by
          unfold pcV at hx
          rw [List.getElem?_map, hpc] at hx
          exact (Option.some.inj hx).symm
        subst ex
        have hpl := hcs _ (List.getElem_mem hi)
        rw [List.length_nil] at hpl
        have hst := runP_step hpc hrun
        repeat walk_at "rv"
        refine Rd.methA S.ha fl_take ?_
        repeat walk_at "rv"
        refine ⟨_, a, dx, lt, lo, ps, p, _, rfl, S, by omega, by omega, fun p' hp' H' ps' S' => ?_, fun hn H' hs => ?_⟩
        · repeat walk_at "rv"
          have := big_take hp'
          exact ⟨ps', p', _, rfl, S', hst.trans hp', by omega⟩
        · refine qe ?_ H' (sF hs)
          rw [ed, runP_fail (hst.trans hn)]
          rfl
      · obtain ⟨ps, p, x2, rfl, S, hrun, hbig⟩ := p
        rw [lenV, List.take_length] at hrun
        rw [ed, hrun] at qe q
        have qe : M53.endP p = none → ∀ H', Same H H' → E (.ref M) none H' := qe
        have q : ∀ d', M53.endP p = some d' → ∀ v' H', Same H H' → Dp K H' v' d' → flat d' = true → Q v' H' := q
        repeat walk_at "rv"
        refine Rd.fldA S.ha R.cls R.tuples fl_t ?_
        repeat walk_at "rv"
        refine Rd.lenL (.inl (.inl S.ht)) ?_
        repeat walk_at "rv"
        rw [List.length_reverse, List.length_map, S.hr.len]
        unfold M53.endP at q qe
        by_cases h1 : p.rows = []
        · rw [if_pos h1] at q qe
          refine Rd.dno (by rw [h1]; simp) ?_
          repeat walk_at "rv"
          refine Rd.fldA S.ha R.cls R.told fl_o ?_
          repeat walk_at "rv"
          obtain ⟨ys, hy, hdp, hfl⟩ := S.ho
          refine Rd.lenL (.inl (.inl hy)) ?_
          repeat walk_at "rv"
          have hl2 := (dpAll_at hdp).1
          by_cases h2 : ys.length = 1
          · refine Rd.nno (decide_eq_true (by omega)) ?_
            repeat walk_at "rv"
            refine Rd.fldA S.ha R.cls R.told fl_o ?_
            repeat walk_at "rv"
            obtain ⟨rows, rd, td⟩ := p
            cases hdp with
            | nil => cases h2
            | cons a1 a2 =>
              cases a2 with
              | cons _ _ => simp at h2
              | nil =>
                refine Rd.ixL (.inl (.inl hy)) (atI_nat (j := 0) rfl) ?_
                refine q _ rfl _ _ (sF S.sm) a1 ?_
                have hfl' : (flat _ && true) = true := hfl
                rw [Bool.and_true] at hfl'
                exact hfl'
          · refine Rd.nyes (decide_eq_false (by omega)) ?_
            refine qe ?_ _ (sF S.sm)
            split
            · rename_i h
              rw [h] at hl2
              exact absurd hl2 h2
            · rfl
        · rw [if_neg h1] at qe
          have : p.rows.length ≠ 0 := fun e => h1 (List.eq_nil_of_length_eq_zero e)
          refine Rd.dyes (by omega) (Rd.yes rfl ?_)
          exact qe rfl _ (sF S.sm)
    | _ =>
      refine Rd.nyes rfl ?_
      exact qe rfl H (Same.refl H)
end
end K53

namespace Rd
open PySem L2 Ux
variable {K : PySem.W.Frag} {σ : L2.St} {H : Hp} {Q : VK} {ta tb : TE} {v : V} {D : Ends} {t : TSet}
theorem gs {R : L2.St → Hp → Prop} (q : ta σ H fun o H1 => tb σ H1 fun i H2 => t o i v H2 fun H3 => R σ H3) : gSub ta tb t v σ H R := q
theorem iTup {te : TE} {R : It → Hp → Prop} (q : te σ H fun x H1 => ∃ a, x = .ref a ∧ (∃ xs, SqT K H1 a xs) ∧ R (Itt K a) H1) : L2.iTup K te σ H R := q
theorem joinP {z : Str} {p : Addr} {ys : List Str} {Z : Str → List Str → Prop} (h : SqL K H p (ys.map V.str)) (hz : (ys.map (·.length)).sum + ys.length * z.length ≤ 16777216) (q : Z z ys) :
    ∃ (a : Str) (p' : Addr) (ys : List Str), V.str z = .str a ∧ [V.ref p] = [.ref p'] ∧ (SqL K H p' (ys.map V.str) ∨ SqT K H p' (ys.map V.str)) ∧ (ys.map (·.length)).sum + ys.length * a.length ≤ 16777216 ∧ Z a ys :=
  ⟨z, p, ys, rfl, rfl, .inl h, hz, q⟩
theorem g4 {p : Addr} {i j k m : Nat} {x y z v : V} (h : SqT K H p [x, y, z, v]) {R : L2.St → Hp → Prop} (q : R ((((σ.set i (some x)).set j (some y)).set k (some z)).set m (some v)) H) : gTup K 4 (gCons (gName i) (gCons (gName j) (gCons (gName k) (gCons (gName m) gNil)))) (.ref p) σ H R :=
  ⟨p, [x, y, z, v], rfl, h, rfl, x, _, rfl, y, _, rfl, z, _, rfl, v, [], rfl, rfl, q⟩
theorem par3 {i j l : Nat} {tr : TA} {D : Ends} (q : tr σ H fun vs H1 => ∃ v w z, vs = [v, w, z] ∧ D.nx (((σ.set i (some v)).set j (some w)).set l (some z)) H1) : tPar3 i j l tr D σ H := q
theorem is3 {x y z : V} {p : V → V → V → Prop} (q : p x y z) : ∃ v w u, [x, y, z] = [v, w, u] ∧ p v w u := ⟨x, y, z, rfl, q⟩
end Rd
namespace Ux
open PySem PySem.Spec PyProof.Rows L2
section
variable {X : Cx}
/-- equality of data, one of which is shallow -/
def rEqE (neg : Bool) (K : PySem.W.Frag) : R2 := fun x y H Q => ∃ d e, Dp K H x d ∧ Dp K H y e ∧ d.canLay0 = true ∧ e.canLay0 = true ∧ min d.depth e.depth ≤ 64 ∧ Q (.bl (if neg then !PyData.eqv d e else PyData.eqv d e)) H
theorem op_eqE (hu : X.A.units + 64 < cLine) : OpR X (compareOp .Eq) (rEqE false X.K) := by
  intro pins s σ H x y v u Q I rx ry h
  obtain ⟨d, e, hd, he, sd, se, hm, q⟩ := h
  obtain ⟨as, r1⟩ := Dp.reads I d x v hd rx
  obtain ⟨bs, r2⟩ := Dp.reads I e y u he ry
  exact SeqAt.compareEq_reads r1 r2 sd se (by omega) ⟨.bl _, H, I, rfl, q⟩
theorem op_neE (hu : X.A.units + 64 < cLine) : OpR X (compareOp .NotEq) (rEqE true X.K) := by
  intro pins s σ H x y v u Q I rx ry h
  obtain ⟨d, e, hd, he, sd, se, hm, q⟩ := h
  obtain ⟨as, r1⟩ := Dp.reads I d x v hd rx
  obtain ⟨bs, r2⟩ := Dp.reads I e y u he ry
  exact SeqAt.compareNe_reads r1 r2 sd se (by omega) ⟨.bl _, H, I, rfl, q⟩
end
end Ux

namespace K53
open PySem L2 Ux
open C8 (pe_gc)
local macro_rules | `(tactic| walk_at "rd") => `(tactic| with_reducible first
  | refine Rd.c ?_ | refine Rd.cb ?_ | refine Rd.cons ?_ | refine Rd.nil ?_ | refine Rd.op ?_ | refine Rd.un ?_ | refine Rd.test ?_ | refine Rd.tb_ ?_ | refine Rd.isb ?_ | refine Rd.and ?_ | refine Rd.or ?_ | refine Rd.not ?_
  | refine Rd.andV ?_ | refine Rd.orV ?_ | refine Rd.notV ?_ | refine Rd.ifx ?_ | refine Rd.tup ?_ | refine Rd.lst ?_ | refine Rd.bm ?_ | refine Rd.bm0 ?_ | refine Rd.m1 ?_ | refine Rd.call ?_ | refine Rd.callS ?_ | refine Rd.slice ?_ | refine Rd.nopart ?_ | refine Rd.part ?_ | refine Rd.isi ?_
  | refine Rd.i0 ?_ | refine Rd.iu ?_ | refine Ux.add_i ?_ | refine Ux.eq_i ?_ | refine Ux.ne_i ?_ | refine Ux.eq_s ?_ | refine Ux.ne_s ?_ | refine Ux.le_i ?_ | refine Ux.le_s ?_ | refine Ux.ge_i ?_ | refine Ux.int_i ?_ | refine Ux.in_c ?_ | refine Ux.nin_c ?_ | refine Rd.abs_ ?_ | refine Rd.lc ?_ | refine Rd.iStr ?_ | refine Rd.iss ?_ | refine Rd.iList ?_ | refine Rd.for_ ?_ | refine Rd.gs ?_ | refine Rd.iTup ?_ | refine Rd.asgG ?_ | refine Rd.fld ?_ | refine Rd.sfld ?_ | refine Rd.meth ?_ | refine Rd.gn ?_ | refine Rd.rng1 ?_ | refine Rd.rng2 ?_ | refine Rd.rng3 ?_ | refine Rd.enumS ?_ | refine Rd.enumSn ?_
  | refine Rd.seq ?_ | refine Rd.next ?_ | refine Rd.brk ?_ | refine Rd.cont ?_ | refine Rd.drop ?_ | refine Rd.ret ?_ | refine Rd.retN ?_ | refine Rd.ifs ?_ | refine Rd.asg ?_ | refine Rd.par ?_ | refine Rd.is2 ?_)
local macro_rules | `(tactic| walk_at "rv") => `(tactic| first
  | ((with_reducible refine' Rd.var ?zvar ?_); (case zvar => rfl)) | walk_at "rd" | (with_reducible refine Rd.chain ?_))
local macro_rules | `(tactic| walk_at "rw") => `(tactic| first
  | ((with_reducible refine' Rd.var ?zvar ?_); (case zvar => rfl)) | walk_at "rd")

/-! ### the draw -/
/-- the draw at r -/
def DrS (lc : Addr) (cs : List Int) (H : Hp) (r : Addr) : Prop := ∃ (i x sd : Int), H r = some (.lst [.ref lc, .int i, .int x, .int sd]) ∧ H lc = some (.lst (cs.map V.int)) ∧ (∀ c ∈ cs, 0 ≤ c) ∧ -1 ≤ i ∧ 0 ≤ x ∧ 0 ≤ sd ∧ sd < 2147483647
theorem DrS.same {lc : Addr} {cs : List Int} {H H' : Hp} {r : Addr} (h : DrS lc cs H r) (e : Same H H') : DrS lc cs H' r := by
  obtain ⟨i, x, sd, h1, h2, h3⟩ := h
  exact ⟨i, x, sd, e _ _ h1, e _ _ h2, h3⟩
theorem DrS.at_r {lc : Addr} {cs : List Int} {H : Hp} {r : Addr} (h : DrS lc cs H r) : ∃ xs, H r = some (.lst xs) := by
  obtain ⟨i, x, sd, h1, _⟩ := h
  exact ⟨_, h1⟩
theorem DrS.upd {lc : Addr} {cs : List Int} {H : Hp} {r : Addr} (h : DrS lc cs H r) {D : Addr} {o : HO} (n1 : r ≠ D) (n2 : lc ≠ D) : DrS lc cs (upd H D o) r := by
  obtain ⟨i, x, sd, h1, h2, h3⟩ := h
  exact ⟨i, x, sd, by rw [upd_ne n1]; exact h1, by rw [upd_ne n2]; exact h2, h3⟩
theorem DrS.ne {lc : Addr} {cs : List Int} {H : Hp} {r : Addr} (h : DrS lc cs H r) {D : Addr} (hD : H D = none) : r ≠ D ∧ lc ≠ D := by
  obtain ⟨i, x, sd, h1, h2, h3⟩ := h
  exact ⟨ne_of_none h1 hD, ne_of_none h2 hD⟩
/-- all but r stands -/
def SameBut (r : Addr) (H H' : Hp) : Prop := ∀ b o, b ≠ r → H b = some o → H' b = some o
theorem SameBut.refl (r : Addr) (H : Hp) : SameBut r H H := fun _ _ _ h => h
theorem SameBut.trans {r : Addr} {H H1 H2 : Hp} (a : SameBut r H H1) (b : SameBut r H1 H2) : SameBut r H H2 := fun c o n h => b c o n (a c o n h)
theorem SameBut.of {r : Addr} {H H' : Hp} (a : Same H H') : SameBut r H H' := fun c o _ h => a c o h
theorem SameBut.upd {r : Addr} {H : Hp} {o : HO} : SameBut r H (upd H r o) := fun c u n h => by rw [upd_ne n]; exact h
theorem set_l {l : Addr} {xs : List V} {j : Nat} {v : V} {H : Hp} {Q : Hp → Prop} (h : H l = some (.lst xs)) (hj : j < xs.length) (q : Q (upd H l (.lst (xs.set j v)))) : rSetL (.ref l) (.int (j : Int)) v H Q := by
  refine ⟨l, xs, j, j, rfl, rfl, h, ?_, q⟩
  unfold ixN
  rw [if_pos (by omega), if_pos (by omega), Int.toNat_natCast]
def DrA (H : Hp) (lc : Addr) (cs : List Int) (r : Addr) (H' : Hp) : Prop := ∃ i x sd : Int, H' r = some (.lst [.ref lc, .int i, .int x, .int sd]) ∧ -1 ≤ i ∧ 0 ≤ x ∧ 0 ≤ sd ∧ sd < 2147483647 ∧ SameBut r H H'
section
variable {P : Program} {w : World} {K : PySem.W.Frag} {mg : Str → Option Value} {base : Heap} {M C : Addr}
abbrev s_law_draw : Stmt := topS 19
abbrev N_law_draw : List Str := ["script", "seed", "cell"]
theorem sc_law_draw : FnScope N_law_draw ["script"] (defScope s_law_draw) := ⟨rfl, rfl, rfl, by decide +kernel, rfl, by decide +kernel, by decide +kernel⟩
def sp_draw (K : PySem.W.Frag) : Sp := fun vs H Q _ => ∃ (a : Addr) (ns : List Int), vs = [.ref a] ∧ SqL K H a (ns.map V.int) ∧ ns.length ≤ sizeLine ∧ ∀ r lc cs H', Same H H' → H r = none → DrS lc cs H' r → Q (.ref r) H'
theorem ok_law_draw {f : Addr} {fd : FuncData} (F : Fun K "_law_draw" "_law_draw" s_law_draw f fd) (T : Txt K mg M) : FnOk P w K mg base (L2.CX P w) 1 f fd ["script"] (sp_draw K) := by
  refine F.okX sc_law_draw (fun vs H Q E h => ?_) (fun cdv A outer s H vs Q E hr h => ?_)
  · obtain ⟨_, _, rfl, _⟩ := h
    rfl
  · obtain ⟨a, ns, rfl, ha, hz, q⟩ := h
    have nd := sc_law_draw.nd
    refine ⟨_, (pss_cons (ps_set (i := 1) nd rfl (.inl rfl) pe_int)
  (pss_cons (ps_for (passes_of rfl) rfl (pi_list (pv 0)) (pg_name (i := 2) nd rfl (.inl rfl))
  (pss_one (ps_set (i := 1) nd rfl (.inl rfl) (pe_op op_mod (pe_callTy (call_intU T.dg) rfl T.b_int bb_int (pa_cons (pe_op op_addU (pe_op op_addU (pe_op op_mulU (pv 1) pe_int) (pe_op op_mod (pe_callB call_absU rfl T.b_abs bb_abs (pa_cons (pe_callTy (call_intU T.dg) rfl T.b_int bb_int (pa_cons (pv 2) pa_nil)) pa_nil)) pe_int)) pe_int) pa_nil)) pe_int))))
  (pss_one (ps_ret (pe_lst (pa_cons (pe_lc (own := [("cell", 2)]) rfl nd (pi_list (pv 0)) (blkOk_by (own := [("cell", 2)]) (N := N_law_draw) (sc := defScope s_law_draw) (by decide +kernel)) (fun _ _ _ _ _ => (pg_name (i := 2) nd rfl (.inl rfl))) (fun _ _ _ _ _ => pts_nil) (fun _ _ _ _ _ => (pe_callB call_absU rfl T.b_abs bb_abs (pa_cons (pe_callTy (call_intU T.dg) rfl T.b_int bb_int (pa_cons (pv 2) pa_nil)) pa_nil)))) (pa_cons (pe_un un_neg pe_int) (pa_cons pe_int (pa_cons (pv 1) pa_nil))))))))), ?_⟩
    repeat walk_at "rv"
    refine Rd.isr ha ?_
    have hN : (ns.map V.int).length = ns.length := List.length_map ..
    refine for_it (walk_list (xs := ns.map V.int)) (fun i σ H' => H' = H ∧ ∃ (sd : Int) (x : Option V), σ = [some (.ref a), some (.int sd), x] ∧ 0 ≤ sd ∧ sd < 2147483647) ⟨rfl, 7, none, rfl, by decide, by decide⟩ (fun i σ H' _ p => by rw [p.1]; exact ha) (fun i x σ H1 H2 hi p y => ?_) (fun σ H1 p => ?_)
    · obtain ⟨rfl, sd, x1, rfl, h1, h2⟩ := p
      obtain ⟨rfl, hx⟩ := y
      rw [hN] at hi
      have hx' : x = .int ns[i] := by
        rw [List.getElem?_map, List.getElem?_eq_getElem hi] at hx
        exact (Option.some.inj hx).symm
      subst hx'
      repeat walk_at "rv"
      refine mul_i (.inl ⟨by omega, by omega⟩) ?_
      repeat walk_at "rv"
      refine Rd.i1 (by decide) ?_
      repeat walk_at "rv"
      refine Rd.i1 (by decide) ?_
      refine ⟨rfl, _, _, rfl, Int.emod_nonneg _ (by decide), Int.emod_lt_of_pos _ (by decide)⟩
    · obtain ⟨rfl, sd, x1, rfl, h1, h2⟩ := p
      repeat walk_at "rv"
      refine Rd.isr ha ?_
      intro D hD
      refine Rd.lcP (f := fun v => match v with | .int c => .int (if c < 0 then -c else c) | _ => .non) (walk_list (xs := ns.map V.int)) hD (fun H' e => e.seq ha) (by rw [hN]; exact hz) (fun x hx H' hs Q' q' => ?_) ?_
      · obtain ⟨c, _, rfl⟩ := List.mem_map.mp hx
        repeat walk_at "rv"
        exact q'
      · repeat walk_at "rv"
        refine ⟨(by decide : 4 ≤ sizeLine), fun r hr => ?_⟩
        have s1 := same_upd (o := HO.lst ((ns.map V.int).map fun v => match v with | .int c => .int (if c < 0 then -c else c) | _ => .non)) (Same.refl H1) hD
        have hr0 := s1.free hr
        have hDr : D ≠ r := fun e => by rw [← e, upd_same] at hr; cases hr
        refine q r D (ns.map fun c => if c < 0 then -c else c) _ (same_upd s1 hr0) hr0 ⟨-1, 0, sd, upd_same, ?_, ?_, by decide, by decide, h1, h2⟩
        · rw [upd_ne hDr, upd_same, List.map_map, List.map_map]
          rfl
        · intro c hc
          obtain ⟨n, _, rfl⟩ := List.mem_map.mp hc
          split <;> omega
abbrev s_law_take : Stmt := topS 20
abbrev N_law_take : List Str := ["draw", "many", "found"]
theorem sc_law_take : FnScope N_law_take ["draw", "many"] (defScope s_law_take) := ⟨rfl, rfl, rfl, by decide +kernel, rfl, by decide +kernel, by decide +kernel⟩
def sp_lawtake : Sp := fun vs H Q _ => ∃ (r lc : Addr) (cs : List Int) (m : Int), vs = [.ref r, .int m] ∧ DrS lc cs H r ∧ 0 < m ∧ m < 1073741824 ∧ ∀ (n : Int) H', 0 ≤ n → n < m → DrS lc cs H' r → SameBut r H H' → Q (.int n) H'
theorem ok_law_take {f : Addr} {fd : FuncData} (F : Fun K "_law_take" "_law_take" s_law_take f fd) (T : Txt K mg M) : FnOk P w K mg base (L2.CX P w) 1 f fd ["draw", "many"] sp_lawtake := by
  refine F.okX sc_law_take (fun vs H Q E h => ?_) (fun cdv A outer s H vs Q E hr h => ?_)
  · obtain ⟨_, _, _, _, rfl, _⟩ := h
    rfl
  · obtain ⟨r, lc, cs, m, rfl, hd, hm, hm2, q⟩ := h
    have nd := sc_law_take.nd
    refine ⟨_, (pss_cons (ps_if (pt_cmpR (op_eqU hr.units) (pe_ix ix_seq (pv 0) pe_int (fun _ _ => rfl)) pe_int (nomark _))
  (pss_cons (ps_asg (pe_op op_addU (pe_ix ix_seq (pv 0) pe_int (fun _ _ => rfl)) pe_int) (pg_sub (pv 0) pe_int set_list))
  (pss_cons (ps_if (pt_cmpR op_lt (pe_ix ix_seq (pv 0) pe_int (fun _ _ => rfl)) (pe_callB call_lenU rfl T.b_len bb_len (pa_cons (pe_ix ix_seq (pv 0) pe_int (fun _ _ => rfl)) pa_nil)) (nomark _))
  (pss_one (ps_asg (pe_ix ix_seq (pe_ix ix_seq (pv 0) pe_int (fun _ _ => rfl)) (pe_ix ix_seq (pv 0) pe_int (fun _ _ => rfl)) (fun _ _ => rfl)) (pg_sub (pv 0) pe_int set_list)))
  pss_nil)
  (pss_one (ps_if (pt_cmpR (op_eqU hr.units) (pe_ix ix_seq (pv 0) pe_int (fun _ _ => rfl)) pe_int (nomark _))
  (pss_cons (ps_asg (pe_op op_mod (pe_callTy (call_intU T.dg) rfl T.b_int bb_int (pa_cons (pe_op op_addU (pe_op op_mulU (pe_ix ix_seq (pv 0) pe_int (fun _ _ => rfl)) pe_int) pe_int) pa_nil)) pe_int) (pg_sub (pv 0) pe_int set_list))
  (pss_one (ps_asg (pe_ix ix_seq (pv 0) pe_int (fun _ _ => rfl)) (pg_sub (pv 0) pe_int set_list))))
  pss_nil))))
  pss_nil)
  (pss_cons (ps_set (i := 2) nd rfl (.inl rfl) (pe_op op_mod (pe_callTy (call_intU T.dg) rfl T.b_int bb_int (pa_cons (pe_ix ix_seq (pv 0) pe_int (fun _ _ => rfl)) pa_nil)) (pv 1)))
  (pss_cons (ps_asg (pe_op op_fdiv (pe_ix ix_seq (pv 0) pe_int (fun _ _ => rfl)) (pv 1)) (pg_sub (pv 0) pe_int set_list))
  (pss_one (ps_ret (pv 2)))))), ?_⟩
    obtain ⟨i, x, sd, h1, h2, h3, h4, h5, h6, h7⟩ := hd
    have nlc : lc ≠ r := fun e => by
      rw [e, h1] at h2
      cases cs with
      | nil => cases h2
      | cons _ _ => cases h2
    with_reducible refine Rd.seqV (N := fun σ' H' => σ' = [some (.ref r), some (.int m), none] ∧ DrA H lc cs r H') (fun σ' H' n => ?_) (fun nx hnx => ?_)
    · obtain ⟨rfl, i', x', sd', g1, g2, g3, g4, g5, g6⟩ := n
      repeat walk_at "rv"
      refine Rd.ixL (.inl (.inl g1)) (atI_nat (j := 2) rfl) ?_
      repeat walk_at "rv"
      refine Rd.i1 hm ?_
      repeat walk_at "rv"
      refine Rd.ixL (.inl (.inl g1)) (atI_nat (j := 2) rfl) ?_
      repeat walk_at "rv"
      refine Rd.i1 ⟨hm, hm2⟩ ?_
      repeat walk_at "rv"
      refine set_l (j := 2) g1 (show 2 < 4 by decide) ?_
      repeat walk_at "rv"
      exact q _ _ (Int.emod_nonneg _ (by omega)) (Int.emod_lt_of_pos _ hm) ⟨i', x' / m, sd', upd_same, by rw [upd_ne nlc]; exact g6 _ _ nlc h2, h3, g2, Int.ediv_nonneg g3 (by omega), g4, g5⟩ (g6.trans .upd)
    · repeat walk_at "rv"
      refine Rd.ixL (.inl (.inl h1)) (atI_nat (j := 2) rfl) ?_
      repeat walk_at "rv"
      have A0 : DrA H lc cs r H := ⟨i, x, sd, h1, h4, h5, h6, h7, .refl _ _⟩
      by_cases hx : x = 0
      · refine Rd.dyes hx ?_
        repeat walk_at "rv"
        refine Rd.ixL (.inl (.inl h1)) (atI_nat (j := 1) rfl) ?_
        repeat walk_at "rv"
        refine set_l (j := 1) h1 (show 1 < 4 by decide) ?_
        have g1 : upd H r (.lst ([V.ref lc, .int i, .int x, .int sd].set 1 (.int (i + 1)))) r = some (.lst [.ref lc, .int (i + 1), .int x, .int sd]) := upd_same
        have g2 : upd H r (.lst ([V.ref lc, .int i, .int x, .int sd].set 1 (.int (i + 1)))) lc = some (.lst (cs.map V.int)) := by rw [upd_ne nlc]; exact h2
        have g3 : SameBut r H (upd H r (.lst ([V.ref lc, .int i, .int x, .int sd].set 1 (.int (i + 1))))) := .upd
        generalize upd H r (.lst ([V.ref lc, .int i, .int x, .int sd].set 1 (.int (i + 1)))) = H1 at *
        with_reducible refine Rd.seqV (N := fun σ' H' => σ' = [some (.ref r), some (.int m), none] ∧ DrA H lc cs r H') (fun σ' H' n => ?_) (fun nx hnx => ?_)
        · obtain ⟨rfl, i', x', sd', k1, k2, k3, k4, k5, k6⟩ := n
          repeat walk_at "rv"
          refine Rd.ixL (.inl (.inl k1)) (atI_nat (j := 2) rfl) ?_
          repeat walk_at "rv"
          by_cases hx' : x' = 0
          · refine Rd.dyes hx' ?_
            repeat walk_at "rv"
            refine Rd.ixL (.inl (.inl k1)) (atI_nat (j := 3) rfl) ?_
            repeat walk_at "rv"
            refine mul_i (.inl ⟨by omega, by omega⟩) ?_
            repeat walk_at "rv"
            refine Rd.i1 (by decide) ?_
            repeat walk_at "rv"
            refine set_l (j := 3) k1 (show 3 < 4 by decide) ?_
            repeat walk_at "rv"
            refine Rd.ixL (.inl (.inl upd_same)) (atI_nat (j := 3) rfl) ?_
            repeat walk_at "rv"
            refine set_l (j := 2) upd_same (show 2 < 4 by decide) ?_
            exact hnx _ _ ⟨rfl, i', _, _, upd_same, k2, Int.emod_nonneg _ (by decide), Int.emod_nonneg _ (by decide), Int.emod_lt_of_pos _ (by decide), (k6.trans .upd).trans .upd⟩
          · refine Rd.dno hx' ?_
            exact hnx _ _ ⟨rfl, i', x', sd', k1, k2, k3, k4, k5, k6⟩
        · repeat walk_at "rv"
          refine Rd.ixL (.inl (.inl g1)) (atI_nat (j := 1) rfl) ?_
          repeat walk_at "rv"
          refine Rd.ixL (.inl (.inl g1)) (atI_nat (j := 0) rfl) ?_
          repeat walk_at "rv"
          refine Rd.lenL (.inl (.inl g2)) ?_
          repeat walk_at "rv"
          rw [List.length_map]
          by_cases hi : i + 1 < (cs.length : Int)
          · refine Rd.dyes hi ?_
            repeat walk_at "rv"
            refine Rd.ixL (.inl (.inl g1)) (atI_nat (j := 0) rfl) ?_
            repeat walk_at "rv"
            refine Rd.ixL (.inl (.inl g1)) (atI_nat (j := 1) rfl) ?_
            repeat walk_at "rv"
            obtain ⟨j, hj⟩ : ∃ j : Nat, i + 1 = (j : Int) := ⟨(i + 1).toNat, by omega⟩
            have hjl : j < cs.length := by omega
            rw [hj]
            refine Rd.ixL (v := .int cs[j]) (.inl (.inl g2)) (atI_nat (by rw [List.getElem?_map, List.getElem?_eq_getElem hjl]; rfl)) ?_
            repeat walk_at "rv"
            refine set_l (j := 2) g1 (show 2 < 4 by decide) ?_
            exact hnx _ _ ⟨rfl, i + 1, cs[j], sd, upd_same, by omega, h3 _ (List.getElem_mem hjl), h6, h7, g3.trans .upd⟩
          · refine Rd.dno hi ?_
            exact hnx _ _ ⟨rfl, i + 1, x, sd, g1, by omega, h5, h6, h7, g3⟩
      · refine Rd.dno hx ?_
        exact hnx _ _ ⟨rfl, A0⟩
end
end K53

namespace K53
open PySem L2 Ux
open C8 (pe_gc)
local macro_rules | `(tactic| walk_at "rd") => `(tactic| with_reducible first
  | refine Rd.c ?_ | refine Rd.cb ?_ | refine Rd.cons ?_ | refine Rd.nil ?_ | refine Rd.op ?_ | refine Rd.un ?_ | refine Rd.test ?_ | refine Rd.tb_ ?_ | refine Rd.isb ?_ | refine Rd.and ?_ | refine Rd.or ?_ | refine Rd.not ?_
  | refine Rd.andV ?_ | refine Rd.orV ?_ | refine Rd.notV ?_ | refine Rd.ifx ?_ | refine Rd.tup ?_ | refine Rd.lst ?_ | refine Rd.bm ?_ | refine Rd.bm0 ?_ | refine Rd.m1 ?_ | refine Rd.call ?_ | refine Rd.callS ?_ | refine Rd.slice ?_ | refine Rd.nopart ?_ | refine Rd.part ?_ | refine Rd.isi ?_
  | refine Rd.i0 ?_ | refine Rd.iu ?_ | refine Ux.add_i ?_ | refine Ux.eq_i ?_ | refine Ux.ne_i ?_ | refine Ux.eq_s ?_ | refine Ux.ne_s ?_ | refine Ux.le_i ?_ | refine Ux.le_s ?_ | refine Ux.ge_i ?_ | refine Ux.int_i ?_ | refine Ux.in_c ?_ | refine Ux.nin_c ?_ | refine Rd.abs_ ?_ | refine Rd.lc ?_ | refine Rd.iStr ?_ | refine Rd.iss ?_ | refine Rd.iList ?_ | refine Rd.for_ ?_ | refine Rd.gs ?_ | refine Rd.iTup ?_ | refine Rd.asgG ?_ | refine Rd.fld ?_ | refine Rd.sfld ?_ | refine Rd.meth ?_ | refine Rd.gn ?_ | refine Rd.rng1 ?_ | refine Rd.rng2 ?_ | refine Rd.rng3 ?_ | refine Rd.enumS ?_ | refine Rd.enumSn ?_
  | refine Rd.seq ?_ | refine Rd.next ?_ | refine Rd.brk ?_ | refine Rd.cont ?_ | refine Rd.drop ?_ | refine Rd.ret ?_ | refine Rd.retN ?_ | refine Rd.ifs ?_ | refine Rd.asg ?_ | refine Rd.par ?_ | refine Rd.is2 ?_)
local macro_rules | `(tactic| walk_at "rv") => `(tactic| first
  | ((with_reducible refine' Rd.var ?zvar ?_); (case zvar => rfl)) | walk_at "rd" | (with_reducible refine Rd.chain ?_))
local macro_rules | `(tactic| walk_at "rw") => `(tactic| first
  | ((with_reducible refine' Rd.var ?zvar ?_); (case zvar => rfl)) | walk_at "rd")

theorem lt1 (a b : Nat) : decide ([a] < [b]) = decide (a < b) := by
  by_cases h : a < b
  · rw [decide_eq_true h, decide_eq_true]
    exact List.Lex.rel h
  · rw [decide_eq_false h, decide_eq_false]
    intro q
    cases q with
    | rel q => exact h q
    | cons q => cases q
theorem between (a b c : Nat) : (!decide ([c] < [a]) && !decide ([b] < [c])) = (decide (a ≤ c) && decide (c ≤ b)) := by
  rw [lt1, lt1]
  by_cases h1 : a ≤ c <;> by_cases h2 : c ≤ b <;> simp [h1, h2] <;> omega
theorem chA {a b c : Nat} {A B : Str} {te : TE} {σ : L2.St} {H : Hp} {Q : VK} (hx : ∀ R : VK, R (.str ⟨#[c]⟩) H → te σ H R) (ha : A.cps.toList = [a]) (hb : B.cps.toList = [b]) (q : Q (.bl (decide (a ≤ c) && decide (c ≤ b))) H) :
    tChain rLeU rLeU (tC (.str A)) te (tC (.str B)) σ H Q := by
  refine Rd.chain (Rd.c (hx _ (le_s (Rd.isb ?_))))
  rw [← between] at q
  rw [ha]
  by_cases h : [c] < [a]
  · rw [decide_eq_true h]
    rw [decide_eq_true h] at q
    exact Rd.no rfl q
  · rw [decide_eq_false h]
    rw [decide_eq_false h, Bool.not_false, Bool.true_and] at q
    refine Rd.yes rfl (Rd.c (le_s ?_))
    rw [hb]
    exact q
section
variable {P : Program} {w : World} {K : PySem.W.Frag} {mg : Str → Option Value} {base : Heap} {M C : Addr}
/-! ### _law_word -/
abbrev s_law_word : Stmt := topS 22
abbrev N_law_word : List Str := ["value", "sign"]
theorem sc_law_word : FnScope N_law_word ["value"] (defScope s_law_word) := ⟨rfl, rfl, rfl, by decide +kernel, rfl, by decide +kernel, by decide +kernel⟩
theorem ok_law_word {f : Addr} {fd : FuncData} (F : Fun K "_law_word" "_law_word" s_law_word f fd) (T : Txt K mg M) : FnOk P w K mg base (L2.CX P w) 1 f fd ["value"] (sp_is_word K) := by
  refine F.okX sc_law_word (fun vs H Q E h => ?_) (fun cdv A outer s H vs Q E hr h => ?_)
  · obtain ⟨v, d, rfl, _⟩ := h
    rfl
  · obtain ⟨v, d, rfl, hd, hz, q⟩ := h
    have nd := sc_law_word.nd
    refine ⟨_, (pss_cons (ps_if (PW.pt (pw_or (pt_not (pt_val (pe_callB call_isi rfl T.b_isinstance bb_isinstance (pa_cons (pv 0) (pa_cons (pe_ty rfl T.b_str bb_str) pa_nil))))) (pw_or (pt_not (pt_chain op_leU op_leU pe_int (pe_callB call_lenU rfl T.b_len bb_len (pa_cons (pv 0) pa_nil)) pe_int)) (pw_or1 (pt_not (pt_chain op_leU op_leU pe_str (pe_ix ix_seq (pv 0) pe_int (fun _ _ => rfl)) pe_str))))))
  (pss_one (ps_ret pe_bl))
  pss_nil)
  (pss_one (ps_ret (pe_callB (cr_all rfl) rfl T.b_all bb_all (pa_cons (pe_lc (own := [("sign", 1)]) rfl nd (pi_str (pv 0)) (blkOk_by (own := [("sign", 1)]) (N := N_law_word) (sc := defScope s_law_word) (by decide +kernel)) (fun _ _ _ _ _ => (pg_name (i := 1) nd rfl (.inl rfl))) (fun _ _ _ _ _ => pts_nil) (fun _ _ _ _ _ => (pe_or (pe_chain op_leU op_leU pe_str (pv 1) pe_str) (pe_one (pe_chain op_leU op_leU pe_str (pv 1) pe_str))))) pa_nil))))), ?_⟩
    repeat walk_at "rv"
    refine isiD hd (by decide) ?_
    repeat walk_at "rv"
    cases d with
    | str s =>
      cases hd
      refine Rd.nno rfl ?_
      repeat walk_at "rv"
      refine Rd.lenS (hz s rfl) ?_
      repeat walk_at "rv"
      have lq : s.length = (TL.tl s).length := TL.len_tl s
      have hz' := hz s rfl
      cases hs : TL.tl s with
      | nil =>
        rw [hs] at lq
        refine Rd.dno (by simp at lq; omega) ?_
        repeat walk_at "rv"
        refine Rd.yes rfl (Rd.yes rfl ?_)
        repeat walk_at "rv"
        have e : wordD (.str s) = false := by
          show M53.wordL (TL.tl s) = false
          rw [hs]
          rfl
        rw [← e]
        exact q H (Same.refl H)
      | cons c r =>
        rw [hs, List.length_cons] at lq
        have ew : wordD (.str s) = (decide (r.length ≤ 11) && (M53.isLet c && (c :: r).all fun x => M53.isLet x || M53.isDig x)) := by
          show M53.wordL (TL.tl s) = _
          rw [hs]
          exact wordL_cons c r
        refine Rd.dyes (by omega) ?_
        repeat walk_at "rv"
        by_cases h : r.length ≤ 11
        · refine Rd.nno (decide_eq_true (by omega)) ?_
          repeat walk_at "rw"
          refine chA (c := c) (fun R hR => ?_) rfl rfl ?_
          · repeat walk_at "rw"
            refine Rd.ixS (c := c) (hz s rfl) (atI_nat (j := 0) (by show (TL.tl s)[0]? = some c; rw [hs]; rfl)) hR
          repeat walk_at "rw"
          rw [decide_eq_true h, Bool.true_and] at ew
          cases hc : M53.isLet c with
          | false =>
            rw [hc, Bool.false_and] at ew
            refine Rd.nyes hc ?_
            repeat walk_at "rw"
            rw [← ew]
            exact q H (Same.refl H)
          | true =>
            rw [hc, Bool.true_and] at ew
            refine Rd.nno hc ?_
            repeat walk_at "rw"
            intro D hD
            refine Rd.lcC (f := fun x => V.bl (M53.isLet x || M53.isDig x)) hD (hz s rfl) (fun x hx H' hs' Q' q' => ?_) ?_
            · refine Rd.orV (chA (c := x) (fun R hR => Rd.var rfl hR) rfl rfl ?_)
              refine Rd.isb ?_
              cases hx : M53.isLet x with
              | true =>
                refine Rd.yes hx ?_
                rw [hx] at q'
                exact q'
              | false =>
                refine Rd.no hx ?_
                refine chA (c := x) (fun R hR => Rd.var rfl hR) rfl rfl ?_
                rw [hx, Bool.false_or] at q'
                exact q'
            · repeat walk_at "rw"
              refine Rd.allL (bs := s.cps.toList.map fun x => M53.isLet x || M53.isDig x) ?_ ?_
              · rw [List.map_map]
                exact SqL.of upd_same
              · have e : wordD (.str s) = (s.cps.toList.map fun x => M53.isLet x || M53.isDig x).all id := by
                  have hs' : s.cps.toList = c :: r := hs
                  rw [ew, hs', List.all_map]
                  rfl
                rw [← e]
                refine q _ fun b o eb => ?_
                rw [upd_ne (ne_of_none eb hD)]
                exact eb
        · refine Rd.nyes (decide_eq_false (by omega)) (Rd.yes rfl ?_)
          repeat walk_at "rv"
          rw [decide_eq_false h, Bool.false_and] at ew
          rw [← ew]
          exact q H (Same.refl H)
    | _ =>
      refine Rd.nyes rfl (Rd.yes rfl ?_)
      repeat walk_at "rv"
      exact q H (Same.refl H)
end
end K53

namespace K53
open PySem L2 Ux
open C8 (pe_gc)
local macro_rules | `(tactic| walk_at "rd") => `(tactic| with_reducible first
  | refine Rd.c ?_ | refine Rd.cb ?_ | refine Rd.cons ?_ | refine Rd.nil ?_ | refine Rd.op ?_ | refine Rd.un ?_ | refine Rd.test ?_ | refine Rd.tb_ ?_ | refine Rd.isb ?_ | refine Rd.and ?_ | refine Rd.or ?_ | refine Rd.not ?_
  | refine Rd.andV ?_ | refine Rd.orV ?_ | refine Rd.notV ?_ | refine Rd.ifx ?_ | refine Rd.tup ?_ | refine Rd.lst ?_ | refine Rd.bm ?_ | refine Rd.bm0 ?_ | refine Rd.m1 ?_ | refine Rd.call ?_ | refine Rd.callS ?_ | refine Rd.slice ?_ | refine Rd.nopart ?_ | refine Rd.part ?_ | refine Rd.isi ?_
  | refine Rd.i0 ?_ | refine Rd.iu ?_ | refine Ux.add_i ?_ | refine Ux.eq_i ?_ | refine Ux.ne_i ?_ | refine Ux.eq_s ?_ | refine Ux.ne_s ?_ | refine Ux.le_i ?_ | refine Ux.le_s ?_ | refine Ux.ge_i ?_ | refine Ux.int_i ?_ | refine Ux.in_c ?_ | refine Ux.nin_c ?_ | refine Rd.abs_ ?_ | refine Rd.lc ?_ | refine Rd.iStr ?_ | refine Rd.iss ?_ | refine Rd.iList ?_ | refine Rd.for_ ?_ | refine Rd.gs ?_ | refine Rd.iTup ?_ | refine Rd.asgG ?_ | refine Rd.fld ?_ | refine Rd.sfld ?_ | refine Rd.meth ?_ | refine Rd.gn ?_ | refine Rd.rng1 ?_ | refine Rd.rng2 ?_ | refine Rd.rng3 ?_ | refine Rd.enumS ?_ | refine Rd.enumSn ?_
  | refine Rd.seq ?_ | refine Rd.next ?_ | refine Rd.brk ?_ | refine Rd.cont ?_ | refine Rd.drop ?_ | refine Rd.ret ?_ | refine Rd.retN ?_ | refine Rd.ifs ?_ | refine Rd.asg ?_ | refine Rd.par ?_ | refine Rd.is2 ?_)
local macro_rules | `(tactic| walk_at "rv") => `(tactic| first
  | ((with_reducible refine' Rd.var ?zvar ?_); (case zvar => rfl)) | walk_at "rd" | (with_reducible refine Rd.chain ?_))
local macro_rules | `(tactic| walk_at "rw") => `(tactic| first
  | ((with_reducible refine' Rd.var ?zvar ?_); (case zvar => rfl)) | walk_at "rd")

def numV : Option Int → V
  | some n => .int n
  | none => .non
theorem num_none {l : List Nat} (h : ¬ (M53.natL (bodyOf l) = true ∧ (bodyOf l = [48] → l = [48]))) : M53.numOf l = none := by
  rw [num_eq, if_neg]
  intro q
  rw [Bool.and_eq_true, Bool.or_eq_true, bne_iff_ne, beq_iff_eq] at q
  exact h ⟨q.1, fun e => q.2.elim (fun n => absurd e n) id⟩
section
variable {P : Program} {w : World} {K : PySem.W.Frag} {mg : Str → Option Value} {base : Heap} {M C : Addr}
/-! ### _law_number -/
abbrev s_law_number : Stmt := topS 24
abbrev N_law_number : List Str := ["text", "body", "sign"]
theorem sc_law_number : FnScope N_law_number ["text"] (defScope s_law_number) := ⟨rfl, rfl, rfl, by decide +kernel, rfl, by decide +kernel, by decide +kernel⟩
def sp_law_number : Sp := fun vs H Q _ => ∃ l, vs = [.str (SX.S l)] ∧ l.length ≤ 4000 ∧ ∀ H', Same H H' → Q (numV (M53.numOf l)) H'
theorem ok_law_number {f : Addr} {fd : FuncData} (F : Fun K "_law_number" "_law_number" s_law_number f fd) (T : Txt K mg M) : FnOk P w K mg base (L2.CX P w) 1 f fd ["text"] sp_law_number := by
  refine F.okX sc_law_number (fun vs H Q E h => ?_) (fun cdv A outer s H vs Q E hr h => ?_)
  · obtain ⟨l, rfl, _⟩ := h
    rfl
  · obtain ⟨l, rfl, hl, q⟩ := h
    have nd := sc_law_number.nd
    have hz : l.length ≤ sizeLine := Nat.le_trans hl (by decide)
    have hz' : (SX.S l).length ≤ sizeLine := by rw [SX.S_len]; exact hz
    refine ⟨_, (pss_cons (ps_set (i := 1) nd rfl (.inl rfl) (pe_ifExp (pt_cmpR (op_eqU hr.units) (pe_slice sl_U (pv 0) po_none (po_some pe_int)) pe_str (nomark _)) (pe_slice sl_U (pv 0) (po_some pe_int) po_none) (pv 0)))
  (pss_cons (ps_if (PW.pt (pw_or (pt_cmpR (op_eqU hr.units) (pv 1) pe_str (nomark _)) (pw_or (pt_val (pe_callB (cr_any rfl) rfl T.b_any bb_any (pa_cons (pe_lc (own := [("sign", 2)]) rfl nd (pi_str (pv 1)) (blkOk_by (own := [("sign", 2)]) (N := N_law_number) (sc := defScope s_law_number) (by decide +kernel)) (fun _ _ _ _ _ => (pg_name (i := 2) nd rfl (.inl rfl))) (fun _ _ _ _ _ => pts_nil) (fun _ _ _ _ _ => (pe_cmpR (opK (r := rNotInU) K (op_notInU hr)) (pv 2) pe_str rfl))) pa_nil))) (pw_or1 (PW.pt (pw_and (pt_cmpR (op_eqU hr.units) (pe_ix ix_seq (pv 1) pe_int (fun _ _ => rfl)) pe_str (nomark _)) (pw_and1 (pt_cmpR (op_neU hr.units) (pv 0) pe_str (nomark _)))))))))
  (pss_one (ps_ret pe_non))
  pss_nil)
  (pss_one (ps_ret (pe_callTy (call_intU T.dg) rfl T.b_int bb_int (pa_cons (pv 0) pa_nil)))))), ?_⟩
    refine Rd.seq (Rd.asg (Rd.via (.str (SX.S (bodyOf l))) (fun R hR => ?_) ?_))
    · repeat walk_at "rv"
      refine cut_s hz' ?_
      repeat walk_at "rv"
      have e1 : cutS (SX.S l) none (some 1) = SX.S (l.take 1) := Rd.cut_to l 1
      have e45 : Str.ofString "-" = SX.S [45] := rfl
      rw [e1, e45, S_dec]
      by_cases h : l.take 1 = [45]
      · refine Rd.dyes h ?_
        repeat walk_at "rv"
        refine cut_s hz' ?_
        have e2 : cutS (SX.S l) (some 1) none = SX.S (l.drop 1) := Rd.cut_from l 1
        rw [e2, ← show bodyOf l = l.drop 1 from if_pos h]
        exact hR
      · refine Rd.dno h ?_
        repeat walk_at "rv"
        rw [show bodyOf l = l from if_neg h] at hR
        exact hR
    · have hlb : (bodyOf l).length ≤ l.length := by
        unfold bodyOf
        split
        · rw [List.length_drop]; omega
        · exact Nat.le_refl _
      have hzb : (SX.S (bodyOf l)).length ≤ sizeLine := by
        rw [SX.S_len]
        omega
      repeat walk_at "rv"
      have e00 : ∀ a : List Nat, decide (SX.S a = Str.ofString "") = decide (a = []) := fun a => S_dec
      rw [e00]
      have bad : ¬ (M53.natL (bodyOf l) = true ∧ (bodyOf l = [48] → l = [48])) → ∀ H', Same H H' → Q .non H' := fun h H' s => by
        have := q H' s
        rw [num_none h] at this
        exact this
      by_cases h1 : bodyOf l = []
      · refine Rd.dyes h1 (Rd.yes rfl ?_)
        repeat walk_at "rv"
        exact bad (fun h => (natL_all h.1).2 h1) H (Same.refl H)
      · refine Rd.dno h1 ?_
        repeat walk_at "rv"
        intro D hD
        refine Rd.lcC (f := fun x => V.bl (!M53.isDig x)) hD hzb (fun x hx H' hs' Q' q' => ?_) ?_
        · repeat walk_at "rv"
          rw [dig_mem]
          exact q'
        · repeat walk_at "rv"
          refine Rd.anyL (bs := (bodyOf l).map fun x => !M53.isDig x) ?_ ?_
          · rw [List.map_map]
            exact SqL.of upd_same
          · repeat walk_at "rv"
            have sD : ∀ y, Same H (upd H D y) := fun y => same_upd (Same.refl H) hD
            have ea : ((bodyOf l).map fun x => !M53.isDig x).any id = !(bodyOf l).all M53.isDig := by
              rw [List.any_map, List.not_all_eq_any_not]
              rfl
            rw [ea]
            by_cases h3 : (bodyOf l).all M53.isDig = true
            · refine Rd.no (by rw [h3]; rfl) ?_
              repeat walk_at "rv"
              obtain ⟨c, r, hb⟩ : ∃ c r, bodyOf l = c :: r := by
                cases q : bodyOf l with
                | nil => exact absurd q h1
                | cons c r => exact ⟨c, r, rfl⟩
              refine Rd.ixS (c := c) hzb (atI_nat (j := 0) (by show (bodyOf l)[0]? = some c; rw [hb]; rfl)) ?_
              repeat walk_at "rv"
              have e0 : ∀ a : List Nat, decide (SX.S a = Str.ofString "0") = decide (a = [48]) := fun a => S_dec
              have e1 : (⟨#[c]⟩ : Str) = SX.S [c] := rfl
              rw [e1, e0]
              have fin : (c = 48 → l = [48]) → rIntU [V.str (SX.S l)] (upd H D (.lst ((bodyOf l).map fun x => V.bl (!M53.isDig x)))) Q := fun h4 => by
                have h5 : M53.natL (bodyOf l) = true := natL_of_all h3 (by rw [hb]; simp) fun h => by
                  rw [hb] at h
                  have e : c = 48 := by simpa using h
                  have e2 := h4 e
                  rcases body_cases l with ⟨r', e3, _⟩ | ⟨e3, _⟩
                  · rw [e3] at e2; cases e2
                  · rw [e3]; exact e2
                have hb4 : (bodyOf l).length ≤ 4000 := by omega
                obtain ⟨n, w1, w2⟩ := whole_some hb4 h5 (fun e => h4 (by rw [hb] at e; cases e; rfl))
                rw [whole_eq, if_pos hb4] at w1
                rw [w1] at q
                exact int_t w2 hz' (q _ (sD _))
              by_cases h4 : [c] = [48]
              · refine Rd.dyes h4 ?_
                repeat walk_at "rv"
                rw [e0]
                by_cases h5 : l = [48]
                · refine Rd.no (by rw [decide_eq_true h5]; rfl) ?_
                  repeat walk_at "rv"
                  exact fin fun _ => h5
                · refine Rd.yes (by rw [decide_eq_false h5]; rfl) ?_
                  repeat walk_at "rv"
                  refine bad (fun h => h5 (h.2 ?_)) _ (sD _)
                  have hc : c = 48 := by simpa using h4
                  exact natL_head h.1 (by rw [hb, hc]; rfl)
              · refine Rd.dno h4 ?_
                repeat walk_at "rv"
                refine Rd.no rfl ?_
                repeat walk_at "rv"
                exact fin fun e => absurd (by rw [e]) h4
            · refine Rd.yes (by simpa using h3) (Rd.yes rfl ?_)
              repeat walk_at "rv"
              refine bad (fun h => h3 (natL_all h.1).1) _ (sD _)
end
end K53

namespace K53
open PySem L2 Ux
open C8 (pe_gc)
local macro_rules | `(tactic| walk_at "rd") => `(tactic| with_reducible first
  | refine Rd.c ?_ | refine Rd.cb ?_ | refine Rd.cons ?_ | refine Rd.nil ?_ | refine Rd.op ?_ | refine Rd.un ?_ | refine Rd.test ?_ | refine Rd.tb_ ?_ | refine Rd.isb ?_ | refine Rd.and ?_ | refine Rd.or ?_ | refine Rd.not ?_
  | refine Rd.andV ?_ | refine Rd.orV ?_ | refine Rd.notV ?_ | refine Rd.ifx ?_ | refine Rd.tup ?_ | refine Rd.lst ?_ | refine Rd.bm ?_ | refine Rd.bm0 ?_ | refine Rd.m1 ?_ | refine Rd.call ?_ | refine Rd.callS ?_ | refine Rd.slice ?_ | refine Rd.nopart ?_ | refine Rd.part ?_ | refine Rd.isi ?_
  | refine Rd.i0 ?_ | refine Rd.iu ?_ | refine Ux.add_i ?_ | refine Ux.eq_i ?_ | refine Ux.ne_i ?_ | refine Ux.eq_s ?_ | refine Ux.ne_s ?_ | refine Ux.le_i ?_ | refine Ux.le_s ?_ | refine Ux.ge_i ?_ | refine Ux.int_i ?_ | refine Ux.in_c ?_ | refine Ux.nin_c ?_ | refine Rd.abs_ ?_ | refine Rd.lc ?_ | refine Rd.iStr ?_ | refine Rd.iss ?_ | refine Rd.iList ?_ | refine Rd.for_ ?_ | refine Rd.gs ?_ | refine Rd.iTup ?_ | refine Rd.asgG ?_ | refine Rd.fld ?_ | refine Rd.sfld ?_ | refine Rd.meth ?_ | refine Rd.gn ?_ | refine Rd.rng1 ?_ | refine Rd.rng2 ?_ | refine Rd.rng3 ?_ | refine Rd.enumS ?_ | refine Rd.enumSn ?_
  | refine Rd.seq ?_ | refine Rd.next ?_ | refine Rd.brk ?_ | refine Rd.cont ?_ | refine Rd.drop ?_ | refine Rd.ret ?_ | refine Rd.retN ?_ | refine Rd.ifs ?_ | refine Rd.asg ?_ | refine Rd.par ?_ | refine Rd.is2 ?_)
local macro_rules | `(tactic| walk_at "rv") => `(tactic| first
  | ((with_reducible refine' Rd.var ?zvar ?_); (case zvar => rfl)) | walk_at "rd" | (with_reducible refine Rd.chain ?_))
local macro_rules | `(tactic| walk_at "rw") => `(tactic| first
  | ((with_reducible refine' Rd.var ?zvar ?_); (case zvar => rfl)) | walk_at "rd")

/-! ### _law_written -/
mutual
def dep : PyData → Nat
  | .tuple ds => deps ds + 1
  | _ => 0
def deps : List PyData → Nat
  | [] => 0
  | d :: r => max (dep d) (deps r)
end
mutual
/-- its ints are not long -/
def okI (B : Nat) : PyData → Bool
  | .tuple ds => okIs B ds
  | .int z => decide ((M53.intL z).length ≤ B)
  | _ => true
def okIs (B : Nat) : List PyData → Bool
  | [] => true
  | d :: r => okI B d && okIs B r
end
theorem deps_at : ∀ {ds : List PyData} {i : Nat} {d : PyData}, ds[i]? = some d → dep d ≤ deps ds
  | e :: r, 0, d, h => by cases h; exact Nat.le_max_left _ _
  | e :: r, i + 1, d, h => Nat.le_trans (deps_at (ds := r) (i := i) h) (Nat.le_max_right _ _)
theorem okIs_at {B : Nat} : ∀ {ds : List PyData} {i : Nat} {d : PyData}, ds[i]? = some d → okIs B ds = true → okI B d = true
  | e :: r, 0, d, h, f => by
    cases h
    have f' : (okI B e && okIs B r) = true := f
    exact (Bool.and_eq_true_iff.mp f').1
  | e :: r, i + 1, d, h, f => by
    have f' : (okI B e && okIs B r) = true := f
    exact okIs_at (ds := r) (i := i) h (Bool.and_eq_true_iff.mp f').2
theorem flats_at : ∀ {ds : List PyData} {i : Nat} {d : PyData}, ds[i]? = some d → flats ds = true → flat d = true
  | e :: r, 0, d, h, f => by
    cases h
    have f' : (flat e && flats r) = true := f
    exact (Bool.and_eq_true_iff.mp f').1
  | e :: r, i + 1, d, h, f => by
    have f' : (flat e && flats r) = true := f
    exact flats_at (ds := r) (i := i) h (Bool.and_eq_true_iff.mp f').2
def wtx (d : PyData) : List Nat := (M53.wT d).getD []
theorem wTs_all : ∀ {ds : List PyData} {l : List Nat}, M53.wTs ds = some l → l = TL.joinL [44] (ds.map wtx) ∧ ∀ d ∈ ds, M53.wT d = some (wtx d)
  | [], l, h => by cases h; exact ⟨rfl, fun d m => by cases m⟩
  | d :: r, l, h => by
    have h' : ((M53.wT d).bind fun a => (M53.wTs r).map fun b => if r.isEmpty then a else a ++ 44 :: b) = some l := h
    cases ha : M53.wT d with
    | none => rw [ha] at h'; cases h'
    | some a =>
      cases hb : M53.wTs r with
      | none => rw [ha, hb] at h'; cases h'
      | some b =>
        rw [ha, hb] at h'
        obtain ⟨e1, e2⟩ := wTs_all hb
        have ew : wtx d = a := by unfold wtx; rw [ha]; rfl
        refine ⟨?_, fun x m => ?_⟩
        · cases r with
          | nil =>
            cases h'
            exact ew.symm
          | cons y r =>
            cases h'
            show a ++ 44 :: b = wtx d ++ ([44] ++ TL.joinL [44] (wtx y :: r.map wtx))
            rw [ew, e1]
            rfl
        · rcases List.mem_cons.mp m with e | m
          · rw [e, ha, ew]
          · exact e2 x m
theorem wT_ne {d : PyData} {t : List Nat} (h : M53.wT d = some t) : t ≠ [] := by
  cases d with
  | tuple ds =>
    have h' : ((M53.wTs ds).map fun l => 91 :: (l ++ [93])) = some t := h
    cases q : M53.wTs ds with
    | none => rw [q] at h'; cases h'
    | some l => rw [q] at h'; cases h'; intro e; cases e
  | str s =>
    have h' : (if M53.wordL (TL.tl s) then some (TL.tl s) else none) = some t := h
    split at h'
    · rename_i hw
      cases h'
      intro e
      rw [e] at hw
      cases hw
    · cases h'
  | int z =>
    cases h
    exact M53.intL_ne z
  | _ => cases h
theorem join_len : ∀ {ts : List (List Nat)}, (∀ t ∈ ts, t ≠ []) → ts.length ≤ (TL.joinL [44] ts).length ∧ ∀ t ∈ ts, t.length ≤ (TL.joinL [44] ts).length
  | [], _ => ⟨Nat.le_refl _, fun t m => by cases m⟩
  | [p], h => by
    have := List.length_pos_iff.mpr (h p List.mem_cons_self)
    refine ⟨this, fun t m => ?_⟩
    rw [List.mem_singleton.mp m]
    exact Nat.le_refl _
  | p :: q :: r, h => by
    obtain ⟨h1, h2⟩ := join_len (ts := q :: r) fun t m => h t (List.mem_cons_of_mem _ m)
    have e : TL.joinL [44] (p :: q :: r) = p ++ ([44] ++ TL.joinL [44] (q :: r)) := rfl
    rw [e, List.length_append, List.length_append]
    simp only [List.length_singleton]
    refine ⟨by rw [List.length_cons]; omega, fun t m => ?_⟩
    rcases List.mem_cons.mp m with m | m
    · rw [m]; omega
    · have := h2 t m
      omega
theorem join_sum : ∀ ts : List (List Nat), (ts.map List.length).sum + ts.length ≤ (TL.joinL [44] ts).length + 1
  | [] => by decide
  | [p] => by simp [TL.joinL]
  | p :: q :: r => by
    have := join_sum (q :: r)
    have e : TL.joinL [44] (p :: q :: r) = p ++ ([44] ++ TL.joinL [44] (q :: r)) := rfl
    rw [e, List.length_append, List.length_append]
    simp only [List.map_cons, List.sum_cons, List.length_cons, List.length_nil] at this ⊢
    omega
theorem codes_lt {l : List Nat} (h : l.all (fun c => decide (c < 128)) = true) : PyData.strOk (SX.S l) = true := by
  show (SX.S l).cps.all (· < 0x110000) = true
  rw [← Array.all_toList]
  show l.all (fun c => decide (c < 0x110000)) = true
  rw [List.all_eq_true] at h ⊢
  intro c hc
  have := of_decide_eq_true (h c hc)
  exact decide_eq_true (by omega)
theorem word_codes {l : List Nat} (h : M53.wordL l = true) : l.all (fun c => decide (c < 128)) = true := by
  cases l with
  | nil => rfl
  | cons c r =>
    rw [wordL_cons, Bool.and_eq_true, Bool.and_eq_true] at h
    rw [List.all_eq_true]
    intro x hx
    have := List.all_eq_true.mp h.2.2 x hx
    simp only [M53.isLet, M53.isDig, Bool.or_eq_true, Bool.and_eq_true, decide_eq_true_eq] at this
    exact decide_eq_true (by omega)
theorem int_codes (z : Int) : (M53.intL z).all (fun c => decide (c < 128)) = true := by
  have h : (TL.numL z.natAbs).all (fun c => decide (c < 128)) = true := by
    rw [List.all_eq_true]
    intro c hc
    have := TL.numL_digits z.natAbs c hc
    exact decide_eq_true (by omega)
  unfold M53.intL
  split
  · rw [List.all_cons, h]; rfl
  · exact h
mutual
theorem wT_codes : ∀ {d : PyData} {t : List Nat}, M53.wT d = some t → t.all (fun c => decide (c < 128)) = true
  | .tuple ds, t, h => by
    have h' : ((M53.wTs ds).map fun l => 91 :: (l ++ [93])) = some t := h
    cases q : M53.wTs ds with
    | none => rw [q] at h'; cases h'
    | some l =>
      rw [q] at h'
      cases h'
      rw [List.all_cons, List.all_append, wTs_codes q]
      rfl
  | .str s, t, h => by
    have h' : (if M53.wordL (TL.tl s) then some (TL.tl s) else none) = some t := h
    split at h'
    · rename_i hw
      cases h'
      exact word_codes hw
    · cases h'
  | .int z, t, h => by cases h; exact int_codes z
  | .none, _, h => by cases h
  | .bool _, _, h => by cases h
  | .list _, _, h => by cases h
  | .dict _, _, h => by cases h
theorem wTs_codes : ∀ {ds : List PyData} {t : List Nat}, M53.wTs ds = some t → t.all (fun c => decide (c < 128)) = true
  | [], t, h => by cases h; rfl
  | d :: r, t, h => by
    have h' : ((M53.wT d).bind fun a => (M53.wTs r).map fun b => if r.isEmpty then a else a ++ 44 :: b) = some t := h
    cases ha : M53.wT d with
    | none => rw [ha] at h'; cases h'
    | some a =>
      cases hb : M53.wTs r with
      | none => rw [ha, hb] at h'; cases h'
      | some b =>
        rw [ha, hb] at h'
        have e1 := wT_codes ha
        have e2 := wTs_codes hb
        have h2 : (if r.isEmpty then a else a ++ 44 :: b) = t := Option.some.inj h'
        rw [← h2]
        split
        · exact e1
        · rw [List.all_append, List.all_cons, e1, e2]
          rfl
end
theorem lay_strs : ∀ {ts : List (List Nat)}, (∀ t ∈ ts, t.all (fun c => decide (c < 128)) = true) → PyData.canLayAll0 (ts.map fun t => .str (SX.S t)) = true ∧ PyData.depthAll (ts.map fun t => .str (SX.S t)) = 0
  | [], _ => ⟨rfl, rfl⟩
  | t :: r, h => by
    obtain ⟨h1, h2⟩ := lay_strs (ts := r) fun t m => h t (List.mem_cons_of_mem _ m)
    refine ⟨?_, ?_⟩
    · show (PyData.strOk (SX.S t) && PyData.canLayAll0 (r.map fun t => .str (SX.S t))) = true
      rw [codes_lt (h t List.mem_cons_self), h1]
      rfl
    · show max 0 (PyData.depthAll (r.map fun t => .str (SX.S t))) = 0
      rw [h2]
      rfl
theorem shaped_strs {ts : List (List Nat)} (h : ∀ t ∈ ts, t.all (fun c => decide (c < 128)) = true) : SeqAt.shaped (.list (ts.map fun t => .str (SX.S t))) = true := by
  obtain ⟨h1, h2⟩ := lay_strs h
  show (PyData.canLayAll0 (ts.map fun t => .str (SX.S t)) && decide (PyData.depthAll (ts.map fun t => .str (SX.S t)) + 1 ≤ 64)) = true
  rw [h1, h2]
  rfl
theorem dv_lt : ∀ (n : Nat) (l : List Nat), l.length = n → NumText.AllDigits l → NumText.digitsVal l < 10 ^ n
  | 0, l, hl, _ => by rw [List.eq_nil_of_length_eq_zero hl]; decide
  | n + 1, l, hl, h => by
    obtain ⟨p, c, rfl⟩ : ∃ p c, l = p ++ [c] := by
      rcases List.eq_nil_or_concat l with e | ⟨p, c, e⟩
      · rw [e] at hl
        simp at hl
      · exact ⟨p, c, by rw [e, List.concat_eq_append]⟩
    have hp : p.length = n := by simpa using hl
    have ih := dv_lt n p hp fun c hc => h c (List.mem_append_left _ hc)
    have hc := h c (List.mem_append_right _ (List.mem_singleton.mpr rfl))
    rw [M53.dv_snoc, Nat.pow_succ]
    omega
theorem int_lt {z : Int} {B : Nat} (h : (M53.intL z).length ≤ B) (hB : B ≤ 4300 := by decide) : z.natAbs < 10 ^ 4300 := by
  have h1 : (TL.numL z.natAbs).length ≤ B := by
    unfold M53.intL at h
    split at h
    · rw [List.length_cons] at h; omega
    · exact h
  have h2 := dv_lt _ _ rfl (TL.numL_digits z.natAbs)
  rw [TL.numL_val] at h2
  exact Nat.lt_of_lt_of_le h2 (Nat.pow_le_pow_right (by decide) (by omega))
/-- what _law_written may be asked -/
def spw (K : PySem.W.Frag) (n : Nat) : Sp := fun vs H Q _ => ∃ v d t, vs = [v] ∧ Dp K H v d ∧ flat d = true ∧ M53.wT d = some t ∧ t.length ≤ 100000 ∧ okI 4000 d = true ∧ dep d < n ∧ ∀ H', Same H H' → Q (.str (SX.S t)) H'
theorem any_none (ts : List (List Nat)) : ((ts.map fun t => PyData.str (SX.S t)).any fun z => PyData.eqv z .none) = false := by
  rw [List.any_map, List.any_eq_false]
  intro t _
  show ¬ (PyData.eqv (.str (SX.S t)) .none) = true
  simp [PyData.eqv]
theorem dp_strs {K : PySem.W.Frag} {H : Hp} : ∀ ts : List (List Nat), DpAll K H (ts.map fun t => V.str (SX.S t)) (ts.map fun t => PyData.str (SX.S t))
  | [] => .nil
  | t :: r => .cons (.str _) (dp_strs r)
section
variable {P : Program} {w : World} {K : PySem.W.Frag} {mg : Str → Option Value} {base : Heap} {M C : Addr}
abbrev s_law_written : Stmt := topS 23
abbrev N_law_written : List Str := ["data", "parts", "item"]
theorem sc_law_written : FnScope N_law_written ["data"] (defScope s_law_written) := ⟨rfl, rfl, rfl, by decide +kernel, rfl, by decide +kernel, by decide +kernel⟩
theorem ok_law_written {f : Addr} {fd : FuncData} (F : Fun K "_law_written" "_law_written" s_law_written f fd) (T : Txt K mg M) (hm : mg "_law_written" = some (.ref f)) (hb : Binds K fd ["data"] [])
    (F_law_word : Cl P w K mg base 1 "_law_word" (sp_is_word K)) : ∀ n, FnOk P w K mg base (L2.CX P w) (n + 1) f fd ["data"] (spw K n)
  | 0 => ⟨fun vs H Q E h => by obtain ⟨_, _, _, _, _, _, _, _, _, h, _⟩ := h; exact absurd h (Nat.not_lt_zero _), fun _ _ _ _ _ _ _ _ _ _ _ _ _ h => by obtain ⟨_, _, _, _, _, _, _, _, _, h, _⟩ := h; exact absurd h (Nat.not_lt_zero _)⟩
  | n + 1 => by
    have F_law_written : Cl P w K mg base (n + 1) "_law_written" (spw K n) := ⟨⟨f, fd, _, ok_law_written F T hm hb F_law_word n, hm, F.kp, hb⟩⟩
    refine F.okX sc_law_written (fun vs H Q E h => ?_) (fun cdv A outer s H vs Q E hr h => ?_)
    · obtain ⟨_, _, _, rfl, _⟩ := h
      rfl
    · obtain ⟨v, d, t, rfl, hd, hf, hw, hl, hi_, hdp, q⟩ := h
      have nd := sc_law_written.nd
      refine ⟨_, (pss_cons (ps_if (pt_val (pe_callB call_isi rfl T.b_isinstance bb_isinstance (pa_cons (pv 0) (pa_cons (pe_ty rfl T.b_tuple bb_tuple) pa_nil))))
  (pss_cons (ps_setLc (i := 1) (own := [("item", 2)]) rfl nd rfl rfl (sw_true rfl rfl rfl (by decide +kernel)) (pi_tup (pv 0)) (blkOk_by (own := [("item", 2)]) (N := N_law_written) (sc := defScope s_law_written) (by decide +kernel)) (fun _ _ _ _ _ => (pg_name (i := 2) nd rfl (.inl rfl))) (fun _ _ _ _ _ => pts_nil) (fun _ _ _ _ _ => (pcall0 F_law_written hr (by omega) rfl (pa_cons (pv 2) pa_nil))))
  (pss_one (ps_ret (pe_ifExp (pt_cmpR (op_inU hr) pe_non (pv 1) rfl) pe_non (pe_op op_addU (pe_op op_addU pe_str (pe_join pe_str (pv 1))) pe_str)))))
  pss_nil)
  (pss_cons (ps_if (pt_val (pcall F_law_word hr (by omega) rfl outX (pa_cons (pv 0) pa_nil)))
  (pss_one (ps_ret (pv 0)))
  pss_nil)
  (pss_one (ps_ret (pe_ifExp (PW.pt (pw_and (pt_val (pe_callB call_isi rfl T.b_isinstance bb_isinstance (pa_cons (pv 0) (pa_cons (pe_ty rfl T.b_int bb_int) pa_nil)))) (pw_and1 (pt_not (pt_val (pe_callB call_isi rfl T.b_isinstance bb_isinstance (pa_cons (pv 0) (pa_cons (pe_ty rfl T.b_bool bb_bool) pa_nil)))))))) (pe_callTy (call_strU rfl T.dg) rfl T.b_str bb_str (pa_cons (pv 0) pa_nil)) pe_non))))), ?_⟩
      repeat walk_at "rv"
      refine isiD hd (by decide) ?_
      repeat walk_at "rv"
      cases d with
      | tuple ds =>
        cases hd with
        | tup ht hall =>
        rename_i a xs
        obtain ⟨hxl, hat⟩ := dpAll_at hall
        have hw' : ((M53.wTs ds).map fun l => 91 :: (l ++ [93])) = some t := hw
        obtain ⟨l, hls, rfl⟩ : ∃ l, M53.wTs ds = some l ∧ 91 :: (l ++ [93]) = t := by
          cases q : M53.wTs ds with
          | none => rw [q] at hw'; cases hw'
          | some l => rw [q] at hw'; cases hw'; exact ⟨l, rfl, rfl⟩
        obtain ⟨el, hws⟩ := wTs_all hls
        have hne : ∀ t ∈ ds.map wtx, t ≠ [] := fun t m => by
          obtain ⟨d, m', rfl⟩ := List.mem_map.mp m
          exact wT_ne (hws d m')
        obtain ⟨jl1, jl2⟩ := join_len hne
        have jl3 := join_sum (ds.map wtx)
        rw [List.length_map] at jl1 jl3
        rw [← el] at jl1 jl2 jl3
        simp only [List.length_cons, List.length_append, List.length_nil] at hl
        have hbig : 100000 < sizeLine := by decide
        refine Rd.yes rfl ?_
        repeat walk_at "rv"
        refine Rd.isT ht ?_
        intro D hD
        refine lc_it (walk_tup (xs := xs)) (fun i H' => H' D = some (.lst ((ds.take i).map fun d => V.str (SX.S (wtx d)))) ∧ Same H H') ⟨upd_same, same_upd (Same.refl H) hD⟩ (fun i H' _ p => same_seqT p.2 ht) (fun i x H1 H2 hi p y => ?_) (fun H1 p => ?_)
        · obtain ⟨p1, p2⟩ := p
          obtain ⟨rfl, hx⟩ := y
          refine ⟨Rd.wipe1, Rd.yesT (Rd.yes rfl ?_)⟩
          obtain ⟨e, he, hpe⟩ := hat i x hx
          repeat walk_at "rv"
          have hdep := deps_at he
          have hde : dep (.tuple ds) = deps ds + 1 := by simp only [dep]
          have hmem := List.mem_of_getElem? he
          refine ⟨x, e, wtx e, rfl, dp_same p2 _ _ hpe, flats_at he hf, hws e hmem, ?_, okIs_at he hi_, by omega, fun H3 s3 => ?_⟩
          · have := jl2 (wtx e) (List.mem_map_of_mem hmem)
            omega
          · refine ⟨_, s3 _ _ p1, ?_, ?_, ?_⟩
            · rw [List.length_map, List.length_take]
              omega
            · rw [upd_same, List.take_add_one, he]
              simp
            · exact same_upd (p2.trans s3) hD
        · obtain ⟨p1, p2⟩ := p
          rw [hxl, List.take_length] at p1
          have p1' : H1 D = some (.lst ((ds.map wtx).map fun t => V.str (SX.S t))) := by rw [p1, List.map_map]; rfl
          repeat walk_at "rv"
          refine in_d (d := .none) (ds := (ds.map wtx).map fun t => .str (SX.S t)) .non (.lst (.inl (.inl p1')) (dp_strs _)) rfl (shaped_strs fun t m => ?_) ?_
          · obtain ⟨e, m', rfl⟩ := List.mem_map.mp m
            exact wT_codes (hws e m')
          rw [any_none]
          repeat walk_at "rv"
          refine Rd.no rfl ?_
          repeat walk_at "rv"
          refine ⟨⟨_, rfl⟩, ?_⟩
          repeat walk_at "rv"
          have p1'' : H1 D = some (.lst (((ds.map wtx).map SX.S).map V.str)) := by rw [p1']; simp only [List.map_map]; rfl
          refine Rd.joinP (.inl (.inl p1'')) ?_ ?_
          · have e1 : (((ds.map wtx).map SX.S).map fun x => x.length) = (ds.map wtx).map List.length := by
              rw [List.map_map]
              exact List.map_congr_left fun t _ => SX.S_len t
            rw [e1, List.length_map, List.length_map]
            show _ + ds.length * 1 ≤ _
            omega
          have e44 : (Str.ofString ",") = SX.S [44] := rfl
          rw [e44, SX.join_S, ← el]
          have e91 : (Str.ofString "[") = SX.S [91] := rfl
          have e93 : (Str.ofString "]") = SX.S [93] := rfl
          rw [e91]
          refine add_s (by rw [SX.S_len, SX.S_len]; simp only [List.length_singleton]; omega) ?_
          repeat walk_at "rv"
          rw [SX.S_cat, e93]
          refine add_s (by rw [SX.S_len, SX.S_len]; simp only [List.length_append, List.length_singleton]; omega) ?_
          rw [SX.S_cat]
          exact q H1 p2
      | str s =>
        refine Rd.no rfl ?_
        repeat walk_at "rv"
        have hw' : (if M53.wordL (TL.tl s) then some (TL.tl s) else none) = some t := hw
        by_cases hwd : M53.wordL (TL.tl s) = true
        · rw [if_pos hwd] at hw'
          cases hw'
          cases hd
          refine ⟨_, .str s, rfl, .str s, fun s' e => ?_, fun H1 s1 => ?_⟩
          · cases e
            rw [TL.len_tl]
            exact Nat.le_trans hl (by decide)
          repeat walk_at "rv"
          refine Rd.yes hwd ?_
          repeat walk_at "rv"
          have := q H1 s1
          rw [show SX.S (TL.tl s) = s from TL.mk_tl s] at this
          exact this
        · rw [if_neg hwd] at hw'
          cases hw'
      | int z =>
        refine Rd.no rfl ?_
        repeat walk_at "rv"
        have hw' : some (M53.intL z) = some t := hw
        cases hw'
        refine ⟨_, .int z, rfl, hd, (fun s' e => by cases e), fun H1 s1 => ?_⟩
        repeat walk_at "rv"
        refine Rd.no rfl ?_
        repeat walk_at "rv"
        refine isiD (dp_same s1 _ _ hd) (by decide) ?_
        repeat walk_at "rv"
        refine Rd.yes rfl ?_
        repeat walk_at "rv"
        refine isiD (dp_same s1 _ _ hd) (by decide) ?_
        repeat walk_at "rv"
        refine Rd.nyes rfl ?_
        repeat walk_at "rv"
        cases hd
        have hB : (M53.intL z).length ≤ 4000 := of_decide_eq_true hi_
        refine str_i (int_lt hB) ?_
        rw [strInt]
        exact q H1 s1
      | _ => cases hf
end
end K53

namespace K53
open PySem L2 Ux
open C8 (pe_gc)
local macro_rules | `(tactic| walk_at "rd") => `(tactic| with_reducible first
  | refine Rd.c ?_ | refine Rd.cb ?_ | refine Rd.cons ?_ | refine Rd.nil ?_ | refine Rd.op ?_ | refine Rd.un ?_ | refine Rd.test ?_ | refine Rd.tb_ ?_ | refine Rd.isb ?_ | refine Rd.and ?_ | refine Rd.or ?_ | refine Rd.not ?_
  | refine Rd.andV ?_ | refine Rd.orV ?_ | refine Rd.notV ?_ | refine Rd.ifx ?_ | refine Rd.tup ?_ | refine Rd.lst ?_ | refine Rd.bm ?_ | refine Rd.bm0 ?_ | refine Rd.m1 ?_ | refine Rd.call ?_ | refine Rd.callS ?_ | refine Rd.slice ?_ | refine Rd.nopart ?_ | refine Rd.part ?_ | refine Rd.isi ?_
  | refine Rd.i0 ?_ | refine Rd.iu ?_ | refine Ux.add_i ?_ | refine Ux.eq_i ?_ | refine Ux.ne_i ?_ | refine Ux.eq_s ?_ | refine Ux.ne_s ?_ | refine Ux.le_i ?_ | refine Ux.le_s ?_ | refine Ux.ge_i ?_ | refine Ux.int_i ?_ | refine Ux.in_c ?_ | refine Ux.nin_c ?_ | refine Rd.abs_ ?_ | refine Rd.lc ?_ | refine Rd.iStr ?_ | refine Rd.iss ?_ | refine Rd.iList ?_ | refine Rd.for_ ?_ | refine Rd.gs ?_ | refine Rd.iTup ?_ | refine Rd.asgG ?_ | refine Rd.fld ?_ | refine Rd.sfld ?_ | refine Rd.meth ?_ | refine Rd.gn ?_ | refine Rd.rng1 ?_ | refine Rd.rng2 ?_ | refine Rd.rng3 ?_ | refine Rd.enumS ?_ | refine Rd.enumSn ?_
  | refine Rd.seq ?_ | refine Rd.next ?_ | refine Rd.brk ?_ | refine Rd.cont ?_ | refine Rd.drop ?_ | refine Rd.ret ?_ | refine Rd.retN ?_ | refine Rd.ifs ?_ | refine Rd.asg ?_ | refine Rd.par ?_ | refine Rd.is2 ?_)
local macro_rules | `(tactic| walk_at "rv") => `(tactic| first
  | ((with_reducible refine' Rd.var ?zvar ?_); (case zvar => rfl)) | walk_at "rd" | (with_reducible refine Rd.chain ?_))
local macro_rules | `(tactic| walk_at "rw") => `(tactic| first
  | ((with_reducible refine' Rd.var ?zvar ?_); (case zvar => rfl)) | walk_at "rd")

/-! ### _law_data -/
def atomOk : PyData → Prop
  | .str s => M53.wordL (TL.tl s) = true
  | .int z => (M53.intL z).length ≤ 41
  | _ => False
def gen : Nat → PyData → Prop
  | 0, d => atomOk d
  | n + 1, d => match d with
    | .tuple ds => ds.length ≤ 3 ∧ ∀ e ∈ ds, gen n e
    | d => atomOk d
theorem gen_atom {d : PyData} (h : atomOk d) : ∀ n, gen n d
  | 0 => h
  | n + 1 => by
    cases d with
    | tuple ds => exact h.elim
    | _ => exact h
theorem flats_of : ∀ {ds : List PyData}, (∀ d ∈ ds, flat d = true) → flats ds = true
  | [], _ => rfl
  | d :: r, h => by
    show (flat d && flats r) = true
    rw [h d List.mem_cons_self, flats_of fun e m => h e (List.mem_cons_of_mem _ m)]
    rfl
theorem gen_flat : ∀ {n : Nat} {d : PyData}, gen n d → flat d = true
  | 0, d, h => by cases d <;> first | rfl | exact h.elim
  | n + 1, d, h => by
    cases d with
    | tuple ds => exact flats_of fun e m => gen_flat (h.2 e m)
    | str s => rfl
    | int z => rfl
    | _ => exact h.elim
theorem SameBut.keepT {r : Addr} {H H' : Hp} {xs : List V} (h : H r = some (.lst xs)) (e : SameBut r H H') : KeepT H H' := fun p u hp m => e p u (fun q => by subst q; rw [h] at hp; cases hp; cases m) hp
def spd (K : PySem.W.Frag) (n : Nat) : Sp := fun vs H Q _ => ∃ (r lc : Addr) (cs : List Int) (m : Nat), vs = [.ref r, .int (m : Int)] ∧ m < n ∧ DrS lc cs H r ∧ ∀ v d H', gen m d → Dp K H' v d → DrS lc cs H' r → SameBut r H H' → Q v H'
section
variable {P : Program} {w : World} {K : PySem.W.Frag} {mg : Str → Option Value} {base : Heap} {M C : Addr}
abbrev s_law_data : Stmt := topS 21
abbrev N_law_data : List Str := ["draw", "deep", "k", "turn"]
theorem sc_law_data : FnScope N_law_data ["draw", "deep"] (defScope s_law_data) := ⟨rfl, rfl, rfl, by decide +kernel, rfl, by decide +kernel, by decide +kernel⟩
theorem ok_law_data {f : Addr} {fd : FuncData} (F : Fun K "_law_data" "_law_data" s_law_data f fd) (T : Txt K mg M) (hm : mg "_law_data" = some (.ref f)) (hb : Binds K fd ["draw", "deep"] [])
    (F_law_take : Cl P w K mg base 1 "_law_take" sp_lawtake) : ∀ n, FnOk P w K mg base (L2.CX P w) (n + 1) f fd ["draw", "deep"] (spd K n)
  | 0 => ⟨fun vs H Q E h => by obtain ⟨_, _, _, _, _, h, _⟩ := h; exact absurd h (Nat.not_lt_zero _), fun _ _ _ _ _ _ _ _ _ _ _ _ _ h => by obtain ⟨_, _, _, _, _, h, _⟩ := h; exact absurd h (Nat.not_lt_zero _)⟩
  | n + 1 => by
    have F_law_data : Cl P w K mg base (n + 1) "_law_data" (spd K n) := ⟨⟨f, fd, _, ok_law_data F T hm hb F_law_take n, hm, F.kp, hb⟩⟩
    refine F.okX sc_law_data (fun vs H Q E h => ?_) (fun cdv A outer s H vs Q E hr h => ?_)
    · obtain ⟨_, _, _, _, rfl, _⟩ := h
      rfl
    · obtain ⟨r, lc, cs, m, rfl, hmn, hd, q⟩ := h
      have nd := sc_law_data.nd
      refine ⟨_, (pss_cons (ps_set (i := 2) nd rfl (.inl rfl) (pcall F_law_take hr (by omega) rfl outX (pa_cons (pv 0) (pa_cons pe_int pa_nil))))
  (pss_cons (ps_if (PW.pt (pw_and (pt_cmpR op_gt (pv 1) pe_int (nomark _)) (pw_and1 (pt_cmpR op_lt (pv 2) pe_int (nomark _)))))
  (pss_one (ps_ret (pe_callTy call_tupOf rfl T.b_tuple bb_tuple (pa_cons (pe_lc (own := [("turn", 3)]) rfl nd (pi_range1 rfl T.b_range (pa_cons (pcall F_law_take hr (by omega) rfl outX (pa_cons (pv 0) (pa_cons pe_int pa_nil))) pa_nil)) (blkOk_by (own := [("turn", 3)]) (N := N_law_data) (sc := defScope s_law_data) (by decide +kernel)) (fun _ _ _ _ _ => (pg_name (i := 3) nd rfl (.inl rfl))) (fun _ _ _ _ _ => pts_nil) (fun _ _ _ _ _ => (pcall0 F_law_data hr (by omega) rfl (pa_cons (pv 0) (pa_cons (pe_op op_sub (pv 1) pe_int) pa_nil))))) pa_nil))))
  pss_nil)
  (pss_cons (ps_if (pt_cmpR (op_eqU hr.units) (pv 2) pe_int (nomark _))
  (pss_one (ps_ret (pe_ifExp (pt_cmpR op_gt (pcall F_law_take hr (by omega) rfl outX (pa_cons (pv 0) (pa_cons pe_int pa_nil))) pe_int (nomark _)) (pe_slice sl_U pe_str (po_some (pcall F_law_take hr (by omega) rfl outX (pa_cons (pv 0) (pa_cons pe_int pa_nil)))) po_none) pe_str)))
  pss_nil)
  (pss_one (ps_ret (pe_ix ix_seq (pe_lst (pa_cons pe_int (pa_cons (pe_un un_neg pe_int) (pa_cons pe_int (pa_cons (pe_op op_pow pe_int pe_int) (pa_cons (pe_un un_neg (pe_op op_pow pe_int pe_int)) (pa_cons pe_int pa_nil))))))) (pcall F_law_take hr (by omega) rfl outX (pa_cons (pv 0) (pa_cons pe_int pa_nil))) (fun _ _ => rfl))))))), ?_⟩
      repeat walk_at "rv"
      refine ⟨r, lc, cs, 6, rfl, hd, by decide, by decide, fun k H1 hk0 hk6 hd1 s1 => ?_⟩
      repeat walk_at "rv"
      by_cases ht : 0 < m ∧ k < 3
      · refine Rd.dyes (by omega) ?_
        repeat walk_at "rv"
        refine Rd.dyes (by omega) ?_
        repeat walk_at "rv"
        refine ⟨r, lc, cs, 4, rfl, hd1, by decide, by decide, fun c H2 hc0 hc4 hd2 s2 => ?_⟩
        refine Rd.rng1n (by omega) (by omega) ?_
        intro D hD
        obtain ⟨nr, nl⟩ := hd2.ne hD
        refine lc_it walk_range (fun i H' => ∃ vs ds, H' D = some (.lst vs) ∧ vs.length = i ∧ DpAll K H' vs ds ∧ (∀ d ∈ ds, gen (m - 1) d) ∧ DrS lc cs H' r ∧ SameBut r H2 H') ⟨[], [], upd_same, rfl, .nil, (fun d m => by cases m), hd2.upd nr nl, .of (same_upd (Same.refl _) hD)⟩ (fun _ _ _ _ => trivial) (fun i x H3 H4 hi p y => ?_) (fun H3 p => ?_)
        · obtain ⟨vs, ds, p1, p2, p3, p4, p5, p6⟩ := p
          obtain ⟨rfl, rfl⟩ := y
          refine ⟨Rd.wipe1, Rd.yesT (Rd.yes rfl ?_)⟩
          repeat walk_at "rv"
          refine ⟨r, lc, cs, m - 1, by rw [show ((m - 1 : Nat) : Int) = (m : Int) - 1 by omega]; rfl, by omega, p5, fun v d H5 hg hdp hd5 s5 => ?_⟩
          obtain ⟨gs, g3⟩ := p5.at_r
          have k5 := s5.keepT g3
          have fl : flats ds = true := flats_of fun e m => gen_flat (p4 e m)
          have e5 := s5 D _ (Ne.symm nr) p1
          have k6 : KeepT H5 (upd H5 D (.lst (vs ++ [v]))) := .upd_mut e5 rfl
          refine ⟨vs, e5, by rw [p2]; have : (4 : Nat) < sizeLine := by decide
                             omega, vs ++ [v], ds ++ [d], upd_same, by rw [List.length_append, p2]; rfl, dpAll_snoc (dp_keep k6 _ _ (gen_flat hg) hdp) (dpAll_keep k6 _ _ fl (dpAll_keep k5 _ _ fl p3)), fun e m => ?_, hd5.upd nr nl, ?_⟩
          · rcases List.mem_append.mp m with m | m
            · exact p4 e m
            · rw [List.mem_singleton.mp m]; exact hg
          · intro b o hb e
            rw [upd_ne fun q => ?_]
            · exact s5 b o hb (p6 b o hb e)
            · rw [q, hD] at e
              cases e
        · obtain ⟨vs, ds, p1, p2, p3, p4, p5, p6⟩ := p
          repeat walk_at "rv"
          refine Rd.tupL (.inl (.inl p1)) fun l hl => ?_
          obtain ⟨n1, n2⟩ := p5.ne hl
          have fl : flats ds = true := flats_of fun e m => gen_flat (p4 e m)
          have hml : vs.length = ds.length := (dpAll_at p3).1
          refine q _ (.tuple ds) _ ?_ (.tup (.inl (.inl upd_same)) (dpAll_keep (.upd_new hl) _ _ fl p3)) (p5.upd n1 n2) ((s1.trans s2).trans (p6.trans (.of (same_upd (Same.refl _) hl))))
          obtain ⟨m', rfl⟩ : ∃ m', m = m' + 1 := ⟨m - 1, by omega⟩
          exact ⟨by omega, p4⟩
      · refine Rd.both (fun hm0 z => ?_) ?_
        · have hm1 := of_decide_eq_true hm0
          repeat walk_at "rv"
          exact Rd.dno (fun hk => ht ⟨by omega, hk⟩) (Rd.ff z)
        refine Rd.no rfl ?_
        repeat walk_at "rv"
        by_cases hk3 : k = 3
        · refine Rd.dyes hk3 ?_
          repeat walk_at "rv"
          refine ⟨r, lc, cs, 4, rfl, hd1, by decide, by decide, fun c H2 hc0 hc4 hd2 s2 => ?_⟩
          repeat walk_at "rv"
          by_cases hc : 0 < c
          · refine Rd.dyes hc ?_
            repeat walk_at "rv"
            refine ⟨r, lc, cs, 3, rfl, hd2, by decide, by decide, fun j H3 hj0 hj3 hd3 s3 => ?_⟩
            repeat walk_at "rv"
            refine cut_s (by decide +kernel) ?_
            obtain ⟨i, rfl⟩ : ∃ i : Nat, j = (i : Int) := ⟨j.toNat, by omega⟩
            have ew : Str.ofString "abz9" = SX.S [97, 98, 122, 57] := by decide +kernel
            rw [ew, Rd.cut_from]
            refine q _ (.str _) H3 (gen_atom ?_ m) (.str _) hd3 ((s1.trans s2).trans s3)
            show M53.wordL ([97, 98, 122, 57].drop i) = true
            have : i = 0 ∨ i = 1 ∨ i = 2 := by omega
            rcases this with rfl | rfl | rfl <;> rfl
          · refine Rd.dno hc ?_
            repeat walk_at "rv"
            exact q _ (.str "a23456789012") H2 (gen_atom (d := .str "a23456789012") (show M53.wordL (TL.tl "a23456789012") = true by decide +kernel) m) (.str _) hd2 (s1.trans s2)
        · refine Rd.dno hk3 ?_
          repeat walk_at "rv"
          refine Rd.i1 ⟨by decide, by decide, by decide⟩ ?_
          repeat walk_at "rv"
          refine Rd.i1 ⟨by decide, by decide, by decide⟩ ?_
          repeat walk_at "rv"
          refine ⟨(by decide : 6 ≤ sizeLine), fun la hla => ?_⟩
          repeat walk_at "rv"
          obtain ⟨n1, n2⟩ := hd1.ne hla
          refine ⟨r, lc, cs, 6, rfl, hd1.upd n1 n2, by decide, by decide, fun j H2 hj0 hj6 hd2 s2 => ?_⟩
          obtain ⟨i, rfl⟩ : ∃ i : Nat, j = (i : Int) := ⟨j.toNat, by omega⟩
          have hla2 := s2 la _ (Ne.symm n1) upd_same
          have s12 : SameBut r H H2 := s1.trans ((SameBut.of (same_upd (Same.refl _) hla)).trans s2)
          have fin : ∀ z : Int, (M53.intL z).length ≤ 41 → Q (.int z) H2 := fun z hz => q _ (.int z) H2 (gen_atom (d := .int z) hz m) (.int z) hd2 s12
          have : i = 0 ∨ i = 1 ∨ i = 2 ∨ i = 3 ∨ i = 4 ∨ i = 5 := by omega
          rcases this with rfl | rfl | rfl | rfl | rfl | rfl
          · exact Rd.ixL (.inl (.inl hla2)) (atI_nat (j := 0) rfl) (fin _ (by decide +kernel))
          · exact Rd.ixL (.inl (.inl hla2)) (atI_nat (j := 1) rfl) (fin _ (by decide +kernel))
          · exact Rd.ixL (.inl (.inl hla2)) (atI_nat (j := 2) rfl) (fin _ (by decide +kernel))
          · exact Rd.ixL (.inl (.inl hla2)) (atI_nat (j := 3) rfl) (fin _ (by decide +kernel))
          · exact Rd.ixL (.inl (.inl hla2)) (atI_nat (j := 4) rfl) (fin _ (by decide +kernel))
          · exact Rd.ixL (.inl (.inl hla2)) (atI_nat (j := 5) rfl) (fin _ (by decide +kernel))
end
end K53

namespace K53
open PySem L2 Ux
open C8 (pe_gc)
local macro_rules | `(tactic| walk_at "rd") => `(tactic| with_reducible first
  | refine Rd.c ?_ | refine Rd.cb ?_ | refine Rd.cons ?_ | refine Rd.nil ?_ | refine Rd.op ?_ | refine Rd.un ?_ | refine Rd.test ?_ | refine Rd.tb_ ?_ | refine Rd.isb ?_ | refine Rd.and ?_ | refine Rd.or ?_ | refine Rd.not ?_
  | refine Rd.andV ?_ | refine Rd.orV ?_ | refine Rd.notV ?_ | refine Rd.ifx ?_ | refine Rd.tup ?_ | refine Rd.lst ?_ | refine Rd.bm ?_ | refine Rd.bm0 ?_ | refine Rd.m1 ?_ | refine Rd.call ?_ | refine Rd.callS ?_ | refine Rd.slice ?_ | refine Rd.nopart ?_ | refine Rd.part ?_ | refine Rd.isi ?_
  | refine Rd.i0 ?_ | refine Rd.iu ?_ | refine Ux.add_i ?_ | refine Ux.eq_i ?_ | refine Ux.ne_i ?_ | refine Ux.eq_s ?_ | refine Ux.ne_s ?_ | refine Ux.le_i ?_ | refine Ux.le_s ?_ | refine Ux.ge_i ?_ | refine Ux.int_i ?_ | refine Ux.in_c ?_ | refine Ux.nin_c ?_ | refine Rd.abs_ ?_ | refine Rd.lc ?_ | refine Rd.iStr ?_ | refine Rd.iss ?_ | refine Rd.iList ?_ | refine Rd.for_ ?_ | refine Rd.gs ?_ | refine Rd.par3 ?_ | refine Rd.is3 ?_ | refine Rd.iTup ?_ | refine Rd.asgG ?_ | refine Rd.fld ?_ | refine Rd.sfld ?_ | refine Rd.meth ?_ | refine Rd.gn ?_ | refine Rd.rng1 ?_ | refine Rd.rng2 ?_ | refine Rd.rng3 ?_ | refine Rd.enumS ?_ | refine Rd.enumSn ?_
  | refine Rd.seq ?_ | refine Rd.next ?_ | refine Rd.brk ?_ | refine Rd.cont ?_ | refine Rd.drop ?_ | refine Rd.ret ?_ | refine Rd.retN ?_ | refine Rd.ifs ?_ | refine Rd.asg ?_ | refine Rd.par ?_ | refine Rd.is2 ?_)
local macro_rules | `(tactic| walk_at "rv") => `(tactic| first
  | ((with_reducible refine' Rd.var ?zvar ?_); (case zvar => rfl)) | walk_at "rd" | (with_reducible refine Rd.chain ?_))
local macro_rules | `(tactic| walk_at "rw") => `(tactic| first
  | ((with_reducible refine' Rd.var ?zvar ?_); (case zvar => rfl)) | walk_at "rd")

/-! ### _law_read -/
def dl (c : Nat) : Bool := M53.isDel c || c == 59
def rb (B : Nat) : Nat → List Nat → Bool
  | c, [] => decide (c ≤ B)
  | c, x :: r => decide (c ≤ B) && rb B (if dl x then 0 else c + 1) r
theorem rb_head {B c : Nat} {l : List Nat} (h : rb B c l = true) : c ≤ B := by
  cases l with
  | nil => exact of_decide_eq_true h
  | cons x r =>
    have h' : (decide (c ≤ B) && rb B (if dl x then 0 else c + 1) r) = true := h
    exact of_decide_eq_true (Bool.and_eq_true_iff.mp h').1
theorem rb_tail {B c x : Nat} {r : List Nat} (h : rb B c (x :: r) = true) : rb B (if dl x then 0 else c + 1) r = true := by
  have h' : (decide (c ≤ B) && rb B (if dl x then 0 else c + 1) r) = true := h
  exact (Bool.and_eq_true_iff.mp h').2
theorem run59 (l : List Nat) (s : M53.LS) : M53.runL s (l ++ [59]) = (M53.runL s l).bind M53.flushL := by
  rw [M53.runL_append]
  congr 1
  funext s'
  show (M53.stepL s' 59).bind (fun s'' => some s'') = _
  have e : M53.stepL s' 59 = (M53.flushL s').bind (M53.actL 59) := rfl
  rw [e]
  cases M53.flushL s' with
  | none => rfl
  | some t => rfl
theorem lawRead_eq (l : List Nat) : M53.lawRead l = if 59 ∈ l then none else (M53.runL ⟨[], none, []⟩ (l ++ [59])).bind M53.endL := by
  rw [run59]
  rfl
theorem runL_step {s0 s : M53.LS} {L : List Nat} {i c : Nat} (hc : L[i]? = some c) (h : M53.runL s0 (L.take i) = some s) : M53.runL s0 (L.take (i + 1)) = M53.stepL s c := by
  rw [List.take_add_one, hc]
  show M53.runL s0 (L.take i ++ [c]) = _
  rw [M53.runL_append, h]
  show (M53.stepL s c).bind (fun s' => some s') = _
  cases M53.stepL s c <;> rfl
theorem runL_fail {s : M53.LS} {L : List Nat} {i : Nat} (h : M53.runL s (L.take i) = none) : M53.runL s L = none := by
  rw [← List.take_append_drop i L, M53.runL_append, h]
  rfl
def bigL (s : M53.LS) : Nat := (s.rows.map fun r => r.length + 1).sum
/-- where the law's reader stands -/
structure LR (K : PySem.W.Frag) (H0 H : Hp) (lr : Addr) (ps : List Addr) (rows : List (List PyData)) (done : Option PyData) (vd : Option V) : Prop where
  ht : H lr = some (.lst (ps.map V.ref).reverse)
  hr : RowsA K H ps rows
  n2 : lr ∉ ps
  n4 : ps.Nodup
  sm : Same H0 H
  ft : H0 lr = none
  fp : ∀ q ∈ ps, H0 q = none
  hl : ∀ r ∈ rows, PyData.canLayAll0 r = true
  hd : ∀ d, done = some d → ∃ ld v, vd = some (.ref ld) ∧ H ld = some (.lst [v]) ∧ Dp K H v d ∧ flat d = true ∧ d.canLay0 = true ∧ ld ≠ lr ∧ ld ∉ ps
section
variable {K : PySem.W.Frag} {H0 H : Hp} {lr : Addr} {ps : List Addr} {rows : List (List PyData)} {done : Option PyData} {vd : Option V}
theorem LR.same (S : LR K H0 H lr ps rows done vd) {H' : Hp} (e : Same H H') : LR K H0 H' lr ps rows done vd := by
  have k := keepT_same e
  refine ⟨e _ _ S.ht, S.hr.keep k fun q m => by obtain ⟨ys, h⟩ := S.hr.some m; rw [h]; exact e _ _ h, S.n2, S.n4, S.sm.trans e, S.ft, S.fp, S.hl, fun d hd => ?_⟩
  obtain ⟨ld, v, h1, h2, h3, h4, h5⟩ := S.hd d hd
  exact ⟨ld, v, h1, e _ _ h2, dp_keep k _ _ h4 h3, h4, h5⟩
theorem LR.new (S : LR K H0 H lr ps rows done vd) {x : Addr} (hx : H x = none) {o : HO} : LR K H0 (upd H x o) lr ps rows done vd := S.same (same_upd (Same.refl H) hx)
/-- a new done -/
theorem LR.fin (S : LR K H0 H lr ps rows done vd) {x : Addr} (hx : H x = none) {v : V} {d : PyData} (hd : Dp K H v d) (f : flat d = true) (l : d.canLay0 = true) : LR K H0 (upd H x (.lst [v])) lr ps rows (some d) (some (.ref x)) := by
  have S1 := S.new hx (o := .lst [v])
  refine ⟨S1.ht, S1.hr, S.n2, S.n4, S1.sm, S.ft, S.fp, S.hl, fun d' e => ?_⟩
  cases e
  exact ⟨x, v, rfl, upd_same, dp_keep (.upd_new hx) _ _ f hd, f, l, Ne.symm (ne_of_none S.ht hx), fun m => by obtain ⟨ys, h⟩ := S.hr.some m; exact ne_of_none h hx rfl⟩
theorem LR.undone (S : LR K H0 H lr ps rows done vd) {vd' : Option V} : LR K H0 H lr ps rows none vd' := ⟨S.ht, S.hr, S.n2, S.n4, S.sm, S.ft, S.fp, S.hl, fun d e => by cases e⟩
theorem LR.push (S : LR K H0 H lr ps rows none vd) {q : Addr} (hq : H q = none) : upd H q (.lst []) lr = some (.lst (ps.map V.ref).reverse) ∧ LR K H0 (upd (upd H q (.lst [])) lr (.lst ((ps.map V.ref).reverse ++ [.ref q]))) lr (q :: ps) ([] :: rows) none vd := by
  have S1 := S.new hq (o := .lst [])
  have k : KeepT (upd H q (.lst [])) (upd (upd H q (.lst [])) lr (.lst ((ps.map V.ref).reverse ++ [.ref q]))) := .upd_mut S1.ht rfl
  have q0 : ∀ {x u}, H x = some u → x ≠ q := fun h => ne_of_none h hq
  refine ⟨S1.ht, by rw [upd_same, List.map_cons, List.reverse_cons], .cons ⟨[], by rw [upd_ne (Ne.symm (q0 S.ht)), upd_same], .nil, rfl⟩ (S1.hr.keep k fun x m => upd_ne (ne_mem m S.n2)), ?_, ?_, same_upd S1.sm S.ft, S.ft, ?_, ?_, fun d e => by cases e⟩
  · intro m
    rcases List.mem_cons.mp m with e | m
    · exact q0 S.ht e
    · exact S.n2 m
  · refine List.nodup_cons.mpr ⟨fun m => ?_, S.n4⟩
    obtain ⟨ys, h⟩ := S.hr.some m
    exact q0 h rfl
  · intro x m
    rcases List.mem_cons.mp m with e | m
    · rw [e]; exact S.sm.free hq
    · exact S.fp x m
  · intro r m
    rcases List.mem_cons.mp m with e | m
    · rw [e]; rfl
    · exact S.hl r m
theorem lay_snoc {d : PyData} (h : d.canLay0 = true) : ∀ {ds : List PyData}, PyData.canLayAll0 ds = true → PyData.canLayAll0 (ds ++ [d]) = true
  | [], _ => by show (d.canLay0 && true) = true; rw [h]; rfl
  | e :: ds, f => by
    have f' : (e.canLay0 && PyData.canLayAll0 ds) = true := f
    rw [Bool.and_eq_true] at f'
    show (e.canLay0 && PyData.canLayAll0 (ds ++ [d])) = true
    rw [f'.1, lay_snoc h f'.2]
    rfl
/-- the top row gets what is done -/
theorem LR.row {q : Addr} {r : List PyData} {rs : List (List PyData)} (S : LR K H0 H lr (q :: ps) (r :: rs) done vd) {xs : List V} (hx : H q = some (.lst xs)) {v : V} {d : PyData} (hd : Dp K H v d) (f : flat d = true) (l : d.canLay0 = true) {vd' : Option V} :
    LR K H0 (upd H q (.lst (xs ++ [v]))) lr (q :: ps) ((r ++ [d]) :: rs) none vd' := by
  have k : KeepT H (upd H q (.lst (xs ++ [v]))) := .upd_mut hx rfl
  have n4 := List.nodup_cons.mp S.n4
  have q1 : lr ≠ q := fun e => S.n2 (by rw [e]; exact List.mem_cons_self)
  have hr := S.hr
  cases hr with
  | cons h1 h2 =>
    obtain ⟨ys, e1, e2, e3⟩ := h1
    rw [hx] at e1
    cases e1
    refine ⟨by rw [upd_ne q1]; exact S.ht, .cons ⟨_, upd_same, dpAll_snoc (dp_keep k _ _ f hd) (dpAll_keep k _ _ e3 e2), flats_snoc f e3⟩ (h2.keep k fun x m => upd_ne (ne_mem m n4.1)), S.n2, S.n4, same_upd S.sm (S.fp q List.mem_cons_self), S.ft, S.fp, ?_, fun d e => by cases e⟩
    intro r' m
    rcases List.mem_cons.mp m with e | m
    · rw [e]; exact lay_snoc l (S.hl r List.mem_cons_self)
    · exact S.hl r' (List.mem_cons_of_mem _ m)
/-- the top row goes -/
theorem LR.pop {q : Addr} {r : List PyData} {rs : List (List PyData)} (S : LR K H0 H lr (q :: ps) (r :: rs) done vd) :
    H lr = some (.lst ((ps.map V.ref).reverse ++ [.ref q])) ∧ LR K H0 (upd H lr (.lst (ps.map V.ref).reverse)) lr ps rs done vd ∧ RowOk K (upd H lr (.lst (ps.map V.ref).reverse)) q r ∧ PyData.canLayAll0 r = true := by
  have k : KeepT H (upd H lr (.lst (ps.map V.ref).reverse)) := .upd_mut S.ht rfl
  have n4 := List.nodup_cons.mp S.n4
  have q1 : q ≠ lr := fun e => S.n2 (by rw [e]; exact List.mem_cons_self)
  have hr := S.hr
  cases hr with
  | cons h1 h2 =>
    refine ⟨by rw [S.ht, List.map_cons, List.reverse_cons], ⟨upd_same, h2.keep k fun x m => upd_ne (ne_mem (List.mem_cons_of_mem _ m) S.n2), fun m => S.n2 (List.mem_cons_of_mem _ m), n4.2, same_upd S.sm S.ft, S.ft, fun x m => S.fp x (List.mem_cons_of_mem _ m), fun r m => S.hl r (List.mem_cons_of_mem _ m), fun d e => ?_⟩, h1.keep k (upd_ne q1), S.hl r List.mem_cons_self⟩
    obtain ⟨ld, v, a1, a2, a3, a4, a5, a6, a7⟩ := S.hd d e
    exact ⟨ld, v, a1, by rw [upd_ne a6]; exact a2, dp_keep k _ _ a4 a3, a4, a5, a6, fun m => a7 (List.mem_cons_of_mem _ m)⟩
/-- the rows as data -/
theorem rows_dp : ∀ {ps : List Addr} {rs : List (List PyData)}, RowsA K H ps rs → DpAll K H (ps.map V.ref).reverse (rs.map PyData.list).reverse
  | _, _, .nil => .nil
  | _, _, .cons (q := q) (r := r) a b => by
    obtain ⟨xs, h1, h2, _⟩ := a
    rw [List.map_cons, List.reverse_cons, List.map_cons, List.reverse_cons]
    exact dpAll_snoc (.lst (.inl (.inl h1)) h2) (rows_dp b)
theorem lay_list : ∀ {rs : List (List PyData)}, (∀ r ∈ rs, PyData.canLayAll0 r = true) → PyData.canLayAll0 (rs.map PyData.list).reverse = true
  | [], _ => rfl
  | r :: rs, h => by
    rw [List.map_cons, List.reverse_cons]
    exact lay_snoc (d := .list r) (h r List.mem_cons_self) (lay_list fun x m => h x (List.mem_cons_of_mem _ m))
theorem eqv_nil (ds : List PyData) : PyData.eqv (.list ds) (.list []) = ds.isEmpty := by
  cases ds with
  | nil => rfl
  | cons _ _ => rfl
end
section
variable {P : Program} {w : World} {K : PySem.W.Frag} {mg : Str → Option Value} {base : Heap} {M C : Addr}
abbrev s_law_read : Stmt := topS 25
abbrev N_law_read : List Str := ["text", "rows", "done", "token", "ahead", "sign", "atom", "row"]
theorem sc_law_read : FnScope N_law_read ["text"] (defScope s_law_read) := ⟨rfl, rfl, rfl, by decide +kernel, rfl, by decide +kernel, by decide +kernel⟩
def sp_law_read (K : PySem.W.Frag) : Sp := fun vs H Q _ => ∃ l, vs = [.str (SX.S l)] ∧ l.length ≤ 100000 ∧ rb 4000 0 (l ++ [59]) = true ∧ (M53.lawRead l = none → ∀ H', Same H H' → Q .non H') ∧
  ∀ d, M53.lawRead l = some d → ∀ p v H', Same H H' → H' p = some (.lst [v]) → Dp K H' v d → flat d = true → Q (.ref p) H'
theorem len_big : ∀ (rows : List (List PyData)) {d t}, rows.length ≤ bigL ⟨rows, d, t⟩
  | [], _, _ => Nat.le_refl _
  | r :: rs, d, t => by
    have := len_big rs (d := d) (t := t)
    simp only [bigL] at this ⊢
    simp at this ⊢
    omega
theorem dl_mem (c : Nat) : decide (c ∈ ("[],;" : Str).cps.toList) = dl c := by
  have e : ("[],;" : Str).cps.toList = [91, 93, 44, 59] := by decide +kernel
  rw [e]
  unfold dl M53.isDel
  by_cases h1 : c = 91 <;> by_cases h2 : c = 93 <;> by_cases h3 : c = 44 <;> by_cases h4 : c = 59 <;> simp [h1, h2, h3, h4]
def vS (l : List Nat) (lr : Addr) (vd : Option V) (s : M53.LS) (x5 x6 x7 : Option V) : L2.St := [some (.str (SX.S l)), some (.ref lr), vd, some (.str (SX.S s.tok)), some (.bl s.done.isNone), x5, x6, x7]
theorem ok_law_read {f : Addr} {fd : FuncData} (F : Fun K "_law_read" "_law_read" s_law_read f fd) (T : Txt K mg M) (F_law_word : Cl P w K mg base 1 "_law_word" (sp_is_word K)) (F_law_number : Cl P w K mg base 1 "_law_number" sp_law_number) :
    FnOk P w K mg base (L2.CX P w) 2 f fd ["text"] (sp_law_read K) := by
  refine F.okX sc_law_read (fun vs H Q E h => ?_) (fun cdv A outer s H vs Q E hr h => ?_)
  · obtain ⟨l, rfl, _⟩ := h
    rfl
  · obtain ⟨l, rfl, hl, hrb, qn, qs⟩ := h
    have nd := sc_law_read.nd
    have hbig : 100000 + 5 < sizeLine := by decide
    refine ⟨_, (pss_cons (ps_asg (pe_tup (pa_cons (pe_lst pa_nil) (pa_cons (pe_lst pa_nil) (pa_cons pe_str (pa_cons pe_bl pa_nil))))) (pg_tup rfl (pgs_cons (pg_name (i := 1) nd rfl (.inl rfl)) (pgs_cons (pg_name (i := 2) nd rfl (.inl rfl)) (pgs_cons (pg_name (i := 3) nd rfl (.inl rfl)) (pgs_cons (pg_name (i := 4) nd rfl (.inl rfl)) pgs_nil))))))
  (pss_cons (ps_for (passes_of rfl) rfl (pi_str (pe_op op_addU (pv 0) pe_str)) (pg_name (i := 5) nd rfl (.inl rfl))
  (pss_one (ps_if (pt_cmpR (op_inU hr) (pv 5) pe_str rfl)
  (pss_cons (ps_if (pt_cmpR (op_neU hr.units) (pv 3) pe_str (nomark _))
  (pss_cons (ps_set (i := 6) nd rfl (.inl rfl) (pe_ifExp (pt_val (pcall F_law_word hr (by decide) rfl outX (pa_cons (pv 3) pa_nil))) (pv 3) (pcall F_law_number hr (by decide) rfl outX (pa_cons (pv 3) pa_nil))))
  (pss_cons (ps_if (PW.pt (pw_or (pt_cmpR op_isN (pv 6) pe_non (nomark _)) (pw_or1 (pt_not (pt_val (pv 4))))))
  (pss_one (ps_ret pe_non))
  pss_nil)
  (pss_one (ps_par3 (i := 2) (j := 4) (l := 3) rfl nd rfl rfl rfl (by decide) (by decide) (by decide) rfl rfl rfl (pa_cons (pe_lst (pa_cons (pv 6) pa_nil)) (pa_cons pe_bl (pa_cons pe_str pa_nil))) (by rfl)))))
  pss_nil)
  (pss_one (ps_if (pt_cmpR (op_eqU hr.units) (pv 5) pe_str (nomark _))
  (pss_cons (ps_if (pt_not (pt_val (pv 4)))
  (pss_one (ps_ret pe_non))
  pss_nil)
  (pss_one (ps_expr (pe_bm PySem.F.plainAttrs_list PySem.F.slot_list_append PySem.F.type_list_append mt_append (pv 1) (pa_cons (pe_lst pa_nil) pa_nil)))))
  (pss_one (ps_if (pt_cmpR (op_eqU hr.units) (pv 5) pe_str (nomark _))
  (pss_cons (ps_if (PW.pt (pw_or (pt_val (pv 4)) (pw_or1 (pt_cmpR (op_eqE hr.units) (pv 1) (pe_lst pa_nil) (nomark _)))))
  (pss_one (ps_ret pe_non))
  pss_nil)
  (pss_cons (ps_expr (pe_bm PySem.F.plainAttrs_list PySem.F.slot_list_append PySem.F.type_list_append mt_append (pe_ix ix_seq (pv 1) (pe_un un_neg pe_int) (fun _ _ => rfl)) (pa_cons (pe_ix ix_seq (pv 2) pe_int (fun _ _ => rfl)) pa_nil)))
  (pss_one (ps_set (i := 4) nd rfl (.inl rfl) pe_bl))))
  (pss_one (ps_if (pt_cmpR (op_eqU hr.units) (pv 5) pe_str (nomark _))
  (pss_cons (ps_if (PW.pt (pw_or (pt_cmpR (op_eqE hr.units) (pv 1) (pe_lst pa_nil) (nomark _)) (pw_or1 (PW.pt (pw_and (pt_val (pv 4)) (pw_and1 (pt_cmpR (op_neE hr.units) (pe_ix ix_seq (pv 1) (pe_un un_neg pe_int) (fun _ _ => rfl)) (pe_lst pa_nil) (nomark _))))))))
  (pss_one (ps_ret pe_non))
  pss_nil)
  (pss_cons (ps_set (i := 7) nd rfl (.inl rfl) (pe_bm0 PySem.F.plainAttrs_list PySem.F.slot_list_pop PySem.F.type_list_pop mt_pop (pv 1)))
  (pss_one (ps_par (i := 2) (j := 4) rfl nd rfl rfl (by decide) rfl rfl (pa_cons (pe_lst (pa_cons (pe_callTy call_tupOf rfl T.b_tuple bb_tuple (pa_cons (pe_op op_addU (pv 7) (pe_ifExp (pt_val (pv 4)) (pe_lst pa_nil) (pe_lst (pa_cons (pe_ix ix_seq (pv 2) pe_int (fun _ _ => rfl)) pa_nil)))) pa_nil)) pa_nil)) (pa_cons pe_bl pa_nil)) (by rfl)))))
  pss_nil)))))))
  (pss_one (ps_set (i := 3) nd rfl (.inl rfl) (pe_op op_addU (pv 3) (pv 5)))))))
  (pss_one (ps_ret (pe_ifExp (PW.pt (pw_and (pt_cmpR (op_eqE hr.units) (pv 1) (pe_lst pa_nil) (nomark _)) (pw_and (pt_not (pt_val (pv 4))) (pw_and1 (pt_cmpR (op_notInU hr) pe_str (pv 0) rfl))))) (pv 2) pe_non))))), ?_⟩
    repeat walk_at "rv"
    refine ⟨(by decide : 0 ≤ sizeLine), fun lr hlr => ?_⟩
    repeat walk_at "rv"
    refine ⟨(by decide : 0 ≤ sizeLine), fun ld hld => ?_⟩
    repeat walk_at "rv"
    refine ⟨(by decide : 4 ≤ sizeLine), fun tp htp => ?_⟩
    refine Rd.g4 (.inl (.inl upd_same)) ?_
    have L0 : LR K H (upd (upd (upd H lr (.lst [])) ld (.lst [])) tp (.tup [.ref lr, .ref ld, .str "", .bl true])) lr [] [] none (some (.ref ld)) := by
      have s0 : Same H (upd H lr (.lst [])) := same_upd (Same.refl H) hlr
      have S0 : LR K H (upd H lr (.lst [])) lr [] [] none (some (.ref ld)) := ⟨upd_same, .nil, List.not_mem_nil, List.nodup_nil, s0, hlr, (fun q m => by cases m), (fun r m => by cases m), fun d e => by cases e⟩
      exact (S0.new hld).new htp
    generalize upd (upd (upd H lr (.lst [])) ld (.lst [])) tp (.tup [.ref lr, .ref ld, .str "", .bl true]) = H1 at *
    clear hlr hld htp
    repeat walk_at "rv"
    have e59 : (Str.ofString ";") = SX.S [59] := rfl
    rw [e59]
    refine add_s (by rw [SX.S_len, SX.S_len, List.length_singleton]; omega) ?_
    rw [SX.S_cat]
    repeat walk_at "rv"
    have hlen : (SX.S (l ++ [59])).cps.size = l.length + 1 := by
      show (SX.S (l ++ [59])).length = _
      rw [SX.S_len, List.length_append, List.length_singleton]
    refine for_it walk_str (fun i σ H' => ∃ s ps vd x5 x6 x7, σ = vS l lr vd s x5 x6 x7 ∧ LR K H H' lr ps s.rows s.done vd ∧ M53.runL ⟨[], none, []⟩ ((l ++ [59]).take i) = some s ∧ rb 4000 s.tok.length ((l ++ [59]).drop i) = true ∧ bigL s ≤ i)
      ⟨⟨[], none, []⟩, [], some (.ref ld), none, none, none, rfl, L0, rfl, by simpa using hrb, Nat.le_refl _⟩ (fun _ _ _ _ _ => trivial) (fun i x σ H2 H3 hi p y => ?_) (fun σ H2 p => ?_)
    · obtain ⟨s, ps, vd, x5, x6, x7, rfl, S, hrun, hrb2, hbg⟩ := p
      obtain ⟨rfl, c, hc, rfl⟩ := y
      rw [hlen] at hi
      have hc' : (l ++ [59])[i]? = some c := by
        rw [← Array.getElem?_toList] at hc
        exact hc
      have hi' : i < (l ++ [59]).length := by rw [List.length_append, List.length_singleton]; omega
      have hd : (l ++ [59]).drop i = c :: (l ++ [59]).drop (i + 1) := by
        rw [List.drop_eq_getElem_cons hi']
        congr 1
        rw [List.getElem?_eq_getElem hi'] at hc'
        exact Option.some.inj hc'
      have hst := runL_step hc' hrun
      rw [hd] at hrb2
      have htk := rb_head hrb2
      have hrb3 := rb_tail hrb2
      have fail : M53.stepL s c = none → ∀ H', Same H H' → Q .non H' := fun h => qn (by
        rw [lawRead_eq, runL_fail (hst.trans h)]
        split <;> rfl)
      unfold M53.stepL at hst fail
      have edl : (M53.isDel c || c == 59) = dl c := rfl
      rw [edl] at hst fail
      repeat walk_at "rv"
      rw [dl_mem]
      cases hdl : dl c with
      | false =>
        rw [hdl] at hst hrb3
        refine Rd.no rfl ?_
        repeat walk_at "rv"
        have ec : (⟨#[c]⟩ : Str) = SX.S [c] := rfl
        rw [ec]
        refine add_s (by rw [SX.S_len, SX.S_len, List.length_singleton]; omega) ?_
        rw [SX.S_cat]
        refine ⟨⟨s.rows, s.done, s.tok ++ [c]⟩, ps, vd, _, _, _, rfl, S, hst, ?_, by simp only [bigL] at hbg ⊢; omega⟩
        rw [List.length_append]
        exact hrb3
      | true =>
        rw [hdl] at hst hrb3 fail
        refine Rd.yes rfl ?_
        rw [if_pos rfl] at hst hrb3 fail
        have ec : (⟨#[c]⟩ : Str) = SX.S [c] := rfl
        have sok : sizeLine > 100005 := by decide
        with_reducible refine Rd.seqV (N := fun σ' H' => ∃ s1 vd x6', σ' = vS l lr vd s1 (some (.str ⟨#[c]⟩)) x6' x7 ∧ LR K H H' lr ps s1.rows s1.done vd ∧ M53.flushL s = some s1) (fun σ' H' n => ?_) (fun nx hnx => ?_)
        · obtain ⟨s1, vd, x6', rfl, S, hfl⟩ := n
          obtain ⟨f1, f2⟩ := M53.flush_rows hfl
          rw [hfl] at hst fail
          have hst : M53.runL ⟨[], none, []⟩ ((l ++ [59]).take (i + 1)) = M53.actL c s1 := hst
          have fail : M53.actL c s1 = none → ∀ H', Same H H' → Q .non H' := fail
          have hbg1 : bigL s1 ≤ i := by unfold bigL at hbg ⊢; rw [f1]; exact hbg
          clear f1 hfl hbg hrb2 htk
          obtain ⟨rows, done, tok⟩ := s1
          have f2 : tok = [] := f2
          subst f2
          repeat walk_at "rv"
          have e91 : decide ((⟨#[c]⟩ : Str) = Str.ofString "[") = decide ([c] = [91]) := S_dec
          have e44 : decide ((⟨#[c]⟩ : Str) = Str.ofString ",") = decide ([c] = [44]) := S_dec
          have e93 : decide ((⟨#[c]⟩ : Str) = Str.ofString "]") = decide ([c] = [93]) := S_dec
          rw [e91]
          by_cases h91 : c = 91
          · subst h91
            refine Rd.dyes rfl ?_
            repeat walk_at "rv"
            cases done with
            | some d =>
              refine Rd.nyes rfl ?_
              exact fail rfl H' S.sm
            | none =>
              refine Rd.nno rfl ?_
              repeat walk_at "rv"
              refine Rd.app1 S.ht ?_
              repeat walk_at "rv"
              refine ⟨(by decide : 0 ≤ sizeLine), fun q hq => ?_⟩
              obtain ⟨p1, p2⟩ := S.push hq
              have hrl : ps.length = rows.length := S.hr.len
              refine ⟨_, p1, ?_, ⟨[] :: rows, none, []⟩, q :: ps, vd, _, _, _, rfl, p2, hst, hrb3, ?_⟩
              · have : rows.length ≤ bigL ⟨rows, none, []⟩ := len_big rows
                rw [List.length_reverse, List.length_map]
                omega
              · simp only [bigL] at hbg1 ⊢
                simp
                omega
          · refine Rd.dno (fun e => h91 (by cases e; rfl)) ?_
            repeat walk_at "rv"
            rw [e44]
            by_cases h44 : c = 44
            · subst h44
              refine Rd.dyes rfl ?_
              repeat walk_at "rv"
              cases done with
              | none =>
                refine Rd.yes rfl (Rd.yes rfl ?_)
                repeat walk_at "rv"
                exact fail rfl H' S.sm
              | some d =>
                refine Rd.no rfl ?_
                repeat walk_at "rv"
                refine ⟨(by decide : 0 ≤ sizeLine), fun la hla => ?_⟩
                have S2 := S.new hla (o := .lst [])
                refine ⟨_, _, .lst (.inl (.inl S2.ht)) (rows_dp S2.hr), .lst (.inl (.inl upd_same)) .nil, lay_list S.hl, rfl, by simp [PyData.depth, PyData.depthAll], ?_⟩
                rw [if_neg Bool.false_ne_true, eqv_nil]
                repeat walk_at "rv"
                cases rows with
                | nil =>
                  refine Rd.yes rfl ?_
                  repeat walk_at "rv"
                  exact fail rfl _ S2.sm
                | cons r rs =>
                  cases ps with
                  | nil => have := S.hr.len; cases this
                  | cons q ps =>
                    refine Rd.no (by simp) ?_
                    repeat walk_at "rv"
                    refine Rd.ixL (v := .ref q) (.inl (.inl S2.ht)) (by rw [List.map_cons, List.reverse_cons]; exact atI_last _ _) ?_
                    obtain ⟨ld', v, rfl, d1, d2, d3, d4, d5, d6⟩ := S2.hd d rfl
                    have hr2 := S2.hr
                    cases hr2 with
                    | cons h1 h2 =>
                      obtain ⟨xs, hx, hy⟩ := h1
                      have hxl : xs.length = r.length := (dpAll_at hy.1).1
                      refine Rd.app1 hx ?_
                      repeat walk_at "rv"
                      refine Rd.ixL (.inl (.inl d1)) (atI_nat (j := 0) rfl) ?_
                      refine ⟨xs, hx, ?_, ?_⟩
                      · simp only [bigL] at hbg1
                        simp at hbg1
                        omega
                      · repeat walk_at "rv"
                        refine ⟨⟨(r ++ [d]) :: rs, none, []⟩, q :: ps, _, _, _, _, rfl, S2.row hx d2 d3 d4, hst, hrb3, ?_⟩
                        simp only [bigL] at hbg1 ⊢
                        simp at hbg1 ⊢
                        omega
            · refine Rd.dno (fun e => h44 (by cases e; rfl)) ?_
              repeat walk_at "rv"
              rw [e93]
              by_cases h93 : c = 93
              · subst h93
                refine Rd.dyes rfl ?_
                repeat walk_at "rv"
                refine ⟨(by decide : 0 ≤ sizeLine), fun la hla => ?_⟩
                have S2 := S.new hla (o := .lst [])
                refine ⟨_, _, .lst (.inl (.inl S2.ht)) (rows_dp S2.hr), .lst (.inl (.inl upd_same)) .nil, lay_list S.hl, rfl, by simp [PyData.depth, PyData.depthAll], ?_⟩
                rw [if_neg Bool.false_ne_true, eqv_nil]
                repeat walk_at "rv"
                cases rows with
                | nil =>
                  refine Rd.yes rfl (Rd.yes rfl ?_)
                  repeat walk_at "rv"
                  exact fail rfl _ S2.sm
                | cons r rs =>
                  cases ps with
                  | nil => have := S.hr.len; cases this
                  | cons q ps =>
                    refine Rd.no (by simp) ?_
                    repeat walk_at "rv"
                    have eT : atI ((q :: ps).map V.ref).reverse (-1) = some (V.ref q) := by rw [List.map_cons, List.reverse_cons]; exact atI_last _ _
                    have hbr : r.length + 2 < sizeLine ∧ bigL ⟨rs, none, []⟩ + r.length + 1 ≤ i := by
                      simp only [bigL] at hbg1 ⊢
                      simp at hbg1 ⊢
                      omega
                    cases done with
                    | none =>
                      refine Rd.yes rfl ?_
                      repeat walk_at "rv"
                      refine Rd.ixL (.inl (.inl S2.ht)) eT ?_
                      repeat walk_at "rv"
                      refine ⟨(by decide : 0 ≤ sizeLine), fun lb hlb => ?_⟩
                      have S3 := S2.new hlb (o := .lst [])
                      have hr3 := S3.hr
                      have hrow : RowOk K (upd (upd H' la (.lst [])) lb (.lst [])) q r := by cases hr3 with | cons h1 h2 => exact h1
                      obtain ⟨xs, hx, hy, hz⟩ := hrow
                      refine ⟨.list r, .list [], .lst (.inl (.inl hx)) hy, .lst (.inl (.inl upd_same)) .nil, S.hl r List.mem_cons_self, rfl, by simp [PyData.depth, PyData.depthAll], ?_⟩
                      rw [if_pos rfl, eqv_nil]
                      repeat walk_at "rv"
                      cases r with
                      | cons e r =>
                        refine Rd.yes rfl ?_
                        repeat walk_at "rv"
                        exact fail rfl _ S3.sm
                      | nil =>
                        refine Rd.no rfl ?_
                        repeat walk_at "rv"
                        obtain ⟨e1, S4, ⟨ys, hx4, hy4, hz4⟩, hl4⟩ := S3.pop
                        refine Rd.pop1 e1 ?_
                        repeat walk_at "rv"
                        refine Rd.yes rfl ?_
                        repeat walk_at "rv"
                        refine ⟨(by decide : 0 ≤ sizeLine), fun lc hlc => ?_⟩
                        have S5 := S4.new hlc (o := .lst [])
                        have hx5 := same_upd (Same.refl _) hlc (o := .lst []) _ _ hx4
                        have hyl : ys.length = 0 := (dpAll_at hy4).1
                        have ey : ys = [] := List.eq_nil_of_length_eq_zero hyl
                        subst ey
                        refine add_l hx5 upd_same (Nat.zero_le _) fun lsum hls => ?_
                        have S6 := S5.new hls (o := .lst [])
                        repeat walk_at "rv"
                        refine Rd.tupL (xs := []) (.inl (.inl upd_same)) fun lt hlt => ?_
                        have S7 := S6.new hlt (o := .tup [])
                        repeat walk_at "rv"
                        refine ⟨(by decide : 1 ≤ sizeLine), fun ld2 hld2 => ?_⟩
                        repeat walk_at "rv"
                        refine ⟨⟨rs, some (.tuple []), []⟩, ps, _, _, _, _, rfl, S7.fin hld2 (d := .tuple []) (.tup (.inl (.inl upd_same)) .nil) rfl rfl, hst, hrb3, ?_⟩
                        have := hbr.2
                        simp only [bigL] at this ⊢
                        omega
                    | some d =>
                      refine Rd.no rfl (Rd.no rfl ?_)
                      repeat walk_at "rv"
                      obtain ⟨e1, S4, ⟨ys, hx4, hy4, hz4⟩, hl4⟩ := S2.pop
                      refine Rd.pop1 e1 ?_
                      repeat walk_at "rv"
                      refine Rd.no rfl ?_
                      repeat walk_at "rv"
                      obtain ⟨ld', v, rfl, d1, d2, d3, d4, d5, d6⟩ := S4.hd d rfl
                      repeat walk_at "rv"
                      refine Rd.ixL (.inl (.inl d1)) (atI_nat (j := 0) rfl) ?_
                      repeat walk_at "rv"
                      refine ⟨(by decide : 1 ≤ sizeLine), fun lc hlc => ?_⟩
                      have S5 := S4.new hlc (o := .lst [v])
                      have hx5 := same_upd (Same.refl _) hlc (o := .lst [v]) _ _ hx4
                      have hyl : ys.length = r.length := (dpAll_at hy4).1
                      have hb1 := hbr.1
                      refine add_l hx5 upd_same (by rw [hyl, List.length_singleton]; omega) fun lsum hls => ?_
                      have S6 := S5.new hls (o := .lst (ys ++ [v]))
                      repeat walk_at "rv"
                      refine Rd.tupL (.inl (.inl upd_same)) fun lt hlt => ?_
                      have S7 := S6.new hlt (o := .tup (ys ++ [v]))
                      repeat walk_at "rv"
                      refine ⟨(by decide : 1 ≤ sizeLine), fun ld2 hld2 => ?_⟩
                      repeat walk_at "rv"
                      have k7 : KeepT _ _ := ((KeepT.upd_new hlc (o := .lst [v])).trans (.upd_new hls (o := .lst (ys ++ [v])))).trans (.upd_new hlt (o := .tup (ys ++ [v])))
                      have hdp : Dp K _ (.ref lt) (.tuple (r ++ [d])) := .tup (.inl (.inl upd_same)) (dpAll_snoc (dp_keep k7 _ _ d3 d2) (dpAll_keep k7 _ _ hz4 hy4))
                      refine ⟨⟨rs, some (.tuple (r ++ [d])), []⟩, ps, _, _, _, _, rfl, S7.fin hld2 hdp (flats_snoc d3 hz4) (lay_snoc d4 hl4), hst, hrb3, ?_⟩
                      have := hbr.2
                      simp only [bigL] at this ⊢
                      omega
              · refine Rd.dno (fun e => h93 (by cases e; rfl)) ?_
                have ea : M53.actL c ⟨rows, done, []⟩ = some ⟨rows, done, []⟩ := by
                  unfold M53.actL
                  rw [if_neg h91, if_neg h44, if_neg h93]
                rw [ea] at hst
                exact ⟨⟨rows, done, []⟩, ps, vd, _, _, _, rfl, S, hst, hrb3, by omega⟩
        · repeat walk_at "rv"
          have ee : decide (SX.S s.tok = Str.ofString "") = decide (s.tok = []) := S_dec
          rw [ee]
          unfold M53.flushL at fail
          by_cases h0 : s.tok = []
          · refine Rd.no (by rw [decide_eq_true h0]; rfl) ?_
            exact hnx _ _ ⟨s, vd, _, rfl, S, by unfold M53.flushL; rw [if_pos h0]⟩
          · refine Rd.yes (by rw [decide_eq_false h0]; rfl) ?_
            rw [if_neg h0] at fail
            with_reducible refine Rd.seqV (N := fun σ' H' => ∃ va, σ' = vS l lr vd s (some (.str ⟨#[c]⟩)) (some va) x7 ∧ Same H3 H' ∧ match M53.atomOf s.tok with | none => va = .non | some a => (∀ H, Dp K H va a) ∧ flat a = true ∧ a.canLay0 = true ∧ va ≠ .non) (fun σ' H' n => ?_) (fun nx' hnx' => ?_)
            · obtain ⟨va, rfl, s3, hva⟩ := n
              repeat walk_at "rv"
              refine ⟨rfl, ?_⟩
              repeat walk_at "rv"
              cases ha : M53.atomOf s.tok with
              | none =>
                rw [ha] at hva fail
                have hva : va = .non := hva
                subst hva
                refine Rd.yes (decide_eq_true rfl) (Rd.yes rfl ?_)
                repeat walk_at "rv"
                refine fail ?_ H' (S.sm.trans s3)
                cases s.done <;> rfl
              | some a =>
                rw [ha] at hva fail
                obtain ⟨hva1, hva2, hva3, hva4⟩ : (∀ H, Dp K H va a) ∧ flat a = true ∧ a.canLay0 = true ∧ va ≠ .non := hva
                refine Rd.no (decide_eq_false hva4) ?_
                repeat walk_at "rv"
                cases hdn : s.done with
                | some d =>
                  rw [hdn] at fail
                  refine Rd.nyes rfl ?_
                  repeat walk_at "rv"
                  exact fail rfl H' (S.sm.trans s3)
                | none =>
                  refine Rd.nno rfl ?_
                  repeat walk_at "rv"
                  refine ⟨(by decide : 1 ≤ sizeLine), fun ld2 hld2 => ?_⟩
                  repeat walk_at "rv"
                  refine hnx _ _ ⟨⟨s.rows, some a, []⟩, some (.ref ld2), _, rfl, (S.same s3).fin hld2 (hva1 _) hva2 hva3, ?_⟩
                  unfold M53.flushL
                  rw [if_neg h0, hdn, ha]
                  rfl
            · repeat walk_at "rv"
              refine ⟨.str (SX.S s.tok), .str (SX.S s.tok), rfl, .str _, fun s' e => by cases e; rw [SX.S_len]; omega, fun H4 s4 => ?_⟩
              repeat walk_at "rv"
              have ew : wordD (.str (SX.S s.tok)) = M53.wordL s.tok := rfl
              rw [ew]
              cases hw : M53.wordL s.tok with
              | true =>
                refine Rd.yes rfl ?_
                repeat walk_at "rv"
                refine hnx' _ _ ⟨_, rfl, s4, ?_⟩
                have ea : M53.atomOf s.tok = some (.str (SX.S s.tok)) := if_pos hw
                rw [ea]
                exact ⟨fun H => .str _, rfl, codes_lt (word_codes hw), fun e => by cases e⟩
              | false =>
                refine Rd.no rfl ?_
                repeat walk_at "rv"
                refine ⟨s.tok, rfl, htk, fun H5 s5 => ?_⟩
                refine hnx' _ _ ⟨_, rfl, s4.trans s5, ?_⟩
                have ea : M53.atomOf s.tok = (M53.numOf s.tok).map .int := if_neg (by rw [hw]; exact Bool.false_ne_true)
                rw [ea]
                cases M53.numOf s.tok with
                | none => rfl
                | some n => exact ⟨fun H => .int _, rfl, rfl, fun e => by cases e⟩
    · obtain ⟨s, ps, vd, x5, x6, x7, rfl, S, hrun, hrb2, hbg⟩ := p
      rw [hlen] at hrun hbg
      rw [List.take_of_length_le (by rw [List.length_append, List.length_singleton]; omega)] at hrun
      rw [lawRead_eq, hrun] at qn qs
      repeat walk_at "rv"
      refine ⟨(by decide : 0 ≤ sizeLine), fun la hla => ?_⟩
      have S2 := S.new hla (o := .lst [])
      refine ⟨_, _, .lst (.inl (.inl S2.ht)) (rows_dp S2.hr), .lst (.inl (.inl upd_same)) .nil, lay_list S.hl, rfl, by simp [PyData.depth, PyData.depthAll], ?_⟩
      rw [if_neg Bool.false_ne_true, eqv_nil]
      repeat walk_at "rv"
      obtain ⟨rows, done, tok⟩ := s
      have ei : (rows.map PyData.list).reverse.isEmpty = rows.isEmpty := by
        cases rows with
        | nil => rfl
        | cons r rs => simp
      rw [ei]
      have qn : (if 59 ∈ l then none else M53.endL ⟨rows, done, tok⟩) = none → ∀ H', Same H H' → Q .non H' := qn
      have qs : ∀ d, (if 59 ∈ l then none else M53.endL ⟨rows, done, tok⟩) = some d → ∀ p v H', Same H H' → H' p = some (.lst [v]) → Dp K H' v d → flat d = true → Q (.ref p) H' := qs
      unfold M53.endL at qn qs
      cases rows with
      | cons r rs =>
        refine Rd.no rfl ?_
        repeat walk_at "rv"
        exact qn (by split <;> rfl) _ S2.sm
      | nil =>
        refine Rd.yes rfl ?_
        repeat walk_at "rv"
        cases done with
        | none =>
          refine Rd.no rfl (Rd.no rfl ?_)
          repeat walk_at "rv"
          exact qn (by split <;> rfl) _ S2.sm
        | some d =>
          refine Rd.yes rfl ?_
          repeat walk_at "rv"
          obtain ⟨ld', v, rfl, d1, d2, d3, d4, d5, d6⟩ := S2.hd d rfl
          by_cases h59 : 59 ∈ l
          · refine Rd.no (by rw [decide_eq_true (show 59 ∈ (SX.S l).cps.toList from h59)]; rfl) ?_
            repeat walk_at "rv"
            exact qn (if_pos h59) _ S2.sm
          · refine Rd.yes (by rw [decide_eq_false (show 59 ∉ (SX.S l).cps.toList from h59)]; rfl) ?_
            repeat walk_at "rv"
            exact qs d (by rw [if_neg h59, if_pos rfl]) _ _ _ S2.sm d1 d2 d3
end
end K53

namespace K53
open PySem L2 Ux
open C8 (pe_gc)
local macro_rules | `(tactic| walk_at "rd") => `(tactic| with_reducible first
  | refine Rd.c ?_ | refine Rd.cb ?_ | refine Rd.cons ?_ | refine Rd.nil ?_ | refine Rd.op ?_ | refine Rd.un ?_ | refine Rd.test ?_ | refine Rd.tb_ ?_ | refine Rd.isb ?_ | refine Rd.and ?_ | refine Rd.or ?_ | refine Rd.not ?_
  | refine Rd.andV ?_ | refine Rd.orV ?_ | refine Rd.notV ?_ | refine Rd.ifx ?_ | refine Rd.tup ?_ | refine Rd.lst ?_ | refine Rd.bm ?_ | refine Rd.bm0 ?_ | refine Rd.m1 ?_ | refine Rd.call ?_ | refine Rd.callS ?_ | refine Rd.slice ?_ | refine Rd.nopart ?_ | refine Rd.part ?_ | refine Rd.isi ?_
  | refine Rd.i0 ?_ | refine Rd.iu ?_ | refine Ux.add_i ?_ | refine Ux.eq_i ?_ | refine Ux.ne_i ?_ | refine Ux.eq_s ?_ | refine Ux.ne_s ?_ | refine Ux.le_i ?_ | refine Ux.le_s ?_ | refine Ux.ge_i ?_ | refine Ux.int_i ?_ | refine Ux.in_c ?_ | refine Ux.nin_c ?_ | refine Rd.abs_ ?_ | refine Rd.lc ?_ | refine Rd.iStr ?_ | refine Rd.iss ?_ | refine Rd.iList ?_ | refine Rd.for_ ?_ | refine Rd.gs ?_ | refine Rd.par3 ?_ | refine Rd.is3 ?_ | refine Rd.iTup ?_ | refine Rd.asgG ?_ | refine Rd.fld ?_ | refine Rd.sfld ?_ | refine Rd.meth ?_ | refine Rd.gn ?_ | refine Rd.rng1 ?_ | refine Rd.rng2 ?_ | refine Rd.rng3 ?_ | refine Rd.enumS ?_ | refine Rd.enumSn ?_
  | refine Rd.seq ?_ | refine Rd.next ?_ | refine Rd.brk ?_ | refine Rd.cont ?_ | refine Rd.drop ?_ | refine Rd.ret ?_ | refine Rd.retN ?_ | refine Rd.ifs ?_ | refine Rd.asg ?_ | refine Rd.par ?_ | refine Rd.is2 ?_)
local macro_rules | `(tactic| walk_at "rv") => `(tactic| first
  | ((with_reducible refine' Rd.var ?zvar ?_); (case zvar => rfl)) | walk_at "rd" | (with_reducible refine Rd.chain ?_))
local macro_rules | `(tactic| walk_at "rw") => `(tactic| first
  | ((with_reducible refine' Rd.var ?zvar ?_); (case zvar => rfl)) | walk_at "rd")

/-! ### _law_told -/
section
variable {P : Program} {w : World} {K : PySem.W.Frag} {mg : Str → Option Value} {base : Heap} {M C : Addr}
abbrev s_law_told : Stmt := topS 26
abbrev N_law_told : List Str := ["which", "value"]
theorem sc_law_told : FnScope N_law_told ["which", "value"] (defScope s_law_told) := ⟨rfl, rfl, rfl, by decide +kernel, rfl, by decide +kernel, by decide +kernel⟩
def sp_told0 (K : PySem.W.Frag) : Sp := fun vs H Q _ => ∃ v d, vs = [.int 0, v] ∧ Dp K H v d ∧ wgt d ≤ sizeLine ∧ (∀ l, pw 1 d = some l → l.length ≤ 16777216 ∧ ∀ p H', Same H H' → H' p = some (.lst [.str (SX.S l)]) → Q (.ref p) H') ∧ (pw 1 d = none → ∀ H', Same H H' → Q .non H')
def sp_told1 (K : PySem.W.Frag) : Sp := fun vs H Q _ => ∃ v d, vs = [.int 1, v] ∧ Dp K H v d ∧ (∀ s, d = .str s → 2 * s.length + 2 < sizeLine) ∧ (∀ d', rdD d = some d' → ∀ p v' H', Same H H' → H' p = some (.lst [v']) → Dp K H' v' d' → flat d' = true → Q (.ref p) H') ∧ (rdD d = none → ∀ H', Same H H' → Q .non H')
def sp_told (K : PySem.W.Frag) : Sp := fun vs H Q E => sp_told0 K vs H Q E ∨ sp_told1 K vs H Q E
theorem ok_law_told {f : Addr} {fd : FuncData} (F : Fun K "_law_told" "_law_told" s_law_told f fd) (T : Txt K mg M) (F_write_data : Cl P w K mg base 3 "write_data" (sp_write_data K M)) (F_read_data : Cl P w K mg base 4 "read_data" (sp_read_data K M)) :
    FnOk P w K mg base (L2.CX P w) 5 f fd ["which", "value"] (sp_told K) := by
  refine F.okX sc_law_told (fun vs H Q E h => ?_) (fun cdv A outer s H vs Q E hr h => ?_)
  · rcases h with ⟨_, _, rfl, _⟩ | ⟨_, _, rfl, _⟩ <;> rfl
  · have nd := sc_law_told.nd
    refine ⟨_, (pss_one (ps_try_only rfl rfl ⟨rfl, by decide, .inl T.g_Malformed⟩ (takes_of rfl rfl rfl rfl) (fun W pn xe tk po =>
  (pss_one (ps_ret (pe_ifExp (pt_cmpR (opK (r := rEqU) K (op_eqU hr.units)) (pv 0) pe_int (nomark _)) (pe_lst (pa_cons (pcallT F_write_data hr (by decide) rfl tk (pa_cons (pv 1) pa_nil)) pa_nil)) (pe_lst (pa_cons (pcallT F_read_data hr (by decide) rfl tk (pa_cons (pv 1) pa_nil)) pa_nil)))))) (fun a oe cls d pn _ _ =>
  (pss_one (ps_ret pe_non))))), ?_⟩
    have out : ∀ (σ : L2.St) (H' : Hp), Q .non H' → wOnly K (.ref M) (fun a cls d => tRet (tC .non)) (fun cls d _ H => E cls d H) { nx := fun x H' => Q .non H', rt := Q } (.ref M) none σ H' := fun σ H' q =>
      ⟨true, T.e_Malformed, fun _ a _ => q, fun h => by cases h⟩
    rcases h with ⟨v, d, rfl, hd, hz, q, qn⟩ | ⟨v, d, rfl, hd, hz, q, qn⟩
    · repeat walk_at "rv"
      refine Rd.dyes rfl ?_
      repeat walk_at "rv"
      refine ⟨v, d, rfl, hd, hz, fun l hl => ⟨(q l hl).1, fun H1 s1 => ?_⟩, fun hn H1 s1 => ?_⟩
      · repeat walk_at "rv"
        refine ⟨(by decide : 1 ≤ sizeLine), fun p hp => ?_⟩
        exact (q l hl).2 p _ (s1.trans (same_upd (Same.refl _) hp)) upd_same
      · exact out _ _ (qn hn H1 s1)
    · repeat walk_at "rv"
      refine Rd.dno (by decide) ?_
      repeat walk_at "rv"
      refine ⟨v, d, rfl, hd, hz, fun d' hd' v' H1 s1 h1 h2 => ?_, fun hn H1 s1 => ?_⟩
      · repeat walk_at "rv"
        refine ⟨(by decide : 1 ≤ sizeLine), fun p hp => ?_⟩
        exact q d' hd' p v' _ (s1.trans (same_upd (Same.refl _) hp)) upd_same (dp_same (same_upd (Same.refl _) hp) _ _ h1) h2
      · exact out _ _ (qn hn H1 s1)
end
end K53

namespace K53
open PySem
/-! ### the plain law -/
theorem intL_len_lt {z : Int} {B : Nat} (h : (M53.intL z).length ≤ B) : z.natAbs < 10 ^ B := by
  have h1 : (TL.numL z.natAbs).length ≤ B := by
    unfold M53.intL at h
    split at h
    · rw [List.length_cons] at h; omega
    · exact h
  have h2 := dv_lt _ _ rfl (TL.numL_digits z.natAbs)
  rw [TL.numL_val] at h2
  exact Nat.lt_of_lt_of_le h2 (Nat.pow_le_pow_right (by decide) h1)
/-! the program's writer writes what the law's does -/
mutual
theorem pw_eq : ∀ (d : PyData) (k : Nat), dep d + k ≤ 1001 → okI 4000 d = true → pw k d = M53.wT d
  | .tuple ds, k, h, f => by
    have h' : deps ds + 1 + k ≤ 1001 := h
    show (if k ≤ 1000 then (pws (k + 1) ds).map fun l => 91 :: (l ++ [93]) else none) = (M53.wTs ds).map fun l => 91 :: (l ++ [93])
    rw [if_pos (by omega), pws_eq ds (k + 1) (by omega) f]
  | .str s, k, _, _ => rfl
  | .int z, k, _, f => by
    show (if z.natAbs < 10 ^ 4000 then some (M53.intL z) else none) = some (M53.intL z)
    rw [if_pos (intL_len_lt (of_decide_eq_true f))]
  | .none, _, _, _ => rfl
  | .bool _, _, _, _ => rfl
  | .list _, _, _, _ => rfl
  | .dict _, _, _, _ => rfl
theorem pws_eq : ∀ (ds : List PyData) (k : Nat), deps ds + k ≤ 1001 → okIs 4000 ds = true → pws k ds = M53.wTs ds
  | [], _, _, _ => rfl
  | d :: r, k, h, f => by
    have h' : max (dep d) (deps r) + k ≤ 1001 := h
    have f' : (okI 4000 d && okIs 4000 r) = true := f
    rw [Bool.and_eq_true] at f'
    show (pw k d).bind (fun a => (pws k r).map fun b => if r.isEmpty then a else a ++ 44 :: b) = (M53.wT d).bind fun a => (M53.wTs r).map fun b => if r.isEmpty then a else a ++ 44 :: b
    rw [pw_eq d k (by omega) f'.1, pws_eq r k (by omega) f'.2]
end
/-! what the law's reader reads of a written text -/
theorem runL_plain : ∀ (t : List Nat) (rows : List (List PyData)) (done : Option PyData) (tok : List Nat), (∀ c ∈ t, dl c = false) → M53.runL ⟨rows, done, tok⟩ t = some ⟨rows, done, tok ++ t⟩
  | [], rows, done, tok, _ => by rw [List.append_nil]; rfl
  | c :: r, rows, done, tok, h => by
    have h1 : (M53.isDel c || c == 59) = false := h c List.mem_cons_self
    show (M53.stepL ⟨rows, done, tok⟩ c).bind (fun s' => M53.runL s' r) = _
    unfold M53.stepL
    rw [if_neg (by rw [h1]; exact Bool.false_ne_true)]
    show M53.runL ⟨rows, done, tok ++ [c]⟩ r = _
    rw [runL_plain r rows done (tok ++ [c]) fun x m => h x (List.mem_cons_of_mem _ m), List.append_assoc]
    rfl
theorem word_plain {l : List Nat} (h : M53.wordL l = true) : ∀ c ∈ l, dl c = false := by
  cases l with
  | nil => intro c m; cases m
  | cons c r =>
    rw [wordL_cons, Bool.and_eq_true, Bool.and_eq_true] at h
    intro x hx
    have := List.all_eq_true.mp h.2.2 x hx
    simp only [M53.isLet, M53.isDig, Bool.or_eq_true, Bool.and_eq_true, decide_eq_true_eq] at this
    unfold dl M53.isDel
    simp only [Bool.or_eq_false_iff, beq_eq_false_iff_ne]
    omega
theorem int_plain (z : Int) : ∀ c ∈ M53.intL z, dl c = false := by
  have key : ∀ c, c = 45 ∨ (48 ≤ c ∧ c ≤ 57) → dl c = false := by
    intro c h
    unfold dl M53.isDel
    simp only [Bool.or_eq_false_iff, beq_eq_false_iff_ne]
    omega
  intro c hc
  unfold M53.intL at hc
  split at hc
  · rcases List.mem_cons.mp hc with e | m
    · exact key c (.inl e)
    · exact key c (.inr (TL.numL_digits _ c m))
  · exact key c (.inr (TL.numL_digits _ c hc))
theorem run_atom {t : List Nat} {d : PyData} (hp : ∀ c ∈ t, dl c = false) (ha : M53.atomOf t = some d) (hne : t ≠ []) (rows : List (List PyData)) : (M53.runL ⟨rows, none, []⟩ t).bind M53.flushL = some ⟨rows, some d, []⟩ := by
  rw [runL_plain t rows none [] hp, List.nil_append]
  show M53.flushL ⟨rows, none, t⟩ = _
  unfold M53.flushL
  rw [if_neg hne]
  show (M53.atomOf t).map _ = _
  rw [ha]
  rfl
theorem run_del {s : M53.LS} {t : List Nat} {c : Nat} (h : dl c = true) : M53.runL s (t ++ [c]) = ((M53.runL s t).bind M53.flushL).bind (M53.actL c) := by
  rw [M53.runL_append]
  cases M53.runL s t with
  | none => rfl
  | some s' =>
    show (M53.stepL s' c).bind (fun s'' => some s'') = (M53.flushL s').bind (M53.actL c)
    have e : M53.stepL s' c = (M53.flushL s').bind (M53.actL c) := if_pos h
    rw [e]
    cases (M53.flushL s').bind (M53.actL c) <;> rfl
theorem flush_clean {s : M53.LS} (h : s.tok = []) : M53.flushL s = some s := if_pos h
mutual
theorem run_wT : ∀ {d : PyData} {t : List Nat}, M53.wT d = some t → ∀ rows, (M53.runL ⟨rows, none, []⟩ t).bind M53.flushL = some ⟨rows, some d, []⟩
  | .tuple ds, t, h, rows => by
    have h' : ((M53.wTs ds).map fun l => 91 :: (l ++ [93])) = some t := h
    cases q : M53.wTs ds with
    | none => rw [q] at h'; cases h'
    | some l =>
      rw [q] at h'
      cases h'
      have e : M53.runL ⟨rows, none, []⟩ (91 :: (l ++ [93])) = M53.runL ⟨[] :: rows, none, []⟩ (l ++ [93]) := rfl
      rw [e, run_del rfl]
      have k := run_wTs q [] rows (.inr rfl)
      rw [k]
      exact flush_clean rfl
  | .str s, t, h, rows => by
    have h' : (if M53.wordL (TL.tl s) then some (TL.tl s) else none) = some t := h
    split at h'
    · rename_i hw
      cases h'
      refine run_atom (word_plain hw) ?_ (wT_ne h) rows
      have e : M53.atomOf (TL.tl s) = some (.str (SX.S (TL.tl s))) := if_pos hw
      rw [e, show SX.S (TL.tl s) = s from TL.mk_tl s]
    · cases h'
  | .int z, t, h, rows => by
    cases h
    exact run_atom (int_plain z) (M53.atomOf_intL z) (M53.intL_ne z) rows
  | .none, _, h, _ => by cases h
  | .bool _, _, h, _ => by cases h
  | .list _, _, h, _ => by cases h
  | .dict _, _, h, _ => by cases h
theorem run_wTs : ∀ {ds : List PyData} {l : List Nat}, M53.wTs ds = some l → ∀ (r0 : List PyData) rows, ds ≠ [] ∨ r0 = [] → ((M53.runL ⟨r0 :: rows, none, []⟩ l).bind M53.flushL).bind (M53.actL 93) = some ⟨rows, some (.tuple (r0 ++ ds)), []⟩
  | [], l, h, r0, rows, hr => by
    cases h
    have e : r0 = [] := by
      rcases hr with hr | hr
      · exact absurd rfl hr
      · exact hr
    subst e
    rfl
  | [d], l, h, r0, rows, _ => by
    have h' : ((M53.wT d).bind fun a => some a) = some l := h
    cases ha : M53.wT d with
    | none => rw [ha] at h'; cases h'
    | some a =>
      rw [ha] at h'
      cases h'
      rw [run_wT ha (r0 :: rows)]
      rfl
  | d :: e :: r, l, h, r0, rows, _ => by
    have h' : ((M53.wT d).bind fun a => (M53.wTs (e :: r)).map fun b => a ++ 44 :: b) = some l := h
    cases ha : M53.wT d with
    | none => rw [ha] at h'; cases h'
    | some a =>
      cases hb : M53.wTs (e :: r) with
      | none => rw [ha, hb] at h'; cases h'
      | some b =>
        rw [ha, hb] at h'
        cases h'
        have e1 : (fun b => a ++ 44 :: b) b = (a ++ [44]) ++ b := by simp
        rw [e1, M53.runL_append, run_del rfl, run_wT ha (r0 :: rows)]
        show ((M53.runL ⟨(r0 ++ [d]) :: rows, none, []⟩ b).bind M53.flushL).bind (M53.actL 93) = _
        rw [run_wTs hb (r0 ++ [d]) rows (.inl (by simp)), List.append_assoc]
        rfl
end
theorem no59 {t : List Nat} (h : ∀ c ∈ t, c ≠ 59) : 59 ∉ t := fun m => h 59 m rfl
mutual
theorem wT_59 : ∀ {d : PyData} {t : List Nat}, M53.wT d = some t → 59 ∉ t
  | .tuple ds, t, h => by
    have h' : ((M53.wTs ds).map fun l => 91 :: (l ++ [93])) = some t := h
    cases q : M53.wTs ds with
    | none => rw [q] at h'; cases h'
    | some l =>
      rw [q] at h'
      cases h'
      have := wTs_59 q
      simp [this]
  | .str s, t, h => by
    have h' : (if M53.wordL (TL.tl s) then some (TL.tl s) else none) = some t := h
    split at h'
    · rename_i hw
      cases h'
      exact fun m => by have := word_plain hw 59 m; cases this
    · cases h'
  | .int z, t, h => by
    cases h
    exact fun m => by have := int_plain z 59 m; cases this
  | .none, _, h => by cases h
  | .bool _, _, h => by cases h
  | .list _, _, h => by cases h
  | .dict _, _, h => by cases h
theorem wTs_59 : ∀ {ds : List PyData} {t : List Nat}, M53.wTs ds = some t → 59 ∉ t
  | [], t, h => by cases h; exact List.not_mem_nil
  | d :: r, t, h => by
    have h' : ((M53.wT d).bind fun a => (M53.wTs r).map fun b => if r.isEmpty then a else a ++ 44 :: b) = some t := h
    cases ha : M53.wT d with
    | none => rw [ha] at h'; cases h'
    | some a =>
      cases hb : M53.wTs r with
      | none => rw [ha, hb] at h'; cases h'
      | some b =>
        rw [ha, hb] at h'
        have e1 := wT_59 ha
        have e2 := wTs_59 hb
        have h2 : (if r.isEmpty then a else a ++ 44 :: b) = t := Option.some.inj h'
        rw [← h2]
        split
        · exact e1
        · simp [e1, e2]
end
theorem lawRead_wT {d : PyData} {t : List Nat} (h : M53.wT d = some t) : M53.lawRead t = some d := by
  unfold M53.lawRead
  rw [if_neg (wT_59 h), run_wT h []]
  rfl
/-! and what it reads is written as it stood -/
def rendRow (r : List PyData) : List Nat := 91 :: (r.map fun e => wtx e ++ [44]).flatten
def rend (rows : List (List PyData)) (done : Option PyData) (tok : List Nat) : List Nat := (rows.reverse.map rendRow).flatten ++ (match done with | some d => wtx d | none => []) ++ tok
def good (rows : List (List PyData)) (done : Option PyData) : Prop := (∀ r ∈ rows, ∀ e ∈ r, M53.wT e = some (wtx e)) ∧ ∀ d, done = some d → M53.wT d = some (wtx d)
theorem wtx_of {d : PyData} {t : List Nat} (h : M53.wT d = some t) : wtx d = t := by unfold wtx; rw [h]; rfl
theorem flush_tx {s s' : M53.LS} (h : M53.flushL s = some s') (g : good s.rows s.done) : rend s'.rows s'.done s'.tok = rend s.rows s.done s.tok ∧ good s'.rows s'.done ∧ s'.tok = [] := by
  obtain ⟨rows, done, tok⟩ := s
  unfold M53.flushL at h
  by_cases e : tok = []
  · rw [if_pos e] at h
    cases h
    exact ⟨rfl, g, e⟩
  · rw [if_neg e] at h
    cases done with
    | some d => cases h
    | none =>
      have h' : (M53.atomOf tok).map (fun a => (⟨rows, some a, []⟩ : M53.LS)) = some s' := h
      cases ha : M53.atomOf tok with
      | none => rw [ha] at h'; cases h'
      | some a =>
        rw [ha] at h'
        cases h'
        have hw := M53.wT_atomOf ha
        refine ⟨?_, ⟨g.1, fun d q => ?_⟩, rfl⟩
        · show _ ++ wtx a ++ [] = _ ++ [] ++ tok
          rw [wtx_of hw, List.append_nil, List.append_nil]
        · cases q
          rw [hw, wtx_of hw]
theorem wTs_of : ∀ {ds : List PyData}, (∀ e ∈ ds, M53.wT e = some (wtx e)) → M53.wTs ds = some (TL.joinL [44] (ds.map wtx))
  | [], _ => rfl
  | [d], h => by
    show (M53.wT d).bind (fun a => some a) = _
    rw [h d List.mem_cons_self]
    rfl
  | d :: e :: r, h => by
    have ih := wTs_of (ds := e :: r) fun x m => h x (List.mem_cons_of_mem _ m)
    show (M53.wT d).bind (fun a => (M53.wTs (e :: r)).map fun b => a ++ 44 :: b) = _
    rw [h d List.mem_cons_self, ih]
    rfl
theorem join_snoc (x : List Nat) : ∀ ys : List (List Nat), TL.joinL [44] (ys ++ [x]) = (ys.map fun y => y ++ [44]).flatten ++ x
  | [] => by simp [TL.joinL]
  | [y] => by simp [TL.joinL]
  | y :: z :: r => by
    have ih := join_snoc x (z :: r)
    show y ++ ([44] ++ TL.joinL [44] ((z :: r) ++ [x])) = _
    rw [ih]
    simp
theorem act_tx {s s' : M53.LS} {c : Nat} (hc : M53.isDel c = true) (h : M53.actL c s = some s') (g : good s.rows s.done) (ht : s.tok = []) : rend s'.rows s'.done s'.tok = rend s.rows s.done s.tok ++ [c] ∧ good s'.rows s'.done := by
  obtain ⟨rows, done, tok⟩ := s
  have ht : tok = [] := ht
  subst ht
  unfold M53.isDel at hc
  simp only [Bool.or_eq_true, beq_iff_eq] at hc
  unfold M53.actL at h
  rcases hc with (hc | hc) | hc
  · subst hc
    rw [if_pos rfl] at h
    cases done with
    | some d => cases h
    | none =>
      cases h
      refine ⟨?_, fun r m => ?_, fun d e => by cases e⟩
      · simp [rend, rendRow]
      · rcases List.mem_cons.mp m with e | m
        · rw [e]; intro e m; cases m
        · exact g.1 r m
  · subst hc
    rw [if_neg (by decide), if_neg (by decide), if_pos rfl] at h
    cases rows with
    | nil => cases done <;> cases h
    | cons r rs =>
      cases done with
      | none =>
        by_cases hr : r = []
        · subst hr
          simp only [if_true] at h
          cases h
          refine ⟨?_, fun r m => g.1 r (List.mem_cons_of_mem _ m), fun d e => ?_⟩
          · have e : wtx (.tuple []) = [91, 93] := rfl
            simp [rend, rendRow, e]
          · cases e; rfl
        · simp only [if_neg hr] at h
          cases h
      | some d =>
        cases h
        have hall : ∀ e ∈ r ++ [d], M53.wT e = some (wtx e) := fun e m => by
          rcases List.mem_append.mp m with m | m
          · exact g.1 r List.mem_cons_self e m
          · rw [List.mem_singleton.mp m]; exact g.2 d rfl
        have hw : M53.wT (.tuple (r ++ [d])) = some (91 :: (TL.joinL [44] ((r ++ [d]).map wtx) ++ [93])) := by
          show (M53.wTs (r ++ [d])).map _ = _
          rw [wTs_of hall]
          rfl
        refine ⟨?_, fun r m => g.1 r (List.mem_cons_of_mem _ m), fun d' e => ?_⟩
        · have e1 := wtx_of hw
          rw [List.map_append, List.map_singleton, join_snoc] at e1
          simp only [rend, List.reverse_cons, List.map_append, List.map_cons, List.map_nil, List.flatten_append, List.flatten_cons, List.flatten_nil, List.append_nil, e1, rendRow, List.map_map]
          simp [Function.comp_def]
        · cases e
          rw [hw, wtx_of hw]
  · subst hc
    rw [if_neg (by decide), if_pos rfl] at h
    cases done with
    | none => cases h
    | some d =>
      cases rows with
      | nil => cases h
      | cons r rs =>
        cases h
        refine ⟨?_, fun r' m => ?_, fun d e => by cases e⟩
        · simp [rend, rendRow]
        · rcases List.mem_cons.mp m with e | m
          · rw [e]
            intro x mx
            rcases List.mem_append.mp mx with mx | mx
            · exact g.1 r List.mem_cons_self x mx
            · rw [List.mem_singleton.mp mx]; exact g.2 d rfl
          · exact g.1 r' (List.mem_cons_of_mem _ m)
theorem run_tx : ∀ (l : List Nat) (s s' : M53.LS), 59 ∉ l → M53.runL s l = some s' → good s.rows s.done → rend s'.rows s'.done s'.tok = rend s.rows s.done s.tok ++ l ∧ good s'.rows s'.done
  | [], s, s', _, h, g => by cases h; exact ⟨by rw [List.append_nil], g⟩
  | c :: r, s, s', hn, h, g => by
    have hc : c ≠ 59 := fun e => hn (by rw [e]; exact List.mem_cons_self)
    have hr : 59 ∉ r := fun m => hn (List.mem_cons_of_mem _ m)
    have h' : (M53.stepL s c).bind (fun s' => M53.runL s' r) = some s' := h
    cases h1 : M53.stepL s c with
    | none => rw [h1] at h'; cases h'
    | some s1 =>
      rw [h1] at h'
      have h' : M53.runL s1 r = some s' := h'
      have key : rend s1.rows s1.done s1.tok = rend s.rows s.done s.tok ++ [c] ∧ good s1.rows s1.done := by
        unfold M53.stepL at h1
        have e59 : (c == 59) = false := beq_eq_false_iff_ne.mpr hc
        by_cases hd : M53.isDel c = true
        · rw [if_pos (by rw [hd]; rfl)] at h1
          cases hf : M53.flushL s with
          | none => rw [hf] at h1; cases h1
          | some s2 =>
            rw [hf] at h1
            obtain ⟨f1, f2, f3⟩ := flush_tx hf g
            obtain ⟨a1, a2⟩ := act_tx hd h1 f2 f3
            exact ⟨by rw [a1, f1], a2⟩
        · rw [if_neg (by rw [e59, Bool.or_false]; exact hd)] at h1
          cases h1
          exact ⟨by simp [rend], g⟩
      obtain ⟨k1, k2⟩ := run_tx r s1 s' hr h' key.2
      refine ⟨?_, k2⟩
      rw [k1, key.1]
      simp
theorem wT_lawRead {l : List Nat} {d : PyData} (h : M53.lawRead l = some d) : M53.wT d = some l := by
  unfold M53.lawRead at h
  split at h
  · cases h
  · rename_i hn
    cases h1 : M53.runL ⟨[], none, []⟩ l with
    | none => rw [h1] at h; cases h
    | some s =>
      rw [h1] at h
      have h : (M53.flushL s).bind M53.endL = some d := h
      obtain ⟨r1, r2⟩ := run_tx l _ s hn h1 ⟨(fun r m => by cases m), (fun d e => by cases e)⟩
      cases h2 : M53.flushL s with
      | none => rw [h2] at h; cases h
      | some s2 =>
        rw [h2] at h
        have h : M53.endL s2 = some d := h
        obtain ⟨f1, f2, f3⟩ := flush_tx h2 r2
        obtain ⟨rows, done, tok⟩ := s2
        have f3 : tok = [] := f3
        subst f3
        unfold M53.endL at h
        split at h
        · rename_i hr
          have hr : rows = [] := hr
          subst hr
          have h : done = some d := h
          subst h
          have e1 : rend [] (some d) [] = wtx d := by simp [rend]
          have e2 : rend ([] : List (List PyData)) none [] = [] := rfl
          rw [f2.2 d rfl]
          congr 1
          rw [← e1, f1, r1, e2]
          rfl
        · cases h
end K53

namespace K53
open PySem
/-! ### runs -/
def er : Nat → List Nat → Nat
  | c, [] => c
  | c, x :: r => er (if dl x then 0 else c + 1) r
theorem rb_append {B : Nat} (b : List Nat) : ∀ (a : List Nat) (c : Nat), rb B c (a ++ b) = (rb B c a && rb B (er c a) b)
  | [], c => by
    show rb B c b = (decide (c ≤ B) && rb B c b)
    cases h : rb B c b with
    | false => rw [Bool.and_false]
    | true => rw [decide_eq_true (rb_head h)]; rfl
  | x :: a, c => by
    show (decide (c ≤ B) && rb B (if dl x then 0 else c + 1) (a ++ b)) = ((decide (c ≤ B) && rb B (if dl x then 0 else c + 1) a) && rb B (er (if dl x then 0 else c + 1) a) b)
    rw [rb_append b a, Bool.and_assoc]
theorem rb_er {B : Nat} : ∀ {l : List Nat} {c : Nat}, rb B c l = true → er c l ≤ B
  | [], c, h => of_decide_eq_true h
  | x :: r, c, h => rb_er (l := r) (rb_tail h)
theorem rb_mono {B B' j : Nat} (hB : B + j ≤ B') : ∀ {l : List Nat} {c c' : Nat}, rb B c l = true → c' ≤ c + j → rb B' c' l = true
  | [], c, c', h, hc => by
    have : c ≤ B := of_decide_eq_true h
    exact decide_eq_true (by omega)
  | x :: r, c, c', h, hc => by
    have h1 := rb_head h
    have h2 := rb_tail h
    show (decide (c' ≤ B') && rb B' (if dl x then 0 else c' + 1) r) = true
    rw [decide_eq_true (by omega), Bool.true_and]
    by_cases hx : dl x = true
    · rw [if_pos hx] at h2 ⊢
      exact rb_mono hB h2 (by omega)
    · rw [if_neg hx] at h2 ⊢
      exact rb_mono hB h2 (by omega)
theorem rb_pcs {B : Nat} (hB : 1 ≤ B) : ∀ (l cur : List Nat), rb B cur.length l = true → 59 ∉ l → ∀ x ∈ M53.pcs cur l, x.length ≤ B
  | [], cur, h, _ => by
    have := rb_head h
    unfold M53.pcs
    split
    · simp
    · simpa using this
  | c :: r, cur, h, hn => by
    have h1 := rb_head h
    have h2 := rb_tail h
    have hc : (c == 59) = false := beq_eq_false_iff_ne.mpr fun e => hn (by rw [e]; exact List.mem_cons_self)
    have hr : 59 ∉ r := fun m => hn (List.mem_cons_of_mem _ m)
    have ed : dl c = M53.isDel c := by unfold dl; rw [hc, Bool.or_false]
    unfold M53.pcs
    by_cases hd : M53.isDel c = true
    · rw [if_pos hd]
      rw [ed, if_pos hd] at h2
      intro x hx
      rcases List.mem_append.mp hx with m | m
      · split at m
        · cases m
        · rw [List.mem_singleton.mp m]; exact h1
      · rcases List.mem_cons.mp m with m | m
        · rw [m]; exact hB
        · exact rb_pcs hB r [] h2 hr x m
    · rw [if_neg hd]
      rw [ed, if_neg hd] at h2
      exact rb_pcs hB r (cur ++ [c]) (by rw [List.length_append]; exact h2) hr
theorem rb_plain {B : Nat} : ∀ (l : List Nat) (c : Nat), (∀ x ∈ l, dl x = false) → (rb B c l = true ↔ c + l.length ≤ B)
  | [], c, _ => by
    show decide (c ≤ B) = true ↔ _
    rw [decide_eq_true_iff]
    simp
  | x :: r, c, h => by
    show (decide (c ≤ B) && rb B (if dl x then 0 else c + 1) r) = true ↔ _
    rw [Bool.and_eq_true, decide_eq_true_iff, h x List.mem_cons_self, if_neg (by decide), rb_plain r (c + 1) fun y m => h y (List.mem_cons_of_mem _ m), List.length_cons]
    omega
theorem cnt_append (a b : List Nat) : M53.cnt (a ++ b) = M53.cnt a + M53.cnt b := List.countP_append ..
theorem cnt_plain {l : List Nat} (h : ∀ x ∈ l, dl x = false) : M53.cnt l = 0 := by
  unfold M53.cnt
  rw [List.countP_eq_zero]
  intro x m e
  have := h x m
  rw [beq_iff_eq] at e
  subst e
  cases this
/-! ### what is drawn -/
def LL : Nat → Nat
  | 0 => 41
  | n + 1 => 3 * (LL n + 1) + 2
def CC : Nat → Nat
  | 0 => 0
  | n + 1 => 3 * CC n + 1
theorem LL_pos : ∀ n, 41 ≤ LL n
  | 0 => Nat.le_refl _
  | n + 1 => by have := LL_pos n; show 41 ≤ 3 * (LL n + 1) + 2; omega
theorem gen_list {A C : Nat} : ∀ {ds : List PyData}, (∀ e ∈ ds, ∃ t, M53.wT e = some t ∧ t.length ≤ A ∧ M53.cnt t ≤ C ∧ rb 41 0 t = true) → ∃ l, M53.wTs ds = some l ∧ l.length ≤ ds.length * (A + 1) ∧ M53.cnt l ≤ ds.length * C ∧ rb 41 0 l = true
  | [], _ => ⟨[], rfl, Nat.zero_le _, Nat.zero_le _, rfl⟩
  | d :: r, h => by
    obtain ⟨t, h1, h2, h3, h4⟩ := h d List.mem_cons_self
    obtain ⟨l, g1, g2, g3, g4⟩ := gen_list (ds := r) fun e m => h e (List.mem_cons_of_mem _ m)
    refine ⟨if r.isEmpty then t else t ++ 44 :: l, by show (M53.wT d).bind (fun a => (M53.wTs r).map fun b => if r.isEmpty then a else a ++ 44 :: b) = _; rw [h1, g1]; rfl, ?_, ?_, ?_⟩
    · rw [List.length_cons, Nat.add_mul, Nat.one_mul]
      split
      · omega
      · rw [List.length_append, List.length_cons]; omega
    · rw [List.length_cons, Nat.add_mul, Nat.one_mul]
      split
      · omega
      · rw [cnt_append]
        have : M53.cnt (44 :: l) = M53.cnt l := rfl
        omega
    · split
      · exact h4
      · rw [rb_append, h4, Bool.true_and]
        show (decide (er 0 t ≤ 41) && rb 41 0 l) = true
        rw [decide_eq_true (rb_er h4), g4]
        rfl
theorem gen_text : ∀ {n : Nat} {d : PyData}, gen n d → ∃ t, M53.wT d = some t ∧ t.length ≤ LL n ∧ M53.cnt t ≤ CC n ∧ rb 41 0 t = true := by
  have atom : ∀ {d : PyData}, atomOk d → ∃ t, M53.wT d = some t ∧ t.length ≤ 41 ∧ M53.cnt t = 0 ∧ rb 41 0 t = true := by
    intro d h
    cases d with
    | str s =>
      have hw : M53.wordL (TL.tl s) = true := h
      have hl : (TL.tl s).length ≤ 41 := by
        cases q : TL.tl s with
        | nil => exact Nat.zero_le _
        | cons c r =>
          rw [q, wordL_cons, Bool.and_eq_true] at hw
          have := of_decide_eq_true hw.1
          rw [List.length_cons]
          omega
      exact ⟨TL.tl s, if_pos hw, hl, cnt_plain (word_plain hw), (rb_plain _ _ (word_plain hw)).mpr (by omega)⟩
    | int z =>
      have hl : (M53.intL z).length ≤ 41 := h
      exact ⟨M53.intL z, rfl, hl, cnt_plain (int_plain z), (rb_plain _ _ (int_plain z)).mpr (by omega)⟩
    | _ => exact h.elim
  intro n
  induction n with
  | zero =>
    intro d h
    obtain ⟨t, a, b, c, e⟩ := atom h
    exact ⟨t, a, b, by rw [c]; exact Nat.zero_le _, e⟩
  | succ n ih =>
    intro d h
    have l1 := LL_pos (n + 1)
    cases d with
    | tuple ds =>
      obtain ⟨l, g1, g2, g3, g4⟩ := gen_list fun e m => ih (h.2 e m)
      have h3 : ds.length * (LL n + 1) ≤ 3 * (LL n + 1) := Nat.mul_le_mul_right _ h.1
      have h4 : ds.length * CC n ≤ 3 * CC n := Nat.mul_le_mul_right _ h.1
      refine ⟨91 :: (l ++ [93]), by show (M53.wTs ds).map _ = _; rw [g1]; rfl, ?_, ?_, ?_⟩
      · show _ ≤ 3 * (LL n + 1) + 2
        simp
        omega
      · have e : M53.cnt (91 :: (l ++ [93])) = M53.cnt l + 1 := by
          show M53.cnt ([91] ++ (l ++ [93])) = _
          rw [cnt_append, cnt_append]
          show 1 + (M53.cnt l + 0) = _
          omega
        rw [e]
        show _ ≤ 3 * CC n + 1
        omega
      · show (decide (0 ≤ 41) && rb 41 0 (l ++ [93])) = true
        rw [rb_append, g4]
        show (true && (true && (decide (er 0 l ≤ 41) && decide (0 ≤ 41)))) = true
        rw [decide_eq_true (rb_er g4)]
        rfl
    | str s =>
      obtain ⟨t, a, b, c, e⟩ := atom (d := .str s) h
      exact ⟨t, a, by omega, by omega, e⟩
    | int z =>
      obtain ⟨t, a, b, c, e⟩ := atom (d := .int z) h
      exact ⟨t, a, by omega, by omega, e⟩
    | _ => exact h.elim
/-! ### a bent text -/
theorem bend {t a m b : List Nat} (ha : ∃ x, t = a ++ x) (hb : ∃ x, t = x ++ b) (hm : m.length ≤ 1) (h : rb 41 0 t = true) : rb 83 0 ((a ++ m ++ b) ++ [59]) = true := by
  obtain ⟨x, ex⟩ := ha
  obtain ⟨y, ey⟩ := hb
  have h1 : rb 41 0 a = true := by
    rw [ex, rb_append, Bool.and_eq_true] at h
    exact h.1
  have h2 : rb 41 0 b = true := by
    rw [ey, rb_append, Bool.and_eq_true] at h
    exact rb_mono (j := 0) (Nat.le_refl _) h.2 (Nat.zero_le _)
  have e1 := rb_er h1
  have h3 : rb 83 0 a = true := rb_mono (j := 42) (Nat.le_refl _) h1 (by omega)
  have key : rb 83 (er 0 a) m = true ∧ er (er 0 a) m ≤ 42 := by
    cases m with
    | nil => exact ⟨decide_eq_true (by omega), by show er 0 a ≤ 42; omega⟩
    | cons c r =>
      cases r with
      | cons _ _ => simp at hm
      | nil =>
        by_cases hc : dl c = true
        · refine ⟨?_, ?_⟩
          · show (decide (er 0 a ≤ 83) && decide ((if dl c then 0 else er 0 a + 1) ≤ 83)) = true
            rw [if_pos hc, decide_eq_true (by omega)]
            rfl
          · show (if dl c then 0 else er 0 a + 1) ≤ 42
            rw [if_pos hc]
            omega
        · refine ⟨?_, ?_⟩
          · show (decide (er 0 a ≤ 83) && decide ((if dl c then 0 else er 0 a + 1) ≤ 83)) = true
            rw [if_neg hc, decide_eq_true (by omega), decide_eq_true (by omega)]
            rfl
          · show (if dl c then 0 else er 0 a + 1) ≤ 42
            rw [if_neg hc]
            omega
  have er_app : ∀ (p q : List Nat) (c : Nat), er c (p ++ q) = er (er c p) q := by
    intro p
    induction p with
    | nil => intro q c; rfl
    | cons x p ih => intro q c; exact ih q _
  have h4 : rb 83 (er (er 0 a) m) b = true := rb_mono (j := 42) (Nat.le_refl _) h2 (by omega)
  rw [rb_append, rb_append, rb_append, h3, key.1, er_app, h4]
  have e5 := rb_er h4
  show (true && true && true && (decide (er 0 (a ++ m ++ b) ≤ 83) && decide (0 ≤ 83))) = true
  rw [er_app, er_app, decide_eq_true e5]
  rfl
theorem rb_init {B c : Nat} {a b : List Nat} (h : rb B c (a ++ b) = true) : rb B c a = true := by
  rw [rb_append, Bool.and_eq_true] at h
  exact h.1
/-! ### data that is written within runs -/
mutual
theorem okI_wT {B : Nat} : ∀ {d : PyData} {t : List Nat}, M53.wT d = some t → rb B 0 t = true → okI B d = true
  | .tuple ds, t, h, g => by
    have h' : ((M53.wTs ds).map fun l => 91 :: (l ++ [93])) = some t := h
    cases q : M53.wTs ds with
    | none => rw [q] at h'; cases h'
    | some l =>
      rw [q] at h'
      cases h'
      have g1 : rb B 0 (l ++ [93]) = true := rb_tail g
      exact okIs_wT q (rb_init g1)
  | .str s, t, h, g => rfl
  | .int z, t, h, g => by
    cases h
    have := (rb_plain _ _ (int_plain z)).mp g
    exact decide_eq_true (by omega)
  | .none, _, h, _ => by cases h
  | .bool _, _, h, _ => by cases h
  | .list _, _, h, _ => by cases h
  | .dict _, _, h, _ => by cases h
theorem okIs_wT {B : Nat} : ∀ {ds : List PyData} {t : List Nat}, M53.wTs ds = some t → rb B 0 t = true → okIs B ds = true
  | [], t, _, _ => rfl
  | d :: r, t, h, g => by
    have h' : ((M53.wT d).bind fun a => (M53.wTs r).map fun b => if r.isEmpty then a else a ++ 44 :: b) = some t := h
    cases ha : M53.wT d with
    | none => rw [ha] at h'; cases h'
    | some a =>
      cases hb : M53.wTs r with
      | none => rw [ha, hb] at h'; cases h'
      | some b =>
        rw [ha, hb] at h'
        have h2 : (if r.isEmpty then a else a ++ 44 :: b) = t := Option.some.inj h'
        rw [← h2] at g
        show (okI B d && okIs B r) = true
        by_cases hr : r.isEmpty = true
        · rw [if_pos hr] at g
          have : r = [] := List.isEmpty_iff.mp hr
          subst this
          rw [okI_wT ha g]
          rfl
        · rw [if_neg hr, rb_append, Bool.and_eq_true] at g
          rw [okI_wT ha g.1, okIs_wT hb (rb_tail g.2)]
          rfl
end
theorem cnt_tup (l : List Nat) : M53.cnt (91 :: (l ++ [93])) = M53.cnt l + 1 := by
  show M53.cnt ([91] ++ (l ++ [93])) = _
  rw [cnt_append, cnt_append]
  show 1 + (M53.cnt l + 0) = _
  omega
/-- what is needed to show it -/
structure ShowOk (d : PyData) (t : List Nat) : Prop where
  dep : dep d ≤ M53.cnt t
  dpt : d.depth ≤ M53.cnt t
  nod : d.hasDict = false
  shw : d.showable = true
  len : d.shown.length ≤ 12 * t.length
theorem log_lt {z : Int} (h : (M53.intL z).length ≤ 83) : z.natAbs.log2 < 1920 := by
  have h1 := intL_len_lt h
  have h2 : (10 : Nat) ^ 83 < 2 ^ 1920 := by decide +kernel
  by_cases h0 : z.natAbs = 0
  · rw [h0]; decide
  · exact (Nat.log2_lt h0).mpr (Nat.lt_trans h1 h2)
theorem tup_len (ts : List Str) {n : Nat} (h : piled ts ≤ n + 2) : (tupleText ts).length ≤ n + 3 := by
  have h1 : (("(" : Str) ++ Str.join ", " ts).length = 1 + (Str.join ", " ts).length := strLen_append _ _
  have e : (tupleText ts).length = (1 + (Str.join ", " ts).length) + ((if ts.length == 1 then ",)" else ")" : String) : Str).length := by
    rw [← h1]
    exact strLen_append _ _
  rw [e]
  cases ts with
  | nil =>
    have e1 : (Str.join ", " []).length = 0 := rfl
    have e2 : ((if ([] : List Str).length == 1 then ",)" else ")" : String) : Str).length = 1 := rfl
    rw [e1, e2]
    omega
  | cons t r =>
    have e3 : ((if (t :: r).length == 1 then ",)" else ")" : String) : Str).length ≤ 2 := by split <;> decide
    have := join_length_add (t :: r) (by simp)
    omega
mutual
theorem showOk : ∀ {d : PyData} {t : List Nat}, M53.wT d = some t → okI 83 d = true → ShowOk d t
  | .tuple ds, t, h, g => by
    have h' : ((M53.wTs ds).map fun l => 91 :: (l ++ [93])) = some t := h
    cases q : M53.wTs ds with
    | none => rw [q] at h'; cases h'
    | some l =>
      rw [q] at h'
      cases h'
      obtain ⟨a1, a2, a3, a4, a5⟩ := showOks q g
      refine ⟨?_, ?_, a3, a4, ?_⟩
      · rw [cnt_tup]; show deps ds + 1 ≤ _; omega
      · rw [cnt_tup]; show PyData.depthAll ds + 1 ≤ _; omega
      · have := tup_len _ a5
        show (tupleText (PyData.shownAll ds)).length ≤ _
        simp only [List.length_cons, List.length_append, List.length_nil]
        omega
  | .str s, t, h, g => by
    have h' : (if M53.wordL (TL.tl s) then some (TL.tl s) else none) = some t := h
    split at h'
    · rename_i hw
      cases h'
      refine ⟨Nat.zero_le _, Nat.zero_le _, rfl, rfl, ?_⟩
      have h1 := StrLaws.reprText_len s fun c hc => by
        have := List.all_eq_true.mp (word_codes hw) c hc
        have := of_decide_eq_true this
        omega
      have lq := TL.len_tl s
      have h2 : (TL.tl s).length ≥ 1 := List.length_pos_iff.mpr (wT_ne h)
      show (reprText s).length ≤ _
      omega
    · cases h'
  | .int z, t, h, g => by
    cases h
    refine ⟨Nat.zero_le _, Nat.zero_le _, rfl, decide_eq_true (log_lt (of_decide_eq_true g)), ?_⟩
    show (Str.ofString (toString z)).length ≤ _
    rw [strInt, SX.S_len]
    omega
  | .none, _, h, _ => by cases h
  | .bool _, _, h, _ => by cases h
  | .list _, _, h, _ => by cases h
  | .dict _, _, h, _ => by cases h
theorem showOks : ∀ {ds : List PyData} {t : List Nat}, M53.wTs ds = some t → okIs 83 ds = true → deps ds ≤ M53.cnt t ∧ PyData.depthAll ds ≤ M53.cnt t ∧ PyData.hasDictAll ds = false ∧ PyData.showableAll ds = true ∧ piled (PyData.shownAll ds) ≤ 12 * t.length + 2
  | [], t, h, _ => ⟨Nat.zero_le _, Nat.zero_le _, rfl, rfl, Nat.zero_le _⟩
  | d :: r, t, h, g => by
    have h' : ((M53.wT d).bind fun a => (M53.wTs r).map fun b => if r.isEmpty then a else a ++ 44 :: b) = some t := h
    have g' : (okI 83 d && okIs 83 r) = true := g
    rw [Bool.and_eq_true] at g'
    cases ha : M53.wT d with
    | none => rw [ha] at h'; cases h'
    | some a =>
      cases hb : M53.wTs r with
      | none => rw [ha, hb] at h'; cases h'
      | some b =>
        rw [ha, hb] at h'
        have h2 : (if r.isEmpty then a else a ++ 44 :: b) = t := Option.some.inj h'
        have s1 := showOk ha g'.1
        obtain ⟨b1, b2, b3, b4, b5⟩ := showOks hb g'.2
        have e1 : deps (d :: r) = max (dep d) (deps r) := rfl
        have e2 : PyData.depthAll (d :: r) = max d.depth (PyData.depthAll r) := rfl
        have e3 : PyData.hasDictAll (d :: r) = (d.hasDict || PyData.hasDictAll r) := rfl
        have e4 : PyData.showableAll (d :: r) = (d.showable && PyData.showableAll r) := rfl
        have e5 : piled (PyData.shownAll (d :: r)) = (d.shown.length + 2) + piled (PyData.shownAll r) := piled_cons _ _
        rw [e1, e2, e3, e4, e5, s1.nod, s1.shw, b3, b4, ← h2]
        have k1 := s1.dep
        have k2 := s1.dpt
        have k3 := s1.len
        by_cases hr : r.isEmpty = true
        · rw [if_pos hr]
          have : r = [] := List.isEmpty_iff.mp hr
          subst this
          cases hb
          have c1 : deps [] = 0 := rfl
          have c2 : PyData.depthAll [] = 0 := rfl
          have c3 : piled (PyData.shownAll []) = 0 := rfl
          rw [c1, c2, c3]
          exact ⟨by omega, by omega, rfl, rfl, by omega⟩
        · rw [if_neg hr, cnt_append]
          have c4 : M53.cnt (44 :: b) = M53.cnt b := rfl
          rw [c4, List.length_append, List.length_cons]
          exact ⟨by omega, by omega, rfl, rfl, by omega⟩
end
end K53

namespace K53
open PySem
/-! ### both readers on a text of short runs -/
theorem progRead_eq {l : List Nat} (h : rb 4000 0 l = true) (h59 : 59 ∉ l) (hc : M53.cnt l ≤ 1000) : M53.progRead l = M53.lawRead l :=
  (M53.read_same h59 (rb_pcs (by decide) l [] h h59) hc).symm
/-! ### nines -/
def nin (n : Nat) : List Nat := List.replicate n 57
theorem nin_succ (n : Nat) : nin (n + 1) = nin n ++ [57] := List.replicate_succ'
theorem nin_val : ∀ n, NumText.digitsVal (nin n) + 1 = 10 ^ n
  | 0 => rfl
  | n + 1 => by
    rw [nin_succ, M53.dv_snoc, Nat.pow_succ]
    have := nin_val n
    omega
theorem nin_dig (n : Nat) : ∀ c ∈ nin n, c = 57 := fun c m => List.eq_of_mem_replicate m
theorem nin_all (n : Nat) : (nin n).all M53.isDig = true := List.all_eq_true.mpr fun c m => by rw [nin_dig n c m]; rfl
theorem nin_natL (n : Nat) : M53.natL (nin (n + 1)) = true := by
  show M53.natL (57 :: nin n) = true
  show (M53.isDig 57 && (nin n).all M53.isDig && ((57 : Nat) != 48 || (nin n).isEmpty)) = true
  rw [nin_all]
  rfl
theorem nin_len (n : Nat) : (nin n).length = n := List.length_replicate
theorem nin_int : M53.intL (NumText.digitsVal (nin 4000) : Int) = nin 4000 := by
  unfold M53.intL
  rw [if_neg (by omega)]
  exact M53.numL_of _ _ rfl (nin_natL 3999)
theorem pw_int (z : Int) : pw 1 (.int z) = if z.natAbs < 10 ^ 4000 then some (M53.intL z) else none := by simp only [pw]
theorem pw_nin : pw 1 (.int (NumText.digitsVal (nin 4000) : Int)) = some (nin 4000) := by
  have h : (NumText.digitsVal (nin 4000) : Int).natAbs < 10 ^ 4000 := by
    have := nin_val 4000
    generalize (10 : Nat) ^ 4000 = k at *
    omega
  rw [pw_int, if_pos h, nin_int]
theorem pw_big : pw 1 (.int ((NumText.digitsVal (nin 4000) : Int) + 1)) = none := by
  have h : ¬ ((NumText.digitsVal (nin 4000) : Int) + 1).natAbs < 10 ^ 4000 := by
    have := nin_val 4000
    generalize (10 : Nat) ^ 4000 = k at *
    omega
  rw [pw_int, if_neg h]
theorem nin_text : intText? (SX.S (nin 4000)) = some (NumText.digitsVal (nin 4000) : Int) :=
  PySem.intText_digits (x := SX.S (nin 4000)) (all_digs (nin_all 4000)) (fun e => by have := congrArg List.length e; rw [show ((SX.S (nin 4000)).cps.toList) = nin 4000 from rfl, nin_len] at this; cases this) (by rw [SX.S_len, nin_len]; decide)
theorem pcs_one {l : List Nat} (h : ∀ c ∈ l, M53.isDel c = false) : ∀ cur, cur ++ l ≠ [] → M53.pcs cur l = [cur ++ l] := by
  induction l with
  | nil =>
    intro cur hne
    rw [List.append_nil] at hne ⊢
    exact if_neg hne
  | cons c r ih =>
    intro cur hne
    show (if M53.isDel c then _ else M53.pcs (cur ++ [c]) r) = _
    rw [if_neg (by rw [h c List.mem_cons_self]; exact Bool.false_ne_true), ih (fun x m => h x (List.mem_cons_of_mem _ m)) (cur ++ [c]) (by simp)]
    simp
theorem read_one {l : List Nat} (h : ∀ c ∈ l, M53.isDel c = false) (hne : l ≠ []) : M53.progRead l = M53.atomP l := by
  have e := pcs_one h [] (by simpa using hne)
  rw [List.nil_append] at e
  unfold M53.progRead
  rw [e]
  show ((M53.takeP ⟨[], true, []⟩ l).bind fun s' => some s').bind M53.endP = _
  have n : ∀ c, M53.isDel c = true → l ≠ [c] := fun c hc e => by
    have := h c (by rw [e]; exact List.mem_cons_self)
    rw [hc] at this
    cases this
  unfold M53.takeP
  rw [if_neg (n 91 rfl), if_neg (n 93 rfl), if_neg (n 44 rfl)]
  cases M53.atomP l with
  | none => rfl
  | some d => rfl
theorem dash_read : ∃ d, M53.progRead (45 :: nin 4000) = some d := by
  rw [read_one (fun c m => ?_) (by simp)]
  · have e : M53.atomP (45 :: nin 4000) = (M53.wholeP (45 :: nin 4000)).map .int := rfl
    have e2 : M53.wholeP (45 :: nin 4000) = if (nin 4000).length ≤ 4000 then M53.numOf (45 :: nin 4000) else none := rfl
    rw [e, e2, if_pos (by rw [nin_len]; exact Nat.le_refl _), M53.numOf_neg, if_pos]
    · exact ⟨_, rfl⟩
    · rw [nin_natL 3999, Bool.true_and, bne_iff_ne]
      intro q
      have := congrArg List.length q
      rw [nin_len] at this
      cases this
  · rcases List.mem_cons.mp m with e | m
    · rw [e]; rfl
    · rw [nin_dig _ c m]; rfl
theorem long_read : M53.progRead (nin 4000 ++ [48]) = none := by
  rw [read_one (fun c m => ?_) (by simp)]
  · have hb : bodyOf (nin 4000 ++ [48]) = nin 4000 ++ [48] := rfl
    have hw : M53.wholeP (nin 4000 ++ [48]) = none := by
      rw [whole_eq, hb, if_neg]
      rw [List.length_append, nin_len]
      simp
    have hwd : M53.wordL (nin 4000 ++ [48]) = false := rfl
    unfold M53.atomP
    rw [if_neg (by rw [hwd]; exact Bool.false_ne_true), hw]
    rfl
  · rcases List.mem_append.mp m with m | m
    · rw [nin_dig _ c m]; rfl
    · rw [List.mem_singleton.mp m]; rfl
/-! ### deep -/
def nestD : Nat → PyData
  | 0 => .tuple []
  | n + 1 => .tuple [nestD n]
def brk (n : Nat) : List Nat := List.replicate n 91 ++ List.replicate n 93
theorem brk_succ (n : Nat) : brk (n + 1) = 91 :: (brk n ++ [93]) := by
  unfold brk
  rw [List.replicate_succ, List.replicate_succ' (n := n) (a := 93)]
  simp
theorem wT_nest : ∀ n, M53.wT (nestD n) = some (brk (n + 1))
  | 0 => rfl
  | n + 1 => by
    have h := wT_nest n
    show ((M53.wT (nestD n)).bind fun a => some a).map (fun l => 91 :: (l ++ [93])) = _
    rw [h, brk_succ (n + 1)]
    rfl
theorem dep_nest : ∀ n, dep (nestD n) = n + 1
  | 0 => rfl
  | n + 1 => by
    show max (dep (nestD n)) 0 + 1 = _
    rw [dep_nest n]
    omega
theorem okI_nest : ∀ n, okI 4000 (nestD n) = true
  | 0 => rfl
  | n + 1 => by
    show (okI 4000 (nestD n) && true) = true
    rw [okI_nest n]
    rfl
theorem flat_nest : ∀ n, flat (nestD n) = true
  | 0 => rfl
  | n + 1 => by
    show (flat (nestD n) && true) = true
    rw [flat_nest n]
    rfl
theorem wgt_nest : ∀ n, wgt (nestD n) = 2 + 3 * n
  | 0 => rfl
  | n + 1 => by
    show 2 + (wgt (nestD n) + 1 + 0) = _
    rw [wgt_nest n]
    omega
theorem pw_nest999 : pw 1 (nestD 999) = some (brk 1000) := by
  rw [pw_eq _ _ (by rw [dep_nest]; decide) (okI_nest _)]
  exact wT_nest 999
theorem pw_nest_none : ∀ n k, 1001 ≤ k + n → pw k (nestD n) = none
  | 0, k, h => by
    show (if k ≤ 1000 then _ else none) = none
    rw [if_neg (by omega)]
  | n + 1, k, h => by
    show (if k ≤ 1000 then ((pw (k + 1) (nestD n)).bind fun a => some a).map _ else none) = none
    rw [pw_nest_none n (k + 1) (by omega)]
    split <;> rfl
theorem rb_dels {B : Nat} : ∀ (l : List Nat) (c : Nat), c ≤ B → (∀ x ∈ l, dl x = true) → rb B c l = true
  | [], c, h, _ => decide_eq_true h
  | x :: r, c, h, hd => by
    show (decide (c ≤ B) && rb B (if dl x then 0 else c + 1) r) = true
    rw [decide_eq_true h, if_pos (hd x List.mem_cons_self), rb_dels r 0 (Nat.zero_le _) fun y m => hd y (List.mem_cons_of_mem _ m)]
    rfl
theorem brk_mem {n x : Nat} (h : x ∈ brk n) : x = 91 ∨ x = 93 := by
  rcases List.mem_append.mp h with m | m
  · exact .inl (List.eq_of_mem_replicate m)
  · exact .inr (List.eq_of_mem_replicate m)
theorem cnt_brk (n : Nat) : M53.cnt (brk n) = n := by
  induction n with
  | zero => rfl
  | succ n ih => rw [brk_succ, cnt_tup, ih]
theorem deep_read : M53.progRead (brk 1000) = some (nestD 999) := by
  rw [progRead_eq (rb_dels _ 0 (Nat.zero_le _) fun x m => by rcases brk_mem m with e | e <;> rw [e] <;> rfl) (fun m => by rcases brk_mem m with e | e <;> cases e) (by rw [cnt_brk]; exact Nat.le_refl _)]
  exact lawRead_wT (wT_nest 999)
theorem pcs_opens (r : List Nat) : ∀ n, M53.pcs [] (List.replicate n 91 ++ r) = List.replicate n [91] ++ M53.pcs [] r
  | 0 => rfl
  | n + 1 => by
    rw [List.replicate_succ, List.replicate_succ]
    show (if M53.isDel 91 then ([] ++ [91] :: M53.pcs [] (List.replicate n 91 ++ r)) else _) = _
    rw [if_pos (show M53.isDel 91 = true from rfl), pcs_opens r n]
    rfl
theorem opens_fail : ∀ (m : Nat) (rows : List (List PyData)), rows.length ≤ 1000 → 1000 < rows.length + m → M53.runP ⟨rows, true, []⟩ (List.replicate m [91]) = none
  | 0, rows, h1, h2 => by omega
  | m + 1, rows, h1, h2 => by
    rw [List.replicate_succ]
    show (M53.takeP ⟨rows, true, []⟩ [91]).bind (fun s' => M53.runP s' (List.replicate m [91])) = none
    have e : M53.takeP ⟨rows, true, []⟩ [91] = M53.openP ⟨rows, true, []⟩ := rfl
    rw [e]
    unfold M53.openP
    by_cases h : rows.length < 1000
    · rw [if_pos (by simpa using h)]
      exact opens_fail m ([] :: rows) (by rw [List.length_cons]; omega) (by rw [List.length_cons]; omega)
    · rw [if_neg (by simpa using h)]
      rfl
theorem deep_fail : M53.progRead (brk 1001) = none := by
  unfold M53.progRead brk
  rw [pcs_opens, M53.runP_append, opens_fail 1001 [] (by decide) (by decide)]
  rfl
end K53

namespace K53
open PySem L2 Ux
open C8 (pe_gc)
local macro_rules | `(tactic| walk_at "rd") => `(tactic| with_reducible first
  | refine Rd.c ?_ | refine Rd.cb ?_ | refine Rd.cons ?_ | refine Rd.nil ?_ | refine Rd.op ?_ | refine Rd.un ?_ | refine Rd.test ?_ | refine Rd.tb_ ?_ | refine Rd.isb ?_ | refine Rd.and ?_ | refine Rd.or ?_ | refine Rd.not ?_
  | refine Rd.andV ?_ | refine Rd.orV ?_ | refine Rd.notV ?_ | refine Rd.ifx ?_ | refine Rd.tup ?_ | refine Rd.lst ?_ | refine Rd.bm ?_ | refine Rd.bm0 ?_ | refine Rd.m1 ?_ | refine Rd.call ?_ | refine Rd.callS ?_ | refine Rd.slice ?_ | refine Rd.nopart ?_ | refine Rd.part ?_ | refine Rd.isi ?_
  | refine Rd.i0 ?_ | refine Rd.iu ?_ | refine Ux.add_i ?_ | refine Ux.eq_i ?_ | refine Ux.ne_i ?_ | refine Ux.eq_s ?_ | refine Ux.ne_s ?_ | refine Ux.le_i ?_ | refine Ux.le_s ?_ | refine Ux.ge_i ?_ | refine Ux.int_i ?_ | refine Ux.in_c ?_ | refine Ux.nin_c ?_ | refine Rd.abs_ ?_ | refine Rd.lc ?_ | refine Rd.iStr ?_ | refine Rd.iss ?_ | refine Rd.iList ?_ | refine Rd.for_ ?_ | refine Rd.gs ?_ | refine Rd.par3 ?_ | refine Rd.is3 ?_ | refine Rd.iTup ?_ | refine Rd.asgG ?_ | refine Rd.fld ?_ | refine Rd.sfld ?_ | refine Rd.meth ?_ | refine Rd.gn ?_ | refine Rd.rng1 ?_ | refine Rd.rng2 ?_ | refine Rd.rng3 ?_ | refine Rd.enumS ?_ | refine Rd.enumSn ?_
  | refine Rd.seq ?_ | refine Rd.next ?_ | refine Rd.brk ?_ | refine Rd.cont ?_ | refine Rd.drop ?_ | refine Rd.ret ?_ | refine Rd.retN ?_ | refine Rd.ifs ?_ | refine Rd.asg ?_ | refine Rd.par ?_ | refine Rd.is2 ?_)
local macro_rules | `(tactic| walk_at "rv") => `(tactic| first
  | ((with_reducible refine' Rd.var ?zvar ?_); (case zvar => rfl)) | walk_at "rd" | (with_reducible refine Rd.chain ?_))
local macro_rules | `(tactic| walk_at "rw") => `(tactic| first
  | ((with_reducible refine' Rd.var ?zvar ?_); (case zvar => rfl)) | walk_at "rd")

mutual
theorem wgt_wT : ∀ {d : PyData} {t : List Nat}, M53.wT d = some t → wgt d ≤ 3 * t.length
  | .tuple ds, t, h => by
    have h' : ((M53.wTs ds).map fun l => 91 :: (l ++ [93])) = some t := h
    cases q : M53.wTs ds with
    | none => rw [q] at h'; cases h'
    | some l =>
      rw [q] at h'
      cases h'
      have := wgts_wT q
      show 2 + wgts ds ≤ _
      simp only [List.length_cons, List.length_append, List.length_nil]
      omega
  | .str s, t, h => by
    have h1 := List.length_pos_iff.mpr (wT_ne h)
    have h' : (if M53.wordL (TL.tl s) then some (TL.tl s) else none) = some t := h
    split at h'
    · cases h'
      show 1 + s.length ≤ _
      rw [TL.len_tl]
      omega
    · cases h'
  | .int z, t, h => by
    have h1 := List.length_pos_iff.mpr (wT_ne h)
    show 1 ≤ _
    omega
  | .none, _, h => by cases h
  | .bool _, _, h => by cases h
  | .list _, _, h => by cases h
  | .dict _, _, h => by cases h
theorem wgts_wT : ∀ {ds : List PyData} {t : List Nat}, M53.wTs ds = some t → wgts ds ≤ 3 * t.length + 1
  | [], t, h => Nat.zero_le _
  | d :: r, t, h => by
    have h' : ((M53.wT d).bind fun a => (M53.wTs r).map fun b => if r.isEmpty then a else a ++ 44 :: b) = some t := h
    cases ha : M53.wT d with
    | none => rw [ha] at h'; cases h'
    | some a =>
      cases hb : M53.wTs r with
      | none => rw [ha, hb] at h'; cases h'
      | some b =>
        rw [ha, hb] at h'
        have h2 : (if r.isEmpty then a else a ++ 44 :: b) = t := Option.some.inj h'
        have e1 := wgt_wT ha
        have e2 := wgts_wT hb
        have e : wgts (d :: r) = wgt d + 1 + wgts r := rfl
        rw [e, ← h2]
        by_cases hr : r.isEmpty = true
        · have : r = [] := List.isEmpty_iff.mp hr
          subst this
          have : wgts [] = 0 := rfl
          rw [if_pos hr]
          omega
        · rw [if_neg hr, List.length_append, List.length_cons]
          omega
end
theorem eqv_str1 (x : Str) : PyData.eqv (.list [.str x]) (.list [.str x]) = true := by simp [PyData.eqv, PyData.eqvAll]
theorem shaped_str1 {t : List Nat} (h : t.all (fun c => decide (c < 128)) = true) : SeqAt.shaped (.list [.str (SX.S t)]) = true := shaped_strs (ts := [t]) fun x m => by rw [List.mem_singleton.mp m]; exact h
/-- a list of one, shown -/
theorem repr1 {K : PySem.W.Frag} {H : Hp} {Q : VK} {p : Addr} {v : V} {d : PyData} {t : List Nat} (hp : H p = some (.lst [v])) (hd : Dp K H v d) (S : ShowOk d t) (hl : t.length ≤ 100000) (hc : M53.cnt t ≤ 1000) (q : Q (.str (PyData.shown (.list [d]))) H) : rRepr K [.ref p] H Q := by
  refine ⟨_, .list [d], rfl, .lst (.inl (.inl hp)) (.cons hd .nil), ?_, ?_, ?_, ?_, q⟩
  · show (d.showable && true) = true
    rw [S.shw]
    rfl
  · show (d.hasDict || false) = false
    rw [S.nod]
    rfl
  · rw [PyProof.Rows.shownLen_list1]
    have := S.len
    have : 12 * 100000 + 2 ≤ sizeLine := by decide
    omega
  · show max d.depth 0 + 1 ≤ 4000
    have := S.dpt
    omega
theorem repr0 {K : PySem.W.Frag} {H : Hp} {Q : VK} (q : Q (.str (PyData.shown .none)) H) : rRepr K [.non] H Q := ⟨_, .none, rfl, .non, rfl, rfl, by decide +kernel, Nat.zero_le _, q⟩
/-- a text that is bent -/
structure Bent (l : List Nat) : Prop where
  len : l.length ≤ 20000
  run : rb 83 0 (l ++ [59]) = true
  no59 : 59 ∉ l
  cnt : M53.cnt l ≤ 122
theorem Bent.run4 {l : List Nat} (B : Bent l) : rb 4000 0 (l ++ [59]) = true := rb_mono (j := 3917) (by decide) B.run (Nat.zero_le _)
theorem Bent.read {l : List Nat} (B : Bent l) : M53.progRead l = M53.lawRead l := progRead_eq (rb_init B.run4) B.no59 (Nat.le_trans B.cnt (by decide))
theorem bent_of {t a m b : List Nat} (ha : ∃ x, t = a ++ x) (hb : ∃ x, t = x ++ b) (hab : a.length + b.length ≤ t.length) (hc : M53.cnt a + M53.cnt b ≤ M53.cnt t) (hm : m.length ≤ 1) (hm59 : 59 ∉ m) (h : rb 41 0 t = true) (hl : t.length ≤ 10600) (h59 : 59 ∉ t) (hk : M53.cnt t ≤ 121) : Bent (a ++ m ++ b) := by
  refine ⟨?_, bend ha hb hm h, ?_, ?_⟩
  · rw [List.length_append, List.length_append]
    omega
  · obtain ⟨x, ex⟩ := ha
    obtain ⟨y, ey⟩ := hb
    intro q
    rcases List.mem_append.mp q with q | q
    · rcases List.mem_append.mp q with q | q
      · exact h59 (by rw [ex]; exact List.mem_append_left _ q)
      · exact hm59 q
    · exact h59 (by rw [ey]; exact List.mem_append_right _ q)
  · rw [cnt_append, cnt_append]
    have : M53.cnt m ≤ m.length := List.countP_le_length
    omega
theorem cnt_drop (t : List Nat) (i j : Nat) (h : i ≤ j) : M53.cnt (t.take i) + M53.cnt (t.drop j) ≤ M53.cnt t := by
  have e : t = t.take i ++ ((t.drop i).take (j - i) ++ t.drop j) := by
    have e1 : t.drop j = (t.drop i).drop (j - i) := by rw [List.drop_drop]; congr 1; omega
    rw [e1, List.take_append_drop, List.take_append_drop]
  have : M53.cnt t = M53.cnt (t.take i ++ ((t.drop i).take (j - i) ++ t.drop j)) := by rw [← e]
  rw [this, cnt_append, cnt_append]
  omega
theorem nines : ∃ (N : List Nat) (z : Int), MulOk "9" 4000 ∧ Txt.mul "9" 4000 = SX.S N ∧ N.length = 4000 ∧ intText? (SX.S N) = some z ∧ pw 1 (.int z) = some N ∧ pw 1 (.int (z + 1)) = none ∧ (∃ d, M53.progRead (45 :: N) = some d) ∧ M53.progRead (N ++ [48]) = none ∧ N.all (fun c => decide (c < 128)) = true := by
  refine ⟨nin 4000, _, ?_, TL.ext_tl ?_, nin_len _, nin_text, pw_nin, pw_big, dash_read, long_read, List.all_eq_true.mpr fun c m => by rw [nin_dig _ c m]; rfl⟩
  · refine ⟨by decide, fun _ _ => by decide, fun _ _ => by decide +kernel⟩
  · exact PyProof.Rows.mul_one_list 57 4000
theorem deeps : ∃ Bx By B1x B1y : List Nat, MulOk "[" 1000 ∧ MulOk "]" 1000 ∧ MulOk "[" 1001 ∧ MulOk "]" 1001 ∧ Txt.mul "[" 1000 = SX.S Bx ∧ Txt.mul "]" 1000 = SX.S By ∧ Txt.mul "[" 1001 = SX.S B1x ∧ Txt.mul "]" 1001 = SX.S B1y ∧
    Bx.length = 1000 ∧ By.length = 1000 ∧ B1x.length = 1001 ∧ B1y.length = 1001 ∧ M53.progRead (Bx ++ By) = some (nestD 999) ∧ M53.progRead (B1x ++ B1y) = none ∧ pw 1 (nestD 999) = some (Bx ++ By) ∧ pw 1 (.tuple [nestD 999]) = none ∧
    (Bx ++ By).all (fun c => decide (c < 128)) = true ∧ flat (nestD 999) = true ∧ wgt (nestD 999) ≤ sizeLine ∧ wgt (.tuple [nestD 999]) ≤ sizeLine := by
  refine ⟨List.replicate 1000 91, List.replicate 1000 93, List.replicate 1001 91, List.replicate 1001 93, ?_, ?_, ?_, ?_, TL.ext_tl (PyProof.Rows.mul_one_list 91 1000), TL.ext_tl (PyProof.Rows.mul_one_list 93 1000), TL.ext_tl (PyProof.Rows.mul_one_list 91 1001), TL.ext_tl (PyProof.Rows.mul_one_list 93 1001),
    List.length_replicate, List.length_replicate, List.length_replicate, List.length_replicate, deep_read, deep_fail, pw_nest999, pw_nest_none 1000 1 (by decide), List.all_eq_true.mpr fun c m => ?_, flat_nest 999, by rw [wgt_nest]; decide, by rw [show PyData.tuple [nestD 999] = nestD 1000 from rfl, wgt_nest]; decide⟩
  · exact ⟨by decide, fun _ _ => by decide, fun _ _ => by decide +kernel⟩
  · exact ⟨by decide, fun _ _ => by decide, fun _ _ => by decide +kernel⟩
  · exact ⟨by decide, fun _ _ => by decide, fun _ _ => by decide +kernel⟩
  · exact ⟨by decide, fun _ _ => by decide, fun _ _ => by decide +kernel⟩
  · rcases brk_mem (n := 1000) m with e | e <;> rw [e] <;> rfl
section
variable {P : Program} {w : World} {K : PySem.W.Frag} {mg : Str → Option Value} {base : Heap} {M C : Addr}
abbrev s_law : Stmt := topS 27
abbrev N_law : List Str := ["script", "draw", "turn", "data", "text", "again", "i", "sign", "other", "due", "bad", "long", "deep", "value"]
theorem sc_law : FnScope N_law ["script"] (defScope s_law) := ⟨rfl, rfl, rfl, by decide +kernel, rfl, by decide +kernel, by decide +kernel⟩
def sp_law (K : PySem.W.Frag) : Sp := fun vs H Q _ => ∃ (a : Addr) (ns : List Int), vs = [.ref a] ∧ SqL K H a (ns.map V.int) ∧ ns.length ≤ sizeLine ∧ ∀ H', Q (.bl true) H'
def bends (t : List Nat) (i c : Nat) : List V := [.str (SX.S (t.take i ++ [c] ++ t.drop i)), .str (SX.S (t.take i ++ t.drop (i + 1))), .str (SX.S (t.take i ++ [c] ++ t.drop (i + 1)))]
theorem bends_ok {t : List Nat} {i c : Nat} (hc : c ≠ 59) (h : rb 41 0 t = true) (hl : t.length ≤ 10600) (h59 : 59 ∉ t) (hk : M53.cnt t ≤ 121) (hi : i ≤ t.length) : ∀ x ∈ bends t i c, ∃ l, x = .str (SX.S l) ∧ Bent l := by
  have a1 : ∃ x, t = t.take i ++ x := ⟨_, (List.take_append_drop i t).symm⟩
  have b1 : ∀ j, ∃ x, t = x ++ t.drop j := fun j => ⟨_, (List.take_append_drop j t).symm⟩
  have m1 : 59 ∉ [c] := fun m => hc (List.mem_singleton.mp m).symm
  have l1 : ∀ j, i ≤ j → (t.take i).length + (t.drop j).length ≤ t.length := fun j hj => by rw [List.length_take, List.length_drop]; omega
  intro x hx
  unfold bends at hx
  simp only [List.mem_cons, List.not_mem_nil, or_false] at hx
  rcases hx with rfl | rfl | rfl
  · exact ⟨_, rfl, bent_of a1 (b1 i) (l1 i (Nat.le_refl _)) (cnt_drop t i i (Nat.le_refl _)) (Nat.le_refl _) m1 h hl h59 hk⟩
  · refine ⟨_, rfl, ?_⟩
    have := bent_of (m := []) a1 (b1 (i + 1)) (l1 _ (Nat.le_succ _)) (cnt_drop t i (i + 1) (Nat.le_succ _)) (Nat.zero_le _) List.not_mem_nil h hl h59 hk
    rw [List.append_nil] at this
    exact this
  · exact ⟨_, rfl, bent_of a1 (b1 (i + 1)) (l1 _ (Nat.le_succ _)) (cnt_drop t i (i + 1) (Nat.le_succ _)) (Nat.le_refl _) m1 h hl h59 hk⟩
theorem ok_law {f : Addr} {fd : FuncData} (F : Fun K "law" "law" s_law f fd) (T : Txt K mg M) (F_law_draw : Cl P w K mg base 1 "_law_draw" (sp_draw K)) (F_law_take : Cl P w K mg base 1 "_law_take" sp_lawtake)
    (F_law_data : Cl P w K mg base 7 "_law_data" (spd K 6)) (F_law_written : Cl P w K mg base 131 "_law_written" (spw K 130)) (F_law_read : Cl P w K mg base 2 "_law_read" (sp_law_read K)) (F_law_told : Cl P w K mg base 5 "_law_told" (sp_told K)) :
    RunG P w K mg base f fd ["script"] (sp_law K) := by
  refine Ux.Fun.runG F (k := 131) sc_law (fun vs H Q E h => ?_) ⟨rfl, by decide, by decide⟩ (fun cdv s H vs Q E hr h => ?_)
  · obtain ⟨_, _, rfl, _⟩ := h
    rfl
  · obtain ⟨a, ns, rfl, ha, hns, q⟩ := h
    have nd := sc_law.nd
    have hu2 : (callerA.deeper (PyProof.Rows.envOfC "law" (defScope s_law) s.heap.objs.size f cdv)).units + 4001 < cLine := by
      show 4 + 3 + 4001 < cLine
      decide
    refine ⟨_, (pss_cons (ps_set (i := 1) nd rfl (.inl rfl) (pcall F_law_draw hr (by decide) rfl outX (pa_cons (pv 0) pa_nil)))
  (pss_cons (ps_for (passes_of rfl) rfl (pi_range1 rfl T.b_range (pa_cons pe_int pa_nil)) (pg_name (i := 2) nd rfl (.inl rfl))
  (pss_cons (ps_set (i := 3) nd rfl (.inl rfl) (pcall F_law_data hr (by decide) rfl outX (pa_cons (pv 1) (pa_cons pe_int pa_nil))))
  (pss_cons (ps_set (i := 4) nd rfl (.inl rfl) (pcall F_law_written hr (by decide) rfl outX (pa_cons (pv 3) pa_nil)))
  (pss_cons (ps_if (PW.pt (pw_or (pt_cmpR (op_neU hr.units) (pcall F_law_told hr (by decide) rfl outX (pa_cons pe_int (pa_cons (pv 3) pa_nil))) (pe_lst (pa_cons (pv 4) pa_nil)) (nomark _)) (pw_or1 (pt_cmpR (op_neU hr.units) (pe_callB (call_reprD rfl hu2) rfl T.b_repr bb_repr (pa_cons (pcall F_law_told hr (by decide) rfl outX (pa_cons pe_int (pa_cons (pv 4) pa_nil))) pa_nil)) (pe_callB (call_reprD rfl hu2) rfl T.b_repr bb_repr (pa_cons (pe_lst (pa_cons (pv 3) pa_nil)) pa_nil)) (nomark _)))))
  (pss_one (ps_ret pe_bl))
  pss_nil)
  (pss_one (ps_for (passes_of rfl) rfl (pi_range1 rfl T.b_range (pa_cons pe_int pa_nil)) (pg_name (i := 5) nd rfl (.inl rfl))
  (pss_cons (ps_par (i := 6) (j := 7) rfl nd rfl rfl (by decide) rfl rfl (pa_cons (pcall F_law_take hr (by decide) rfl outX (pa_cons (pv 1) (pa_cons (pe_op op_addU (pe_callB call_lenU rfl T.b_len bb_len (pa_cons (pv 4) pa_nil)) pe_int) pa_nil))) (pa_cons (pe_ix ix_seq pe_str (pcall F_law_take hr (by decide) rfl outX (pa_cons (pv 1) (pa_cons pe_int pa_nil))) (fun _ _ => rfl)) pa_nil)) (by rfl))
  (pss_one (ps_for (passes_of rfl) rfl (pi_list (pe_lst (pa_cons (pe_op op_addU (pe_op op_addU (pe_slice sl_U (pv 4) po_none (po_some (pv 6))) (pv 7)) (pe_slice sl_U (pv 4) (po_some (pv 6)) po_none)) (pa_cons (pe_op op_addU (pe_slice sl_U (pv 4) po_none (po_some (pv 6))) (pe_slice sl_U (pv 4) (po_some (pe_op op_addU (pv 6) pe_int)) po_none)) (pa_cons (pe_op op_addU (pe_op op_addU (pe_slice sl_U (pv 4) po_none (po_some (pv 6))) (pv 7)) (pe_slice sl_U (pv 4) (po_some (pe_op op_addU (pv 6) pe_int)) po_none)) pa_nil))))) (pg_name (i := 8) nd rfl (.inl rfl))
  (pss_cons (ps_set (i := 9) nd rfl (.inl rfl) (pcall F_law_read hr (by decide) rfl outX (pa_cons (pv 8) pa_nil)))
  (pss_one (ps_if (pt_cmpR (op_neU hr.units) (pe_callB (call_reprD rfl hu2) rfl T.b_repr bb_repr (pa_cons (pcall F_law_told hr (by decide) rfl outX (pa_cons pe_int (pa_cons (pv 8) pa_nil))) pa_nil)) (pe_callB (call_reprD rfl hu2) rfl T.b_repr bb_repr (pa_cons (pe_ifExp (PW.pt (pw_and (pt_cmpR op_notN (pv 9) pe_non (nomark _)) (pw_and1 (pt_cmpR (op_eqU hr.units) (pcall F_law_written hr (by decide) rfl outX (pa_cons (pe_ix ix_seq (pv 9) pe_int (fun _ _ => rfl)) pa_nil)) (pv 8) (nomark _))))) (pv 9) pe_non) pa_nil)) (nomark _))
  (pss_one (ps_ret pe_bl))
  pss_nil))))))))))))
  (pss_cons (ps_for (passes_of rfl) rfl (pi_list (pe_lst (pa_cons pe_non (pa_cons pe_bl (pa_cons pe_str (pa_cons pe_str (pa_cons pe_str (pa_cons pe_str (pa_cons pe_str (pa_cons (pe_lst (pa_cons pe_int pa_nil)) (pa_cons (pe_tup (pa_cons pe_int (pa_cons pe_non pa_nil))) (pa_cons (pe_tup (pa_cons (pe_tup (pa_cons pe_bl pa_nil)) pa_nil)) (pa_cons (pe_lst (pa_cons pe_str pa_nil)) (pa_cons (pe_tup (pa_cons pe_str (pa_cons (pe_lst pa_nil) pa_nil))) (pa_cons pe_str (pa_cons (pe_tup (pa_cons pe_str pa_nil)) pa_nil)))))))))))))))) (pg_name (i := 10) nd rfl (.inl rfl))
  (pss_one (ps_if (pt_cmpR op_notN (pcall F_law_told hr (by decide) rfl outX (pa_cons pe_int (pa_cons (pv 10) pa_nil))) pe_non (nomark _))
  (pss_one (ps_ret pe_bl))
  pss_nil)))
  (pss_cons (ps_set (i := 11) nd rfl (.inl rfl) (pe_op op_mulU pe_str pe_int))
  (pss_cons (ps_if (PW.pt (pw_or (pt_cmpR (op_neU hr.units) (pcall F_law_told hr (by decide) rfl outX (pa_cons pe_int (pa_cons (pe_callTy (call_intU T.dg) rfl T.b_int bb_int (pa_cons (pv 11) pa_nil)) pa_nil))) (pe_lst (pa_cons (pv 11) pa_nil)) (nomark _)) (pw_or (pt_cmpR op_isN (pcall F_law_told hr (by decide) rfl outX (pa_cons pe_int (pa_cons (pe_op op_addU pe_str (pv 11)) pa_nil))) pe_non (nomark _)) (pw_or (pt_cmpR op_notN (pcall F_law_told hr (by decide) rfl outX (pa_cons pe_int (pa_cons (pe_op op_addU (pv 11) pe_str) pa_nil))) pe_non (nomark _)) (pw_or1 (pt_cmpR op_notN (pcall F_law_told hr (by decide) rfl outX (pa_cons pe_int (pa_cons (pe_op op_addU (pe_callTy (call_intU T.dg) rfl T.b_int bb_int (pa_cons (pv 11) pa_nil)) pe_int) pa_nil))) pe_non (nomark _)))))))
  (pss_one (ps_ret pe_bl))
  pss_nil)
  (pss_cons (ps_set (i := 12) nd rfl (.inl rfl) (pe_tup pa_nil))
  (pss_cons (ps_for (passes_of rfl) rfl (pi_range1 rfl T.b_range (pa_cons pe_int pa_nil)) (pg_name (i := 2) nd rfl (.inl rfl))
  (pss_one (ps_set (i := 12) nd rfl (.inl rfl) (pe_tup (pa_cons (pv 12) pa_nil)))))
  (pss_cons (ps_if (PW.pt (pw_or (pt_cmpR (op_neU hr.units) (pcall F_law_told hr (by decide) rfl outX (pa_cons pe_int (pa_cons (pv 12) pa_nil))) (pe_lst (pa_cons (pe_op op_addU (pe_op op_mulU pe_str pe_int) (pe_op op_mulU pe_str pe_int)) pa_nil)) (nomark _)) (pw_or (pt_cmpR op_notN (pcall F_law_told hr (by decide) rfl outX (pa_cons pe_int (pa_cons (pe_tup (pa_cons (pv 12) pa_nil)) pa_nil))) pe_non (nomark _)) (pw_or1 (pt_cmpR op_notN (pcall F_law_told hr (by decide) rfl outX (pa_cons pe_int (pa_cons (pe_op op_addU (pe_op op_mulU pe_str pe_int) (pe_op op_mulU pe_str pe_int)) pa_nil))) pe_non (nomark _))))))
  (pss_one (ps_ret pe_bl))
  pss_nil)
  (pss_one (ps_ret (pe_and (pe_cmpR op_notN (pcall F_law_told hr (by decide) rfl outX (pa_cons pe_int (pa_cons (pe_op op_addU (pe_op op_mulU pe_str pe_int) (pe_op op_mulU pe_str pe_int)) pa_nil))) pe_non (nomark _)) (pe_one (pe_cmpR (op_eqU hr.units) (pe_lc (own := [("value", 13)]) rfl nd (pi_list (pe_lst (pa_cons pe_non (pa_cons pe_int (pa_cons (pe_tup (pa_cons pe_int pa_nil)) (pa_cons pe_str (pa_cons pe_str (pa_cons pe_str (pa_cons pe_str pa_nil))))))))) (blkOk_by (own := [("value", 13)]) (N := N_law) (sc := defScope s_law) (by decide +kernel)) (fun _ _ _ _ _ => (pg_name (i := 13) nd rfl (.inl rfl))) (fun _ _ _ _ _ => pts_nil) (fun _ _ _ _ _ => (pcall0 F_law_told hr (by decide) rfl (pa_cons pe_int (pa_cons (pv 13) pa_nil))))) (pe_op op_mulU (pe_lst (pa_cons pe_non pa_nil)) pe_int) (nomark _)))))))))))))), ?_⟩
    have sz2 : ∀ {n : Nat}, n ≤ 20005 → 2 * n + 2 < sizeLine := fun {n} h => by
      have : 2 * 20005 + 2 < sizeLine := by decide
      omega
    repeat walk_at "rv"
    refine ⟨a, ns, rfl, ha, hns, fun r lc cs H1 s1 _ hd1 => ?_⟩
    repeat walk_at "rv"
    refine Rd.rng1n (by decide) (by decide) ?_
    refine for_it walk_range (fun i σ H' => ∃ x2 x3 x4 x5 x6 x7 x8 x9, σ = [some (.ref a), some (.ref r), x2, x3, x4, x5, x6, x7, x8, x9, none, none, none, none] ∧ DrS lc cs H' r) ⟨none, none, none, none, none, none, none, none, rfl, hd1⟩ (fun _ _ _ _ _ => trivial) (fun i x σ H2 H3 hi p y => ?_) (fun σ H2 p => ?_)
    · obtain ⟨x2, x3, x4, x5, x6, x7, x8, x9, rfl, hd2⟩ := p
      obtain ⟨rfl, rfl⟩ := y
      repeat walk_at "rv"
      refine ⟨r, lc, cs, 5, rfl, by decide, hd2, fun v d H4 hg hdp hd4 s4 => ?_⟩
      repeat walk_at "rv"
      obtain ⟨t, hw, hl, hk, hrb⟩ := gen_text hg
      have hl : t.length ≤ 10600 := Nat.le_trans hl (by decide)
      have hk : M53.cnt t ≤ 121 := Nat.le_trans hk (by decide)
      have h59 := wT_59 hw
      have hfl := gen_flat hg
      have ok83 : okI 83 d = true := okI_wT hw (rb_mono (j := 42) (by decide) hrb (Nat.zero_le _))
      have ok4 : okI 4000 d = true := okI_wT hw (rb_mono (j := 3959) (by decide) hrb (Nat.zero_le _))
      have SO := showOk hw ok83
      have hdpt := SO.dep
      have hrd : M53.progRead t = some d := by
        rw [progRead_eq (rb_mono (j := 3959) (by decide) hrb (Nat.zero_le _)) h59 (by omega)]
        exact lawRead_wT hw
      have hpw : pw 1 d = some t := by rw [pw_eq d 1 (by omega) ok4, hw]
      refine ⟨v, d, t, rfl, hdp, hfl, hw, by omega, ok4, by omega, fun H5 s5 => ?_⟩
      repeat walk_at "rv"
      have hdp5 := dp_same s5 _ _ hdp
      have hd5 := hd4.same s5
      refine .inl ⟨v, d, rfl, hdp5, ?_, fun l hl' => ⟨?_, fun p H6 s6 hp => ?_⟩, fun hn => ?_⟩
      · have := wgt_wT hw
        have : 3 * 10600 ≤ sizeLine := by decide
        omega
      · rw [hpw] at hl'
        cases hl'
        omega
      rotate_left
      · rw [hpw] at hn
        cases hn
      rw [hpw] at hl'
      cases hl'
      repeat walk_at "rv"
      refine ⟨(by decide : 1 ≤ sizeLine), fun p2 hp2 => ?_⟩
      have s7 : Same H6 (upd H6 p2 (.lst [.str (SX.S t)])) := same_upd (Same.refl _) hp2
      refine ne_d (.lst (.inl (.inl (s7 _ _ hp))) (.cons (.str _) .nil)) (.lst (.inl (.inl upd_same)) (.cons (.str _) .nil)) (shaped_str1 (wT_codes hw)) (shaped_str1 (wT_codes hw)) ?_
      rw [eqv_str1]
      generalize upd H6 p2 (.lst [.str (SX.S t)]) = H7 at *
      repeat walk_at "rv"
      refine Rd.no rfl ?_
      repeat walk_at "rv"
      have s57 := s6.trans s7
      refine .inr ⟨.str (SX.S t), .str (SX.S t), rfl, .str _, fun s e => by cases e; rw [SX.S_len]; exact sz2 (by omega), fun d' hd' p3 v3 H8 s8 hp3 hdp3 _ => ?_, fun hn => ?_⟩
      rotate_left
      · have : M53.progRead t = none := hn
        rw [hrd] at this
        cases this
      have e' : M53.progRead t = some d' := hd'
      rw [hrd] at e'
      cases e'
      repeat walk_at "rv"
      refine repr1 hp3 hdp3 SO (by omega) (by omega) ?_
      repeat walk_at "rv"
      refine ⟨(by decide : 1 ≤ sizeLine), fun p4 hp4 => ?_⟩
      repeat walk_at "rv"
      have s9 : Same H8 (upd H8 p4 (.lst [v])) := same_upd (Same.refl _) hp4
      have s59 := (s57.trans s8).trans s9
      refine repr1 upd_same (dp_same s59 _ _ hdp5) SO (by omega) (by omega) ?_
      repeat walk_at "rv"
      refine Rd.no (by simp) ?_
      have hd9 := hd5.same s59
      generalize upd H8 p4 (.lst [v]) = H9 at *
      repeat walk_at "rv"
      refine Rd.rng1n (by decide) (by decide) ?_
      have lenT : (SX.S t).length ≤ sizeLine := by rw [SX.S_len]; have := @sz2 t.length (by omega); omega
      clear s57 s59 s7 s8 s6 hp hp2 hp3 hdp3 hdp5 hp4 s5 s4 hd4 hd2 hd5 hdp
      refine for_it walk_range (fun j σ H' => ∃ y2 x5 x6 x7 x8 x9, σ = [some (.ref a), some (.ref r), y2, some v, some (.str (SX.S t)), x5, x6, x7, x8, x9, none, none, none, none] ∧ DrS lc cs H' r) ⟨_, _, _, _, _, _, rfl, hd9⟩ (fun _ _ _ _ _ => trivial) (fun j x σ H10 H11 hj p y => ?_) (fun σ H10 p => ?_)
      · obtain ⟨y2, x5, x6, x7, x8, x9, rfl, hd10⟩ := p
        obtain ⟨rfl, rfl⟩ := y
        repeat walk_at "rv"
        refine Rd.lenS lenT ?_
        repeat walk_at "rv"
        rw [SX.S_len]
        refine ⟨r, lc, cs, _, rfl, hd10, by omega, by omega, fun i0 H12 hi0 hi1 hd12 s12 => ?_⟩
        repeat walk_at "rv"
        refine ⟨r, lc, cs, 9, rfl, hd12, by decide, by decide, fun k0 H13 hk0 hk1 hd13 s13 => ?_⟩
        repeat walk_at "rv"
        obtain ⟨ii, rfl⟩ : ∃ ii : Nat, i0 = (ii : Int) := ⟨i0.toNat, by omega⟩
        obtain ⟨kk, rfl⟩ : ∃ kk : Nat, k0 = (kk : Int) := ⟨k0.toNat, by omega⟩
        have hii : ii ≤ t.length := by omega
        have hch : ∃ c, ([91, 93, 44, 97, 48, 45, 49, 32, 65] : List Nat)[kk]? = some c ∧ c ≠ 59 := by
          have : kk = 0 ∨ kk = 1 ∨ kk = 2 ∨ kk = 3 ∨ kk = 4 ∨ kk = 5 ∨ kk = 6 ∨ kk = 7 ∨ kk = 8 := by omega
          rcases this with rfl | rfl | rfl | rfl | rfl | rfl | rfl | rfl | rfl <;> exact ⟨_, rfl, by decide⟩
        obtain ⟨c, hc, hc59⟩ := hch
        have es : Str.ofString "[],a0-1 A" = SX.S [91, 93, 44, 97, 48, 45, 49, 32, 65] := by decide +kernel
        rw [es]
        refine Rd.ixS (c := c) (by rw [SX.S_len]; decide) (atI_nat hc) ?_
        have hbig : 40000 < sizeLine := by decide
        have ec : (⟨#[c]⟩ : Str) = SX.S [c] := rfl
        rw [ec]
        have fit : ∀ x y : List Nat, x.length ≤ 10601 → y.length ≤ 10601 → (SX.S x).length + (SX.S y).length ≤ sizeLine := fun x y h1 h2 => by rw [SX.S_len, SX.S_len]; omega
        have lt : ∀ k, (t.take k).length ≤ 10600 := fun k => by rw [List.length_take]; omega
        have ld : ∀ k, (t.drop k).length ≤ 10600 := fun k => by rw [List.length_drop]; omega
        have e1 : ((ii : Int) + 1) = ((ii + 1 : Nat) : Int) := rfl
        repeat walk_at "rv"
        refine cut_s lenT ?_
        rw [Rd.cut_to]
        repeat walk_at "rv"
        refine add_s (fit _ _ (Nat.le_succ_of_le (lt _)) (by simp)) ?_
        rw [SX.S_cat]
        repeat walk_at "rv"
        refine cut_s lenT ?_
        rw [Rd.cut_from]
        refine add_s (fit _ _ (by rw [List.length_append]; have := lt ii; simp at this ⊢; omega) (Nat.le_succ_of_le (ld _))) ?_
        rw [SX.S_cat]
        repeat walk_at "rv"
        refine cut_s lenT ?_
        rw [Rd.cut_to]
        repeat walk_at "rv"
        rw [e1]
        refine cut_s lenT ?_
        rw [Rd.cut_from]
        refine add_s (fit _ _ (Nat.le_succ_of_le (lt _)) (Nat.le_succ_of_le (ld _))) ?_
        rw [SX.S_cat]
        repeat walk_at "rv"
        refine cut_s lenT ?_
        rw [Rd.cut_to]
        repeat walk_at "rv"
        refine add_s (fit _ _ (Nat.le_succ_of_le (lt _)) (by simp)) ?_
        rw [SX.S_cat]
        repeat walk_at "rv"
        rw [e1]
        refine cut_s lenT ?_
        rw [Rd.cut_from]
        refine add_s (fit _ _ (by rw [List.length_append]; have := lt ii; simp at this ⊢; omega) (Nat.le_succ_of_le (ld _))) ?_
        rw [SX.S_cat]
        repeat walk_at "rv"
        refine ⟨(by decide : 3 ≤ sizeLine), fun la hla => ?_⟩
        refine Rd.isr (.inl (.inl upd_same)) ?_
        have hB := bends_ok hc59 hrb hl h59 hk hii
        have hla2 : upd H13 la (.lst (bends t ii c)) la = some (.lst (bends t ii c)) := upd_same
        refine for_it (walk_list (xs := bends t ii c)) (fun m σ H' => ∃ x8 x9, σ = [some (.ref a), some (.ref r), y2, some v, some (.str (SX.S t)), some (.int (0 + (j : Int))), some (.int (ii : Int)), some (.str (SX.S [c])), x8, x9, none, none, none, none] ∧ DrS lc cs H' r ∧ H' la = some (.lst (bends t ii c)))
          ⟨_, _, rfl, hd13.same (same_upd (Same.refl _) hla), upd_same⟩ (fun m σ H' _ p => .inl (.inl p.choose_spec.choose_spec.2.2)) (fun m x σ H14 H15 hm p y => ?_) (fun σ H14 p => ?_)
        · obtain ⟨x8', x9', rfl, hd14, hl14⟩ := p
          obtain ⟨rfl, hx⟩ := y
          obtain ⟨o, rfl, B⟩ := hB x (List.mem_of_getElem? hx)
          have hBl := B.len
          have hBc := B.cnt
          repeat walk_at "rv"
          have hsz : ∀ s, PyData.str (SX.S o) = .str s → 2 * s.length + 2 < sizeLine := fun s e => by cases e; rw [SX.S_len]; exact sz2 (by omega)
          refine ⟨o, rfl, by omega, B.run4, fun hn H16 s16 => ?_, fun d1 hd1' pd vd H16 s16 hpd hdpd hfd => ?_⟩
          · have hr0 : M53.progRead o = none := by rw [B.read, hn]
            repeat walk_at "rv"
            refine .inr ⟨.str (SX.S o), .str (SX.S o), rfl, .str _, hsz, fun d' hd' => ?_, fun _ H17 s17 => ?_⟩
            · have : M53.progRead o = some d' := hd'
              rw [hr0] at this
              cases this
            repeat walk_at "rv"
            refine repr0 ?_
            repeat walk_at "rv"
            refine ⟨rfl, ?_⟩
            repeat walk_at "rv"
            refine Rd.no rfl (Rd.no rfl ?_)
            repeat walk_at "rv"
            refine repr0 ?_
            repeat walk_at "rv"
            refine Rd.no (by simp) ?_
            exact ⟨_, _, rfl, (hd14.same s16).same s17, s17 _ _ (s16 _ _ hl14)⟩
          · have hr0 : M53.progRead o = some d1 := by rw [B.read, hd1']
            have hwo := wT_lawRead hd1'
            have ok83' : okI 83 d1 = true := okI_wT hwo (rb_init B.run)
            have ok4' : okI 4000 d1 = true := okI_wT hwo (rb_init B.run4)
            have SO' := showOk hwo ok83'
            have hdep' := SO'.dep
            repeat walk_at "rv"
            refine .inr ⟨.str (SX.S o), .str (SX.S o), rfl, .str _, hsz, fun d' hd' p3 v3 H17 s17 hp3 hdp3 _ => ?_, fun hn => ?_⟩
            rotate_left
            · have : M53.progRead o = none := hn
              rw [hr0] at this
              cases this
            have e' : M53.progRead o = some d' := hd'
            rw [hr0] at e'
            cases e'
            repeat walk_at "rv"
            refine repr1 hp3 hdp3 SO' (by omega) (by omega) ?_
            repeat walk_at "rv"
            refine ⟨rfl, ?_⟩
            repeat walk_at "rv"
            refine Rd.yes rfl ?_
            repeat walk_at "rv"
            refine Rd.ixL (.inl (.inl (s17 _ _ hpd))) (atI_nat (j := 0) rfl) ?_
            repeat walk_at "rv"
            refine ⟨vd, d1, o, rfl, dp_same s17 _ _ hdpd, hfd, hwo, by omega, ok4', by omega, fun H18 s18 => ?_⟩
            repeat walk_at "rv"
            refine Rd.yes (decide_eq_true rfl) ?_
            repeat walk_at "rv"
            refine repr1 (s18 _ _ (s17 _ _ hpd)) (dp_same s18 _ _ (dp_same s17 _ _ hdpd)) SO' (by omega) (by omega) ?_
            repeat walk_at "rv"
            refine Rd.no (by simp) ?_
            exact ⟨_, _, rfl, ((hd14.same s16).same s17).same s18, s18 _ _ (s17 _ _ (s16 _ _ hl14))⟩
        · obtain ⟨x8', x9', rfl, hd14, hl14⟩ := p
          exact ⟨_, _, _, _, _, _, rfl, hd14⟩
      · obtain ⟨y2, x5, x6, x7, x8, x9, rfl, hd10⟩ := p
        exact ⟨_, _, _, _, _, _, _, _, rfl, hd10⟩
    · obtain ⟨x2, x3, x4, x5, x6, x7, x8, x9, rfl, _⟩ := p
      repeat walk_at "rv"
      refine ⟨(by decide : 1 ≤ sizeLine), fun p1 h1 => ?_⟩
      have g1 : upd H2 p1 (.lst [.int 1]) p1 = some (.lst [.int 1]) := upd_same
      have t1 : Same H2 (upd H2 p1 (.lst [.int 1])) := same_upd (Same.refl _) h1
      generalize upd H2 p1 (.lst [.int 1]) = G1 at *
      repeat walk_at "rv"
      refine ⟨(by decide : 2 ≤ sizeLine), fun p2 h2 => ?_⟩
      have g2 : upd G1 p2 (.tup [.int 1, .non]) p2 = some (.tup [.int 1, .non]) := upd_same
      have t2 : Same G1 (upd G1 p2 (.tup [.int 1, .non])) := same_upd (Same.refl _) h2
      generalize upd G1 p2 (.tup [.int 1, .non]) = G2 at *
      repeat walk_at "rv"
      refine ⟨(by decide : 1 ≤ sizeLine), fun p3 h3 => ?_⟩
      have g3 : upd G2 p3 (.tup [.bl true]) p3 = some (.tup [.bl true]) := upd_same
      have t3 : Same G2 (upd G2 p3 (.tup [.bl true])) := same_upd (Same.refl _) h3
      generalize upd G2 p3 (.tup [.bl true]) = G3 at *
      repeat walk_at "rv"
      refine ⟨(by decide : 1 ≤ sizeLine), fun p4 h4 => ?_⟩
      have g4 : upd G3 p4 (.tup [.ref p3]) p4 = some (.tup [.ref p3]) := upd_same
      have t4 : Same G3 (upd G3 p4 (.tup [.ref p3])) := same_upd (Same.refl _) h4
      generalize upd G3 p4 (.tup [.ref p3]) = G4 at *
      repeat walk_at "rv"
      refine ⟨(by decide : 1 ≤ sizeLine), fun p5 h5 => ?_⟩
      have g5 : upd G4 p5 (.lst [.str "a"]) p5 = some (.lst [.str "a"]) := upd_same
      have t5 : Same G4 (upd G4 p5 (.lst [.str "a"])) := same_upd (Same.refl _) h5
      generalize upd G4 p5 (.lst [.str "a"]) = G5 at *
      repeat walk_at "rv"
      refine ⟨(by decide : 0 ≤ sizeLine), fun p6 h6 => ?_⟩
      have g6 : upd G5 p6 (.lst []) p6 = some (.lst []) := upd_same
      have t6 : Same G5 (upd G5 p6 (.lst [])) := same_upd (Same.refl _) h6
      generalize upd G5 p6 (.lst []) = G6 at *
      repeat walk_at "rv"
      refine ⟨(by decide : 2 ≤ sizeLine), fun p7 h7 => ?_⟩
      have g7 : upd G6 p7 (.tup [.str "a", .ref p6]) p7 = some (.tup [.str "a", .ref p6]) := upd_same
      have t7 : Same G6 (upd G6 p7 (.tup [.str "a", .ref p6])) := same_upd (Same.refl _) h7
      generalize upd G6 p7 (.tup [.str "a", .ref p6]) = G7 at *
      repeat walk_at "rv"
      refine ⟨(by decide : 1 ≤ sizeLine), fun p8 h8 => ?_⟩
      have g8 : upd G7 p8 (.tup [.str "]"]) p8 = some (.tup [.str "]"]) := upd_same
      have t8 : Same G7 (upd G7 p8 (.tup [.str "]"])) := same_upd (Same.refl _) h8
      generalize upd G7 p8 (.tup [.str "]"]) = G8 at *
      repeat walk_at "rv"
      refine ⟨(by decide : 14 ≤ sizeLine), fun p9 h9 => ?_⟩
      have g9 : upd G8 p9 (.lst [V.non, .bl true, .str "A", .str "", .str "a b", .str "9a", .str "abcdefghijklm", .ref p1, .ref p2, .ref p4, .ref p5, .ref p7, .str "]", .ref p8]) p9 = some (.lst [V.non, .bl true, .str "A", .str "", .str "a b", .str "9a", .str "abcdefghijklm", .ref p1, .ref p2, .ref p4, .ref p5, .ref p7, .str "]", .ref p8]) := upd_same
      have t9 : Same G8 (upd G8 p9 (.lst [V.non, .bl true, .str "A", .str "", .str "a b", .str "9a", .str "abcdefghijklm", .ref p1, .ref p2, .ref p4, .ref p5, .ref p7, .str "]", .ref p8])) := same_upd (Same.refl _) h9
      generalize upd G8 p9 (.lst [V.non, .bl true, .str "A", .str "", .str "a b", .str "9a", .str "abcdefghijklm", .ref p1, .ref p2, .ref p4, .ref p5, .ref p7, .str "]", .ref p8]) = G9 at *
      have k9 := t9
      have k8 := t8.trans k9
      have k7 := t7.trans k8
      have k6 := t6.trans k7
      have k5 := t5.trans k6
      have k4 := t4.trans k5
      have k3 := t3.trans k4
      have k2 := t2.trans k3
      refine Rd.isr (.inl (.inl g9)) ?_
      have bad : ∀ x ∈ [V.non, .bl true, .str "A", .str "", .str "a b", .str "9a", .str "abcdefghijklm", .ref p1, .ref p2, .ref p4, .ref p5, .ref p7, .str "]", .ref p8], ∃ d, Dp K G9 x d ∧ pw 1 d = none ∧ wgt d ≤ sizeLine := by
        have bs : ∀ s : Str, M53.wordL (TL.tl s) = false → s.length ≤ 100 → ∃ d, Dp K G9 (.str s) d ∧ pw 1 d = none ∧ wgt d ≤ sizeLine := fun s h hl => by
          refine ⟨.str s, .str s, ?_, ?_⟩
          · show (if M53.wordL (TL.tl s) then some (TL.tl s) else none) = none
            rw [h]
            rfl
          · show 1 + s.length ≤ sizeLine
            have : 101 ≤ sizeLine := by decide
            omega
        simp only [List.mem_cons, List.not_mem_nil, or_false, forall_eq_or_imp, forall_eq]
        refine ⟨⟨.none, .non, rfl, by decide⟩, ⟨.bool true, .bl true, rfl, by decide⟩, bs _ (by decide +kernel) (by decide +kernel), bs _ (by decide +kernel) (by decide +kernel), bs _ (by decide +kernel) (by decide +kernel), bs _ (by decide +kernel) (by decide +kernel), bs _ (by decide +kernel) (by decide +kernel), ?_, ?_, ?_, ?_, ?_, bs _ (by decide +kernel) (by decide +kernel), ?_⟩
        · exact ⟨.list [.int 1], .lst (.inl (.inl (k2 _ _ g1))) (.cons (.int 1) .nil), rfl, by decide⟩
        · exact ⟨.tuple [.int 1, .none], .tup (.inl (.inl (k3 _ _ g2))) (.cons (.int 1) (.cons .non .nil)), by decide +kernel, by decide⟩
        · exact ⟨.tuple [.tuple [.bool true]], .tup (.inl (.inl (k5 _ _ g4))) (.cons (.tup (.inl (.inl (k4 _ _ g3))) (.cons (.bl true) .nil)) .nil), by decide +kernel, by decide⟩
        · exact ⟨.list [.str "a"], .lst (.inl (.inl (k6 _ _ g5))) (.cons (.str "a") .nil), rfl, by decide⟩
        · exact ⟨.tuple [.str "a", .list []], .tup (.inl (.inl (k8 _ _ g7))) (.cons (.str "a") (.cons (.lst (.inl (.inl (k7 _ _ g6))) .nil) .nil)), by decide +kernel, by decide +kernel⟩
        · exact ⟨.tuple [.str "]"], .tup (.inl (.inl (k9 _ _ g8))) (.cons (.str "]") .nil), by decide +kernel, by decide +kernel⟩
      refine for_it (walk_list (xs := [V.non, .bl true, .str "A", .str "", .str "a b", .str "9a", .str "abcdefghijklm", .ref p1, .ref p2, .ref p4, .ref p5, .ref p7, .str "]", .ref p8])) (fun i σ H' => ∃ y2 y3 y4 y5 y6 y7 y8 y9 y10, σ = [some (.ref a), some (.ref r), y2, y3, y4, y5, y6, y7, y8, y9, y10, none, none, none] ∧ Same G9 H') ⟨_, _, _, _, _, _, _, _, _, rfl, Same.refl _⟩ (fun i σ H' _ p => by obtain ⟨_, _, _, _, _, _, _, _, _, _, s⟩ := p; exact .inl (.inl (s _ _ g9))) (fun i x σ H' H'' hi p y => ?_) (fun σ H' p => ?_)
      · obtain ⟨y2, y3, y4, y5, y6, y7, y8, y9, y10, rfl, s1⟩ := p
        obtain ⟨rfl, hx⟩ := y
        obtain ⟨d, hdp, hpw, hwg⟩ := bad x (List.mem_of_getElem? hx)
        repeat walk_at "rv"
        refine .inl ⟨x, d, rfl, dp_same s1 _ _ hdp, hwg, fun l hl => ?_, fun _ H3 s3 => ?_⟩
        · rw [hpw] at hl
          cases hl
        repeat walk_at "rv"
        refine ⟨rfl, ?_⟩
        repeat walk_at "rv"
        refine Rd.no rfl ?_
        exact ⟨_, _, _, _, _, _, _, _, _, rfl, s1.trans s3⟩
      · obtain ⟨y2, y3, y4, y5, y6, y7, y8, y9, y10, rfl, _⟩ := p
        clear bad g1 g2 g3 g4 g5 g6 g7 g8 g9 t1 t2 t3 t4 t5 t6 t7 t8 t9 k2 k3 k4 k5 k6 k7 k8 k9 h1 h2 h3 h4 h5 h6 h7 h8 h9
        obtain ⟨N, z, hmk, hmul, hN, hNt, hpz, hpz1, ⟨dd, hdash⟩, hlong, hcod⟩ := nines
        have z4 : 4100 ≤ sizeLine := by decide
        have hNz : (SX.S N).length ≤ sizeLine := by rw [SX.S_len]; omega
        repeat walk_at "rv"
        refine mul_s hmk ?_
        rw [hmul]
        repeat walk_at "rv"
        refine int_t hNt hNz ?_
        repeat walk_at "rv"
        refine .inl ⟨.int z, .int z, rfl, .int z, (by decide : 1 ≤ sizeLine), fun l hl => ⟨?_, fun p H1 s1 hp => ?_⟩, fun hn => ?_⟩
        · rw [hpz] at hl
          cases hl
          omega
        rotate_left
        · rw [hpz] at hn
          cases hn
        rw [hpz] at hl
        cases hl
        repeat walk_at "rv"
        refine ⟨(by decide : 1 ≤ sizeLine), fun p2 hp2 => ?_⟩
        have s7 : Same H1 (upd H1 p2 (.lst [.str (SX.S N)])) := same_upd (Same.refl _) hp2
        refine ne_d (.lst (.inl (.inl (s7 _ _ hp))) (.cons (.str _) .nil)) (.lst (.inl (.inl upd_same)) (.cons (.str _) .nil)) (shaped_str1 hcod) (shaped_str1 hcod) ?_
        rw [eqv_str1]
        generalize upd H1 p2 (.lst [.str (SX.S N)]) = H2 at *
        repeat walk_at "rv"
        refine Rd.no rfl ?_
        repeat walk_at "rv"
        have e45 : Str.ofString "-" = SX.S [45] := rfl
        rw [e45]
        refine add_s (by rw [SX.S_len, SX.S_len]; simp only [List.length_singleton]; omega) ?_
        rw [SX.S_cat]
        repeat walk_at "rv"
        refine .inr ⟨.str (SX.S ([45] ++ N)), .str (SX.S ([45] ++ N)), rfl, .str _, fun s e => by cases e; rw [SX.S_len]; exact sz2 (by simp; omega), fun d' hd' p3 v3 H3 s3 hp3 hdp3 _ => ?_, fun hn => ?_⟩
        rotate_left
        · have : M53.progRead (45 :: N) = none := hn
          rw [hdash] at this
          cases this
        repeat walk_at "rv"
        refine ⟨rfl, ?_⟩
        repeat walk_at "rv"
        refine Rd.no rfl ?_
        repeat walk_at "rv"
        have e48 : Str.ofString "0" = SX.S [48] := rfl
        rw [e48]
        refine add_s (by rw [SX.S_len, SX.S_len]; simp only [List.length_singleton]; omega) ?_
        rw [SX.S_cat]
        repeat walk_at "rv"
        refine .inr ⟨.str (SX.S (N ++ [48])), .str (SX.S (N ++ [48])), rfl, .str _, fun s e => by cases e; rw [SX.S_len]; exact sz2 (by simp; omega), fun d' hd' => ?_, fun _ H4 s4 => ?_⟩
        · have : M53.progRead (N ++ [48]) = some d' := hd'
          rw [hlong] at this
          cases this
        repeat walk_at "rv"
        refine ⟨rfl, ?_⟩
        repeat walk_at "rv"
        refine Rd.no rfl ?_
        repeat walk_at "rv"
        refine int_t hNt hNz ?_
        repeat walk_at "rv"
        refine .inl ⟨.int (z + 1), .int (z + 1), rfl, .int (z + 1), (by decide : 1 ≤ sizeLine), fun l hl => ?_, fun _ H5 s5 => ?_⟩
        · rw [hpz1] at hl
          cases hl
        repeat walk_at "rv"
        refine ⟨rfl, ?_⟩
        repeat walk_at "rv"
        refine Rd.no rfl ?_
        repeat walk_at "rv"
        refine ⟨(by decide : 0 ≤ sizeLine), fun p6 hp6 => ?_⟩
        repeat walk_at "rv"
        refine Rd.rng1n (by decide) (by decide) ?_
        refine for_it walk_range (fun i σ H' => ∃ p z2, σ = [some (.ref a), some (.ref r), z2, y3, y4, y5, y6, y7, y8, y9, y10, some (.str (SX.S N)), some (.ref p), none] ∧ Dp K H' (.ref p) (nestD i)) ⟨_, _, rfl, .tup (.inl (.inl upd_same)) .nil⟩ (fun _ _ _ _ _ => trivial) (fun i x σ H6 H7 hi p y => ?_) (fun σ H6 p => ?_)
        · obtain ⟨pd, z2, rfl, hdp⟩ := p
          obtain ⟨rfl, rfl⟩ := y
          repeat walk_at "rv"
          refine ⟨(by decide : 1 ≤ sizeLine), fun p7 hp7 => ?_⟩
          exact ⟨_, _, rfl, .tup (.inl (.inl upd_same)) (.cons (dp_keep (.upd_new hp7) _ _ (flat_nest i) hdp) .nil)⟩
        · obtain ⟨pd, z2, rfl, hdp⟩ := p
          have hdp : Dp K H6 (.ref pd) (nestD 999) := hdp
          obtain ⟨Bx, By, B1x, B1y, m1, m2, m3, m4, q1, q2, q3, q4, l1, l2, l3, l4, rd0, rd1, pw0, pw1, cod, hfl, hwg, hwg1⟩ := deeps
          generalize nestD 999 = D at *
          have z3 : 3000 ≤ sizeLine := by decide
          repeat walk_at "rv"
          refine .inl ⟨.ref pd, D, rfl, hdp, hwg, fun l hl => ⟨?_, fun p H7 s7 hp => ?_⟩, fun hn => ?_⟩
          · rw [pw0] at hl
            cases hl
            rw [List.length_append]
            omega
          rotate_left
          · rw [pw0] at hn
            cases hn
          rw [pw0] at hl
          cases hl
          repeat walk_at "rv"
          refine mul_s m1 ?_
          rw [q1]
          repeat walk_at "rv"
          refine mul_s m2 ?_
          rw [q2]
          repeat walk_at "rv"
          refine add_s (by rw [SX.S_len, SX.S_len]; omega) ?_
          rw [SX.S_cat]
          repeat walk_at "rv"
          refine ⟨(by decide : 1 ≤ sizeLine), fun p8 hp8 => ?_⟩
          have s8 : Same H7 (upd H7 p8 (.lst [.str (SX.S (Bx ++ By))])) := same_upd (Same.refl _) hp8
          refine ne_d (.lst (.inl (.inl (s8 _ _ hp))) (.cons (.str _) .nil)) (.lst (.inl (.inl upd_same)) (.cons (.str _) .nil)) (shaped_str1 cod) (shaped_str1 cod) ?_
          rw [eqv_str1]
          generalize upd H7 p8 (.lst [.str (SX.S (Bx ++ By))]) = H8 at *
          repeat walk_at "rv"
          refine Rd.no rfl ?_
          repeat walk_at "rv"
          refine ⟨(by decide : 1 ≤ sizeLine), fun p9 hp9 => ?_⟩
          repeat walk_at "rv"
          have s9 : Same H8 (upd H8 p9 (.tup [.ref pd])) := same_upd (Same.refl _) hp9
          refine .inl ⟨.ref p9, .tuple [D], rfl, .tup (.inl (.inl upd_same)) (.cons (dp_same ((s7.trans s8).trans s9) _ _ hdp) .nil), hwg1, fun l hl => ?_, fun _ H9 s9' => ?_⟩
          · rw [pw1] at hl
            cases hl
          repeat walk_at "rv"
          refine ⟨rfl, ?_⟩
          repeat walk_at "rv"
          refine Rd.no rfl ?_
          repeat walk_at "rv"
          refine mul_s m3 ?_
          rw [q3]
          repeat walk_at "rv"
          refine mul_s m4 ?_
          rw [q4]
          repeat walk_at "rv"
          refine add_s (by rw [SX.S_len, SX.S_len]; omega) ?_
          rw [SX.S_cat]
          repeat walk_at "rv"
          refine .inr ⟨.str (SX.S (B1x ++ B1y)), .str (SX.S (B1x ++ B1y)), rfl, .str _, fun s e => by cases e; rw [SX.S_len]; exact sz2 (by rw [List.length_append]; omega), fun d' hd' => ?_, fun _ H10 s10 => ?_⟩
          · have : M53.progRead (B1x ++ B1y) = some d' := hd'
            rw [rd1] at this
            cases this
          repeat walk_at "rv"
          refine ⟨rfl, ?_⟩
          repeat walk_at "rv"
          refine Rd.no rfl ?_
          repeat walk_at "rv"
          refine mul_s m1 ?_
          rw [q1]
          repeat walk_at "rv"
          refine mul_s m2 ?_
          rw [q2]
          repeat walk_at "rv"
          refine add_s (by rw [SX.S_len, SX.S_len]; omega) ?_
          rw [SX.S_cat]
          repeat walk_at "rv"
          refine .inr ⟨.str (SX.S (Bx ++ By)), .str (SX.S (Bx ++ By)), rfl, .str _, fun s e => by cases e; rw [SX.S_len]; exact sz2 (by rw [List.length_append]; omega), fun d' hd' p11 v11 H11 s11 hp11 _ _ => ?_, fun hn => ?_⟩
          rotate_left
          · have : M53.progRead (Bx ++ By) = none := hn
            rw [rd0] at this
            cases this
          repeat walk_at "rv"
          refine ⟨rfl, ?_⟩
          repeat walk_at "rv"
          refine Rd.yes rfl ?_
          repeat walk_at "rv"
          refine ⟨(by decide : 1 ≤ sizeLine), fun p12 hp12 => ?_⟩
          repeat walk_at "rv"
          refine ⟨(by decide : 7 ≤ sizeLine), fun p13 hp13 => ?_⟩
          have g12 : upd H11 p12 (.tup [.int 1]) p12 = some (.tup [.int 1]) := upd_same
          generalize upd H11 p12 (.tup [.int 1]) = H12 at *
          have g13 : upd H12 p13 (.lst [V.non, .int 5, .ref p12, .str "", .str "[a][b]", .str "a,b", .str "[a"]) p13 = some (.lst [V.non, .int 5, .ref p12, .str "", .str "[a][b]", .str "a,b", .str "[a"]) := upd_same
          have t13 : Same H12 (upd H12 p13 (.lst [V.non, .int 5, .ref p12, .str "", .str "[a][b]", .str "a,b", .str "[a"])) := same_upd (Same.refl _) hp13
          have g12' := t13 _ _ g12
          generalize upd H12 p13 (.lst [V.non, .int 5, .ref p12, .str "", .str "[a][b]", .str "a,b", .str "[a"]) = H13 at *
          have none7 : ∀ x ∈ [V.non, .int 5, .ref p12, .str "", .str "[a][b]", .str "a,b", .str "[a"], ∃ d, Dp K H13 x d ∧ rdD d = none ∧ ∀ s, d = .str s → 2 * s.length + 2 < sizeLine := by
            have bs : ∀ s : Str, (M53.progRead (TL.tl s)).isNone = true → s.length ≤ 100 → ∃ d, Dp K H13 (.str s) d ∧ rdD d = none ∧ ∀ s, d = .str s → 2 * s.length + 2 < sizeLine := fun s h hl =>
              ⟨.str s, .str s, Option.isNone_iff_eq_none.mp h, fun s' e => by cases e; exact sz2 (by omega)⟩
            simp only [List.mem_cons, List.not_mem_nil, or_false, forall_eq_or_imp, forall_eq]
            exact ⟨⟨.none, .non, rfl, fun s e => by cases e⟩, ⟨.int 5, .int 5, rfl, fun s e => by cases e⟩, ⟨.tuple [.int 1], .tup (.inl (.inl g12')) (.cons (.int 1) .nil), rfl, fun s e => by cases e⟩, bs _ (by decide +kernel) (by decide +kernel), bs _ (by decide +kernel) (by decide +kernel), bs _ (by decide +kernel) (by decide +kernel), bs _ (by decide +kernel) (by decide +kernel)⟩
          refine Rd.isr (.inl (.inl g13)) ?_
          intro D' hD'
          refine lc_it (walk_list (xs := [V.non, .int 5, .ref p12, .str "", .str "[a][b]", .str "a,b", .str "[a"])) (fun i H' => H' D' = some (.lst (List.replicate i V.non)) ∧ Same H13 H') ⟨upd_same, same_upd (Same.refl _) hD'⟩ (fun i H' _ p => .inl (.inl (p.2 _ _ g13))) (fun i x H14 H15 hi p y => ?_) (fun H14 p => ?_)
          · obtain ⟨p1, p2⟩ := p
            obtain ⟨rfl, hx⟩ := y
            refine ⟨Rd.wipe1, Rd.yesT (Rd.yes rfl ?_)⟩
            obtain ⟨d, hd, hr, hs⟩ := none7 x (List.mem_of_getElem? hx)
            repeat walk_at "rv"
            refine .inr ⟨x, d, rfl, dp_same p2 _ _ hd, hs, fun d' hd' => ?_, fun _ H16 s16 => ?_⟩
            · rw [hr] at hd'
              cases hd'
            · refine ⟨_, s16 _ _ p1, by rw [List.length_replicate]; have : i < 7 := hi; omega, ?_, same_upd (p2.trans s16) hD'⟩
              rw [upd_same, List.replicate_succ']
          · obtain ⟨p1, p2⟩ := p
            repeat walk_at "rv"
            refine ⟨(by decide : 1 ≤ sizeLine), fun p14 hp14 => ?_⟩
            repeat walk_at "rv"
            have s14 : Same H14 (upd H14 p14 (.lst [.non])) := same_upd (Same.refl _) hp14
            refine mul_l upd_same (by decide) (by decide) (by decide) fun p15 hp15 => ?_
            have s15 := same_upd (o := HO.lst ((List.replicate (7 : Int).toNat [V.non]).flatten)) (Same.refl _) hp15
            have dp7 : ∀ H, DpAll K H [V.non, .non, .non, .non, .non, .non, .non] [PyData.none, .none, .none, .none, .none, .none, .none] := fun H => .cons .non (.cons .non (.cons .non (.cons .non (.cons .non (.cons .non (.cons .non .nil))))))
            have l7 : SqL K (upd (upd H14 p14 (.lst [.non])) p15 (.lst ((List.replicate (7 : Int).toNat [V.non]).flatten))) D' [V.non, .non, .non, .non, .non, .non, .non] := .inl (.inl (s15 _ _ (s14 _ _ p1)))
            refine eq_d (d := .list [PyData.none, .none, .none, .none, .none, .none, .none]) (e := .list [PyData.none, .none, .none, .none, .none, .none, .none]) (.lst l7 (dp7 _)) (.lst (.inl (.inl upd_same)) (dp7 _)) rfl rfl ?_
            have e7 : PyData.eqv (.list [PyData.none, .none, .none, .none, .none, .none, .none]) (.list [PyData.none, .none, .none, .none, .none, .none, .none]) = true := rfl
            rw [e7]
            exact q _
end
end K53

namespace K53
open PySem L2 Ux
/-- an error of the class at S is what «except S» names -/
theorem exm_self {K : PySem.W.Frag} {S : Addr} (h1 : PySem.W.subIn K (.ref S) (.type "BaseException") = some true) (h2 : PySem.W.isClsIn K S = true) (h3 : PySem.W.typeIn K (.ref S) = some (.type "type")) (h4 : PySem.W.subIn K (.ref S) (.ref S) = some true) :
    PySem.W.exmOne K (.ref S) (.ref S) = some true := by
  have e1 : (PySem.W.subIn K (.ref S) (.type "BaseException") == some true) = true := by rw [h1] <;> rfl
  have e2 : ((PySem.W.clsIn K S).isSome && PySem.W.typeIn K (.ref S) == some (.type "type")) = true := by
    have h2' : (PySem.W.clsIn K S).isSome = true := h2
    rw [h2', h3] <;> rfl
  show (if (PySem.W.subIn K (.ref S) (.type "BaseException") == some true) = true then (if ((PySem.W.clsIn K S).isSome && PySem.W.typeIn K (.ref S) == some (.type "type")) = true then PySem.W.subIn K (.ref S) (.ref S) else none) else none) = some true
  rw [if_pos e1, if_pos e2]
  exact h4
def okObj : Obj → Bool
  | ⟨_, _, .dict es _, _⟩ => es.all fun e => match e.key with | .str _ _ => true | _ => false
  | _ => false
theorem ok_ns {K : PySem.W.Frag} {a : Addr} {o : Obj} (h1 : K.lookup a = some o) (h2 : okObj o = true) : PySem.W.nsOkIn K a = true := by
  unfold PySem.W.nsOkIn
  rw [h1]
  obtain ⟨a, b, c, d⟩ := o
  cases c <;> exact h2
theorem all_mk {l : PySem.W.OpenLaw} {w : World} {K : PySem.W.Frag} {h : Heap} {mg : Str → Option Value} {fa C M f1 f2 f3 f4 f5 f6 f7 f8 f9 f10 f11 f12 f13 f14 f15 f16 f17 f18 f19 f20 f21 f22 : Addr} (X : K.In h) (G : h.Ns mainGlobals mg) (hfa : mg "law" = some (.ref fa))
    {od1 an1 od2 an2 od3 an3 od4 an4 od5 an5 od6 an6 od7 an7 od8 an8 od9 an9 od10 an10 od11 an11 od12 an12 od13 an13 od14 an14 od15 an15 od16 an16 od17 an17 od18 an18 od19 an19 od20 an20 od21 an21 od22 an22 : Option Addr} {sl1 sl2 sl3 sl4 sl5 sl6 sl7 sl8 sl9 sl10 sl11 sl12 sl13 sl14 sl15 sl16 sl17 sl18 sl19 sl20 sl21 sl22 : Array (Option Value)} {oc1 kV1 dc1 pm1 cd1 ct1 oc2 kV2 dc2 pm2 cd2 ct2 oc3 kV3 dc3 pm3 cd3 ct3 oc4 kV4 dc4 pm4 cd4 ct4 oc5 kV5 dc5 pm5 cd5 ct5 oc6 kV6 dc6 pm6 cd6 ct6 oc7 kV7 dc7 pm7 cd7 ct7 oc8 kV8 dc8 pm8 cd8 ct8 oc9 kV9 dc9 pm9 cd9 ct9 oc10 kV10 dc10 pm10 cd10 ct10 oc11 kV11 dc11 pm11 cd11 ct11 oc12 kV12 dc12 pm12 cd12 ct12 oc13 kV13 dc13 pm13 cd13 ct13 oc14 kV14 dc14 pm14 cd14 ct14 oc15 kV15 dc15 pm15 cd15 ct15 oc16 kV16 dc16 pm16 cd16 ct16 oc17 kV17 dc17 pm17 cd17 ct17 oc18 kV18 dc18 pm18 cd18 ct18 oc19 kV19 dc19 pm19 cd19 ct19 oc20 kV20 dc20 pm20 cd20 ct20 oc21 kV21 dc21 pm21 cd21 ct21 oc22 kV22 dc22 pm22 cd22 ct22 : Value} {tk1 tk2 tk3 tk4 tk5 : Tok} {zo : Obj}
    (zaC : PySem.W.nsIn K mainGlobals "DataReader" = some (some (.ref C))) (zaM : PySem.W.nsIn K mainGlobals "Malformed" = some (some (.ref M)))
    (za1 : PySem.W.nsIn K mainGlobals "is_whole" = some (some (.ref f1))) (zl1 : K.lookup f1 = some ⟨oc1, od1, .func (PySem.W.fnOf "is_whole" "is_whole" (defArgs s_is_whole) (defBody s_is_whole) (defScope s_is_whole) .none kV1 dc1 pm1 an1 cd1 ct1), sl1⟩) (zc1 : PySem.W.codeIn K cd1 "is_whole" = true) (zk1 : PySem.W.keepIn K (.ref f1) = true)
    (za2 : PySem.W.nsIn K mainGlobals "is_word" = some (some (.ref f2))) (zl2 : K.lookup f2 = some ⟨oc2, od2, .func (PySem.W.fnOf "is_word" "is_word" (defArgs s_is_word) (defBody s_is_word) (defScope s_is_word) .none kV2 dc2 pm2 an2 cd2 ct2), sl2⟩) (zc2 : PySem.W.codeIn K cd2 "is_word" = true) (zk2 : PySem.W.keepIn K (.ref f2) = true)
    (za3 : PySem.W.nsIn K mainGlobals "is_short" = some (some (.ref f3))) (zl3 : K.lookup f3 = some ⟨oc3, od3, .func (PySem.W.fnOf "is_short" "is_short" (defArgs s_is_short) (defBody s_is_short) (defScope s_is_short) .none kV3 dc3 pm3 an3 cd3 ct3), sl3⟩) (zc3 : PySem.W.codeIn K cd3 "is_short" = true) (zk3 : PySem.W.keepIn K (.ref f3) = true)
    (za4 : PySem.W.nsIn K mainGlobals "write_data" = some (some (.ref f4))) (zl4 : K.lookup f4 = some ⟨oc4, od4, .func (PySem.W.fnOf "write_data" "write_data" (defArgs s_write_data) (defBody s_write_data) (defScope s_write_data) .none kV4 dc4 pm4 an4 cd4 ct4), sl4⟩) (zc4 : PySem.W.codeIn K cd4 "write_data" = true) (zk4 : PySem.W.keepIn K (.ref f4) = true)
    (za5 : PySem.W.nsIn K mainGlobals "read_whole" = some (some (.ref f5))) (zl5 : K.lookup f5 = some ⟨oc5, od5, .func (PySem.W.fnOf "read_whole" "read_whole" (defArgs s_read_whole) (defBody s_read_whole) (defScope s_read_whole) .none kV5 dc5 pm5 an5 cd5 ct5), sl5⟩) (zc5 : PySem.W.codeIn K cd5 "read_whole" = true) (zk5 : PySem.W.keepIn K (.ref f5) = true)
    (za6 : PySem.W.nsIn K mainGlobals "pieces_of" = some (some (.ref f6))) (zl6 : K.lookup f6 = some ⟨oc6, od6, .func (PySem.W.fnOf "pieces_of" "pieces_of" (defArgs s_pieces_of) (defBody s_pieces_of) (defScope s_pieces_of) .none kV6 dc6 pm6 an6 cd6 ct6), sl6⟩) (zc6 : PySem.W.codeIn K cd6 "pieces_of" = true) (zk6 : PySem.W.keepIn K (.ref f6) = true)
    (za7 : PySem.W.findIn K (.ref C) "__init__" = some (some (.ref f7))) (zi7 : PySem.W.isFn K (.ref f7) = true) (zl7 : K.lookup f7 = some ⟨oc7, od7, .func (PySem.W.fnOf "__init__" "DataReader.__init__" (defArgs s_DataReader_init) (defBody s_DataReader_init) (defScope s_DataReader_init) .none kV7 dc7 pm7 an7 cd7 ct7), sl7⟩) (zc7 : PySem.W.codeIn K cd7 "DataReader.__init__" = true) (zk7 : PySem.W.keepIn K (.ref f7) = true)
    (za8 : PySem.W.findIn K (.ref C) "item" = some (some (.ref f8))) (zi8 : PySem.W.isFn K (.ref f8) = true) (zl8 : K.lookup f8 = some ⟨oc8, od8, .func (PySem.W.fnOf "item" "DataReader.item" (defArgs s_DataReader_item) (defBody s_DataReader_item) (defScope s_DataReader_item) .none kV8 dc8 pm8 an8 cd8 ct8), sl8⟩) (zc8 : PySem.W.codeIn K cd8 "DataReader.item" = true) (zk8 : PySem.W.keepIn K (.ref f8) = true)
    (za9 : PySem.W.findIn K (.ref C) "open_one" = some (some (.ref f9))) (zi9 : PySem.W.isFn K (.ref f9) = true) (zl9 : K.lookup f9 = some ⟨oc9, od9, .func (PySem.W.fnOf "open_one" "DataReader.open_one" (defArgs s_DataReader_open_one) (defBody s_DataReader_open_one) (defScope s_DataReader_open_one) .none kV9 dc9 pm9 an9 cd9 ct9), sl9⟩) (zc9 : PySem.W.codeIn K cd9 "DataReader.open_one" = true) (zk9 : PySem.W.keepIn K (.ref f9) = true)
    (za10 : PySem.W.findIn K (.ref C) "close_one" = some (some (.ref f10))) (zi10 : PySem.W.isFn K (.ref f10) = true) (zl10 : K.lookup f10 = some ⟨oc10, od10, .func (PySem.W.fnOf "close_one" "DataReader.close_one" (defArgs s_DataReader_close_one) (defBody s_DataReader_close_one) (defScope s_DataReader_close_one) .none kV10 dc10 pm10 an10 cd10 ct10), sl10⟩) (zc10 : PySem.W.codeIn K cd10 "DataReader.close_one" = true) (zk10 : PySem.W.keepIn K (.ref f10) = true)
    (za11 : PySem.W.findIn K (.ref C) "comma" = some (some (.ref f11))) (zi11 : PySem.W.isFn K (.ref f11) = true) (zl11 : K.lookup f11 = some ⟨oc11, od11, .func (PySem.W.fnOf "comma" "DataReader.comma" (defArgs s_DataReader_comma) (defBody s_DataReader_comma) (defScope s_DataReader_comma) .none kV11 dc11 pm11 an11 cd11 ct11), sl11⟩) (zc11 : PySem.W.codeIn K cd11 "DataReader.comma" = true) (zk11 : PySem.W.keepIn K (.ref f11) = true)
    (za12 : PySem.W.findIn K (.ref C) "take" = some (some (.ref f12))) (zi12 : PySem.W.isFn K (.ref f12) = true) (zl12 : K.lookup f12 = some ⟨oc12, od12, .func (PySem.W.fnOf "take" "DataReader.take" (defArgs s_DataReader_take) (defBody s_DataReader_take) (defScope s_DataReader_take) .none kV12 dc12 pm12 an12 cd12 ct12), sl12⟩) (zc12 : PySem.W.codeIn K cd12 "DataReader.take" = true) (zk12 : PySem.W.keepIn K (.ref f12) = true)
    (za13 : PySem.W.nsIn K mainGlobals "read_data" = some (some (.ref f13))) (zl13 : K.lookup f13 = some ⟨oc13, od13, .func (PySem.W.fnOf "read_data" "read_data" (defArgs s_read_data) (defBody s_read_data) (defScope s_read_data) .none kV13 dc13 pm13 an13 cd13 ct13), sl13⟩) (zc13 : PySem.W.codeIn K cd13 "read_data" = true) (zk13 : PySem.W.keepIn K (.ref f13) = true)
    (za14 : PySem.W.nsIn K mainGlobals "_law_draw" = some (some (.ref f14))) (zl14 : K.lookup f14 = some ⟨oc14, od14, .func (PySem.W.fnOf "_law_draw" "_law_draw" (defArgs s_law_draw) (defBody s_law_draw) (defScope s_law_draw) .none kV14 dc14 pm14 an14 cd14 ct14), sl14⟩) (zc14 : PySem.W.codeIn K cd14 "_law_draw" = true) (zk14 : PySem.W.keepIn K (.ref f14) = true)
    (za15 : PySem.W.nsIn K mainGlobals "_law_take" = some (some (.ref f15))) (zl15 : K.lookup f15 = some ⟨oc15, od15, .func (PySem.W.fnOf "_law_take" "_law_take" (defArgs s_law_take) (defBody s_law_take) (defScope s_law_take) .none kV15 dc15 pm15 an15 cd15 ct15), sl15⟩) (zc15 : PySem.W.codeIn K cd15 "_law_take" = true) (zk15 : PySem.W.keepIn K (.ref f15) = true)
    (za16 : PySem.W.nsIn K mainGlobals "_law_data" = some (some (.ref f16))) (zl16 : K.lookup f16 = some ⟨oc16, od16, .func (PySem.W.fnOf "_law_data" "_law_data" (defArgs s_law_data) (defBody s_law_data) (defScope s_law_data) .none kV16 dc16 pm16 an16 cd16 ct16), sl16⟩) (zc16 : PySem.W.codeIn K cd16 "_law_data" = true) (zk16 : PySem.W.keepIn K (.ref f16) = true)
    (za17 : PySem.W.nsIn K mainGlobals "_law_word" = some (some (.ref f17))) (zl17 : K.lookup f17 = some ⟨oc17, od17, .func (PySem.W.fnOf "_law_word" "_law_word" (defArgs s_law_word) (defBody s_law_word) (defScope s_law_word) .none kV17 dc17 pm17 an17 cd17 ct17), sl17⟩) (zc17 : PySem.W.codeIn K cd17 "_law_word" = true) (zk17 : PySem.W.keepIn K (.ref f17) = true)
    (za18 : PySem.W.nsIn K mainGlobals "_law_written" = some (some (.ref f18))) (zl18 : K.lookup f18 = some ⟨oc18, od18, .func (PySem.W.fnOf "_law_written" "_law_written" (defArgs s_law_written) (defBody s_law_written) (defScope s_law_written) .none kV18 dc18 pm18 an18 cd18 ct18), sl18⟩) (zc18 : PySem.W.codeIn K cd18 "_law_written" = true) (zk18 : PySem.W.keepIn K (.ref f18) = true)
    (za19 : PySem.W.nsIn K mainGlobals "_law_number" = some (some (.ref f19))) (zl19 : K.lookup f19 = some ⟨oc19, od19, .func (PySem.W.fnOf "_law_number" "_law_number" (defArgs s_law_number) (defBody s_law_number) (defScope s_law_number) .none kV19 dc19 pm19 an19 cd19 ct19), sl19⟩) (zc19 : PySem.W.codeIn K cd19 "_law_number" = true) (zk19 : PySem.W.keepIn K (.ref f19) = true)
    (za20 : PySem.W.nsIn K mainGlobals "_law_read" = some (some (.ref f20))) (zl20 : K.lookup f20 = some ⟨oc20, od20, .func (PySem.W.fnOf "_law_read" "_law_read" (defArgs s_law_read) (defBody s_law_read) (defScope s_law_read) .none kV20 dc20 pm20 an20 cd20 ct20), sl20⟩) (zc20 : PySem.W.codeIn K cd20 "_law_read" = true) (zk20 : PySem.W.keepIn K (.ref f20) = true)
    (za21 : PySem.W.nsIn K mainGlobals "_law_told" = some (some (.ref f21))) (zl21 : K.lookup f21 = some ⟨oc21, od21, .func (PySem.W.fnOf "_law_told" "_law_told" (defArgs s_law_told) (defBody s_law_told) (defScope s_law_told) .none kV21 dc21 pm21 an21 cd21 ct21), sl21⟩) (zc21 : PySem.W.codeIn K cd21 "_law_told" = true) (zk21 : PySem.W.keepIn K (.ref f21) = true)
    (za22 : PySem.W.nsIn K mainGlobals "law" = some (some (.ref f22))) (zl22 : K.lookup f22 = some ⟨oc22, od22, .func (PySem.W.fnOf "law" "law" (defArgs s_law) (defBody s_law) (defScope s_law) .none kV22 dc22 pm22 an22 cd22 ct22), sl22⟩) (zc22 : PySem.W.codeIn K cd22 "law" = true) (zk22 : PySem.W.keepIn K (.ref f22) = true)
    (zpg : PySem.W.plainGet K C Str.empty = true) (zhd : PySem.W.hasDictIn K C = true) (zpo : PySem.W.plainOver K C = true) (zsa : PySem.W.findIn K (.ref C) "__setattr__" = some (some (.builtin "object.__setattr__"))) (zmk : PySem.W.makesIn K C = true) (zkc : PySem.W.keepIn K (.ref C) = true)
    (zn1 : PySem.W.findIn K (.ref C) "tuples" = some none) (zn2 : PySem.W.findIn K (.ref C) "ready" = some none) (zn3 : PySem.W.findIn K (.ref C) "told" = some none)
    (zb_len : PySem.W.nsIn K mainGlobals "len" = some none) (zb_int : PySem.W.nsIn K mainGlobals "int" = some none) (zb_str : PySem.W.nsIn K mainGlobals "str" = some none) (zb_bool : PySem.W.nsIn K mainGlobals "bool" = some none) (zb_abs : PySem.W.nsIn K mainGlobals "abs" = some none) (zb_tuple : PySem.W.nsIn K mainGlobals "tuple" = some none) (zb_range : PySem.W.nsIn K mainGlobals "range" = some none) (zb_isinstance : PySem.W.nsIn K mainGlobals "isinstance" = some none) (zb_all : PySem.W.nsIn K mainGlobals "all" = some none) (zb_any : PySem.W.nsIn K mainGlobals "any" = some none) (zb_repr : PySem.W.nsIn K mainGlobals "repr" = some none) (zb_enumerate : PySem.W.nsIn K mainGlobals "enumerate" = some none)
    (zv1 : PySem.W.nsIn K mainGlobals "LETTERS" = some (some (.str "abcdefghijklmnopqrstuvwxyz" tk1))) (zv2 : PySem.W.nsIn K mainGlobals "DIGITS" = some (some (.str "0123456789" tk2))) (zv3 : PySem.W.nsIn K mainGlobals "MOST_WORD" = some (some (.int 12 tk3))) (zv4 : PySem.W.nsIn K mainGlobals "MOST_DEPTH" = some (some (.int 1000 tk4))) (zv5 : PySem.W.nsIn K mainGlobals "MOST_DIGITS" = some (some (.int 4000 tk5)))
    (zx : PySem.W.excIn K M [.type "ValueError", .type "Exception", .type "BaseException", .type "object"] "ValueError.__new__" = true) (ze1 : PySem.W.subIn K (.ref M) (.type "BaseException") = some true) (ze2 : PySem.W.typeIn K (.ref M) = some (.type "type")) (ze3 : PySem.W.isClsIn K M = true) (ze4 : PySem.W.subIn K (.ref M) (.ref M) = some true) (ze5 : PySem.W.keepIn K (.ref M) = true)
    (zd1 : K.lookup PySem.cStatics = some zo) (zd2 : okObj zo = true) (zd3 : PySem.W.nsIn K PySem.cStatics "sys.int_max_str_digits" = some none) :
    ∃ fd : FuncData, (∀ (s : Shared) (v : Value), BindsTo s fd ⟨[v], []⟩ [("script", v)]) ∧ ∀ base : Heap, K.In base → base.Ns mainGlobals mg → RunG l.prog w K mg base fa fd ["script"] (sp_law K) := by
  have e := hfa.symm.trans (PySem.W.mg_of X G za22)
  cases e
  have T : Txt K mg M := { b_len := PySem.W.mg_none_of X G zb_len, b_int := PySem.W.mg_none_of X G zb_int, b_str := PySem.W.mg_none_of X G zb_str, b_bool := PySem.W.mg_none_of X G zb_bool, b_abs := PySem.W.mg_none_of X G zb_abs, b_tuple := PySem.W.mg_none_of X G zb_tuple, b_range := PySem.W.mg_none_of X G zb_range, b_isinstance := PySem.W.mg_none_of X G zb_isinstance, b_all := PySem.W.mg_none_of X G zb_all, b_any := PySem.W.mg_none_of X G zb_any, b_repr := PySem.W.mg_none_of X G zb_repr, b_enumerate := PySem.W.mg_none_of X G zb_enumerate, c_LETTERS := ⟨_, PySem.W.mg_of X G zv1, _, rfl⟩, c_DIGITS := ⟨_, PySem.W.mg_of X G zv2, _, rfl⟩, c_MOST_WORD := ⟨_, PySem.W.mg_of X G zv3, _, rfl⟩, c_MOST_DEPTH := ⟨_, PySem.W.mg_of X G zv4, _, rfl⟩, c_MOST_DIGITS := ⟨_, PySem.W.mg_of X G zv5, _, rfl⟩, g_Malformed := PySem.W.mg_of X G zaM, k_Malformed := ze5, x_Malformed := zx, s_Malformed := ze1, t_Malformed := ze2, e_Malformed := exm_self ze1 ze3 ze2 ze4, dg := ⟨ok_ns zd1 zd2, zd3⟩ }
  have R : Rdr K C := ⟨⟨zpg, zhd, zpo, zsa⟩, zn1, zn2, zn3⟩
  have F1 := fun_mk (st := s_is_whole) zl1 zc1 zk1
  have b1 := F1.binds (ps := ["value"]) fun _ _ _ _ _ _ us hl => match us, hl with | [_], _ => rfl
  have F2 := fun_mk (st := s_is_word) zl2 zc2 zk2
  have b2 := F2.binds (ps := ["value"]) fun _ _ _ _ _ _ us hl => match us, hl with | [_], _ => rfl
  have F3 := fun_mk (st := s_is_short) zl3 zc3 zk3
  have b3 := F3.binds (ps := ["value"]) fun _ _ _ _ _ _ us hl => match us, hl with | [_], _ => rfl
  have F4 := fun_mk (st := s_write_data) zl4 zc4 zk4
  have b4 := F4.binds (ps := ["data"]) fun _ _ _ _ _ _ us hl => match us, hl with | [_], _ => rfl
  have F5 := fun_mk (st := s_read_whole) zl5 zc5 zk5
  have b5 := F5.binds (ps := ["text"]) fun _ _ _ _ _ _ us hl => match us, hl with | [_], _ => rfl
  have F6 := fun_mk (st := s_pieces_of) zl6 zc6 zk6
  have b6 := F6.binds (ps := ["text"]) fun _ _ _ _ _ _ us hl => match us, hl with | [_], _ => rfl
  have F7 := fun_mk (st := s_DataReader_init) zl7 zc7 zk7
  have b7 := F7.binds (ps := ["self"]) fun _ _ _ _ _ _ us hl => match us, hl with | [_], _ => rfl
  have F8 := fun_mk (st := s_DataReader_item) zl8 zc8 zk8
  have b8 := F8.binds (ps := ["self", "value"]) fun _ _ _ _ _ _ us hl => match us, hl with | [_, _], _ => rfl
  have F9 := fun_mk (st := s_DataReader_open_one) zl9 zc9 zk9
  have b9 := F9.binds (ps := ["self"]) fun _ _ _ _ _ _ us hl => match us, hl with | [_], _ => rfl
  have F10 := fun_mk (st := s_DataReader_close_one) zl10 zc10 zk10
  have b10 := F10.binds (ps := ["self"]) fun _ _ _ _ _ _ us hl => match us, hl with | [_], _ => rfl
  have F11 := fun_mk (st := s_DataReader_comma) zl11 zc11 zk11
  have b11 := F11.binds (ps := ["self"]) fun _ _ _ _ _ _ us hl => match us, hl with | [_], _ => rfl
  have F12 := fun_mk (st := s_DataReader_take) zl12 zc12 zk12
  have b12 := F12.binds (ps := ["self", "piece"]) fun _ _ _ _ _ _ us hl => match us, hl with | [_, _], _ => rfl
  have F13 := fun_mk (st := s_read_data) zl13 zc13 zk13
  have b13 := F13.binds (ps := ["text"]) fun _ _ _ _ _ _ us hl => match us, hl with | [_], _ => rfl
  have F14 := fun_mk (st := s_law_draw) zl14 zc14 zk14
  have b14 := F14.binds (ps := ["script"]) fun _ _ _ _ _ _ us hl => match us, hl with | [_], _ => rfl
  have F15 := fun_mk (st := s_law_take) zl15 zc15 zk15
  have b15 := F15.binds (ps := ["draw", "many"]) fun _ _ _ _ _ _ us hl => match us, hl with | [_, _], _ => rfl
  have F16 := fun_mk (st := s_law_data) zl16 zc16 zk16
  have b16 := F16.binds (ps := ["draw", "deep"]) fun _ _ _ _ _ _ us hl => match us, hl with | [_, _], _ => rfl
  have F17 := fun_mk (st := s_law_word) zl17 zc17 zk17
  have b17 := F17.binds (ps := ["value"]) fun _ _ _ _ _ _ us hl => match us, hl with | [_], _ => rfl
  have F18 := fun_mk (st := s_law_written) zl18 zc18 zk18
  have b18 := F18.binds (ps := ["data"]) fun _ _ _ _ _ _ us hl => match us, hl with | [_], _ => rfl
  have F19 := fun_mk (st := s_law_number) zl19 zc19 zk19
  have b19 := F19.binds (ps := ["text"]) fun _ _ _ _ _ _ us hl => match us, hl with | [_], _ => rfl
  have F20 := fun_mk (st := s_law_read) zl20 zc20 zk20
  have b20 := F20.binds (ps := ["text"]) fun _ _ _ _ _ _ us hl => match us, hl with | [_], _ => rfl
  have F21 := fun_mk (st := s_law_told) zl21 zc21 zk21
  have b21 := F21.binds (ps := ["which", "value"]) fun _ _ _ _ _ _ us hl => match us, hl with | [_, _], _ => rfl
  have F22 := fun_mk (st := s_law) zl22 zc22 zk22
  have b22 := F22.binds (ps := ["script"]) fun _ _ _ _ _ _ us hl => match us, hl with | [_], _ => rfl
  refine ⟨PySem.W.fnOf "law" "law" (defArgs s_law) (defBody s_law) (defScope s_law) .none kV22 dc22 pm22 an22 cd22 ct22, fun s v => .of_eq rfl, fun base _ _ => ?_⟩
  have c_is_whole : Cl l.prog w K mg base 1 "is_whole" (sp_is_whole K) := ⟨⟨_, _, _, ok_is_whole F1 T, PySem.W.mg_of X G za1, zk1, b1⟩⟩
  have c_is_word : Cl l.prog w K mg base 1 "is_word" (sp_is_word K) := ⟨⟨_, _, _, ok_is_word F2 T, PySem.W.mg_of X G za2, zk2, b2⟩⟩
  have c_is_short : Cl l.prog w K mg base 2 "is_short" (sp_is_short K) := ⟨⟨_, _, _, ok_is_short F3 T c_is_whole, PySem.W.mg_of X G za3, zk3, b3⟩⟩
  have c_write_data : Cl l.prog w K mg base 3 "write_data" (sp_write_data K M) := ⟨⟨_, _, _, ok_write_data F4 T c_is_word c_is_short, PySem.W.mg_of X G za4, zk4, b4⟩⟩
  have c_read_whole : Cl l.prog w K mg base 1 "read_whole" (sp_read_whole M) := ⟨⟨_, _, _, ok_read_whole F5 T, PySem.W.mg_of X G za5, zk5, b5⟩⟩
  have c_pieces_of : Cl l.prog w K mg base 1 "pieces_of" sp_pieces_of := ⟨⟨_, _, _, ok_pieces_of F6 T, PySem.W.mg_of X G za6, zk6, b6⟩⟩
  have m_item : Md l.prog w K mg base 1 C "item" (sp_item K C M) := ⟨⟨_, _, _, R.cls, ⟨za8, zi8, zk8⟩, ok_item F8 T R, b8⟩⟩
  have m_open : Md l.prog w K mg base 1 C "open_one" (stepSp K C M M53.openP) := ⟨⟨_, _, _, R.cls, ⟨za9, zi9, zk9⟩, ok_open_one F9 T R, b9⟩⟩
  have m_close : Md l.prog w K mg base 2 C "close_one" (stepSp K C M M53.closeP) := ⟨⟨_, _, _, R.cls, ⟨za10, zi10, zk10⟩, ok_close_one F10 T R m_item, b10⟩⟩
  have m_comma : Md l.prog w K mg base 1 C "comma" (stepSp K C M M53.commaP) := ⟨⟨_, _, _, R.cls, ⟨za11, zi11, zk11⟩, ok_comma F11 T R, b11⟩⟩
  have m_take : Md l.prog w K mg base 3 C "take" (sp_take K C M) := ⟨⟨_, _, _, R.cls, ⟨za12, zi12, zk12⟩, ok_take F12 T c_is_word c_read_whole m_item m_open m_close m_comma, b12⟩⟩
  have m_make : Mr l.prog w K mg base 1 "DataReader" C (sp_init K C) [] := ⟨⟨_, _, _, [], ⟨zmk, za7, zi7, zkc⟩, ok_init F7 T R, PySem.W.mg_of X G zaC, b7, .nil⟩⟩
  have c_read_data : Cl l.prog w K mg base 4 "read_data" (sp_read_data K M) := ⟨⟨_, _, _, ok_read_data F13 T R c_pieces_of m_make m_take, PySem.W.mg_of X G za13, zk13, b13⟩⟩
  have c_draw : Cl l.prog w K mg base 1 "_law_draw" (sp_draw K) := ⟨⟨_, _, _, ok_law_draw F14 T, PySem.W.mg_of X G za14, zk14, b14⟩⟩
  have c_take : Cl l.prog w K mg base 1 "_law_take" sp_lawtake := ⟨⟨_, _, _, ok_law_take F15 T, PySem.W.mg_of X G za15, zk15, b15⟩⟩
  have c_data : Cl l.prog w K mg base 7 "_law_data" (spd K 6) := ⟨⟨_, _, _, ok_law_data F16 T (PySem.W.mg_of X G za16) b16 c_take 6, PySem.W.mg_of X G za16, zk16, b16⟩⟩
  have c_word : Cl l.prog w K mg base 1 "_law_word" (sp_is_word K) := ⟨⟨_, _, _, ok_law_word F17 T, PySem.W.mg_of X G za17, zk17, b17⟩⟩
  have c_written : Cl l.prog w K mg base 131 "_law_written" (spw K 130) := ⟨⟨_, _, _, ok_law_written F18 T (PySem.W.mg_of X G za18) b18 c_word 130, PySem.W.mg_of X G za18, zk18, b18⟩⟩
  have c_number : Cl l.prog w K mg base 1 "_law_number" sp_law_number := ⟨⟨_, _, _, ok_law_number F19 T, PySem.W.mg_of X G za19, zk19, b19⟩⟩
  have c_read : Cl l.prog w K mg base 2 "_law_read" (sp_law_read K) := ⟨⟨_, _, _, ok_law_read F20 T c_word c_number, PySem.W.mg_of X G za20, zk20, b20⟩⟩
  have c_told : Cl l.prog w K mg base 5 "_law_told" (sp_told K) := ⟨⟨_, _, _, ok_law_told F21 T c_write_data c_read_data, PySem.W.mg_of X G za21, zk21, b21⟩⟩
  exact ok_law F22 T c_draw c_take c_data c_written c_read c_told
theorem walk {l : PySem.W.OpenLaw} {q : Program} {loose : List Str} {XP : (Str → Option Value) → Heap → Prop} {YP : World → Heap → Prop} {d : DefRec} {K : Params → PySem.W.Frag} (hn : l.most = some 63) (hdf : d.params.defaults = [])
    (hY : ∀ (w : World) (h : Heap), YP w h → (K w.params).In h)
    (F : ∀ (w : World) (mg : Str → Option Value) (fa : Addr) (h : Heap), (K w.params).In h → h.Ns mainGlobals mg → mg d.name = some (.ref fa) →
      ∃ fd : FuncData, (∀ (s : Shared) (u : Value), BindsTo s fd ⟨[u], []⟩ [("script", u)]) ∧ ∀ base : Heap, (K w.params).In base → base.Ns mainGlobals mg → RunG l.prog w (K w.params) mg base fa fd ["script"] (sp_law (K w.params))) :
    PySem.W.WalkO q loose XP YP l.row.toRowW d [] (fun f vs => PySem.call f vs) :=
  Ux.walk_ofG (n := 63) (x := "script") (sp := fun w => sp_law (K w.params)) hn (by decide) hdf hY F fun _ _ a ns hl hS _ => ⟨a, ns, rfl, hS, Nat.le_trans hl (by decide), fun _ => rfl⟩
end K53
open PySem PySem.W PyProof.Rows
set_option maxRecDepth 100000 in
set_option maxHeartbeats 0 in
theorem PySem.Challenge.cw_wirewary_k53_whole_plain_data_holds : PySem.Challenge.rw_wirewary_k53_whole_plain_data.Holds := by
  w_on; o_law; k_head; (case hw => w_witness2)
  k_fill
  refine K53.walk (l := PySem.Challenge.rw_wirewary_k53_whole_plain_data) rfl rfl (fun w h Y => PySem.W.kIn_of Y) ?F
  case F =>
    intro w mg fa h KX G hmg
    refine' K53.all_mk KX G hmg ?zaC ?zaM ?za1 ?zl1 ?zc1 ?zk1 ?za2 ?zl2 ?zc2 ?zk2 ?za3 ?zl3 ?zc3 ?zk3 ?za4 ?zl4 ?zc4 ?zk4 ?za5 ?zl5 ?zc5 ?zk5 ?za6 ?zl6 ?zc6 ?zk6 ?za7 ?zi7 ?zl7 ?zc7 ?zk7 ?za8 ?zi8 ?zl8 ?zc8 ?zk8 ?za9 ?zi9 ?zl9 ?zc9 ?zk9 ?za10 ?zi10 ?zl10 ?zc10 ?zk10 ?za11 ?zi11 ?zl11 ?zc11 ?zk11 ?za12 ?zi12 ?zl12 ?zc12 ?zk12 ?za13 ?zl13 ?zc13 ?zk13 ?za14 ?zl14 ?zc14 ?zk14 ?za15 ?zl15 ?zc15 ?zk15 ?za16 ?zl16 ?zc16 ?zk16 ?za17 ?zl17 ?zc17 ?zk17 ?za18 ?zl18 ?zc18 ?zk18 ?za19 ?zl19 ?zc19 ?zk19 ?za20 ?zl20 ?zc20 ?zk20 ?za21 ?zl21 ?zc21 ?zk21 ?za22 ?zl22 ?zc22 ?zk22 ?zpg ?zhd ?zpo ?zsa ?zmk ?zkc ?zn1 ?zn2 ?zn3 ?zb_len ?zb_int ?zb_str ?zb_bool ?zb_abs ?zb_tuple ?zb_range ?zb_isinstance ?zb_all ?zb_any ?zb_repr ?zb_enumerate ?zv1 ?zv2 ?zv3 ?zv4 ?zv5 ?zx ?ze1 ?ze2 ?ze3 ?ze4 ?ze5 ?zd1 ?zd2 ?zd3
    (case zaC => k_is)
    (case zaM => k_is)
    (case za1 => k_is)
    (case zl1 => k_is)
    (case zc1 => k_is)
    (case zk1 => k_is)
    (case za2 => k_is)
    (case zl2 => k_is)
    (case zc2 => k_is)
    (case zk2 => k_is)
    (case za3 => k_is)
    (case zl3 => k_is)
    (case zc3 => k_is)
    (case zk3 => k_is)
    (case za4 => k_is)
    (case zl4 => k_is)
    (case zc4 => k_is)
    (case zk4 => k_is)
    (case za5 => k_is)
    (case zl5 => k_is)
    (case zc5 => k_is)
    (case zk5 => k_is)
    (case za6 => k_is)
    (case zl6 => k_is)
    (case zc6 => k_is)
    (case zk6 => k_is)
    (case za7 => k_is)
    (case zi7 => k_is)
    (case zl7 => k_is)
    (case zc7 => k_is)
    (case zk7 => k_is)
    (case za8 => k_is)
    (case zi8 => k_is)
    (case zl8 => k_is)
    (case zc8 => k_is)
    (case zk8 => k_is)
    (case za9 => k_is)
    (case zi9 => k_is)
    (case zl9 => k_is)
    (case zc9 => k_is)
    (case zk9 => k_is)
    (case za10 => k_is)
    (case zi10 => k_is)
    (case zl10 => k_is)
    (case zc10 => k_is)
    (case zk10 => k_is)
    (case za11 => k_is)
    (case zi11 => k_is)
    (case zl11 => k_is)
    (case zc11 => k_is)
    (case zk11 => k_is)
    (case za12 => k_is)
    (case zi12 => k_is)
    (case zl12 => k_is)
    (case zc12 => k_is)
    (case zk12 => k_is)
    (case za13 => k_is)
    (case zl13 => k_is)
    (case zc13 => k_is)
    (case zk13 => k_is)
    (case za14 => k_is)
    (case zl14 => k_is)
    (case zc14 => k_is)
    (case zk14 => k_is)
    (case za15 => k_is)
    (case zl15 => k_is)
    (case zc15 => k_is)
    (case zk15 => k_is)
    (case za16 => k_is)
    (case zl16 => k_is)
    (case zc16 => k_is)
    (case zk16 => k_is)
    (case za17 => k_is)
    (case zl17 => k_is)
    (case zc17 => k_is)
    (case zk17 => k_is)
    (case za18 => k_is)
    (case zl18 => k_is)
    (case zc18 => k_is)
    (case zk18 => k_is)
    (case za19 => k_is)
    (case zl19 => k_is)
    (case zc19 => k_is)
    (case zk19 => k_is)
    (case za20 => k_is)
    (case zl20 => k_is)
    (case zc20 => k_is)
    (case zk20 => k_is)
    (case za21 => k_is)
    (case zl21 => k_is)
    (case zc21 => k_is)
    (case zk21 => k_is)
    (case za22 => k_is)
    (case zl22 => k_is)
    (case zc22 => k_is)
    (case zk22 => k_is)
    (case zpg => k_is)
    (case zhd => k_is)
    (case zpo => k_is)
    (case zsa => k_is)
    (case zmk => k_is)
    (case zkc => k_is)
    (case zn1 => k_is)
    (case zn2 => k_is)
    (case zn3 => k_is)
    (case zb_len => k_is)
    (case zb_int => k_is)
    (case zb_str => k_is)
    (case zb_bool => k_is)
    (case zb_abs => k_is)
    (case zb_tuple => k_is)
    (case zb_range => k_is)
    (case zb_isinstance => k_is)
    (case zb_all => k_is)
    (case zb_any => k_is)
    (case zb_repr => k_is)
    (case zb_enumerate => k_is)
    (case zv1 => k_is)
    (case zv2 => k_is)
    (case zv3 => k_is)
    (case zv4 => k_is)
    (case zv5 => k_is)
    (case zx => k_exc)
    (case ze1 => k_is)
    (case ze2 => k_is)
    (case ze3 => k_is)
    (case ze4 => first | rfl | k_is)
    (case ze5 => k_is)
    (case zd1 => k_is)
    (case zd2 => decide +kernel)
    (case zd3 => k_is)

