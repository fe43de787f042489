import PyProof.Rows.All
import Wide.All
import OpenK.AllK
import Wide.FinOn
import PyProof.EqAt
import PyProof.EqKinds
import PyProof.TupleCall
import KE.KStateDown
import KE.DataMinMax
import KE.SortKeyHeap
import KE.KDictKeyed
import KE.KeyNested
import KE.KDictWalk
import KE.KDictCopyH
import KE.KDictDisplayH
import KE.KLam
import KE.GoesZip
import HandS.Base
import HandS.Call
import HandS.List
import HandS.Comp
import HandS.Ends
import HandS.Dict
import HandS.Iter
import HandS.Text
import HandS.More
import HandS.Exc
import HandS.TryOnly
import HandS.ExcOwn
import HandS.ExcInit
import HandS.Small
import HandS.Words
import HandS.WordsList
import HandS.WordsDict
import HandS.WordsExc
import HandS.Defaults
import HandS.Wide
import HandS.TupAny
import HandS.NoneIn
import HandS.Style
import HandS.IsInst
import HandS.Conv
import HandS.Walk
import HandS.Zip
import HandS.Sort
import HandS.SortKw
import HandS.Codes
import HandS.Evl
import HandS.Lambda
import HandS.EndBits
import HandS.EndTab
import HandS.HeadWalk
import HandS.Head0
import HandS.Head1
import HandS.Head2
import HandS.HeadEnd
import HandS.HeadHook1
import HandS.HeadHook2
import PySem.Challenge.RW_rinsework_k82_whole_safe_ones_worked
import KE.GoesMore
import HandS.HeadHook3
import HandS.HeadHook4
set_option Elab.async false
set_option linter.all false
set_option maxRecDepth 100000
set_option maxHeartbeats 4000000
/-! Least rinses: the program's way (all ways through one hue at a time) and the law's way (n + 1 turns of shortening) come to the same numbers. Plain Lean. -/
namespace Rw82
abbrev Mat := Nat → Nat → Int
def setM (D : Mat) (f h : Nat) (v : Int) : Mat := fun a b => if a = f ∧ b = h then v else D a b
theorem setM_same (D : Mat) (f h : Nat) (v : Int) : setM D f h v f h = v := if_pos ⟨rfl, rfl⟩
theorem setM_ne (D : Mat) {f h a b : Nat} (v : Int) (e : ¬ (a = f ∧ b = h)) : setM D f h v a b = D a b := if_neg e
/-- f 0, f 1, .., f (n - 1) one behind the other -/
def iter {α : Type} (f : Nat → α → α) : Nat → α → α
  | 0, a => a
  | n + 1, a => f n (iter f n a)
/-- one cell: the way through k -/
def fwCell (k f : Nat) (l : Nat) (D : Mat) : Mat := if D f k + D k l < D f l then setM D f l (D f k + D k l) else D
def fwRow (n k : Nat) (f : Nat) (D : Mat) : Mat := iter (fwCell k f) n D
def fwPhase (n : Nat) (k : Nat) (D : Mat) : Mat := iter (fwRow n k) (n + 1) D
def fw (n : Nat) (D : Mat) : Mat := iter (fwPhase n) n D
def Nonneg (D : Mat) : Prop := ∀ a b, 0 ≤ D a b
/-- what a phase comes to -/
def tgt (k : Nat) (D : Mat) : Mat := fun a b => min (D a b) (D a k + D k b)
theorem tgt_row {k : Nat} {D : Mat} (h : Nonneg D) (b : Nat) : tgt k D k b = D k b := by
  have := h k k
  unfold tgt
  omega
theorem tgt_col {k : Nat} {D : Mat} (h : Nonneg D) (a : Nat) : tgt k D a k = D a k := by
  have := h k k
  unfold tgt
  omega
/-- within a row, j cells done -/
theorem fwRow_at {n k f : Nat} {D C : Mat} (h : Nonneg D) (hk : k < n) (hC : ∀ a b, C a b = if a < f ∧ b < n then tgt k D a b else D a b) :
    ∀ j, j ≤ n → ∀ a b, iter (fwCell k f) j C a b = if (a < f ∧ b < n) ∨ (a = f ∧ b < j) then tgt k D a b else D a b := by
  intro j
  induction j with
  | zero =>
    intro _ a b
    show C a b = _
    rw [hC]
    by_cases e : a < f ∧ b < n
    · rw [if_pos e, if_pos (.inl e)]
    · rw [if_neg e, if_neg (by rintro (q | ⟨_, q⟩); exact e q; exact absurd q (Nat.not_lt_zero _))]
  | succ j ih =>
    intro hj a b
    have I := ih (by omega)
    have e1 : iter (fwCell k f) j C f k = D f k := by
      rw [I]
      split
      · exact tgt_col h f
      · rfl
    have e2 : iter (fwCell k f) j C k j = D k j := by
      rw [I]
      split
      · exact tgt_row h j
      · rfl
    have e3 : iter (fwCell k f) j C f j = D f j := by
      rw [I, if_neg (by rintro (q | q) <;> omega)]
    have step : ∀ C' : Mat, C' f k = D f k → C' k j = D k j → fwCell k f j C' = if D f k + D k j < C' f j then setM C' f j (D f k + D k j) else C' := fun C' q1 q2 => by
      show (if C' f k + C' k j < C' f j then setM C' f j (C' f k + C' k j) else C') = _
      rw [q1, q2]
    show fwCell k f j (iter (fwCell k f) j C) a b = _
    rw [step _ e1 e2, e3]
    by_cases c : a = f ∧ b = j
    · obtain ⟨rfl, rfl⟩ := c
      rw [if_pos (show (a < a ∧ b < n) ∨ (a = a ∧ b < b + 1) from .inr ⟨rfl, by omega⟩)]
      by_cases q : D a k + D k b < D a b
      · rw [if_pos q, setM_same]; unfold tgt; omega
      · rw [if_neg q, e3]; unfold tgt; omega
    · have e4 : (if D f k + D k j < D f j then setM (iter (fwCell k f) j C) f j (D f k + D k j) else iter (fwCell k f) j C) a b = iter (fwCell k f) j C a b := by
        split
        · exact setM_ne _ _ c
        · rfl
      rw [e4, I]
      by_cases q : (a < f ∧ b < n) ∨ (a = f ∧ b < j)
      · rw [if_pos q, if_pos (by omega)]
      · rw [if_neg q, if_neg (by omega)]
theorem fwRows_at {n k : Nat} {D : Mat} (h : Nonneg D) (hk : k < n) : ∀ f, ∀ a b, iter (fwRow n k) f D a b = if a < f ∧ b < n then tgt k D a b else D a b := by
  intro f
  induction f with
  | zero =>
    intro a b
    rw [if_neg (by omega)]
    rfl
  | succ f ih =>
    intro a b
    show iter (fwCell k f) n (iter (fwRow n k) f D) a b = _
    rw [fwRow_at h hk ih n (Nat.le_refl _)]
    by_cases q : (a < f ∧ b < n) ∨ (a = f ∧ b < n)
    · rw [if_pos q, if_pos (by omega)]
    · rw [if_neg q, if_neg (by omega)]
theorem fwPhase_at {n k : Nat} {D : Mat} (h : Nonneg D) (hk : k < n) (a b : Nat) : fwPhase n k D a b = if a < n + 1 ∧ b < n then tgt k D a b else D a b := fwRows_at h hk (n + 1) a b
theorem fwPhase_nonneg {n k : Nat} {D : Mat} (h : Nonneg D) (hk : k < n) : Nonneg (fwPhase n k D) := fun a b => by
  rw [fwPhase_at h hk]
  have h1 := h a b
  have h2 := h a k
  have h3 := h k b
  split
  · unfold tgt; omega
  · exact h1
theorem fw_nonneg {n : Nat} {R : Mat} (h : Nonneg R) : ∀ k, k ≤ n → Nonneg (iter (fwPhase n) k R)
  | 0, _ => h
  | k + 1, hk => fwPhase_nonneg (fw_nonneg h k (by omega)) (by omega)
/-- the ways through the hues below k are all there -/
theorem fw_tri {n : Nat} {R : Mat} (h : Nonneg R) : ∀ k, k ≤ n → ∀ g, g < k → ∀ a b, a < n + 1 → b < n → iter (fwPhase n) k R a b ≤ iter (fwPhase n) k R a g + iter (fwPhase n) k R g b
  | 0, _, g, hg, _, _, _, _ => absurd hg (Nat.not_lt_zero _)
  | k + 1, hk, g, hg, a, b, ha, hb => by
    have N := fw_nonneg (n := n) h k (by omega)
    have ih := fw_tri (n := n) h k (by omega)
    show fwPhase n k (iter (fwPhase n) k R) a b ≤ fwPhase n k (iter (fwPhase n) k R) a g + fwPhase n k (iter (fwPhase n) k R) g b
    rw [fwPhase_at N (by omega), fwPhase_at N (by omega), fwPhase_at N (by omega), if_pos ⟨ha, hb⟩, if_pos ⟨ha, by omega⟩, if_pos ⟨by omega, hb⟩]
    generalize iter (fwPhase n) k R = D at N ih
    have n1 := N g k
    have n2 := N k g
    have n3 := N k k
    by_cases e : g = k
    · subst e
      unfold tgt
      omega
    · have hgk : g < k := by omega
      have i1 := ih g hgk a b ha hb
      have i2 := ih g hgk a k ha (by omega)
      have i3 := ih g hgk k b (by omega) hb
      unfold tgt
      omega
theorem fw_le {n : Nat} {R : Mat} (h : Nonneg R) : ∀ k, k ≤ n → ∀ a b, iter (fwPhase n) k R a b ≤ R a b
  | 0, _, _, _ => Int.le_refl _
  | k + 1, hk, a, b => by
    have ih := fw_le (n := n) h k (by omega) a b
    show fwPhase n k (iter (fwPhase n) k R) a b ≤ R a b
    rw [fwPhase_at (fw_nonneg h k (by omega)) (by omega)]
    split
    · unfold tgt; omega
    · exact ih

/-! ### the law's way -/
/-- v is what a cell of the law's comes to -/
structure LCell (n : Nat) (L : Mat) (f h : Nat) (v : Int) : Prop where
  le : v ≤ L f h
  sum : ∀ g, g < n → v ≤ L f g + L g h
  one : v = L f h ∨ ∃ g, g < n ∧ v = L f g + L g h
/-- between two cells of a turn that began with L0: the rows below f, and h cells of row f are done -/
structure LInv (n : Nat) (D L0 : Mat) (f h : Nat) (L : Mat) : Prop where
  lo : ∀ a b, a < n + 1 → b < n → D a b ≤ L a b
  up : ∀ a b, a < n + 1 → b < n → L a b ≤ L0 a b
  done : ∀ a b g, a < n + 1 → b < n → g < n → (a < f ∨ (a = f ∧ b < h)) → L a b ≤ L0 a g + L0 g b
theorem LInv.start {n : Nat} {D L0 : Mat} (h : ∀ a b, a < n + 1 → b < n → D a b ≤ L0 a b) : LInv n D L0 0 0 L0 :=
  ⟨h, fun _ _ _ _ => Int.le_refl _, fun a b g _ _ _ q => absurd q (by omega)⟩
theorem LInv.cell {n : Nat} {D L0 L : Mat} {f h : Nat} {v : Int} (I : LInv n D L0 f h L) (hf : f < n + 1) (hh : h < n) (tri : ∀ g, g < n → ∀ a b, a < n + 1 → b < n → D a b ≤ D a g + D g b) (c : LCell n L f h v) :
    LInv n D L0 f (h + 1) (setM L f h v) := by
  refine ⟨fun a b ha hb => ?_, fun a b ha hb => ?_, fun a b g ha hb hg q => ?_⟩
  · by_cases e : a = f ∧ b = h
    · obtain ⟨rfl, rfl⟩ := e
      rw [setM_same]
      rcases c.one with e | ⟨g, hg, e⟩
      · rw [e]; exact I.lo _ _ ha hb
      · have h1 := tri g hg a b ha hb
        have h2 := I.lo a g ha hg
        have h3 := I.lo g b (by omega) hb
        omega
    · rw [setM_ne _ _ e]; exact I.lo _ _ ha hb
  · by_cases e : a = f ∧ b = h
    · obtain ⟨rfl, rfl⟩ := e
      rw [setM_same]
      exact Int.le_trans c.le (I.up _ _ ha hb)
    · rw [setM_ne _ _ e]; exact I.up _ _ ha hb
  · by_cases e : a = f ∧ b = h
    · obtain ⟨rfl, rfl⟩ := e
      rw [setM_same]
      have h1 := c.sum g hg
      have h2 := I.up a g ha hg
      have h3 := I.up g b (by omega) hb
      omega
    · rw [setM_ne _ _ e]
      exact I.done a b g ha hb hg (by omega)
theorem LInv.row {n : Nat} {D L0 L : Mat} {f : Nat} (I : LInv n D L0 f n L) : LInv n D L0 (f + 1) 0 L :=
  ⟨I.lo, I.up, fun a b g ha hb hg q => I.done a b g ha hb hg (by omega)⟩
/-- behind t turns -/
structure LTurn (n : Nat) (R : Mat) (t : Nat) (L : Mat) : Prop where
  lo : ∀ a b, a < n + 1 → b < n → fw n R a b ≤ L a b
  up : ∀ k, k ≤ t → k ≤ n → ∀ a b, a < n + 1 → b < n → L a b ≤ iter (fwPhase n) k R a b
theorem LTurn.start {n : Nat} {R : Mat} (h : Nonneg R) : LTurn n R 0 R :=
  ⟨fun a b _ _ => fw_le h n (Nat.le_refl _) a b, fun k hk _ a b _ _ => by
    have e : k = 0 := by omega
    subst e
    exact Int.le_refl _⟩
theorem LTurn.inv {n t : Nat} {R L : Mat} (T : LTurn n R t L) : LInv n (fw n R) L 0 0 L := LInv.start T.lo
theorem LTurn.next {n t : Nat} {R L0 L : Mat} (h : Nonneg R) (T : LTurn n R t L0) (I : LInv n (fw n R) L0 (n + 1) 0 L) : LTurn n R (t + 1) L := by
  refine ⟨I.lo, fun k hk hn a b ha hb => ?_⟩
  cases k with
  | zero => exact Int.le_trans (I.up a b ha hb) (T.up 0 (by omega) (by omega) a b ha hb)
  | succ k =>
    show L a b ≤ fwPhase n k (iter (fwPhase n) k R) a b
    rw [fwPhase_at (fw_nonneg h k (by omega)) (by omega), if_pos ⟨ha, hb⟩]
    have h1 := I.up a b ha hb
    have h2 := T.up k (by omega) (by omega) a b ha hb
    have h3 := I.done a b k ha hb (by omega) (.inl ha)
    have h4 := T.up k (by omega) (by omega) a k ha (by omega)
    have h5 := T.up k (by omega) (by omega) k b (by omega) hb
    unfold tgt
    omega
/-- behind n turns or more both are one -/
theorem LTurn.fin {n t : Nat} {R L : Mat} (T : LTurn n R t L) (ht : n ≤ t) {a b : Nat} (ha : a < n + 1) (hb : b < n) : L a b = fw n R a b :=
  Int.le_antisymm (T.up n ht (Nat.le_refl _) a b ha hb) (T.lo a b ha hb)
theorem fw_pos {n : Nat} {R : Mat} (h : Nonneg R) : Nonneg (fw n R) := fw_nonneg h n (Nat.le_refl _)
theorem fw_tri' {n : Nat} {R : Mat} (h : Nonneg R) : ∀ g, g < n → ∀ a b, a < n + 1 → b < n → fw n R a b ≤ fw n R a g + fw n R g b := fun g hg a b ha hb => fw_tri h n (Nat.le_refl _) g hg a b ha hb
end Rw82
/-! Plans in due order, what a search by layers finds, and why a first cloth of such a plan is safe. Plain Lean. -/
namespace Rw82
structure Cl (α : Type) where
  name : α
  hue : Nat
  len : Int
  due : Int
  wt : Int
section
variable {α : Type}
/-- a list in due order: its cloths stand as an interleaving of the rows -/
inductive DueOrd : List (List (Cl α)) → List (Cl α) → Prop
  | nil {rows : List (List (Cl α))} (h : ∀ r ∈ rows, r = []) : DueOrd rows []
  | cons {rows : List (List (Cl α))} {h : Nat} {c : Cl α} {r p : List (Cl α)} (e : rows[h]? = some (c :: r)) (q : DueOrd (rows.set h r) p) : DueOrd rows (c :: p)
/-- the latenesses of a list that is begun at last and t -/
def lates (r : Int → Nat → Int) : Int → Int → List (Cl α) → List Int
  | _, _, [] => []
  | last, t, c :: p => (t + r last c.hue + c.len - c.due) :: lates r c.hue (t + r last c.hue + c.len) p
/-- the last hue and the end of a list -/
def ends (r : Int → Nat → Int) : Int → Int → List (Cl α) → Int × Int
  | last, t, [] => (last, t)
  | last, t, c :: p => ends r c.hue (t + r last c.hue + c.len) p
theorem lates_append (r : Int → Nat → Int) : ∀ (p q : List (Cl α)) (last t : Int), lates r last t (p ++ q) = lates r last t p ++ lates r (ends r last t p).1 (ends r last t p).2 q
  | [], _, _, _ => rfl
  | c :: p, q, last, t => by
    show _ :: lates r _ _ (p ++ q) = _ :: (lates r _ _ p ++ _)
    rw [lates_append r p q]
    rfl
theorem ends_append (r : Int → Nat → Int) : ∀ (p q : List (Cl α)) (last t : Int), ends r last t (p ++ q) = ends r (ends r last t p).1 (ends r last t p).2 q
  | [], _, _, _ => rfl
  | c :: p, q, last, t => ends_append r p q _ _
/-- a lateness keeps a bound -/
def okB (b : Option Int) (l : Int) : Prop := ∀ x, b = some x → l ≤ x
/-- a plan in due order that keeps the bound -/
def Keeps (r : Int → Nat → Int) (b : Option Int) (last t : Int) (rows : List (List (Cl α))) (p : List (Cl α)) : Prop := DueOrd rows p ∧ ∀ l ∈ lates r last t p, okB b l
def Can (r : Int → Nat → Int) (b : Option Int) (last t : Int) (rows : List (List (Cl α))) : Prop := ∃ p, Keeps r b last t rows p
abbrev Stt := List Nat × Int
/-- from the state s at the time t on with the next cloth c of the row h -/
def Goes (rows : List (List (Cl α))) (r : Int → Nat → Int) (s : Stt) (t : Int) (h : Nat) (c : Cl α) (s' : Stt) (e : Int) : Prop :=
  ∃ row m, rows[h]? = some row ∧ s.1[h]? = some m ∧ row[m]? = some c ∧ s' = (s.1.set h (m + 1), (h : Int)) ∧ e = t + r s.2 h + c.len
def HueOk (rows : List (List (Cl α))) : Prop := ∀ (h : Nat) (row : List (Cl α)) (c : Cl α), rows[h]? = some row → c ∈ row → c.hue = h
/-- what is left of the rows -/
def rem (rows : List (List (Cl α))) (counts : List Nat) : List (List (Cl α)) := List.zipWith (fun row m => row.drop m) rows counts
theorem rem_get (rows : List (List (Cl α))) (counts : List Nat) (h : Nat) : (rem rows counts)[h]? = match rows[h]?, counts[h]? with
    | some row, some m => some (row.drop m)
    | _, _ => none := by
  unfold rem
  rw [List.getElem?_zipWith]
  cases rows[h]? <;> cases counts[h]? <;> rfl
theorem rem_set {rows : List (List (Cl α))} {counts : List Nat} {h m : Nat} {row : List (Cl α)} (e1 : rows[h]? = some row) (e2 : counts[h]? = some m) :
    rem rows (counts.set h (m + 1)) = (rem rows counts).set h (row.drop (m + 1)) := by
  apply List.ext_getElem?
  intro j
  rw [rem_get]
  by_cases hj : j = h
  · subst hj
    have l1 : j < counts.length := (List.getElem?_eq_some_iff.mp e2).1
    have l2 : j < (rem rows counts).length := by
      have q := rem_get rows counts j
      rw [e1, e2] at q
      exact (List.getElem?_eq_some_iff.mp q).1
    rw [List.getElem?_set_self l1, List.getElem?_set_self l2, e1]
  · rw [List.getElem?_set_ne (Ne.symm hj), List.getElem?_set_ne (Ne.symm hj), rem_get]
theorem rem_zero : ∀ rows : List (List (Cl α)), rem rows (List.replicate rows.length 0) = rows
  | [] => rfl
  | r :: rows => by
    have ih := rem_zero rows
    show r.drop 0 :: rem rows (List.replicate rows.length 0) = r :: rows
    rw [ih]
    rfl
/-- all cloths are done -/
def Done (rows : List (List (Cl α))) (counts : List Nat) : Prop := ∀ (h : Nat) (row : List (Cl α)) (m : Nat), rows[h]? = some row → counts[h]? = some m → m = row.length
/-- counts of a state -/
def Cnt (rows : List (List (Cl α))) (counts : List Nat) : Prop := counts.length = rows.length ∧ ∀ (h : Nat) (row : List (Cl α)) (m : Nat), rows[h]? = some row → counts[h]? = some m → m ≤ row.length
theorem Cnt.set {rows : List (List (Cl α))} {counts : List Nat} {h m : Nat} {row : List (Cl α)} {c : Cl α} (k : Cnt rows counts) (e1 : rows[h]? = some row) (e2 : counts[h]? = some m) (e3 : row[m]? = some c) : Cnt rows (counts.set h (m + 1)) := by
  refine ⟨by rw [List.length_set]; exact k.1, fun j row' m' q1 q2 => ?_⟩
  by_cases hj : j = h
  · subst hj
    rw [List.getElem?_set_self (List.getElem?_eq_some_iff.mp e2).1] at q2
    rw [e1] at q1
    cases q1
    cases q2
    exact (List.getElem?_eq_some_iff.mp e3).1
  · rw [List.getElem?_set_ne (Ne.symm hj)] at q2
    exact k.2 j row' m' q1 q2
theorem sum_setN : ∀ {l : List Nat} {j m : Nat}, l[j]? = some m → (l.set j (m + 1)).sum = l.sum + 1
  | [], j, m, h => by simp at h
  | a :: l, 0, m, h => by
    have e : a = m := by simpa using h
    subst e
    show (a + 1) + l.sum = a + l.sum + 1
    omega
  | a :: l, j + 1, m, h => by
    have ih := sum_setN (l := l) (j := j) (m := m) (by simpa using h)
    show a + (l.set j (m + 1)).sum = a + l.sum + 1
    omega
theorem Goes.sum {rows : List (List (Cl α))} {r : Int → Nat → Int} {s s' : Stt} {t e : Int} {h : Nat} {c : Cl α} (g : Goes rows r s t h c s' e) : s'.1.sum = s.1.sum + 1 := by
  obtain ⟨row, m, _, e2, _, rfl, _⟩ := g
  exact sum_setN e2
theorem Goes.cnt {rows : List (List (Cl α))} {r : Int → Nat → Int} {s s' : Stt} {t e : Int} {h : Nat} {c : Cl α} (g : Goes rows r s t h c s' e) (k : Cnt rows s.1) : Cnt rows s'.1 := by
  obtain ⟨row, m, e1, e2, e3, rfl, _⟩ := g
  exact k.set e1 e2 e3
theorem sum_le_rows : ∀ {rows : List (List (Cl α))} {counts : List Nat}, Cnt rows counts → counts.sum ≤ (rows.map List.length).sum
  | [], counts, k => by
    have e : counts = [] := List.eq_nil_of_length_eq_zero k.1
    subst e
    exact Nat.le_refl _
  | r :: rows, [], k => by
    have z := k.1
    simp at z
  | r :: rows, m :: counts, k => by
    have ih := sum_le_rows (rows := rows) (counts := counts) ⟨by have := k.1; simpa using this, fun h row m' q1 q2 => k.2 (h + 1) row m' (by simpa using q1) (by simpa using q2)⟩
    have h0 := k.2 0 r m rfl rfl
    show m + counts.sum ≤ r.length + (rows.map List.length).sum
    omega

/-! ### what the search leaves -/
/-- T: the times by states; A: the state ahead and the name that was done -/
structure Srch (rows : List (List (Cl α))) (r : Int → Nat → Int) (b : Option Int) (s0 : Stt) (t0 : Int) (T : Stt → Option Int) (A : Stt → Option (Stt × α)) : Prop where
  start : T s0 = some t0
  noA : A s0 = none
  back : ∀ s t, T s = some t → s ≠ s0 → ∃ p tp h c, A s = some (p, c.name) ∧ T p = some tp ∧ Goes rows r p tp h c s t ∧ okB b (t - c.due)
  clos : ∀ s t, T s = some t → ∀ h c s' e, Goes rows r s t h c s' e → okB b (e - c.due) → ∃ t', T s' = some t' ∧ t' ≤ e
  wf : ∀ s t, T s = some t → Cnt rows s.1
  dom : ∀ s x, A s = some x → ∃ t, T s = some t
variable {rows : List (List (Cl α))} {r : Int → Nat → Int} {b : Option Int} {s0 : Stt} {t0 : Int} {T : Stt → Option Int} {A : Stt → Option (Stt × α)}
theorem okB.mono {b : Option Int} {l l' : Int} (h : okB b l) (q : l' ≤ l) : okB b l' := fun x e => Int.le_trans q (h x e)
theorem Srch.complete (S : Srch rows r b s0 t0 T A) (hue : HueOk rows) : ∀ (q : List (Cl α)) (s : Stt) (t t' : Int), T s = some t → t ≤ t' → DueOrd (rem rows s.1) q → (∀ l ∈ lates r s.2 t' q, okB b l) → ∃ s1 t1, T s1 = some t1 ∧ Done rows s1.1
  | [], s, t, t', hs, _, hd, _ => by
    refine ⟨s, t, hs, fun h row m e1 e2 => ?_⟩
    have k := (S.wf s t hs).2 h row m e1 e2
    cases hd with
    | nil hn =>
      have g := rem_get rows s.1 h
      rw [e1, e2] at g
      have z := hn _ (List.mem_of_getElem? g)
      have z2 : row.length - m = 0 := by rw [← List.length_drop, z]; rfl
      omega
  | c :: q, s, t, t', hs, ht, hd, hl => by
    cases hd with
    | @cons _ h _ r' _ e d =>
      have g := rem_get rows s.1 h
      cases e1 : rows[h]? with
      | none => rw [e1, e] at g; cases g
      | some row =>
        cases e2 : s.1[h]? with
        | none => rw [e1, e2, e] at g; cases g
        | some m =>
          rw [e1, e2, e] at g
          have g' : c :: r' = row.drop m := Option.some.inj g
          have e3 : row[m]? = some c := by
            have z := congrArg (fun l => l[0]?) g'
            simpa using z.symm
          have e4 : row.drop (m + 1) = r' := by
            have z := congrArg List.tail g'
            rw [List.tail_drop] at z
            exact z.symm
          have ch : c.hue = h := hue h row c e1 (List.mem_of_getElem? e3)
          have hl0 := hl _ (List.mem_cons_self ..)
          rw [ch] at hl0
          obtain ⟨t1, hT, hle⟩ := S.clos s t hs h c (s.1.set h (m + 1), (h : Int)) (t + r s.2 h + c.len) ⟨row, m, e1, e2, e3, rfl, rfl⟩ (hl0.mono (by omega))
          refine S.complete hue q (s.1.set h (m + 1), (h : Int)) t1 (t' + r s.2 h + c.len) hT (by omega) ?_ fun l hm => ?_
          · show DueOrd (rem rows (s.1.set h (m + 1))) q
            rw [rem_set e1 e2, e4]
            exact d
          · refine hl l (List.mem_cons_of_mem _ ?_)
            rw [ch]
            exact hm
/-- cloths done one behind the other from the start, to the state s at t -/
inductive Lead (rows : List (List (Cl α))) (r : Int → Nat → Int) (b : Option Int) (s0 : Stt) (t0 : Int) : Stt → Int → List (Cl α) → Prop
  | nil : Lead rows r b s0 t0 s0 t0 []
  | snoc {s s' : Stt} {t e : Int} {h : Nat} {c : Cl α} {p : List (Cl α)} (l : Lead rows r b s0 t0 s t p) (g : Goes rows r s t h c s' e) (k : okB b (e - c.due)) : Lead rows r b s0 t0 s' e (p ++ [c])
theorem Lead.ord (hue : HueOk rows) {s : Stt} {t : Int} {p : List (Cl α)} (l : Lead rows r b s0 t0 s t p) : ∀ q, DueOrd (rem rows s.1) q → DueOrd (rem rows s0.1) (p ++ q) := by
  induction l with
  | nil => exact fun q h => h
  | @snoc s s' t e h c p l g k ih =>
    intro q hq
    obtain ⟨row, m, e1, e2, e3, rfl, _⟩ := g
    rw [List.append_assoc]
    refine ih ([c] ++ q) (DueOrd.cons (h := h) (r := row.drop (m + 1)) ?_ ?_)
    · rw [rem_get, e1, e2]
      have hm := (List.getElem?_eq_some_iff.mp e3)
      obtain ⟨hlt, hc⟩ := hm
      show some (row.drop m) = some (c :: row.drop (m + 1))
      rw [List.drop_eq_getElem_cons hlt, hc]
    · rw [← rem_set e1 e2]
      exact hq
theorem Lead.late (hue : HueOk rows) {s : Stt} {t : Int} {p : List (Cl α)} (l : Lead rows r b s0 t0 s t p) : (∀ x ∈ lates r s0.2 t0 p, okB b x) ∧ ends r s0.2 t0 p = (s.2, t) := by
  induction l with
  | nil => exact ⟨fun x hx => absurd hx (by simp [lates]), rfl⟩
  | @snoc s s' t e h c p l g k ih =>
    obtain ⟨row, m, e1, e2, e3, rfl, rfl⟩ := g
    have ch : c.hue = h := hue h row c e1 (List.mem_of_getElem? e3)
    obtain ⟨i1, i2⟩ := ih
    constructor
    · intro x hx
      rw [lates_append, i2] at hx
      rcases List.mem_append.mp hx with hx | hx
      · exact i1 x hx
      · have hx' : x = t + r s.2 c.hue + c.len - c.due := by simpa [lates] using hx
        rw [hx', ch]
        exact k
    · rw [ends_append, i2]
      show (((c.hue : Nat) : Int), t + r s.2 c.hue + c.len) = _
      rw [ch]
theorem Lead.keeps (hue : HueOk rows) {s : Stt} {t : Int} {p : List (Cl α)} (h0 : s0.1 = List.replicate rows.length 0) (l : Lead rows r b s0 t0 s t p) (hw : Cnt rows s.1) (hd : Done rows s.1) : Keeps r b s0.2 t0 rows p := by
  refine ⟨?_, (l.late hue).1⟩
  have q := l.ord hue [] (.nil fun x hx => ?_)
  · rw [List.append_nil, h0, rem_zero] at q
    exact q
  · obtain ⟨j, hj⟩ := List.mem_iff_getElem?.mp hx
    rw [rem_get] at hj
    cases e1 : rows[j]? with
    | none => rw [e1] at hj; cases hj
    | some row =>
      cases e2 : s.1[j]? with
      | none => rw [e1, e2] at hj; cases hj
      | some m =>
        rw [e1, e2] at hj
        have e : row.drop m = x := Option.some.inj hj
        rw [← e, hd j row m e1 e2, List.drop_length]
/-- the search says no just where no such plan is -/
theorem Srch.no (S : Srch rows r b s0 t0 T A) (hue : HueOk rows) (h0 : s0.1 = List.replicate rows.length 0) (hn : ∀ s t, T s = some t → ¬ Done rows s.1) : ¬ Can r b s0.2 t0 rows := by
  rintro ⟨p, hp, hl⟩
  obtain ⟨s1, t1, e, d⟩ := S.complete hue p s0 t0 t0 S.start (Int.le_refl _) (by rw [h0, rem_zero]; exact hp) hl
  exact hn s1 t1 e d
/-- the way back: what has been gathered (cs, from s on) leads to the end f -/
def Back (rows : List (List (Cl α))) (r : Int → Nat → Int) (b : Option Int) (s0 : Stt) (t0 : Int) (f : Stt) (tf : Int) (s : Stt) (t : Int) (cs : List (Cl α)) : Prop := ∀ p, Lead rows r b s0 t0 s t p → Lead rows r b s0 t0 f tf (p ++ cs)
theorem Back.refl (f : Stt) (tf : Int) : Back rows r b s0 t0 f tf f tf [] := fun p h => by rw [List.append_nil]; exact h
theorem Back.step {f : Stt} {tf : Int} {s p : Stt} {t tp : Int} {h : Nat} {c : Cl α} {cs : List (Cl α)} (k : Back rows r b s0 t0 f tf s t cs) (g : Goes rows r p tp h c s t) (o : okB b (t - c.due)) : Back rows r b s0 t0 f tf p tp (c :: cs) := fun q l => by
  have z := k _ (l.snoc g o)
  rw [List.append_assoc] at z
  exact z
theorem Back.fin {f : Stt} {tf : Int} {cs : List (Cl α)} (k : Back rows r b s0 t0 f tf s0 t0 cs) : Lead rows r b s0 t0 f tf cs := k [] .nil

/-! ### rows -/
theorem DueOrd.perm {rows : List (List (Cl α))} {p : List (Cl α)} (h : DueOrd rows p) : p.Perm rows.flatten := by
  induction h with
  | @nil rows hn =>
    have e : rows.flatten = [] := by
      rw [List.flatten_eq_nil_iff]
      exact hn
    rw [e]
  | @cons rows h c r p e q ih =>
    have hl : h < rows.length := (List.getElem?_eq_some_iff.mp e).1
    have he : rows[h] = c :: r := (List.getElem?_eq_some_iff.mp e).2
    have e1 : rows = rows.take h ++ (c :: r) :: rows.drop (h + 1) := by
      rw [← he, List.getElem_cons_drop, List.take_append_drop]
    have e2 : rows.set h r = rows.take h ++ r :: rows.drop (h + 1) := by
      rw [List.set_eq_take_append_cons_drop, if_pos hl]
    rw [e2] at ih
    rw [e1]
    refine (List.Perm.cons c ih).trans ?_
    simp only [List.flatten_append, List.flatten_cons]
    exact (List.perm_middle (a := c) (l₁ := (rows.take h).flatten) (l₂ := r ++ (rows.drop (h + 1)).flatten)).symm
/-- a first cloth of such a plan -/
theorem Keeps.head {last t : Int} {c : Cl α} {p : List (Cl α)} (k : Keeps r b last t rows (c :: p)) :
    okB b (t + r last c.hue + c.len - c.due) ∧ ∃ h x, rows[h]? = some (c :: x) ∧ Keeps r b c.hue (t + r last c.hue + c.len) (rows.set h x) p := by
  obtain ⟨d, l⟩ := k
  refine ⟨l _ (List.mem_cons_self ..), ?_⟩
  cases d with
  | @cons _ h _ x _ e q => exact ⟨h, x, e, q, fun y hy => l y (List.mem_cons_of_mem _ hy)⟩
theorem Keeps.mono {b' : Option Int} {last t : Int} {p : List (Cl α)} (k : Keeps r b last t rows p) (h : ∀ l, okB b l → okB b' l) : Keeps r b' last t rows p := ⟨k.1, fun l m => h l (k.2 l m)⟩
theorem okB_none (l : Int) : okB none l := fun _ e => nomatch e
theorem okB_some {x l : Int} : okB (some x) l ↔ l ≤ x := ⟨fun h => h x rfl, fun h y e => by cases e; exact h⟩

/-! ### the rows of works: sorted, and there is just one way -/
section
variable (le : Cl α → Cl α → Prop)
/-- a hue's row -/
def IsRow (cl : List (Cl α)) (h : Nat) (row : List (Cl α)) : Prop := row.Perm (cl.filter fun c => c.hue == h) ∧ row.Pairwise le
def IsRows (cl : List (Cl α)) (n : Nat) (rows : List (List (Cl α))) : Prop := rows.length = n ∧ ∀ h row, rows[h]? = some row → IsRow le cl h row
end
variable {le : Cl α → Cl α → Prop}
theorem eq_of_sorted {le : Cl α → Cl α → Prop} : ∀ {l m : List (Cl α)}, l.Perm m → l.Pairwise le → m.Pairwise le → (∀ a ∈ l, ∀ b ∈ l, le a b → le b a → a = b) → l = m
  | [], m, h, _, _, _ => (List.Perm.nil_eq h)
  | a :: l, [], h, _, _, _ => absurd h.length_eq (by simp)
  | a :: l, c :: m, h, hl, hm, anti => by
    have e : a = c := by
      rcases List.mem_cons.mp (h.mem_iff.mp (List.mem_cons_self (a := a) (l := l))) with e | ha
      · exact e
      · rcases List.mem_cons.mp (h.mem_iff.mpr (List.mem_cons_self (a := c) (l := m))) with e | hc
        · exact e.symm
        · exact anti a (List.mem_cons_self ..) c (List.mem_cons_of_mem _ hc) ((List.pairwise_cons.mp hl).1 c hc) ((List.pairwise_cons.mp hm).1 a ha)
    subst e
    rw [eq_of_sorted (List.Perm.cons_inv h) (List.pairwise_cons.mp hl).2 (List.pairwise_cons.mp hm).2 fun x hx y hy => anti x (List.mem_cons_of_mem _ hx) y (List.mem_cons_of_mem _ hy)]
/-- alike both ways: one cloth -/
def Anti (le : Cl α → Cl α → Prop) (cl : List (Cl α)) : Prop := ∀ a ∈ cl, ∀ b ∈ cl, le a b → le b a → a = b
theorem IsRow.mem {cl : List (Cl α)} {h : Nat} {row : List (Cl α)} (x : IsRow le cl h row) {c : Cl α} : c ∈ row ↔ c ∈ cl ∧ c.hue = h := by
  rw [x.1.mem_iff, List.mem_filter]
  simp
theorem IsRow.one {cl cl' : List (Cl α)} {h : Nat} {row row' : List (Cl α)} (x : IsRow le cl h row) (y : IsRow le cl' h row') (p : cl.Perm cl') (anti : Anti le cl) : row = row' :=
  eq_of_sorted (x.1.trans ((p.filter _).trans y.1.symm)) x.2 y.2 fun a ha b hb => anti a (x.mem.mp ha).1 b (x.mem.mp hb).1
theorem IsRows.one {cl cl' : List (Cl α)} {n : Nat} {rows rows' : List (List (Cl α))} (x : IsRows le cl n rows) (y : IsRows le cl' n rows') (p : cl.Perm cl') (anti : Anti le cl) : rows = rows' := by
  apply List.ext_getElem?
  intro j
  by_cases hj : j < n
  · have l1 : j < rows.length := by rw [x.1]; exact hj
    have l2 : j < rows'.length := by rw [y.1]; exact hj
    have e1 : rows[j]? = some rows[j] := List.getElem?_eq_getElem l1
    have e2 : rows'[j]? = some rows'[j] := List.getElem?_eq_getElem l2
    rw [e1, e2, (x.2 j _ e1).one (y.2 j _ e2) p anti]
  · rw [List.getElem?_eq_none (by rw [x.1]; omega), List.getElem?_eq_none (by rw [y.1]; omega)]
theorem IsRows.hue {cl : List (Cl α)} {n : Nat} {rows : List (List (Cl α))} (x : IsRows le cl n rows) : HueOk rows := fun h row c e hc => ((x.2 h row e).mem.mp hc).2
/-- the rows of the rest, when the first of a row is gone -/
theorem IsRows.begun {cl cl' : List (Cl α)} {n : Nat} {rows : List (List (Cl α))} {h : Nat} {c : Cl α} {row : List (Cl α)} (x : IsRows le cl n rows) (e : rows[h]? = some (c :: row)) (p : cl.Perm (c :: cl')) : IsRows le cl' n (rows.set h row) := by
  refine ⟨by rw [List.length_set]; exact x.1, fun j row' q => ?_⟩
  have hc : c.hue = h := x.hue h _ c e (List.mem_cons_self ..)
  by_cases hj : j = h
  · subst hj
    rw [List.getElem?_set_self (List.getElem?_eq_some_iff.mp e).1] at q
    have q' : row = row' := Option.some.inj q
    subst q'
    obtain ⟨y1, y2⟩ := x.2 j _ e
    refine ⟨?_, (List.pairwise_cons.mp y2).2⟩
    have z := y1.trans (p.filter _)
    rw [List.filter_cons, if_pos (by simp [hc])] at z
    exact List.Perm.cons_inv z
  · rw [List.getElem?_set_ne (Ne.symm hj)] at q
    obtain ⟨y1, y2⟩ := x.2 j _ q
    refine ⟨?_, y2⟩
    have z := y1.trans (p.filter _)
    rw [List.filter_cons, if_neg (by simp only [hc, beq_iff_eq]; exact fun z => hj z.symm)] at z
    exact z
/-- all cloths stand in the rows -/
theorem IsRows.flat {cl : List (Cl α)} {n : Nat} {rows : List (List (Cl α))} (x : IsRows le cl n rows) (hh : ∀ c ∈ cl, c.hue < n) : rows.flatten.Perm cl := by
  have key : ∀ (k : Nat), k ≤ n → (rows.take k).flatten.Perm (cl.filter fun c => decide (c.hue < k)) := by
    intro k
    induction k with
    | zero =>
      intro _
      have e : (cl.filter fun c => decide (c.hue < 0)) = [] := by
        rw [List.filter_eq_nil_iff]
        intro a _
        simp
      rw [e]
      exact List.Perm.refl _
    | succ k ih =>
      intro hk
      have hlt : k < rows.length := by rw [x.1]; omega
      have e1 : rows[k]? = some rows[k] := List.getElem?_eq_getElem hlt
      rw [List.take_add_one, e1]
      simp only [Option.toList_some, List.flatten_append, List.flatten_cons, List.flatten_nil, List.append_nil]
      refine ((ih (by omega)).append (x.2 k _ e1).1).trans ?_
      have sp : ∀ l : List (Cl α), ((l.filter fun c => decide (c.hue < k)) ++ (l.filter fun c => c.hue == k)).Perm (l.filter fun c => decide (c.hue < k + 1)) := by
        intro l
        induction l with
        | nil => exact List.Perm.refl _
        | cons a l ih =>
          by_cases h1 : a.hue < k
          · rw [List.filter_cons_of_pos (by simpa using h1), List.filter_cons_of_neg (by simp; omega), List.filter_cons_of_pos (by simp; omega)]
            exact List.Perm.cons a ih
          · by_cases h2 : a.hue = k
            · rw [List.filter_cons_of_neg (by simpa using h1), List.filter_cons_of_pos (by simp [h2]), List.filter_cons_of_pos (by simp; omega)]
              exact List.perm_middle.trans (List.Perm.cons a ih)
            · rw [List.filter_cons_of_neg (by simpa using h1), List.filter_cons_of_neg (by simp [h2]), List.filter_cons_of_neg (by simp; omega)]
              exact ih
      exact sp cl
  have q := key n (Nat.le_refl _)
  rw [List.take_of_length_le (by rw [x.1]; exact Nat.le_refl _)] at q
  have e : (cl.filter fun c => decide (c.hue < n)) = cl := List.filter_eq_self.mpr fun c hc => by simpa using hh c hc
  rw [e] at q
  exact q
end
end Rw82
/-! The text by places; defs as things that may be called; small words. -/
namespace Rw82
open PySem PySem.Spec PyProof.Rows L2
def top (i : Nat) : Stmt := PySem.Challenge.pw_rinsework_k82_whole_safe_ones_worked.main.body.getD i (.Pass ⟨0, 0, 0, 0⟩)
abbrev sTwice___init__ : Stmt := inClass (top 7) 0
abbrev sdone_rows : Stmt := top 13
abbrev slateness : Stmt := top 14
abbrev skeeps : Stmt := top 15
abbrev sis_whole : Stmt := top 19
abbrev sis_name : Stmt := top 20
abbrev slook_at_rinses : Stmt := top 23
abbrev ssums_and_ways : Stmt := top 24
abbrev sleast_rinses : Stmt := top 25
abbrev sis_cloth : Stmt := top 29
abbrev sWorks___init__ : Stmt := inClass (top 30) 0
abbrev sWorks_hues : Stmt := inClass (top 30) 1
abbrev sWorks_rinses : Stmt := inClass (top 30) 2
abbrev sWorks_rinse : Stmt := inClass (top 30) 3
abbrev sWorks_start : Stmt := inClass (top 30) 5
abbrev sWorks_names : Stmt := inClass (top 30) 6
abbrev sWorks_cloth : Stmt := inClass (top 30) 7
abbrev sWorks_of_hue : Stmt := inClass (top 30) 8
abbrev sWorks_due_row : Stmt := inClass (top 30) 9
abbrev sWorks_want : Stmt := inClass (top 30) 11
abbrev sWorks_put : Stmt := inClass (top 30) 12
abbrev sWorks_without : Stmt := inClass (top 30) 13
abbrev sWorks_only : Stmt := inClass (top 30) 14
abbrev sWorks_begun : Stmt := inClass (top 30) 15
abbrev sHouse___init__ : Stmt := inClass (top 32) 0
abbrev sHouse_step : Stmt := inClass (top 32) 1
abbrev sHouse_put : Stmt := inClass (top 32) 2
abbrev sHouse_drop : Stmt := inClass (top 32) 3
abbrev sHouse_work : Stmt := inClass (top 32) 4
abbrev sHouse_wait : Stmt := inClass (top 32) 5
abbrev sHouse_works : Stmt := inClass (top 32) 7
abbrev sHouse_done : Stmt := inClass (top 32) 8
abbrev sdue_cloths : Stmt := top 34
abbrev sstart_state : Stmt := top 35
abbrev sgoings : Stmt := top 36
abbrev sbreaks : Stmt := top 37
abbrev ssearched : Stmt := top 38
abbrev stable_of : Stmt := top 39
abbrev sis_done : Stmt := top 40
abbrev splan_to : Stmt := top 41
abbrev ssoonest_done : Stmt := top 42
abbrev splan_for : Stmt := top 43
abbrev ssafe : Stmt := top 45
abbrev sleast_late : Stmt := top 47
abbrev s_law_mixed : Stmt := top 49
abbrev s_law_stream : Stmt := top 50
abbrev s_law_take : Stmt := top 51
abbrev s_law_cell_stream : Stmt := top 52
abbrev s_law_rinse : Stmt := top 53
abbrev s_law_house : Stmt := top 54
abbrev s_law_cloth : Stmt := top 55
abbrev s_law_least : Stmt := top 56
abbrev s_law_end : Stmt := top 57
abbrev s_law_deed : Stmt := top 58
abbrev s_law_goes : Stmt := top 59
abbrev s_law_do : Stmt := top 60
abbrev s_law_try : Stmt := top 61
abbrev slaw : Stmt := top 62
/-! ### what the top has left of a def, a method, a class's __init__ -/
structure Gd (K : PySem.W.Frag) (mg : Str → Option Value) (x : Str) (st : Stmt) : Prop where
  ex : ∃ (f : Addr) (fd : FuncData), FunD K x x (defArgs st) (defBody st) (defScope st) [] [] f fd ∧ mg x = some (.ref f)
structure Md (K : PySem.W.Frag) (C : Addr) (m qual : Str) (st : Stmt) : Prop where
  ex : ∃ (f : Addr) (fd : FuncData), FunD K m qual (defArgs st) (defBody st) (defScope st) [] [] f fd ∧ Meth K C m f ∧ Cls K C
structure Idf (K : PySem.W.Frag) (mg : Str → Option Value) (x : Str) (C : Addr) (qual : Str) (st : Stmt) (dvs : List V) : Prop where
  ex : ∃ (f : Addr) (fd : FuncData), FunD K "__init__" qual (defArgs st) (defBody st) (defScope st) dvs [] f fd ∧ Mk K C f ∧ mg x = some (.ref C)
/-! ### a def that keeps its promise, as it is called -/
structure Ca (P : Program) (w : World) (K : PySem.W.Frag) (mg : Str → Option Value) (base : Heap) (k : Nat) (x : Str) (sp : Sp) : Prop where
  ex : ∃ (f : Addr) (fd : FuncData) (ps : List Str), FnOk P w K mg base (L2.CX P w) k f fd ps sp ∧ mg x = some (.ref f) ∧ PySem.W.keepIn K (.ref f) = true ∧ Binds K fd ps []
structure Me (P : Program) (w : World) (K : PySem.W.Frag) (mg : Str → Option Value) (base : Heap) (k : Nat) (C : Addr) (m : Str) (sp : Sp) : Prop where
  ex : ∃ (f : Addr) (fd : FuncData) (ps : List Str), Cls K C ∧ Meth K C m f ∧ FnOk P w K mg base (L2.CX P w) k f fd ps sp ∧ Binds K fd ps []
structure Ma (P : Program) (w : World) (K : PySem.W.Frag) (mg : Str → Option Value) (base : Heap) (k : Nat) (x : Str) (C : Addr) (sp : Sp) : Prop where
  ex : ∃ (f : Addr) (fd : FuncData) (ps : List Str), Mk K C f ∧ FnOk P w K mg base (L2.CX P w) k f fd ps sp ∧ mg x = some (.ref C) ∧ Binds K fd ps []
section
variable {P : Program} {w : World} {K : PySem.W.Frag} {mg : Str → Option Value} {base : Heap} {k : Nat} {f : Addr} {fd : FuncData} {ps N : List Str} {sp : Sp} {x qual m : Str} {C : Addr} {st : Stmt} {dvs : List V}
/-- nothing is let out: so nothing wrong is -/
theorem fnOk_cx (F : FnOk P w K mg base L2.CX0 k f fd ps sp) : FnOk P w K mg base (L2.CX P w) k f fd ps sp :=
  ⟨F.len, fun A outer s H args us vs Q E hr e0 hb r hs => codeAny_mono (F.run A outer s H args us vs Q E hr e0 hb r hs) fun r' s' h => by
    cases r' with
    | error e => exact (show False from h).elim
    | ok fl => cases fl <;> exact h⟩
/-- bindArgs of a def whose parameters are all written -/
def BindN (qual x : Str) (st : Stmt) (ps : List Str) : Prop := ∀ (kV doc pm : Value) (an : Option Addr) (cdv ct : Value) (us : List Value), us.length = ps.length → bindArgs (PySem.W.fnOf x qual (defArgs st) (defBody st) (defScope st) .none kV doc pm an cdv ct) ⟨us, []⟩ = pure (ps.zip us)
/-- a body that raises nothing -/
def Body0 (P : Program) (w : World) (K : PySem.W.Frag) (mg : Str → Option Value) (base : Heap) (k : Nat) (qual : Str) (st : Stmt) (N : List Str) (sp : Sp) : Prop :=
  ∀ (f : Addr) (cdv : Value) (A : Around) (outer : List Env) (s : Shared) (H : Hp) (vs : List V) (Q : VK) (E : XK), Room k (A.deeper (envOfC qual (defScope st) s.heap.objs.size f cdv)) → sp vs H Q E →
    ∃ t, PSs (cxOf L2.CX0 P w K mg base N qual (defScope st) f cdv A outer s H E).nox (defBody st) t ∧ t { nx := fun _ H' => Q .non H', rt := Q } (start N vs) H
/-- a body that may raise -/
def BodyX (P : Program) (w : World) (K : PySem.W.Frag) (mg : Str → Option Value) (base : Heap) (k : Nat) (qual : Str) (st : Stmt) (N : List Str) (sp : Sp) : Prop :=
  ∀ (f : Addr) (cdv : Value) (A : Around) (outer : List Env) (s : Shared) (H : Hp) (vs : List V) (Q : VK) (E : XK), Room k (A.deeper (envOfC qual (defScope st) s.heap.objs.size f cdv)) → sp vs H Q E →
    ∃ t, PSs (cxOf (L2.CX P w) P w K mg base N qual (defScope st) f cdv A outer s H E) (defBody st) t ∧ t { nx := fun _ H' => Q .non H', rt := Q } (start N vs) H
theorem Ca.mono {j : Nat} (c : Ca P w K mg base k x sp) (h : k ≤ j) : Ca P w K mg base j x sp := by
  obtain ⟨f, fd, ps, F, hm, kp, b⟩ := c.ex
  exact ⟨f, fd, ps, F.mono h, hm, kp, b⟩
theorem Me.mono {j : Nat} (c : Me P w K mg base k C m sp) (h : k ≤ j) : Me P w K mg base j C m sp := by
  obtain ⟨f, fd, ps, hc, hm, F, b⟩ := c.ex
  exact ⟨f, fd, ps, hc, hm, F.mono h, b⟩
theorem Ma.mono {j : Nat} (c : Ma P w K mg base k x C sp) (h : k ≤ j) : Ma P w K mg base j x C sp := by
  obtain ⟨f, fd, ps, M, F, hm, b⟩ := c.ex
  exact ⟨f, fd, ps, M, F.mono h, hm, b⟩
theorem fn_0 (F : FunD K x qual (defArgs st) (defBody st) (defScope st) dvs [] f fd) (S : FnScope N ps (defScope st)) (len : ∀ vs H Q E, sp vs H Q E → vs.length = ps.length) (B : Body0 P w K mg base k qual st N sp) : FnOk P w K mg base (L2.CX P w) (k + 1) f fd ps sp :=
  fnOk_cx (F.ok S len fun cdv A outer s H vs Q E hr h => by
    obtain ⟨t, h1, h2⟩ := B f cdv A outer s H vs Q E hr h
    exact ⟨t, h1.nox, h2⟩)
theorem fn_X (F : FunD K x qual (defArgs st) (defBody st) (defScope st) dvs [] f fd) (S : FnScope N ps (defScope st)) (len : ∀ vs H Q E, sp vs H Q E → vs.length = ps.length) (B : BodyX P w K mg base k qual st N sp) : FnOk P w K mg base (L2.CX P w) (k + 1) f fd ps sp :=
  F.ok S len fun cdv A outer s H vs Q E hr h => B f cdv A outer s H vs Q E hr h
theorem ca_0 (F : Gd K mg x st) (S : FnScope N ps (defScope st)) (hb : BindN x x st ps) (len : ∀ vs H Q E, sp vs H Q E → vs.length = ps.length) (B : Body0 P w K mg base k x st N sp) : Ca P w K mg base (k + 1) x sp := by
  obtain ⟨f, fd, F, hm⟩ := F.ex
  exact ⟨f, fd, ps, fn_0 F S len B, hm, F.kp, F.bindsN hb⟩
theorem ca_X (F : Gd K mg x st) (S : FnScope N ps (defScope st)) (hb : BindN x x st ps) (len : ∀ vs H Q E, sp vs H Q E → vs.length = ps.length) (B : BodyX P w K mg base k x st N sp) : Ca P w K mg base (k + 1) x sp := by
  obtain ⟨f, fd, F, hm⟩ := F.ex
  exact ⟨f, fd, ps, fn_X F S len B, hm, F.kp, F.bindsN hb⟩
theorem me_0 (F : Md K C m qual st) (S : FnScope N ps (defScope st)) (hb : BindN qual m st ps) (len : ∀ vs H Q E, sp vs H Q E → vs.length = ps.length) (B : Body0 P w K mg base k qual st N sp) : Me P w K mg base (k + 1) C m sp := by
  obtain ⟨f, fd, F, hm, hc⟩ := F.ex
  exact ⟨f, fd, ps, hc, hm, fn_0 F S len B, F.bindsN hb⟩
theorem me_X (F : Md K C m qual st) (S : FnScope N ps (defScope st)) (hb : BindN qual m st ps) (len : ∀ vs H Q E, sp vs H Q E → vs.length = ps.length) (B : BodyX P w K mg base k qual st N sp) : Me P w K mg base (k + 1) C m sp := by
  obtain ⟨f, fd, F, hm, hc⟩ := F.ex
  exact ⟨f, fd, ps, hc, hm, fn_X F S len B, F.bindsN hb⟩
/-- bindArgs of a def with defaults that are not used -/
def BindD (qual x : Str) (st : Stmt) (ps : List Str) (n : Nat) : Prop := ∀ (T : Addr) (kV doc pm : Value) (an : Option Addr) (cdv ct : Value) (us its : List Value), us.length = ps.length → its.length = n →
  ∃ k, bindArgs (PySem.W.fnOf x qual (defArgs st) (defBody st) (defScope st) (.ref T) kV doc pm an cdv ct) ⟨us, []⟩ = seqItems? (.ref T) >>= k ∧ k (some its.toArray) = pure (ps.zip (us ++ its.drop n))
theorem ma_0 (F : Idf K mg x C qual st dvs) (S : FnScope N ps (defScope st)) (hd : dvs ≠ []) (hb : BindD qual "__init__" st ps dvs.length) (len : ∀ vs H Q E, sp vs H Q E → vs.length = ps.length) (B : Body0 P w K mg base k qual st N sp) : Ma P w K mg base (k + 1) x C sp := by
  obtain ⟨f, fd, F, M, hm⟩ := F.ex
  obtain ⟨ds, hv, b⟩ := F.binds1 (ps := ps) ps.length dvs.length hd (by omega) fun T kV doc pm an cdv ct us its h1 h2 => hb T kV doc pm an cdv ct us its h1 h2
  rw [List.drop_length] at hv
  cases hv
  exact ⟨f, fd, ps, M, fn_0 F S len B, hm, b⟩
theorem ma_X (F : Idf K mg x C qual st dvs) (S : FnScope N ps (defScope st)) (hd : dvs ≠ []) (hb : BindD qual "__init__" st ps dvs.length) (len : ∀ vs H Q E, sp vs H Q E → vs.length = ps.length) (B : BodyX P w K mg base k qual st N sp) : Ma P w K mg base (k + 1) x C sp := by
  obtain ⟨f, fd, F, M, hm⟩ := F.ex
  obtain ⟨ds, hv, b⟩ := F.binds1 (ps := ps) ps.length dvs.length hd (by omega) fun T kV doc pm an cdv ct us its h1 h2 => hb T kV doc pm an cdv ct us its h1 h2
  rw [List.drop_length] at hv
  cases hv
  exact ⟨f, fd, ps, M, fn_X F S len B, hm, b⟩
end
section
variable {X : Cx} {k j : Nat} {C : Addr} {x m : Str} {sp : Sp} {p pos apos : Pos} {e o : Expr} {es : List Expr} {ta : TE} {t : TA} {E : XK}
/-- nothing is let out here -/
theorem pe_ca (c : Ca X.prog X.w X.K X.mg X.base k x sp) (hr : Room j X.A) (ha : PA X (e :: es) t) (hk : k ≤ j := by omega) (hg : Gl X x := by rfl)
    (hdb : (x == ("__debug__" : Str)) = false := by decide) (he : starEach (e :: es) X.env = (false, eval e X.env) :: starEach es X.env := by rfl) (hpl : (backTo pos (starEach es X.env)).any (·.1) = false := by rfl) :
    PE X (.Call (.Name x p) (e :: es) [] pos) (tCall sp [] E0 t) := by
  obtain ⟨f, fd, ps, F, hm, kp, b⟩ := c.ex
  exact pe_call F (hr.mono hk) hg hm kp b .nil passL ha hdb he hpl
theorem pe_caX (c : Ca X.prog X.w X.K X.mg X.base k x sp) (hr : Room j X.A) (hx : Passes (L2.CX X.prog X.w) X E) (ha : PA X (e :: es) t) (hk : k ≤ j := by omega) (hg : Gl X x := by rfl)
    (hdb : (x == ("__debug__" : Str)) = false := by decide) (he : starEach (e :: es) X.env = (false, eval e X.env) :: starEach es X.env := by rfl) (hpl : (backTo pos (starEach es X.env)).any (·.1) = false := by rfl) :
    PE X (.Call (.Name x p) (e :: es) [] pos) (tCall sp [] E t) := by
  obtain ⟨f, fd, ps, F, hm, kp, b⟩ := c.ex
  exact pe_call F (hr.mono hk) hg hm kp b .nil hx ha hdb he hpl
theorem pe_ma (c : Ma X.prog X.w X.K X.mg X.base k x C sp) (hr : Room j X.A) (ha : PA X (e :: es) t) (hk : k + 1 ≤ j := by omega) (hg : Gl X x := by rfl)
    (hdb : (x == ("__debug__" : Str)) = false := by decide) (he : starEach (e :: es) X.env = (false, eval e X.env) :: starEach es X.env := by rfl) (hpl : (backTo pos (starEach es X.env)).any (·.1) = false := by rfl) :
    PE X (.Call (.Name x p) (e :: es) [] pos) (tMake C sp [] E0 t) := by
  obtain ⟨f, fd, ps, M, F, hm, b⟩ := c.ex
  exact pe_make M F (hr.mono hk) hg hm b .nil passL ha hdb he hpl
theorem pe_maX (c : Ma X.prog X.w X.K X.mg X.base k x C sp) (hr : Room j X.A) (hx : Passes (L2.CX X.prog X.w) X E) (ha : PA X (e :: es) t) (hk : k + 1 ≤ j := by omega) (hg : Gl X x := by rfl)
    (hdb : (x == ("__debug__" : Str)) = false := by decide) (he : starEach (e :: es) X.env = (false, eval e X.env) :: starEach es X.env := by rfl) (hpl : (backTo pos (starEach es X.env)).any (·.1) = false := by rfl) :
    PE X (.Call (.Name x p) (e :: es) [] pos) (tMake C sp [] E t) := by
  obtain ⟨f, fd, ps, M, F, hm, b⟩ := c.ex
  exact pe_make M F (hr.mono hk) hg hm b .nil hx ha hdb he hpl
section
variable {pl : Sem Bool}
theorem pe_me (c : Me X.prog X.w X.K X.mg X.base k C m sp) (hr : Room j X.A) (he : PE X o ta) (ha : PA X (e :: es) t) (hk : k ≤ j := by omega)
    (hst : starEach (e :: es) X.env = (false, eval e X.env) :: starEach es X.env := by rfl) (hpl : (backTo pos (starEach es X.env)).any (·.1) = false := by rfl)
    (ht : eval (.Call (.Attribute o m apos) (e :: es) [] pos) X.env = (do
      let ov ← eval o X.env
      standAt apos.atName
      let (g, first) ← holding [ov] (getMethod ov m pl)
      callWith pos g first (backTo pos (starEach (e :: es) X.env)) (backToKw pos (keywordEach [] X.env))) := by rfl) :
    PE X (.Call (.Attribute o m apos) (e :: es) [] pos) (tMeth C m sp [] E0 ta t) := by
  obtain ⟨f, fd, ps, hc, hm, F, b⟩ := c.ex
  exact pe_meth (pl := pl) he hc hm F (hr.mono hk) b .nil passL ha hst hpl ht
theorem pe_meX (c : Me X.prog X.w X.K X.mg X.base k C m sp) (hr : Room j X.A) (hx : Passes (L2.CX X.prog X.w) X E) (he : PE X o ta) (ha : PA X (e :: es) t) (hk : k ≤ j := by omega)
    (hst : starEach (e :: es) X.env = (false, eval e X.env) :: starEach es X.env := by rfl) (hpl : (backTo pos (starEach es X.env)).any (·.1) = false := by rfl)
    (ht : eval (.Call (.Attribute o m apos) (e :: es) [] pos) X.env = (do
      let ov ← eval o X.env
      standAt apos.atName
      let (g, first) ← holding [ov] (getMethod ov m pl)
      callWith pos g first (backTo pos (starEach (e :: es) X.env)) (backToKw pos (keywordEach [] X.env))) := by rfl) :
    PE X (.Call (.Attribute o m apos) (e :: es) [] pos) (tMeth C m sp [] E ta t) := by
  obtain ⟨f, fd, ps, hc, hm, F, b⟩ := c.ex
  exact pe_meth (pl := pl) he hc hm F (hr.mono hk) b .nil hx ha hst hpl ht
theorem pe_me0 (c : Me X.prog X.w X.K X.mg X.base k C m sp) (hr : Room j X.A) (he : PE X o ta) (hk : k ≤ j := by omega)
    (ht : eval (.Call (.Attribute o m apos) [] [] pos) X.env = (do
      let ov ← eval o X.env
      standAt apos.atName
      let (g, first) ← holding [ov] (getMethod ov m pl)
      callWith pos g first (backTo pos (starEach [] X.env)) (backToKw pos (keywordEach [] X.env))) := by rfl) :
    PE X (.Call (.Attribute o m apos) [] [] pos) (tMeth C m sp [] E0 ta tNil) := by
  obtain ⟨f, fd, ps, hc, hm, F, b⟩ := c.ex
  exact pe_meth0 (pl := pl) he hc hm F (hr.mono hk) b .nil passL ht
end
/-- a module's text, a module's number -/
theorem pe_gs {z : Str} (h : ∃ t, X.mg x = some (.str z t)) (hg : Gl X x := by rfl) (hd : (x == ("__debug__" : Str)) = false := by decide) : PE X (.Name x pos) (tC (.str z)) := by
  obtain ⟨t, h⟩ := h
  exact pe_glob hg h ⟨t, rfl⟩ hd
theorem pe_gi {z : Int} (h : ∃ t, X.mg x = some (.int z t)) (hg : Gl X x := by rfl) (hd : (x == ("__debug__" : Str)) = false := by decide) : PE X (.Name x pos) (tC (.int z)) := by
  obtain ⟨t, h⟩ := h
  exact pe_glob hg h ⟨t, rfl⟩ hd
end
/-- the built-in names that the text's own top leaves alone, its constants -/
structure Bn (mg : Str → Option Value) : Prop where
  len : mg "len" = none
  range : mg "range" = none
  enumerate : mg "enumerate" = none
  zip : mg "zip" = none
  isinstance : mg "isinstance" = none
  all : mg "all" = none
  max : mg "max" = none
  min : mg "min" = none
  sorted : mg "sorted" = none
  list : mg "list" = none
  tuple : mg "tuple" = none
  dict : mg "dict" = none
  sum : mg "sum" = none
  int : mg "int" = none
  bool : mg "bool" = none
  str : mg "str" = none
  letters : ∃ t, mg "LETTERS" = some (.str "abcdefghijklmnopqrstuvwxyz" t)
  longest : ∃ t, mg "LONGEST" = some (.int 8 t)
  mosthues : ∃ t, mg "MOST_HUES" = some (.int 4 t)
  mostcloths : ∃ t, mg "MOST_CLOTHS" = some (.int 10 t)
  fresh : ∃ t, mg "FRESH" = some (.int (-1) t)
/-! ### the text's parts -/
def stE (s : Stmt) : Expr := match s with
  | .Return (value := some e) .. => e
  | .Assign (value := e) .. => e
  | .If (test := e) .. => e
  | .While (test := e) .. => e
  | .Expr (value := e) .. => e
  | .For (iter := e) .. => e
  | _ => .Constant .none 0 ⟨0, 0, 0, 0⟩
/-- the i-th statement within -/
def stB (s : Stmt) (i : Nat) : Stmt := match s with
  | .For (body := b) .. => b.getD i (.Pass ⟨0, 0, 0, 0⟩)
  | .While (body := b) .. => b.getD i (.Pass ⟨0, 0, 0, 0⟩)
  | .If (body := b) .. => b.getD i (.Pass ⟨0, 0, 0, 0⟩)
  | s => s
/-- the i-th part of an expression -/
def exA (e : Expr) (i : Nat) : Expr := match e with
  | .Call (args := a) .. => a.getD i e
  | .BoolOp (values := a) .. => a.getD i e
  | .UnaryOp (operand := a) .. => a
  | .BinOp (left := a) (right := b) .. => if i = 0 then a else b
  | .Compare (left := a) (comparators := b) .. => (a :: b).getD i e
  | .Tuple (elts := a) .. => a.getD i e
  | .List (elts := a) .. => a.getD i e
  | .ListComp (elt := a) .. => a
  | .Subscript (value := a) .. => a
  | e => e
def lcSc (e : Expr) : Scope := match e with
  | .ListComp (scope := s) .. => s
  | _ => ⟨.function, [], false, false, []⟩
/-! ### readings by name -/
abbrev rAddS : R2 := fun x y H Q => ∃ i j, x = .str i ∧ y = .str j ∧ i.length + j.length ≤ sizeLine ∧ Q (.str (i ++ j)) H
abbrev rIsN0 : R2 := fun x y H Q => y = .non ∧ Q (.bl (decide (x = .non))) H
abbrev rNotN0 : R2 := fun x y H Q => y = .non ∧ Q (.bl (!decide (x = .non))) H
abbrev rInSign : R2 := fun x y H Q => ∃ (c : Nat) (z : Str), x = .str ⟨#[c]⟩ ∧ y = .str z ∧ Q (.bl (decide (c ∈ z.cps.toList))) H
abbrev rLenSq (K : PySem.W.Frag) : List V → Hp → VK → Prop := fun xs H Q => ∃ p ys, xs = [.ref p] ∧ (SqL K H p ys ∨ SqT K H p ys) ∧ Q (.int ys.length) H
abbrev rLenStr : List V → Hp → VK → Prop := fun xs H Q => ∃ z, xs = [.str z] ∧ z.length ≤ sizeLine ∧ Q (.int z.length) H
abbrev rLenD : List V → Hp → VK → Prop := fun xs H Q => ∃ a kvs, xs = [V.ref a] ∧ H a = some (.dK kvs) ∧ Q (.int kvs.length) H
abbrev rListOf (K : PySem.W.Frag) : List V → Hp → VK → Prop := fun xs H Q => ∃ p ys, xs = [.ref p] ∧ (SqL K H p ys ∨ SqT K H p ys) ∧ ∀ l, H l = none → Q (.ref l) (upd H l (.lst ys))
abbrev rTupOf (K : PySem.W.Frag) : List V → Hp → VK → Prop := fun xs H Q => ∃ p ys, xs = [.ref p] ∧ ((SqL K H p ys ∧ ∀ l, H l = none → Q (.ref l) (upd H l (.tup ys))) ∨ (SqT K H p ys ∧ Q (.ref p) H))
abbrev rInt1 : List V → Hp → VK → Prop := fun xs H Q => (∃ i, xs = [.int i] ∧ Q (.int i) H) ∨ ∃ k, xs = [.bl k] ∧ Q (.int (if k then 1 else 0)) H
abbrev rMin2 : List V → Hp → VK → Prop := fun xs H Q => ∃ i j, xs = [.int i, .int j] ∧ Q (.int (if j < i then j else i)) H
/-- where the text's names stand: K the written part; the classes Works, House, RinseError; the table of due_row's code objects -/
structure Ad where
  K : PySem.W.Frag
  CW : Addr
  CH : Addr
  CR : Addr
  PT : Addr

end Rw82
/-! What stands where: cloths, tables of rinses, works. -/
namespace Rw82
open PySem PySem.Spec PyProof.Rows L2
abbrev Cloth := Cl Str
def clV (c : Cloth) : List V := [.str c.name, .int c.hue, .int c.len, .int c.due, .int c.wt]
def ClAt (H : Hp) (t : Addr) (c : Cloth) : Prop := H t = some (.tup (clV c))
def rowV (n : Nat) (D : Mat) (i : Nat) : List V := (List.range n).map fun h => .int (D i h)
/-- a list of n + 1 lists of n numbers each -/
structure MxAt (H : Hp) (a : Addr) (n : Nat) (D : Mat) : Prop where
  ex : ∃ rs : List Addr, H a = some (.lst (rs.map V.ref)) ∧ rs.length = n + 1 ∧ ∀ i r, rs[i]? = some r → H r = some (.lst (rowV n D i))
abbrev alphabet : Str := "abcdefghijklmnopqrstuvwxyz"
def okName (z : Str) : Bool := decide (1 ≤ z.length) && decide (z.length ≤ 8) && z.cps.toList.all fun c => decide (c ∈ alphabet.cps.toList)
structure Wk where
  n : Nat
  R : Mat
  last : Int
  time : Int
  cl : List Cloth
def rowIx (n : Nat) (f : Int) : Nat := if f < 0 then n else f.toNat
/-- the rinse between two cloths -/
def Wk.rin (W : Wk) : Int → Nat → Int := fun f h => if f = (h : Int) then 0 else fw W.n W.R (rowIx W.n f) h
def goodC (n : Nat) (c : Cloth) : Prop := okName c.name = true ∧ c.hue < n ∧ 0 < c.len ∧ 0 < c.wt
structure Wk.Ok (W : Wk) : Prop where
  n1 : 1 ≤ W.n
  n4 : W.n ≤ 4
  nn : Nonneg W.R
  l0 : -1 ≤ W.last
  l1 : W.last < W.n
  t0 : 0 ≤ W.time
  few : W.cl.length ≤ 10
  nd : (W.cl.map (·.name)).Nodup
  good : ∀ c ∈ W.cl, goodC W.n c
/-- the fields of works, in the order in which they were stored -/
def wf (ls ts : Addr) (la ti : Int) (d : Addr) : List (Str × V) := [("least", .ref ls), ("told", .ref ts), ("last", .int la), ("time", .int ti), ("waiting", .ref d)]
def kvsOf (cs : List (Cloth × Addr)) : List (Key × V) := cs.map fun q => (Sum.inr q.1.name, .ref q.2)
structure WkAt (G : Ad) (H : Hp) (p : Addr) (W : Wk) : Prop where
  ok : W.Ok
  ex : ∃ (dx ls ts d : Addr) (cs : List (Cloth × Addr)), H p = some (.ins G.CW dx (wf ls ts W.last W.time d)) ∧ MxAt H ls W.n (fw W.n W.R) ∧ MxAt H ts W.n W.R ∧ H d = some (.dK (kvsOf cs)) ∧ cs.map (·.1) = W.cl ∧ ∀ q ∈ cs, ClAt H q.2 q.1
/-! ### what is kept -/
abbrev Kp := LamX.ExtN
/-- the table of due_row's lambda -/
def Tb (G : Ad) (H : Hp) : Prop := LamX.TabS H G.PT "Works.due_row.<locals>.<lambda>"
/-- all that is told stays, the table grows well -/
structure Ext (G : Ad) (H H' : Hp) : Prop where
  k : Kp H H'
  t : Tb G H → Tb G H'
section
variable {G : Ad} {H H' H1 H2 : Hp} {a b p t : Addr} {n : Nat} {D : Mat} {c : Cloth} {W : Wk}
theorem Kp.of (s : Same H H') : Kp H H' := fun b o h _ => s b o h
theorem Ext.of (s : Same H H') : Ext G H H' := ⟨fun b o h _ => s b o h, fun x => LamX.TabS.ext x s⟩
theorem Ext.refl (H : Hp) : Ext G H H := ⟨fun _ _ h _ => h, fun x => x⟩
theorem Ext.trans (x : Ext G H H1) (y : Ext G H1 H2) : Ext G H H2 := ⟨LamX.ExtN.trans x.k y.k, fun z => y.t (x.t z)⟩
theorem Kp.lst (k : Kp H H') {xs : List V} (h : H a = some (.lst xs)) : H' a = some (.lst xs) := k a _ h fun _ z => nomatch z
theorem Kp.tup (k : Kp H H') {xs : List V} (h : H a = some (.tup xs)) : H' a = some (.tup xs) := k a _ h fun _ z => nomatch z
theorem Kp.ins (k : Kp H H') {C dx : Addr} {fs : List (Str × V)} (h : H a = some (.ins C dx fs)) : H' a = some (.ins C dx fs) := k a _ h fun _ z => nomatch z
theorem Kp.dK (k : Kp H H') {kvs : List (Key × V)} (h : H a = some (.dK kvs)) : H' a = some (.dK kvs) := k a _ h fun _ z => nomatch z
theorem ClAt.kp (x : ClAt H t c) (k : Kp H H') : ClAt H' t c := Kp.tup k x
theorem MxAt.kp (x : MxAt H a n D) (k : Kp H H') : MxAt H' a n D := by
  obtain ⟨rs, h1, h2, h3⟩ := x.ex
  exact ⟨rs, Kp.lst k h1, h2, fun i r e => Kp.lst k (h3 i r e)⟩
theorem WkAt.kp (x : WkAt G H p W) (k : Kp H H') : WkAt G H' p W := by
  obtain ⟨dx, ls, ts, d, cs, h1, h2, h3, h4, h5, h6⟩ := x.ex
  exact ⟨x.ok, dx, ls, ts, d, cs, Kp.ins k h1, h2.kp k, h3.kp k, Kp.dK k h4, h5, fun q hq => (h6 q hq).kp k⟩
theorem WkAt.same (x : WkAt G H p W) (k : Same H H') : WkAt G H' p W := x.kp (Kp.of k)
theorem same_new {o : HO} (h : H a = none) : Same H (upd H a o) := fun b x e => by
  rw [upd_ne (ne_of_none e h)]
  exact e
/-- an object that H does not know may change -/
theorem same_mut {o : HO} (e : Same H H') (h : H a = none) : Same H (upd H' a o) := fun b x q => by
  rw [upd_ne (ne_of_none q h)]
  exact e b x q
end
/-! ### the fields -/
theorem lookup_none {k : Str} : ∀ {l : List (Str × V)}, k ∉ l.map (·.1) → l.lookup k = none
  | [], _ => rfl
  | (x, v) :: l, h => by
    rw [List.map_cons, List.mem_cons, not_or] at h
    have e : (k == x) = false := by simpa using h.1
    rw [List.lookup_cons, e]
    exact lookup_none h.2
theorem lookup_cons_ne {k x : Str} {v : V} {l : List (Str × V)} (h : k ≠ x) : List.lookup k ((x, v) :: l) = List.lookup k l := by
  have e : (k == x) = false := by simpa using h
  rw [List.lookup_cons, e]
theorem lookup_cons_eq {k : Str} {v : V} {l : List (Str × V)} : List.lookup k ((k, v) :: l) = some v := by
  rw [List.lookup_cons]
  simp
section
variable {ls ts d : Addr} {la ti : Int}
theorem wf_least : (wf ls ts la ti d).lookup ("least" : Str) = some (.ref ls) := lookup_cons_eq
theorem wf_told : (wf ls ts la ti d).lookup ("told" : Str) = some (.ref ts) := (lookup_cons_ne (by decide +kernel)).trans lookup_cons_eq
theorem wf_last : (wf ls ts la ti d).lookup ("last" : Str) = some (.int la) := (lookup_cons_ne (by decide +kernel)).trans ((lookup_cons_ne (by decide +kernel)).trans lookup_cons_eq)
theorem wf_time : (wf ls ts la ti d).lookup ("time" : Str) = some (.int ti) := (lookup_cons_ne (by decide +kernel)).trans ((lookup_cons_ne (by decide +kernel)).trans ((lookup_cons_ne (by decide +kernel)).trans lookup_cons_eq))
theorem wf_waiting : (wf ls ts la ti d).lookup ("waiting" : Str) = some (.ref d) := (lookup_cons_ne (by decide +kernel)).trans ((lookup_cons_ne (by decide +kernel)).trans ((lookup_cons_ne (by decide +kernel)).trans ((lookup_cons_ne (by decide +kernel)).trans lookup_cons_eq)))
theorem wf_no {m : Str} (h : m ∉ ([("least" : Str), "told", "last", "time", "waiting"] : List Str)) : (wf ls ts la ti d).lookup m = none := lookup_none h
end
/-! ### what the classes are -/
structure Fc (G : Ad) (mg : Str → Option Value) : Prop where
  cW : Cls G.K G.CW
  cH : Cls G.K G.CH
  wL : NoAttr G.K G.CW "least"
  wT : NoAttr G.K G.CW "told"
  wA : NoAttr G.K G.CW "last"
  wI : NoAttr G.K G.CW "time"
  wW : NoAttr G.K G.CW "waiting"
  hN : NoAttr G.K G.CH "now"
  hR : NoAttr G.K G.CH "rows"
  hP : NoAttr G.K G.CH "past"
/-- what «except RinseError» takes -/
def Caught (G : Ad) (cls : Value) : Prop := PySem.W.exmOne G.K cls (.ref G.CR) = some true
/-- the first sign of a text's signs: is_name -/
theorem rowV_length (n : Nat) (D : Mat) (i : Nat) : (rowV n D i).length = n := by unfold rowV; rw [List.length_map, List.length_range]
theorem rowV_get {n : Nat} {D : Mat} {i h : Nat} (hh : h < n) : (rowV n D i)[h]? = some (.int (D i h)) := by
  unfold rowV
  rw [List.getElem?_map, List.getElem?_range hh]
  rfl
theorem small16 {n : Nat} (h : n ≤ 100000) : n ≤ sizeLine := Nat.le_trans h (by decide)
theorem small16' {n : Nat} (h : n < 100000) : n < sizeLine := Nat.lt_of_lt_of_le h (by decide)
/-- names of cloths -/
theorem one_of_name {cl : List Cloth} (nd : (cl.map (·.name)).Nodup) {c c' : Cloth} (h : c ∈ cl) (h' : c' ∈ cl) (e : c.name = c'.name) : c = c' := by
  obtain ⟨i, hi⟩ := List.mem_iff_getElem?.mp h
  obtain ⟨j, hj⟩ := List.mem_iff_getElem?.mp h'
  have q : i = j := nodup_ix nd (x := c.name) (by rw [List.getElem?_map, hi]; rfl) (by rw [List.getElem?_map, hj, e]; rfl)
  subst q
  rw [hi] at hj
  exact Option.some.inj hj
theorem nd_of_map {α β : Type} (f : α → β) : ∀ {l : List α}, (l.map f).Nodup → l.Nodup
  | [], _ => List.nodup_nil
  | a :: l, h => by
    rw [List.map_cons, List.nodup_cons] at h
    exact List.nodup_cons.mpr ⟨fun m => h.1 (List.mem_map.mpr ⟨a, m, rfl⟩), nd_of_map f h.2⟩
/-! ### the dict of the cloths -/
theorem kvs_val {cs : List (Cloth × Addr)} {z : Str} {q : Cloth × Addr} (nd : (cs.map (·.1.name)).Nodup) (h : q ∈ cs) (e : q.1.name = z) : valV (kvsOf cs) (Sum.inr z) = some (.ref q.2) := by
  induction cs with
  | nil => cases h
  | cons a cs ih =>
    unfold kvsOf
    rw [List.map_cons]
    rcases List.mem_cons.mp h with rfl | h
    · exact valV_pos (p := (Sum.inr q.1.name, V.ref q.2)) (by rw [e])
    · rw [List.map_cons, List.nodup_cons] at nd
      have ne : ¬ (Sum.inr a.1.name : Key) = Sum.inr z := fun w => nd.1 (by
        have w' : a.1.name = z := Sum.inr.inj w
        rw [w', ← e]
        exact List.mem_map.mpr ⟨q, h, rfl⟩)
      rw [valV_neg (p := (Sum.inr a.1.name, V.ref a.2)) ne]
      exact ih nd.2 h
theorem kvs_no {cs : List (Cloth × Addr)} {z : Str} (h : z ∉ cs.map (·.1.name)) : valV (kvsOf cs) (Sum.inr z) = none := by
  induction cs with
  | nil => rfl
  | cons a cs ih =>
    rw [List.map_cons, List.mem_cons, not_or] at h
    unfold kvsOf
    rw [List.map_cons, valV_neg (p := (Sum.inr a.1.name, V.ref a.2)) (fun w => h.1 (Sum.inr.inj w).symm)]
    exact ih h.2
theorem kvs_keys (cs : List (Cloth × Addr)) : (kvsOf cs).map (·.1) = (cs.map (·.1.name)).map Sum.inr := by
  unfold kvsOf
  rw [List.map_map, List.map_map]
  rfl
theorem kvs_len (cs : List (Cloth × Addr)) : (kvsOf cs).length = cs.length := by unfold kvsOf; rw [List.length_map]
/-- works, opened -/
structure WkO (G : Ad) (H : Hp) (p : Addr) (W : Wk) (dx ls ts d : Addr) (cs : List (Cloth × Addr)) : Prop where
  at_ : H p = some (.ins G.CW dx (wf ls ts W.last W.time d))
  least : MxAt H ls W.n (fw W.n W.R)
  told : MxAt H ts W.n W.R
  wait : H d = some (.dK (kvsOf cs))
  cl : cs.map (·.1) = W.cl
  cloths : ∀ q ∈ cs, ClAt H q.2 q.1
theorem WkAt.open_ {G : Ad} {H : Hp} {p : Addr} {W : Wk} (x : WkAt G H p W) : ∃ dx ls ts d cs, WkO G H p W dx ls ts d cs := by
  obtain ⟨dx, ls, ts, d, cs, h1, h2, h3, h4, h5, h6⟩ := x.ex
  exact ⟨dx, ls, ts, d, cs, h1, h2, h3, h4, h5, h6⟩
section
variable {G : Ad} {H : Hp} {p : Addr} {W : Wk} {dx ls ts d : Addr} {cs : List (Cloth × Addr)}
theorem WkO.names (x : WkO G H p W dx ls ts d cs) : cs.map (·.1.name) = W.cl.map (·.name) := by
  rw [← x.cl, List.map_map]
  rfl
theorem WkO.nd (x : WkO G H p W dx ls ts d cs) (ok : W.Ok) : (cs.map (·.1.name)).Nodup := by rw [x.names]; exact ok.nd
theorem WkO.has (x : WkO G H p W dx ls ts d cs) {c : Cloth} (h : c ∈ W.cl) : ∃ t, (c, t) ∈ cs ∧ ClAt H t c := by
  rw [← x.cl] at h
  obtain ⟨q, hq, rfl⟩ := List.mem_map.mp h
  exact ⟨q.2, hq, x.cloths q hq⟩
end
end Rw82
/-! words, rinses. -/
namespace Rw82
open PySem PySem.Spec PyProof.Rows L2
variable {P : Program} {w : World} {mg : Str → Option Value} {base : Heap} {k : Nat} {G : Ad}
def wholeV : V → Option Bool
  | .int _ => some true
  | .bl _ => some false
  | .non => some false
  | .str _ => some false
  | _ => none
abbrev sp_is_whole (G : Ad) : Sp := fun vs H Q _ => ∃ x b, vs = [x] ∧ wholeV x = some b ∧ Q (.bl b) H
abbrev sp_is_name (G : Ad) : Sp := fun vs H Q _ => ∃ z, vs = [.str z] ∧ z.length ≤ 1000 ∧ ∀ H', Same H H' → Q (.bl (okName z)) H'
theorem sc_is_whole : FnScope ["thing"] ["thing"] (defScope sis_whole) := ⟨rfl, rfl, rfl, by decide +kernel, rfl, by decide +kernel, by decide +kernel⟩
theorem c_is_whole (B : Bn mg) (F : Gd G.K mg "is_whole" sis_whole) : Ca P w G.K mg base (k + 1) "is_whole" (sp_is_whole G) :=
  ca_0 F sc_is_whole (fun _ _ _ _ _ _ us hl => match us, hl with | [_], _ => rfl) (fun vs H Q E h => by obtain ⟨_, _, rfl, _⟩ := h; rfl)
  fun f cdv A outer s H vs Q E hr h => ⟨_, /- slots: 0 thing -/ (pss_one (ps_ret (pe_and (pe_callB call_isi (by rfl) B.isinstance (by decide +kernel) (pa_cons (pv 0) (pa_cons (pe_bltn (v := .ty "int") (by rfl) B.int (by decide +kernel) rfl) pa_nil))) (pe_one (pe_not (pe_callB call_isi (by rfl) B.isinstance (by decide +kernel) (pa_cons (pv 0) (pa_cons (pe_bltn (v := .ty "bool") (by rfl) B.bool (by decide +kernel) rfl) pa_nil)))))))), by
    obtain ⟨x, b, rfl, hb, q⟩ := h
    dsimp only [tSeq, tRet, tRetN, tIfS, tAsg, tDrop, tNext, tNever, tVar, tC, tCons, tNil, tCB, tOp, tTest, tB, tAnd, tOr, tNot, tAndV, tOrV, tNotV, tChain, tTup, tLst, tFld, sFld, tCall, tMeth, tMake, tDGet, tDIn, tDNotIn, sDPut, tDNewK, tSl, tPart, tNoPart, gTup, gCons, gNil, gSub, tBM, tUn]
    have t1 : ∀ {t u : String} {r : Bool}, TyOf G.K H x (.type t) → kitB t u = some r → ∀ {Q' : VK}, Q' (.bl r) H → rIsi G.K [x, .ty u] H Q' := fun ty e Q' q' => ⟨x, _, _, _, _, rfl, .ty _, .base ty, kit_ty e, q'⟩
    cases x with
    | int i =>
      cases hb
      exact ⟨_, rfl, t1 (.int i) (r := true) (by decide +kernel) ⟨true, rfl, ⟨_, rfl, t1 (.int i) (r := false) (by decide +kernel) ⟨false, rfl, q⟩⟩⟩⟩
    | bl i =>
      cases hb
      exact ⟨_, rfl, t1 (.bl i) (r := true) (by decide +kernel) ⟨true, rfl, ⟨_, rfl, t1 (.bl i) (r := true) (by decide +kernel) ⟨true, rfl, q⟩⟩⟩⟩
    | non =>
      cases hb
      exact ⟨_, rfl, t1 .non (r := false) (by decide +kernel) ⟨false, rfl, q⟩⟩
    | str i =>
      cases hb
      exact ⟨_, rfl, t1 (.str i) (r := false) (by decide +kernel) ⟨false, rfl, q⟩⟩
    | _ => cases hb⟩
theorem sc_is_name : FnScope ["thing", "sign"] ["thing"] (defScope sis_name) := ⟨rfl, rfl, rfl, by decide +kernel, rfl, by decide +kernel, by decide +kernel⟩
theorem c_is_name (B : Bn mg) (F : Gd G.K mg "is_name" sis_name) : Ca P w G.K mg base (k + 1) "is_name" (sp_is_name G) :=
  ca_0 F sc_is_name (fun _ _ _ _ _ _ us hl => match us, hl with | [_], _ => rfl) (fun vs H Q E h => by obtain ⟨_, rfl, _⟩ := h; rfl)
  fun f cdv A outer s H vs Q E hr h => ⟨_, /- slots: 0 thing, 1 sign -/ (pss_cons (ps_if (PW.pt (pw_or (pt_not (pt_val (pe_callB call_isi (by rfl) B.isinstance (by decide +kernel) (pa_cons (pv 0) (pa_cons (pe_bltn (v := .ty "str") (by rfl) B.str (by decide +kernel) rfl) pa_nil))))) (pw_or1 (pt_not (pt_chain op_le op_le pe_int (pe_callB call_len_str (by rfl) B.len PySem.boot_len (pa_cons (pv 0) pa_nil)) (pe_gi B.longest)))))) (pss_one (ps_ret pe_bl)) pss_nil)
      (pss_one (ps_ret (pe_callB (cr_all rfl) (by rfl) B.all (by decide +kernel) (pa_cons (pe_lc (own := [("sign", 1)]) (g := (gName 1)) (tt := tYes) (te := (tOp rInSign (tVar 1) (tC (.str "abcdefghijklmnopqrstuvwxyz")))) rfl sc_is_name.nd (pi_str (pv 0)) (blkOk_by (own := [("sign", 1)]) (N := ["thing", "sign"]) (sc := defScope sis_name) (by decide +kernel)) (fun _ _ _ _ _ => by exact (pg_name (i := 1) sc_is_name.nd rfl (Or.inl rfl))) (fun _ _ _ _ _ => by exact pts_nil) (fun _ _ _ _ _ => by exact (pe_cmpR op_in_sign (pv 1) (pe_gs B.letters) (by rfl)))) pa_nil))))), by
    obtain ⟨z, rfl, hz, q⟩ := h
    dsimp only [tSeq, tRet, tRetN, tIfS, tAsg, tDrop, tNext, tNever, tVar, tC, tCons, tNil, tCB, tOp, tTest, tB, tAnd, tOr, tNot, tAndV, tOrV, tNotV, tChain, tTup, tLst, tFld, sFld, tCall, tMeth, tMake, tDGet, tDIn, tDNotIn, sDPut, tDNewK, tSl, tPart, tNoPart, gTup, gCons, gNil, gSub, tBM, tUn]
    have hz' : z.length ≤ sizeLine := small16 (by omega)
    refine ⟨_, rfl, ⟨_, _, _, _, true, rfl, .ty _, .base (.str z), kit_ty (by decide +kernel), true, rfl, ?_⟩⟩
    refine ⟨_, rfl, z, rfl, hz', 1, _, rfl, rfl, _, rfl, ?_⟩
    show (if decide ((1 : Int) ≤ (z.length : Int)) = true then _ else _)
    have fin : ∀ b, b = okName z → b = false → Q (.bl false) H := fun b e1 e2 => by
      have := q H (fun _ _ x => x)
      rw [← e1, e2] at this
      exact this
    by_cases h1 : (1 : Int) ≤ (z.length : Int)
    · rw [if_pos (decide_eq_true h1)]
      refine ⟨_, _, rfl, rfl, _, rfl, ?_⟩
      by_cases h2 : (z.length : Int) ≤ 8
      · rw [decide_eq_true h2]
        show _
        refine ⟨_, rfl, z, rfl, fun D hD => lc_it walk_str (fun i H' => Same H H' ∧ H' D = some (.lst (((z.cps.toList.take i).map fun c => V.bl (decide (c ∈ alphabet.cps.toList)))))) ⟨same_new hD, ?_⟩ (fun _ _ _ _ => True.intro) ?_ ?_⟩
        · exact upd_same
        · rintro i x H1 H2 hi ⟨p1, p2⟩ ⟨rfl, c, hc, rfl⟩
          refine ⟨rfl, ⟨_, rfl, c, _, rfl, rfl, _, p2, ?_, same_mut p1 hD, ?_⟩⟩
          · rw [List.length_map, List.length_take]
            have hs : z.cps.size = z.length := rfl
            exact small16' (Nat.lt_of_le_of_lt (Nat.min_le_left _ _) (by omega))
          · rw [upd_same]
            congr 2
            have hc' : z.cps.toList[i]? = some c := by rw [Array.getElem?_toList]; exact hc
            rw [List.take_add_one, hc', Option.toList_some, List.map_append]
            rfl
        · rintro H1 ⟨p1, p2⟩
          refine ⟨D, z.cps.toList.map fun c => decide (c ∈ alphabet.cps.toList), rfl, Or.inl (Or.inl ?_), ?_⟩
          · rw [p2, ← Array.length_toList, List.take_length, List.map_map]
            rfl
          · have e : okName z = (z.cps.toList.map fun c => decide (c ∈ alphabet.cps.toList)).all id := by
              unfold okName
              rw [decide_eq_true (show 1 ≤ z.length by omega), decide_eq_true (show z.length ≤ 8 by omega), List.all_map]
              rfl
            rw [← e]
            exact q H1 p1
      · rw [decide_eq_false h2]
        refine fin _ rfl ?_
        unfold okName
        rw [decide_eq_false (show ¬ z.length ≤ 8 by omega), Bool.and_false]
        rfl
    · rw [if_neg (by rw [decide_eq_false h1]; decide)]
      refine ⟨_, rfl, fin _ rfl ?_⟩
      unfold okName
      rw [decide_eq_false (show ¬ 1 ≤ z.length by omega)]
      rfl⟩

abbrev sp_look_at_rinses (G : Ad) : Sp := fun vs H Q _ => ∃ r n R, vs = [.ref r] ∧ MxAt H r n R ∧ 1 ≤ n ∧ n ≤ 4 ∧ Nonneg R ∧ ∀ H', Same H H' → Q .non H'
theorem sc_look_at_rinses : FnScope ["rinses", "many", "row", "number"] ["rinses"] (defScope slook_at_rinses) := ⟨rfl, rfl, rfl, by decide +kernel, rfl, by decide +kernel, by decide +kernel⟩
theorem c_look_at_rinses (B : Bn mg) (C_is_whole : Ca P w G.K mg base k "is_whole" (sp_is_whole G)) (F : Gd G.K mg "look_at_rinses" slook_at_rinses) : Ca P w G.K mg base (k + 1) "look_at_rinses" (sp_look_at_rinses G) :=
  ca_0 F sc_look_at_rinses (fun _ _ _ _ _ _ us hl => match us, hl with | [_], _ => rfl) (fun vs H Q E h => by obtain ⟨_, _, _, rfl, _⟩ := h; rfl)
  fun f cdv A outer s H vs Q E hr h => ⟨_, /- slots: 0 rinses, 1 many, 2 row, 3 number -/ (pss_cons (ps_set (i := 1) sc_look_at_rinses.nd rfl (Or.inl rfl) (pe_op op_sub (pe_callB call_len_seq (by rfl) B.len PySem.boot_len (pa_cons (pv 0) pa_nil)) pe_int))
      (pss_cons (ps_if (pt_not (pt_chain op_le op_le pe_int (pv 1) (pe_gi B.mosthues))) (pss_one ps_never) pss_nil)
      (pss_one (ps_for PassesOwn.never rfl (pi_list (pv 0)) (pg_name (i := 2) sc_look_at_rinses.nd rfl (Or.inl rfl)) (pss_cons (ps_if (pt_cmpR op_ne (pe_callB call_len_seq (by rfl) B.len PySem.boot_len (pa_cons (pv 2) pa_nil)) (pv 1) (nomark _)) (pss_one ps_never) pss_nil)
      (pss_one (ps_for PassesOwn.never rfl (pi_list (pv 2)) (pg_name (i := 3) sc_look_at_rinses.nd rfl (Or.inl rfl)) (pss_one (ps_if (PW.pt (pw_or (pt_not (pt_val (pe_ca C_is_whole hr (pa_cons (pv 3) pa_nil)))) (pw_or1 (pt_cmpR op_lt (pv 3) pe_int (nomark _))))) (pss_one ps_never) pss_nil))))))))), by
    obtain ⟨r, n, R, rfl, hm, h1, h4, nn, q⟩ := h
    obtain ⟨rs, hl, hn, hrow⟩ := hm.ex
    have hL : SqL G.K H r (rs.map V.ref) := Or.inl (Or.inl hl)
    dsimp only [tSeq, tRet, tRetN, tIfS, tAsg, tDrop, tNext, tNever, tVar, tC, tCons, tNil, tCB, tOp, tTest, tB, tAnd, tOr, tNot, tAndV, tOrV, tNotV, tChain, tTup, tLst, tFld, sFld, tCall, tMeth, tMake, tDGet, tDIn, tDNotIn, sDPut, tDNewK, tSl, tPart, tNoPart, gTup, gCons, gNil, gSub, tBM, tUn]
    refine ⟨_, rfl, r, _, rfl, Or.inl hL, _, _, rfl, rfl, _, rfl, _, _, rfl, rfl, true, congrArg V.bl (decide_eq_true ?_), ?_⟩
    · rw [List.length_map, hn]; omega
    rw [if_pos rfl]
    refine ⟨_, _, rfl, rfl, true, congrArg V.bl (decide_eq_true ?_), ?_⟩
    · rw [List.length_map, hn]; omega
    have e0 : ((rs.map V.ref).length : Int) - 1 = n := by rw [List.length_map, hn]; omega
    dsimp only
    rw [e0]
    refine Evl.s_forLn (xs := rs.map V.ref) (Evl.ev_var rfl) hL (fun _ σ' H' => Same H H' ∧ ∃ x y, σ' = [some (.ref r), some (.int n), x, y]) (fun H1 e => ⟨e, none, none, rfl⟩) ?_ ?_ ?_
    · rintro i σ' H' _ ⟨e, _⟩
      exact Evl.ex_l e hL
    · rintro i x σ' H' hx ⟨e, x2, x3, rfl⟩
      rw [List.getElem?_map] at hx
      obtain ⟨ra, hra, rfl⟩ := Option.map_eq_some_iff.mp hx
      have hR : SqL G.K H' ra (rowV n R i) := Or.inl (Or.inl (e _ _ (hrow i ra hra)))
      show tSeq _ _ _ _ _
      dsimp only [tSeq, tRet, tRetN, tIfS, tAsg, tDrop, tNext, tNever, tVar, tC, tCons, tNil, tCB, tOp, tTest, tB, tAnd, tOr, tNot, tAndV, tOrV, tNotV, tChain, tTup, tLst, tFld, sFld, tCall, tMeth, tMake, tDGet, tDIn, tDNotIn, sDPut, tDNewK, tSl, tPart, tNoPart, gTup, gCons, gNil, gSub, tBM, tUn]
      refine ⟨_, rfl, ra, _, rfl, Or.inl hR, _, rfl, rfl, _, rfl, ?_⟩
      rw [rowV_length, decide_eq_true rfl]
      refine Evl.s_forLn (xs := rowV n R i) (Evl.ev_var rfl) hR (fun _ σ2 H2 => Same H H2 ∧ ∃ y, σ2 = [some (.ref r), some (.int n), some (.ref ra), y]) (fun H1 e1 => ⟨Evl.Ex.trans e e1, x3, rfl⟩) ?_ ?_ ?_
      · rintro j σ2 H2 _ ⟨e2, _⟩
        exact Or.inl (Or.inl (e2 _ _ (hrow i ra hra)))
      · rintro j x σ2 H2 hx ⟨e2, y, rfl⟩
        unfold rowV at hx
        rw [List.getElem?_map] at hx
        obtain ⟨z, hz, rfl⟩ := Option.map_eq_some_iff.mp hx
        dsimp only [sp_is_whole]
        refine ⟨_, rfl, _, true, rfl, rfl, _, rfl, ?_⟩
        show (if (!true) = true then _ else _)
        rw [if_neg (by decide)]
        refine ⟨_, rfl, _, _, rfl, rfl, _, rfl, ?_⟩
        rw [decide_eq_false (by have := nn i z; omega)]
        exact ⟨e2, _, rfl⟩
      · rintro σ2 H2 ⟨e2, y, rfl⟩
        exact ⟨e2, _, _, rfl⟩
    · rintro σ' H' ⟨e, _⟩
      exact q H' e⟩
end Rw82
/-! sums_and_ways. -/
namespace Rw82
open PySem PySem.Spec PyProof.Rows L2
variable {P : Program} {w : World} {mg : Str → Option Value} {base : Heap} {k : Nat} {G : Ad}
/-- the table of sums and the table of ways as they stand: new since H0 -/
structure SW (H0 H : Hp) (a b : Addr) (rs ws : List Addr) (n : Nat) (D : Mat) (bd : Nat → Nat → Nat) : Prop where
  s : Same H0 H
  ra : ∀ r ∈ rs, H0 r = none
  wa : ∀ r ∈ ws, H0 r = none
  hs : H a = some (.lst (rs.map V.ref))
  hw : H b = some (.lst (ws.map V.ref))
  rl : rs.length = n + 1
  wl : ws.length = n + 1
  rn : rs.Nodup
  wn : ws.Nodup
  ap : ∀ r ∈ rs, r ∉ ws ∧ r ≠ a ∧ r ≠ b
  aw : ∀ r ∈ ws, r ≠ a ∧ r ≠ b
  row : ∀ i r, rs[i]? = some r → H r = some (.lst (rowV n D i))
  way : ∀ i r, ws[i]? = some r → ∃ ps : List Addr, ps.length = n ∧ H r = some (.lst (ps.map V.ref)) ∧ ∀ j p, ps[j]? = some p → p ∉ ws ∧ p ∉ rs ∧ ∃ xs, H p = some (.lst xs) ∧ xs.length ≤ bd i j
theorem nd_ix {α : Type} {l : List α} (hN : l.Nodup) {i j : Nat} {x : α} (a : l[i]? = some x) (b : l[j]? = some x) : i = j := by
  obtain ⟨h1, e1⟩ := List.getElem?_eq_some_iff.mp a
  obtain ⟨h2, e2⟩ := List.getElem?_eq_some_iff.mp b
  exact (List.getElem_inj hN).mp (e1.trans e2.symm)
theorem refs_inj : ∀ {ps qs : List Addr}, ps.map V.ref = qs.map V.ref → ps = qs
  | [], [], _ => rfl
  | [], _ :: _, h => nomatch h
  | _ :: _, [], h => nomatch h
  | p :: ps, q :: qs, h => by
    rw [List.map_cons, List.map_cons] at h
    injection h with h1 h2
    injection h1 with h1
    rw [h1, refs_inj h2]
theorem rowV_set {n f l : Nat} {D : Mat} {v : Int} (hl : l < n) : (rowV n D f).set l (.int v) = rowV n (setM D f l v) f := by
  apply List.ext_getElem?
  intro i
  unfold rowV
  by_cases e : i = l
  · subst e
    rw [List.getElem?_set_self (by rw [List.length_map, List.length_range]; exact hl), List.getElem?_map, List.getElem?_range hl]
    show _ = some (V.int _)
    rw [setM_same]
  · rw [List.getElem?_set_ne (fun q => e q.symm), List.getElem?_map, List.getElem?_map]
    cases h : (List.range n)[i]? with
    | none => rfl
    | some x =>
      have hx : x = i := by
        have := List.getElem?_eq_some_iff.mp h
        obtain ⟨h1, h2⟩ := this
        rw [List.getElem_range] at h2
        exact h2.symm
      show some (V.int _) = some (V.int _)
      rw [setM_ne _ _ (by rintro ⟨_, q⟩; exact e (hx ▸ q))]
theorem rowV_other {n f l i : Nat} {D : Mat} {v : Int} (h : i ≠ f) : rowV n (setM D f l v) i = rowV n D i := by
  unfold rowV
  apply List.map_congr_left
  intro x _
  rw [setM_ne _ _ (by rintro ⟨q, _⟩; exact h q)]
theorem SW.step {H0 H H2 : Hp} {a b : Addr} {rs ws : List Addr} {n : Nat} {D : Mat} {bd : Nat → Nat → Nat} (x : SW H0 H a b rs ws n D bd) {f l : Nat} {rf wf p : Addr} {v : Int} {ys : List V} {ps : List Addr} (hl : l < n)
    (hr : rs[f]? = some rf) (hf : ws[f]? = some wf) (hp : (upd H rf (.lst (rowV n (setM D f l v) f))) p = none) (h2 : Same (upd H rf (.lst (rowV n (setM D f l v) f))) H2) (hp2 : H2 p = some (.lst ys)) (hps : H wf = some (.lst (ps.map V.ref))) (hy : ys.length ≤ bd f l) :
    SW H0 (upd H2 wf (.lst ((ps.map V.ref).set l (.ref p)))) a b rs ws n (setM D f l v) bd := by
  have mr : rf ∈ rs := List.mem_of_getElem? hr
  have mw : wf ∈ ws := List.mem_of_getElem? hf
  obtain ⟨h1, h2', h3⟩ := x.ap rf mr
  obtain ⟨h4, h5⟩ := x.aw wf mw
  have prf : p ≠ rf := fun e => by rw [e, upd_same] at hp; cases hp
  have hp0 : H p = none := by rw [upd_ne prf] at hp; exact hp
  have np : ∀ {q : Addr} {o : HO}, H q = some o → q ≠ p := fun e q => by rw [q, hp0] at e; cases e
  have pw : ∀ r ∈ ws, r ≠ p := fun r m => by
    obtain ⟨i, hi⟩ := List.mem_iff_getElem?.mp m
    obtain ⟨_, _, q, _⟩ := x.way i r hi
    exact np q
  have pr : ∀ r ∈ rs, r ≠ p := fun r m => by
    obtain ⟨i, hi⟩ := List.mem_iff_getElem?.mp m
    exact np (x.row i r hi)
  have keep : ∀ {q : Addr} {o : HO}, q ≠ rf → q ≠ wf → H q = some o → (upd H2 wf (.lst ((ps.map V.ref).set l (.ref p)))) q = some o := fun {q o} e1 e2 e => by
    rw [upd_ne e2]
    exact h2 _ _ (by rw [upd_ne e1]; exact e)
  refine ⟨fun q o e => keep (fun e' => by rw [e', x.ra rf mr] at e; cases e) (fun e' => by rw [e', x.wa wf mw] at e; cases e) (x.s q o e), x.ra, x.wa, keep h2'.symm h4.symm x.hs, keep h3.symm h5.symm x.hw, x.rl, x.wl, x.rn, x.wn, x.ap, x.aw, ?_, ?_⟩
  · intro i r hi
    have m : r ∈ rs := List.mem_of_getElem? hi
    have nw : r ≠ wf := fun e => (x.ap r m).1 (e ▸ mw)
    by_cases e : i = f
    · subst e
      rw [hr] at hi
      cases hi
      rw [upd_ne nw]
      exact h2 _ _ upd_same
    · have nr : r ≠ rf := fun q => e (nd_ix x.rn (x := r) hi (by rw [hr, q]))
      rw [rowV_other e]
      exact keep nr nw (x.row i r hi)
  · intro i r hi
    have m : r ∈ ws := List.mem_of_getElem? hi
    obtain ⟨qs, ql, qh, qx⟩ := x.way i r hi
    have nr : r ≠ rf := fun e => h1 (e ▸ m)
    by_cases e : i = f
    · subst e
      rw [hf] at hi
      cases hi
      rw [hps] at qh
      have qe : ps.map V.ref = qs.map V.ref := by
        injection qh with z1
        injection z1
      have qe' : ps = qs := refs_inj qe
      subst qe'
      refine ⟨ps.set l p, by rw [List.length_set]; exact ql, by rw [upd_same, List.map_set], ?_⟩
      intro j q hj
      by_cases ej : j = l
      · subst ej
        rw [List.getElem?_set_self (by omega)] at hj
        cases hj
        exact ⟨fun m' => pw _ m' rfl, fun m' => pr _ m' rfl, ys, by rw [upd_ne (fun z => pw _ mw z.symm)]; exact hp2, hy⟩
      · rw [List.getElem?_set_ne (fun z => ej z.symm)] at hj
        obtain ⟨z1, z2, xs, z3, z4⟩ := qx j q hj
        exact ⟨z1, z2, xs, keep (fun z => z2 (z ▸ mr)) (fun z => z1 (z ▸ mw)) z3, z4⟩
    · have nw : r ≠ wf := fun q => e (nd_ix x.wn (x := r) hi (by rw [hf, q]))
      refine ⟨qs, ql, keep nr nw qh, fun j q hj => ?_⟩
      obtain ⟨z1, z2, xs, z3, z4⟩ := qx j q hj
      exact ⟨z1, z2, xs, keep (fun z => z2 (z ▸ mr)) (fun z => z1 (z ▸ mw)) z3, z4⟩
theorem SW.same {H0 H H2 : Hp} {a b : Addr} {rs ws : List Addr} {n : Nat} {D : Mat} {bd : Nat → Nat → Nat} (x : SW H0 H a b rs ws n D bd) (e : Same H H2) : SW H0 H2 a b rs ws n D bd :=
  ⟨fun q o h => e _ _ (x.s q o h), x.ra, x.wa, e _ _ x.hs, e _ _ x.hw, x.rl, x.wl, x.rn, x.wn, x.ap, x.aw, fun i r hi => e _ _ (x.row i r hi), fun i r hi => by
    obtain ⟨ps, z1, z2, z3⟩ := x.way i r hi
    refine ⟨ps, z1, e _ _ z2, fun j p hj => ?_⟩
    obtain ⟨y1, y2, xs, y3, y4⟩ := z3 j p hj
    exact ⟨y1, y2, xs, e _ _ y3, y4⟩⟩
/-- l + m of lists, new -/
theorem el_cat {ta tb : TE} {σ : L2.St} {H : Hp} {p q : Addr} {xs zs : List V} (ha : Evl.Ev ta σ H (.ref p)) (hb : Evl.Ev tb σ H (.ref q)) (hp : H p = some (.lst xs)) (hq : H q = some (.lst zs)) (hz : xs.length + zs.length ≤ 100000) : Evl.EvL (tOp rCat ta tb) σ H (xs ++ zs) :=
  fun H1 e Q k => ha H1 e _ fun H2 e2 => hb H2 (Evl.Ex.trans e e2) _ fun H3 e3 => ⟨p, q, xs, zs, rfl, rfl, e3 _ _ (e2 _ _ (e _ _ hp)), e3 _ _ (e2 _ _ (e _ _ hq)), Evl.sz_of hz, fun l hl =>
    k l _ (Evl.fresh_back (Evl.Ex.trans e2 e3) hl) (Evl.Ex.trans (Evl.Ex.trans e2 e3) (Evl.Ex.new hl)) upd_same⟩
/-- xs[i] = a new list -/
theorem s_setLL {te ta tb : TE} {σ : L2.St} {H : Hp} {D : Ends} {l : Addr} {xs ys : List V} {j : Nat} (hl : H l = some (.lst xs)) (h : Evl.EvL te σ H ys) (ho : ∀ H1, Same H H1 → Evl.Ev ta σ H1 (.ref l)) (hi : ∀ H1, Same H H1 → Evl.Ev tb σ H1 (.int (j : Int))) (hj : j < xs.length)
    (k : ∀ p H1, H p = none → Same H H1 → H1 p = some (.lst ys) → D.nx σ (upd H1 l (.lst (xs.set j (.ref p))))) : tAsg te (gSub ta tb rSetL) D σ H :=
  h H (Evl.Ex.refl H) _ fun p H1 hp e1 h1 => ho H1 e1 H1 (Evl.Ex.refl H1) _ fun H2 e2 => hi H1 e1 H2 e2 _ fun H3 e3 =>
    ⟨l, xs, (j : Int), j, rfl, rfl, e3 _ _ (e2 _ _ (e1 l _ hl)), Evl.ixN_nat hj, k p H3 hp (Evl.Ex.trans (Evl.Ex.trans e1 e2) e3) (e3 _ _ (e2 _ _ h1))⟩
theorem SW.wide {H0 H : Hp} {a b : Addr} {rs ws : List Addr} {n : Nat} {D : Mat} {bd bd' : Nat → Nat → Nat} (x : SW H0 H a b rs ws n D bd) (h : ∀ i j, bd i j ≤ bd' i j) : SW H0 H a b rs ws n D bd' :=
  ⟨x.s, x.ra, x.wa, x.hs, x.hw, x.rl, x.wl, x.rn, x.wn, x.ap, x.aw, x.row, fun i r hi => by
    obtain ⟨ps, z1, z2, z3⟩ := x.way i r hi
    refine ⟨ps, z1, z2, fun j p hj => ?_⟩
    obtain ⟨y1, y2, xs, y3, y4⟩ := z3 j p hj
    exact ⟨y1, y2, xs, y3, Nat.le_trans y4 (h i j)⟩⟩
/-- the ways' bound within a phase -/
def bdK (k : Nat) : Nat → Nat → Nat := fun i j => if i = k ∨ j = k then 2 ^ k else 2 ^ (k + 1)
theorem fwCell_nonneg {k f l : Nat} {D : Mat} (h : Nonneg D) : Nonneg (fwCell k f l D) := by
  unfold fwCell
  split
  · intro a b
    by_cases e : a = f ∧ b = l
    · obtain ⟨rfl, rfl⟩ := e
      rw [setM_same]
      have := h a k; have := h k b; omega
    · rw [setM_ne _ _ e]; exact h a b
  · exact h
theorem fwRow_nonneg {k f n : Nat} {D : Mat} (h : Nonneg D) : ∀ l, Nonneg (iter (fwCell k f) l D)
  | 0 => h
  | l + 1 => fwCell_nonneg (fwRow_nonneg (n := n) h l)
theorem fwRows_nonneg {k n : Nat} {D : Mat} (h : Nonneg D) : ∀ f, Nonneg (iter (fwRow n k) f D)
  | 0 => h
  | f + 1 => fwRow_nonneg (n := n) (fwRows_nonneg h f) n
theorem fwPh_nonneg {n : Nat} {D : Mat} (h : Nonneg D) : ∀ k, Nonneg (iter (fwPhase n) k D)
  | 0 => h
  | k + 1 => fwRows_nonneg (fwPh_nonneg h k) (n + 1)

/-- new lists, one behind the other, in the list at D -/
structure RowsP (H0 H : Hp) (D : Addr) (rs : List Addr) (n : Nat) (R : Mat) (i : Nat) : Prop where
  s : Same H0 H
  d0 : H0 D = none
  hs : H D = some (.lst (rs.map V.ref))
  ln : rs.length = i
  nd : rs.Nodup
  fr : ∀ r ∈ rs, H0 r = none ∧ r ≠ D
  row : ∀ j r, rs[j]? = some r → H r = some (.lst (rowV n R j))
theorem snoc_get {α : Type} {l : List α} {x : α} {j : Nat} {y : α} (h : (l ++ [x])[j]? = some y) : l[j]? = some y ∨ (j = l.length ∧ y = x) := by
  by_cases hj : j < l.length
  · rw [List.getElem?_append_left hj] at h; exact Or.inl h
  · have h1 := (List.getElem?_eq_some_iff.mp h).1
    rw [List.length_append] at h1
    have e : j = l.length := by have : [x].length = 1 := rfl; omega
    subst e
    rw [List.getElem?_concat_length] at h
    exact Or.inr ⟨rfl, (Option.some.inj h).symm⟩
theorem nd_snoc {α : Type} {l : List α} {x : α} (h : l.Nodup) (hx : x ∉ l) : (l ++ [x]).Nodup := List.nodup_append.mpr ⟨h, List.nodup_cons.mpr ⟨List.not_mem_nil, List.nodup_nil⟩, fun a ha b hb e => by
  rw [List.mem_singleton] at hb
  exact hx (hb ▸ e ▸ ha)⟩
theorem refs_snoc {l : List Addr} {p : Addr} : (l ++ [p]).map V.ref = l.map V.ref ++ [V.ref p] := by rw [List.map_append]; rfl
theorem RowsP.new {H0 : Hp} {D : Addr} {n : Nat} {R : Mat} (h : H0 D = none) : RowsP H0 (upd H0 D (.lst [])) D [] n R 0 :=
  ⟨same_new h, h, upd_same, rfl, List.nodup_nil, fun _ m => (nomatch m), fun _ _ e => (nomatch e)⟩
theorem RowsP.step {H0 H : Hp} {D l : Addr} {rs : List Addr} {n i : Nat} {R : Mat} (x : RowsP H0 H D rs n R i) (hl : H l = none) :
    RowsP H0 (upd (upd H l (.lst (rowV n R i))) D (.lst (rs.map V.ref ++ [.ref l]))) D (rs ++ [l]) n R (i + 1) := by
  have lD : l ≠ D := fun e => by rw [e, x.hs] at hl; cases hl
  have h0 : H0 l = none := by
    cases q : H0 l with
    | none => rfl
    | some o => rw [x.s l o q] at hl; cases hl
  have np : ∀ {q : Addr} {o : HO}, H q = some o → q ≠ l := fun e q => by rw [q, hl] at e; cases e
  have nr : l ∉ rs := fun m => by
    obtain ⟨j, hj⟩ := List.mem_iff_getElem?.mp m
    exact np (x.row j l hj) rfl
  refine ⟨fun q o e => ?_, x.d0, by rw [upd_same, refs_snoc], by rw [List.length_append, x.ln]; rfl, nd_snoc x.nd nr, fun r m => ?_, fun j r hj => ?_⟩
  · rw [upd_ne (ne_of_none e x.d0), upd_ne (np (x.s q o e))]
    exact x.s q o e
  · rcases List.mem_append.mp m with m | m
    · exact x.fr r m
    · rw [List.mem_singleton] at m
      subst m
      exact ⟨h0, lD⟩
  · rcases snoc_get hj with h | ⟨rfl, rfl⟩
    · have m : r ∈ rs := List.mem_of_getElem? h
      rw [upd_ne (x.fr r m).2, upd_ne (np (x.row j r h))]
      exact x.row j r h
    · rw [upd_ne lD, upd_same, x.ln]
/-- ways laid -/
structure WaysP (H0 H : Hp) (D : Addr) (ws : List Addr) (n : Nat) (i : Nat) : Prop where
  s : Same H0 H
  d0 : H0 D = none
  hs : H D = some (.lst (ws.map V.ref))
  ln : ws.length = i
  nd : ws.Nodup
  fr : ∀ r ∈ ws, H0 r = none ∧ r ≠ D
  way : ∀ (j : Nat) r, ws[j]? = some r → ∃ ps : List Addr, ps.length = n ∧ H r = some (.lst (ps.map V.ref)) ∧ ∀ (l : Nat) p, ps[l]? = some p → p ∉ ws ∧ H0 p = none ∧ p ≠ D ∧ ∃ x, H p = some (.lst [x])
theorem WaysP.new {H0 : Hp} {D : Addr} {n : Nat} (h : H0 D = none) : WaysP H0 (upd H0 D (.lst [])) D [] n 0 :=
  ⟨same_new h, h, upd_same, rfl, List.nodup_nil, fun _ m => (nomatch m), fun _ _ e => (nomatch e)⟩
theorem WaysP.step {H0 H H1 : Hp} {D l : Addr} {ws ps : List Addr} {n i : Nat} (x : WaysP H0 H D ws n i) (hl : H l = none) (hs : Same H H1) (hl1 : H1 l = some (.lst (ps.map V.ref))) (hn : ps.length = n) (hp : ∀ p ∈ ps, H p = none ∧ p ≠ l ∧ ∃ x, H1 p = some (.lst [x])) :
    WaysP H0 (upd H1 D (.lst (ws.map V.ref ++ [.ref l]))) D (ws ++ [l]) n (i + 1) := by
  have back : ∀ {q : Addr}, H q = none → H0 q = none := fun {q} e => by
    cases z : H0 q with
    | none => rfl
    | some o => rw [x.s q o z] at e; cases e
  have nD : ∀ {q : Addr}, H q = none → q ≠ D := fun e q => by rw [q, x.hs] at e; cases e
  have nW : ∀ {q : Addr}, H q = none → q ∉ ws := fun {q} e m => by
    obtain ⟨j, hj⟩ := List.mem_iff_getElem?.mp m
    obtain ⟨_, _, z, _⟩ := x.way j q hj
    rw [e] at z; cases z
  refine ⟨fun q o e => ?_, x.d0, by rw [upd_same, refs_snoc], by rw [List.length_append, x.ln]; rfl, nd_snoc x.nd (nW hl), fun r m => ?_, fun j r hj => ?_⟩
  · rw [upd_ne (ne_of_none e x.d0)]
    exact hs q o (x.s q o e)
  · rcases List.mem_append.mp m with m | m
    · exact x.fr r m
    · rw [List.mem_singleton] at m
      subst m
      exact ⟨back hl, nD hl⟩
  · rcases snoc_get hj with h | ⟨rfl, rfl⟩
    · have m : r ∈ ws := List.mem_of_getElem? h
      obtain ⟨qs, z1, z2, z3⟩ := x.way j r h
      refine ⟨qs, z1, by rw [upd_ne (x.fr r m).2]; exact hs _ _ z2, fun l' p hp' => ?_⟩
      obtain ⟨y1, y2, y3, v, y4⟩ := z3 l' p hp'
      refine ⟨fun m' => ?_, y2, y3, v, by rw [upd_ne y3]; exact hs _ _ y4⟩
      rcases List.mem_append.mp m' with m' | m'
      · exact y1 m'
      · rw [List.mem_singleton] at m'
        rw [m', hl] at y4; cases y4
    · refine ⟨ps, hn, by rw [upd_ne (nD hl)]; exact hl1, fun l' p hp' => ?_⟩
      obtain ⟨y1, y2, v, y3⟩ := hp p (List.mem_of_getElem? hp')
      refine ⟨fun m' => ?_, back y1, nD y1, v, by rw [upd_ne (nD y1)]; exact y3⟩
      rcases List.mem_append.mp m' with m' | m'
      · exact nW y1 m'
      · rw [List.mem_singleton] at m'
        exact y2 m'
theorem SW.of {H0 H1 H2 : Hp} {a b : Addr} {rs ws : List Addr} {n : Nat} {R : Mat} (x : RowsP H0 H1 a rs n R (n + 1)) (y : WaysP H1 H2 b ws n (n + 1)) : SW H0 H2 a b rs ws n R (fun _ _ => 1) := by
  have back : ∀ {q : Addr}, H1 q = none → H0 q = none := fun {q} e => by
    cases z : H0 q with
    | none => rfl
    | some o => rw [x.s q o z] at e; cases e
  have hr : ∀ r ∈ rs, ∃ o, H1 r = some o := fun r m => by
    obtain ⟨j, hj⟩ := List.mem_iff_getElem?.mp m
    exact ⟨_, x.row j r hj⟩
  have aw : ∀ r ∈ rs, ∀ q, H1 q = none → r ≠ q := fun r m q e z => by
    obtain ⟨o, ho⟩ := hr r m
    rw [z, e] at ho; cases ho
  refine ⟨fun q o e => y.s _ _ (x.s q o e), fun r m => (x.fr r m).1, fun r m => back (y.fr r m).1, y.s _ _ x.hs, y.hs, x.ln, y.ln, x.nd, y.nd, fun r m => ⟨fun m' => aw r m r (y.fr r m').1 rfl, (x.fr r m).2, aw r m b y.d0⟩, fun r m => ⟨fun e => ?_, (y.fr r m).2⟩, fun i r h => y.s _ _ (x.row i r h), fun i r h => ?_⟩
  · have := (y.fr r m).1
    rw [e, x.hs] at this; cases this
  · obtain ⟨ps, z1, z2, z3⟩ := y.way i r h
    refine ⟨ps, z1, z2, fun j p hj => ?_⟩
    obtain ⟨y1, y2, y3, v, y4⟩ := z3 j p hj
    exact ⟨y1, fun m' => aw p m' p y2 rfl, [v], y4, Nat.le_refl 1⟩

abbrev sp_sums_and_ways (G : Ad) : Sp := fun vs H Q _ => ∃ r n R, vs = [.ref r] ∧ MxAt H r n R ∧ 1 ≤ n ∧ n ≤ 4 ∧ Nonneg R ∧ ∀ H' t a b, Same H H' → H' t = some (.tup [.ref a, .ref b]) → MxAt H' a n (fw n R) → Q (.ref t) H'
theorem sc_sums_and_ways : FnScope ["rinses", "sums", "ways", "amid", "first", "row", "last", "hue", "found"] ["rinses"] (defScope ssums_and_ways) := ⟨rfl, rfl, rfl, by decide +kernel, rfl, by decide +kernel, by decide +kernel⟩
theorem c_sums_and_ways (B : Bn mg) (C_look_at_rinses : Ca P w G.K mg base k "look_at_rinses" (sp_look_at_rinses G)) (F : Gd G.K mg "sums_and_ways" ssums_and_ways) : Ca P w G.K mg base (k + 1) "sums_and_ways" (sp_sums_and_ways G) :=
  ca_0 F sc_sums_and_ways (fun _ _ _ _ _ _ us hl => match us, hl with | [_], _ => rfl) (fun vs H Q E h => by obtain ⟨_, _, _, rfl, _⟩ := h; rfl)
  fun f cdv A outer s H vs Q E hr h => ⟨_, /- slots: 0 rinses, 1 sums, 2 ways, 3 amid, 4 first, 5 row, 6 last, 7 hue, 8 found -/ (pss_cons (ps_expr (pe_ca C_look_at_rinses hr (pa_cons (pv 0) pa_nil)))
      (pss_cons (ps_setLc (i := 1) (own := [("row", 5)]) (g := (gName 5)) (tt := tYes) (te := (tCB (rListOf G.K) (tCons (tVar 5) tNil))) rfl sc_sums_and_ways.nd rfl rfl (sw_true rfl rfl rfl (by decide +kernel)) (pi_list (pv 0)) (blkOk_by (own := [("row", 5)]) (N := ["rinses", "sums", "ways", "amid", "first", "row", "last", "hue", "found"]) (sc := defScope ssums_and_ways) (by decide +kernel)) (fun _ _ _ _ _ => by exact (pg_name (i := 5) sc_sums_and_ways.nd rfl (Or.inl rfl))) (fun _ _ _ _ _ => by exact pts_nil) (fun _ _ _ _ _ => by exact (pe_callTy call_list_of (by rfl) B.list (by decide +kernel) (pa_cons (pv 5) pa_nil))))
      (pss_cons (ps_setLc (i := 2) (own := [("row", 5)]) (g := (gName 5)) (tt := tYes) (te := (tLc (iRng1 (tCons (tCB (rLenSq G.K) (tCons (tVar 5) tNil)) tNil)) (gName 7) tYes (tLst (tCons (tVar 7) tNil)) [7])) rfl sc_sums_and_ways.nd rfl rfl (sw_true rfl rfl rfl (by decide +kernel)) (pi_list (pv 0)) (blkOk_by (own := [("row", 5)]) (N := ["rinses", "sums", "ways", "amid", "first", "row", "last", "hue", "found"]) (sc := defScope ssums_and_ways) (by decide +kernel)) (fun _ _ _ _ _ => by exact (pg_name (i := 5) sc_sums_and_ways.nd rfl (Or.inl rfl))) (fun _ _ _ _ _ => by exact pts_nil) (fun _ _ _ _ _ => by exact (pe_lc (own := [("hue", 7)]) (g := (gName 7)) (tt := tYes) (te := (tLst (tCons (tVar 7) tNil))) rfl sc_sums_and_ways.nd (pi_range1 (by rfl) B.range (pa_cons (pe_callB call_len_seq (by rfl) B.len PySem.boot_len (pa_cons (pv 5) pa_nil)) pa_nil)) (blkOk_by (own := [("hue", 7)]) (N := ["rinses", "sums", "ways", "amid", "first", "row", "last", "hue", "found"]) (sc := (relS (lcSc (stE ((defBody ssums_and_ways).getD 2 (.Pass ⟨0, 0, 0, 0⟩)))) (defScope ssums_and_ways))) (by decide +kernel)) (fun _ _ _ _ _ => by exact (pg_name (i := 7) sc_sums_and_ways.nd rfl (Or.inl rfl))) (fun _ _ _ _ _ => by exact pts_nil) (fun _ _ _ _ _ => by exact (pe_lst (pa_cons (pv 7) pa_nil))))))
      (pss_cons (ps_for PassesOwn.never rfl (pi_range1 (by rfl) B.range (pa_cons (pe_op op_sub (pe_callB call_len_seq (by rfl) B.len PySem.boot_len (pa_cons (pv 0) pa_nil)) pe_int) pa_nil)) (pg_name (i := 3) sc_sums_and_ways.nd rfl (Or.inl rfl)) (pss_one (ps_for PassesOwn.never rfl (pi_range1 (by rfl) B.range (pa_cons (pe_callB call_len_seq (by rfl) B.len PySem.boot_len (pa_cons (pv 0) pa_nil)) pa_nil)) (pg_name (i := 4) sc_sums_and_ways.nd rfl (Or.inl rfl)) (pss_one (ps_for PassesOwn.never rfl (pi_range1 (by rfl) B.range (pa_cons (pe_op op_sub (pe_callB call_len_seq (by rfl) B.len PySem.boot_len (pa_cons (pv 0) pa_nil)) pe_int) pa_nil)) (pg_name (i := 6) sc_sums_and_ways.nd rfl (Or.inl rfl)) (pss_cons (ps_set (i := 8) sc_sums_and_ways.nd rfl (Or.inl rfl) (pe_op op_add (pe_ix ix_list (pe_ix ix_list (pv 1) (pv 4) (fun _ _ => rfl)) (pv 3) (fun _ _ => rfl)) (pe_ix ix_list (pe_ix ix_list (pv 1) (pv 3) (fun _ _ => rfl)) (pv 6) (fun _ _ => rfl))))
      (pss_one (ps_if (pt_cmpR op_lt (pv 8) (pe_ix ix_list (pe_ix ix_list (pv 1) (pv 4) (fun _ _ => rfl)) (pv 6) (fun _ _ => rfl)) (nomark _)) (pss_cons (ps_asg (pv 8) (pg_sub (pe_ix ix_list (pv 1) (pv 4) (fun _ _ => rfl)) (pv 6) set_list))
      (pss_one (ps_asg (pe_op op_cat (pe_ix ix_list (pe_ix ix_list (pv 2) (pv 4) (fun _ _ => rfl)) (pv 3) (fun _ _ => rfl)) (pe_ix ix_list (pe_ix ix_list (pv 2) (pv 3) (fun _ _ => rfl)) (pv 6) (fun _ _ => rfl))) (pg_sub (pe_ix ix_list (pv 2) (pv 4) (fun _ _ => rfl)) (pv 6) set_list)))) pss_nil))))))))
      (pss_one (ps_ret (pe_tup (pa_cons (pv 1) (pa_cons (pv 2) pa_nil))))))))), by
    obtain ⟨r, n, R, rfl, hm, h1, h4, nn, q⟩ := h
    obtain ⟨rs0, hl, hn, hrow⟩ := hm.ex
    have hL : ∀ {H'}, Same H H' → SqL G.K H' r (rs0.map V.ref) := fun e => Or.inl (Or.inl (e _ _ hl))
    have hz : (rs0.map V.ref).length = n + 1 := by rw [List.length_map, hn]
    dsimp only [tSeq, tRet, tRetN, tIfS, tAsg, tDrop, tNext, tNever, tVar, tC, tCons, tNil, tCB, tOp, tTest, tB, tAnd, tOr, tNot, tAndV, tOrV, tNotV, tChain, tTup, tLst, tFld, sFld, tCall, tMeth, tMake, tDGet, tDIn, tDNotIn, sDPut, tDNewK, tSl, tPart, tNoPart, gTup, gCons, gNil, gSub, tBM, tUn]
    dsimp only [sp_look_at_rinses]
    refine ⟨_, rfl, r, n, R, rfl, hm, h1, h4, nn, fun H1 e1 => ?_⟩
    -- sums
    refine ⟨_, rfl, r, rfl, ⟨_, hL e1⟩, fun a ha => lc_it walk_list (fun i H' => ∃ rs, RowsP H1 H' a rs n R i) ⟨[], RowsP.new ha⟩ (fun i H' _ ⟨rs, p⟩ => hL (Evl.Ex.trans e1 p.s)) ?_ ?_⟩
    · rintro i x H2 H3 hi ⟨rs, p⟩ ⟨rfl, hx⟩
      rw [List.getElem?_map] at hx
      obtain ⟨ra, hra, rfl⟩ := Option.map_eq_some_iff.mp hx
      have hz' : i < n + 1 := by rw [← hz]; exact hi
      exact ⟨rfl, ⟨_, rfl, ra, _, rfl, Or.inl (Or.inl (Or.inl ((Evl.Ex.trans e1 p.s) _ _ (hrow i ra hra)))), fun l hl' => ⟨_, by rw [upd_ne (fun e => by rw [← e, p.hs] at hl'; cases hl')]; exact p.hs, by rw [List.length_map, p.ln]; exact small16' (by omega), _, p.step hl'⟩⟩⟩
    rintro H2 ⟨rs, hrs⟩
    rw [hz] at hrs
    have e2 : Same H H2 := Evl.Ex.trans e1 hrs.s
    -- ways
    refine ⟨_, rfl, r, rfl, ⟨_, hL e2⟩, fun b hb => lc_it walk_list (fun i H' => ∃ ws, WaysP H2 H' b ws n i) ⟨[], WaysP.new hb⟩ (fun i H' _ ⟨rs, p⟩ => hL (Evl.Ex.trans e2 p.s)) ?_ ?_⟩
    · rintro i x H3 H4 hi ⟨ws, p⟩ ⟨rfl, hx⟩
      rw [List.getElem?_map] at hx
      obtain ⟨ra, hra, rfl⟩ := Option.map_eq_some_iff.mp hx
      have hz' : i < n + 1 := by rw [← hz]; exact hi
      have hln : (((rowV n R i).length : Int)).toNat = n := by rw [rowV_length]; rfl
      refine ⟨rfl, ⟨_, rfl, ra, _, rfl, Or.inl (Or.inl (Or.inl ((Evl.Ex.trans e2 p.s) _ _ (hrow i ra hra)))), _, rfl, by rw [rowV_length]; omega, by rw [rowV_length]; omega, fun D2 hD2 =>
        lc_it walk_range (fun j H' => ∃ ps : List Addr, Same H4 H' ∧ ps.length = j ∧ H' D2 = some (.lst (ps.map V.ref)) ∧ ∀ p ∈ ps, H4 p = none ∧ p ≠ D2 ∧ ∃ x, H' p = some (.lst [x])) ⟨[], same_new hD2, rfl, upd_same, fun _ m => nomatch m⟩ (fun _ _ _ _ => True.intro) ?_ ?_⟩⟩
      · rintro j x H5 H6 hj ⟨ps, z1, z2, z3, z4⟩ ⟨rfl, rfl⟩
        refine ⟨rfl, ⟨_, rfl, show 1 ≤ sizeLine by decide, fun l hl' => ?_⟩⟩
        have lD : l ≠ D2 := fun e => by rw [e, z3] at hl'; cases hl'
        refine ⟨_, by rw [upd_ne lD.symm]; exact z3, by rw [List.length_map, z2]; exact small16' (by omega), ps ++ [l], ?_, by rw [List.length_append, z2]; rfl, by rw [upd_same, refs_snoc], fun p' m => ?_⟩
        · exact fun q o e => by
            rw [upd_ne (ne_of_none e hD2), upd_ne (ne_of_none (z1 q o e) hl')]
            exact z1 q o e
        · rcases List.mem_append.mp m with m | m
          · obtain ⟨y1, y2, v, y3⟩ := z4 p' m
            exact ⟨y1, y2, v, by rw [upd_ne y2, upd_ne (ne_of_none y3 hl')]; exact y3⟩
          · rw [List.mem_singleton] at m
            subst m
            exact ⟨Evl.fresh_back z1 hl', lD, _, by rw [upd_ne lD, upd_same]⟩
      · rintro H5 ⟨ps, z1, z2, z3, z4⟩
        exact ⟨_, z1 _ _ p.hs, by rw [List.length_map, p.ln]; exact small16' (by omega), _, p.step hD2 z1 z3 (by rw [z2, hln]) z4⟩
    rintro H3 ⟨ws, hws⟩
    rw [hz] at hws
    have sw0 := SW.of hrs hws
    -- the phases
    have len : ∀ {σ : L2.St} {H' : Hp}, σ[0]? = some (some (.ref r)) → Same H H' → Evl.Ev (tCB (rLenSq G.K) (tCons (tVar 0) tNil)) σ H' (.int (n + 1 : Nat)) := fun h e => Evl.ev_is (Evl.ev_len (Evl.ev_var h) (hL e)) (by rw [hz])
    have len1 : ∀ {σ : L2.St} {H' : Hp}, σ[0]? = some (some (.ref r)) → Same H H' → Evl.EvA (tCons (tOp (rI0 fun i j => .int (i - j)) (tCB (rLenSq G.K) (tCons (tVar 0) tNil)) (tC (.int 1))) tNil) σ H' [.int (n : Int)] := fun h e =>
      Evl.ea_cons (Evl.ev_is (Evl.ev_op (len h e) Evl.ev_c Evl.rv_I0) (by congr 1; omega)) Evl.ea_nil
    have cell : ∀ {σ : L2.St} {H' : Hp} {rs ws : List Addr} {D : Mat} {bd : Nat → Nat → Nat} {u v i j : Nat}, SW H1 H' a b rs ws n D bd → σ[1]? = some (some (.ref a)) → σ[u]? = some (some (.int (i : Nat))) → σ[v]? = some (some (.int (j : Nat))) → i < n + 1 → j < n →
        Evl.Ev (tOp (rIxL G.K) (tOp (rIxL G.K) (tVar 1) (tVar u)) (tVar v)) σ H' (.int (D i j)) := fun {σ H' rs ws D bd u v i j} S h0 hu hv hi hj => by
      have hri : i < rs.length := by rw [S.rl]; exact hi
      have gr : rs[i]? = some rs[i] := List.getElem?_eq_getElem hri
      exact Evl.ev_op (Evl.ev_op (Evl.ev_var h0) (Evl.ev_var hu) (Evl.rv_ixL (Or.inl (Or.inl S.hs)) (atI_nat (by rw [List.getElem?_map, gr]; rfl)))) (Evl.ev_var hv) (Evl.rv_ixL (Or.inl (Or.inl (S.row i _ gr))) (atI_nat (rowV_get hj)))
    have e13 : ∀ {H' : Hp} {rs ws : List Addr} {D : Mat} {bd : Nat → Nat → Nat}, SW H1 H' a b rs ws n D bd → Same H H' := fun S => Evl.Ex.trans e1 S.s
    refine Evl.q_forR1 (n := (n : Int)) (len1 rfl (e13 sw0)) (by omega) (fun i σ' H' => (∃ y3 y4 y5 y6 y7 y8, σ' = [some (.ref r), some (.ref a), some (.ref b), y3, y4, y5, y6, y7, y8]) ∧ SW H1 H' a b rs ws n (iter (fwPhase n) i R) (fun _ _ => 2 ^ i))
      (fun H4 e4 => ⟨⟨_, _, _, _, _, _, rfl⟩, sw0.same e4⟩) ?_ ?_
    · rintro i _ H4 hi ⟨⟨y3, y4, y5, y6, y7, y8, rfl⟩, S⟩
      have hi' : i < n := by omega
      refine Evl.s_forR1 (n := ((n + 1 : Nat) : Int)) (Evl.ea_cons (len rfl (e13 S)) Evl.ea_nil) (by omega) (fun g σ' H' => (∃ y4 y5 y6 y7 y8, σ' = [some (.ref r), some (.ref a), some (.ref b), some (.int i), y4, y5, y6, y7, y8]) ∧ SW H1 H' a b rs ws n (iter (fwRow n i) g (iter (fwPhase n) i R)) (bdK i))
        (fun H5 e5 => ⟨⟨_, _, _, _, _, rfl⟩, (S.same e5).wide fun u v => by
          unfold bdK
          split
          · exact Nat.le_refl _
          · exact Nat.pow_le_pow_right (by decide) (Nat.le_succ _)⟩) ?_ ?_
      · rintro g _ H5 hg ⟨⟨z4, z5, z6, z7, z8, rfl⟩, S⟩
        have hg' : g < n + 1 := by omega
        refine Evl.s_forR1 (n := (n : Int)) (len1 rfl (e13 S)) (by omega) (fun l σ' H' => (∃ y5 y6 y7 y8, σ' = [some (.ref r), some (.ref a), some (.ref b), some (.int i), some (.int g), y5, y6, y7, y8]) ∧ SW H1 H' a b rs ws n (iter (fwCell i g) l (iter (fwRow n i) g (iter (fwPhase n) i R))) (bdK i))
          (fun H6 e6 => ⟨⟨_, _, _, _, rfl⟩, S.same e6⟩) ?_ ?_
        · rintro l _ H6 hl6 ⟨⟨x5, x6, x7, x8, rfl⟩, S⟩
          have hl' : l < n := by omega
          have nnD : Nonneg (iter (fwCell i g) l (iter (fwRow n i) g (iter (fwPhase n) i R))) := fwRow_nonneg (n := n) (fwRows_nonneg (fwPh_nonneg nn i) g) l
          revert S nnD
          generalize hD : iter (fwCell i g) l (iter (fwRow n i) g (iter (fwPhase n) i R)) = Dm
          intro S nnD
          have hfin : ∀ {σ' : L2.St} {H' : Hp}, (∃ y5 y6 y7 y8, σ' = [some (.ref r), some (.ref a), some (.ref b), some (.int i), some (.int g), y5, y6, y7, y8]) → SW H1 H' a b rs ws n (fwCell i g l Dm) (bdK i) →
              (∃ y5 y6 y7 y8, σ' = [some (.ref r), some (.ref a), some (.ref b), some (.int i), some (.int g), y5, y6, y7, y8]) ∧ SW H1 H' a b rs ws n (iter (fwCell i g) (l + 1) (iter (fwRow n i) g (iter (fwPhase n) i R))) (bdK i) := fun h1 h2 => ⟨h1, by
            show SW H1 _ a b rs ws n (fwCell i g l (iter (fwCell i g) l (iter (fwRow n i) g (iter (fwPhase n) i R)))) (bdK i)
            rw [hD]
            exact h2⟩
          refine Evl.q_asg (Evl.ev_op (cell S rfl rfl rfl hg' hi') (cell S rfl rfl rfl (by omega) hl') Evl.rv_I0) fun H7 e7 => ?_
          have S7 := S.same e7
          refine Evl.s_when (Evl.et_test (Evl.ev_op (Evl.ev_var rfl) (cell S7 rfl rfl rfl hg' hl') Evl.rv_I0)) (fun hb H8 e8 => ?_) (fun hb H8 e8 => ?_)
          · have S8 := S7.same e8
            have lt : Dm g i + Dm i l < Dm g l := of_decide_eq_true hb
            have ng : g ≠ i := fun e => by subst e; have := nnD g g; omega
            have nl : l ≠ i := fun e => by subst e; have := nnD l l; omega
            have gr : rs[g]? = some (rs[g]'(by rw [S.rl]; exact hg')) := List.getElem?_eq_getElem _
            have gw : ws[g]? = some (ws[g]'(by rw [S.wl]; exact hg')) := List.getElem?_eq_getElem _
            have gi : ws[i]? = some (ws[i]'(by rw [S.wl]; omega)) := List.getElem?_eq_getElem _
            generalize rs[g]'(by rw [S.rl]; exact hg') = rf at gr
            generalize ws[g]'(by rw [S.wl]; exact hg') = wf at gw
            generalize ws[i]'(by rw [S.wl]; omega) = wi at gi
            refine Evl.q_setL (l := rf) (xs := rowV n Dm g) (j := l) (S8.row g rf gr) (Evl.ev_var rfl) (Evl.ev_op (Evl.ev_var rfl) (Evl.ev_var rfl) (Evl.rv_ixL (Or.inl (Or.inl S8.hs)) (atI_nat (by rw [List.getElem?_map, gr]; rfl)))) (Evl.ev_var rfl) (by rw [rowV_length]; exact hl') fun H9 e9 => ?_
            have S9 := S8.same e9
            rw [rowV_set hl']
            have mr : rf ∈ rs := List.mem_of_getElem? gr
            obtain ⟨psg, g1, g2, g3⟩ := S9.way g wf gw
            obtain ⟨psi, i1, i2, i3⟩ := S9.way i wi gi
            have gp : psg[i]? = some (psg[i]'(by rw [g1]; exact hi')) := List.getElem?_eq_getElem _
            have ip : psi[l]? = some (psi[l]'(by rw [i1]; exact hl')) := List.getElem?_eq_getElem _
            generalize psg[i]'(by rw [g1]; exact hi') = p1 at gp
            generalize psi[l]'(by rw [i1]; exact hl') = p2 at ip
            obtain ⟨_, n1, xs, hx1, hx2⟩ := g3 i p1 gp
            obtain ⟨_, n2, zs, hz1, hz2⟩ := i3 l p2 ip
            have hx2' : xs.length ≤ 2 ^ i := by unfold bdK at hx2; rw [if_pos (Or.inr rfl)] at hx2; exact hx2
            have hz2' : zs.length ≤ 2 ^ i := by unfold bdK at hz2; rw [if_pos (Or.inl rfl)] at hz2; exact hz2
            have hpw : 2 ^ i ≤ 2 ^ 4 := Nat.pow_le_pow_right (by decide) (by omega)
            have kp : ∀ {x : Addr} {o : HO}, x ∉ rs → H9 x = some o → (upd H9 rf (.lst (rowV n (setM Dm g l (Dm g i + Dm i l)) g))) x = some o := fun h e => by
              rw [upd_ne (fun z => h (by rw [z]; exact mr))]
              exact e
            have wr : ∀ {x : Addr}, x ∈ ws → x ∉ rs := fun h z => (S.ap _ z).1 h
            have hb' : (upd H9 rf (.lst (rowV n (setM Dm g l (Dm g i + Dm i l)) g))) b = some (.lst (ws.map V.ref)) := kp (fun z => (S.ap _ z).2.2 rfl) S9.hw
            have hwf := kp (wr (List.mem_of_getElem? gw)) g2
            have hwi := kp (wr (List.mem_of_getElem? gi)) i2
            refine s_setLL (l := wf) (xs := psg.map V.ref) (ys := xs ++ zs) (j := l) hwf (el_cat (p := p1) (q := p2) ?_ ?_ (kp n1 hx1) (kp n2 hz1) (by omega)) (fun H10 e10 => ?_) (fun H10 e10 => Evl.ev_var rfl) (by rw [List.length_map, g1]; exact hl') (fun p H10 hp e10 h10 => ?_)
            · exact Evl.ev_op (Evl.ev_op (Evl.ev_var rfl) (Evl.ev_var rfl) (Evl.rv_ixL (Or.inl (Or.inl hb')) (atI_nat (by rw [List.getElem?_map, gw]; rfl)))) (Evl.ev_var rfl) (Evl.rv_ixL (Or.inl (Or.inl hwf)) (atI_nat (by rw [List.getElem?_map, gp]; rfl)))
            · exact Evl.ev_op (Evl.ev_op (Evl.ev_var rfl) (Evl.ev_var rfl) (Evl.rv_ixL (Or.inl (Or.inl hb')) (atI_nat (by rw [List.getElem?_map, gi]; rfl)))) (Evl.ev_var rfl) (Evl.rv_ixL (Or.inl (Or.inl hwi)) (atI_nat (by rw [List.getElem?_map, ip]; rfl)))
            · exact Evl.ev_op (Evl.ev_var rfl) (Evl.ev_var rfl) (Evl.rv_ixL (Or.inl (Or.inl (e10 _ _ hb'))) (atI_nat (by rw [List.getElem?_map, gw]; rfl)))
            · refine hfin ⟨_, _, _, _, rfl⟩ ?_
              unfold fwCell
              rw [if_pos lt]
              refine S9.step hl' gr gw hp e10 h10 g2 ?_
              rw [List.length_append]
              unfold bdK
              rw [if_neg (by rintro (z | z) <;> contradiction), Nat.pow_succ]
              omega
          · have nlt : ¬ Dm g i + Dm i l < Dm g l := of_decide_eq_false hb
            refine hfin ⟨_, _, _, _, rfl⟩ ?_
            unfold fwCell
            rw [if_neg nlt]
            exact S7.same e8
        · rintro _ H6 ⟨⟨x5, x6, x7, x8, rfl⟩, S⟩
          exact ⟨⟨_, _, _, _, _, rfl⟩, by rw [Int.toNat_natCast] at S; exact S⟩
      · rintro _ H5 ⟨⟨z4, z5, z6, z7, z8, rfl⟩, S⟩
        refine ⟨⟨_, _, _, _, _, _, rfl⟩, ?_⟩
        rw [Int.toNat_natCast] at S
        exact S.wide fun u v => by
          show bdK i u v ≤ 2 ^ (i + 1)
          unfold bdK
          split
          · exact Nat.pow_le_pow_right (by decide) (Nat.le_succ _)
          · exact Nat.le_refl _
    · rintro _ H4 ⟨⟨y3, y4, y5, y6, y7, y8, rfl⟩, S⟩
      rw [Int.toNat_natCast] at S
      refine ⟨_, rfl, _, rfl, show 2 ≤ sizeLine by decide, fun t ht => q _ t a b (fun x o e => by rw [upd_ne (ne_of_none (e13 S x o e) ht)]; exact e13 S x o e) upd_same ⟨rs, by rw [upd_ne (ne_of_none S.hs ht)]; exact S.hs, S.rl, fun i r hi => by rw [upd_ne (ne_of_none (S.row i r hi) ht)]; exact S.row i r hi⟩⟩⟩
abbrev sp_least_rinses (G : Ad) : Sp := fun vs H Q _ => ∃ r n R, vs = [.ref r] ∧ MxAt H r n R ∧ 1 ≤ n ∧ n ≤ 4 ∧ Nonneg R ∧ ∀ H' a, Same H H' → MxAt H' a n (fw n R) → Q (.ref a) H'
theorem sc_least_rinses : FnScope ["rinses"] ["rinses"] (defScope sleast_rinses) := ⟨rfl, rfl, rfl, by decide +kernel, rfl, by decide +kernel, by decide +kernel⟩
theorem c_least_rinses (B : Bn mg) (C_sums_and_ways : Ca P w G.K mg base k "sums_and_ways" (sp_sums_and_ways G)) (F : Gd G.K mg "least_rinses" sleast_rinses) : Ca P w G.K mg base (k + 1) "least_rinses" (sp_least_rinses G) :=
  ca_0 F sc_least_rinses (fun _ _ _ _ _ _ us hl => match us, hl with | [_], _ => rfl) (fun vs H Q E h => by obtain ⟨_, _, _, rfl, _⟩ := h; rfl)
  fun f cdv A outer s H vs Q E hr h => ⟨_, /- slots: 0 rinses -/ (pss_one (ps_ret (pe_ix ix_tup (pe_ca C_sums_and_ways hr (pa_cons (pv 0) pa_nil)) pe_int (fun _ _ => rfl)))), by
    obtain ⟨r, n, R, rfl, hm, h1, h4, nn, q⟩ := h
    dsimp only [tSeq, tRet, tRetN, tIfS, tAsg, tDrop, tNext, tNever, tVar, tC, tCons, tNil, tCB, tOp, tTest, tB, tAnd, tOr, tNot, tAndV, tOrV, tNotV, tChain, tTup, tLst, tFld, sFld, tCall, tMeth, tMake, tDGet, tDIn, tDNotIn, sDPut, tDNewK, tSl, tPart, tNoPart, gTup, gCons, gNil, gSub, tBM, tUn]
    dsimp only [sp_sums_and_ways]
    exact ⟨_, rfl, r, n, R, rfl, hm, h1, h4, nn, fun H1 t a b e ht ha => ⟨t, _, _, _, rfl, rfl, Or.inl (Or.inl ht), rfl, q H1 a e ha⟩⟩⟩
end Rw82
/-! refusals: X(), Twice(name). -/
namespace Rw82
open PySem PySem.Spec PyProof.Rows L2
abbrev veBs : List Value := [.type "ValueError", .type "Exception", .type "BaseException", .type "object"]
/-- a refusal without an __init__ of its own -/
structure ExF (G : Ad) (mg : Str → Option Value) (x : Str) : Prop where
  ex : ∃ C : Addr, mg x = some (.ref C) ∧ PySem.W.excIn G.K C veBs "ValueError.__new__" = true ∧ PySem.W.keepIn G.K (.ref C) = true ∧ PySem.W.subIn G.K (.ref C) (.type "BaseException") = some true ∧ PySem.W.typeIn G.K (.ref C) = some (.type "type") ∧ Caught G (.ref C)
section
variable {X : Cx} {G : Ad} {C : Addr} {x : Str} {p p1 p2 pos : Pos}
def tNewX (G : Ad) : L2.St → Hp → XK → Prop := fun _ H Q => ∀ cls, Caught G cls → Q cls none H
/-- X() -/
theorem pmk_own0 (FX : ExF G X.mg x) (hK : X.K = G.K) (hg : Gl X x := by rfl) (hdb : (x == ("__debug__" : Str)) = false := by decide) : PMk X (.Call (.Name x p) [] [] pos) (tNewX G) := by
  intro pins s σ H Q I h
  obtain ⟨C, gC, q, kC, e1, e2, hc⟩ := FX.ex
  rw [← hK] at q kC e1 e2
  refine wpAny_Call_Name_kw (ld_glob I hg gC ?_ hdb)
  refine PySem.W.callWith_K0 I.kIn kC ?_
  show wpAny _ _ (call (.ref C) []) _ _ _
  obtain ⟨bm, N, nm, qn, bs, hdct, sn, sub, ab, col, dd, k0, k1, k2, k3, k5, mN, hC, hN, hni, T⟩ := exc_obj I.kIn q
  refine wpAny_call_exc_subT F.excBase_ValueError T hC hN hni (fun h' e hm => ?_) (by show 0 ≤ sizeLine; exact Nat.zero_le _)
  exact mk_of I hm (raises_own e1 e2) (h _ hc) (I.hok.gone hm.new)
/-- raise X() -/
theorem ps_raise0 {E : XK} (tk : Takes X (fun cls d _ H => E cls d H)) (hc : X.calm = true) (FX : ExF G X.mg x) (hK : X.K = G.K) (hg : Gl X x := by rfl) (hdb : (x == ("__debug__" : Str)) = false := by decide) :
    PS X (.Raise (some (.Call (.Name x p) [] [] pos)) none p1) (fun _ _ H => ∀ cls, Caught G cls → E cls none H) := ps_raise hc tk (pmk_own0 FX hK hg hdb)
/-- what the written part says of RinseError as a thing that is read -/
structure ReF (G : Ad) (mg : Str → Option Value) : Prop where
  g : mg "RinseError" = some (.ref G.CR)
  sp : PySem.W.specialIn G.K (.ref G.CR) "__getattribute__" = some (some (.builtin "type.__getattribute__"))
  ty : PySem.W.typeIn G.K (.ref G.CR) = some (.type "type")
  rd : PySem.W.readsIn G.K G.CR (.type "type") = true
  ini : PySem.W.findCls G.K (.ref G.CR) (.type "type") "__init__" = some (.val (.builtin "ValueError.__init__"))
/-- RinseError.__init__(self, ..): ValueError's -/
theorem pe_reinit {ta : TA} {e : Expr} {es : List Expr} {pl : Sem Bool} (FX : ReF G X.mg) (hK : X.K = G.K) (ha : PA X (e :: es) ta) (hg : Gl X "RinseError" := by rfl)
    (hc : eval (.Call (.Attribute (.Name "RinseError" p1) "__init__" p2) (e :: es) [] pos) X.env = (do
      let ov ← eval (.Name "RinseError" p1) X.env
      standAt p2.atName
      let (g, first) ← holding [ov] (getMethod ov "__init__" pl)
      callWith pos g first (backTo pos (starEach (e :: es) X.env)) (backToKw pos (keywordEach [] X.env))) := by rfl)
    (he : starEach (e :: es) X.env = (false, eval e X.env) :: starEach es X.env := by rfl) (hpl : (backTo pos (starEach es X.env)).any (·.1) = false := by rfl) :
    PE X (.Call (.Attribute (.Name "RinseError" p1) "__init__" p2) (e :: es) [] pos) (tVeI X.K ta) := by
  refine ⟨fun pins s σ H Q I h => ?_⟩
  refine PySem.W.methodCall_KW (ld_glob I hg FX.g ?_ (by decide)) hc
  obtain ⟨m, fr⟩ := I.fr
  have ki := I.ok.mod.kin
  rw [hK] at ki
  refine PySem.W.method_of_cls fr ki FX.sp (PySem.W.cls_val fr ki FX.ty FX.rd FX.ini (by decide +kernel) ?_)
  show wpAny _ _ (callWith pos (Value.builtin "ValueError.__init__") [] (backTo pos (starEach (e :: es) X.env)) []) _ _ _
  refine PyProof.Rows.callWith_method1 (thn (ha.run pos pins _ σ H _ (I.tok _) h) fun us s1 ⟨vs, H1, I1, r1, a, C, ws, ev, hl, T, ea, q⟩ => ?_) he hpl
  subst ev
  cases r1 with
  | @cons _ u0 _ ur ra rw' =>
    obtain rfl : u0 = Value.ref a := ra
    have hlen : ur.length ≤ sizeLine := by
      rw [← Paired.length rw', sizeLine_eq]
      omega
    exact oinit_ok T I1 ea hlen fun s' J => ⟨.non, H1, J, rfl, q⟩
end
/-- what the written part says of Twice -/
structure TwF (G : Ad) (CT fI : Addr) : Prop where
  T : OexC G.K CT
  ini : PySem.W.findIn G.K (.ref CT) "__init__" = some (some (.ref fI))
  tI : PySem.W.typeIn G.K (.ref fI) = some (.type "function")
  no : PySem.W.findIn G.K (.ref CT) "name" = some none
  ca : Caught G (.ref CT)
abbrev sp_Twice_init (G : Ad) (CT : Addr) : Sp := fun vs H Q _ => ∃ a v, vs = [.ref a, v] ∧ H a = some (exo a CT none) ∧ OexC G.K CT ∧ PySem.W.findIn G.K (.ref CT) "name" = some none ∧ ∀ dx, H dx = none → dx ≠ a → Q .non (upd (upd H dx (exd dx [("name", v)])) a (exo a CT (some dx)))
/-- Twice, as it is made -/
structure Tw (P : Program) (w : World) (G : Ad) (mg : Str → Option Value) (base : Heap) (k : Nat) (CT : Addr) : Prop where
  ex : ∃ (fI : Addr) (fd : FuncData) (ps : List Str), mg "Twice" = some (.ref CT) ∧ TwF G CT fI ∧ FnOk P w G.K mg base (L2.CX P w) k fI fd ps (sp_Twice_init G CT) ∧ Binds G.K fd ps []
theorem sc_Twice_init : FnScope ["self", "name"] ["self", "name"] (defScope sTwice___init__) := ⟨rfl, rfl, rfl, by decide +kernel, rfl, by decide +kernel, by decide +kernel⟩
theorem tw_ok {P : Program} {w : World} {G : Ad} {mg : Str → Option Value} {base : Heap} {k : Nat} {CT fI : Addr} {fd : FuncData} (R : ReF G mg) (hm : mg "Twice" = some (.ref CT)) (T : TwF G CT fI)
    (F : FunD G.K "__init__" "Twice.__init__" (defArgs sTwice___init__) (defBody sTwice___init__) (defScope sTwice___init__) [] [] fI fd) : Tw P w G mg base (k + 1) CT :=
  ⟨fI, fd, _, hm, T, fn_0 F sc_Twice_init (fun vs H Q E h => by obtain ⟨_, _, rfl, _⟩ := h; rfl)
    (fun f cdv A outer s H vs Q E hr h => ⟨_, (pss_cons (ps_expr (pe_reinit R rfl (pa_cons (pv 0) (pa_cons pe_str pa_nil)))) (pss_one (ps_ost (pv 0) (pv 1)))), by
      obtain ⟨a, v, rfl, ha, hT, hno, q⟩ := h
      dsimp only [tSeq, tRet, tRetN, tIfS, tAsg, tDrop, tNext, tNever, tVar, tC, tCons, tNil, tCB, tOp, tTest, tB, tAnd, tOr, tNot, tAndV, tOrV, tNotV, tChain, tTup, tLst, tFld, sFld, tCall, tMeth, tMake, tDGet, tDIn, tDNotIn, sDPut, tDNewK, tSl, tPart, tNoPart, gTup, gCons, gNil, gSub, tBM, tUn]
      dsimp only [tVeI]
      refine ⟨_, rfl, a, CT, _, rfl, ?_, hT, ha, ?_⟩
      · show 1 ≤ 1000; decide
      · exact ⟨_, rfl, _, rfl, a, CT, rfl, hT, hno, Or.inl ⟨ha, fun dx h1 h2 => q dx h1 h2⟩⟩⟩), F.bindsN (fun _ _ _ _ _ _ us hl => match us, hl with | [_, _], _ => rfl)⟩
def tTwice (G : Ad) (CT : Addr) (E : XK) (te : TE) : TS := fun _ σ H => tMkO CT (sp_Twice_init G CT) [] (tCons te tNil) σ H fun cls d H' => E cls d H'
section
variable {X : Cx} {G : Ad} {k : Nat} {p pos p1 : Pos} {e : Expr} {te : TE} {CT : Addr}
/-- raise Twice(e) -/
theorem ps_raiseT {E : XK} (tk : Takes X (fun cls d _ H => E cls d H)) (hc : X.calm = true) (W : Tw X.prog X.w G X.mg X.base k CT) (hr : Room (k + 1) X.A) (hx : Passes (L2.CX X.prog X.w) X (fun _ _ _ => False)) (hK : X.K = G.K) (he : PE X e te) (hg : Gl X "Twice" := by rfl)
    (hs : starEach (e :: []) X.env = (false, eval e X.env) :: starEach [] X.env := by rfl) (hpl : (backTo pos (starEach [] X.env)).any (·.1) = false := by rfl) :
    PS X (.Raise (some (.Call (.Name "Twice" p) [e] [] pos)) none p1) (tTwice G CT E te) := by
  obtain ⟨fI, fd, ps, hm, T, F, b⟩ := W.ex
  obtain ⟨T, ini, tI, no, ca⟩ := T
  exact ps_raise hc tk (pmk_oex (X := X) (k := k) (sp := sp_Twice_init G CT) (dvs := []) (by rw [hK]; exact T) (by rw [hK]; exact ini) (by rw [hK]; exact tI) (by rw [hK]; exact F) hr (by rw [hK]; exact b) .nil hx hg hm (pa_cons he pa_nil hs) (by decide) hs hpl)
theorem mk_twice {P : Program} {w : World} {mg : Str → Option Value} {base : Heap} {E : XK} {x : V} {H1 : Hp} (W : Tw P w G mg base k CT) (h : ∀ cls d H', Caught G cls → Same H1 H' → E cls d H') : [x].length ≤ 1000 ∧ ∀ a, H1 a = none → sp_Twice_init G CT (.ref a :: ([x] ++ [])) (upd H1 a (exo a CT none))
    (fun v H2 => v = .non ∧ ∃ (d : Addr) (fs : List (Str × V)), H2 a = some (exo a CT (some d)) ∧ H2 d = some (exd d fs) ∧ H1 d = none ∧ E (.ref CT) (some d) (upd (del H2 a) d (.xd fs))) (fun _ _ _ => False) := by
  obtain ⟨fI, fd, ps, hm, T, F, b⟩ := W.ex
  refine ⟨show 1 ≤ 1000 by decide, fun a ha => ⟨a, x, rfl, upd_same, T.T, T.no, fun dx h1 h2 => ⟨rfl, dx, [("name", x)], upd_same, ?_, ?_, h _ _ _ T.ca ?_⟩⟩⟩
  · rw [upd_ne h2, upd_same]
  · rw [upd_ne h2] at h1; exact h1
  · intro b o e
    have ba : b ≠ a := ne_of_none e ha
    have bd : b ≠ dx := fun z => by
      rw [upd_ne h2, ← z, e] at h1
      cases h1
    rw [upd_ne bd, del_ne ba, upd_ne ba, upd_ne bd, upd_ne ba]
    exact e
end
end Rw82
/-! Rules the layer lacks: a dict's keys, ==, != with [] and {}, max with a default, text times number. -/
namespace Rw82
open PySem PySem.Spec PyProof.Rows L2
section
variable {X : Cx}
theorem one_of {x : V} {us : List Value} (r : Vals [x] us) : ∃ u, us = [u] ∧ RelV x u := by
  cases r with
  | cons r t =>
    cases t
    exact ⟨_, rfl, r⟩
/-- at p: the view of a dict's keys -/
def viewO (p a : Addr) : HO := .ext fun h => PySem.W.KdlKeysView h p a
theorem viewO_ok {P : Program} {w : World} {H : Hp} {h : Heap} {p a : Addr} (e : h.get? p = some { cls := .type "dict_keys", data := .fields #[.ref a] }) : ObjOk P w H h p (viewO p a) :=
  ⟨⟨_, e, rfl, rfl⟩, ⟨_, e⟩, fun h1 h2 z k => by
    obtain ⟨o, h1, h2, h3⟩ := z
    exact ⟨o, k o h1, h2, h3⟩⟩
abbrev rKeys : V → List V → Hp → VK → Prop := fun x xs H Q => ∃ a kvs, x = .ref a ∧ xs = [] ∧ Rd H a (.dK kvs) ∧ ∀ p, H p = none → Q (.ref p) (upd H p (viewO p a))
theorem mt_keys : MtR X "dict.keys" rKeys := by
  intro pins s σ H x xs v us Q I rx r h
  obtain ⟨a, kvs, rfl, rfl, hd, q⟩ := h
  cases rx
  cases r
  obtain ⟨z, lo, vs, rel, dd⟩ := dk_rd I.hok hd
  refine call_meetsIn PySem.F.slot_dict_keys dd.typeIs PySem.F.entry_dict_keys (PySem.F.args_dict_keys_1 _) (PySem.W.kdl_meets_keys (mixKind X.prog X.w) a lo) ⟨⟨vs, dd⟩, ?_⟩
  exact ⟨.ref s.heap.objs.size, _, I.laid (t' := s.toks) (fun b o e => Heap.get?_push_of_some _ e) (Nat.le_refl _) (viewO_ok (Heap.get?_push_size _ rfl)), rfl, q _ (I.hok.fresh (Nat.le_refl _))⟩
abbrev rSortK : List V → Hp → VK → Prop := fun xs H Q => ∃ (p a : Addr) (kvs : List (Key × V)) (ks : List Str), xs = [.ref p] ∧ H p = some (viewO p a) ∧ Rd H a (.dK kvs) ∧ kvs.map (·.1) = ks.map Sum.inr ∧ ks.length < 64 ∧
  ∀ ys q, ys.Perm ks → sortedS ys = true → H q = none → Q (.ref q) (upd H q (.lst (ys.map V.str)))
/-- sorted(d.keys()), all of them texts -/
theorem call_sortK (hc : X.calm = true) : CallR X (.builtin "sorted") rSortK := by
  intro pins s σ H xs us Q I r q
  obtain ⟨p, a, kvs, ks, rfl, hp, hd, hks, h64, q⟩ := q
  obtain ⟨u, rfl, rx⟩ := one_of r
  cases rx
  have hv : PySem.W.KdlKeysView s.heap p a := (show ObjOk X.prog X.w H s.heap p (.ext fun h => PySem.W.KdlKeysView h p a) from I.hok p _ hp).1
  obtain ⟨z, lo, vs, rel, dd⟩ := dk_rd I.hok hd
  obtain ⟨ep, hat⟩ := dd.dictAt
  have hkeys : vs.map (·.1) = ks.map Sum.inr := rel.keys.symm.trans hks
  have hl : vs.length = ks.length := by have e := congrArg List.length hkeys; rw [List.length_map, List.length_map] at e; exact e
  have h16 : vs.length ≤ sizeLine := by rw [hl, sizeLine_eq]; omega
  refine Calls.call_function_entry PyProof.Rows.kind_sorted PyProof.Rows.plain_sorted PyProof.Rows.entry_sorted (PyProof.Rows.args_sorted1 _) ?_
  unfold Builtin.«sorted»
  refine wpAny_bind (m := checkCount "sorted" 1 1 _) (wpAny_pure ?_)
  refine wpAny_bind (PySem.W.kdu_collect (A := X.A.in1) (PySem.W.kdl_keys (r := p) (knd := mixKind X.prog X.w) (kvs := vs) (ep := ep)) (I.ok.hd hc) ⟨hv, hat⟩ h16 fun h' tk acc hk hacc => ?_)
  have hal : acc.toList.length = ks.length := by rw [Array.length_toList, hacc.1, hl]
  have hS : StrsAre acc.toList ks := strs_at hal fun j v e => by
    obtain ⟨k, x, e1, e2⟩ := hacc.2 j v (by rw [← Array.getElem?_toList]; exact e)
    have e3 : (vs.map (·.1))[j]? = some k := by rw [List.getElem?_map, e1]; all_goals rfl
    rw [hkeys, List.getElem?_map] at e3
    cases e4 : ks[j]? with
    | none => rw [e4] at e3; cases e3
    | some y =>
      rw [e4] at e3
      have e5 : Sum.inr y = k := Option.some.inj e3
      subst e5
      obtain ⟨t, ev⟩ := Value.isStrOf_shape (x := y) (v := v) e2
      exact ⟨y, t, rfl, ev⟩
  have I1 : Inv X pins σ H { s with heap := h', toks := tk } := I.kept hk
  refine wpAny_bind (wpAny_newList ?_ (by rw [hal, sizeLine_eq]; omega))
  have hoL : (h'.push (seqObj "list" acc.toList.toArray 0)).get? h'.objs.size = some (seqObj "list" acc.toList.toArray 0) := Heap.get?_push_size _ rfl
  show wpAny _ _ _ _ _ { s with heap := h'.push (seqObj "list" acc.toList.toArray 0), toks := tk }
  refine wpAny_bind (wpAny_holding (wpAny_call_entry PyProof.Rows.slot_list_sort ⟨_, hoL, rfl⟩ PyProof.Rows.entry_list_sort
    (list_sort_treeK strKind_oneLt (s := { s with heap := h'.push (seqObj "list" acc.toList.toArray 0), toks := tk }) hoL hS.keysOf (fun v₁ v₂ rest e => keyKind_strs (by rw [← e]; exact hS)) (by rw [hal]; exact h64) fun st' hp hs => ⟨_, rfl, ?_⟩)
    (PyProof.Rows.args_list_sort _)))
  obtain ⟨ys, g1, g2, g3⟩ := sorted_out_str hS hp hs
  obtain ⟨e', he'⟩ := PyProof.Rows.sortedHeap_at (vs := acc.toList) (out := (arrOf st').map (·.2)) hoL
  have hlen : (ys.map V.str).length ≤ sizeLine := by
    rw [List.length_map, g2.length_eq]
    exact Nat.le_trans (Nat.le_of_lt h64) (by decide)
  refine wpAny_pure ⟨_, rfl, .ref h'.objs.size, upd H h'.objs.size (.lst (ys.map V.str)), I1.laid (t' := tk) (fun b u e => ?_) (Nat.le_refl _)
    (show ObjOk X.prog X.w _ _ _ (.lst (ys.map V.str)) from ⟨hlen, ((arrOf st').map (·.2)).toList, e', vals_of_strs g1, by rw [Array.toArray_toList]; exact he'⟩), rfl, q ys _ g2 g3 (I1.hok.fresh (Nat.le_refl _))⟩
  have hb : b < h'.objs.size := Heap.lt_size e
  rw [PyProof.Rows.sortedHeap_old (Nat.ne_of_lt hb) (by rw [size_push']; exact Nat.lt_succ_of_lt hb)]
  exact Heap.get?_push_of_some _ e
/-! ### == [], != [], != {} -/
abbrev rEqNil (K : PySem.W.Frag) : R2 := fun x y H Q => ∃ a b xs, x = .ref a ∧ y = .ref b ∧ SqL K H a xs ∧ SqL K H b [] ∧ Q (.bl xs.isEmpty) H
abbrev rNeNil (K : PySem.W.Frag) : R2 := fun x y H Q => ∃ a b xs, x = .ref a ∧ y = .ref b ∧ SqL K H a xs ∧ SqL K H b [] ∧ Q (.bl (!xs.isEmpty)) H
theorem op_eqNil (hu : X.A.units < cLine) : OpR X (compareOp .Eq) (rEqNil X.K) := by
  intro pins s σ H x y v u Q I rx ry h
  obtain ⟨a, b, xs, rfl, rfl, ha, hb, q⟩ := h
  cases rx; cases ry
  obtain ⟨is, rv, p, hz⟩ := I.list ha
  obtain ⟨js, rw', p', hz'⟩ := I.list hb
  cases rw'
  cases rv with
  | nil => exact SeqAt.RcAt.lists (e := fun _ => true) p.isList p'.isList rfl hu (fun j h1 h2 => absurd h1 (by simp)) X.prog X.w _ _ ⟨.bl true, H, I, rfl, q⟩
  | cons r t => exact SeqAt.RcAt.lists_lengths p.isList p'.isList (by simp) hu X.prog X.w _ _ ⟨.bl false, H, I, rfl, q⟩
theorem op_neNil (hu : X.A.units < cLine) : OpR X (compareOp .NotEq) (rNeNil X.K) := by
  intro pins s σ H x y v u Q I rx ry h
  obtain ⟨a, b, xs, rfl, rfl, ha, hb, q⟩ := h
  cases rx; cases ry
  obtain ⟨is, rv, p, hz⟩ := I.list ha
  obtain ⟨js, rw', p', hz'⟩ := I.list hb
  cases rw'
  cases rv with
  | nil => exact SeqAt.RcNeAt.lists (e := fun _ => true) p.isList p'.isList rfl hu (fun j h1 h2 => absurd h1 (by simp)) X.prog X.w _ _ ⟨.bl false, H, I, rfl, q⟩
  | cons r t => exact SeqAt.RcNeAt.lists_lengths p.isList p'.isList (by simp) hu X.prog X.w _ _ ⟨.bl true, H, I, rfl, q⟩
abbrev rNeD0 : R2 := fun x y H Q => ∃ a b ks, x = .ref a ∧ y = .ref b ∧ H a = some (.dK ks) ∧ H b = some (.dK []) ∧ Q (.bl (!ks.isEmpty)) H
theorem op_neD0 (hu : X.A.units < cLine) : OpR X (compareOp .NotEq) rNeD0 := by
  intro pins s σ H x y v u Q I rx ry h
  obtain ⟨a, b, ks, rfl, rfl, ea, eb, q⟩ := h
  obtain rfl : v = Value.ref a := rx
  obtain rfl : u = Value.ref b := ry
  obtain ⟨_, ya, va, ra, da⟩ := (show ObjOk X.prog X.w H s.heap a (.dK ks) from I.hok a _ ea)
  obtain ⟨_, yb, vb, rb, db⟩ := (show ObjOk X.prog X.w H s.heap b (.dK []) from I.hok b _ eb)
  cases rb
  refine PySem.W.keq_ne (knd := mixKind X.prog X.w) (r := true) ya yb da db hu (fun e => ?_) ?_
  · have e0 : va = [] := List.eq_nil_of_length_eq_zero e
    subst e0
    exact .nil
  · cases ra with
    | nil => exact ⟨.bl false, H, I, rfl, q⟩
    | cons r t => exact ⟨.bl true, H, I, rfl, q⟩
/-! ### text times number -/
abbrev rMulSI : R2 := fun x y H Q => ∃ z n, x = .str z ∧ y = .int n ∧ z.length ≤ 16 ∧ 0 ≤ n ∧ n ≤ 1000 ∧ Q (.str (Txt.mul z n)) H
theorem op_mulSI : OpR X (binaryOp .Mult) rMulSI := by
  intro pins s σ H x y v u Q I rx ry h
  obtain ⟨z, n, rfl, rfl, hz, h0, hn, q⟩ := h
  obtain ⟨t, rfl⟩ := rx
  obtain ⟨t', rfl⟩ := ry
  exact SB.mul (mulOk_of 16 1000 hz hn (by omega) (by decide) (by decide)) fun t2 k => ⟨.str _, H, I.tok _, ⟨_, rfl⟩, q⟩
/-! ### max(xs, default=d) -/
abbrev rMaxD (K : PySem.W.Frag) : List V → List V → Hp → VK → Prop := fun xs zs H Q => ∃ (a : Addr) (ns : List Int) (d : V), xs = [.ref a] ∧ zs = [d] ∧ SqL K H a (ns.map V.int) ∧ (ns = [] → Q d H) ∧ ∀ n r, ns = n :: r → Q (.int (r.foldl max n)) H
theorem reads_ints {h : Heap} : ∀ (ns : List Int) {us : List Value}, Vals (ns.map V.int) us → ReadsAll h us (ns.map .int) []
  | [], us, r => by
    cases r
    exact .nil
  | n :: ns, us, r => by
    cases r with
    | cons r t =>
      obtain ⟨tk, rfl⟩ := r
      exact .cons (as := []) (bs := []) (.int n tk) (reads_ints ns t)
theorem depth_ints : ∀ ns : List Int, PyData.depthAll (ns.map .int) ≤ 1
  | [] => Nat.zero_le _
  | n :: ns => Nat.max_le.mpr ⟨Nat.zero_le 1, depth_ints ns⟩
theorem alike_intsAll (ns : List Int) : PySem.W.AlikeAll (ns.map .int) := by
  refine ⟨fun x hx y hy => ?_, fun x hx => ?_⟩
  · obtain ⟨a, _, rfl⟩ := List.mem_map.mp hx
    obtain ⟨b, _, rfl⟩ := List.mem_map.mp hy
    rfl
  · obtain ⟨a, _, rfl⟩ := List.mem_map.mp hx
    exact fun z => nomatch z
theorem cr_maxD (hc : X.calm = true) (hu : X.A.units + 64 < cLine) : CallRK X (.builtin "max") ["default"] (rMaxD X.K) := by
  intro pins s σ H xs zs us ws Q I r rz h
  obtain ⟨a, ns, d, rfl, rfl, hs, q0, q1⟩ := h
  obtain ⟨u, rfl, ru⟩ := one_of r
  obtain ⟨v, rfl, rv⟩ := one_of rz
  cases ru
  obtain ⟨its, ri, pl, hz⟩ := I.list hs
  show wpAny _ _ (call (.builtin "max") [.ref a] [(Str.ofString "default", v)]) _ _ _
  have hd := depth_ints ns
  refine PySem.W.max_list_default (I.ok.hd hc) pl.isList (reads_ints ns ri) (alike_intsAll ns) (by omega) (fun e h' tk k => ?_) (fun y ys i v' h' tk bs e1 e2 e3 k => ?_)
  · exact ⟨d, H, I.kept (t' := tk) k, rv, q0 (List.map_eq_nil_iff.mp e)⟩
  · cases ns with
    | nil => cases e1
    | cons n r =>
      injection e1 with f1 f2
      subst f1 f2
      rw [PySem.W.maxD_ints] at e3
      cases e3
      exact ⟨.int _, H, I.kept (t' := tk) k, ⟨_, rfl⟩, q1 n r rfl⟩
end
end Rw82
/-! Small steps of evaluation. -/
namespace Rw82
open PySem PySem.Spec PyProof.Rows L2
section
variable {K : PySem.W.Frag} {σ : L2.St} {H : Hp} {ta tb td ty : TE} {v x : V} {a d C dx : Addr} {fs : List (Str × V)} {kvs : List (Key × V)}
theorem ev_fld {f : Str} (ha : Evl.Ev ta σ H (.ref a)) (h : H a = some (.ins C dx fs)) (c : Cls K C) (n : NoAttr K C f) (l : fs.lookup f = some v) : Evl.Ev (tFld K ta f) σ H v := fun H1 e Q q =>
  ha H1 e _ fun H2 e2 => ⟨a, C, dx, fs, v, rfl, e2 _ _ (e _ _ h), c, n, l, q H2 e2⟩
theorem ev_dget {k : Key} (hd : Evl.Ev td σ H (.ref d)) (hy : Evl.Ev ty σ H (kV k)) (h : H d = some (.dK kvs)) (l : valV kvs k = some v) : Evl.Ev (tDGet td ty) σ H v := fun H1 e Q q =>
  hd H1 e _ fun H2 e2 => hy H2 (Evl.Ex.trans e e2) _ fun H3 e3 => ⟨d, v, rfl, by rw [← l]; exact DGet.k (e3 _ _ (e2 _ _ (e _ _ h))), q H3 (Evl.Ex.trans e2 e3)⟩
theorem ev_ixT {xs : List V} {i : Int} (ha : Evl.Ev ta σ H (.ref a)) (hb : Evl.Ev tb σ H (.int i)) (h : H a = some (.tup xs)) (l : atI xs i = some v) : Evl.Ev (tOp (rIxT K) ta tb) σ H v :=
  Evl.ev_op ha hb (Evl.rv_ixT (Or.inl (Or.inl h)) l)
theorem ev_ixL {xs : List V} {i : Int} (ha : Evl.Ev ta σ H (.ref a)) (hb : Evl.Ev tb σ H (.int i)) (h : H a = some (.lst xs)) (l : atI xs i = some v) : Evl.Ev (tOp (rIxL K) ta tb) σ H v :=
  Evl.ev_op ha hb (Evl.rv_ixL (Or.inl (Or.inl h)) l)
theorem ev_chain {r r' : R2} {tc : TE} {x y z : V} {b c : Bool} (ha : Evl.Ev ta σ H x) (hb : Evl.Ev tb σ H y) (h1 : Evl.RV r x y H (.bl b)) (hc : Evl.Ev tc σ H z) (h2 : Evl.RV r' y z H (.bl c)) : Evl.Ev (tChain r r' ta tb tc) σ H (.bl (b && c)) := fun H1 e Q q =>
  ha H1 e _ fun H2 e2 => hb H2 (Evl.Ex.trans e e2) _ fun H3 e3 => h1 H3 (Evl.Ex.trans (Evl.Ex.trans e e2) e3) _ fun H4 e4 => ⟨b, rfl, by
    have e14 := Evl.Ex.trans (Evl.Ex.trans e2 e3) e4
    cases b with
    | true =>
      show tc σ H4 _
      exact hc H4 (Evl.Ex.trans e e14) _ fun H5 e5 => h2 H5 (Evl.Ex.trans (Evl.Ex.trans e e14) e5) _ fun H6 e6 => q H6 (Evl.Ex.trans (Evl.Ex.trans e14 e5) e6)
    | false =>
      show Q (.bl false) H4
      exact q H4 e14⟩
theorem rv_lt {i j : Int} : Evl.RV (rI0 fun i j => .bl (decide (i < j))) (.int i) (.int j) H (.bl (decide (i < j))) := Evl.rv_I0
theorem rv_le {i j : Int} : Evl.RV (rI0 fun i j => .bl (decide (i ≤ j))) (.int i) (.int j) H (.bl (decide (i ≤ j))) := Evl.rv_I0
theorem rv_gt {i j : Int} : Evl.RV (rI0 fun i j => .bl (decide (j < i))) (.int i) (.int j) H (.bl (decide (j < i))) := Evl.rv_I0
theorem rv_ge {i j : Int} : Evl.RV (rI0 fun i j => .bl (decide (j ≤ i))) (.int i) (.int j) H (.bl (decide (j ≤ i))) := Evl.rv_I0
theorem given_l {α : Type} (p : α → Bool) (g : α → V) (d : α) : ∀ (l : List α), Evl.given l.length (fun i => p (l.getD i d)) (fun i => g (l.getD i d)) = (l.filter p).map g := by
  intro l
  unfold Evl.given
  suffices h : ∀ n, n ≤ l.length → ((List.range n).filter fun i => p (l.getD i d)).map (fun i => g (l.getD i d)) = ((l.take n).filter p).map g by
    rw [h _ (Nat.le_refl _), List.take_length]
  intro n
  induction n with
  | zero => intro _; rfl
  | succ n ih =>
    intro hn
    have hg : l[n]? = some (l[n]'(by omega)) := List.getElem?_eq_getElem _
    have hd : l.getD n d = l[n]'(by omega) := by rw [List.getD_eq_getElem?_getD, hg]; rfl
    rw [List.range_succ, List.filter_append, List.map_append, ih (by omega), List.take_add_one, List.filter_append, List.map_append, hg]
    congr 1
    cases hp : p (l[n]'(by omega)) with
    | true =>
      rw [List.filter_cons, if_pos (by rw [hd, hp]), List.filter_nil, Option.toList_some, List.filter_cons, if_pos hp, List.filter_nil, List.map_cons, List.map_cons, hd]
      rfl
    | false =>
      rw [List.filter_cons, if_neg (by rw [hd, hp]; decide), List.filter_nil, Option.toList_some, List.filter_cons, if_neg (by rw [hp]; decide), List.filter_nil]
      rfl
theorem given_all {α : Type} (g : α → V) (d : α) (l : List α) : Evl.given l.length (fun _ => true) (fun i => g (l.getD i d)) = l.map g := by
  have h := given_l (fun _ => true) g d l
  rw [h]
  rw [List.filter_eq_self.mpr fun _ _ => rfl]
theorem getD_of {α : Type} {l : List α} {i : Nat} {d x : α} (h : l[i]? = some x) : l.getD i d = x := by rw [List.getD_eq_getElem?_getD, h]; rfl
/-- cloths by names -/
abbrev noCl : Cloth × Addr := (⟨"", 0, 0, 0, 0⟩, 0)
theorem pick_all {cs : List (Cloth × Addr)} : ∀ {ys : List Str}, (∀ y ∈ ys, y ∈ cs.map (·.1.name)) → ∃ cs' : List (Cloth × Addr), cs'.map (·.1.name) = ys ∧ ∀ q ∈ cs', q ∈ cs
  | [], _ => ⟨[], rfl, fun _ m => nomatch m⟩
  | y :: ys, h => by
    obtain ⟨cs', h1, h2⟩ := pick_all (cs := cs) (ys := ys) fun z m => h z (List.mem_cons_of_mem _ m)
    obtain ⟨q, m, e⟩ := List.mem_map.mp (h y (List.mem_cons_self ..))
    refine ⟨q :: cs', ?_, fun z m' => ?_⟩
    · rw [List.map_cons, h1, e]
    · rcases List.mem_cons.mp m' with rfl | m'
      · exact m
      · exact h2 z m'
end
end Rw82
/-! works: cloths and Works' small methods. -/
namespace Rw82
open PySem PySem.Spec PyProof.Rows L2
variable {P : Program} {w : World} {mg : Str → Option Value} {base : Heap} {k : Nat} {G : Ad}
/-- whether it is a cloth in one of n hues -/
def isCl (n : Nat) : List V → Option Bool
  | [.str a, .int h, .int l, .int _, .int t] => some (okName a && (decide (0 ≤ h) && decide (h < n) && (decide (0 < l) && decide (0 < t))))
  | zs => if zs.length = 5 then none else some false
abbrev sp_is_cloth (G : Ad) : Sp := fun vs H Q _ => ∃ t n zs b, vs = [.ref t, .int (n : Nat)] ∧ H t = some (.tup zs) ∧ zs.length ≤ 1000 ∧ (∀ a r, zs = .str a :: r → a.length ≤ 1000) ∧ isCl n zs = some b ∧ ∀ H', Same H H' → Q (.bl b) H'
theorem sc_is_cloth : FnScope ["thing", "hues", "part"] ["thing", "hues"] (defScope sis_cloth) := ⟨rfl, rfl, rfl, by decide +kernel, rfl, by decide +kernel, by decide +kernel⟩
theorem c_is_cloth (B : Bn mg) (C_is_name : Ca P w G.K mg base k "is_name" (sp_is_name G)) (C_is_whole : Ca P w G.K mg base k "is_whole" (sp_is_whole G)) (F : Gd G.K mg "is_cloth" sis_cloth) : Ca P w G.K mg base (k + 1) "is_cloth" (sp_is_cloth G) :=
  ca_0 F sc_is_cloth (fun _ _ _ _ _ _ us hl => match us, hl with | [_, _], _ => rfl) (fun vs H Q E h => by obtain ⟨_, _, _, _, rfl, _⟩ := h; rfl)
  fun f cdv A outer s H vs Q E hr h => ⟨_, /- slots: 0 thing, 1 hues, 2 part -/ (pss_cons (ps_if (PW.pt (pw_or (pt_cmpR op_ne (pe_callB call_len_seq (by rfl) B.len PySem.boot_len (pa_cons (pv 0) pa_nil)) pe_int (nomark _)) (pw_or (pt_not (pt_val (pe_ca C_is_name hr (pa_cons (pe_ix ix_tup (pv 0) pe_int (fun _ _ => rfl)) pa_nil)))) (pw_or1 (pt_not (pt_val (pe_callB (cr_all rfl) (by rfl) B.all (by decide +kernel) (pa_cons (pe_lc (own := [("part", 2)]) (g := (gName 2)) (tt := tYes) (te := (tCall (sp_is_whole G) [] E0 (tCons (tVar 2) tNil))) rfl sc_is_cloth.nd (pi_tup (pe_slice sl_tupA (pv 0) (po_some pe_int) po_none)) (blkOk_by (own := [("part", 2)]) (N := ["thing", "hues", "part"]) (sc := defScope sis_cloth) (by decide +kernel)) (fun _ _ _ _ _ => by exact (pg_name (i := 2) sc_is_cloth.nd rfl (Or.inl rfl))) (fun _ _ _ _ _ => by exact pts_nil) (fun _ _ _ _ _ => by exact (pe_ca C_is_whole hr (pa_cons (pv 2) pa_nil)))) pa_nil)))))))) (pss_one (ps_ret pe_bl)) pss_nil)
      (pss_one (ps_ret (pe_and (pe_chain op_le op_lt pe_int (pe_ix ix_tup (pv 0) pe_int (fun _ _ => rfl)) (pv 1)) (pe_and (pe_cmpR op_gt (pe_ix ix_tup (pv 0) pe_int (fun _ _ => rfl)) pe_int (nomark _)) (pe_one (pe_cmpR op_gt (pe_ix ix_tup (pv 0) pe_int (fun _ _ => rfl)) pe_int (nomark _)))))))), by
    obtain ⟨t, n, zs, b, rfl, ht, hz, hs, hb, q⟩ := h
    have hT : SqT G.K H t zs := Or.inl (Or.inl ht)
    dsimp only [tSeq, tRet, tRetN, tIfS, tAsg, tDrop, tNext, tNever, tVar, tC, tCons, tNil, tCB, tOp, tTest, tB, tAnd, tOr, tNot, tAndV, tOrV, tNotV, tChain, tTup, tLst, tFld, sFld, tCall, tMeth, tMake, tDGet, tDIn, tDNotIn, sDPut, tDNewK, tSl, tPart, tNoPart, gTup, gCons, gNil, gSub, tBM, tUn]
    dsimp only [sp_is_name]
    refine ⟨_, rfl, t, zs, rfl, Or.inr hT, rfl, _, rfl, ?_⟩
    by_cases h5 : zs.length = 5
    · have hzs : ∃ a h l d wt, zs = [.str a, .int h, .int l, .int d, .int wt] := by
        unfold isCl at hb
        split at hb
        · exact ⟨_, _, _, _, _, rfl⟩
        · rw [if_pos h5] at hb
          cases hb
      obtain ⟨a, h, l, d, wt, rfl⟩ := hzs
      cases hb
      show (if (!decide (V.int 5 = V.int 5)) = true then _ else _)
      rw [decide_eq_true rfl]
      refine ⟨_, rfl, t, _, 0, _, rfl, rfl, hT, rfl, a, rfl, hs a _ rfl, fun H1 e1 => ⟨_, rfl, ?_⟩⟩
      have hT1 : SqT G.K H1 t [.str a, .int h, .int l, .int d, .int wt] := Or.inl (Or.inl (e1 _ _ ht))
      cases ha : okName a with
      | false =>
        show Q (.bl false) H1
        have := q H1 e1
        rw [ha] at this
        exact this
      | true =>
        refine ⟨_, rfl, 1, rfl, t, _, rfl, hT1, fun z => absurd z.1 (show ¬ HT.sIx 5 0 (some 1) = 0 by decide), fun _ p hp => ⟨p, rfl, ⟨_, Or.inl (Or.inl upd_same)⟩, fun D hD => ?_⟩⟩
        have e2 : Same H (upd H1 p (.tup (cutV [.str a, .int h, .int l, .int d, .int wt] (some 1) none))) := Evl.Ex.trans e1 (same_new hp)
        refine lc_it (walk_tup (K := G.K) (a := p) (xs := [.int h, .int l, .int d, .int wt])) (fun i H' => Same (upd H1 p (.tup (cutV [.str a, .int h, .int l, .int d, .int wt] (some 1) none))) H' ∧ H' D = some (.lst (List.replicate i (V.bl true)))) ⟨same_new hD, upd_same⟩
          (fun i H' _ z => Or.inl (Or.inl (z.1 _ _ upd_same))) ?_ ?_
        · rintro i x H3 H4 hi ⟨z1, z2⟩ ⟨rfl, hx⟩
          have hw : wholeV x = some true := by
            have m := List.mem_of_getElem? hx
            simp only [List.mem_cons, List.not_mem_nil, or_false] at m
            rcases m with rfl | rfl | rfl | rfl <;> rfl
          refine ⟨rfl, _, rfl, x, true, rfl, hw, _, z2, ?_, same_mut z1 hD, ?_⟩
          · rw [List.length_replicate]
            exact small16' (Nat.lt_of_lt_of_le hi (by show 4 ≤ 100000; decide))
          · rw [upd_same, List.replicate_succ']
        · rintro H3 ⟨z1, z2⟩
          refine ⟨D, [true, true, true, true], rfl, Or.inl (Or.inl z2), true, rfl, ?_⟩
          have e3 : Same H H3 := Evl.Ex.trans e2 z1
          have ix : ∀ {i : Int} {v : V}, atI [V.str a, .int h, .int l, .int d, .int wt] i = some v → Evl.Ev (tOp (rIxT G.K) (tVar 0) (tC (.int i))) [some (.ref t), some (.int n), none] H3 v := fun e => ev_ixT (Evl.ev_var rfl) Evl.ev_c (e3 _ _ ht) e
          refine (Evl.ev_andV (ev_chain (Evl.ev_c (v := .int 0)) (ix (i := 1) (v := .int h) rfl) rv_le (Evl.ev_var (i := 1) (v := .int (n : Nat)) rfl) rv_lt) fun _ => Evl.ev_andV (Evl.ev_op (ix (i := 2) (v := .int l) rfl) (Evl.ev_c (v := .int 0)) rv_gt) fun _ => Evl.ev_op (ix (i := 4) (v := .int wt) rfl) (Evl.ev_c (v := .int 0)) rv_gt) H3 (Evl.Ex.refl _) Q fun H4 e4 => ?_
          have := q H4 (Evl.Ex.trans e3 e4)
          rw [ha] at this
          exact this
    · have e0 : (V.int (zs.length : Int)) ≠ V.int 5 := fun z => h5 (by injection z with z; omega)
      rw [decide_eq_false e0]
      have e1 : isCl n zs = some false := by
        unfold isCl
        split
        · exact absurd rfl h5
        · rw [if_neg h5]
      rw [e1] at hb
      cases hb
      exact q H (fun _ _ x => x)⟩

abbrev spW_hues (G : Ad) : Sp := fun vs H Q _ => ∃ p dx fs ts n R, vs = [.ref p] ∧ H p = some (.ins G.CW dx fs) ∧ fs.lookup ("told" : Str) = some (V.ref ts) ∧ MxAt H ts n R ∧ Q (.int (n : Nat)) H
theorem sc_Works_hues : FnScope ["self"] ["self"] (defScope sWorks_hues) := ⟨rfl, rfl, rfl, by decide +kernel, rfl, by decide +kernel, by decide +kernel⟩
theorem mW_hues (B : Bn mg) (FC : Fc G mg) (F : Md G.K G.CW "hues" "Works.hues" sWorks_hues) : Me P w G.K mg base (k + 1) G.CW "hues" (spW_hues G) :=
  me_0 F sc_Works_hues (fun _ _ _ _ _ _ us hl => match us, hl with | [_], _ => rfl) (fun vs H Q E h => by obtain ⟨_, _, _, _, _, _, rfl, _⟩ := h; rfl)
  fun f cdv A outer s H vs Q E hr h => ⟨_, /- slots: 0 self -/ (pss_one (ps_ret (pe_op op_sub (pe_callB call_len_seq (by rfl) B.len PySem.boot_len (pa_cons (pe_fld (pv 0) rfl) pa_nil)) pe_int))), by
    obtain ⟨p, dx, fs, ts, n, R, rfl, hp, hf, hm, q⟩ := h
    obtain ⟨rs, h1, h2, h3⟩ := hm.ex
    dsimp only [tSeq, tRet, tRetN, tIfS, tAsg, tDrop, tNext, tNever, tVar, tC, tCons, tNil, tCB, tOp, tTest, tB, tAnd, tOr, tNot, tAndV, tOrV, tNotV, tChain, tTup, tLst, tFld, sFld, tCall, tMeth, tMake, tDGet, tDIn, tDNotIn, sDPut, tDNewK, tSl, tPart, tNoPart, gTup, gCons, gNil, gSub, tBM, tUn]
    refine ⟨_, rfl, p, _, dx, fs, _, rfl, hp, FC.cW, FC.wT, hf, ts, _, rfl, Or.inl (Or.inl (Or.inl h1)), _, _, rfl, rfl, ?_⟩
    dsimp only
    rw [List.length_map, h2, show ((n + 1 : Nat) : Int) - 1 = n by omega]
    exact q⟩
abbrev spW_rinses (G : Ad) : Sp := fun vs H Q _ => ∃ p W, vs = [.ref p] ∧ WkAt G H p W ∧ ∀ H' a, Same H H' → MxAt H' a W.n W.R → Q (.ref a) H'
theorem sc_Works_rinses : FnScope ["self", "row"] ["self"] (defScope sWorks_rinses) := ⟨rfl, rfl, rfl, by decide +kernel, rfl, by decide +kernel, by decide +kernel⟩
theorem mW_rinses (B : Bn mg) (FC : Fc G mg) (F : Md G.K G.CW "rinses" "Works.rinses" sWorks_rinses) : Me P w G.K mg base (k + 1) G.CW "rinses" (spW_rinses G) :=
  me_0 F sc_Works_rinses (fun _ _ _ _ _ _ us hl => match us, hl with | [_], _ => rfl) (fun vs H Q E h => by obtain ⟨_, _, rfl, _⟩ := h; rfl)
  fun f cdv A outer s H vs Q E hr h => ⟨_, /- slots: 0 self, 1 row -/ (pss_one (ps_ret (pe_lc (own := [("row", 1)]) (g := (gName 1)) (tt := tYes) (te := (tCB (rListOf G.K) (tCons (tVar 1) tNil))) rfl sc_Works_rinses.nd (pi_list (pe_fld (pv 0) rfl)) (blkOk_by (own := [("row", 1)]) (N := ["self", "row"]) (sc := defScope sWorks_rinses) (by decide +kernel)) (fun _ _ _ _ _ => by exact (pg_name (i := 1) sc_Works_rinses.nd rfl (Or.inl rfl))) (fun _ _ _ _ _ => by exact pts_nil) (fun _ _ _ _ _ => by exact (pe_callTy call_list_of (by rfl) B.list (by decide +kernel) (pa_cons (pv 1) pa_nil)))))), by
    obtain ⟨p, W, rfl, hW, q⟩ := h
    obtain ⟨dx, ls, ts, d, cs, O⟩ := hW.open_
    obtain ⟨rs0, hl, hn, hrow⟩ := O.told.ex
    have ok := hW.ok
    have hz : (rs0.map V.ref).length = W.n + 1 := by rw [List.length_map, hn]
    refine ⟨_, rfl, p, _, dx, _, _, rfl, O.at_, FC.cW, FC.wT, wf_told, ts, rfl, ⟨_, Or.inl (Or.inl hl)⟩, fun a ha => lc_it walk_list (fun i H' => ∃ rs, RowsP H H' a rs W.n W.R i) ⟨[], RowsP.new ha⟩ (fun i H' _ ⟨rs, z⟩ => Or.inl (Or.inl (z.s _ _ hl))) ?_ ?_⟩
    · rintro i x H2 H3 hi ⟨rs, z⟩ ⟨rfl, hx⟩
      rw [List.getElem?_map] at hx
      obtain ⟨ra, hra, rfl⟩ := Option.map_eq_some_iff.mp hx
      have hz' : i < W.n + 1 := by rw [← hz]; exact hi
      have h4 := ok.n4
      exact ⟨rfl, ⟨_, rfl, ra, _, rfl, Or.inl (Or.inl (Or.inl (z.s _ _ (hrow i ra hra)))), fun l hl' => ⟨_, by rw [upd_ne (fun e => by rw [← e, z.hs] at hl'; cases hl')]; exact z.hs, by rw [List.length_map, z.ln]; exact small16' (by omega), _, z.step hl'⟩⟩⟩
    · rintro H2 ⟨rs, hrs⟩
      rw [hz] at hrs
      exact q H2 a hrs.s ⟨rs, hrs.hs, hrs.ln, hrs.row⟩⟩
theorem atI_rowIx {n : Nat} {xs : List V} {i : Int} {v : V} (hn : xs.length = n + 1) (h0 : -1 ≤ i) (h1 : i < n) (h : xs[rowIx n i]? = some v) : atI xs i = some v := by
  unfold rowIx at h
  unfold atI ixN
  by_cases e : i < 0
  · rw [if_pos e] at h
    rw [if_neg (by omega), if_pos (by omega)]
    have : (i + (xs.length : Int)).toNat = n := by omega
    show xs[(i + (xs.length : Int)).toNat]? = some v
    rw [this]; exact h
  · rw [if_neg e] at h
    rw [if_pos (by omega), if_pos (by omega)]
    exact h
abbrev spW_rinse (G : Ad) : Sp := fun vs H Q _ => ∃ p W f h, vs = [.ref p, .int f, .int (h : Nat)] ∧ WkAt G H p W ∧ -1 ≤ f ∧ f < W.n ∧ h < W.n ∧ Q (.int (W.rin f h)) H
theorem sc_Works_rinse : FnScope ["self", "first", "then"] ["self", "first", "then"] (defScope sWorks_rinse) := ⟨rfl, rfl, rfl, by decide +kernel, rfl, by decide +kernel, by decide +kernel⟩
theorem mW_rinse (FC : Fc G mg) (F : Md G.K G.CW "rinse" "Works.rinse" sWorks_rinse) : Me P w G.K mg base (k + 1) G.CW "rinse" (spW_rinse G) :=
  me_0 F sc_Works_rinse (fun _ _ _ _ _ _ us hl => match us, hl with | [_, _, _], _ => rfl) (fun vs H Q E h => by obtain ⟨_, _, _, _, rfl, _⟩ := h; rfl)
  fun f cdv A outer s H vs Q E hr h => ⟨_, /- slots: 0 self, 1 first, 2 then -/ (pss_cons (ps_if (pt_cmpR op_eq (pv 1) (pv 2) (nomark _)) (pss_one (ps_ret pe_int)) pss_nil)
      (pss_one (ps_ret (pe_ix ix_list (pe_ix ix_list (pe_fld (pv 0) rfl) (pv 1) (fun _ _ => rfl)) (pv 2) (fun _ _ => rfl))))), by
    obtain ⟨p, W, g, h, rfl, hW, g0, g1, hh, q⟩ := h
    obtain ⟨dx, ls, ts, d, cs, O⟩ := hW.open_
    obtain ⟨rs, hl, hn, hrow⟩ := O.least.ex
    dsimp only [tSeq, tRet, tRetN, tIfS, tAsg, tDrop, tNext, tNever, tVar, tC, tCons, tNil, tCB, tOp, tTest, tB, tAnd, tOr, tNot, tAndV, tOrV, tNotV, tChain, tTup, tLst, tFld, sFld, tCall, tMeth, tMake, tDGet, tDIn, tDNotIn, sDPut, tDNewK, tSl, tPart, tNoPart, gTup, gCons, gNil, gSub, tBM, tUn]
    refine ⟨_, rfl, _, rfl, rfl, _, rfl, ?_⟩
    by_cases e : g = (h : Int)
    · have e' : W.rin g h = 0 := if_pos e
      rw [e'] at q
      rw [decide_eq_true (congrArg V.int e)]
      exact q
    · have e' : W.rin g h = fw W.n W.R (rowIx W.n g) h := if_neg e
      rw [e'] at q
      rw [decide_eq_false fun z => e (V.int.inj z)]
      have hr : rowIx W.n g < rs.length := by
        rw [hn]
        unfold rowIx
        split <;> omega
      have gr : rs[rowIx W.n g]? = some (rs[rowIx W.n g]) := List.getElem?_eq_getElem hr
      exact ⟨_, rfl, p, _, dx, _, _, rfl, O.at_, FC.cW, FC.wL, wf_least, _, rfl, ls, _, g, _, rfl, rfl, Or.inl (Or.inl hl), atI_rowIx (by rw [List.length_map, hn]) g0 g1 (by rw [List.getElem?_map, gr]; rfl), _, rfl, _, _, (h : Int), _, rfl, rfl, Or.inl (Or.inl (hrow _ _ gr)), atI_nat (rowV_get hh), q⟩⟩
abbrev spW_start (G : Ad) : Sp := fun vs H Q _ => ∃ p W, vs = [.ref p] ∧ WkAt G H p W ∧ ∀ H' t, Same H H' → H' t = some (.tup [.int W.last, .int W.time]) → Q (.ref t) H'
theorem sc_Works_start : FnScope ["self"] ["self"] (defScope sWorks_start) := ⟨rfl, rfl, rfl, by decide +kernel, rfl, by decide +kernel, by decide +kernel⟩
theorem mW_start (FC : Fc G mg) (F : Md G.K G.CW "start" "Works.start" sWorks_start) : Me P w G.K mg base (k + 1) G.CW "start" (spW_start G) :=
  me_0 F sc_Works_start (fun _ _ _ _ _ _ us hl => match us, hl with | [_], _ => rfl) (fun vs H Q E h => by obtain ⟨_, _, rfl, _⟩ := h; rfl)
  fun f cdv A outer s H vs Q E hr h => ⟨_, /- slots: 0 self -/ (pss_one (ps_ret (pe_tup (pa_cons (pe_fld (pv 0) rfl) (pa_cons (pe_fld (pv 0) rfl) pa_nil))))), by
    obtain ⟨p, W, rfl, hW, q⟩ := h
    obtain ⟨dx, ls, ts, d, cs, O⟩ := hW.open_
    exact ⟨_, rfl, p, _, dx, _, _, rfl, O.at_, FC.cW, FC.wA, wf_last, _, rfl, p, _, dx, _, _, rfl, O.at_, FC.cW, FC.wI, wf_time, (show 2 ≤ sizeLine by decide), fun t ht => q _ t (same_new ht) upd_same⟩⟩
abbrev spW_names (G : Ad) : Sp := fun vs H Q _ => ∃ p W, vs = [.ref p] ∧ WkAt G H p W ∧ ∀ H' a ys, Same H H' → ys.Perm (W.cl.map (·.name)) → sortedS ys = true → H' a = some (.lst (ys.map V.str)) → Q (.ref a) H'
theorem sc_Works_names : FnScope ["self"] ["self"] (defScope sWorks_names) := ⟨rfl, rfl, rfl, by decide +kernel, rfl, by decide +kernel, by decide +kernel⟩
theorem mW_names (B : Bn mg) (FC : Fc G mg) (F : Md G.K G.CW "names" "Works.names" sWorks_names) : Me P w G.K mg base (k + 1) G.CW "names" (spW_names G) :=
  me_0 F sc_Works_names (fun _ _ _ _ _ _ us hl => match us, hl with | [_], _ => rfl) (fun vs H Q E h => by obtain ⟨_, _, rfl, _⟩ := h; rfl)
  fun f cdv A outer s H vs Q E hr h => ⟨_, /- slots: 0 self -/ (pss_one (ps_ret (pe_callB (call_sortK rfl) (by rfl) B.sorted (by decide +kernel) (pa_cons (pe_bm0 PySem.F.plainAttrs_dict PySem.F.slot_dict_keys PySem.F.type_dict_keys mt_keys (pe_fld (pv 0) rfl)) pa_nil)))), by
    obtain ⟨p, W, rfl, hW, q⟩ := h
    obtain ⟨dx, ls, ts, d, cs, O⟩ := hW.open_
    have few := hW.ok.few
    refine ⟨_, rfl, p, _, dx, _, _, rfl, O.at_, FC.cW, FC.wW, wf_waiting, Or.inr (Or.inr (Or.inl ⟨rfl, Or.inl ⟨_, O.wait⟩⟩)), d, _, rfl, rfl, Or.inl O.wait, fun v hv => ⟨v, d, _, cs.map (·.1.name), rfl, upd_same, Or.inl (same_new hv _ _ O.wait), kvs_keys cs, ?_, fun ys l h1 h2 h3 => q _ l ys ?_ (O.names ▸ h1) h2 upd_same⟩⟩
    · rw [O.names, List.length_map]; omega
    · exact Evl.Ex.trans (same_new hv) (same_new h3)⟩
abbrev spW_cloth (G : Ad) : Sp := fun vs H Q E => ∃ p W z, vs = [.ref p, .str z] ∧ WkAt G H p W ∧ (∀ c t, c ∈ W.cl → c.name = z → ClAt H t c → Q (.ref t) H) ∧ (z ∉ W.cl.map (·.name) → ∀ cls d H', Caught G cls → Same H H' → E cls d H')
theorem sc_Works_cloth : FnScope ["self", "name"] ["self", "name"] (defScope sWorks_cloth) := ⟨rfl, rfl, rfl, by decide +kernel, rfl, by decide +kernel, by decide +kernel⟩
theorem mW_cloth (FC : Fc G mg) (X_NoName : ExF G mg "NoName") (F : Md G.K G.CW "cloth" "Works.cloth" sWorks_cloth) : Me P w G.K mg base (k + 1) G.CW "cloth" (spW_cloth G) :=
  me_X F sc_Works_cloth (fun _ _ _ _ _ _ us hl => match us, hl with | [_, _], _ => rfl) (fun vs H Q E h => by obtain ⟨_, _, _, rfl, _⟩ := h; rfl)
  fun f cdv A outer s H vs Q E hr h => ⟨_, /- slots: 0 self, 1 name -/ (pss_cons (ps_if (pt_cmp (pc_dnotin (hu_of hr) (pv 1) (pe_fld (pv 0) rfl)) rfl) (pss_one (ps_raise0 (takes_of rfl rfl rfl rfl) rfl X_NoName rfl)) pss_nil)
      (pss_one (ps_ret (pe_dget (hu_of hr) (pe_fld (pv 0) rfl) (pv 1) (fun _ _ => rfl))))), by
    obtain ⟨p, W, z, rfl, hW, q, qe⟩ := h
    obtain ⟨dx, ls, ts, d, cs, O⟩ := hW.open_
    dsimp only [tSeq, tRet, tRetN, tIfS, tAsg, tDrop, tNext, tNever, tVar, tC, tCons, tNil, tCB, tOp, tTest, tB, tAnd, tOr, tNot, tAndV, tOrV, tNotV, tChain, tTup, tLst, tFld, sFld, tCall, tMeth, tMake, tDGet, tDIn, tDNotIn, sDPut, tDNewK, tSl, tPart, tNoPart, gTup, gCons, gNil, gSub, tBM, tUn]
    by_cases hz : z ∈ W.cl.map (·.name)
    · obtain ⟨c, hc, rfl⟩ := List.mem_map.mp hz
      obtain ⟨t, ht, hat⟩ := O.has hc
      have hv := kvs_val (O.nd hW.ok) ht rfl
      have g : DGet H d (.str c.name) (some (.ref t)) := by
        have g := DGet.k (k := Sum.inr c.name) O.wait
        rw [hv] at g
        exact g
      exact ⟨_, rfl, _, rfl, p, _, dx, _, _, rfl, O.at_, FC.cW, FC.wW, wf_waiting, d, _, rfl, g, _, rfl, _, rfl, p, _, dx, _, _, rfl, O.at_, FC.cW, FC.wW, wf_waiting, _, rfl, d, _, rfl, g, q c t hc rfl hat⟩
    · have hv := kvs_no (cs := cs) (z := z) (by rw [O.names]; exact hz)
      have g : DGet H d (.str z) none := by
        have g := DGet.k (k := Sum.inr z) O.wait
        rw [hv] at g
        exact g
      exact ⟨_, rfl, _, rfl, p, _, dx, _, _, rfl, O.at_, FC.cW, FC.wW, wf_waiting, d, _, rfl, g, _, rfl, fun cls hc => qe hz cls none H hc fun _ _ x => x⟩⟩
end Rw82
/-! Works made. -/
namespace Rw82
open PySem PySem.Spec PyProof.Rows L2
variable {P : Program} {w : World} {mg : Str → Option Value} {base : Heap} {k : Nat} {G : Ad} {CT : Addr}
/-- all but x stays -/
def SB (x : Addr) (H H' : Hp) : Prop := ∀ b o, b ≠ x → H b = some o → H' b = some o
theorem SB.same {x : Addr} {H H1 H2 : Hp} (s : SB x H H1) (e : Same H1 H2) : SB x H H2 := fun b o n h => e b o (s b o n h)
theorem SB.st {x : Addr} {H H1 : Hp} {o : HO} (s : SB x H H1) : SB x H (upd H1 x o) := fun b u n h => by
  rw [upd_ne n]
  exact s b u n h
theorem SB.mut {x d : Addr} {H H1 : Hp} {o : HO} (s : SB x H H1) (h : H d = none) : SB x H (upd H1 d o) := fun b u n e => by
  rw [upd_ne (ne_of_none e h)]
  exact s b u n e
theorem MxAt.sb {x a : Addr} {H H' : Hp} {n : Nat} {D : Mat} {C dx : Addr} {fs : List (Str × V)} (m : MxAt H a n D) (hx : H x = some (.ins C dx fs)) (s : SB x H H') : MxAt H' a n D := by
  have ne : ∀ {b : Addr} {xs : List V}, H b = some (.lst xs) → b ≠ x := fun h e => by rw [e, hx] at h; cases h
  obtain ⟨rs, h1, h2, h3⟩ := m.ex
  exact ⟨rs, s _ _ (ne h1) h1, h2, fun i r e => s _ _ (ne (h3 i r e)) (h3 i r e)⟩
theorem MxAt.upd_ins {x a : Addr} {H : Hp} {n : Nat} {D : Mat} {C dx : Addr} {fs fs' : List (Str × V)} (m : MxAt H a n D) (hx : H x = some (.ins C dx fs)) : MxAt (upd H x (.ins C dx fs')) a n D := m.sb hx (SB.st fun _ _ _ h => h)
/-- what is refused among works with these names -/
def Refused (n : Nat) (names : List Str) (zs : List V) : Prop := isCl n zs = some false ∨ ∃ c, zs = clV c ∧ goodC n c ∧ c.name ∈ names
theorem isCl_good {n : Nat} {c : Cloth} (h : goodC n c) : isCl n (clV c) = some true := by
  obtain ⟨h1, h2, h3, h4⟩ := h
  show some (okName c.name && (decide ((0 : Int) ≤ (c.hue : Int)) && decide ((c.hue : Int) < n) && (decide (0 < c.len) && decide (0 < c.wt)))) = _
  rw [h1, decide_eq_true (show (0 : Int) ≤ (c.hue : Int) by omega), decide_eq_true (show (c.hue : Int) < n by omega), decide_eq_true h3, decide_eq_true h4]
  rfl
theorem okName_len {z : Str} (h : okName z = true) : z.length ≤ 8 := by
  unfold okName at h
  rw [Bool.and_eq_true, Bool.and_eq_true] at h
  exact of_decide_eq_true h.1.2
theorem short_cl {n : Nat} {c : Cloth} (h : goodC n c) : ∀ a r, clV c = .str a :: r → a.length ≤ 1000 := fun a r e => by
  have e' : V.str c.name = V.str a := (List.cons.inj e).1
  injection e' with e'
  rw [← e']
  have := okName_len h.1
  omega
def spW_init (G : Ad) : Sp := fun vs H Q E => ∃ (x dx r l : Addr) (n : Nat) (R : Mat) (f ti : Int) (cs : List (Cloth × Addr)) (rest : List Addr), vs = [.ref x, .ref r, .ref l, .int f, .int ti] ∧ H x = some (.ins G.CW dx []) ∧ MxAt H r n R ∧ 1 ≤ n ∧ n ≤ 4 ∧ Nonneg R ∧ -1 ≤ f ∧ f < n ∧ 0 ≤ ti ∧
  SqL G.K H l ((cs.map (·.2) ++ rest).map V.ref) ∧ l ≠ x ∧ (cs.map (·.2) ++ rest).length ≤ 10 ∧ (∀ q ∈ cs, ClAt H q.2 q.1 ∧ goodC n q.1) ∧ (cs.map (·.1.name)).Nodup ∧
  ((rest = [] ∧ ∀ H', SB x H H' → WkAt G H' x ⟨n, R, f, ti, cs.map (·.1)⟩ → Q .non H') ∨
    ∃ t zs, rest = [t] ∧ H t = some (.tup zs) ∧ zs.length ≤ 1000 ∧ (∀ a r, zs = .str a :: r → a.length ≤ 1000) ∧ 1 ≤ zs.length ∧ Refused n (cs.map (·.1.name)) zs ∧ ∀ cls d H', Caught G cls → SB x H H' → E cls d H')
theorem sq_sb {K : PySem.W.Frag} {x a : Addr} {H H' : Hp} {xs : List V} (h : SqL K H a xs) (n : a ≠ x) (s : SB x H H') : SqL K H' a xs := by
  rcases h with h | h
  · rcases h with h | ⟨o, h⟩
    · exact Or.inl (Or.inl (s _ _ n h))
    · exact Or.inl (Or.inr ⟨o, s _ _ n h⟩)
  · exact Or.inr h
/-- the instance while it is made -/
structure Mid (G : Ad) (H0 H : Hp) (x dx a ts : Addr) (n : Nat) (R : Mat) (fs : List (Str × V)) : Prop where
  s : SB x H0 H
  at_ : H x = some (.ins G.CW dx fs)
  least : MxAt H a n (fw n R)
  told : MxAt H ts n R
theorem Mid.same {H0 H H' : Hp} {x dx a ts : Addr} {n : Nat} {R : Mat} {fs : List (Str × V)} (m : Mid G H0 H x dx a ts n R fs) (e : Same H H') : Mid G H0 H' x dx a ts n R fs :=
  ⟨m.s.same e, e _ _ m.at_, m.least.kp (Kp.of e), m.told.kp (Kp.of e)⟩
theorem Mid.put {H0 H : Hp} {x dx a ts : Addr} {n : Nat} {R : Mat} {fs fs' : List (Str × V)} (m : Mid G H0 H x dx a ts n R fs) : Mid G H0 (upd H x (.ins G.CW dx fs')) x dx a ts n R fs' :=
  ⟨m.s.st, upd_same, m.least.upd_ins m.at_, m.told.upd_ins m.at_⟩
theorem Mid.mut {H0 H : Hp} {x dx a ts d : Addr} {n : Nat} {R : Mat} {fs : List (Str × V)} {k0 k1 : List (Key × V)} (m : Mid G H0 H x dx a ts n R fs) (h0 : H0 d = none) (hd : H d = some (.dK k0)) : Mid G H0 (upd H d (.dK k1)) x dx a ts n R fs := by
  have ne : ∀ {b : Addr} {xs : List V}, H b = some (.lst xs) → b ≠ d := fun h e => by rw [e, hd] at h; cases h
  have mx : ∀ {a : Addr} {D : Mat}, MxAt H a n D → MxAt (upd H d (.dK k1)) a n D := fun z => by
    obtain ⟨rs, h1, h2, h3⟩ := z.ex
    exact ⟨rs, by rw [upd_ne (ne h1)]; exact h1, h2, fun i r e => by rw [upd_ne (ne (h3 i r e))]; exact h3 i r e⟩
  refine ⟨m.s.mut h0, ?_, mx m.least, mx m.told⟩
  rw [upd_ne (fun e => by rw [← e, m.at_] at hd; cases hd)]
  exact m.at_
theorem putF_new {f : Str} {v : V} : ∀ {fs : List (Str × V)}, f ∉ fs.map (·.1) → putF f v fs = fs ++ [(f, v)]
  | [], _ => rfl
  | (g, y) :: r, h => by
    rw [List.map_cons, List.mem_cons, not_or] at h
    show (if g = f then (g, v) :: r else (g, y) :: putF f v r) = _
    rw [if_neg (fun e => h.1 e.symm), putF_new h.2]
    rfl
abbrev wf1 (a : Addr) : List (Str × V) := [("least", .ref a)]
abbrev wf2 (a ts : Addr) : List (Str × V) := [("least", .ref a), ("told", .ref ts)]
abbrev wf3 (a ts : Addr) (f : Int) : List (Str × V) := [("least", .ref a), ("told", .ref ts), ("last", .int f)]
abbrev wf4 (a ts : Addr) (f t : Int) : List (Str × V) := [("least", .ref a), ("told", .ref ts), ("last", .int f), ("time", .int t)]
theorem pf1 (a : Addr) : putF "least" (.ref a) [] = wf1 a := rfl
theorem pf2 (a ts : Addr) : putF "told" (.ref ts) (wf1 a) = wf2 a ts := putF_new (show ("told" : Str) ∉ [("least" : Str)] by decide +kernel)
theorem pf3 (a ts : Addr) (f : Int) : putF "last" (.int f) (wf2 a ts) = wf3 a ts f := putF_new (show ("last" : Str) ∉ ([("least" : Str), "told"] : List Str) by decide +kernel)
theorem pf4 (a ts : Addr) (f t : Int) : putF "time" (.int t) (wf3 a ts f) = wf4 a ts f t := putF_new (show ("time" : Str) ∉ ([("least" : Str), "told", "last"] : List Str) by decide +kernel)
theorem pf5 (a ts d : Addr) (f t : Int) : putF "waiting" (.ref d) (wf4 a ts f t) = wf a ts f t d := putF_new (show ("waiting" : Str) ∉ ([("least" : Str), "told", "last", "time"] : List Str) by decide +kernel)
theorem wf4_last {a ts : Addr} {f t : Int} : (wf4 a ts f t).lookup ("last" : Str) = some (.int f) := (lookup_cons_ne (by decide +kernel)).trans ((lookup_cons_ne (by decide +kernel)).trans lookup_cons_eq)
theorem wf4_told {a ts : Addr} {f t : Int} : (wf4 a ts f t).lookup ("told" : Str) = some (.ref ts) := (lookup_cons_ne (by decide +kernel)).trans lookup_cons_eq
theorem wf4_hues {a ts : Addr} {f t : Int} : (wf4 a ts f t).lookup ("hues" : Str) = none := lookup_none (show ("hues" : Str) ∉ ([("least" : Str), "told", "last", "time"] : List Str) by decide +kernel)
theorem sc_Works___init : FnScope ["self", "rinses", "cloths", "last", "time", "cloth", "row"] ["self", "rinses", "cloths", "last", "time"] (defScope sWorks___init__) := ⟨rfl, rfl, rfl, by decide +kernel, rfl, by decide +kernel, by decide +kernel⟩
theorem mk_Works (B : Bn mg) (FC : Fc G mg) (X_NoCloth : ExF G mg "NoCloth") (TW : Tw P w G mg base k CT) (C_least_rinses : Ca P w G.K mg base k "least_rinses" (sp_least_rinses G)) (C_is_whole : Ca P w G.K mg base k "is_whole" (sp_is_whole G)) (C_is_cloth : Ca P w G.K mg base k "is_cloth" (sp_is_cloth G))
    (MW_hues : Me P w G.K mg base k G.CW "hues" (spW_hues G)) (F : Idf G.K mg "Works" G.CW "Works.__init__" sWorks___init__ [.non, .int 0]) : Ma P w G.K mg base (k + 2) "Works" G.CW (spW_init G) :=
  ma_X F sc_Works___init (fun z => nomatch z) (fun T kV doc pm an cdv ct us its hl hi => match us, its, hl, hi with | [_, _, _, _, _], [_, _], _, _ => ⟨_, rfl, rfl⟩) (fun vs H Q E h => by obtain ⟨_, _, _, _, _, _, _, _, _, _, rfl, _⟩ := h; rfl)
  fun f cdv A outer s H vs Q E hr h => ⟨_, /- slots: 0 self, 1 rinses, 2 cloths, 3 last, 4 time, 5 cloth, 6 row -/ (pss_cons (ps_fld (pv 0) (pe_ca C_least_rinses hr (pa_cons (pv 1) pa_nil)) rfl)
      (pss_cons (ps_fld (pv 0) (pe_lc (own := [("row", 6)]) (g := (gName 6)) (tt := tYes) (te := (tCB (rListOf G.K) (tCons (tVar 6) tNil))) rfl sc_Works___init.nd (pi_list (pv 1)) (blkOk_by (own := [("row", 6)]) (N := ["self", "rinses", "cloths", "last", "time", "cloth", "row"]) (sc := defScope sWorks___init__) (by decide +kernel)) (fun _ _ _ _ _ => by exact (pg_name (i := 6) sc_Works___init.nd rfl (Or.inl rfl))) (fun _ _ _ _ _ => by exact pts_nil) (fun _ _ _ _ _ => by exact (pe_callTy call_list_of (by rfl) B.list (by decide +kernel) (pa_cons (pv 6) pa_nil)))) rfl)
      (pss_cons (ps_fld (pv 0) (pv 3) rfl)
      (pss_cons (ps_if (pt_cmpR op_isN (pv 3) pe_non (nomark _)) (pss_one (ps_fld (pv 0) (pe_gi B.fresh) rfl)) pss_nil)
      (pss_cons (ps_fld (pv 0) (pv 4) rfl)
      (pss_cons (ps_if (PW.pt (pw_or (pt_not (pt_val (pe_ca C_is_whole hr (pa_cons (pe_fld (pv 0) rfl) pa_nil)))) (pw_or1 (pt_not (pt_chain op_le op_lt (pe_gi B.fresh) (pe_fld (pv 0) rfl) (pe_me0 MW_hues hr (pv 0))))))) (pss_one ps_never) pss_nil)
      (pss_cons (ps_if (PW.pt (pw_or (pt_not (pt_val (pe_ca C_is_whole hr (pa_cons (pv 4) pa_nil)))) (pw_or1 (pt_cmpR op_lt (pv 4) pe_int (nomark _))))) (pss_one ps_never) pss_nil)
      (pss_cons (ps_if (pt_cmpR op_gt (pe_callB call_len_seq (by rfl) B.len PySem.boot_len (pa_cons (pv 2) pa_nil)) (pe_gi B.mostcloths) (nomark _)) (pss_one ps_never) pss_nil)
      (pss_cons (ps_fld (pv 0) pe_dnewK rfl)
      (pss_one (ps_for (passes_of rfl) rfl (pi_list (pv 2)) (pg_name (i := 5) sc_Works___init.nd rfl (Or.inl rfl)) (pss_cons (ps_if (pt_not (pt_val (pe_ca C_is_cloth hr (pa_cons (pv 5) (pa_cons (pe_me0 MW_hues hr (pv 0)) pa_nil))))) (pss_one (ps_raise0 (takes_of rfl rfl rfl rfl) rfl X_NoCloth rfl)) pss_nil)
      (pss_cons (ps_if (pt_cmp (pc_din (hu_of hr) (pe_ix ix_tup (pv 5) pe_int (fun _ _ => rfl)) (pe_fld (pv 0) rfl)) rfl) (pss_one (ps_raiseT (takes_of rfl rfl rfl rfl) rfl TW (hr.mono (by omega)) passL rfl (pe_ix ix_tup (pv 5) pe_int (fun _ _ => rfl)))) pss_nil)
      (pss_one (ps_dput (hu_of hr) (pe_fld (pv 0) rfl) (pe_ix ix_tup (pv 5) pe_int (fun _ _ => rfl)) (pv 5) rfl))))))))))))))), by
    obtain ⟨x, dx, r, l, n, R, fi, ti, cs, rest, rfl, hx, hm, n1, n4, nn, f0, f1, t0, hl, lx, h10, hcs, nd, fin⟩ := h
    dsimp only [tSeq, tRet, tRetN, tIfS, tAsg, tDrop, tNext, tNever, tVar, tC, tCons, tNil, tCB, tOp, tTest, tB, tAnd, tOr, tNot, tAndV, tOrV, tNotV, tChain, tTup, tLst, tFld, sFld, tCall, tMeth, tMake, tDGet, tDIn, tDNotIn, sDPut, tDNewK, tSl, tPart, tNoPart, gTup, gCons, gNil, gSub, tBM, tUn]
    dsimp only [sp_least_rinses]
    refine ⟨_, rfl, r, n, R, rfl, hm, n1, n4, nn, fun H1 a e1 ha => ?_⟩
    refine ⟨_, rfl, x, _, dx, [], rfl, e1 _ _ hx, FC.cW, FC.wL, (show 0 < 1000 by decide), ?_⟩
    rw [pf1]
    -- told
    have s2 : SB x H (upd H1 x (.ins G.CW dx (wf1 a))) := SB.st fun b o _ h => e1 b o h
    have a2 : MxAt (upd H1 x (.ins G.CW dx (wf1 a))) a n (fw n R) := ha.upd_ins (e1 _ _ hx)
    have x2 : (upd H1 x (.ins G.CW dx (wf1 a))) x = some (.ins G.CW dx (wf1 a)) := upd_same
    have m2 : MxAt (upd H1 x (.ins G.CW dx (wf1 a))) r n R := hm.sb hx s2
    revert s2 a2 x2 m2
    generalize (upd H1 x (.ins G.CW dx (wf1 a))) = H2
    intro s2 a2 x2 m2
    obtain ⟨rs0, hr0, hn, hrow⟩ := m2.ex
    have hz : (rs0.map V.ref).length = n + 1 := by rw [List.length_map, hn]
    refine ⟨_, rfl, r, rfl, ⟨_, Or.inl (Or.inl hr0)⟩, fun ts hts => lc_it walk_list (fun i H' => ∃ rs, RowsP H2 H' ts rs n R i) ⟨[], RowsP.new hts⟩ (fun i H' _ ⟨rs, p⟩ => Or.inl (Or.inl (p.s _ _ hr0))) ?_ ?_⟩
    · rintro i y H3 H4 hi ⟨rs, p⟩ ⟨rfl, hy⟩
      rw [List.getElem?_map] at hy
      obtain ⟨ra, hra, rfl⟩ := Option.map_eq_some_iff.mp hy
      have hz' : i < n + 1 := by rw [← hz]; exact hi
      exact ⟨rfl, ⟨_, rfl, ra, _, rfl, Or.inl (Or.inl (Or.inl (p.s _ _ (hrow i ra hra)))), fun l hl' => ⟨_, by rw [upd_ne (fun e => by rw [← e, p.hs] at hl'; cases hl')]; exact p.hs, by rw [List.length_map, p.ln]; exact small16' (by omega), _, p.step hl'⟩⟩⟩
    rintro H3 ⟨rs, hrs⟩
    rw [hz] at hrs
    have M3 : Mid G H H3 x dx a ts n R (wf1 a) := ⟨s2.same hrs.s, hrs.s _ _ x2, a2.kp (Kp.of hrs.s), ⟨rs, hrs.hs, hrs.ln, hrs.row⟩⟩
    refine ⟨_, rfl, x, _, dx, _, rfl, M3.at_, FC.cW, FC.wT, (show 1 < 1000 by decide), ?_⟩
    rw [pf2]
    have M4 : Mid G H (upd H3 x (.ins G.CW dx (wf2 a ts))) x dx a ts n R (wf2 a ts) := M3.put
    revert M4
    generalize (upd H3 x (.ins G.CW dx (wf2 a ts))) = H4
    intro M4
    refine ⟨_, rfl, _, rfl, x, _, dx, _, rfl, M4.at_, FC.cW, FC.wA, (show 2 < 1000 by decide), ?_⟩
    rw [pf3]
    have M5 : Mid G H (upd H4 x (.ins G.CW dx (wf3 a ts fi))) x dx a ts n R (wf3 a ts fi) := M4.put
    revert M5
    generalize (upd H4 x (.ins G.CW dx (wf3 a ts fi))) = H5
    intro M5
    refine ⟨_, rfl, rfl, false, rfl, ?_⟩
    refine ⟨_, rfl, _, rfl, x, _, dx, _, rfl, M5.at_, FC.cW, FC.wI, (show 3 < 1000 by decide), ?_⟩
    rw [pf4]
    have M6 : Mid G H (upd H5 x (.ins G.CW dx (wf4 a ts fi ti))) x dx a ts n R (wf4 a ts fi ti) := M5.put
    revert M6
    generalize (upd H5 x (.ins G.CW dx (wf4 a ts fi ti))) = H6
    intro M6
    refine ⟨_, rfl, x, _, dx, _, _, rfl, M6.at_, FC.cW, FC.wA, wf4_last, ?_⟩
    dsimp only [sp_is_whole]
    refine ⟨_, true, rfl, rfl, true, rfl, ?_⟩
    refine ⟨_, rfl, x, _, dx, _, _, rfl, M6.at_, FC.cW, FC.wA, wf4_last, _, _, rfl, rfl, true, congrArg V.bl (decide_eq_true f0), ?_⟩
    dsimp only [spW_hues]
    refine ⟨_, rfl, x, dx, _, rfl, M6.at_, wf4_hues, x, dx, _, ts, n, R, rfl, M6.at_, wf4_told, M6.told, _, _, rfl, rfl, true, congrArg V.bl (decide_eq_true f1), ?_⟩
    refine ⟨_, rfl, _, true, rfl, rfl, true, rfl, _, rfl, _, _, rfl, rfl, false, congrArg V.bl (decide_eq_false (by omega)), ?_⟩
    have hl6 : SqL G.K H6 l ((cs.map (·.2) ++ rest).map V.ref) := sq_sb hl lx M6.s
    refine ⟨_, rfl, l, _, rfl, Or.inl hl6, _, _, rfl, rfl, false, congrArg V.bl (decide_eq_false (by rw [List.length_map]; omega)), ?_⟩
    refine fun d hd => ⟨_, rfl, x, _, dx, _, rfl, (same_new hd) _ _ M6.at_, FC.cW, FC.wW, (show 4 < 1000 by decide), ?_⟩
    rw [pf5]
    have d0 : H d = none := by
      cases q : H d with
      | none => rfl
      | some o =>
        have := M6.s d o (fun e => by rw [e, M6.at_] at hd; cases hd) q
        rw [hd] at this
        cases this
    have dx' : d ≠ x := fun e => by rw [e, M6.at_] at hd; cases hd
    have M7 : Mid G H (upd (upd H6 d (.dK [])) x (.ins G.CW dx (wf a ts fi ti d))) x dx a ts n R (wf a ts fi ti d) := (M6.same (same_new hd)).put
    have d7 : (upd (upd H6 d (.dK [])) x (.ins G.CW dx (wf a ts fi ti d))) d = some (.dK (kvsOf (cs.take 0))) := by
      rw [upd_ne dx', upd_same]
      rfl
    revert M7 d7
    generalize (upd (upd H6 d (.dK [])) x (.ins G.CW dx (wf a ts fi ti d))) = H7
    intro M7 d7
    refine Evl.s_forLn (xs := (cs.map (·.2) ++ rest).map V.ref) (Evl.ev_var rfl) (sq_sb hl lx M7.s) (fun i σ' H' => (∃ y5 y6, σ' = [some (.ref x), some (.ref r), some (.ref l), some (.int fi), some (.int ti), y5, y6]) ∧ Mid G H H' x dx a ts n R (wf a ts fi ti d) ∧ H' d = some (.dK (kvsOf (cs.take i))) ∧ i ≤ cs.length)
      (fun H1 e => ⟨⟨_, _, rfl⟩, M7.same e, e _ _ d7, Nat.zero_le _⟩) (fun i σ' H' _ z => sq_sb hl lx z.2.1.s) ?_ ?_
    · rintro i y _ H8 hy ⟨⟨y5, y6, rfl⟩, M8, d8, i8⟩
      rw [List.getElem?_map] at hy
      obtain ⟨ta, hta, rfl⟩ := Option.map_eq_some_iff.mp hy
      have h8 : H8 d = some (.dK (kvsOf (cs.take i))) := d8
      have tne : ∀ {b : Addr} {zs : List V}, H b = some (.tup zs) → b ≠ x := fun h e => by rw [e, hx] at h; cases h
      by_cases hi : i < cs.length
      · have gq : cs[i]? = some cs[i] := List.getElem?_eq_getElem hi
        have hq : ta = cs[i].2 := by
          rw [List.getElem?_append_left (by rw [List.length_map]; exact hi), List.getElem?_map, gq] at hta
          exact (Option.some.inj hta).symm
        subst hq
        obtain ⟨g1, g2⟩ := hcs _ (List.getElem_mem hi)
        generalize hcq : cs[i] = cq at *
        have T8 : ∀ {H9 : Hp}, Same H8 H9 → H9 cq.2 = some (.tup (clV cq.1)) := fun e => e _ _ (M8.s _ _ (tne g1) g1)
        have nin : cq.1.name ∉ (cs.take i).map (·.1.name) := fun m => by
          obtain ⟨q', hq', e'⟩ := List.mem_map.mp m
          obtain ⟨j, hj⟩ := List.mem_iff_getElem?.mp hq'
          have hj1 := (List.getElem?_eq_some_iff.mp hj).1
          rw [List.length_take] at hj1
          rw [List.getElem?_take_of_lt (by omega)] at hj
          have : i = j := nodup_ix nd (x := cq.1.name) (by rw [List.getElem?_map, gq]; rfl) (by rw [List.getElem?_map, hj]; exact congrArg some e')
          omega
        show tSeq _ _ _ _ _
        dsimp only [tSeq, tRet, tRetN, tIfS, tAsg, tDrop, tNext, tNever, tVar, tC, tCons, tNil, tCB, tOp, tTest, tB, tAnd, tOr, tNot, tAndV, tOrV, tNotV, tChain, tTup, tLst, tFld, sFld, tCall, tMeth, tMake, tDGet, tDIn, tDNotIn, sDPut, tDNewK, tSl, tPart, tNoPart, gTup, gCons, gNil, gSub, tBM, tUn]
        dsimp only [spW_hues, sp_is_cloth]
        refine ⟨_, rfl, _, rfl, x, dx, _, rfl, M8.at_, wf_no (by decide +kernel), x, dx, _, ts, n, R, rfl, M8.at_, wf_told, M8.told, cq.2, n, clV cq.1, true, rfl, T8 (Evl.Ex.refl _), (show 5 ≤ 1000 by decide), short_cl g2, isCl_good g2, fun H9 e9 => ⟨true, rfl, ?_⟩⟩
        have M9 := M8.same e9
        have d9 := e9 _ _ h8
        have G9 : DGet H9 d (.str cq.1.name) none := by
          have g := DGet.k (k := Sum.inr cq.1.name) d9
          rw [kvs_no nin] at g
          exact g
        refine ⟨_, rfl, cq.2, _, 0, _, rfl, rfl, Or.inl (Or.inl (T8 e9)), rfl, _, rfl, x, _, dx, _, _, rfl, M9.at_, FC.cW, FC.wW, wf_waiting, d, _, rfl, G9, false, rfl, ?_⟩
        refine ⟨_, rfl, _, rfl, x, _, dx, _, _, rfl, M9.at_, FC.cW, FC.wW, wf_waiting, _, rfl, cq.2, _, 0, _, rfl, rfl, Or.inl (Or.inl (T8 e9)), rfl, d, _, rfl, DPut.k (k := Sum.inr cq.1.name) d9 (small16' (by rw [kvs_len, List.length_take]; rw [List.length_append, List.length_map] at h10; omega)), ⟨_, _, rfl⟩, M9.mut d0 d9, ?_, by omega⟩
        rw [upd_same, putK_new _ (kvs_no nin), List.take_add_one, gq]
        unfold kvsOf
        rw [List.map_append]
        rfl
      · have hi' : i = cs.length := by omega
        subst hi'
        rw [List.getElem?_append_right (by rw [List.length_map]; exact Nat.le_refl _), List.length_map, Nat.sub_self] at hta
        rcases fin with ⟨rfl, q⟩ | ⟨t, zs, rfl, ht, hz1, hz2, hz3, hrf, q⟩
        · cases hta
        · have et : t = ta := Option.some.inj hta
          subst et
          have T8 : ∀ {H9 : Hp}, Same H8 H9 → H9 t = some (.tup zs) := fun e => e _ _ (M8.s _ _ (tne ht) ht)
          show tSeq _ _ _ _ _
          dsimp only [tSeq, tRet, tRetN, tIfS, tAsg, tDrop, tNext, tNever, tVar, tC, tCons, tNil, tCB, tOp, tTest, tB, tAnd, tOr, tNot, tAndV, tOrV, tNotV, tChain, tTup, tLst, tFld, sFld, tCall, tMeth, tMake, tDGet, tDIn, tDNotIn, sDPut, tDNewK, tSl, tPart, tNoPart, gTup, gCons, gNil, gSub, tBM, tUn]
          dsimp only [spW_hues, sp_is_cloth]
          rcases hrf with hf | ⟨c, rfl, hg, hin⟩
          · exact ⟨_, rfl, _, rfl, x, dx, _, rfl, M8.at_, wf_no (by decide +kernel), x, dx, _, ts, n, R, rfl, M8.at_, wf_told, M8.told, t, n, zs, false, rfl, T8 (Evl.Ex.refl _), hz1, hz2, hf, fun H9 e9 => ⟨false, rfl, fun cls hc => q cls none H9 hc (M8.same e9).s⟩⟩
          · refine ⟨_, rfl, _, rfl, x, dx, _, rfl, M8.at_, wf_no (by decide +kernel), x, dx, _, ts, n, R, rfl, M8.at_, wf_told, M8.told, t, n, clV c, true, rfl, T8 (Evl.Ex.refl _), hz1, hz2, isCl_good hg, fun H9 e9 => ⟨true, rfl, ?_⟩⟩
            have M9 := M8.same e9
            have d9 := e9 _ _ h8
            obtain ⟨q', hq', e'⟩ := List.mem_map.mp hin
            have G9 : DGet H9 d (.str c.name) (some (.ref q'.2)) := by
              have g := DGet.k (k := Sum.inr c.name) d9
              rw [List.take_length, kvs_val nd hq' e'] at g
              exact g
            refine ⟨_, rfl, t, _, 0, _, rfl, rfl, Or.inl (Or.inl (T8 e9)), rfl, _, rfl, x, _, dx, _, _, rfl, M9.at_, FC.cW, FC.wW, wf_waiting, d, _, rfl, G9, true, rfl, ?_⟩
            exact ⟨_, rfl, t, _, 0, _, rfl, rfl, Or.inl (Or.inl (T8 e9)), rfl, mk_twice TW fun cls d' H' hc e => q cls d' H' hc (M9.s.same e)⟩
    · rintro _ H8 ⟨⟨y5, y6, rfl⟩, M8, d8, i8⟩
      rw [List.length_map, List.length_append, List.length_map] at d8 i8
      rcases fin with ⟨rfl, q⟩ | ⟨t, zs, rfl, ht, _⟩
      · rw [List.append_nil, List.length_map] at h10
        rw [List.length_nil, Nat.add_zero, List.take_length] at d8
        exact q H8 M8.s ⟨⟨n1, n4, nn, f0, f1, t0, by rw [List.length_map]; exact h10, by rw [List.map_map]; exact nd, fun c hc => by
          obtain ⟨q', hq', rfl⟩ := List.mem_map.mp hc
          exact (hcs q' hq').2⟩, dx, a, ts, d, cs, M8.at_, M8.least, M8.told, d8, rfl, fun q' hq' => M8.s _ _ (fun e => by have h := (hcs q' hq').1; unfold ClAt at h; rw [e, hx] at h; cases h) (hcs q' hq').1⟩
      · exact absurd i8 (by show ¬ cs.length + 1 ≤ cs.length; omega)⟩
end Rw82
/-! Works' larger methods. -/
namespace Rw82
open PySem PySem.Spec PyProof.Rows L2
variable {P : Program} {w : World} {mg : Str → Option Value} {base : Heap} {k : Nat} {G : Ad}
/-- Works(r, l, f, ti) -/
theorem mkW {H1 : Hp} {x dx r l : Addr} {n : Nat} {R : Mat} {f ti : Int} {cs : List (Cloth × Addr)} {rest : List Addr} {Q : Hp → Prop} {E : XK} (hx : H1 x = none) (hd : H1 dx = none) (ne : dx ≠ x) (hm : MxAt H1 r n R) (n1 : 1 ≤ n) (n4 : n ≤ 4) (nn : Nonneg R) (f0 : -1 ≤ f) (f1 : f < n) (t0 : 0 ≤ ti)
    (hl : H1 l = some (.lst ((cs.map (·.2) ++ rest).map V.ref))) (h10 : (cs.map (·.2) ++ rest).length ≤ 10) (hcs : ∀ q ∈ cs, ClAt H1 q.2 q.1 ∧ goodC n q.1) (nd : (cs.map (·.1.name)).Nodup)
    (fin : (rest = [] ∧ ∀ H', Same H1 H' → WkAt G H' x ⟨n, R, f, ti, cs.map (·.1)⟩ → Q H') ∨ ∃ t zs, rest = [t] ∧ H1 t = some (.tup zs) ∧ zs.length ≤ 1000 ∧ (∀ a r, zs = .str a :: r → a.length ≤ 1000) ∧ 1 ≤ zs.length ∧ Refused n (cs.map (·.1.name)) zs ∧ ∀ cls d H', Caught G cls → Same H1 H' → E cls d H') :
    spW_init G [.ref x, .ref r, .ref l, .int f, .int ti] (upd (upd H1 dx (.own x)) x (.ins G.CW dx [])) (fun v H2 => v = .non ∧ Q H2) E := by
  have s : Same H1 (upd (upd H1 dx (.own x)) x (.ins G.CW dx [])) := fun b o e => by
    rw [upd_ne (ne_of_none e hx), upd_ne (ne_of_none e hd)]
    exact e
  have sb : ∀ {H'}, SB x (upd (upd H1 dx (.own x)) x (.ins G.CW dx [])) H' → Same H1 H' := fun z b o e => z b o (ne_of_none e hx) (s b o e)
  refine ⟨x, dx, r, l, n, R, f, ti, cs, rest, rfl, upd_same, hm.kp (Kp.of s), n1, n4, nn, f0, f1, t0, Or.inl (Or.inl (s _ _ hl)), ne_of_none hl hx, h10, fun q hq => ⟨(hcs q hq).1.kp (Kp.of s), (hcs q hq).2⟩, nd, ?_⟩
  rcases fin with ⟨h1, h2⟩ | ⟨t, zs, h1, h2, h3, h4, h5, h6, h7⟩
  · exact Or.inl ⟨h1, fun H' z W => ⟨rfl, h2 H' (sb z) W⟩⟩
  · exact Or.inr ⟨t, zs, h1, s _ _ h2, h3, h4, h5, h6, fun cls d H' hc z => h7 cls d H' hc (sb z)⟩
theorem nd_sub {α : Type} [DecidableEq α] : ∀ {ys zs : List α}, ys.Nodup → (∀ y ∈ ys, y ∈ zs) → ys.length ≤ zs.length
  | [], _, _, _ => Nat.zero_le _
  | y :: ys, zs, n, h => by
    rw [List.nodup_cons] at n
    have h1 : y ∈ zs := h y (List.mem_cons_self ..)
    have h2 := nd_sub (zs := zs.erase y) n.2 fun z m => (List.mem_erase_of_ne (fun e => n.1 (by rw [← e]; exact m))).mpr (h z (List.mem_cons_of_mem _ m))
    rw [List.length_erase_of_mem h1] at h2
    have := List.length_pos_of_mem h1
    rw [List.length_cons]
    omega
abbrev spW_want (G : Ad) : Sp := fun vs H Q _ => ∃ (p : Addr) (W : Wk) (l : Addr) (ys : List Str), vs = [.ref p, .ref l] ∧ WkAt G H p W ∧ SqL G.K H l (ys.map V.str) ∧ ys.Nodup ∧ (∀ y ∈ ys, y ∈ W.cl.map (·.name)) ∧ ∀ H', Same H H' → Q .non H'
theorem sc_Works_want : FnScope ["self", "names", "seen", "name"] ["self", "names"] (defScope sWorks_want) := ⟨rfl, rfl, rfl, by decide +kernel, rfl, by decide +kernel, by decide +kernel⟩
theorem mW_want (FC : Fc G mg) (C_is_name : Ca P w G.K mg base k "is_name" (sp_is_name G)) (F : Md G.K G.CW "want" "Works.want" sWorks_want) : Me P w G.K mg base (k + 1) G.CW "want" (spW_want G) :=
  me_0 F sc_Works_want (fun _ _ _ _ _ _ us hl => match us, hl with | [_, _], _ => rfl) (fun vs H Q E h => by obtain ⟨_, _, _, _, rfl, _⟩ := h; rfl)
  fun f cdv A outer s H vs Q E hr h => ⟨_, /- slots: 0 self, 1 names, 2 seen, 3 name -/ (pss_cons (ps_set (i := 2) sc_Works_want.nd rfl (Or.inl rfl) pe_dnewK)
      (pss_one (ps_for PassesOwn.never rfl (pi_list (pv 1)) (pg_name (i := 3) sc_Works_want.nd rfl (Or.inl rfl)) (pss_cons (ps_if (PW.pt (pw_or (pt_not (pt_val (pe_ca C_is_name hr (pa_cons (pv 3) pa_nil)))) (pw_or (pt_cmp (pc_dnotin (hu_of hr) (pv 3) (pe_fld (pv 0) rfl)) rfl) (pw_or1 (pt_cmp (pc_din (hu_of hr) (pv 3) (pv 2)) rfl))))) (pss_one ps_never) pss_nil)
      (pss_one (ps_dput (hu_of hr) (pv 2) (pv 3) pe_bl rfl)))))), by
    obtain ⟨p, W, l, ys, rfl, hW, hl, nd, hin, q⟩ := h
    obtain ⟨dx, ls, ts, d, cs, O⟩ := hW.open_
    have ok := hW.ok
    have ln : ys.length ≤ 10 := by
      have h1 := nd_sub nd hin
      rw [List.length_map] at h1
      have := ok.few
      omega
    dsimp only [tSeq, tRet, tRetN, tIfS, tAsg, tDrop, tNext, tNever, tVar, tC, tCons, tNil, tCB, tOp, tTest, tB, tAnd, tOr, tNot, tAndV, tOrV, tNotV, tChain, tTup, tLst, tFld, sFld, tCall, tMeth, tMake, tDGet, tDIn, tDNotIn, sDPut, tDNewK, tSl, tPart, tNoPart, gTup, gCons, gNil, gSub, tBM, tUn]
    intro D hD
    refine Evl.s_forLn (xs := ys.map V.str) (Evl.ev_var rfl) (Evl.ex_l (same_new hD) hl) (fun i σ' H' => (∃ y3, σ' = [some (.ref p), some (.ref l), some (.ref D), y3]) ∧ Same H H' ∧ H' D = some (.dK ((ys.take i).map fun y => (Sum.inr y, V.bl true))))
      (fun H1 e => ⟨⟨_, rfl⟩, Evl.Ex.trans (same_new hD) e, e _ _ upd_same⟩) (fun i σ' H' _ z => Evl.ex_l z.2.1 hl) ?_ ?_
    · rintro i v _ H1 hv ⟨⟨y3, rfl⟩, e1, d1⟩
      rw [List.getElem?_map] at hv
      obtain ⟨y, hy, rfl⟩ := Option.map_eq_some_iff.mp hv
      have my := List.mem_of_getElem? hy
      obtain ⟨c, hc, hcn⟩ := List.mem_map.mp (hin y my)
      have gd := ok.good c hc
      have oy : okName y = true := by rw [← hcn]; exact gd.1
      show tSeq _ _ _ _ _
      dsimp only [tSeq, tRet, tRetN, tIfS, tAsg, tDrop, tNext, tNever, tVar, tC, tCons, tNil, tCB, tOp, tTest, tB, tAnd, tOr, tNot, tAndV, tOrV, tNotV, tChain, tTup, tLst, tFld, sFld, tCall, tMeth, tMake, tDGet, tDIn, tDNotIn, sDPut, tDNewK, tSl, tPart, tNoPart, gTup, gCons, gNil, gSub, tBM, tUn]
      dsimp only [sp_is_name]
      refine ⟨_, rfl, y, rfl, by have := okName_len oy; omega, fun H2 e2 => ⟨true, by rw [oy], ?_⟩⟩
      obtain ⟨t, ht, hat⟩ := O.has hc
      have e12 := Evl.Ex.trans e1 e2
      have g : DGet H2 d (.str y) (some (.ref t)) := by
        have g := DGet.k (k := Sum.inr y) (e12 _ _ O.wait)
        rw [kvs_val (O.nd ok) ht hcn] at g
        exact g
      have nin : valV ((ys.take i).map fun y => ((Sum.inr y : Key), V.bl true)) (Sum.inr y) = none := by
        have h0 : ∀ l : List Str, y ∉ l → valV (l.map fun y => ((Sum.inr y : Key), V.bl true)) (Sum.inr y) = none := by
          intro l
          induction l with
          | nil => intro _; rfl
          | cons a l ih =>
            intro h
            rw [List.mem_cons, not_or] at h
            rw [List.map_cons, valV_neg (p := ((Sum.inr a : Key), V.bl true)) (fun z => h.1 (Sum.inr.inj z).symm)]
            exact ih h.2
        refine h0 _ fun m => ?_
        obtain ⟨j, hj⟩ := List.mem_iff_getElem?.mp m
        have hj1 := (List.getElem?_eq_some_iff.mp hj).1
        rw [List.length_take] at hj1
        rw [List.getElem?_take_of_lt (by omega)] at hj
        have := nodup_ix nd hy hj
        omega
      have g2 : DGet H2 D (.str y) none := by
        have g := DGet.k (k := Sum.inr y) (e2 _ _ d1)
        rw [nin] at g
        exact g
      refine ⟨_, rfl, _, rfl, p, _, dx, _, _, rfl, e12 _ _ O.at_, FC.cW, FC.wW, wf_waiting, d, _, rfl, g, false, rfl, _, rfl, _, rfl, D, _, rfl, g2, false, rfl, ?_⟩
      refine ⟨_, rfl, _, rfl, D, _, rfl, DPut.k (k := Sum.inr y) (e2 _ _ d1) (small16' (by rw [List.length_map, List.length_take]; omega)), ⟨_, rfl⟩, same_mut e12 hD, ?_⟩
      rw [upd_same, putK_new _ nin, List.take_add_one, hy, List.map_append]
      rfl
    · rintro _ H1 ⟨⟨y3, rfl⟩, e1, d1⟩
      exact q H1 e1⟩
/-- a comprehension over a list that stands at a -/
theorem fix_lc {K : PySem.W.Frag} {a : Addr} {j : Nat} {t : TT} {te : TE} {vs : List Nat} {σ : L2.St} {H : Hp} {Q : Addr → Hp → Prop} (h : tLc (iList K (tC (.ref a))) (gName j) t te vs σ H (fun x H2 => ∃ D, x = .ref D ∧ Q D H2)) :
    ∃ a', V.ref a = V.ref a' ∧ (∃ xs, SqL K H a' xs) ∧ ∀ D, H D = none → ∃ W : Nat → Nat → Hp → Prop, (∃ m, W 0 m (upd H D (.lst []))) ∧ ∀ i m H, W i m H →
      ((Itl K a').stop i H ∧ Q D H) ∨ ((Itl K a').go i H ∧ ∃ Nx : Hp → Prop, (∀ H', Nx H' → ∃ m', m' < m ∧ W (i + 1) m' H') ∧ ∀ x H', (Itl K a').yld i H x H' → gName j x (wipe σ vs) H' fun σ2 H2 => wipe σ2 vs = wipe σ vs ∧ t σ2 H2 fun b H3 =>
        if b = true then te σ2 H3 fun y H4 => ∃ acc, H4 D = some (.lst acc) ∧ acc.length < sizeLine ∧ Nx (upd H4 D (.lst (acc ++ [y]))) else Nx H3) := by
  obtain ⟨a', e, h1, h2⟩ := h
  refine ⟨a', e, h1, fun D hD => ?_⟩
  obtain ⟨W, w0, h3⟩ := h2 D hD
  refine ⟨W, w0, fun i m H w => ?_⟩
  rcases h3 i m H w with ⟨s, D', e', q⟩ | g
  · cases e'
    exact Or.inl ⟨s, q⟩
  · exact Or.inr g
theorem lc_goL {K : PySem.W.Frag} {a : Addr} {xs : List V} {j : Nat} {t : TT} {te : TE} {vs : List Nat} {σ : L2.St} {H : Hp} {Q : Addr → Hp → Prop} (f : Nat → Bool) (v : Nat → V) (hx : SqL K H a xs) (hz : xs.length ≤ 40000) (ht : ∀ (i : Nat) (x : V) H1, Same H H1 → xs[i]? = some x → Evl.EvT t ((wipe σ vs).set j (some x)) H1 (f i)) (he : ∀ (i : Nat) (x : V) H1, Same H H1 → xs[i]? = some x → f i = true → Evl.Ev te ((wipe σ vs).set j (some x)) H1 (v i))
    (q : ∀ D H2, H D = none → Same H H2 → H2 D = some (.lst (Evl.given xs.length f v)) → Q D H2) (hw : ∀ x, wipe ((wipe σ vs).set j (some x)) vs = wipe σ vs := by intro _; rfl) :
    ∃ a', V.ref a = V.ref a' ∧ (∃ xs, SqL K H a' xs) ∧ ∀ D, H D = none → ∃ W : Nat → Nat → Hp → Prop, (∃ m, W 0 m (upd H D (.lst []))) ∧ ∀ i m H, W i m H →
      ((Itl K a').stop i H ∧ Q D H) ∨ ((Itl K a').go i H ∧ ∃ Nx : Hp → Prop, (∀ H', Nx H' → ∃ m', m' < m ∧ W (i + 1) m' H') ∧ ∀ x H', (Itl K a').yld i H x H' → gName j x (wipe σ vs) H' fun σ2 H2 => wipe σ2 vs = wipe σ vs ∧ t σ2 H2 fun b H3 =>
        if b = true then te σ2 H3 fun y H4 => ∃ acc, H4 D = some (.lst acc) ∧ acc.length < sizeLine ∧ Nx (upd H4 D (.lst (acc ++ [y]))) else Nx H3) :=
  (Evl.el_lcL (tl := tC (.ref a)) f v Evl.ev_c hx hz hw ht he) H (Evl.Ex.refl H) (fun x H2 => ∃ D, x = .ref D ∧ Q D H2) (fun D H2 h1 h2 h3 => ⟨D, rfl, q D H2 h1 h2 h3⟩) |> fix_lc
/-- the cloths of some names, read in a comprehension -/
theorem lc_pick {σ : L2.St} {H : Hp} {p dx ls ts d : Addr} {W : Wk} {cs cs' : List (Cloth × Addr)} {Q : Addr → Hp → Prop} {j i : Nat} {vs : List Nat} (FC : Fc G mg) (O : WkO G H p W dx ls ts d cs) (ok : W.Ok) (hsub : ∀ q ∈ cs', q ∈ cs) (hn : cs'.length ≤ 1000)
    {a : Addr} (ha : SqL G.K H a ((cs'.map (·.1.name)).map V.str)) (q : ∀ D H2, H D = none → Same H H2 → H2 D = some (.lst ((cs'.map (·.2)).map V.ref)) → Q D H2) (hw : ∀ x, wipe ((wipe σ vs).set j (some x)) vs = wipe σ vs := by intro _; rfl)
    (hi : ∀ x, ((wipe σ vs).set j (some x))[i]? = some (some (.ref p)) := by intro _; rfl) (hj : ∀ x, ((wipe σ vs).set j (some x))[j]? = some (some x) := by intro _; rfl) :
    ∃ a', V.ref a = V.ref a' ∧ (∃ xs, SqL G.K H a' xs) ∧ ∀ D, H D = none → ∃ W : Nat → Nat → Hp → Prop, (∃ m, W 0 m (upd H D (.lst []))) ∧ ∀ i' m H, W i' m H →
      ((Itl G.K a').stop i' H ∧ Q D H) ∨ ((Itl G.K a').go i' H ∧ ∃ Nx : Hp → Prop, (∀ H', Nx H' → ∃ m', m' < m ∧ W (i' + 1) m' H') ∧ ∀ x H', (Itl G.K a').yld i' H x H' → gName j x (wipe σ vs) H' fun σ2 H2 => wipe σ2 vs = wipe σ vs ∧ tYes σ2 H2 fun b H3 =>
        if b = true then tDGet (tFld G.K (tVar i) "waiting") (tVar j) σ2 H3 fun y H4 => ∃ acc, H4 D = some (.lst acc) ∧ acc.length < sizeLine ∧ Nx (upd H4 D (.lst (acc ++ [y]))) else Nx H3) := by
  have e := given_all (fun q : Cloth × Addr => V.ref q.2) noCl cs'
  have hl : ((cs'.map (·.1.name)).map V.str).length = cs'.length := by rw [List.length_map, List.length_map]
  refine lc_goL (fun _ => true) (fun i => V.ref (cs'.getD i noCl).2) ha (by rw [hl]; omega) (fun i x H1 e1 hx => fun H2 _ Q q => q H2 (Evl.Ex.refl H2)) (fun n x H1 e1 hx _ => ?_) (fun D H2 hD e2 h2 => q D H2 hD e2 ?_) hw
  · rw [List.map_map, List.getElem?_map] at hx
    obtain ⟨q, hq, rfl⟩ := Option.map_eq_some_iff.mp hx
    rw [getD_of hq]
    exact ev_dget (ev_fld (Evl.ev_var (hi _)) (e1 _ _ O.at_) FC.cW FC.wW wf_waiting) (Evl.ev_var (hj _)) (e1 _ _ O.wait) (kvs_val (O.nd ok) (hsub q (List.mem_of_getElem? hq)) rfl)
  · rw [hl, e] at h2
    rw [List.map_map]
    exact h2
abbrev spW_only (G : Ad) : Sp := fun vs H Q _ => ∃ (p : Addr) (W : Wk) (l : Addr) (ys : List Str), vs = [.ref p, .ref l] ∧ WkAt G H p W ∧ H l = some (.lst (ys.map V.str)) ∧ ys.Nodup ∧ (∀ y ∈ ys, y ∈ W.cl.map (·.name)) ∧
  ∀ H' p' cl', Same H H' → WkAt G H' p' ⟨W.n, W.R, W.last, W.time, cl'⟩ → cl'.map (·.name) = ys → (∀ c ∈ cl', c ∈ W.cl) → Q (.ref p') H'
theorem sc_Works_only : FnScope ["self", "names", "name"] ["self", "names"] (defScope sWorks_only) := ⟨rfl, rfl, rfl, by decide +kernel, rfl, by decide +kernel, by decide +kernel⟩
theorem mW_only (FC : Fc G mg) (MW_want : Me P w G.K mg base k G.CW "want" (spW_want G)) (Mk_Works : Ma P w G.K mg base k "Works" G.CW (spW_init G)) (F : Md G.K G.CW "only" "Works.only" sWorks_only) : Me P w G.K mg base (k + 2) G.CW "only" (spW_only G) :=
  me_0 F sc_Works_only (fun _ _ _ _ _ _ us hl => match us, hl with | [_, _], _ => rfl) (fun vs H Q E h => by obtain ⟨_, _, _, _, rfl, _⟩ := h; rfl)
  fun f cdv A outer s H vs Q E hr h => ⟨_, /- slots: 0 self, 1 names, 2 name -/ (pss_cons (ps_expr (pe_me MW_want hr (pv 0) (pa_cons (pv 1) pa_nil)))
      (pss_one (ps_ret (pe_ma Mk_Works hr (pa_cons (pe_fld (pv 0) rfl) (pa_cons (pe_lc (own := [("name", 2)]) (g := (gName 2)) (tt := tYes) (te := (tDGet (tFld G.K (tVar 0) "waiting") (tVar 2))) rfl sc_Works_only.nd (pi_list (pv 1)) (blkOk_by (own := [("name", 2)]) (N := ["self", "names", "name"]) (sc := defScope sWorks_only) (by decide +kernel)) (fun _ _ _ _ _ => by exact (pg_name (i := 2) sc_Works_only.nd rfl (Or.inl rfl))) (fun _ _ _ _ _ => by exact pts_nil) (fun _ _ _ _ _ => by exact (pe_dget (hu_of hr) (pe_fld (pv 0) rfl) (pv 2) (fun _ _ => rfl)))) (pa_cons (pe_fld (pv 0) rfl) (pa_cons (pe_fld (pv 0) rfl) pa_nil)))))))), by
    obtain ⟨p, W, l, ys, rfl, hW, hl, nd, hin, q⟩ := h
    dsimp only [tSeq, tRet, tRetN, tIfS, tAsg, tDrop, tNext, tNever, tVar, tC, tCons, tNil, tCB, tOp, tTest, tB, tAnd, tOr, tNot, tAndV, tOrV, tNotV, tChain, tTup, tLst, tFld, sFld, tCall, tMeth, tMake, tDGet, tDIn, tDNotIn, sDPut, tDNewK, tSl, tPart, tNoPart, gTup, gCons, gNil, gSub, tBM, tUn]
    dsimp only [spW_want]
    obtain ⟨dx0, ls0, ts0, d0, cs0, O0⟩ := hW.open_
    refine ⟨_, rfl, p, dx0, _, rfl, O0.at_, wf_no (by decide +kernel), _, rfl, p, W, l, ys, rfl, hW, Or.inl (Or.inl hl), nd, hin, fun H1 e1 => ?_⟩
    have hW1 := hW.same e1
    obtain ⟨dx, ls, ts, d, cs, O⟩ := hW1.open_
    obtain ⟨cs', c1, c2⟩ := pick_all (cs := cs) (ys := ys) (by rw [O.names]; exact hin)
    have ok := hW.ok
    have ln : cs'.length ≤ 10 := by
      have h1 := nd_sub nd hin
      rw [List.length_map, ← c1, List.length_map] at h1
      have := ok.few
      omega
    refine ⟨_, rfl, p, _, dx, _, _, rfl, O.at_, FC.cW, FC.wT, wf_told, ?_⟩
    refine ⟨_, rfl, lc_pick (cs' := cs') FC O ok c2 (by omega) (Or.inl (Or.inl (by rw [c1]; exact e1 _ _ hl))) fun a H2 ha e2 h2 => ?_⟩
    · have O2 := e2 _ _ O.at_
      refine ⟨_, rfl, p, _, dx, _, _, rfl, O2, FC.cW, FC.wA, wf_last, _, rfl, p, _, dx, _, _, rfl, O2, FC.cW, FC.wI, wf_time, fun x dxx hx hd ne => ?_⟩
      refine mkW hx hd ne (O.told.kp (Kp.of e2)) ok.n1 ok.n4 ok.nn ok.l0 ok.l1 ok.t0 (rest := []) (by rw [List.append_nil]; exact h2) (by rw [List.append_nil, List.length_map]; exact ln) (fun q hq => ⟨(O.cloths q (c2 q hq)).kp (Kp.of e2), ok.good _ (by rw [← O.cl]; exact List.mem_map.mpr ⟨q, c2 q hq, rfl⟩)⟩) (by rw [c1]; exact nd) (Or.inl ⟨rfl, fun H3 e3 W3 => ?_⟩)
      refine q H3 x _ (Evl.Ex.trans (Evl.Ex.trans e1 e2) e3) W3 (by rw [List.map_map]; exact c1) fun c hc => ?_
      obtain ⟨q', hq', rfl⟩ := List.mem_map.mp hc
      rw [← O.cl]
      exact List.mem_map.mpr ⟨q', c2 q' hq', rfl⟩⟩
/-- names in their order, as cloths -/
theorem pick_perm {cs : List (Cloth × Addr)} {ys : List Str} (nd : (cs.map (·.1.name)).Nodup) (hp : ys.Perm (cs.map (·.1.name))) : ∃ cs' : List (Cloth × Addr), cs'.map (·.1.name) = ys ∧ (∀ q ∈ cs', q ∈ cs) ∧ cs'.Perm cs := by
  obtain ⟨cs', c1, c2⟩ := pick_all (cs := cs) (ys := ys) fun y m => hp.mem_iff.mp m
  refine ⟨cs', c1, c2, ?_⟩
  have nd' : (cs'.map (·.1.name)).Nodup := by rw [c1]; exact hp.nodup_iff.mpr nd
  have n1 : cs'.Nodup := nd_of_map _ nd'
  have n2 : cs.Nodup := nd_of_map _ nd
  refine (List.perm_ext_iff_of_nodup n1 n2).mpr fun q => ⟨c2 q, fun m => ?_⟩
  have m1 : q.1.name ∈ cs'.map (·.1.name) := by rw [c1]; exact hp.mem_iff.mpr (List.mem_map.mpr ⟨q, m, rfl⟩)
  obtain ⟨q', m2, e⟩ := List.mem_map.mp m1
  have m3 := c2 q' m2
  obtain ⟨i, hi⟩ := List.mem_iff_getElem?.mp m
  obtain ⟨j, hj⟩ := List.mem_iff_getElem?.mp m3
  have : i = j := nodup_ix nd (x := q.1.name) (by rw [List.getElem?_map, hi]; rfl) (by rw [List.getElem?_map, hj]; exact congrArg some e)
  subst this
  rw [hi] at hj
  cases hj
  exact m2
abbrev spW_without (G : Ad) : Sp := fun vs H Q E => ∃ (p : Addr) (W : Wk) (z : Str), vs = [.ref p, .str z] ∧ WkAt G H p W ∧
  (z ∈ W.cl.map (·.name) → ∀ H' p' cl', Same H H' → WkAt G H' p' ⟨W.n, W.R, W.last, W.time, cl'⟩ → cl'.Perm (W.cl.filter fun c => !decide (c.name = z)) → Q (.ref p') H') ∧ (z ∉ W.cl.map (·.name) → ∀ cls d H', Caught G cls → Same H H' → E cls d H')
theorem perm_of_names {l m : List Cloth} {ys : List Str} (nd : (m.map (·.name)).Nodup) (h1 : l.map (·.name) = ys) (h2 : ∀ c ∈ l, c ∈ m) (hp : ys.Perm (m.map (·.name))) : l.Perm m := by
  have nl : (l.map (·.name)).Nodup := by rw [h1]; exact hp.nodup_iff.mpr nd
  refine (List.perm_ext_iff_of_nodup (nd_of_map _ nl) (nd_of_map _ nd)).mpr fun c => ⟨h2 c, fun m1 => ?_⟩
  have m2 : c.name ∈ l.map (·.name) := by rw [h1]; exact hp.mem_iff.mpr (List.mem_map.mpr ⟨c, m1, rfl⟩)
  obtain ⟨c', m3, e⟩ := List.mem_map.mp m2
  rw [← one_of_name nd (h2 c' m3) m1 e]
  exact m3
theorem filter_names (l : List Cloth) (z : Str) : (l.map (·.name)).filter (fun y => !decide (y = z)) = (l.filter fun c => !decide (c.name = z)).map (·.name) := by
  rw [List.filter_map]
  rfl
theorem sc_Works_without : FnScope ["self", "name", "other"] ["self", "name"] (defScope sWorks_without) := ⟨rfl, rfl, rfl, by decide +kernel, rfl, by decide +kernel, by decide +kernel⟩
theorem mW_without (B : Bn mg) (FC : Fc G mg) (MW_names : Me P w G.K mg base k G.CW "names" (spW_names G)) (MW_cloth : Me P w G.K mg base k G.CW "cloth" (spW_cloth G)) (MW_only : Me P w G.K mg base k G.CW "only" (spW_only G)) (F : Md G.K G.CW "without" "Works.without" sWorks_without) : Me P w G.K mg base (k + 1) G.CW "without" (spW_without G) :=
  me_X F sc_Works_without (fun _ _ _ _ _ _ us hl => match us, hl with | [_, _], _ => rfl) (fun vs H Q E h => by obtain ⟨_, _, _, rfl, _⟩ := h; rfl)
  fun f cdv A outer s H vs Q E hr h => ⟨_, /- slots: 0 self, 1 name, 2 other -/ (pss_cons (ps_expr (pe_meX MW_cloth hr (passes_call (takes_of rfl rfl rfl rfl) fun _ _ _ _ h => h) (pv 0) (pa_cons (pv 1) pa_nil)))
      (pss_one (ps_ret (pe_me MW_only hr (pv 0) (pa_cons (pe_lc (own := [("other", 2)]) (g := (gName 2)) (tt := (tTest (tOp rNe (tVar 2) (tVar 1)))) (te := (tVar 2)) rfl sc_Works_without.nd (pi_list (pe_me0 MW_names hr (pv 0))) (blkOk_by (own := [("other", 2)]) (N := ["self", "name", "other"]) (sc := defScope sWorks_without) (by decide +kernel)) (fun _ _ _ _ _ => by exact (pg_name (i := 2) sc_Works_without.nd rfl (Or.inl rfl))) (fun _ _ _ _ _ => by exact (pts_one (pt_cmpR op_ne (pv 2) (pv 1) (nomark _)))) (fun _ _ _ _ _ => by exact (pv 2))) pa_nil))))), by
    obtain ⟨p, W, z, rfl, hW, q, qe⟩ := h
    dsimp only [tSeq, tRet, tRetN, tIfS, tAsg, tDrop, tNext, tNever, tVar, tC, tCons, tNil, tCB, tOp, tTest, tB, tAnd, tOr, tNot, tAndV, tOrV, tNotV, tChain, tTup, tLst, tFld, sFld, tCall, tMeth, tMake, tDGet, tDIn, tDNotIn, sDPut, tDNewK, tSl, tPart, tNoPart, gTup, gCons, gNil, gSub, tBM, tUn]
    dsimp only [spW_cloth, spW_only]
    obtain ⟨dx, ls, ts, d, cs, O⟩ := hW.open_
    refine ⟨_, rfl, p, dx, _, rfl, O.at_, wf_no (by decide +kernel), _, rfl, p, W, z, rfl, hW, fun c t hc hn hat => ?_, fun hz cls d' H' hc e => qe hz cls d' H' hc e⟩
    have hz : z ∈ W.cl.map (·.name) := List.mem_map.mpr ⟨c, hc, hn⟩
    refine ⟨_, rfl, p, dx, _, rfl, O.at_, wf_no (by decide +kernel), ?_⟩
    refine ⟨_, rfl, p, dx, _, rfl, O.at_, wf_no (by decide +kernel), p, W, rfl, hW, fun H1 a ys e1 hp hs ha => ?_⟩
    have nd := hW.ok.nd
    have few := hW.ok.few
    have ly : ys.length ≤ 10 := by rw [hp.length_eq, List.length_map]; exact few
    refine lc_goL (fun i => !decide (ys.getD i "" = z)) (fun i => V.str (ys.getD i "")) (Or.inl (Or.inl ha)) (by rw [List.length_map]; omega) (fun i x H2 e2 hx => ?_) (fun i x H2 e2 hx _ => ?_) fun l H2 hl e2 h2 => ?_
    · rw [List.getElem?_map] at hx
      obtain ⟨y, hy, rfl⟩ := Option.map_eq_some_iff.mp hx
      rw [getD_of hy]
      refine Evl.et_is (Evl.et_test (Evl.ev_op (Evl.ev_var rfl) (Evl.ev_var rfl) (Evl.rv_ne rfl))) ?_
      by_cases e : y = z
      · rw [decide_eq_true e, decide_eq_true (congrArg V.str e)]
      · rw [decide_eq_false e, decide_eq_false fun w => e (V.str.inj w)]
    · rw [List.getElem?_map] at hx
      obtain ⟨y, hy, rfl⟩ := Option.map_eq_some_iff.mp hx
      rw [getD_of hy]
      exact Evl.ev_var rfl
    · rw [List.length_map, given_l (fun y => !decide (y = z)) V.str ""] at h2
      refine ⟨p, W, l, _, rfl, hW.same (Evl.Ex.trans e1 e2), h2, (hp.nodup_iff.mpr nd).filter _, fun y hy => hp.mem_iff.mp (List.mem_filter.mp hy).1, fun H3 p' cl' e3 W3 c1 c2 => ?_⟩
      have hpf : (ys.filter fun y => !decide (y = z)).Perm ((W.cl.filter fun c => !decide (c.name = z)).map (·.name)) := by
        rw [← filter_names]
        exact hp.filter _
      have ndf : ((W.cl.filter fun c => !decide (c.name = z)).map (·.name)).Nodup := by
        rw [← filter_names]
        exact nd.filter _
      refine q hz H3 p' cl' (Evl.Ex.trans (Evl.Ex.trans e1 e2) e3) W3 (perm_of_names ndf c1 (fun c' hc' => List.mem_filter.mpr ⟨c2 c' hc', ?_⟩) hpf)
      have m : c'.name ∈ ys.filter fun y => !decide (y = z) := by rw [← c1]; exact List.mem_map.mpr ⟨c', hc', rfl⟩
      exact (List.mem_filter.mp m).2⟩
abbrev spW_put (G : Ad) : Sp := fun vs H Q E => ∃ (p : Addr) (W : Wk) (t : Addr) (zs : List V), vs = [.ref p, .ref t] ∧ WkAt G H p W ∧ H t = some (.tup zs) ∧ W.cl.length < 10 ∧
  ((∃ c, zs = clV c ∧ goodC W.n c ∧ c.name ∉ W.cl.map (·.name) ∧ ∀ H' p' cl', Same H H' → WkAt G H' p' ⟨W.n, W.R, W.last, W.time, cl'⟩ → cl'.Perm (c :: W.cl) → Q (.ref p') H') ∨
    (zs.length ≤ 1000 ∧ (∀ a r, zs = .str a :: r → a.length ≤ 1000) ∧ 1 ≤ zs.length ∧ Refused W.n (W.cl.map (·.name)) zs ∧ ∀ cls d H', Caught G cls → Same H H' → E cls d H'))
theorem sc_Works_put : FnScope ["self", "cloth", "cloths", "name"] ["self", "cloth"] (defScope sWorks_put) := ⟨rfl, rfl, rfl, by decide +kernel, rfl, by decide +kernel, by decide +kernel⟩
theorem mW_put (B : Bn mg) (FC : Fc G mg) (MW_names : Me P w G.K mg base k G.CW "names" (spW_names G)) (Mk_Works : Ma P w G.K mg base k "Works" G.CW (spW_init G)) (F : Md G.K G.CW "put" "Works.put" sWorks_put) : Me P w G.K mg base (k + 2) G.CW "put" (spW_put G) :=
  me_X F sc_Works_put (fun _ _ _ _ _ _ us hl => match us, hl with | [_, _], _ => rfl) (fun vs H Q E h => by obtain ⟨_, _, _, _, rfl, _⟩ := h; rfl)
  fun f cdv A outer s H vs Q E hr h => ⟨_, /- slots: 0 self, 1 cloth, 2 cloths, 3 name -/ (pss_cons (ps_setLc (i := 2) (own := [("name", 3)]) (g := (gName 3)) (tt := tYes) (te := (tDGet (tFld G.K (tVar 0) "waiting") (tVar 3))) rfl sc_Works_put.nd rfl rfl (sw_true rfl rfl rfl (by decide +kernel)) (pi_list (pe_me0 MW_names hr (pv 0))) (blkOk_by (own := [("name", 3)]) (N := ["self", "cloth", "cloths", "name"]) (sc := defScope sWorks_put) (by decide +kernel)) (fun _ _ _ _ _ => by exact (pg_name (i := 3) sc_Works_put.nd rfl (Or.inl rfl))) (fun _ _ _ _ _ => by exact pts_nil) (fun _ _ _ _ _ => by exact (pe_dget (hu_of hr) (pe_fld (pv 0) rfl) (pv 3) (fun _ _ => rfl))))
      (pss_one (ps_ret (pe_maX Mk_Works hr (passes_call (takes_of rfl rfl rfl rfl) fun _ _ _ _ h => h) (pa_cons (pe_fld (pv 0) rfl) (pa_cons (pe_op op_cat (pv 2) (pe_lst (pa_cons (pv 1) pa_nil))) (pa_cons (pe_fld (pv 0) rfl) (pa_cons (pe_fld (pv 0) rfl) pa_nil)))))))), by
    obtain ⟨p, W, t, zs, rfl, hW, ht, l10, fin⟩ := h
    dsimp only [tSeq, tRet, tRetN, tIfS, tAsg, tDrop, tNext, tNever, tVar, tC, tCons, tNil, tCB, tOp, tTest, tB, tAnd, tOr, tNot, tAndV, tOrV, tNotV, tChain, tTup, tLst, tFld, sFld, tCall, tMeth, tMake, tDGet, tDIn, tDNotIn, sDPut, tDNewK, tSl, tPart, tNoPart, gTup, gCons, gNil, gSub, tBM, tUn]
    obtain ⟨dx, ls, ts, d, cs, O⟩ := hW.open_
    have ok := hW.ok
    refine ⟨_, rfl, p, dx, _, rfl, O.at_, wf_no (by decide +kernel), p, W, rfl, hW, fun H1 a ys e1 hp hs ha => ?_⟩
    obtain ⟨cs', c1, c2, c3⟩ := pick_perm (ys := ys) (O.nd ok) (by rw [O.names]; exact hp)
    have ln : cs'.length ≤ 9 := by
      have h1 := congrArg List.length O.cl
      rw [List.length_map] at h1
      rw [c3.length_eq, h1]
      omega
    have c4 : (cs'.map (·.1)).Perm W.cl := by rw [← O.cl]; exact c3.map _
    have O1 : WkO G H1 p W dx ls ts d cs := ⟨e1 _ _ O.at_, O.least.kp (Kp.of e1), O.told.kp (Kp.of e1), e1 _ _ O.wait, O.cl, fun q hq => (O.cloths q hq).kp (Kp.of e1)⟩
    refine lc_pick (cs' := cs') FC O1 ok c2 (by omega) (Or.inl (Or.inl (by rw [c1]; exact ha))) fun l H2 hl e2 h2 => ?_
    have O2 := e2 _ _ O1.at_
    have e12 := Evl.Ex.trans e1 e2
    refine ⟨_, rfl, p, _, dx, _, _, rfl, O2, FC.cW, FC.wT, wf_told, _, rfl, _, rfl, (show 1 ≤ sizeLine by decide), fun b hb => ?_⟩
    have h2b := (same_new (o := .lst [.ref t]) hb) _ _ h2
    refine ⟨l, b, _, _, rfl, rfl, h2b, upd_same, by rw [List.length_map, List.length_map]; exact small16 (show cs'.length + 1 ≤ 100000 by omega), fun m hm => ?_⟩
    have e23 : Same H2 (upd (upd H2 b (.lst [.ref t])) m (.lst ((cs'.map (·.2)).map V.ref ++ [.ref t]))) := Evl.Ex.trans (same_new hb) (same_new hm)
    have O3 := e23 _ _ O2
    have e13 := Evl.Ex.trans e12 e23
    refine ⟨_, rfl, p, _, dx, _, _, rfl, O3, FC.cW, FC.wA, wf_last, _, rfl, p, _, dx, _, _, rfl, O3, FC.cW, FC.wI, wf_time, fun x dxx hx hd ne => ?_⟩
    have kx : ∀ q ∈ cs', ClAt (upd (upd H2 b (.lst [.ref t])) m (.lst ((cs'.map (·.2)).map V.ref ++ [.ref t]))) q.2 q.1 ∧ goodC W.n q.1 := fun q hq => ⟨(O.cloths q (c2 q hq)).kp (Kp.of e13), ok.good _ (by rw [← O.cl]; exact List.mem_map.mpr ⟨q, c2 q hq, rfl⟩)⟩
    have nd' : (cs'.map (·.1.name)).Nodup := by rw [c1]; exact hp.nodup_iff.mpr ok.nd
    have hnm : ∀ y, y ∈ cs'.map (·.1.name) ↔ y ∈ W.cl.map (·.name) := fun y => by rw [c1]; exact hp.mem_iff
    rcases fin with ⟨c, rfl, hg, hni, q⟩ | ⟨z1, z2, z3, hrf, qe⟩
    · refine mkW (cs := cs' ++ [(c, t)]) (rest := []) hx hd ne (O.told.kp (Kp.of e13)) ok.n1 ok.n4 ok.nn ok.l0 ok.l1 ok.t0 ?_ ?_ ?_ ?_ (Or.inl ⟨rfl, fun H3 e3 W3 => ?_⟩)
      · rw [List.append_nil, List.map_append, List.map_append]
        exact upd_same
      · rw [List.append_nil, List.length_map, List.length_append]
        show cs'.length + 1 ≤ 10
        omega
      · intro q' hq'
        rcases List.mem_append.mp hq' with hq' | hq'
        · exact kx q' hq'
        · rw [List.mem_singleton] at hq'
          subst hq'
          exact ⟨e13 _ _ ht, hg⟩
      · rw [List.map_append]
        exact nd_snoc nd' fun m' => hni ((hnm _).mp m')
      · refine q H3 x _ (Evl.Ex.trans e13 e3) W3 ?_
        rw [List.map_append]
        exact (List.perm_append_singleton c _).trans (c4.cons c)
    · refine mkW (cs := cs') (rest := [t]) hx hd ne (O.told.kp (Kp.of e13)) ok.n1 ok.n4 ok.nn ok.l0 ok.l1 ok.t0 ?_ ?_ kx nd' (Or.inr ⟨t, zs, rfl, e13 _ _ ht, z1, z2, z3, ?_, fun cls d' H' hc e3 => qe cls d' H' hc (Evl.Ex.trans e13 e3)⟩)
      · rw [List.map_append]
        exact upd_same
      · rw [List.length_append, List.length_map]
        show cs'.length + 1 ≤ 10
        omega
      · rcases hrf with h | ⟨c, h1, h2, h3⟩
        · exact Or.inl h
        · exact Or.inr ⟨c, h1, h2, (hnm _).mpr h3⟩⟩
theorem Wk.Ok.rin0 {W : Wk} (ok : W.Ok) {f : Int} {h : Nat} (hh : h < W.n) : 0 ≤ W.rin f h := by
  unfold Wk.rin
  split
  · exact Int.le_refl 0
  · exact fw_pos ok.nn _ _
abbrev spW_begun (G : Ad) : Sp := fun vs H Q _ => ∃ (p : Addr) (W : Wk) (l : Addr) (c : Cloth), vs = [.ref p, .ref l] ∧ WkAt G H p W ∧ H l = some (.lst [.str c.name]) ∧ c ∈ W.cl ∧
  ∀ H' p' cl', Same H H' → WkAt G H' p' ⟨W.n, W.R, c.hue, W.time + W.rin W.last c.hue + c.len, cl'⟩ → cl'.Perm (W.cl.filter fun x => !decide (x.name = c.name)) → Q (.ref p') H'
theorem sc_Works_begun : FnScope ["self", "names", "last", "time", "name", "left"] ["self", "names"] (defScope sWorks_begun) := ⟨rfl, rfl, rfl, by decide +kernel, rfl, by decide +kernel, by decide +kernel⟩
theorem mW_begun (B : Bn mg) (FC : Fc G mg) (MW_want : Me P w G.K mg base k G.CW "want" (spW_want G)) (MW_names : Me P w G.K mg base k G.CW "names" (spW_names G)) (MW_rinse : Me P w G.K mg base k G.CW "rinse" (spW_rinse G)) (Mk_Works : Ma P w G.K mg base k "Works" G.CW (spW_init G)) (F : Md G.K G.CW "begun" "Works.begun" sWorks_begun) : Me P w G.K mg base (k + 2) G.CW "begun" (spW_begun G) :=
  me_0 F sc_Works_begun (fun _ _ _ _ _ _ us hl => match us, hl with | [_, _], _ => rfl) (fun vs H Q E h => by obtain ⟨_, _, _, _, rfl, _⟩ := h; rfl)
  fun f cdv A outer s H vs Q E hr h => ⟨_, /- slots: 0 self, 1 names, 2 last, 3 time, 4 name, 5 left -/ (pss_cons (ps_expr (pe_me MW_want hr (pv 0) (pa_cons (pv 1) pa_nil)))
      (pss_cons (ps_set (i := 2) sc_Works_begun.nd rfl (Or.inl rfl) (pe_fld (pv 0) rfl))
      (pss_cons (ps_set (i := 3) sc_Works_begun.nd rfl (Or.inl rfl) (pe_fld (pv 0) rfl))
      (pss_cons (ps_for PassesOwn.never rfl (pi_list (pv 1)) (pg_name (i := 4) sc_Works_begun.nd rfl (Or.inl rfl)) (pss_cons (ps_set (i := 3) sc_Works_begun.nd rfl (Or.inl rfl) (pe_op op_add (pe_op op_add (pv 3) (pe_me MW_rinse hr (pv 0) (pa_cons (pv 2) (pa_cons (pe_ix ix_tup (pe_dget (hu_of hr) (pe_fld (pv 0) rfl) (pv 4) (fun _ _ => rfl)) pe_int (fun _ _ => rfl)) pa_nil)))) (pe_ix ix_tup (pe_dget (hu_of hr) (pe_fld (pv 0) rfl) (pv 4) (fun _ _ => rfl)) pe_int (fun _ _ => rfl))))
      (pss_one (ps_set (i := 2) sc_Works_begun.nd rfl (Or.inl rfl) (pe_ix ix_tup (pe_dget (hu_of hr) (pe_fld (pv 0) rfl) (pv 4) (fun _ _ => rfl)) pe_int (fun _ _ => rfl))))))
      (pss_cons (ps_setLc (i := 5) (own := [("name", 4)]) (g := (gName 4)) (tt := (tTest (tOp (rIn G.K true) (tVar 4) (tVar 1)))) (te := (tDGet (tFld G.K (tVar 0) "waiting") (tVar 4))) rfl sc_Works_begun.nd rfl rfl (sw_true rfl rfl rfl (by decide +kernel)) (pi_list (pe_me0 MW_names hr (pv 0))) (blkOk_by (own := [("name", 4)]) (N := ["self", "names", "last", "time", "name", "left"]) (sc := defScope sWorks_begun) (by decide +kernel)) (fun _ _ _ _ _ => by exact (pg_name (i := 4) sc_Works_begun.nd rfl (Or.inl rfl))) (fun _ _ _ _ _ => by exact (pts_one (pt_cmpR op_notIn_seq (pv 4) (pv 1) (by rfl)))) (fun _ _ _ _ _ => by exact (pe_dget (hu_of hr) (pe_fld (pv 0) rfl) (pv 4) (fun _ _ => rfl))))
      (pss_one (ps_ret (pe_ma Mk_Works hr (pa_cons (pe_fld (pv 0) rfl) (pa_cons (pv 5) (pa_cons (pv 2) (pa_cons (pv 3) pa_nil)))))))))))), by
    obtain ⟨p, W, l, c, rfl, hW, hl, hc, q⟩ := h
    dsimp only [tSeq, tRet, tRetN, tIfS, tAsg, tDrop, tNext, tNever, tVar, tC, tCons, tNil, tCB, tOp, tTest, tB, tAnd, tOr, tNot, tAndV, tOrV, tNotV, tChain, tTup, tLst, tFld, sFld, tCall, tMeth, tMake, tDGet, tDIn, tDNotIn, sDPut, tDNewK, tSl, tPart, tNoPart, gTup, gCons, gNil, gSub, tBM, tUn]
    dsimp only [spW_want]
    obtain ⟨dx, ls, ts, d, cs, O⟩ := hW.open_
    have ok := hW.ok
    have hcn : c.name ∈ W.cl.map (·.name) := List.mem_map.mpr ⟨c, hc, rfl⟩
    have gc := ok.good c hc
    refine ⟨_, rfl, p, dx, _, rfl, O.at_, wf_no (by decide +kernel), _, rfl, p, W, l, [c.name], rfl, hW, Or.inl (Or.inl hl), (List.nodup_cons.mpr ⟨List.not_mem_nil, List.nodup_nil⟩), (fun y hy => by rw [List.mem_singleton] at hy; rw [hy]; exact hcn), fun H1 e1 => ?_⟩
    have hW1 := hW.same e1
    have O1 : WkO G H1 p W dx ls ts d cs := ⟨e1 _ _ O.at_, O.least.kp (Kp.of e1), O.told.kp (Kp.of e1), e1 _ _ O.wait, O.cl, fun q hq => (O.cloths q hq).kp (Kp.of e1)⟩
    refine ⟨_, rfl, p, _, dx, _, _, rfl, O1.at_, FC.cW, FC.wA, wf_last, _, rfl, p, _, dx, _, _, rfl, O1.at_, FC.cW, FC.wI, wf_time, ?_⟩
    refine Evl.s_forLn (xs := [.str c.name]) (Evl.ev_var rfl) (Or.inl (Or.inl (e1 _ _ hl))) (fun i σ' H' => Same H1 H' ∧ ∃ y4, σ' = [some (.ref p), some (.ref l), some (.int (if i = 0 then W.last else c.hue)), some (.int (if i = 0 then W.time else W.time + W.rin W.last c.hue + c.len)), y4, none])
      (fun H2 e2 => ⟨e2, none, rfl⟩) (fun i σ' H' _ z => Or.inl (Or.inl (z.1 _ _ (e1 _ _ hl)))) ?_ ?_
    · rintro i y _ H2 hy ⟨e2, y4, rfl⟩
      cases i with
      | succ i => cases hy
      | zero =>
        cases hy
        have hW2 := hW1.same e2
        obtain ⟨t, ht, hat⟩ := O.has hc
        have e12 := Evl.Ex.trans e1 e2
        have g : DGet H2 d (.str c.name) (some (.ref t)) := by
          have g := DGet.k (k := Sum.inr c.name) (e12 _ _ O.wait)
          rw [kvs_val (O.nd ok) ht rfl] at g
          exact g
        have hT : SqT G.K H2 t (clV c) := Or.inl (Or.inl (e12 _ _ hat))
        have O2 := e12 _ _ O.at_
        show tSeq _ _ _ _ _
        dsimp only [tSeq, tRet, tRetN, tIfS, tAsg, tDrop, tNext, tNever, tVar, tC, tCons, tNil, tCB, tOp, tTest, tB, tAnd, tOr, tNot, tAndV, tOrV, tNotV, tChain, tTup, tLst, tFld, sFld, tCall, tMeth, tMake, tDGet, tDIn, tDNotIn, sDPut, tDNewK, tSl, tPart, tNoPart, gTup, gCons, gNil, gSub, tBM, tUn]
        dsimp only [spW_rinse]
        refine ⟨_, rfl, _, rfl, p, dx, _, rfl, O2, wf_no (by decide +kernel), _, rfl, _, rfl, p, _, dx, _, _, rfl, O2, FC.cW, FC.wW, wf_waiting, _, rfl, d, _, rfl, g, t, _, 1, _, rfl, rfl, hT, rfl, p, W, _, c.hue, rfl, hW2, ok.l0, ok.l1, gc.2.1, _, _, rfl, rfl, ?_⟩
        refine ⟨_, rfl, p, _, dx, _, _, rfl, O2, FC.cW, FC.wW, wf_waiting, _, rfl, d, _, rfl, g, t, _, 2, _, rfl, rfl, hT, rfl, _, _, rfl, rfl, ?_⟩
        exact ⟨_, rfl, p, _, dx, _, _, rfl, O2, FC.cW, FC.wW, wf_waiting, _, rfl, d, _, rfl, g, t, _, 1, _, rfl, rfl, hT, rfl, e2, _, rfl⟩
    · rintro _ H2 ⟨e2, y4, rfl⟩
      have hW2 := hW1.same e2
      have e12 := Evl.Ex.trans e1 e2
      refine ⟨_, rfl, p, dx, _, rfl, e12 _ _ O.at_, wf_no (by decide +kernel), p, W, rfl, hW2, fun H3 a ys e3 hp hs ha => ?_⟩
      have e13 := Evl.Ex.trans e12 e3
      obtain ⟨cs', c1, c2, c3⟩ := pick_perm (ys := ys) (O.nd ok) (by rw [O.names]; exact hp)
      have ln : cs'.length ≤ 10 := by
        have h1 := congrArg List.length O.cl
        have h2 := ok.few
        rw [List.length_map] at h1
        rw [c3.length_eq, h1]
        exact h2
      have nd' : (cs'.map (·.1.name)).Nodup := by rw [c1]; exact hp.nodup_iff.mpr ok.nd
      have hly : (ys.map V.str).length = cs'.length := by rw [List.length_map, ← c1, List.length_map]
      have hO : ∀ {q : Cloth × Addr}, q ∈ cs' → ∀ {H4}, Same H3 H4 → Evl.Ev (tDGet (tFld G.K (tVar 0) "waiting") (tVar 4)) [some (.ref p), some (.ref l), some (.int c.hue), some (.int (W.time + W.rin W.last c.hue + c.len)), some (.str q.1.name), none] H4 (.ref q.2) := fun {q} hq {H4} e4 =>
        ev_dget (ev_fld (Evl.ev_var rfl) (e4 _ _ (e13 _ _ O.at_)) FC.cW FC.wW wf_waiting) (Evl.ev_var rfl) (e4 _ _ (e13 _ _ O.wait)) (kvs_val (O.nd ok) (c2 q hq) rfl)
      refine lc_goL (fun i => !decide ((cs'.getD i noCl).1.name = c.name)) (fun i => V.ref (cs'.getD i noCl).2) (Or.inl (Or.inl ha)) (by rw [hly]; omega) (fun i x H4 e4 hx => ?_) (fun i x H4 e4 hx _ => ?_) fun m H4 hm e4 h4 => ?_
      · rw [← c1, List.map_map, List.getElem?_map] at hx
        obtain ⟨q', hq', rfl⟩ := Option.map_eq_some_iff.mp hx
        rw [getD_of hq']
        refine Evl.et_is (Evl.et_test (Evl.ev_op (Evl.ev_var rfl) (Evl.ev_var rfl) (Evl.rv_niL (Or.inl (Or.inl (e4 _ _ (e13 _ _ hl)))) rfl rfl))) ?_
        show (!(eqV (.str c.name) (.str q'.1.name) || false)) = _
        rw [Bool.or_false]
        by_cases e : q'.1.name = c.name
        · rw [e, decide_eq_true rfl]
          show (!decide (c.name = c.name)) = !true
          rw [decide_eq_true rfl]
        · rw [decide_eq_false e]
          show (!decide (c.name = q'.1.name)) = !false
          rw [decide_eq_false fun z => e z.symm]
      · rw [← c1, List.map_map, List.getElem?_map] at hx
        obtain ⟨q', hq', rfl⟩ := Option.map_eq_some_iff.mp hx
        rw [getD_of hq']
        exact hO (List.mem_of_getElem? hq') e4
      · rw [hly, given_l (fun q : Cloth × Addr => !decide (q.1.name = c.name)) (fun q => V.ref q.2) noCl] at h4
        have e14 := Evl.Ex.trans e13 e4
        have O4 := e14 _ _ O.at_
        refine ⟨_, rfl, p, _, dx, _, _, rfl, O4, FC.cW, FC.wT, wf_told, _, rfl, _, rfl, _, rfl, fun x dxx hx hd ne => ?_⟩
        have rn := ok.rin0 (f := W.last) gc.2.1
        refine mkW (cs := cs'.filter fun q => !decide (q.1.name = c.name)) (rest := []) hx hd ne (O.told.kp (Kp.of e14)) ok.n1 ok.n4 ok.nn (show (-1 : Int) ≤ (c.hue : Nat) by omega) (show ((c.hue : Nat) : Int) < W.n by have := gc.2.1; omega) (show 0 ≤ W.time + W.rin W.last c.hue + c.len by have := ok.t0; have := gc.2.2.1; omega) ?_ ?_ ?_ ?_ (Or.inl ⟨rfl, fun H5 e5 W5 => ?_⟩)
        · rw [List.append_nil, List.map_map]
          exact h4
        · rw [List.append_nil, List.length_map]
          exact Nat.le_trans (List.length_filter_le _ _) ln
        · intro q' hq'
          have m' := (List.mem_filter.mp hq').1
          exact ⟨(O.cloths q' (c2 q' m')).kp (Kp.of e14), ok.good _ (by rw [← O.cl]; exact List.mem_map.mpr ⟨q', c2 q' m', rfl⟩)⟩
        · exact nd'.sublist (List.filter_sublist.map _)
        · refine q H5 x _ (Evl.Ex.trans e14 e5) W5 ?_
          have h5 : (cs'.filter fun q => !decide (q.1.name = c.name)).map (·.1) = (cs'.map (·.1)).filter fun x => !decide (x.name = c.name) := by
            rw [List.filter_map]
            rfl
          rw [h5, ← O.cl]
          exact (c3.map (·.1)).filter _⟩
end Rw82
/-! sorted by (due, name), the key a lambda. -/
namespace Rw82
open PySem PySem.Spec PyProof.Rows L2
/-- the key -/
def kd (c : Cloth) : PyData := .tuple [.int c.due, .str c.name]
def dueLe (a b : Cloth) : Prop := PySem.W.dataLe false kd a b = true
theorem due_total : PySem.W.TotalLe (PySem.W.dataLe false kd) := PySem.W.sortLe_total _ _ _
theorem due_anti {cl : List Cloth} (nd : (cl.map (·.name)).Nodup) : Anti dueLe cl := fun a ha b hb h1 h2 => by
  refine one_of_name nd ha hb ?_
  have e1 : (listOrd itemOrd).blt (PySem.W.keyToks (kd b)) (PySem.W.keyToks (kd a)) = false := by
    have h : (!(listOrd itemOrd).blt (PySem.W.keyToks (kd b)) (PySem.W.keyToks (kd a))) = true := h1
    rw [Bool.not_eq_true'] at h
    exact h
  have e2 : (listOrd itemOrd).blt (PySem.W.keyToks (kd a)) (PySem.W.keyToks (kd b)) = false := by
    have h : (!(listOrd itemOrd).blt (PySem.W.keyToks (kd a)) (PySem.W.keyToks (kd b))) = true := h2
    rw [Bool.not_eq_true'] at h
    exact h
  have e := (listOrd itemOrd).total _ _ e2 e1
  have e' : PySem.W.keyToks (.tuple [.int a.due, .str a.name]) = PySem.W.keyToks (.tuple [.int b.due, .str b.name]) := e
  simp [PySem.W.keyToks, PySem.W.keyToksAll] at e'
  show (⟨a.name.cps⟩ : Str) = ⟨b.name.cps⟩
  rw [e'.2]
section
variable {prog : Program} {w : World} {A : Around} {s : Shared}
theorem keep_toks {h : Heap} : ∀ b o, h.get? b = some o → h.get? b = some o := fun _ _ e => e
/-- t[i] of a tuple at t, t a local name -/
theorem sub_loc {env : Env} {E : Value → Shared → Prop} {m : Str → Option Value} {x : Str} {t : Addr} {items : Array Value} {v : Value} {i : Int} {j : Nat} {j1 : Nat} {p1 p2 p3 : Pos} {Q : Value → Shared → Prop} (hk : env.scope.kind = .function) (hl : env.kindOf x = some .local) (hn : s.heap.Ns env.locals m)
    (hv : m x = some (.ref t)) (ht : IsTup s.heap t items) (h0 : 0 ≤ i) (h1 : i < 2 ^ 63) (hj : seqIndex? i items.size = some j) (hx : items[j]? = some v) (hd : (x == ("__debug__" : Str)) = false) (h : ∀ tk, Q v { s with toks := tk }) :
    wpAny (model prog w) A (eval (.Subscript (.Name x p1) (.Constant (.int i) j1 p2) p3) env) Q E s := by
  refine Subscript_Constant (wpAny_Name (wpAny_loadName_local hk hl hn hv (wpAny_Constant_int ?_)) hd)
  exact ⟨"tuple", _, slot_tuple_getitem.lookup, ht.typeIs, getItem_tuple ht (by omega) h1 hj hx (h _)⟩
/-- the lambda, called with a cloth -/
theorem lam_key {q : Str} {params : Arguments} {scope : Scope} {pm ctv : Value} {f c' t : Addr} {j1 j2 kk : Nat} {p1 p2 p3 p4 p5 p6 p7 : Pos} {its : Array Value} {due : Int} {name : Str} (hroom : A.depth + 1 < recursionLimit)
    (hf : s.heap.get? f = some (PySem.W.kla_obj "<lambda>" q params (.Tuple [.Subscript (.Name "cloth" p1) (.Constant (.int 3) j1 p2) p3, .Subscript (.Name "cloth" p4) (.Constant (.int 0) j2 p5) p6] kk p7) scope [] pm c' ctv))
    (hcd : s.heap.CodeRec (.ref c') q) (hk : scope.kind = .function) (hco : scope.isCoroutine = false) (hgen : scope.isGenerator = false) (hl : scope.names.lookup ("cloth" : Str) = some NameKind.local) (hcell : ∀ x ∈ scope.names, x.2 ≠ .cell) (hlim : s.heap.NoLimit)
    (hb : bindArgs (PySem.W.kla_fn "<lambda>" q params (.Tuple [.Subscript (.Name "cloth" p1) (.Constant (.int 3) j1 p2) p3, .Subscript (.Name "cloth" p4) (.Constant (.int 0) j2 p5) p6] kk p7) scope [] pm (.ref c') ctv) ⟨[.ref t], []⟩ = pure [(("cloth" : Str), Value.ref t)])
    (ht : IsTup s.heap t its) (h3 : ∃ tk, its[3]? = some (.int due tk)) (h0 : ∃ tk, its[0]? = some (.str name tk)) :
    wpAny (model prog w) A (call (.ref f) [.ref t]) (PySem.W.KeyPure (.tuple [.int due, .str name]) s) (fun _ _ => False) s := by
  refine wpAny_call (PySem.W.kla_callFunE (by omega) hf rfl hco hgen rfl hcd ?_)
  rw [hb]
  refine wpAny_pure (wpAny_newFunctionEnv hcell (fun x hx => ?_) (fun h₁ hns hsb => ⟨hlim.fresh _ hsb, ?_⟩) hk)
  · rw [List.mem_singleton] at hx
    rw [hx]
    exact hl
  obtain ⟨tk3, h3⟩ := h3
  obtain ⟨tk0, h0⟩ := h0
  have kp : ∀ b o, s.heap.get? b = some o → h₁.get? b = some o := fun b o e => hsb.extBut b o (Nat.ne_of_lt (Heap.lt_size e)) (Heap.get?_push_of_some _ e)
  have ht1 : IsTup h₁ t its := by
    obtain ⟨o, e1, e2⟩ := ht
    exact ⟨o, kp _ _ e1, e2⟩
  have hz : 4 ≤ its.size := by
    have := (Array.getElem?_eq_some_iff.mp h3).1
    omega
  have sq3 : seqIndex? 3 its.size = some 3 := by
    have h := ixN_seq (n := its.size) (i := 3) (j := 3) (by unfold ixN; rw [if_pos (by decide), if_pos (by omega)]; rfl)
    exact h.1
  have sq0 : seqIndex? 0 its.size = some 0 := by
    have h := ixN_seq (n := its.size) (i := 0) (j := 0) (by unfold ixN; rw [if_pos (by decide), if_pos (by omega)]; rfl)
    exact h.1
  refine PySem.W.kla_codeExpr (wpAny_Tuple_spliced ?_)
  refine Calls.spliced_cons (sub_loc hk (x := "cloth") (by exact hl) hns (by rfl) ht1 (by decide) (by decide) sq3 h3 (by decide) fun tk => ?_)
  refine Calls.spliced_cons (sub_loc hk (x := "cloth") (by exact hl) hns (by rfl) ht1 (by decide) (by decide) sq0 h0 (by decide) fun tk' => ?_)
  refine Calls.spliced_nil ⟨(show 2 ≤ sizeLine by decide), ?_⟩
  refine ⟨_, _, rfl, fun b o e => Heap.get?_push_of_some _ (kp b o e), ?_⟩
  exact .tuple (Heap.get?_push_size _ rfl) rfl rfl (.cons (as := []) (bs := []) (.int _ _) (.cons (as := []) (bs := []) (.str _ _) .nil))
end
abbrev lamQ : Str := "Works.due_row.<locals>.<lambda>"
/-- sorted(e, key=lambda cloth: (cloth[3], cloth[0])) -/
def tSortKey (G : Ad) (te : TE) : TE := fun σ H Q => te σ H fun x H1 => ∃ (a : Addr) (cs : List (Cloth × Addr)), x = .ref a ∧ SqL G.K H1 a (cs.map fun q => V.ref q.2) ∧ (∀ q ∈ cs, ClAt H1 q.2 q.1) ∧ cs.length ≤ 1000 ∧ Tb G H1 ∧
  ∀ (H2 : Hp) (p : Addr) (cs' : List (Cloth × Addr)), Ext G H1 H2 → Tb G H2 → cs'.Perm cs → (cs'.map (·.1)).Pairwise dueLe → H2 p = some (.lst (cs'.map fun q => V.ref q.2)) → Q (.ref p) H2
theorem each_refs : ∀ {cs : List (Cloth × Addr)} {us : List Value}, Vals (cs.map fun q => V.ref q.2) us → PySem.W.EachIs (fun v (q : Cloth × Addr) => v = .ref q.2) us cs
  | [], us, r => by
    cases r
    exact .nil
  | q :: cs, us, r => by
    cases r with
    | cons r t => exact .cons r (each_refs t)
theorem refs_each : ∀ {cs : List (Cloth × Addr)} {us : List Value}, PySem.W.EachIs (fun v (q : Cloth × Addr) => v = .ref q.2) us cs → Vals (cs.map fun q => V.ref q.2) us
  | [], us, r => by
    cases r
    exact .nil
  | q :: cs, us, r => by
    cases r with
    | cons r t => exact .cons r (refs_each t)
theorem pe_sortKey {X : Cx} {G : Ad} {e : Expr} {te : TE} {c : Addr} {params : Arguments} {scope : Scope} {j1 j2 kk : Nat} {p p1 p2 p3 p4 p5 p6 p7 lpos kp pos : Pos} (hc : X.calm = true) (hr : Room 4 X.A) (hg : Gl X "sorted") (hm : X.mg "sorted" = none) (TB : LamX.TabB X.base X.mg c G.PT) (hcode : X.env.code = .ref c)
    (hq : X.env.qual ++ "<lambda>" = lamQ) (ha : PA X (e :: []) (tCons te tNil)) (hK : X.K = G.K) (hdef : defaultsOf params X.env = ([], [])) (hk : scope.kind = .function) (hco : scope.isCoroutine = false) (hgen : scope.isGenerator = false) (hn : scope.names = [(("cloth" : Str), NameKind.local)])
    (hb : ∀ (pm cv ctv v : Value), bindArgs (PySem.W.kla_fn "<lambda>" lamQ params (.Tuple [.Subscript (.Name "cloth" p1) (.Constant (.int 3) j1 p2) p3, .Subscript (.Name "cloth" p4) (.Constant (.int 0) j2 p5) p6] kk p7) scope [] pm cv ctv) ⟨[v], []⟩ = pure [(("cloth" : Str), v)])
    (hs : backTo pos (starEach (e :: []) X.env) = (false, eval e X.env) :: backTo pos (starEach [] X.env) := by rfl) (hpl : (backTo pos (starEach (e :: []) X.env)).any (·.1) = false := by rfl) :
    PE X (.Call (.Name "sorted" p) [e] [⟨some "key", .Lambda params (.Tuple [.Subscript (.Name "cloth" p1) (.Constant (.int 3) j1 p2) p3, .Subscript (.Name "cloth" p4) (.Constant (.int 0) j2 p5) p6] kk p7) scope lpos, kp⟩] pos) (tSortKey G te) := by
  refine ⟨fun pins s σ H Q I h => ?_⟩
  refine wpAny_Call_Name_kw (ld_blt (u := .builtin "sorted") I hg hm (by decide +kernel) ?_ (by decide) (by decide))
  refine PyProof.Rows.callWith_kw (thn (ha.run pos pins s σ H (fun vs H1 => match vs with
    | [x] => ∃ (a : Addr) (cs : List (Cloth × Addr)), x = .ref a ∧ SqL G.K H1 a (cs.map fun q => V.ref q.2) ∧ (∀ q ∈ cs, ClAt H1 q.2 q.1) ∧ cs.length ≤ 1000 ∧ Tb G H1 ∧
        ∀ (H2 : Hp) (p : Addr) (cs' : List (Cloth × Addr)), Ext G H1 H2 → Tb G H2 → cs'.Perm cs → (cs'.map (·.1)).Pairwise dueLe → H2 p = some (.lst (cs'.map fun q => V.ref q.2)) → Q (.ref p) H2
    | _ => False) I h) fun us s1 ⟨vs, H1, I1, r1, q1⟩ => ?_) hs hpl rfl rfl
  match vs, q1 with
  | [x], q1 =>
    obtain ⟨a, cs, rfl, hL, hcl, hz, hT, q⟩ := q1
    obtain ⟨u, rfl, ru⟩ := one_of r1
    obtain rfl : u = Value.ref a := ru
    have hTs : LamX.Tabs [(G.PT, lamQ)] H1 := fun z hz => by
      rw [List.mem_singleton] at hz
      subst hz
      exact hT
    show wpAny _ _ (evalAll ((do let v ← eval (.Lambda params (.Tuple [.Subscript (.Name "cloth" p1) (.Constant (.int 3) j1 p2) p3, .Subscript (.Name "cloth" p4) (.Constant (.int 0) j2 p5) p6] kk p7) scope lpos) X.env; standAt pos; pure v) :: [])) _ _ _
    refine wpAny_evalAll_cons (wpAny_bind (LamX.lam_make2 (T := [(G.PT, lamQ)]) I1 TB hcode (by rw [hq]; exact List.mem_singleton.mpr rfl) (fun z hz _ => by
      rw [List.mem_singleton] at hz
      rw [hz, hq]) hTs hdef (fun y hy e => by
      rw [hn, List.mem_singleton] at hy
      rw [hy] at e
      cases e) fun f c' pm ctv H2 s2 I2 eN T2 hf hfn hfr hco' => wpAny_bind (wpAny_standAt (wpAny_pure (wpAny_evalAll_nil ?_)))))
    show wpAny _ _ (call (.builtin "sorted") [.ref a] [(Str.ofString "key", .ref f)]) _ _ _
    rw [hq] at hf hco'
    rw [hn] at hf
    obtain ⟨⟨oc, ws, tq, hoc, hod, how⟩, _, _⟩ := (show ObjOk X.prog X.w H2 s2.heap c' (LamX.CodeO c' lamQ) from I2.hok c' _ hco')
    have hL2 : SqL X.K H2 a (cs.map fun q => V.ref q.2) := by
      rw [hK]
      rcases hL with (h | ⟨o, h⟩) | h
      · exact Or.inl (Or.inl (eN _ _ h fun _ z => nomatch z))
      · exact Or.inl (Or.inr ⟨o, eN _ _ h fun _ z => nomatch z⟩)
      · exact Or.inr h
    obtain ⟨its, ri, pl, hzi⟩ := I2.list hL2
    have hcl2 : ∀ q ∈ cs, ClAt H2 q.2 q.1 := fun q hq => eN _ _ (hcl q hq) fun _ z => nomatch z
    have each := each_refs ri
    have hlen : its.length = cs.length := by have := ri.length; rw [List.length_map] at this; exact this.symm
    have hdp := hr.dp
    have hun := hr.un
    refine PySem.W.sorted_key_data (b := false) (R := fun v (q : Cloth × Addr) => v = .ref q.2) (fun q : Cloth × Addr => kd q.1) pl.isList each (PySem.W.AllAlike.of fun _ _ => rfl) (PySem.W.Sortable.tuples fun q => ⟨_, _, rfl⟩) (small16 (by omega)) (fun q _ => ?_) (PyProof.Rows.ksk_s1 _ _) (fun _ => PyProof.Rows.ksk_l1 _ _) (fun _ => PyProof.Rows.ksk_t1 _ _) (fun v q hv hq' hh tk kp => ?_) (fun out n h' tk kp h0 h1 h2 h3 => ?_)
    · show X.A.units + 2 + 1 < cLine
      omega
    · subst hv
      obtain ⟨_, cits, cr, ⟨o, e1, e2, n, e3⟩⟩ := I2.hok q.2 _ (hcl2 q hq')
      have ht : IsTup hh q.2 cits.toArray := ⟨o, kp _ _ e1, e2, n, e3⟩
      obtain ⟨u3, g3, ⟨t3, r3⟩⟩ := cr.get (i := 3) (x := .int q.1.due) rfl
      obtain ⟨u0, g0, ⟨t0, r0⟩⟩ := cr.get (i := 0) (x := .str q.1.name) rfl
      subst r3 r0
      exact lam_key (s := { s2 with heap := hh, toks := tk }) (by have := (hr.in1.in1).dp; omega) (kp _ _ hf) ⟨c', oc, ws, tq, rfl, kp _ _ hoc, hod, how⟩ hk hco hgen (by rw [hn]; rfl) (fun y hy => by
        rw [hn, List.mem_singleton] at hy
        rw [hy]
        exact fun z => nomatch z) (I2.nolimit.keeps kp) (hb _ _ _ _) ht ⟨t3, by rw [List.getElem?_toArray]; exact g3⟩ ⟨t0, by rw [List.getElem?_toArray]; exact g0⟩
    · have hp : H2 (s2.heap.objs.size + 1) = none := I2.hok.fresh (Nat.le_succ _)
      have hperm := List.mergeSort_perm cs (PySem.W.dataLe false fun q : Cloth × Addr => kd q.1)
      have rv := refs_each h3
      have hl' : (List.map (fun q : Cloth × Addr => V.ref q.2) (cs.mergeSort (PySem.W.dataLe false fun q : Cloth × Addr => kd q.1))).length ≤ sizeLine := by
        rw [List.length_map, hperm.length_eq]
        exact small16 (by omega)
      have I3 := I2.laid (t' := tk) (a := s2.heap.objs.size + 1) (o := .lst ((cs.mergeSort (PySem.W.dataLe false fun q : Cloth × Addr => kd q.1)).map fun q => V.ref q.2)) (h' := h') kp (Nat.le_succ _) (show ObjOk X.prog X.w _ _ _ (.lst _) from ⟨hl', out, n, rv, h1⟩)
      have eX : Ext G H1 (upd H2 (s2.heap.objs.size + 1) (.lst ((cs.mergeSort (PySem.W.dataLe false fun q : Cloth × Addr => kd q.1)).map fun q => V.ref q.2))) := ⟨fun b o e z => same_new hp _ _ (eN b o e z), fun _ => LamX.TabS.ext (T2 (G.PT, lamQ) (List.mem_singleton.mpr rfl)) (same_new hp)⟩
      refine ⟨.ref _, _, I3, rfl, q _ _ _ eX (LamX.TabS.ext (T2 (G.PT, lamQ) (List.mem_singleton.mpr rfl)) (same_new hp)) hperm ?_ upd_same⟩
      rw [List.pairwise_map]
      exact PySem.W.sort_pairwise (PySem.W.sortLe_total _ _ _) cs
end Rw82
/-! of_hue, due_row. -/
namespace Rw82
open PySem PySem.Spec PyProof.Rows L2
variable {P : Program} {w : World} {mg : Str → Option Value} {base : Heap} {k : Nat} {G : Ad}
abbrev spW_of_hue (G : Ad) : Sp := fun vs H Q _ => ∃ (p : Addr) (W : Wk) (h : Nat), vs = [.ref p, .int h] ∧ WkAt G H p W ∧ ∀ H' a (cs2 : List (Cloth × Addr)), Same H H' → (cs2.map (·.1)).Perm (W.cl.filter fun c => c.hue == h) → (∀ q ∈ cs2, ClAt H' q.2 q.1) → H' a = some (.lst (cs2.map fun q => V.ref q.2)) → Q (.ref a) H'
theorem sc_Works_of_hue : FnScope ["self", "hue", "name"] ["self", "hue"] (defScope sWorks_of_hue) := ⟨rfl, rfl, rfl, by decide +kernel, rfl, by decide +kernel, by decide +kernel⟩
theorem mW_of_hue (B : Bn mg) (FC : Fc G mg) (MW_names : Me P w G.K mg base k G.CW "names" (spW_names G)) (F : Md G.K G.CW "of_hue" "Works.of_hue" sWorks_of_hue) : Me P w G.K mg base (k + 1) G.CW "of_hue" (spW_of_hue G) :=
  me_0 F sc_Works_of_hue (fun _ _ _ _ _ _ us hl => match us, hl with | [_, _], _ => rfl) (fun vs H Q E h => by obtain ⟨_, _, _, rfl, _⟩ := h; rfl)
  fun f cdv A outer s H vs Q E hr h => ⟨_, /- slots: 0 self, 1 hue, 2 name -/ (pss_one (ps_ret (pe_lc (own := [("name", 2)]) (g := (gName 2)) (tt := (tTest (tOp rEq (tOp (rIxT G.K) (tDGet (tFld G.K (tVar 0) "waiting") (tVar 2)) (tC (.int 1))) (tVar 1)))) (te := (tDGet (tFld G.K (tVar 0) "waiting") (tVar 2))) rfl sc_Works_of_hue.nd (pi_list (pe_me0 MW_names hr (pv 0))) (blkOk_by (own := [("name", 2)]) (N := ["self", "hue", "name"]) (sc := defScope sWorks_of_hue) (by decide +kernel)) (fun _ _ _ _ _ => by exact (pg_name (i := 2) sc_Works_of_hue.nd rfl (Or.inl rfl))) (fun _ _ _ _ _ => by exact (pts_one (pt_cmpR op_eq (pe_ix ix_tup (pe_dget (hu_of hr) (pe_fld (pv 0) rfl) (pv 2) (fun _ _ => rfl)) pe_int (fun _ _ => rfl)) (pv 1) (nomark _)))) (fun _ _ _ _ _ => by exact (pe_dget (hu_of hr) (pe_fld (pv 0) rfl) (pv 2) (fun _ _ => rfl)))))), by
    obtain ⟨p, W, h, rfl, hW, q⟩ := h
    obtain ⟨dx, ls, ts, d, cs, O⟩ := hW.open_
    have ok := hW.ok
    refine ⟨_, rfl, p, dx, _, rfl, O.at_, wf_no (by decide +kernel), p, W, rfl, hW, fun H1 a ys e1 hp hs ha => ?_⟩
    obtain ⟨cs', c1, c2, c3⟩ := pick_perm (ys := ys) (O.nd ok) (by rw [O.names]; exact hp)
    have ln : cs'.length ≤ 10 := by
      have h1 := congrArg List.length O.cl
      have h2 := ok.few
      rw [List.length_map] at h1
      rw [c3.length_eq, h1]
      exact h2
    have hly : (ys.map V.str).length = cs'.length := by rw [List.length_map, ← c1, List.length_map]
    have hO : ∀ {q : Cloth × Addr}, q ∈ cs' → ∀ {H4}, Same H1 H4 → Evl.Ev (tDGet (tFld G.K (tVar 0) "waiting") (tVar 2)) [some (.ref p), some (.int h), some (.str q.1.name)] H4 (.ref q.2) := fun {q} hq {H4} e4 =>
      ev_dget (ev_fld (Evl.ev_var rfl) (e4 _ _ (e1 _ _ O.at_)) FC.cW FC.wW wf_waiting) (Evl.ev_var rfl) (e4 _ _ (e1 _ _ O.wait)) (kvs_val (O.nd ok) (c2 q hq) rfl)
    refine lc_goL (fun i => (cs'.getD i noCl).1.hue == h) (fun i => V.ref (cs'.getD i noCl).2) (Or.inl (Or.inl ha)) (by rw [hly]; omega) (fun i x H4 e4 hx => ?_) (fun i x H4 e4 hx _ => ?_) fun m H4 hm e4 h4 => ?_
    · rw [← c1, List.map_map, List.getElem?_map] at hx
      obtain ⟨q', hq', rfl⟩ := Option.map_eq_some_iff.mp hx
      rw [getD_of hq']
      have m' := List.mem_of_getElem? hq'
      refine Evl.et_is (Evl.et_test (Evl.ev_op (ev_ixT (v := .int q'.1.hue) (i := 1) (hO m' e4) Evl.ev_c (e4 _ _ (e1 _ _ (O.cloths q' (c2 q' m')))) rfl) (Evl.ev_var rfl) (Evl.rv_eq rfl))) ?_
      by_cases e : q'.1.hue = h
      · rw [e, decide_eq_true rfl]
        exact (beq_self_eq_true h).symm
      · rw [decide_eq_false fun z => e (by injection z with z; omega)]
        exact (beq_eq_false_iff_ne.mpr e).symm
    · rw [← c1, List.map_map, List.getElem?_map] at hx
      obtain ⟨q', hq', rfl⟩ := Option.map_eq_some_iff.mp hx
      rw [getD_of hq']
      exact hO (List.mem_of_getElem? hq') e4
    · rw [hly, given_l (fun q : Cloth × Addr => q.1.hue == h) (fun q => V.ref q.2) noCl] at h4
      have e14 := Evl.Ex.trans e1 e4
      refine q H4 m _ e14 ?_ (fun q' hq' => e14 _ _ (O.cloths q' (c2 q' (List.mem_filter.mp hq').1))) h4
      have h5 : (cs'.filter fun q => q.1.hue == h).map (·.1) = (cs'.map (·.1)).filter fun x => x.hue == h := by
        rw [List.filter_map]
        rfl
      rw [h5, ← O.cl]
      exact (c3.map (·.1)).filter _⟩
/-- due_row, whose code object is known -/
structure DueD (K : PySem.W.Frag) (C c : Addr) : Prop where
  ex : ∃ (f : Addr) (fd : FuncData), FunD K "due_row" "Works.due_row" (defArgs sWorks_due_row) (defBody sWorks_due_row) (defScope sWorks_due_row) [] [] f fd ∧ Meth K C "due_row" f ∧ Cls K C ∧ fd.code = .ref c
abbrev spW_due_row (G : Ad) : Sp := fun vs H Q _ => ∃ (p : Addr) (W : Wk) (h : Nat), vs = [.ref p, .int h] ∧ WkAt G H p W ∧ Tb G H ∧ ∀ H' a row, Ext G H H' → Tb G H' → IsRow dueLe W.cl h row → H' a = some (.lst (row.map fun c => V.str c.name)) → Q (.ref a) H'
theorem sc_Works_due_row : FnScope ["self", "hue", "cloth"] ["self", "hue"] (defScope sWorks_due_row) := ⟨rfl, rfl, rfl, by decide +kernel, rfl, by decide +kernel, by decide +kernel⟩
theorem mW_due_row {c : Addr} (B : Bn mg) (FC : Fc G mg) (TB : LamX.TabB base mg c G.PT) (MW_of_hue : Me P w G.K mg base k G.CW "of_hue" (spW_of_hue G)) (F : DueD G.K G.CW c) : Me P w G.K mg base (k + 8) G.CW "due_row" (spW_due_row G) := by
  obtain ⟨f, fd, F, hM, hC, hcd⟩ := F.ex
  refine ⟨f, fd, ["self", "hue"], hC, hM, ?_, F.bindsN (fun _ _ _ _ _ _ us hl => match us, hl with | [_, _], _ => rfl)⟩
  obtain ⟨oc, od, dV, kV, doc, pm, an, cdv, ct, osl, rfl, lk, hcode, _, _⟩ := F.ex
  obtain rfl : cdv = .ref c := hcd
  refine fnOk_cx (fn_of (k := k + 7) lk hcode sc_Works_due_row (fun vs H Q E h => by obtain ⟨_, _, _, rfl, _⟩ := h; rfl) fun A outer s H vs Q E hr h => ?_)
  refine ⟨_, PSs.nox /- slots: 0 self, 1 hue, 2 cloth -/ (pss_one (ps_ret (pe_lc (own := [("cloth", 2)]) (g := (gName 2)) (tt := tYes) (te := (tOp (rIxT G.K) (tVar 2) (tC (.int 0)))) rfl sc_Works_due_row.nd (pi_list (pe_sortKey rfl (hr.mono (by omega)) (by rfl) B.sorted TB rfl rfl (pa_cons (pe_me MW_of_hue hr (pv 0) (pa_cons (pv 1) pa_nil)) pa_nil) rfl rfl rfl rfl rfl rfl (fun _ _ _ _ => rfl))) (blkOk_by (own := [("cloth", 2)]) (N := ["self", "hue", "cloth"]) (sc := defScope sWorks_due_row) (by decide +kernel)) (fun _ _ _ _ _ => by exact (pg_name (i := 2) sc_Works_due_row.nd rfl (Or.inl rfl))) (fun _ _ _ _ _ => by exact pts_nil) (fun _ _ _ _ _ => by exact (pe_ix ix_tup (pv 2) pe_int (fun _ _ => rfl)))))), ?_⟩
  obtain ⟨p, W, h, rfl, hW, hT, q⟩ := h
  obtain ⟨dx, ls, ts, d, cs, O⟩ := hW.open_
  have ok := hW.ok
  refine ⟨_, rfl, p, dx, _, rfl, O.at_, wf_no (by decide +kernel), _, rfl, p, W, h, rfl, hW, fun H1 a cs2 e1 hp hc ha => ?_⟩
  have ln : cs2.length ≤ 10 := by
    have h1 := hp.length_eq
    rw [List.length_map] at h1
    rw [h1]
    exact Nat.le_trans (List.length_filter_le _ _) ok.few
  refine ⟨a, cs2, rfl, Or.inl (Or.inl ha), hc, by omega, LamX.TabS.ext hT e1, fun H2 b cs3 e2 hT2 hp2 hs2 hb => ?_⟩
  have hl3 : (cs3.map fun q => V.ref q.2).length = cs3.length := List.length_map ..
  refine lc_goL (fun _ => true) (fun i => V.str (cs3.getD i noCl).1.name) (Or.inl (Or.inl hb)) (by rw [hl3, hp2.length_eq]; omega) (fun i x H4 e4 hx => fun H5 _ Q' q' => q' H5 (Evl.Ex.refl H5)) (fun i x H4 e4 hx _ => ?_) fun m H4 hm e4 h4 => ?_
  · rw [List.getElem?_map] at hx
    obtain ⟨q', hq', rfl⟩ := Option.map_eq_some_iff.mp hx
    rw [getD_of hq']
    exact ev_ixT (i := 0) (Evl.ev_var rfl) Evl.ev_c (e4 _ _ ((hc q' (hp2.mem_iff.mp (List.mem_of_getElem? hq'))).kp e2.k)) rfl
  · rw [hl3, given_all (fun q : Cloth × Addr => V.str q.1.name) noCl] at h4
    refine q H4 m (cs3.map (·.1)) (((Ext.of e1).trans e2).trans (Ext.of e4)) (LamX.TabS.ext hT2 e4) ⟨(hp2.map _).trans hp, hs2⟩ ?_
    rw [List.map_map]
    exact h4
end Rw82
/-! plans. -/
namespace Rw82
open PySem PySem.Spec PyProof.Rows L2
variable {P : Program} {w : World} {mg : Str → Option Value} {base : Heap} {k : Nat} {G : Ad}
/-- the rows of a plan: name, begin, end -/
def rowsOf (r : Int → Nat → Int) : Int → Int → List Cloth → List (List V)
  | _, _, [] => []
  | last, t, c :: p => [.str c.name, .int (t + r last c.hue), .int (t + r last c.hue + c.len)] :: rowsOf r c.hue (t + r last c.hue + c.len) p
theorem rowsOf_append (r : Int → Nat → Int) : ∀ (p q : List Cloth) (last t : Int), rowsOf r last t (p ++ q) = rowsOf r last t p ++ rowsOf r (ends r last t p).1 (ends r last t p).2 q
  | [], _, _, _ => rfl
  | c :: p, q, last, t => by
    show _ :: rowsOf r _ _ (p ++ q) = _ :: (rowsOf r _ _ p ++ _)
    rw [rowsOf_append r p q]
    rfl
theorem rowsOf_length (r : Int → Nat → Int) : ∀ (p : List Cloth) (last t : Int), (rowsOf r last t p).length = p.length
  | [], _, _ => rfl
  | c :: p, last, t => by
    show (rowsOf r _ _ p).length + 1 = p.length + 1
    rw [rowsOf_length r p]
theorem lates_length (r : Int → Nat → Int) : ∀ (p : List Cloth) (last t : Int), (lates r last t p).length = p.length
  | [], _, _ => rfl
  | c :: p, last, t => by
    show (lates r _ _ p).length + 1 = p.length + 1
    rw [lates_length r p]
/-- row i, lateness i, of cloth i -/
theorem rows_at (r : Int → Nat → Int) : ∀ (p : List Cloth) (last t : Int) (i : Nat) (c : Cloth), p[i]? = some c → ∃ b e : Int, (rowsOf r last t p)[i]? = some [.str c.name, .int b, .int e] ∧ (lates r last t p)[i]? = some (e - c.due)
  | [], _, _, _, _, h => nomatch h
  | c :: p, last, t, 0, c', h => by
    cases h
    exact ⟨_, _, rfl, rfl⟩
  | c :: p, last, t, i + 1, c', h => rows_at r p _ _ i c' h
/-- tuples with these contents -/
structure TupsAt (H : Hp) (ts : List Addr) (rows : List (List V)) : Prop where
  ln : ts.length = rows.length
  at_ : ∀ (i : Nat) t zs, ts[i]? = some t → rows[i]? = some zs → H t = some (.tup zs)
theorem TupsAt.kp {H H' : Hp} {ts : List Addr} {rows : List (List V)} (x : TupsAt H ts rows) (e : Kp H H') : TupsAt H' ts rows := ⟨x.ln, fun i t zs h1 h2 => Kp.tup e (x.at_ i t zs h1 h2)⟩
theorem TupsAt.nil (H : Hp) : TupsAt H [] [] := ⟨rfl, fun _ _ _ h => nomatch h⟩
theorem TupsAt.snoc {H : Hp} {ts : List Addr} {rows : List (List V)} {t : Addr} {zs : List V} (x : TupsAt H ts rows) (h : H t = some (.tup zs)) : TupsAt H (ts ++ [t]) (rows ++ [zs]) := by
  refine ⟨by rw [List.length_append, List.length_append, x.ln]; rfl, fun i t' zs' h1 h2 => ?_⟩
  rcases snoc_get h1 with a | ⟨a1, a2⟩
  · rcases snoc_get h2 with b | ⟨b1, b2⟩
    · exact x.at_ i t' zs' a b
    · have := (List.getElem?_eq_some_iff.mp a).1
      rw [x.ln] at this
      omega
  · rcases snoc_get h2 with b | ⟨b1, b2⟩
    · have := (List.getElem?_eq_some_iff.mp b).1
      rw [← x.ln] at this
      omega
    · rw [a2, b2]
      exact h
abbrev sp_done_rows (G : Ad) : Sp := fun vs H Q _ => ∃ (p : Addr) (W : Wk) (l : Addr) (pl : List Cloth), vs = [.ref p, .ref l] ∧ WkAt G H p W ∧ H l = some (.lst (pl.map fun c => V.str c.name)) ∧ (pl.map (·.name)).Nodup ∧ (∀ c ∈ pl, c ∈ W.cl) ∧
  ∀ H' a (ts : List Addr), Same H H' → H' a = some (.lst (ts.map V.ref)) → TupsAt H' ts (rowsOf W.rin W.last W.time pl) → Q (.ref a) H'
theorem sc_done_rows : FnScope ["works", "names", "rows", "name", "last", "time", "cloth", "begin"] ["works", "names"] (defScope sdone_rows) := ⟨rfl, rfl, rfl, by decide +kernel, rfl, by decide +kernel, by decide +kernel⟩
theorem c_done_rows (FC : Fc G mg) (MW_want : Me P w G.K mg base k G.CW "want" (spW_want G)) (MW_start : Me P w G.K mg base k G.CW "start" (spW_start G)) (MW_cloth : Me P w G.K mg base k G.CW "cloth" (spW_cloth G)) (MW_rinse : Me P w G.K mg base k G.CW "rinse" (spW_rinse G)) (F : Gd G.K mg "done_rows" sdone_rows) : Ca P w G.K mg base (k + 1) "done_rows" (sp_done_rows G) :=
  ca_0 F sc_done_rows (fun _ _ _ _ _ _ us hl => match us, hl with | [_, _], _ => rfl) (fun vs H Q E h => by obtain ⟨_, _, _, _, rfl, _⟩ := h; rfl)
  fun f cdv A outer s H vs Q E hr h => ⟨_, /- slots: 0 works, 1 names, 2 rows, 3 name, 4 last, 5 time, 6 cloth, 7 begin -/ (pss_cons (ps_expr (pe_me MW_want hr (pv 0) (pa_cons (pv 1) pa_nil)))
      (pss_cons (ps_asg (pe_me0 MW_start hr (pv 0)) (pg_tup rfl (pgs_cons (pg_name (i := 4) sc_done_rows.nd rfl (Or.inl rfl)) (pgs_cons (pg_name (i := 5) sc_done_rows.nd rfl (Or.inl rfl)) pgs_nil))))
      (pss_cons (ps_set (i := 2) sc_done_rows.nd rfl (Or.inl rfl) (pe_lst pa_nil))
      (pss_cons (ps_for PassesOwn.never rfl (pi_list (pv 1)) (pg_name (i := 3) sc_done_rows.nd rfl (Or.inl rfl)) (pss_cons (ps_set (i := 6) sc_done_rows.nd rfl (Or.inl rfl) (pe_me MW_cloth hr (pv 0) (pa_cons (pv 3) pa_nil)))
      (pss_cons (ps_set (i := 7) sc_done_rows.nd rfl (Or.inl rfl) (pe_op op_add (pv 5) (pe_me MW_rinse hr (pv 0) (pa_cons (pv 4) (pa_cons (pe_ix ix_tup (pv 6) pe_int (fun _ _ => rfl)) pa_nil)))))
      (pss_cons (ps_set (i := 5) sc_done_rows.nd rfl (Or.inl rfl) (pe_op op_add (pv 7) (pe_ix ix_tup (pv 6) pe_int (fun _ _ => rfl))))
      (pss_cons (ps_set (i := 4) sc_done_rows.nd rfl (Or.inl rfl) (pe_ix ix_tup (pv 6) pe_int (fun _ _ => rfl)))
      (pss_one (ps_expr (pe_bm PySem.F.plainAttrs_list PySem.F.slot_list_append PySem.F.type_list_append mt_append (pv 2) (pa_cons (pe_tup (pa_cons (pv 3) (pa_cons (pv 7) (pa_cons (pv 5) pa_nil)))) pa_nil)))))))))
      (pss_one (ps_ret (pv 2))))))), by
    obtain ⟨p, W, l, pl, rfl, hW, hl, nd, hin, q⟩ := h
    obtain ⟨dx, ls, ts0, d, cs, O⟩ := hW.open_
    have ok := hW.ok
    have hnames : ∀ c ∈ pl, c.name ∈ W.cl.map (·.name) := fun c hc => List.mem_map.mpr ⟨c, hin c hc, rfl⟩
    have ln : pl.length ≤ 10 := by
      have h1 := nd_sub nd (zs := W.cl.map (·.name)) fun y hy => by
        obtain ⟨c, hc, rfl⟩ := List.mem_map.mp hy
        exact hnames c hc
      rw [List.length_map, List.length_map] at h1
      have := ok.few
      omega
    dsimp only [tSeq, tRet, tRetN, tIfS, tAsg, tDrop, tNext, tNever, tVar, tC, tCons, tNil, tCB, tOp, tTest, tB, tAnd, tOr, tNot, tAndV, tOrV, tNotV, tChain, tTup, tLst, tFld, sFld, tCall, tMeth, tMake, tDGet, tDIn, tDNotIn, sDPut, tDNewK, tSl, tPart, tNoPart, gTup, gCons, gNil, gSub, tBM, tUn]
    refine ⟨_, rfl, p, dx, _, rfl, O.at_, wf_no (by decide +kernel), _, rfl, p, W, l, pl.map (·.name), rfl, hW, Or.inl (Or.inl (by rw [List.map_map]; exact hl)), nd, (fun y hy => by
      obtain ⟨c, hc, rfl⟩ := List.mem_map.mp hy
      exact hnames c hc), fun H1 e1 => ?_⟩
    refine ⟨_, rfl, p, dx, _, rfl, e1 _ _ O.at_, wf_no (by decide +kernel), p, W, rfl, hW.same e1, fun H2 t e2 ht => ?_⟩
    have e12 := Evl.Ex.trans e1 e2
    refine ⟨t, _, rfl, Or.inl (Or.inl ht), rfl, _, _, rfl, _, _, rfl, rfl, ?_⟩
    refine ⟨Nat.zero_le _, fun D hD => ?_⟩
    have hz : (pl.map fun c => V.str c.name).length = pl.length := List.length_map ..
    refine Evl.s_forLn (xs := pl.map fun c => V.str c.name) (Evl.ev_var rfl) (Or.inl (Or.inl (same_new hD _ _ (e12 _ _ hl)))) (fun i σ' H' => (∃ y3 y6 y7, σ' = [some (.ref p), some (.ref l), some (.ref D), y3, some (.int (ends W.rin W.last W.time (pl.take i)).1), some (.int (ends W.rin W.last W.time (pl.take i)).2), y6, y7]) ∧
        Same H2 H' ∧ (-1 ≤ (ends W.rin W.last W.time (pl.take i)).1 ∧ (ends W.rin W.last W.time (pl.take i)).1 < W.n) ∧ ∃ ts : List Addr, H' D = some (.lst (ts.map V.ref)) ∧ TupsAt H' ts (rowsOf W.rin W.last W.time (pl.take i)))
      (fun H3 e3 => ⟨⟨_, _, _, rfl⟩, Evl.Ex.trans (same_new hD) e3, ⟨ok.l0, ok.l1⟩, [], e3 _ _ upd_same, TupsAt.nil _⟩) (fun i σ' H' _ z => Or.inl (Or.inl (z.2.1 _ _ (e12 _ _ hl)))) ?_ ?_
    · rintro i y _ H3 hy ⟨⟨y3, y6, y7, rfl⟩, e3, ⟨l0, l1⟩, ts, hts, hT⟩
      rw [List.getElem?_map] at hy
      obtain ⟨c, hc, rfl⟩ := Option.map_eq_some_iff.mp hy
      have mc := List.mem_of_getElem? hc
      have hcW := hin c mc
      have gc := ok.good c hcW
      have e13 := Evl.Ex.trans e12 e3
      have hW3 := hW.same e13
      have htk : pl.take (i + 1) = pl.take i ++ [c] := by rw [List.take_add_one, hc]; rfl
      show tSeq _ _ _ _ _
      dsimp only [tSeq, tRet, tRetN, tIfS, tAsg, tDrop, tNext, tNever, tVar, tC, tCons, tNil, tCB, tOp, tTest, tB, tAnd, tOr, tNot, tAndV, tOrV, tNotV, tChain, tTup, tLst, tFld, sFld, tCall, tMeth, tMake, tDGet, tDIn, tDNotIn, sDPut, tDNewK, tSl, tPart, tNoPart, gTup, gCons, gNil, gSub, tBM, tUn]
      refine ⟨_, rfl, p, dx, _, rfl, e13 _ _ O.at_, wf_no (by decide +kernel), _, rfl, p, W, c.name, rfl, hW3, fun c' t' hc' hn' hat => ?_, fun z => absurd (hnames c mc) z⟩
      obtain rfl : c' = c := one_of_name ok.nd hc' hcW hn'
      have hT' : SqT G.K H3 t' (clV c') := Or.inl (Or.inl hat)
      refine ⟨_, rfl, _, rfl, p, dx, _, rfl, e13 _ _ O.at_, wf_no (by decide +kernel), _, rfl, _, rfl, t', _, 1, _, rfl, rfl, hT', rfl, p, W, _, c'.hue, rfl, hW3, l0, l1, gc.2.1, _, _, rfl, rfl, ?_⟩
      refine ⟨_, rfl, _, rfl, t', _, 2, _, rfl, rfl, hT', rfl, _, _, rfl, rfl, ?_⟩
      refine ⟨_, rfl, t', _, 1, _, rfl, rfl, hT', rfl, ?_⟩
      refine ⟨_, rfl, Or.inl ⟨rfl, _, Or.inl (Or.inl hts)⟩, _, rfl, _, rfl, _, rfl, (show 3 ≤ sizeLine by decide), fun b hb => ?_⟩
      have lts : ts.length ≤ 10 := by
        have := hT.ln
        rw [rowsOf_length, List.length_take] at this
        omega
      have hts' := (same_new (o := HO.tup [.str c'.name, .int ((ends W.rin W.last W.time (pl.take i)).2 + W.rin (ends W.rin W.last W.time (pl.take i)).1 c'.hue), .int ((ends W.rin W.last W.time (pl.take i)).2 + W.rin (ends W.rin W.last W.time (pl.take i)).1 c'.hue + c'.len)]) hb) _ _ hts
      refine ⟨D, _, _, rfl, rfl, hts', by rw [List.length_map]; exact small16' (by omega), ⟨some (.str c'.name), some (.ref t'), some (.int ((ends W.rin W.last W.time (pl.take i)).2 + W.rin (ends W.rin W.last W.time (pl.take i)).1 c'.hue)), ?_⟩, ?_, ?_, ts ++ [b], ?_, ?_⟩
      · rw [htk, ends_append]
        rfl
      · exact same_mut (Evl.Ex.trans e3 (same_new hb)) hD
      · rw [htk, ends_append]
        exact ⟨show (-1 : Int) ≤ (c'.hue : Nat) by omega, show ((c'.hue : Nat) : Int) < W.n by have := gc.2.1; omega⟩
      · rw [upd_same, refs_snoc]
      · rw [htk, rowsOf_append]
        have bD : b ≠ D := fun z => by rw [z, hts] at hb; cases hb
        refine TupsAt.snoc ⟨hT.ln, fun j t2 zs h1 h2 => ?_⟩ (by rw [upd_ne bD]; exact upd_same)
        have h3 := hT.at_ j t2 zs h1 h2
        rw [upd_ne (fun z => by rw [z, hts] at h3; cases h3), upd_ne (ne_of_none h3 hb)]
        exact h3
    · rintro _ H3 ⟨⟨y3, y6, y7, rfl⟩, e3, _, ts, hts, hT⟩
      rw [hz, List.take_length] at hT
      exact ⟨_, rfl, q H3 D ts (Evl.Ex.trans e12 e3) hts hT⟩⟩
/-- max(.., default=None) -/
def mxV : List Int → V
  | [] => .non
  | n :: r => .int (r.foldl max n)
abbrev sp_lateness (G : Ad) : Sp := fun vs H Q _ => ∃ (p : Addr) (W : Wk) (l : Addr) (pl : List Cloth), vs = [.ref p, .ref l] ∧ WkAt G H p W ∧ H l = some (.lst (pl.map fun c => V.str c.name)) ∧ (pl.map (·.name)).Nodup ∧ (∀ c ∈ pl, c ∈ W.cl) ∧
  ∀ H', Same H H' → Q (mxV (lates W.rin W.last W.time pl)) H'
theorem sc_lateness : FnScope ["works", "names", "name", "begin", "end"] ["works", "names"] (defScope slateness) := ⟨rfl, rfl, rfl, by decide +kernel, rfl, by decide +kernel, by decide +kernel⟩
theorem c_lateness (B : Bn mg) (FC : Fc G mg) (C_done_rows : Ca P w G.K mg base k "done_rows" (sp_done_rows G)) (MW_cloth : Me P w G.K mg base k G.CW "cloth" (spW_cloth G)) (F : Gd G.K mg "lateness" slateness) : Ca P w G.K mg base (k + 1) "lateness" (sp_lateness G) :=
  ca_0 F sc_lateness (fun _ _ _ _ _ _ us hl => match us, hl with | [_, _], _ => rfl) (fun vs H Q E h => by obtain ⟨_, _, _, _, rfl, _⟩ := h; rfl)
  fun f cdv A outer s H vs Q E hr h => ⟨_, /- slots: 0 works, 1 names, 2 name, 3 begin, 4 end -/ (pss_one (ps_ret (pe_callBK (cr_maxD rfl hr.units) (by rfl) B.max (by decide +kernel) (pa_cons (pe_lc (own := [("name", 2), ("begin", 3), ("end", 4)]) (g := (gTup G.K 3 (gCons (gName 2) (gCons (gName 3) (gCons (gName 4) gNil))))) (tt := tYes) (te := (tOp (rI0 fun i j => .int (i - j)) (tVar 4) (tOp (rIxT G.K) (tMeth G.CW "cloth" (spW_cloth G) [] E0 (tVar 0) (tCons (tVar 2) tNil)) (tC (.int 3))))) rfl sc_lateness.nd (pi_list (pe_ca C_done_rows hr (pa_cons (pv 0) (pa_cons (pv 1) pa_nil)))) (blkOk_by (own := [("name", 2), ("begin", 3), ("end", 4)]) (N := ["works", "names", "name", "begin", "end"]) (sc := defScope slateness) (by decide +kernel)) (fun _ _ _ _ _ => by exact (pg_tup rfl (pgs_cons (pg_name (i := 2) sc_lateness.nd rfl (Or.inl rfl)) (pgs_cons (pg_name (i := 3) sc_lateness.nd rfl (Or.inl rfl)) (pgs_cons (pg_name (i := 4) sc_lateness.nd rfl (Or.inl rfl)) pgs_nil))))) (fun _ _ _ _ _ => by exact pts_nil) (fun _ _ _ _ _ => by exact (pe_op op_sub (pv 4) (pe_ix ix_tup (pe_me MW_cloth hr (pv 0) (pa_cons (pv 2) pa_nil)) pe_int (fun _ _ => rfl))))) pa_nil) (pk_cons pe_non pk_nil)))), by
    obtain ⟨p, W, l, pl, rfl, hW, hl, nd, hin, q⟩ := h
    obtain ⟨dx, ls, ts0, d, cs, O⟩ := hW.open_
    have ok := hW.ok
    have ln : pl.length ≤ 10 := by
      have h1 := nd_sub nd (zs := W.cl.map (·.name)) fun y hy => by
        obtain ⟨c, hc, rfl⟩ := List.mem_map.mp hy
        exact List.mem_map.mpr ⟨c, hin c hc, rfl⟩
      rw [List.length_map, List.length_map] at h1
      have := ok.few
      omega
    refine ⟨_, rfl, _, rfl, p, W, l, pl, rfl, hW, hl, nd, hin, fun H1 a ts e1 ha hT => ?_⟩
    have hz : (ts.map V.ref).length = pl.length := by rw [List.length_map, hT.ln, rowsOf_length]
    refine ⟨a, rfl, ⟨_, Or.inl (Or.inl ha)⟩, fun D hD => lc_it (walk_list (xs := ts.map V.ref)) (fun i H' => Same H1 H' ∧ H' D = some (.lst (((lates W.rin W.last W.time pl).take i).map V.int))) ⟨same_new hD, upd_same⟩ (fun i H' _ z => Or.inl (Or.inl (z.1 _ _ ha))) ?_ ?_⟩
    · rintro i x H2 H3 hi ⟨e2, hD2⟩ ⟨rfl, hx⟩
      rw [List.getElem?_map] at hx
      obtain ⟨t, ht, rfl⟩ := Option.map_eq_some_iff.mp hx
      have hi' : i < pl.length := by rw [← hz]; exact hi
      have gp : pl[i]? = some pl[i] := List.getElem?_eq_getElem hi'
      obtain ⟨b, e, r1, r2⟩ := rows_at W.rin pl W.last W.time i _ gp
      have mc := List.mem_of_getElem? gp
      generalize pl[i] = c at *
      have hcW := hin c mc
      have e12 := Evl.Ex.trans e1 e2
      have ht2 := e2 _ _ (hT.at_ i t _ ht r1)
      refine ⟨t, _, rfl, Or.inl (Or.inl ht2), rfl, _, _, rfl, _, _, rfl, _, _, rfl, rfl, rfl, ?_⟩
      refine ⟨_, rfl, _, rfl, p, dx, _, rfl, e12 _ _ O.at_, wf_no (by decide +kernel), _, rfl, p, W, c.name, rfl, hW.same e12, fun c' t' hc' hn' hat => ?_, fun z => absurd (List.mem_map.mpr ⟨c, hcW, rfl⟩) z⟩
      obtain rfl : c' = c := one_of_name ok.nd hc' hcW hn'
      refine ⟨t', _, 3, _, rfl, rfl, Or.inl (Or.inl hat), rfl, _, _, rfl, rfl, _, hD2, by rw [List.length_map, List.length_take]; exact small16' (by omega), same_mut e2 hD, ?_⟩
      rw [upd_same, List.take_add_one, r2, List.map_append]
      rfl
    · rintro H2 ⟨e2, hD2⟩
      rw [hz, ← lates_length W.rin pl W.last W.time, List.take_length] at hD2
      have qq := q H2 (Evl.Ex.trans e1 e2)
      refine ⟨D, lates W.rin W.last W.time pl, .non, rfl, rfl, Or.inl (Or.inl hD2), fun z => ?_, fun n r z => ?_⟩
      · rw [z] at qq; exact qq
      · rw [z] at qq; exact qq⟩
/-- a bound as a value -/
def bdV : Option Int → V
  | none => .non
  | some x => .int x
theorem foldl_max_le (b : Int) : ∀ (r : List Int) (n : Int), r.foldl max n ≤ b ↔ n ≤ b ∧ ∀ x ∈ r, x ≤ b
  | [], n => ⟨fun h => ⟨h, fun _ m => nomatch m⟩, fun h => h.1⟩
  | a :: r, n => by
    show r.foldl max (max n a) ≤ b ↔ _
    rw [foldl_max_le b r]
    constructor
    · rintro ⟨h1, h2⟩
      exact ⟨by omega, fun x m => by
        rcases List.mem_cons.mp m with rfl | m
        · omega
        · exact h2 x m⟩
    · rintro ⟨h1, h2⟩
      have := h2 a (List.mem_cons_self ..)
      exact ⟨by omega, fun x m => h2 x (List.mem_cons_of_mem _ m)⟩
abbrev sp_keeps (G : Ad) : Sp := fun vs H Q _ => ∃ (p : Addr) (W : Wk) (l : Addr) (pl : List Cloth) (b : Option Int), vs = [.ref p, .ref l, bdV b] ∧ WkAt G H p W ∧ H l = some (.lst (pl.map fun c => V.str c.name)) ∧ (pl.map (·.name)).Nodup ∧ (∀ c ∈ pl, c ∈ W.cl) ∧
  ∀ H' r, Same H H' → (r = true ↔ ∀ x ∈ lates W.rin W.last W.time pl, okB b x) → Q (.bl r) H'
theorem sc_keeps : FnScope ["works", "names", "bound", "late"] ["works", "names", "bound"] (defScope skeeps) := ⟨rfl, rfl, rfl, by decide +kernel, rfl, by decide +kernel, by decide +kernel⟩
theorem c_keeps (C_lateness : Ca P w G.K mg base k "lateness" (sp_lateness G)) (F : Gd G.K mg "keeps" skeeps) : Ca P w G.K mg base (k + 1) "keeps" (sp_keeps G) :=
  ca_0 F sc_keeps (fun _ _ _ _ _ _ us hl => match us, hl with | [_, _, _], _ => rfl) (fun vs H Q E h => by obtain ⟨_, _, _, _, _, rfl, _⟩ := h; rfl)
  fun f cdv A outer s H vs Q E hr h => ⟨_, /- slots: 0 works, 1 names, 2 bound, 3 late -/ (pss_cons (ps_set (i := 3) sc_keeps.nd rfl (Or.inl rfl) (pe_ca C_lateness hr (pa_cons (pv 0) (pa_cons (pv 1) pa_nil))))
      (pss_one (ps_ret (pe_or (pe_cmpR op_isN (pv 2) pe_non (nomark _)) (pe_or (pe_cmpR op_isN (pv 3) pe_non (nomark _)) (pe_one (pe_cmpR op_le (pv 3) (pv 2) (nomark _)))))))), by
    obtain ⟨p, W, l, pl, b, rfl, hW, hl, nd, hin, q⟩ := h
    dsimp only [tSeq, tRet, tRetN, tIfS, tAsg, tDrop, tNext, tNever, tVar, tC, tCons, tNil, tCB, tOp, tTest, tB, tAnd, tOr, tNot, tAndV, tOrV, tNotV, tChain, tTup, tLst, tFld, sFld, tCall, tMeth, tMake, tDGet, tDIn, tDNotIn, sDPut, tDNewK, tSl, tPart, tNoPart, gTup, gCons, gNil, gSub, tBM, tUn]
    refine ⟨_, rfl, _, rfl, p, W, l, pl, rfl, hW, hl, nd, hin, fun H1 e1 => ?_⟩
    cases b with
    | none => exact ⟨_, rfl, rfl, true, rfl, q H1 true e1 ⟨fun _ _ _ => okB_none _, fun _ => rfl⟩⟩
    | some b =>
      refine ⟨_, rfl, rfl, false, rfl, ?_⟩
      cases hL : lates W.rin W.last W.time pl with
      | nil =>
        refine ⟨_, rfl, rfl, true, rfl, q H1 true e1 ⟨fun _ x m => ?_, fun _ => rfl⟩⟩
        rw [hL] at m
        cases m
      | cons n r =>
        refine ⟨_, rfl, rfl, false, rfl, _, rfl, _, rfl, _, _, rfl, rfl, q H1 _ e1 ?_⟩
        rw [decide_eq_true_iff, hL, foldl_max_le]
        constructor
        · rintro ⟨h1, h2⟩ x m
          rw [okB_some]
          rcases List.mem_cons.mp m with rfl | m
          · exact h1
          · exact h2 x m
        · intro h
          exact ⟨okB_some.mp (h n (List.mem_cons_self ..)), fun x m => okB_some.mp (h x (List.mem_cons_of_mem _ m))⟩⟩
end Rw82
/-! House. -/
namespace Rw82
open PySem PySem.Spec PyProof.Rows L2
variable {P : Program} {w : World} {mg : Str → Option Value} {base : Heap} {k : Nat} {G : Ad}
def hf (pw pr pp : Addr) : List (Str × V) := [("now", .ref pw), ("rows", .ref pr), ("past", .ref pp)]
section
variable {pw pr pp : Addr}
theorem hf_now : (hf pw pr pp).lookup ("now" : Str) = some (.ref pw) := lookup_cons_eq
theorem hf_rows : (hf pw pr pp).lookup ("rows" : Str) = some (.ref pr) := (lookup_cons_ne (by decide +kernel)).trans lookup_cons_eq
theorem hf_past : (hf pw pr pp).lookup ("past" : Str) = some (.ref pp) := (lookup_cons_ne (by decide +kernel)).trans ((lookup_cons_ne (by decide +kernel)).trans lookup_cons_eq)
theorem hf_no {m : Str} (h : m ∉ ([("now" : Str), "rows", "past"] : List Str)) : (hf pw pr pp).lookup m = none := lookup_none h
theorem hf_put1 {p : Addr} : putF "now" (.ref p) (hf pw pr pp) = hf p pr pp := if_pos rfl
theorem hf_put2 {p : Addr} : putF "rows" (.ref p) (hf pw pr pp) = hf pw p pp := by
  show (if ("now" : Str) = "rows" then _ else (("now" : Str), V.ref pw) :: (if ("rows" : Str) = "rows" then _ else _)) = _
  rw [if_neg (by decide +kernel), if_pos rfl]
  rfl
end
/-- all but the house and its past stays -/
def HB (h pp : Addr) (H H' : Hp) : Prop := ∀ b o, b ≠ h → b ≠ pp → H b = some o → H' b = some o
theorem HB.of {h pp : Addr} {H H' : Hp} (e : Same H H') : HB h pp H H' := fun b o _ _ z => e b o z
theorem HB.trans {h pp : Addr} {H H1 H2 : Hp} (x : HB h pp H H1) (y : HB h pp H1 H2) : HB h pp H H2 := fun b o n1 n2 z => y b o n1 n2 (x b o n1 n2 z)
/-- the house's past -/
def PastAt (H : Hp) (pp : Addr) (np : Nat) : Prop := ∃ ps : List Addr, H pp = some (.lst (ps.map V.ref)) ∧ (∀ p ∈ ps, ∃ zs, H p = some (.tup zs)) ∧ ps.length ≤ np
structure HsAt (G : Ad) (H : Hp) (h pp : Addr) (W : Wk) (rws : List (List V)) (np : Nat) : Prop where
  ex : ∃ (dx pw pr : Addr) (ts : List Addr), H h = some (.ins G.CH dx (hf pw pr pp)) ∧ WkAt G H pw W ∧ H pr = some (.lst (ts.map V.ref)) ∧ pr ≠ pp ∧ TupsAt H ts rws
  past : PastAt H pp np
theorem MxAt.hb {H H' : Hp} {h pp a dx C : Addr} {fs : List (Str × V)} {n np : Nat} {D : Mat} (m : MxAt H a n D) (n1 : 1 ≤ n) (hh : H h = some (.ins C dx fs)) (hp : PastAt H pp np) (e : HB h pp H H') : MxAt H' a n D := by
  obtain ⟨rs, h1, h2, h3⟩ := m.ex
  obtain ⟨ps, p1, p2, _⟩ := hp
  have nh : ∀ {b : Addr} {xs : List V}, H b = some (.lst xs) → b ≠ h := fun z q => by rw [q, hh] at z; cases z
  have r0 : ∃ r, rs[0]? = some r := ⟨rs[0]'(by omega), List.getElem?_eq_getElem _⟩
  have na : a ≠ pp := fun q => by
    rw [q, p1] at h1
    have q' : ps = rs := refs_inj (by injection h1 with z; injection z)
    obtain ⟨r, hr⟩ := r0
    obtain ⟨zs, hz⟩ := p2 r (by rw [q']; exact List.mem_of_getElem? hr)
    rw [h3 0 r hr] at hz
    cases hz
  refine ⟨rs, e _ _ (nh h1) na h1, h2, fun i r hr => e _ _ (nh (h3 i r hr)) (fun q => ?_) (h3 i r hr)⟩
  have h4 := h3 i r hr
  rw [q, p1] at h4
  have q' : ps.map V.ref = rowV n D i := by injection h4 with z; injection z
  have g := rowV_get (D := D) (i := i) (show 0 < n by omega)
  rw [← q', List.getElem?_map] at g
  cases hps : ps[0]? with
  | none => rw [hps] at g; cases g
  | some x => rw [hps] at g; cases g
theorem WkAt.hb {H H' : Hp} {h pp p dx pw pr pq : Addr} {W : Wk} {np : Nat} (x : WkAt G H p W) (hh : H h = some (.ins G.CH dx (hf pw pr pq))) (hp : PastAt H pp np) (e : HB h pp H H') : WkAt G H' p W := by
  obtain ⟨dx', ls, ts, d, cs, h1, h2, h3, h4, h5, h6⟩ := x.ex
  obtain ⟨ps, p1, p2, p3⟩ := id hp
  have nph : p ≠ h := fun q => by
    rw [q, hh] at h1
    have z := congrArg (fun o : Option HO => match o with | some (.ins _ _ fs) => fs.lookup ("now" : Str) | _ => none) h1
    have z' : (hf pw pr pq).lookup ("now" : Str) = (wf ls ts W.last W.time d).lookup ("now" : Str) := z
    rw [hf_now, wf_no (by decide +kernel)] at z'
    cases z'
  refine ⟨x.ok, dx', ls, ts, d, cs, e _ _ nph (fun q => by rw [q, p1] at h1; cases h1) h1, h2.hb x.ok.n1 hh hp e, h3.hb x.ok.n1 hh hp e, e _ _ (fun q => by rw [q, hh] at h4; cases h4) (fun q => by rw [q, p1] at h4; cases h4) h4, h5, fun q hq => ?_⟩
  have h7 : H q.2 = some (.tup (clV q.1)) := h6 q hq
  exact e _ _ (fun z => by rw [z, hh] at h7; cases h7) (fun z => by rw [z, p1] at h7; cases h7) h7
theorem HsAt.same {H H' : Hp} {h pp : Addr} {W : Wk} {rws : List (List V)} {np : Nat} (x : HsAt G H h pp W rws np) (e : Same H H') : HsAt G H' h pp W rws np := by
  obtain ⟨dx, pw, pr, ts, h1, h2, h3, h4, h5⟩ := x.ex
  obtain ⟨ps, p1, p2, p3⟩ := x.past
  exact ⟨⟨dx, pw, pr, ts, e _ _ h1, h2.same e, e _ _ h3, h4, h5.kp (Kp.of e)⟩, ps, e _ _ p1, fun p hp => by
    obtain ⟨zs, hz⟩ := p2 p hp
    exact ⟨zs, e _ _ hz⟩, p3⟩
theorem HsAt.ext {H H' : Hp} {h pp : Addr} {W : Wk} {rws : List (List V)} {np : Nat} (x : HsAt G H h pp W rws np) (e : Kp H H') : HsAt G H' h pp W rws np := by
  obtain ⟨dx, pw, pr, ts, h1, h2, h3, h4, h5⟩ := x.ex
  obtain ⟨ps, p1, p2, p3⟩ := x.past
  exact ⟨⟨dx, pw, pr, ts, Kp.ins e h1, h2.kp e, Kp.lst e h3, h4, h5.kp e⟩, ps, Kp.lst e p1, fun p hp => by
    obtain ⟨zs, hz⟩ := p2 p hp
    exact ⟨zs, Kp.tup e hz⟩, p3⟩
abbrev spH_step (G : Ad) : Sp := fun vs H Q _ => ∃ (h pp p' pr' : Addr) (W W' : Wk) (rws rws' : List (List V)) (np : Nat) (ts' : List Addr), vs = [.ref h, .ref p', .ref pr'] ∧ HsAt G H h pp W rws np ∧ np < 1000 ∧ WkAt G H p' W' ∧ H pr' = some (.lst (ts'.map V.ref)) ∧ pr' ≠ pp ∧ TupsAt H ts' rws' ∧
  ∀ H', HB h pp H H' → HsAt G H' h pp W' rws' (np + 1) → Q .non H'
theorem sc_House_step : FnScope ["self", "works", "rows"] ["self", "works", "rows"] (defScope sHouse_step) := ⟨rfl, rfl, rfl, by decide +kernel, rfl, by decide +kernel, by decide +kernel⟩
theorem mH_step (FC : Fc G mg) (F : Md G.K G.CH "step" "House.step" sHouse_step) : Me P w G.K mg base (k + 1) G.CH "step" (spH_step G) :=
  me_0 F sc_House_step (fun _ _ _ _ _ _ us hl => match us, hl with | [_, _, _], _ => rfl) (fun vs H Q E h => by obtain ⟨_, _, _, _, _, _, _, _, _, _, rfl, _⟩ := h; rfl)
  fun f cdv A outer s H vs Q E hr h => ⟨_, /- slots: 0 self, 1 works, 2 rows -/ (pss_cons (ps_expr (pe_bm PySem.F.plainAttrs_list PySem.F.slot_list_append PySem.F.type_list_append mt_append (pe_fld (pv 0) rfl) (pa_cons (pe_tup (pa_cons (pe_fld (pv 0) rfl) (pa_cons (pe_fld (pv 0) rfl) pa_nil))) pa_nil)))
      (pss_cons (ps_fld (pv 0) (pv 1) rfl)
      (pss_one (ps_fld (pv 0) (pv 2) rfl)))), by
    obtain ⟨h, pp, p', pr', W, W', rws, rws', np, ts', rfl, hH, hnp, hW', hr', hne, hT', q⟩ := h
    obtain ⟨dx, pw, pr, ts, h1, h2, h3, h4, h5⟩ := hH.ex
    obtain ⟨ps, p1, p2, p3⟩ := hH.past
    dsimp only [tSeq, tRet, tRetN, tIfS, tAsg, tDrop, tNext, tNever, tVar, tC, tCons, tNil, tCB, tOp, tTest, tB, tAnd, tOr, tNot, tAndV, tOrV, tNotV, tChain, tTup, tLst, tFld, sFld, tCall, tMeth, tMake, tDGet, tDIn, tDNotIn, sDPut, tDNewK, tSl, tPart, tNoPart, gTup, gCons, gNil, gSub, tBM, tUn]
    refine ⟨_, rfl, h, _, dx, _, _, rfl, h1, FC.cH, FC.hP, hf_past, Or.inl ⟨rfl, _, Or.inl (Or.inl p1)⟩, _, rfl, h, _, dx, _, _, rfl, h1, FC.cH, FC.hN, hf_now, _, rfl, h, _, dx, _, _, rfl, h1, FC.cH, FC.hR, hf_rows, (show 2 ≤ sizeLine by decide), fun t ht => ?_⟩
    have tpp : pp ≠ t := fun z => by rw [← z, p1] at ht; cases ht
    have th : h ≠ t := fun z => by rw [← z, h1] at ht; cases ht
    have hpp : h ≠ pp := fun z => by rw [z, p1] at h1; cases h1
    refine ⟨pp, _, _, rfl, rfl, (same_new ht) _ _ p1, by rw [List.length_map]; exact small16' (by omega), ?_⟩
    have a1 : (upd (upd H t (.tup [.ref pw, .ref pr])) pp (.lst (ps.map V.ref ++ [.ref t]))) h = some (.ins G.CH dx (hf pw pr pp)) := by rw [upd_ne hpp, upd_ne th]; exact h1
    refine ⟨_, rfl, _, rfl, h, _, dx, _, rfl, a1, FC.cH, FC.hN, (show 3 < 1000 by decide), ?_⟩
    rw [hf_put1]
    refine ⟨_, rfl, _, rfl, h, _, dx, _, rfl, upd_same, FC.cH, FC.hR, (show 3 < 1000 by decide), ?_⟩
    rw [hf_put2, upd_upd]
    have hb : HB h pp H (upd (upd (upd H t (.tup [.ref pw, .ref pr])) pp (.lst (ps.map V.ref ++ [.ref t]))) h (.ins G.CH dx (hf p' pr' pp))) := fun b o n1 n2 e => by
      rw [upd_ne n1, upd_ne n2, upd_ne (ne_of_none e ht)]
      exact e
    have nt : ∀ {b : Addr} {zs : List V}, H b = some (.tup zs) → b ≠ h ∧ b ≠ pp := fun z => ⟨fun q => (by rw [q, h1] at z; cases z), fun q => (by rw [q, p1] at z; cases z)⟩
    refine q _ hb ⟨⟨dx, p', pr', ts', upd_same, hW'.hb h1 hH.past hb, hb _ _ (fun z => by rw [z, h1] at hr'; cases hr') hne hr', hne, ⟨hT'.ln, fun i t' zs e1 e2 => hb _ _ (nt (hT'.at_ i t' zs e1 e2)).1 (nt (hT'.at_ i t' zs e1 e2)).2 (hT'.at_ i t' zs e1 e2)⟩⟩, ps ++ [t], ?_, fun p hp => ?_, ?_⟩
    · rw [upd_ne hpp.symm, upd_same, refs_snoc]
    · rcases List.mem_append.mp hp with m | m
      · obtain ⟨zs, hz⟩ := p2 p m
        exact ⟨zs, hb _ _ (nt hz).1 (nt hz).2 hz⟩
      · rw [List.mem_singleton] at m
        subst m
        exact ⟨_, by rw [upd_ne th.symm, upd_ne tpp.symm, upd_same]⟩
    · rw [List.length_append]
      show ps.length + 1 ≤ np + 1
      omega⟩
abbrev spH_put (G : Ad) : Sp := fun vs H Q E => ∃ (h pp t : Addr) (W : Wk) (rws : List (List V)) (np : Nat) (zs : List V), vs = [.ref h, .ref t] ∧ HsAt G H h pp W rws np ∧ np < 1000 ∧ H t = some (.tup zs) ∧ W.cl.length < 10 ∧
  ((∃ c, zs = clV c ∧ goodC W.n c ∧ c.name ∉ W.cl.map (·.name) ∧ ∀ H' cl', HB h pp H H' → HsAt G H' h pp ⟨W.n, W.R, W.last, W.time, cl'⟩ rws (np + 1) → cl'.Perm (c :: W.cl) → Q .non H') ∨
    (zs.length ≤ 1000 ∧ (∀ a r, zs = .str a :: r → a.length ≤ 1000) ∧ 1 ≤ zs.length ∧ Refused W.n (W.cl.map (·.name)) zs ∧ ∀ cls d H', Caught G cls → Same H H' → E cls d H'))
theorem sc_House_put : FnScope ["self", "cloth"] ["self", "cloth"] (defScope sHouse_put) := ⟨rfl, rfl, rfl, by decide +kernel, rfl, by decide +kernel, by decide +kernel⟩
theorem mH_put (FC : Fc G mg) (MH_step : Me P w G.K mg base k G.CH "step" (spH_step G)) (MW_put : Me P w G.K mg base k G.CW "put" (spW_put G)) (F : Md G.K G.CH "put" "House.put" sHouse_put) : Me P w G.K mg base (k + 1) G.CH "put" (spH_put G) :=
  me_X F sc_House_put (fun _ _ _ _ _ _ us hl => match us, hl with | [_, _], _ => rfl) (fun vs H Q E h => by obtain ⟨_, _, _, _, _, _, _, rfl, _⟩ := h; rfl)
  fun f cdv A outer s H vs Q E hr h => ⟨_, /- slots: 0 self, 1 cloth -/ (pss_one (ps_expr (pe_me MH_step hr (pv 0) (pa_cons (pe_meX MW_put hr (passes_call (takes_of rfl rfl rfl rfl) fun _ _ _ _ h => h) (pe_fld (pv 0) rfl) (pa_cons (pv 1) pa_nil)) (pa_cons (pe_fld (pv 0) rfl) pa_nil))))), by
    obtain ⟨h, pp, t, W, rws, np, zs, rfl, hH, hnp, ht, l10, fin⟩ := h
    obtain ⟨dx, pw, pr, ts, h1, h2, h3, h4, h5⟩ := hH.ex
    obtain ⟨dxw, ls, tsw, d, cs, O⟩ := h2.open_
    dsimp only [tSeq, tRet, tRetN, tIfS, tAsg, tDrop, tNext, tNever, tVar, tC, tCons, tNil, tCB, tOp, tTest, tB, tAnd, tOr, tNot, tAndV, tOrV, tNotV, tChain, tTup, tLst, tFld, sFld, tCall, tMeth, tMake, tDGet, tDIn, tDNotIn, sDPut, tDNewK, tSl, tPart, tNoPart, gTup, gCons, gNil, gSub, tBM, tUn]
    dsimp only [spW_put, spH_step]
    refine ⟨_, rfl, h, dx, _, rfl, h1, hf_no (by decide +kernel), _, rfl, h, _, dx, _, _, rfl, h1, FC.cH, FC.hN, hf_now, pw, dxw, _, rfl, O.at_, wf_no (by decide +kernel), _, rfl, pw, W, t, zs, rfl, h2, ht, l10, ?_⟩
    rcases fin with ⟨c, e1, e2, e3, q⟩ | ⟨e1, e2, e3, e4, q⟩
    · refine Or.inl ⟨c, e1, e2, e3, fun H1 p' cl' s1 W1 hp => ⟨_, rfl, h, _, dx, _, _, rfl, s1 _ _ h1, FC.cH, FC.hR, hf_rows, h, pp, p', pr, W, _, rws, rws, np, ts, rfl, hH.same s1, hnp, W1, s1 _ _ h3, h4, h5.kp (Kp.of s1), fun H2 s2 hH2 => q H2 cl' ((HB.of s1).trans s2) hH2 hp⟩⟩
    · exact Or.inr ⟨e1, e2, e3, e4, q⟩⟩
abbrev spH_drop (G : Ad) : Sp := fun vs H Q E => ∃ (h pp : Addr) (W : Wk) (rws : List (List V)) (np : Nat) (z : Str), vs = [.ref h, .str z] ∧ HsAt G H h pp W rws np ∧ np < 1000 ∧
  (z ∈ W.cl.map (·.name) → ∀ H' cl', HB h pp H H' → HsAt G H' h pp ⟨W.n, W.R, W.last, W.time, cl'⟩ rws (np + 1) → cl'.Perm (W.cl.filter fun c => !decide (c.name = z)) → Q .non H') ∧ (z ∉ W.cl.map (·.name) → ∀ cls d H', Caught G cls → Same H H' → E cls d H')
theorem sc_House_drop : FnScope ["self", "name"] ["self", "name"] (defScope sHouse_drop) := ⟨rfl, rfl, rfl, by decide +kernel, rfl, by decide +kernel, by decide +kernel⟩
theorem mH_drop (FC : Fc G mg) (MH_step : Me P w G.K mg base k G.CH "step" (spH_step G)) (MW_without : Me P w G.K mg base k G.CW "without" (spW_without G)) (F : Md G.K G.CH "drop" "House.drop" sHouse_drop) : Me P w G.K mg base (k + 1) G.CH "drop" (spH_drop G) :=
  me_X F sc_House_drop (fun _ _ _ _ _ _ us hl => match us, hl with | [_, _], _ => rfl) (fun vs H Q E h => by obtain ⟨_, _, _, _, _, _, rfl, _⟩ := h; rfl)
  fun f cdv A outer s H vs Q E hr h => ⟨_, /- slots: 0 self, 1 name -/ (pss_one (ps_expr (pe_me MH_step hr (pv 0) (pa_cons (pe_meX MW_without hr (passes_call (takes_of rfl rfl rfl rfl) fun _ _ _ _ h => h) (pe_fld (pv 0) rfl) (pa_cons (pv 1) pa_nil)) (pa_cons (pe_fld (pv 0) rfl) pa_nil))))), by
    obtain ⟨h, pp, W, rws, np, z, rfl, hH, hnp, q, qe⟩ := h
    obtain ⟨dx, pw, pr, ts, h1, h2, h3, h4, h5⟩ := hH.ex
    obtain ⟨dxw, ls, tsw, d, cs, O⟩ := h2.open_
    dsimp only [tSeq, tRet, tRetN, tIfS, tAsg, tDrop, tNext, tNever, tVar, tC, tCons, tNil, tCB, tOp, tTest, tB, tAnd, tOr, tNot, tAndV, tOrV, tNotV, tChain, tTup, tLst, tFld, sFld, tCall, tMeth, tMake, tDGet, tDIn, tDNotIn, sDPut, tDNewK, tSl, tPart, tNoPart, gTup, gCons, gNil, gSub, tBM, tUn]
    dsimp only [spW_without, spH_step]
    refine ⟨_, rfl, h, dx, _, rfl, h1, hf_no (by decide +kernel), _, rfl, h, _, dx, _, _, rfl, h1, FC.cH, FC.hN, hf_now, pw, dxw, _, rfl, O.at_, wf_no (by decide +kernel), _, rfl, pw, W, z, rfl, h2, ?_, qe⟩
    exact fun hz H1 p' cl' s1 W1 hp => ⟨_, rfl, h, _, dx, _, _, rfl, s1 _ _ h1, FC.cH, FC.hR, hf_rows, h, pp, p', pr, W, _, rws, rws, np, ts, rfl, hH.same s1, hnp, W1, s1 _ _ h3, h4, h5.kp (Kp.of s1), fun H2 s2 hH2 => q hz H2 cl' ((HB.of s1).trans s2) hH2 hp⟩⟩
abbrev spH_works (G : Ad) : Sp := fun vs H Q _ => ∃ (h pp : Addr) (W : Wk) (rws : List (List V)) (np : Nat), vs = [.ref h] ∧ HsAt G H h pp W rws np ∧ ∀ pw, WkAt G H pw W → Q (.ref pw) H
theorem sc_House_works : FnScope ["self"] ["self"] (defScope sHouse_works) := ⟨rfl, rfl, rfl, by decide +kernel, rfl, by decide +kernel, by decide +kernel⟩
theorem mH_works (FC : Fc G mg) (F : Md G.K G.CH "works" "House.works" sHouse_works) : Me P w G.K mg base (k + 1) G.CH "works" (spH_works G) :=
  me_0 F sc_House_works (fun _ _ _ _ _ _ us hl => match us, hl with | [_], _ => rfl) (fun vs H Q E h => by obtain ⟨_, _, _, _, _, rfl, _⟩ := h; rfl)
  fun f cdv A outer s H vs Q E hr h => ⟨_, /- slots: 0 self -/ (pss_one (ps_ret (pe_fld (pv 0) rfl))), by
    obtain ⟨h, pp, W, rws, np, rfl, hH, q⟩ := h
    obtain ⟨dx, pw, pr, ts, h1, h2, h3, h4, h5⟩ := hH.ex
    exact ⟨_, rfl, h, _, dx, _, _, rfl, h1, FC.cH, FC.hN, hf_now, q pw h2⟩⟩
abbrev spH_done (G : Ad) : Sp := fun vs H Q _ => ∃ (h pp : Addr) (W : Wk) (rws : List (List V)) (np : Nat), vs = [.ref h] ∧ HsAt G H h pp W rws np ∧ rws.length ≤ 1000 ∧ (∀ zs ∈ rws, zs.length = 4) ∧ ∀ H' a (ts : List Addr), Same H H' → H' a = some (.lst (ts.map V.ref)) → TupsAt H' ts (rws.map fun zs => zs.take 3) → Q (.ref a) H'
theorem sc_House_done : FnScope ["self", "row"] ["self"] (defScope sHouse_done) := ⟨rfl, rfl, rfl, by decide +kernel, rfl, by decide +kernel, by decide +kernel⟩
theorem mH_done (FC : Fc G mg) (F : Md G.K G.CH "done" "House.done" sHouse_done) : Me P w G.K mg base (k + 1) G.CH "done" (spH_done G) :=
  me_0 F sc_House_done (fun _ _ _ _ _ _ us hl => match us, hl with | [_], _ => rfl) (fun vs H Q E h => by obtain ⟨_, _, _, _, _, rfl, _⟩ := h; rfl)
  fun f cdv A outer s H vs Q E hr h => ⟨_, /- slots: 0 self, 1 row -/ (pss_one (ps_ret (pe_lc (own := [("row", 1)]) (g := (gName 1)) (tt := tYes) (te := (tSl (rSlA G.K) (tVar 1) tNoPart (tPart (tC (.int 3))))) rfl sc_House_done.nd (pi_list (pe_fld (pv 0) rfl)) (blkOk_by (own := [("row", 1)]) (N := ["self", "row"]) (sc := defScope sHouse_done) (by decide +kernel)) (fun _ _ _ _ _ => by exact (pg_name (i := 1) sc_House_done.nd rfl (Or.inl rfl))) (fun _ _ _ _ _ => by exact pts_nil) (fun _ _ _ _ _ => by exact (pe_slice sl_tupA (pv 1) po_none (po_some pe_int)))))), by
    obtain ⟨h, pp, W, rws, np, rfl, hH, hln, h4', q⟩ := h
    obtain ⟨dx, pw, pr, ts, h1, h2, h3, h4, h5⟩ := hH.ex
    have hz : (ts.map V.ref).length = rws.length := by rw [List.length_map, h5.ln]
    refine ⟨_, rfl, h, _, dx, _, _, rfl, h1, FC.cH, FC.hR, hf_rows, pr, rfl, ⟨_, Or.inl (Or.inl h3)⟩, fun D hD => lc_it (walk_list (xs := ts.map V.ref)) (fun i H' => Same H H' ∧ ∃ us : List Addr, H' D = some (.lst (us.map V.ref)) ∧ TupsAt H' us ((rws.take i).map fun zs => zs.take 3)) ⟨same_new hD, [], upd_same, TupsAt.nil _⟩ (fun i H' _ z => Or.inl (Or.inl (z.1 _ _ h3))) ?_ ?_⟩
    · rintro i x H2 H3 hi ⟨e2, us, hD2, hU⟩ ⟨rfl, hx⟩
      rw [List.getElem?_map] at hx
      obtain ⟨t, ht, rfl⟩ := Option.map_eq_some_iff.mp hx
      have hi' : i < rws.length := by rw [← hz]; exact hi
      have gz : rws[i]? = some rws[i] := List.getElem?_eq_getElem hi'
      have l4 := h4' _ (List.getElem_mem hi')
      have htk : rws.take (i + 1) = rws.take i ++ [rws[i]] := by rw [List.take_add_one, gz]; rfl
      have hzs := e2 _ _ (h5.at_ i t _ ht gz)
      generalize rws[i] = zs at *
      refine ⟨rfl, _, rfl, 3, rfl, t, zs, rfl, Or.inl (Or.inl hzs), fun z => absurd z.2 ?_, fun _ p hp => ?_⟩
      · show ¬ min 3 zs.length = zs.length
        rw [l4]; decide
      · have hcut : cutV zs none (some 3) = zs.take 3 := by
          show (zs.drop 0).take (min 3 zs.length - 0) = _
          rw [l4]
          rfl
        have pD : p ≠ D := fun z => by rw [z, hD2] at hp; cases hp
        have lus : us.length ≤ 1000 := by
          have := hU.ln
          rw [List.length_map, List.length_take] at this
          omega
        rw [hcut]
        refine ⟨_, (same_new hp) _ _ hD2, by rw [List.length_map]; exact small16' (by omega), same_mut (Evl.Ex.trans e2 (same_new hp)) hD, us ++ [p], by rw [upd_same, refs_snoc], ?_⟩
        rw [htk, List.map_append]
        refine TupsAt.snoc ⟨hU.ln, fun j t2 z2 h1 h2 => ?_⟩ (by rw [upd_ne pD]; exact upd_same)
        have h3 := hU.at_ j t2 z2 h1 h2
        rw [upd_ne (fun z => by rw [z, hD2] at h3; cases h3), upd_ne (ne_of_none h3 hp)]
        exact h3
    · rintro H2 ⟨e2, us, hD2, hU⟩
      rw [hz, List.take_length] at hU
      exact q H2 D us e2 hD2 hU⟩
abbrev spH_work (G : Ad) : Sp := fun vs H Q E => ∃ (h pp : Addr) (W : Wk) (rws : List (List V)) (np : Nat) (z : Str), vs = [.ref h, .str z] ∧ HsAt G H h pp W rws np ∧ np < 1000 ∧ rws.length ≤ 1000 ∧
  (∀ c ∈ W.cl, c.name = z → ∀ H' cl', HB h pp H H' → HsAt G H' h pp ⟨W.n, W.R, c.hue, W.time + W.rin W.last c.hue + c.len, cl'⟩ (rws ++ [[.str c.name, .int (W.time + W.rin W.last c.hue), .int (W.time + W.rin W.last c.hue + c.len), .int (W.time + W.rin W.last c.hue + c.len - c.due)]]) (np + 1) → cl'.Perm (W.cl.filter fun x => !decide (x.name = c.name)) → Q .non H') ∧
  (z ∉ W.cl.map (·.name) → ∀ cls d H', Caught G cls → Same H H' → E cls d H')
theorem sc_House_work : FnScope ["self", "name", "due", "begin", "end"] ["self", "name"] (defScope sHouse_work) := ⟨rfl, rfl, rfl, by decide +kernel, rfl, by decide +kernel, by decide +kernel⟩
theorem mH_work (FC : Fc G mg) (MH_step : Me P w G.K mg base k G.CH "step" (spH_step G)) (MW_cloth : Me P w G.K mg base k G.CW "cloth" (spW_cloth G)) (MW_begun : Me P w G.K mg base k G.CW "begun" (spW_begun G)) (C_done_rows : Ca P w G.K mg base k "done_rows" (sp_done_rows G)) (F : Md G.K G.CH "work" "House.work" sHouse_work) : Me P w G.K mg base (k + 1) G.CH "work" (spH_work G) :=
  me_X F sc_House_work (fun _ _ _ _ _ _ us hl => match us, hl with | [_, _], _ => rfl) (fun vs H Q E h => by obtain ⟨_, _, _, _, _, _, rfl, _⟩ := h; rfl)
  fun f cdv A outer s H vs Q E hr h => ⟨_, /- slots: 0 self, 1 name, 2 due, 3 begin, 4 end -/ (pss_cons (ps_set (i := 2) sc_House_work.nd rfl (Or.inl rfl) (pe_ix ix_tup (pe_meX MW_cloth hr (passes_call (takes_of rfl rfl rfl rfl) fun _ _ _ _ h => h) (pe_fld (pv 0) rfl) (pa_cons (pv 1) pa_nil)) pe_int (fun _ _ => rfl)))
      (pss_cons (ps_asg (pe_ix ix_list (pe_ca C_done_rows hr (pa_cons (pe_fld (pv 0) rfl) (pa_cons (pe_lst (pa_cons (pv 1) pa_nil)) pa_nil))) pe_int (fun _ _ => rfl)) (pg_tup rfl (pgs_cons (pg_name (i := 1) sc_House_work.nd rfl (Or.inl rfl)) (pgs_cons (pg_name (i := 3) sc_House_work.nd rfl (Or.inl rfl)) (pgs_cons (pg_name (i := 4) sc_House_work.nd rfl (Or.inl rfl)) pgs_nil)))))
      (pss_one (ps_expr (pe_me MH_step hr (pv 0) (pa_cons (pe_me MW_begun hr (pe_fld (pv 0) rfl) (pa_cons (pe_lst (pa_cons (pv 1) pa_nil)) pa_nil)) (pa_cons (pe_op op_cat (pe_fld (pv 0) rfl) (pe_lst (pa_cons (pe_tup (pa_cons (pv 1) (pa_cons (pv 3) (pa_cons (pv 4) (pa_cons (pe_op op_sub (pv 4) (pv 2)) pa_nil))))) pa_nil))) pa_nil))))))), by
    obtain ⟨h, pp, W, rws, np, z, rfl, hH, hnp, hrl, q, qe⟩ := h
    obtain ⟨dx, pw, pr, ts, h1, h2, h3, h4, h5⟩ := hH.ex
    obtain ⟨dxw, ls, tsw, d, cs, O⟩ := h2.open_
    have ok := h2.ok
    dsimp only [tSeq, tRet, tRetN, tIfS, tAsg, tDrop, tNext, tNever, tVar, tC, tCons, tNil, tCB, tOp, tTest, tB, tAnd, tOr, tNot, tAndV, tOrV, tNotV, tChain, tTup, tLst, tFld, sFld, tCall, tMeth, tMake, tDGet, tDIn, tDNotIn, sDPut, tDNewK, tSl, tPart, tNoPart, gTup, gCons, gNil, gSub, tBM, tUn]
    dsimp only [spW_cloth, sp_done_rows, spW_begun, spH_step]
    refine ⟨_, rfl, h, _, dx, _, _, rfl, h1, FC.cH, FC.hN, hf_now, pw, dxw, _, rfl, O.at_, wf_no (by decide +kernel), _, rfl, pw, W, z, rfl, h2, fun c t hc hn hat => ?_, qe⟩
    subst hn
    refine ⟨t, _, 3, _, rfl, rfl, Or.inl (Or.inl hat), rfl, ?_⟩
    refine ⟨_, rfl, h, _, dx, _, _, rfl, h1, FC.cH, FC.hN, hf_now, _, rfl, (show 1 ≤ sizeLine by decide), fun l hl => ?_⟩
    have e1 := same_new (o := HO.lst [V.str c.name]) hl
    refine ⟨pw, W, l, [c], rfl, h2.same e1, upd_same, List.nodup_cons.mpr ⟨List.not_mem_nil, List.nodup_nil⟩, fun c' hc' => by rw [List.mem_singleton] at hc'; rw [hc']; exact hc, fun H2 a us e2 ha hU => ?_⟩
    have e12 := Evl.Ex.trans e1 e2
    have hun : ∃ u, us = [u] := by
      have := hU.ln
      match us, this with
      | [u], _ => exact ⟨u, rfl⟩
    obtain ⟨u, rfl⟩ := hun
    have hu := hU.at_ 0 u _ rfl rfl
    refine ⟨a, _, 0, _, rfl, rfl, Or.inl (Or.inl ha), rfl, u, _, rfl, Or.inl (Or.inl hu), rfl, _, _, rfl, _, _, rfl, _, _, rfl, rfl, ?_⟩
    refine ⟨_, rfl, h, dx, _, rfl, e12 _ _ h1, hf_no (by decide +kernel), _, rfl, h, _, dx, _, _, rfl, e12 _ _ h1, FC.cH, FC.hN, hf_now, pw, dxw, _, rfl, e12 _ _ O.at_, wf_no (by decide +kernel), _, rfl, (show 1 ≤ sizeLine by decide), fun l2 hl2 => ?_⟩
    have e3 := Evl.Ex.trans e12 (same_new (o := HO.lst [V.str c.name]) hl2)
    refine ⟨pw, W, l2, c, rfl, h2.same e3, upd_same, hc, fun H4 p' cl' e4 W4 hp => ?_⟩
    have e14 := Evl.Ex.trans e3 e4
    refine ⟨_, rfl, h, _, dx, _, _, rfl, e14 _ _ h1, FC.cH, FC.hR, hf_rows, _, rfl, _, rfl, _, rfl, _, rfl, _, rfl, _, _, rfl, rfl, (show 4 ≤ sizeLine by decide), fun t4 ht4 => ⟨(show 1 ≤ sizeLine by decide), fun b hb => ?_⟩⟩
    have e4' := same_new (o := HO.tup [V.str c.name, V.int (W.time + W.rin W.last c.hue), V.int (W.time + W.rin W.last c.hue + c.len), V.int (W.time + W.rin W.last c.hue + c.len - c.due)]) ht4
    have e5 := Evl.Ex.trans e14 e4'
    have e5' := same_new (o := HO.lst [V.ref t4]) hb
    have e6 := Evl.Ex.trans e5 e5'
    have lts := h5.ln
    refine ⟨pr, b, _, _, rfl, rfl, e6 _ _ h3, upd_same, by rw [List.length_map]; exact small16 (show ts.length + 1 ≤ 100000 by omega), fun m hm => ?_⟩
    have e6' := same_new (o := HO.lst (ts.map V.ref ++ [V.ref t4])) hm
    have e7 := Evl.Ex.trans e6 e6'
    have mpp : m ≠ pp := fun y => by
      obtain ⟨ps, p1, _⟩ := hH.past
      rw [y, e6 _ _ p1] at hm
      cases hm
    have t4m := (Evl.Ex.trans e5' e6') _ _ (upd_same (H := H4) (a := t4))
    refine ⟨h, pp, p', m, W, _, rws, _, np, ts ++ [t4], rfl, hH.same e7, hnp, W4.same (Evl.Ex.trans (Evl.Ex.trans e4' e5') e6'), by rw [upd_same, refs_snoc], mpp, (h5.kp (Kp.of e7)).snoc t4m, fun H8 e8 hH8 => q c hc rfl H8 cl' ((HB.of e7).trans e8) hH8 hp⟩⟩
abbrev spH_wait (G : Ad) : Sp := fun vs H Q E => ∃ (h pp : Addr) (W : Wk) (rws : List (List V)) (np : Nat) (x : V), vs = [.ref h, x] ∧ HsAt G H h pp W rws np ∧ np < 1000 ∧
  ((∃ i, x = .int i ∧ W.time ≤ i ∧ ∀ H' cl', HB h pp H H' → HsAt G H' h pp ⟨W.n, W.R, W.last, i, cl'⟩ rws (np + 1) → cl'.Perm W.cl → Q .non H') ∨
    ((wholeV x = some false ∨ ∃ i, x = .int i ∧ i < W.time) ∧ ∀ cls d H', Caught G cls → Same H H' → E cls d H'))
theorem sc_House_wait : FnScope ["self", "time", "cloths", "last", "now", "name"] ["self", "time"] (defScope sHouse_wait) := ⟨rfl, rfl, rfl, by decide +kernel, rfl, by decide +kernel, by decide +kernel⟩
theorem mH_wait (B : Bn mg) (FC : Fc G mg) (X_NoTime : ExF G mg "NoTime") (C_is_whole : Ca P w G.K mg base k "is_whole" (sp_is_whole G)) (MH_step : Me P w G.K mg base k G.CH "step" (spH_step G)) (MW_start : Me P w G.K mg base k G.CW "start" (spW_start G)) (MW_names : Me P w G.K mg base k G.CW "names" (spW_names G)) (MW_cloth : Me P w G.K mg base k G.CW "cloth" (spW_cloth G)) (MW_rinses : Me P w G.K mg base k G.CW "rinses" (spW_rinses G))
    (Mk_Works : Ma P w G.K mg base k "Works" G.CW (spW_init G)) (F : Md G.K G.CH "wait" "House.wait" sHouse_wait) : Me P w G.K mg base (k + 2) G.CH "wait" (spH_wait G) :=
  me_X F sc_House_wait (fun _ _ _ _ _ _ us hl => match us, hl with | [_, _], _ => rfl) (fun vs H Q E h => by obtain ⟨_, _, _, _, _, _, rfl, _⟩ := h; rfl)
  fun f cdv A outer s H vs Q E hr h => ⟨_, /- slots: 0 self, 1 time, 2 cloths, 3 last, 4 now, 5 name -/ (pss_cons (ps_asg (pe_me0 MW_start hr (pe_fld (pv 0) rfl)) (pg_tup rfl (pgs_cons (pg_name (i := 3) sc_House_wait.nd rfl (Or.inl rfl)) (pgs_cons (pg_name (i := 4) sc_House_wait.nd rfl (Or.inl rfl)) pgs_nil))))
      (pss_cons (ps_if (PW.pt (pw_or (pt_not (pt_val (pe_ca C_is_whole hr (pa_cons (pv 1) pa_nil)))) (pw_or1 (pt_cmpR op_lt (pv 1) (pv 4) (nomark _))))) (pss_one (ps_raise0 (takes_of rfl rfl rfl rfl) rfl X_NoTime rfl)) pss_nil)
      (pss_cons (ps_setLc (i := 2) (own := [("name", 5)]) (g := (gName 5)) (tt := tYes) (te := (tMeth G.CW "cloth" (spW_cloth G) [] E0 (tFld G.K (tVar 0) "now") (tCons (tVar 5) tNil))) rfl sc_House_wait.nd rfl rfl (sw_true rfl rfl rfl (by decide +kernel)) (pi_list (pe_me0 MW_names hr (pe_fld (pv 0) rfl))) (blkOk_by (own := [("name", 5)]) (N := ["self", "time", "cloths", "last", "now", "name"]) (sc := defScope sHouse_wait) (by decide +kernel)) (fun _ _ _ _ _ => by exact (pg_name (i := 5) sc_House_wait.nd rfl (Or.inl rfl))) (fun _ _ _ _ _ => by exact pts_nil) (fun _ _ _ _ _ => by exact (pe_me MW_cloth hr (pe_fld (pv 0) rfl) (pa_cons (pv 5) pa_nil))))
      (pss_one (ps_expr (pe_me MH_step hr (pv 0) (pa_cons (pe_ma Mk_Works hr (pa_cons (pe_me0 MW_rinses hr (pe_fld (pv 0) rfl)) (pa_cons (pv 2) (pa_cons (pv 3) (pa_cons (pv 1) pa_nil))))) (pa_cons (pe_fld (pv 0) rfl) pa_nil)))))))), by
    obtain ⟨h, pp, W, rws, np, x, rfl, hH, hnp, fin⟩ := h
    obtain ⟨dx, pw, pr, ts, h1, h2, h3, h4, h5⟩ := hH.ex
    obtain ⟨dxw, ls, tsw, d, cs, O⟩ := h2.open_
    have ok := h2.ok
    dsimp only [tSeq, tRet, tRetN, tIfS, tAsg, tDrop, tNext, tNever, tVar, tC, tCons, tNil, tCB, tOp, tTest, tB, tAnd, tOr, tNot, tAndV, tOrV, tNotV, tChain, tTup, tLst, tFld, sFld, tCall, tMeth, tMake, tDGet, tDIn, tDNotIn, sDPut, tDNewK, tSl, tPart, tNoPart, gTup, gCons, gNil, gSub, tBM, tUn]
    dsimp only [spW_start, sp_is_whole]
    refine ⟨_, rfl, h, _, dx, _, _, rfl, h1, FC.cH, FC.hN, hf_now, pw, dxw, _, rfl, O.at_, wf_no (by decide +kernel), pw, W, rfl, h2, fun H1 t e1 ht => ⟨t, _, rfl, Or.inl (Or.inl ht), rfl, _, _, rfl, _, _, rfl, rfl, ?_⟩⟩
    rcases fin with ⟨i, rfl, hi, q⟩ | ⟨hx, qe⟩
    · refine ⟨_, rfl, _, true, rfl, rfl, true, rfl, _, rfl, _, rfl, _, _, rfl, rfl, false, congrArg V.bl (decide_eq_false (by omega)), ?_⟩
      refine ⟨_, rfl, h, _, dx, _, _, rfl, e1 _ _ h1, FC.cH, FC.hN, hf_now, pw, dxw, _, rfl, e1 _ _ O.at_, wf_no (by decide +kernel), pw, W, rfl, h2.same e1, fun H2 a ys e2 hp hs ha => ?_⟩
      have e12 := Evl.Ex.trans e1 e2
      obtain ⟨cs', c1, c2, c3⟩ := pick_perm (ys := ys) (O.nd ok) (by rw [O.names]; exact hp)
      have ln : cs'.length ≤ 10 := by
        have h1 := congrArg List.length O.cl
        have h2 := ok.few
        rw [List.length_map] at h1
        rw [c3.length_eq, h1]
        exact h2
      have hly : (ys.map V.str).length = cs'.length := by rw [List.length_map, ← c1, List.length_map]
      refine ⟨a, rfl, ⟨_, Or.inl (Or.inl ha)⟩, fun D hD => lc_it (walk_list (xs := ys.map V.str)) (fun i H' => Same H2 H' ∧ ∃ us : List Addr, H' D = some (.lst (us.map V.ref)) ∧ TupsAt H' us ((cs'.take i).map fun q => clV q.1)) ⟨same_new hD, [], upd_same, TupsAt.nil _⟩ (fun i H' _ z => Or.inl (Or.inl (z.1 _ _ ha))) ?_ ?_⟩
      · rintro j y H3 H4 hj ⟨e3, us, hD3, hU⟩ ⟨rfl, hy⟩
        have gy := hy
        rw [← c1, List.map_map, List.getElem?_map] at gy
        obtain ⟨q', hq', rfl⟩ := Option.map_eq_some_iff.mp gy
        have e13 := Evl.Ex.trans e12 e3
        have m' := c2 q' (List.mem_of_getElem? hq')
        have hcW : q'.1 ∈ W.cl := by rw [← O.cl]; exact List.mem_map.mpr ⟨q', m', rfl⟩
        have htk : cs'.take (j + 1) = cs'.take j ++ [q'] := by rw [List.take_add_one, hq']; rfl
        refine ⟨rfl, _, rfl, h, _, dx, _, _, rfl, e13 _ _ h1, FC.cH, FC.hN, hf_now, pw, dxw, _, rfl, e13 _ _ O.at_, wf_no (by decide +kernel), _, rfl, pw, W, q'.1.name, rfl, h2.same e13, fun c t' hc hn hat => ?_, fun z => absurd (List.mem_map.mpr ⟨q'.1, hcW, rfl⟩) z⟩
        obtain rfl : c = q'.1 := one_of_name ok.nd hc hcW hn
        have lus : us.length ≤ 10 := by
          have := hU.ln
          rw [List.length_map, List.length_take] at this
          omega
        refine ⟨_, hD3, by rw [List.length_map]; exact small16' (by omega), same_mut e3 hD, us ++ [t'], by rw [upd_same, refs_snoc], ?_⟩
        rw [htk, List.map_append]
        have ne : ∀ {b : Addr} {zs : List V}, H4 b = some (HO.tup zs) → b ≠ D := fun z w => by rw [w, hD3] at z; cases z
        exact TupsAt.snoc ⟨hU.ln, fun i t2 z2 a1 a2 => by rw [upd_ne (ne (hU.at_ i t2 z2 a1 a2))]; exact hU.at_ i t2 z2 a1 a2⟩ (by rw [upd_ne (ne hat)]; exact hat)
      · rintro H3 ⟨e3, us, hD3, hU⟩
        rw [hly, List.take_length] at hU
        have e13 := Evl.Ex.trans e12 e3
        have lus : us.length = cs'.length := by have := hU.ln; rw [List.length_map] at this; exact this
        refine ⟨_, rfl, h, dx, _, rfl, e13 _ _ h1, hf_no (by decide +kernel), _, rfl, h, _, dx, _, _, rfl, e13 _ _ h1, FC.cH, FC.hN, hf_now, pw, dxw, _, rfl, e13 _ _ O.at_, wf_no (by decide +kernel), pw, W, rfl, h2.same e13, fun H4 r e4 hr4 => ?_⟩
        have e34 := e4
        refine ⟨_, rfl, _, rfl, _, rfl, fun xx dxx hx hd ne => ?_⟩
        have e14 := Evl.Ex.trans e13 e4
        have hsnd : ((cs'.map (·.1)).zip us).map (·.2) = us := List.map_snd_zip (by rw [List.length_map, lus]; exact Nat.le_refl _)
        have hfst : ((cs'.map (·.1)).zip us).map (·.1) = cs'.map (·.1) := List.map_fst_zip (by rw [List.length_map, lus]; exact Nat.le_refl _)
        have hpc : (cs'.map (·.1)).Perm W.cl := by rw [← O.cl]; exact c3.map _
        refine mkW (cs := (cs'.map (·.1)).zip us) (rest := []) hx hd ne hr4 ok.n1 ok.n4 ok.nn ok.l0 ok.l1 (show 0 ≤ i by have := ok.t0; omega) ?_ ?_ ?_ ?_ (Or.inl ⟨rfl, fun H5 e5 W5 => ?_⟩)
        · rw [List.append_nil, hsnd]
          exact e4 _ _ hD3
        · rw [List.append_nil, hsnd, lus]
          exact ln
        · intro q' hq'
          obtain ⟨j, hj⟩ := List.mem_iff_getElem?.mp hq'
          rw [List.getElem?_zip_eq_some] at hj
          obtain ⟨j1, j2⟩ := hj
          refine ⟨e4 _ _ (hU.at_ j q'.2 (clV q'.1) j2 ?_), ok.good _ (hpc.mem_iff.mp (List.mem_of_getElem? j1))⟩
          rw [List.getElem?_map] at j1 ⊢
          obtain ⟨y, hy, e⟩ := Option.map_eq_some_iff.mp j1
          rw [hy, ← e]
          rfl
        · have : ((cs'.map (·.1)).zip us).map (·.1.name) = (((cs'.map (·.1)).zip us).map (·.1)).map (·.name) := by rw [List.map_map]; rfl
          rw [this, hfst]
          exact (hpc.map _).nodup_iff.mpr ok.nd
        · have e15 := Evl.Ex.trans e14 e5
          refine ⟨_, rfl, h, _, dx, _, _, rfl, e15 _ _ h1, FC.cH, FC.hR, hf_rows, h, pp, xx, pr, W, _, rws, rws, np, ts, rfl, hH.same e15, hnp, W5, e15 _ _ h3, h4, h5.kp (Kp.of e15), fun H6 e6 hH6 => q H6 _ ((HB.of e15).trans e6) hH6 ?_⟩
          rw [hfst]
          exact hpc
    · have hq : ∀ cls, Caught G cls → E cls none H1 := fun cls hc => qe cls none H1 hc e1
      rcases hx with hx | ⟨i, rfl, hi⟩
      · exact ⟨_, rfl, _, false, rfl, hx, false, rfl, hq⟩
      · exact ⟨_, rfl, _, true, rfl, rfl, true, rfl, _, rfl, _, rfl, _, _, rfl, rfl, true, congrArg V.bl (decide_eq_true hi), hq⟩⟩
end Rw82
/-! House made. -/
namespace Rw82
open PySem PySem.Spec PyProof.Rows L2
variable {P : Program} {w : World} {mg : Str → Option Value} {base : Heap} {k : Nat} {G : Ad}
abbrev spH_init (G : Ad) : Sp := fun vs H Q _ => ∃ (x dx r : Addr) (n : Nat) (R : Mat) (f ti : Int), vs = [.ref x, .ref r, .int f, .int ti] ∧ H x = some (.ins G.CH dx []) ∧ MxAt H r n R ∧ 1 ≤ n ∧ n ≤ 4 ∧ Nonneg R ∧ -1 ≤ f ∧ f < n ∧ 0 ≤ ti ∧
  ∀ H' pp, SB x H H' → H pp = none → HsAt G H' x pp ⟨n, R, f, ti, []⟩ [] 0 → Q .non H'
theorem sc_House___init : FnScope ["self", "rinses", "last", "time"] ["self", "rinses", "last", "time"] (defScope sHouse___init__) := ⟨rfl, rfl, rfl, by decide +kernel, rfl, by decide +kernel, by decide +kernel⟩
theorem mk_House (FC : Fc G mg) (Mk_Works : Ma P w G.K mg base k "Works" G.CW (spW_init G)) (F : Idf G.K mg "House" G.CH "House.__init__" sHouse___init__ [.non, .int 0]) : Ma P w G.K mg base (k + 2) "House" G.CH (spH_init G) :=
  ma_0 F sc_House___init (fun z => nomatch z) (fun T kV doc pm an cdv ct us its hl hi => match us, its, hl, hi with | [_, _, _, _], [_, _], _, _ => ⟨_, rfl, rfl⟩) (fun vs H Q E h => by obtain ⟨_, _, _, _, _, _, _, rfl, _⟩ := h; rfl)
  fun f cdv A outer s H vs Q E hr h => ⟨_, /- slots: 0 self, 1 rinses, 2 last, 3 time -/ (pss_cons (ps_fld (pv 0) (pe_ma Mk_Works hr (pa_cons (pv 1) (pa_cons (pe_lst pa_nil) (pa_cons (pv 2) (pa_cons (pv 3) pa_nil))))) rfl)
      (pss_cons (ps_fld (pv 0) (pe_lst pa_nil) rfl)
      (pss_one (ps_fld (pv 0) (pe_lst pa_nil) rfl)))), by
    obtain ⟨x, dx, r, n, R, fi, ti, rfl, hx, hm, n1, n4, nn, f0, f1, t0, q⟩ := h
    dsimp only [tSeq, tRet, tRetN, tIfS, tAsg, tDrop, tNext, tNever, tVar, tC, tCons, tNil, tCB, tOp, tTest, tB, tAnd, tOr, tNot, tAndV, tOrV, tNotV, tChain, tTup, tLst, tFld, sFld, tCall, tMeth, tMake, tDGet, tDIn, tDNotIn, sDPut, tDNewK, tSl, tPart, tNoPart, gTup, gCons, gNil, gSub, tBM, tUn]
    refine ⟨_, rfl, (show 0 ≤ sizeLine from Nat.zero_le _), fun l hl => ⟨_, rfl, _, rfl, fun p dp hp hd ne => ?_⟩⟩
    have e1 := same_new (o := HO.lst []) hl
    refine mkW (cs := []) (rest := []) hp hd ne (hm.kp (Kp.of e1)) n1 n4 nn f0 f1 t0 upd_same (Nat.zero_le _) (fun q m => nomatch m) List.nodup_nil (Or.inl ⟨rfl, fun H2 e2 W2 => ?_⟩)
    have e12 := Evl.Ex.trans e1 e2
    have x2 := e12 _ _ hx
    refine ⟨_, rfl, x, _, dx, [], rfl, x2, FC.cH, FC.hN, (show 0 < 1000 by decide), ?_⟩
    refine ⟨(show 0 ≤ sizeLine from Nat.zero_le _), fun pr hpr => ?_⟩
    have xr : x ≠ pr := fun z => by rw [← z, upd_same] at hpr; cases hpr
    refine ⟨_, rfl, x, _, dx, [("now", .ref p)], rfl, by rw [upd_ne xr]; exact upd_same, FC.cH, FC.hR, (show 1 < 1000 by decide), ?_⟩
    refine ⟨(show 0 ≤ sizeLine from Nat.zero_le _), fun pp hpp => ?_⟩
    have xp : x ≠ pp := fun z => by rw [← z, upd_same] at hpp; cases hpp
    have rp : pr ≠ pp := fun z => by rw [← z, upd_ne xr.symm, upd_same] at hpp; cases hpp
    refine ⟨_, rfl, x, _, dx, putF "rows" (.ref pr) [("now", .ref p)], rfl, by rw [upd_ne xp]; exact upd_same, FC.cH, FC.hP, (by rw [putF_new (show ("rows" : Str) ∉ [("now" : Str)] by decide +kernel)]; exact (show 2 < 1000 by decide)), ?_⟩
    have hp0 : putF "rows" (.ref pr) [(("now" : Str), V.ref p)] = ([("now", .ref p), ("rows", .ref pr)] : List (Str × V)) := putF_new (show ("rows" : Str) ∉ [("now" : Str)] by decide +kernel)
    have hp1 : putF "past" (.ref pp) (putF "rows" (.ref pr) [(("now" : Str), V.ref p)]) = hf p pr pp := by
      rw [hp0]
      exact putF_new (show ("past" : Str) ∉ ([("now" : Str), "rows"] : List Str) by decide +kernel)
    rw [hp1]
    have h2pr : H2 pr = none := by rw [upd_ne xr.symm] at hpr; exact hpr
    have h2pp : H2 pp = none := by rw [upd_ne xp.symm, upd_ne rp.symm, upd_ne xp.symm] at hpp; exact hpp
    have sbb : SB x H2 (upd (upd (upd (upd (upd H2 x (.ins G.CH dx (putF "now" (.ref p) []))) pr (.lst [])) x (.ins G.CH dx (putF "rows" (.ref pr) [("now", .ref p)]))) pp (.lst [])) x (.ins G.CH dx (hf p pr pp))) := fun b o nb e => by
      rw [upd_ne nb, upd_ne (ne_of_none e h2pp), upd_ne nb, upd_ne (ne_of_none e h2pr), upd_ne nb]
      exact e
    refine q _ pp (fun b o nb e => sbb b o nb (e12 b o e)) (Evl.fresh_back e12 h2pp) ⟨⟨dx, p, pr, [], upd_same, ?_, by rw [upd_ne xr.symm, upd_ne rp, upd_ne xr.symm, upd_same]; rfl, rp, TupsAt.nil _⟩, [], by rw [upd_ne xp.symm, upd_same]; rfl, fun _ m => (nomatch m), Nat.le_refl _⟩
    obtain ⟨dx', ls, ts, d, cs, a1, a2, a3, a4, a5, a6⟩ := W2.ex
    refine ⟨W2.ok, dx', ls, ts, d, cs, sbb _ _ (fun z => ?_) a1, a2.sb x2 sbb, a3.sb x2 sbb, sbb _ _ (fun z => by rw [z, x2] at a4; cases a4) a4, a5, fun q' hq' => ?_⟩
    · rw [z, x2] at a1
      have z' := congrArg (fun o : Option HO => match o with | some (.ins _ _ fs) => fs.length | _ => 0) a1
      exact absurd z' (by show ¬ 0 = 5; decide)
    · have h7 : H2 q'.2 = some (.tup (clV q'.1)) := a6 q' hq'
      exact sbb _ _ (fun z => by rw [z, x2] at h7; cases h7) h7⟩
end Rw82
/-! Dicts whose keys are states: ((counts), hue). -/
namespace Rw82
open PySem PySem.Spec PyProof.Rows L2
def keyS (s : Stt) : NestedKey := .tup [.tup (s.1.map fun m => .num (m : Nat)), .num s.2]
theorem keyS_inj {s t : Stt} (h : keyS s = keyS t) : s = t := by
  unfold keyS at h
  injection h with h
  injection h with h1 h2
  injection h1 with h1
  injection h2 with h2 _
  injection h2 with h2
  have h3 : ∀ l m : List Nat, (l.map fun m => NestedKey.num (m : Nat)) = m.map (fun m => NestedKey.num (m : Nat)) → l = m := by
    intro l
    induction l with
    | nil => intro m e; cases m with
      | nil => rfl
      | cons _ _ => cases e
    | cons a l ih => intro m e; cases m with
      | nil => cases e
      | cons b m =>
        injection e with e1 e2
        injection e1 with e1
        rw [ih m e2, Int.ofNat.inj e1]
  obtain ⟨a, b⟩ := s
  obtain ⟨c, d⟩ := t
  rw [Prod.mk.injEq]
  exact ⟨h3 _ _ h1, h2⟩
abbrev XS := List (Stt × Addr × V)
def XR : XS → List (NestedKey × Addr × Value) → Prop := Paired fun p q => keyS p.1 = q.1 ∧ p.2.1 = q.2.1 ∧ RelV p.2.2 q.2.2
def valS (xs : XS) (s : Stt) : Option V := (xs.find? fun x => decide (x.1 = s)).map (·.2.2)
theorem valS_cons_eq {x : Stt × Addr × V} {xs : XS} : valS (x :: xs) x.1 = some x.2.2 := by unfold valS; rw [List.find?_cons, decide_eq_true rfl]; rfl
theorem valS_cons_ne {x : Stt × Addr × V} {xs : XS} {s : Stt} (h : x.1 ≠ s) : valS (x :: xs) s = valS xs s := by unfold valS; rw [List.find?_cons, decide_eq_false h]
def putS (xs : XS) (s : Stt) (a : Addr) (v : V) : XS := if (valS xs s).isSome then xs.map (fun x => if x.1 = s then (x.1, x.2.1, v) else x) else xs ++ [(s, a, v)]
theorem XR.val {xs : XS} {vs : List (NestedKey × Addr × Value)} (r : XR xs vs) (s : Stt) : RelO (valS xs s) ((atKey vs (keyS s)).map (·.2)) := by
  unfold XR at r
  induction r with
  | nil => exact True.intro
  | @cons p q ps qs h t ih =>
    obtain ⟨h1, h2, h3⟩ := h
    by_cases e : p.1 = s
    · subst e
      rw [valS_cons_eq]
      unfold atKey
      rw [List.find?_cons, decide_eq_true h1.symm]
      exact h3
    · rw [valS_cons_ne e]
      unfold atKey
      rw [List.find?_cons, decide_eq_false fun z => e (keyS_inj (h1.trans z))]
      exact ih
theorem XR.put {xs : XS} {vs : List (NestedKey × Addr × Value)} (r : XR xs vs) (s : Stt) (a : Addr) {v : V} {u : Value} (rv : RelV v u) : XR (putS xs s a v) (storedH vs (keyS s) a u) := by
  have e : (valS xs s).isSome = (atKey vs (keyS s)).isSome := by
    have h := (r.val s).isSome_eq
    rw [Option.isSome_map] at h
    exact h
  unfold putS storedH
  rw [e]
  cases (atKey vs (keyS s)).isSome with
  | true =>
    rw [if_pos rfl, if_pos rfl]
    unfold XR at r ⊢
    clear e
    induction r with
    | nil => exact .nil
    | @cons p q ps qs h t ih =>
      obtain ⟨h1, h2, h3⟩ := h
      refine .cons ?_ ih
      unfold putAt
      dsimp only
      by_cases e : p.1 = s
      · rw [if_pos e, if_pos (by rw [← h1, e])]
        exact ⟨h1, h2, rv⟩
      · rw [if_neg e, if_neg fun z => e (keyS_inj (h1.trans z))]
        exact ⟨h1, h2, h3⟩
  | false =>
    rw [if_neg (by decide), if_neg (by decide)]
    exact Paired.snoc r ⟨rfl, rfl, rv⟩
theorem valS_put (xs : XS) (s t : Stt) (a : Addr) (v : V) : valS (putS xs s a v) t = if t = s then some v else valS xs t := by
  have hm : ∀ xs : XS, valS (xs.map (fun x => if x.1 = s then (x.1, x.2.1, v) else x)) t = if t = s then (valS xs s).map (fun _ => v) else valS xs t := by
    intro xs
    induction xs with
    | nil => split <;> rfl
    | cons x xs ih =>
      rw [List.map_cons]
      by_cases e : x.1 = s
      · rw [if_pos e]
        by_cases et : t = s
        · rw [if_pos et, et, ← e]
          rw [valS_cons_eq, valS_cons_eq]
          rfl
        · rw [if_neg et, valS_cons_ne (fun z => et (z.symm.trans e)), valS_cons_ne (x := (x.1, x.2.1, v)) (fun z => et (z.symm.trans e)), ih, if_neg et]
      · rw [if_neg e]
        by_cases et : t = s
        · rw [if_pos et, et, valS_cons_ne e, valS_cons_ne e]
          rw [if_pos et, et] at ih
          exact ih
        · rw [if_neg et]
          by_cases ex : x.1 = t
          · rw [← ex, valS_cons_eq, valS_cons_eq]
          · rw [valS_cons_ne ex, valS_cons_ne ex, ih, if_neg et]
  have ha : ∀ xs : XS, valS xs s = none → valS (xs ++ [(s, a, v)]) t = if t = s then some v else valS xs t := by
    intro xs
    induction xs with
    | nil =>
      intro _
      by_cases et : t = s
      · rw [if_pos et, et]; exact valS_cons_eq (x := (s, a, v))
      · rw [if_neg et]; exact valS_cons_ne (x := (s, a, v)) (fun z => et z.symm)
    | cons x xs ih =>
      intro h
      have e : x.1 ≠ s := fun z => by rw [← z, valS_cons_eq] at h; cases h
      rw [valS_cons_ne e] at h
      rw [List.cons_append]
      by_cases ex : x.1 = t
      · rw [if_neg (fun z => e (ex.trans z)), ← ex, valS_cons_eq, valS_cons_eq]
      · rw [valS_cons_ne ex, ih h, valS_cons_ne ex]
  unfold putS
  cases h : valS xs s with
  | some o =>
    show valS (xs.map _) t = _
    rw [hm, h]
    rfl
  | none =>
    show valS (xs ++ _) t = _
    exact ha xs h
/-- the tuples of a state -/
def KeyAt (H : Hp) (a : Addr) (s : Stt) : Prop := ∃ b, H a = some (.tup [.ref b, .int s.2]) ∧ H b = some (.tup (s.1.map fun m => V.int (m : Nat)))
theorem KeyAt.kp {H H' : Hp} {a : Addr} {s : Stt} (x : KeyAt H a s) (e : Kp H H') : KeyAt H' a s := by
  obtain ⟨b, h1, h2⟩ := x
  exact ⟨b, Kp.tup e h1, Kp.tup e h2⟩
def NdObj (P : Program) (w : World) (d : Addr) (xs : XS) (ep : Nat) (h : Heap) : Prop :=
  (d == sysModules) = false ∧ ∃ (vs : List (NestedKey × Addr × Value)) (o : Obj) (es : Array DictEntry), XR xs vs ∧ h.get? d = some o ∧ o.ExactDict ∧ o.data = .dict es ep ∧ es.toList = vs.map (entryOfKey (nestedKind P w)) ∧ (vs.map (·.1)).Nodup
/-- a dict of states -/
def NdO (P : Program) (w : World) (d : Addr) (xs : XS) (ep : Nat) : HO := .ext (NdObj P w d xs ep)
structure NdAt (P : Program) (w : World) (H : Hp) (d : Addr) (xs : XS) (ep : Nat) : Prop where
  at_ : H d = some (NdO P w d xs ep)
  keys : ∀ x ∈ xs, KeyAt H x.2.1 x.1
section
variable {P : Program} {w : World} {H : Hp} {h : Heap} {d a : Addr} {xs : XS} {ep : Nat} {s : Stt}
theorem nd_ok {H' : Hp} {h' : Heap} {vs : List (NestedKey × Addr × Value)} {es : Array DictEntry} {o : Obj} (hd : (d == sysModules) = false) (r : XR xs vs) (e1 : h'.get? d = some o) (e2 : o.ExactDict) (e3 : o.data = .dict es ep) (e4 : es.toList = vs.map (entryOfKey (nestedKind P w))) (e5 : (vs.map (·.1)).Nodup) : ObjOk P w H' h' d (NdO P w d xs ep) :=
  ⟨⟨hd, vs, o, es, r, e1, e2, e3, e4, e5⟩, ⟨o, e1⟩, fun h1 h2 z k => by
    obtain ⟨z0, vs', o', es', z1, z2, z3⟩ := z
    exact ⟨z0, vs', o', es', z1, k _ z2, z3⟩⟩
theorem nd_obj (ok : HOk P w H h) (e : H d = some (NdO P w d xs ep)) : NdObj P w d xs ep h := (show ObjOk P w H h d (.ext (NdObj P w d xs ep)) from ok d _ e).1
theorem nestedAll_ints {h : Heap} : ∀ {l : List Nat} {us : List Value}, Vals (l.map fun m => V.int (m : Nat)) us → NestedAll h (l.map fun m => NestedKey.num (m : Nat)) us
  | [], us, r => by
    cases r
    exact .nil
  | m :: l, us, r => by
    cases r with
    | cons r t =>
      obtain ⟨tk, rfl⟩ := r
      exact .cons (.int _ _) (nestedAll_ints t)
theorem depth_ints' : ∀ l : List Nat, NestedKey.depthAll (l.map fun m => NestedKey.num (m : Nat)) ≤ 0
  | [] => Nat.le_refl _
  | m :: l => Nat.max_le.mpr ⟨Nat.le_refl 0, depth_ints' l⟩
theorem key_is (ok : HOk P w H h) (x : KeyAt H a s) : (nestedKind P w).is h (keyS s) a := by
  obtain ⟨b, h1, h2⟩ := x
  obtain ⟨_, is1, r1, ⟨o1, a1, a2, n1, a3⟩⟩ := (show ObjOk P w H h a (.tup _) from ok a _ h1)
  obtain ⟨_, is2, r2, ⟨o2, b1, b2, n2, b3⟩⟩ := (show ObjOk P w H h b (.tup _) from ok b _ h2)
  cases r1 with
  | cons q1 t1 =>
    cases t1 with
    | cons q2 t2 =>
      cases t2
      cases q1
      obtain ⟨tk, rfl⟩ := q2
      refine ⟨.tup a1 a2 a3 (.cons (.tup b1 b2 b3 (by simpa using nestedAll_ints r2)) (.cons (.int _ _) .nil)), ?_⟩
      have := depth_ints' s.1
      show max (NestedKey.depthAll (s.1.map fun m => NestedKey.num (m : Nat)) + 1) (max 0 0) + 1 ≤ 8
      omega
theorem nd_dict (ok : HOk P w H h) (x : NdAt P w H d xs ep) : (d == sysModules) = false ∧ ∃ vs, XR xs vs ∧ h.DictOfH (nestedKind P w) d vs := by
  obtain ⟨hd, vs, o, es, r, e1, e2, e3, e4, e5⟩ := nd_obj ok x.at_
  refine ⟨hd, vs, r, o, es, ep, e1, e2, e3, e4, ?_, e5⟩
  have hk := x.keys
  clear e4 e5 x
  unfold XR at r
  induction r with
  | nil => intro y hy; cases hy
  | @cons p q ps qs hq t ih =>
    intro y hy
    rcases List.mem_cons.mp hy with rfl | hy
    · rw [← hq.1, ← hq.2.1]
      exact key_is ok (hk p (List.mem_cons_self ..))
    · exact ih (fun z hz => hk z (List.mem_cons_of_mem _ hz)) y hy
end
/-! ### rules -/
def tNdNew (P : Program) (w : World) : TE := fun _ H Q => ∀ p, H p = none → Q (.ref p) (upd H p (NdO P w p [] 0))
def tNdGet (P : Program) (w : World) (td ty : TE) : TE := fun σ H Q => td σ H fun x H1 => ty σ H1 fun y H2 => ∃ d xs ep a s v, x = .ref d ∧ NdAt P w H2 d xs ep ∧ y = .ref a ∧ KeyAt H2 a s ∧ valS xs s = some v ∧ Q v H2
def tNdIn (P : Program) (w : World) (ty td : TE) : TE := fun σ H Q => ty σ H fun y H1 => td σ H1 fun x H2 => ∃ d xs ep a s, x = .ref d ∧ NdAt P w H2 d xs ep ∧ y = .ref a ∧ KeyAt H2 a s ∧ Q (.bl (valS xs s).isSome) H2
def tNdGet2 (P : Program) (w : World) (td ty tz : TE) : TE := fun σ H Q => td σ H fun x H1 => ∃ d xs ep, x = .ref d ∧ NdAt P w H1 d xs ep ∧ ty σ H1 fun y H2 => tz σ H2 fun z H3 => ∃ xs ep a s, NdAt P w H3 d xs ep ∧ y = .ref a ∧ KeyAt H3 a s ∧ Q ((valS xs s).getD z) H3
def sNdPut (P : Program) (w : World) (td ty tv : TE) : TS := fun D σ H => tv σ H fun v H1 => td σ H1 fun x H2 => ty σ H2 fun y H3 => ∃ d xs ep a s, x = .ref d ∧ NdAt P w H3 d xs ep ∧ xs.length < 100000 ∧ y = .ref a ∧ KeyAt H3 a s ∧ ∀ ep', D.nx σ (upd H3 d (NdO P w d (putS xs s a v) ep'))
def tNd1 (P : Program) (w : World) (tk tv : TE) : TE := fun σ H Q => ∀ p, H p = none → tk σ (upd H p (NdO P w p [] 0)) fun x H1 => tv σ H1 fun y H2 => ∃ a s, H2 p = some (NdO P w p [] 0) ∧ x = .ref a ∧ KeyAt H2 a s ∧ ∀ ep, Q (.ref p) (upd H2 p (NdO P w p [(s, a, y)] ep))
section
variable {X : Cx} {o i e f value : Expr} {pos pos' apos cpos : Pos} {td ty tz tv : TE}
theorem hu8 {A : Around} {k : Nat} (hr : Room k A) : A.units + 16 < cLine := by
  have := hr.un
  omega
theorem room8 {P : Program} {w : World} {A : Around} (hu : A.units + 16 < cLine) : (nestedKind P w).room A.in1 := by
  show A.in1.units + 8 < cLine
  have : A.in1.units ≤ A.units + 1 := by
    show A.units + 1 ≤ A.units + 1
    omega
  omega
theorem nd_typeIs {pins : List (Addr × Obj)} {σ : L2.St} {H : Hp} {s : Shared} {d : Addr} {xs : XS} {ep : Nat} (I : Inv X pins σ H s) (x : NdAt X.prog X.w H d xs ep) : s.TypeIs (.ref d) "dict" := by
  obtain ⟨_, _, _, dd⟩ := nd_dict I.hok x
  exact dd.typeIs
theorem pe_ndnew : PE X (.Dict [] [] pos) (tNdNew X.prog X.w) := ⟨fun pins s σ H Q I h =>
  wpAny_Dict_empty ⟨.ref s.heap.objs.size, _, I.laid (a := s.heap.objs.size) (o := NdO X.prog X.w s.heap.objs.size [] 0) (t' := s.toks) (fun _ _ q => Heap.get?_push_of_some _ q) (Nat.le_refl _)
    (nd_ok (beq_eq_false_iff_ne.mpr (Ne.symm (Nat.ne_of_lt I.big))) .nil (Heap.get?_push_size _ rfl) ⟨rfl, rfl, rfl⟩ rfl rfl List.nodup_nil), rfl, h _ (I.hok.fresh (Nat.le_refl _))⟩⟩
theorem pe_ndget (hu : X.A.units + 16 < cLine) (ho : PE X o td) (hi : PE X i ty) (hs : NoSl i) : PE X (.Subscript o i pos) (tNdGet X.prog X.w td ty) := by
  refine ⟨fun pins s σ H Q I h => ?_⟩
  refine subD_of PySem.F.slot_dict_getitem.lookup hs (thn (ho.run pins s σ H _ I h) fun u s1 ⟨x, H1, I1, rx, q1⟩ => thn (hi.run pins s1 σ H1 _ I1 q1) fun iv s2 ⟨y, H2, I2, ry, d, xs, ep, a, st, v, ex, nd, ey, ka, l, q2⟩ => ?_)
  subst ex ey
  obtain rfl : u = Value.ref d := rx
  obtain rfl : iv = Value.ref a := ry
  obtain ⟨hd, vs, r, dd⟩ := nd_dict I2.hok nd
  refine ⟨nd_typeIs I2 nd, ?_⟩
  obtain ⟨w', hw, rw'⟩ := RelO.some_of (v := v) (o := (atKey vs (keyS st)).map (·.2)) (by rw [← l]; exact r.val st)
  obtain ⟨p, hp, hp2⟩ := Option.map_eq_some_iff.mp hw
  refine wpAny_getItem_heap (room8 hu) (key_is I2.hok ka) dd hp ?_
  rw [hp2]
  exact ⟨v, H2, I2.tok _, rw', q2⟩
theorem pc_ndin (hu : X.A.units + 16 < cLine) (hi : PE X i ty) (ho : PE X o td) : PC X .In i o (tNdIn X.prog X.w ty td) := by
  refine ⟨fun pins s σ H Q I h => ?_⟩
  refine thn (hi.run pins s σ H _ I h) fun iv s1 ⟨y, H1, I1, ry, q1⟩ => thn (ho.run pins s1 σ H1 _ I1 q1) fun u s2 ⟨x, H2, I2, rx, d, xs, ep, a, st, ex, nd, ey, ka, q2⟩ => ?_
  subst ex ey
  obtain rfl : u = Value.ref d := rx
  obtain rfl : iv = Value.ref a := ry
  obtain ⟨hd, vs, r, dd⟩ := nd_dict I2.hok nd
  refine wpAny_in_heap (room8 hu) (key_is I2.hok ka) hd dd ?_
  have q := (r.val st).isSome_eq
  rw [Option.isSome_map] at q
  rw [← q]
  exact ⟨.bl _, H2, I2.tok _, rfl, q2⟩
theorem pe_ndget2 (hu : X.A.units + 16 < cLine) (ho : PE X o td) (he : PE X e ty) (hf : PE X f tz) (m : M2 X o "get" apos e f cpos) : PE X (.Call (.Attribute o "get" apos) [e, f] [] cpos) (tNdGet2 X.prog X.w td ty tz) := by
  refine ⟨fun pins s σ H Q I h => ?_⟩
  refine wpAny_Call_method m.base m.few m.line PySem.F.plainAttrs_dict PySem.F.slot_dict_get PySem.F.type_dict_get (thn (ho.run pins s σ H _ I h) fun u s1 ⟨x, H1, I1, rx, d, xs0, ep0, ex, nd0, q1⟩ => ?_)
  subst ex
  obtain rfl : u = Value.ref d := rx
  obtain ⟨hd0, vs0, o0, es0, r0, e1, e2, _⟩ := nd_obj I1.hok nd0.at_
  refine ⟨⟨o0, e1, e2.1⟩, (fun b q => by cases q; exact ⟨o0, e1, e2.2.1⟩), ?_⟩
  rw [m.trees]
  refine Calls.callWith_builtin rfl (Calls.evalArgs_plain (Calls.spliced_cons (thn (he.run pins s1 σ H1 _ I1 q1) fun iv s2 ⟨y, H2, I2, ry, q2⟩ =>
    Calls.spliced_cons (thn (hf.run pins s2 σ H2 _ I2 q2) fun fv s3 ⟨z, H3, I3, rz, xs, ep, a, st, nd, ey, ka, q3⟩ => Calls.spliced_nil ?_))))
  subst ey
  obtain rfl : iv = Value.ref a := ry
  obtain ⟨hd, vs, r, dd⟩ := nd_dict I3.hok nd
  show wpAny _ _ (call (.builtin "dict.get") [.ref d, .ref a, fv]) _ _ _
  exact call_meetsIn PySem.F.slot_dict_get dd.typeIs PySem.F.entry_dict_get (PySem.F.args_dict_get_3 _ _ _) (meetsH_dict_get_default (nestedKind X.prog X.w) d a hd fv) ⟨room8 hu, keyS st, vs, key_is I3.hok ka, dd, ⟨_, H3, I3.tok _, (r.val st).getD rz, q3⟩⟩
theorem ps_ndput (hu : X.A.units + 16 < cLine) (ho : PE X o td) (hi : PE X i ty) (hv : PE X value tv) (hs : swapsWith value (some (.Subscript o i pos')) pos.line X.env = pure false) :
    PS X (.Assign [.Subscript o i pos'] value pos) (sNdPut X.prog X.w td ty tv) := by
  refine ⟨fun pins s σ H D I h => ?_⟩
  refine wpAny_Assign_Subscript (thn (hv.run pins s σ H _ I h) fun r s1 ⟨v, H1, I1, rv, q1⟩ => thn (ho.run pins s1 σ H1 _ I1 q1) fun u s2 ⟨x, H2, I2, rx, q2⟩ => thn (hi.run pins s2 σ H2 _ I2 q2) fun iv s3 ⟨y, H3, I3, ry, d, xs, ep, a, st, ex, nd, hz, ey, ka, q3⟩ => ?_) hs
  subst ex ey
  obtain rfl : u = Value.ref d := rx
  obtain rfl : iv = Value.ref a := ry
  obtain ⟨hd, vs, rr, dd⟩ := nd_dict I3.hok nd
  have hl : vs.length = xs.length := (Paired.length rr).symm
  refine wpAny_setItem_heap (hsz := by rw [hl]; exact small16 (by omega)) (room8 hu) (key_is I3.hok ka) dd fun h' dd' hs => ?_
  obtain ⟨q, es, ep', hq, h2, h3, h4, _, h5⟩ := dd'
  exact ⟨σ, _, d_write I3 (by rw [nd.at_]; exact True.intro) hs ⟨q, hq⟩ (nd_ok hd (rr.put st a rv) hq h2 h3 h4 h5), q3 ep'⟩
end
end Rw82
/-! Dicts of states: one pair laid, list(d), walks. -/
namespace Rw82
open PySem PySem.Spec PyProof.Rows L2
theorem XR.addr {xs : XS} {vs : List (NestedKey × Addr × Value)} (r : XR xs vs) : vs.map (fun x => x.2.1) = xs.map fun x => x.2.1 := by
  unfold XR at r
  induction r with
  | nil => rfl
  | cons h t ih => rw [List.map_cons, List.map_cons, ih, h.2.1]
section
variable {X : Cx} {i e value : Expr} {kk vv : Expr} {pos : Pos} {td tk tv : TE}
theorem pe_nd1 (hu : X.A.units + 16 < cLine) (hk : PE X kk tk) (hv : PE X vv tv) : PE X (.Dict [some kk] [vv] pos) (tNd1 X.prog X.w tk tv) := by
  refine ⟨fun pins s σ H Q I q => ?_⟩
  have hn := I.hok.fresh (Nat.le_refl s.heap.objs.size)
  have I1 := I.laid (a := s.heap.objs.size) (o := NdO X.prog X.w s.heap.objs.size [] 0) (h' := s.heap.push { cls := .type "dict", data := .dict #[] }) (t' := s.toks) (fun _ _ q => Heap.get?_push_of_some _ q) (Nat.le_refl _)
    (nd_ok (beq_eq_false_iff_ne.mpr (Ne.symm (Nat.ne_of_lt I.big))) .nil (Heap.get?_push_size _ rfl) ⟨rfl, rfl, rfl⟩ rfl rfl List.nodup_nil)
  have hroom : (nestedKind X.prog X.w).room X.A := by
    show X.A.units + 8 < cLine
    omega
  have hp : PPs X pos [some kk] [vv] [(tk, tv)] := pps_cons hk hv pps_nil
  rw [arm_eval_Dict, show (evalEachOpt [some kk] X.env).zip ((evalEach [vv] X.env).map fun v => do let x ← v; standAt pos; pure x) = (pairTrees [some kk] [vv] X.env pos).map fun p => (some p.1, p.2) from rfl, dictDisplay_pairs _ (by intro z; cases z) (by show 1 < 17; decide)]
  refine wpAny_bind (wpAny_standAt (wpAny_bind (wpAny_subDictH (knd := nestedKind X.prog X.w) (Q := fun d s' => wpAny (model X.prog X.w) X.A (pure (Value.ref d)) (EP X pins σ Q) X.xe s') hroom (by show 1 ≤ 15; decide)
    (thn (hp.run pins _ σ _ (fun ps H2 => match ps with
      | [(x, y)] => ∃ a st, H2 s.heap.objs.size = some (NdO X.prog X.w s.heap.objs.size [] 0) ∧ x = .ref a ∧ KeyAt H2 a st ∧ ∀ ep, Q (.ref s.heap.objs.size) (upd H2 s.heap.objs.size (NdO X.prog X.w s.heap.objs.size [(st, a, y)] ep))
      | _ => False) I1 (q _ hn)) fun ws s2 ⟨ps, H2, I2, rel, q2⟩ => ?_))))
  match ps, q2 with
  | [(x, y)], q2 =>
    obtain ⟨a, st, e2, rfl, e4, q2⟩ := q2
    cases rel with
    | @cons _ b _ bs h t =>
      cases t
      obtain ⟨b1, b2⟩ := b
      obtain ⟨h1, h2⟩ := h
      obtain rfl : b1 = Value.ref a := h1
      have nd : NdAt X.prog X.w H2 s.heap.objs.size [] 0 := ⟨e2, fun _ m => nomatch m⟩
      obtain ⟨hd, vs0, r0, dd⟩ := nd_dict I2.hok nd
      cases r0
      refine ⟨[(keyS st, a, b2)], ⟨rfl, rfl, key_is I2.hok e4, True.intro⟩, dd, fun h' tk' dd' hs => wpAny_pure ?_⟩
      obtain ⟨q, es, ep', hq, g2, g3, g4, _, g5⟩ := dd'
      exact ⟨.ref _, _, d_write I2 (by rw [e2]; exact True.intro) hs ⟨q, hq⟩ (nd_ok hd (.cons ⟨rfl, rfl, h2⟩ .nil) hq g2 g3 g4 g5), rfl, q2 ep'⟩
/-- list(d): the states' tuples -/
abbrev rListNd (P : Program) (w : World) : List V → Hp → VK → Prop := fun xs H Q => ∃ d ks ep, xs = [V.ref d] ∧ NdAt P w H d ks ep ∧ ks.length ≤ 100000 ∧ ∀ p, H p = none → Q (.ref p) (upd H p (.lst (ks.map fun x => V.ref x.2.1)))
theorem call_list_nd (hc : X.calm = true) : CallR X (.type "list") (rListNd X.prog X.w) := by
  intro pins s σ H xs us Q I r h
  obtain ⟨d, ks, ep, rfl, nd, hz, q⟩ := h
  obtain ⟨u, rfl, rx⟩ := one_of r
  cases rx
  obtain ⟨hd, vs, o, es, rr, ho, hx, hdt, he, hn⟩ := nd_obj I.hok nd.at_
  have l1 : es.size = vs.length := size_of_entries he
  have l2 : ks.length = vs.length := Paired.length rr
  have sz := small16 hz
  refine PySem.W.kdl_call (kdl_raw hd hx hdt) (I.ok.hd hc) ho (by omega) fun h' tk acc' c' kp e it => ?_
  have ea : acc'.toList = vs.map fun x => Value.ref x.2.1 := by
    have hl : acc'.toList.length = vs.length := by rw [Array.length_toList, it.1]; exact l1
    apply List.ext_getElem?
    intro j
    rw [List.getElem?_map]
    cases hj : acc'.toList[j]? with
    | none =>
      have h1 := List.getElem?_eq_none_iff.mp hj
      rw [List.getElem?_eq_none (by omega)]
      all_goals rfl
    | some v =>
      obtain ⟨en, hen, hv⟩ := it.2 j v (by rw [← Array.getElem?_toList]; exact hj)
      have qe := entry_at he j
      rw [hen] at qe
      cases hb : vs[j]? with
      | none =>
        rw [hb] at qe
        exact nomatch (show some en = none from qe)
      | some b =>
        rw [hb] at qe
        have e2 : en = entryOfKey (nestedKind X.prog X.w) b := Option.some.inj qe
        rw [hv, e2]
        all_goals rfl
  have e3 : (ks.map fun x => V.ref x.2.1) = (vs.map fun x => x.2.1).map V.ref := by rw [rr.addr, List.map_map]; rfl
  have eb : acc'.toList = (vs.map fun x => x.2.1).map Value.ref := by rw [ea, List.map_map]; all_goals rfl
  have rv : Vals ((vs.map fun x => x.2.1).map V.ref) acc'.toList := by rw [eb]; exact vals_refs _
  have hz' : ((vs.map fun x => x.2.1).map V.ref).length ≤ sizeLine := by rw [List.length_map, List.length_map]; omega
  refine ⟨.ref s.heap.objs.size, _, I.laid (t' := tk) (o := .lst ((vs.map fun x => x.2.1).map V.ref)) kp (Nat.le_refl _) ?_, rfl, by rw [← e3]; exact q _ (I.hok.fresh (Nat.le_refl _))⟩
  exact ⟨hz', acc'.toList, c', rv, by rw [Array.toArray_toList]; exact e⟩
end
/-- a walk over the states of a dict -/
def Itn (P : Program) (w : World) (d : Addr) (xs : XS) (ep : Nat) : It :=
  ⟨fun i H => H d = some (NdO P w d xs ep) ∧ i < xs.length, fun i H x H' => H' = H ∧ ∃ y, xs[i]? = some y ∧ x = .ref y.2.1, fun i H => H d = some (NdO P w d xs ep) ∧ xs.length ≤ i⟩
theorem turn_nd {P : Program} {w : World} {K : PySem.W.Frag} {tg : Expr} {d : Addr} {ep : Nat} {xs : XS} (it : Addr) : Turn P w K tg (Itn P w d xs ep) [it] it (fun i h => h.IsKeyIter it d i xs.length ep) where
  mem := by simp
  obj := fun i h st b hb => by
    have e : b = it := by simpa using hb
    subst e
    obtain ⟨oi, e, c, dd⟩ := st
    exact ⟨oi, e, fun v z => by rw [dd] at z; cases z⟩
  keep := fun i h h' st k => st.at fun oi e => k it (by simp) oi e
  item := by
    intro X hP hw hK hc i pins s σ H E I hf st hg
    subst hP hw hK
    obtain ⟨hd, hi⟩ := hg
    obtain ⟨f0, f1, f2, f3, f4, f5⟩ := hf it (by simp)
    obtain ⟨hs, vs, o, es, rr, ho, hx, hdt, he, hn⟩ := nd_obj I.hok hd
    have l1 : es.size = vs.length := size_of_entries he
    have l2 : xs.length = vs.length := Paired.length rr
    have gx : xs[i]? = some xs[i] := List.getElem?_eq_getElem hi
    have gv : vs[i]? = some (vs[i]'(by omega)) := List.getElem?_eq_getElem _
    have ge := entry_at he i
    rw [gv] at ge
    have ha : (vs[i]'(by omega)).2.1 = xs[i].2.1 := by
      have h1 := congrArg (fun l => l[i]?) rr.addr
      rw [List.getElem?_map, List.getElem?_map, gx, gv] at h1
      exact Option.some.inj h1
    refine next_key_item st ho hdt (by omega) ge fun h' st' sb => ?_
    have I1 : Inv X pins σ H { s with heap := h' } := I.turned (t' := s.toks) (fun b ob hb e => (sb.2 b hb).trans e) f0 f1 f3 f4 f5
    obtain ⟨oi, e, c, dd⟩ := id st'
    exact ⟨_, rfl, go_of (s := { s with heap := h' }) e c dd (by decide) ⟨.ref xs[i].2.1, H, I1, by rw [← ha]; rfl, ⟨rfl, xs[i], gx, rfl⟩, st', fun b hb => (hf b hb).1⟩⟩
  done := by
    intro X hP hw hK hc i pins s σ H E I hf st hg
    subst hP hw hK
    obtain ⟨hd, hi⟩ := hg
    obtain ⟨f0, f1, f2, f3, f4, f5⟩ := hf it (by simp)
    obtain ⟨hs, vs, o, es, rr, ho, hx, hdt, he, hn⟩ := nd_obj I.hok hd
    have l1 : es.size = vs.length := size_of_entries he
    have l2 : xs.length = vs.length := Paired.length rr
    exact next_key_end (I.ok.hd hc) st ho hdt (by omega) hi fun h' eb => ⟨rfl, I.turned (t' := s.toks) (fun b ob hb e => eb b ob hb e) f0 f1 f3 f4 f5⟩
  self := fun A i s Q E st h => by
    refine wpAny_pyIter_slot st.typeIs F.slot_dict_keyiterator_iter (wpAny_call_entry F.slot_dict_keyiterator_iter st.typeIs F.entry_dict_keyiterator_iter ?_ (F.args_dict_keyiterator_iter_1 _))
    show wpAny _ _ (ret (.ref it)) _ _ s
    exact wpAny_pure ⟨_, rfl, "dict_keyiterator", _, st.typeIs, F.slot_dict_keyiterator_next.lookup, h⟩
def iNd (P : Program) (w : World) (td : TE) : TI := fun σ H R => td σ H fun x H1 => ∃ d xs ep, x = .ref d ∧ H1 d = some (NdO P w d xs ep) ∧ R (Itn P w d xs ep) H1
theorem pi_nd {X : Cx} {tg e : Expr} {td : TE} (he : PE X e td) : PI X tg e (iNd X.prog X.w td) := by
  refine ⟨fun pins s σ H R I h => ?_⟩
  refine thn (he.run pins s σ H _ I h) fun u s1 ⟨x, H1, I1, rx, d, xs, ep, ex, hd, q⟩ => ?_
  subst ex
  obtain rfl : u = Value.ref d := rx
  obtain ⟨hs, vs, o, es, rr, ho, hx, hdt, hes, hn⟩ := nd_obj I1.hok hd
  have l1 : es.size = vs.length := size_of_entries hes
  have l2 : xs.length = vs.length := Paired.length rr
  refine iter_keys hs ho hx hdt (pi_one (tk := s1.toks) I1 _ (turn_nd _) ⟨_, Heap.get?_push_size _ rfl, rfl, ?_⟩ q)
  rw [l1, l2]
  rfl
theorem walk_nd {P : Program} {w : World} {d : Addr} {xs : XS} {ep : Nat} : Walk (Itn P w d xs ep) xs.length (fun H => H d = some (NdO P w d xs ep)) (fun i H x H' => H' = H ∧ ∃ y, xs[i]? = some y ∧ x = .ref y.2.1) :=
  ⟨fun _ _ hi q => ⟨q, hi⟩, fun _ q => ⟨q, Nat.le_refl _⟩, fun _ _ _ _ _ _ y => y⟩
end Rw82
/-! zip of a tuple and a list. -/
namespace Rw82
open PySem PySem.Spec PyProof.Rows L2
abbrev zmH1 (h : Heap) (l1 : Addr) : Heap := h.push { cls := .type "tuple_iterator", data := .fields #[.ref l1, .int 0 0] }
abbrev zmH2 (h : Heap) (l1 l2 : Addr) : Heap := (zmH1 h l1).push { cls := .type "list_iterator", data := .fields #[.ref l2, .int 0 0] }
abbrev zmH3 (h : Heap) (l1 l2 : Addr) : Heap := (zmH2 h l1 l2).push { cls := .type "tuple", data := .seq #[.ref h.objs.size, .ref (zmH1 h l1).objs.size] }
abbrev zmH4 (h : Heap) (l1 l2 : Addr) : Heap := (zmH3 h l1 l2).push { cls := .type "tuple", data := .seq #[.none, .none] }
abbrev zmH5 (h : Heap) (l1 l2 : Addr) : Heap := (zmH4 h l1 l2).push { cls := .type "zip", data := .fields #[.none, .bool false, .bool false, .ref (zmH2 h l1 l2).objs.size, .ref (zmH3 h l1 l2).objs.size] }
theorem meets_zipM (l1 l2 : Addr) (xs ys : Array Value) : Meets (Builtin.«zip.__new__» ⟨[.type "zip", .ref l1, .ref l2], []⟩) (fun _ R s => s.heap.IsTuple l1 xs ∧ s.heap.IsList l2 ys ∧ R (.ok (.ret (.ref (zmH4 s.heap l1 l2).objs.size))) { s with heap := zmH5 s.heap l1 l2 }) :=
  .of_wp fun prog w A R s h => by
    obtain ⟨hp, g, d, tk, os⟩ := s
    obtain ⟨hl1, hl2, h⟩ := h
    have hsub := sub_zip
    have hL1 : Heap.IsTuple (Shared.heap ⟨hp, g, d, tk, os⟩) l1 xs := hl1
    have hL2 : Heap.IsList (Shared.heap ⟨hp.push { cls := .type "tuple_iterator", data := .fields #[.ref l1, .int 0 0] }, g, d, tk, os⟩) l2 ys := Heap.IsList.push hl2 _
    wp_walk using wpAny_pyIter_tuple hL1, wpAny_pyIter_list hL2
    exact ⟨_, rfl, h⟩
/-- the tuple at a and the list at b, the items in new pairs -/
def ItzM (K : PySem.W.Frag) (a b : Addr) : It :=
  ⟨fun i H => ∃ (xs ys : List V) (x y : V), SqT K H a xs ∧ SqL K H b ys ∧ xs[i]? = some x ∧ ys[i]? = some y,
    fun i H v H' => ∃ T x y, v = .ref T ∧ H T = none ∧ H' = upd H T (.tup [x, y]) ∧ (∀ xs, SqT K H a xs → xs[i]? = some x) ∧ ∀ ys, SqL K H b ys → ys[i]? = some y,
    fun i H => ∃ xs ys : List V, SqT K H a xs ∧ SqL K H b ys ∧ (xs.length = i ∧ i ≤ ys.length)⟩
theorem zip_sep {I a b : Nat} (ha : a < I) (hb : b < I) : ZipSep2 (I + 4) (I + 2) (I + 3) I (I + 1) [I, a] [I + 1, b] := by
  have ne : ∀ {m n : Nat}, m ≠ n → (m : Addr) ≠ (n : Addr) := fun h => h
  constructor <;> first
    | exact List.mem_cons_self ..
    | (refine ne ?_; omega)
    | (intro h
       rcases List.mem_cons.mp h with h | h
       · have h' : (_ : Nat) = _ := h
         omega
       · rw [List.mem_singleton] at h
         have h' : (_ : Nat) = _ := h
         omega)
theorem turn_zipM {P : Program} {w : World} {K : PySem.W.Frag} {elts : List Expr} {kk : Nat} {tpos : Pos} {a b J : Nat} (ha : a < J) (hb : b < J) :
    Turn P w K (.Tuple elts kk tpos) (ItzM K a b) [J + 4, J + 2, J + 3, J, J + 1] (J + 4) (fun i h => IsZip h (J + 4) (J + 2) (J + 3) .none ∧ IsPair h (J + 2) (.ref J) (.ref (J + 1)) ∧ (∃ x y, IsPair h (J + 3) x y) ∧ h.IsTupleIter J a i ∧ h.IsListIter (J + 1) b i) where
  mem := by simp
  obj := fun i h st c hc => by
    obtain ⟨hz, hTI, ⟨x, y, hTO⟩, ⟨o1, e1, _, d1⟩, ⟨o2, e2, _, d2⟩⟩ := st
    simp only [List.mem_cons, List.not_mem_nil, or_false] at hc
    rcases hc with q | q | q | q | q
    · rw [q]; exact ⟨_, hz, fun v q => nomatch q⟩
    · rw [q]; exact ⟨_, hTI, fun v q => nomatch q⟩
    · rw [q]; exact ⟨_, hTO, fun v q => nomatch q⟩
    · rw [q]; exact ⟨o1, e1, fun v q => by rw [d1] at q; cases q⟩
    · rw [q]; exact ⟨o2, e2, fun v q => by rw [d2] at q; cases q⟩
  keep := fun i h h' st k => by
    obtain ⟨hz, hTI, ⟨x, y, hTO⟩, h1, h2⟩ := st
    exact ⟨k _ (by simp) _ hz, k _ (by simp) _ hTI, ⟨x, y, k _ (by simp) _ hTO⟩, h1.at fun o q => k _ (by simp) o q, h2.at fun o q => k _ (by simp) o q⟩
  item := by
    intro X hP hw hK hc i pins s σ H E I hf st hg
    subst hP hw hK
    obtain ⟨hz, hTI, ⟨x0, y0, hTO⟩, h1, h2⟩ := st
    obtain ⟨xs, ys, x, y, hqx, hqy, hx, hy⟩ := hg
    obtain ⟨its, rv, p, _⟩ := I.tuple hqx
    obtain ⟨its2, rv2, p2, _⟩ := I.list hqy
    obtain ⟨u, hu, ru⟩ := rv.get hx
    obtain ⟨u2, hu2, ru2⟩ := rv2.get hy
    have hzl : J + 4 < s.heap.objs.size := Heap.lt_size hz
    have hh : X.A.in1.handled = none := I.ok.hd hc
    have S := zip_sep ha hb
    have hpt : s.heap.IsTuple a its.toArray := p
    refine wpAny_pyNext_zipD2_item S (Draws.tuple hh J a (show (a : Nat) ≠ J by omega) its.toArray) (Draws.list hh (J + 1) b (show (b : Nat) ≠ J + 1 by omega) its2.toArray) hz hTI hTO ⟨h1, hpt⟩ ⟨h2, p2.isList⟩
      (by simpa using (List.getElem?_eq_some_iff.mp hu).1) (by simpa using (List.getElem?_eq_some_iff.mp hu2).1) fun v1 v2 h' tk hv1 hv2 z' TO' h1' h2' hT hsz hk => ?_
    obtain rfl : v1 = u := by
      have h := hv1
      rw [List.getElem?_toArray, hu] at h
      exact (Option.some.inj h).symm
    obtain rfl : v2 = u2 := by
      have h := hv2
      rw [List.getElem?_toArray, hu2] at h
      exact (Option.some.inj h).symm
    refine ⟨_, rfl, wpAny_letOwnedTupleGo_zip (s := { s with heap := h', toks := tk }) z' fun h'' z'' sb => ?_⟩
    have hT2 : h''.get? s.heap.objs.size = some { cls := .type "tuple", data := .seq #[v1, v2] } := (sb.2 _ (Nat.ne_of_gt hzl)).trans hT
    have new : ObjOk X.prog X.w (upd H s.heap.objs.size (.tup [x, y])) h'' s.heap.objs.size (.tup [x, y]) :=
      ⟨by show 2 ≤ sizeLine; decide, [v1, v2], .cons ru (.cons ru2 .nil), ⟨_, hT2, rfl, _, rfl⟩⟩
    have I1 : Inv X pins σ (upd H s.heap.objs.size (.tup [x, y])) { s with heap := h'', toks := tk } :=
      I.turnedNew (t' := tk) (ch := [J + 4, J + 2, J + 3, J, J + 1]) (fun c o hb' q => (sb.2 c (fun q' => hb' (by simp [q']))).trans (hk c o (fun q' => hb' (by simp [q'])) (fun q' => hb' (by simp [q'])) (fun q' => hb' (by simp [q'])) (fun q' => hb' (by simp [q'])) q)) hf (Nat.le_refl _) new
    have at' : ∀ c : Nat, c ≠ J + 4 → c ≠ J + 3 → c ≠ J → c ≠ J + 1 → ∀ o, s.heap.get? c = some o → h''.get? c = some o := fun c n1 n2 n3 n4 o q => (sb.2 c n1).trans (hk c o n1 n2 n3 n4 q)
    refine ⟨.ref s.heap.objs.size, _, I1, rfl, ⟨_, x, y, rfl, I.hok.fresh (Nat.le_refl _), rfl, fun l hl => by rw [I.tuple_inj hl hqx]; exact hx, fun l hl => by rw [I.list_inj hl hqy]; exact hy⟩, ⟨z'', at' _ (by omega) (by omega) (by omega) (by omega) _ hTI, ⟨v1, v2, ?_⟩, ?_, ?_⟩, fun c hcm => ?_⟩
    · exact (sb.2 (J + 3) (show (J + 3 : Nat) ≠ J + 4 by omega)).trans TO'
    · exact h1'.1.at fun o q => (sb.2 J (show (J : Nat) ≠ J + 4 by omega)).trans q
    · exact h2'.1.at fun o q => (sb.2 (J + 1) (show (J + 1 : Nat) ≠ J + 4 by omega)).trans q
    · have hlt : c < s.heap.objs.size := by
        simp only [List.mem_cons, List.not_mem_nil, or_false] at hcm
        rcases hcm with q | q | q | q | q <;> (rw [q]; have : (J + 4 : Nat) < s.heap.objs.size := hzl; show (_ : Nat) < _; omega)
      rw [upd_ne (Nat.ne_of_lt hlt)]
      exact (hf c hcm).1
  done := by
    intro X hP hw hK hc i pins s σ H E I hf st hg
    subst hP hw hK
    obtain ⟨hz, hTI, ⟨x0, y0, hTO⟩, h1, h2⟩ := st
    obtain ⟨xs, ys, hqx, hqy, hend, hle⟩ := hg
    obtain ⟨its, rv, p, _⟩ := I.tuple hqx
    obtain ⟨its2, rv2, p2, _⟩ := I.list hqy
    have l1 := rv.length
    have l2 := rv2.length
    have hh : X.A.in1.handled = none := I.ok.hd hc
    have S := zip_sep ha hb
    have hpt : s.heap.IsTuple a its.toArray := p
    exact wpAny_pyNext_zipD2_end S (Draws.tuple hh J a (show (a : Nat) ≠ J by omega) its.toArray) (Draws.list hh (J + 1) b (show (b : Nat) ≠ J + 1 by omega) its2.toArray) hz hTI hTO ⟨h1, hpt⟩ ⟨h2, p2.isList⟩ (by simp; omega) (by simp; omega) (Or.inl (by simp; omega)) fun h' tk hk => ⟨rfl, I.turnedL (t' := tk) (ch := [J + 4, J + 2, J + 3, J, J + 1]) (fun c o hb' q =>
      hk c o (fun q' => hb' (by simp [q'])) (fun q' => hb' (by simp [q'])) (fun q' => hb' (by simp [q'])) (fun q' => hb' (by simp [q'])) q) hf⟩
  self := fun A i s Q E st h => wpAny_pyIter_zip st.1 h
def iZipTL (K : PySem.W.Frag) (ta : TA) : TI := fun σ H R => ta σ H fun vs H1 => ∃ a b xs ys, vs = [.ref a, .ref b] ∧ SqT K H1 a xs ∧ SqL K H1 b ys ∧ R (ItzM K a b) H1
theorem pi_zipTL {X : Cx} {e e2 : Expr} {ta : TA} {p pos tpos : Pos} {elts : List Expr} {kk : Nat} (hg : Gl X "zip") (hm : X.mg "zip" = none) (ha : PA X [e, e2] ta)
    (hs : starEach [e, e2] X.env = (false, eval e X.env) :: starEach [e2] X.env := by rfl) (hpl : (backTo pos (starEach [e2] X.env)).any (·.1) = false := by rfl) :
    PI X (.Tuple elts kk tpos) (.Call (.Name "zip" p) [e, e2] [] pos) (iZipTL X.K ta) := by
  refine ⟨fun pins s σ H R I h => ?_⟩
  refine Call_ (ld_blt I hg hm PyProof.Rows.boot_zip (PyProof.Rows.callWith_type1 (thn (ha.run pos pins s σ H _ I h) fun us s1 ⟨vs, H1, I1, r1, q1⟩ => ?_) hs hpl))
  obtain ⟨a, b, xs, ys, ex, hqx, hqy, q⟩ := q1
  subst ex
  cases r1 with
  | cons r rr =>
    cases rr with
    | cons r' rr =>
      cases rr
      cases r
      cases r'
      obtain ⟨its, rv, p1, _⟩ := I1.tuple hqx
      obtain ⟨its2, rv2, p2, _⟩ := I1.list hqy
      have hpt : s1.heap.IsTuple a its.toArray := p1
      have la : a < s1.heap.objs.size := by
        obtain ⟨o, ho, _⟩ := p1
        exact Heap.lt_size ho
      have fresh5 : ∀ c : Nat, c ∈ [s1.heap.objs.size + 4, s1.heap.objs.size + 2, s1.heap.objs.size + 3, s1.heap.objs.size, s1.heap.objs.size + 1] → FpOk X pins H1 c := fun c hcm => by
        have hle : s1.heap.objs.size ≤ c := by
          simp only [List.mem_cons, List.not_mem_nil, or_false] at hcm
          rcases hcm with z | z | z | z | z <;> omega
        exact I1.fpOk hle (I1.hok.fresh hle)
      refine callType_new F.called_zip (by decide) (F.typeCall_zip_2 _ _) (F.newCall_zip_2 _ _) (fun obj => F.args_object_init_3 obj _ _) F.entry_zip_new (meets_zipM a b its.toArray its2.toArray) ⟨hpt, p2.isList, ?_⟩
      have z1 : (zmH1 s1.heap a).objs.size = s1.heap.objs.size + 1 := Heap.size_push ..
      have z2 : (zmH2 s1.heap a b).objs.size = s1.heap.objs.size + 2 := by rw [Heap.size_push, z1]
      have z3 : (zmH3 s1.heap a b).objs.size = s1.heap.objs.size + 3 := by rw [Heap.size_push, z2]
      have z4 : (zmH4 s1.heap a b).objs.size = s1.heap.objs.size + 4 := by rw [Heap.size_push, z3]
      have g5 : (zmH5 s1.heap a b).get? (zmH4 s1.heap a b).objs.size = some _ := Heap.get?_push_size _ rfl
      have g4 : (zmH5 s1.heap a b).get? (zmH3 s1.heap a b).objs.size = some _ := Heap.get?_push_of_some _ (Heap.get?_push_size _ rfl)
      have g3 : (zmH5 s1.heap a b).get? (zmH2 s1.heap a b).objs.size = some _ := Heap.get?_push_of_some _ (Heap.get?_push_of_some _ (Heap.get?_push_size _ rfl))
      have g2 : (zmH5 s1.heap a b).get? (zmH1 s1.heap a).objs.size = some _ := Heap.get?_push_of_some _ (Heap.get?_push_of_some _ (Heap.get?_push_of_some _ (Heap.get?_push_size _ rfl)))
      have g1 : (zmH5 s1.heap a b).get? s1.heap.objs.size = some _ := Heap.get?_push_of_some _ (Heap.get?_push_of_some _ (Heap.get?_push_of_some _ (Heap.get?_push_of_some _ (Heap.get?_push_size _ rfl))))
      have hk : ∀ c o, s1.heap.get? c = some o → (zmH5 s1.heap a b).get? c = some o := fun c o x => Heap.get?_push_of_some _ (Heap.get?_push_of_some _ (Heap.get?_push_of_some _ (Heap.get?_push_of_some _ (Heap.get?_push_of_some _ x))))
      have I2 : Inv X pins σ H1 { s1 with heap := zmH5 s1.heap a b } := I1.kept (t' := s1.toks) hk
      show _ ∧ _
      rw [z2, z3, z4] at g5
      rw [z1, z2] at g3
      rw [z3] at g4
      rw [z1] at g2
      rw [z4]
      have lb : b < s1.heap.objs.size := p2.lt
      exact ⟨⟨_, g5, rfl⟩, wpAny_pyIter_zip (s := { s1 with heap := zmH5 s1.heap a b }) g5 ⟨s1.heap.objs.size + 4, [s1.heap.objs.size + 4, s1.heap.objs.size + 2, s1.heap.objs.size + 3, s1.heap.objs.size, s1.heap.objs.size + 1], _, _, H1, rfl, I2, turn_zipM la lb, ⟨g5, g3, ⟨_, _, g4⟩, ⟨_, g1, rfl, rfl⟩, ⟨_, g2, rfl, rfl⟩⟩, fresh5, q⟩⟩
theorem walk_zipM {K : PySem.W.Frag} {a b : Addr} {xs ys : List V} (hl : xs.length = ys.length) : Walk (ItzM K a b) xs.length (fun H => SqT K H a xs ∧ SqL K H b ys) (YPair (fun i => xs[i]?) (fun i => ys[i]?)) := by
  refine ⟨fun i _ hi q => ?_, fun _ q => ⟨xs, ys, q.1, q.2, rfl, by omega⟩, fun i H v H' _ q y => ?_⟩
  · exact ⟨xs, ys, xs[i], ys[i], q.1, q.2, by simp [hi], by simp [show i < ys.length by omega]⟩
  · obtain ⟨T, x, z, h1, h2, h3, h4, h5⟩ := y
    exact ⟨T, x, z, h1, h2, h3, h4 xs q.1, h5 ys q.2⟩
end Rw82
/-! tables: the rows, the start, what may be next. -/
namespace Rw82
open PySem PySem.Spec PyProof.Rows L2
variable {P : Program} {w : World} {mg : Str → Option Value} {base : Heap} {k : Nat} {G : Ad}
/-- a new list may grow -/
theorem Ext.mut {H H2 : Hp} {D : Addr} {xs ys : List V} (e : Ext G H H2) (h0 : H D = none) (hD : H2 D = some (.lst xs)) : Ext G H (upd H2 D (.lst ys)) := by
  refine ⟨fun b o hb n => ?_, fun t => ?_⟩
  · rw [upd_ne (ne_of_none hb h0)]
    exact e.k b o hb n
  · obtain ⟨ps, t1, t2, t3⟩ := e.t t
    refine ⟨ps, by rw [upd_ne (fun z => by rw [z, hD] at t1; cases t1)]; exact t1, t2, fun pos cv h => ?_⟩
    obtain ⟨c, c1, c2⟩ := t3 pos cv h
    refine ⟨c, c1, ?_⟩
    rw [upd_ne (fun z => by
      rw [z, hD] at c2
      have c3 := Option.some.inj c2
      unfold LamX.CodeO at c3
      cases c3)]
    exact c2
/-- sorted of rows ((counts), hue, time) -/
abbrev rSortN (K : PySem.W.Frag) : List V → Hp → VK → Prop := fun xs H Q => ∃ (p : Addr) (ks : List (Stt × Int × Addr)), xs = [.ref p] ∧ SqL K H p (ks.map fun x => V.ref x.2.2) ∧ (∀ x ∈ ks, ∃ b, H x.2.2 = some (.tup [.ref b, .int x.1.2, .int x.2.1]) ∧ H b = some (.tup (x.1.1.map fun m => V.int (m : Nat)))) ∧ ks.length ≤ 100000 ∧
  ∀ q ys, H q = none → Q (.ref q) (upd H q (.lst ys))
def encN (x : Stt × Int × Addr) : PyData := .tuple [.tuple (x.1.1.map fun m => .int (m : Nat)), .int x.1.2, .int x.2.1]
theorem reads_nats {h : Heap} : ∀ (l : List Nat) {us : List Value}, Vals (l.map fun m => V.int (m : Nat)) us → ReadsAll h us (l.map fun m => .int (m : Nat)) []
  | [], us, r => by
    cases r
    exact .nil
  | n :: ns, us, r => by
    cases r with
    | cons r t =>
      obtain ⟨tk, rfl⟩ := r
      exact .cons (as := []) (bs := []) (.int _ tk) (reads_nats ns t)
theorem depth_nats : ∀ ns : List Nat, PyData.depthAll (ns.map fun m => .int (m : Nat)) ≤ 0
  | [] => Nat.le_refl _
  | n :: ns => Nat.max_le.mpr ⟨Nat.le_refl 0, depth_nats ns⟩
theorem alike_nats : ∀ l m : List Nat, PySem.W.alikeAll (l.map fun m => .int (m : Nat)) (m.map fun m => .int (m : Nat)) = true
  | [], m => by unfold PySem.W.alikeAll; cases m <;> rfl
  | _ :: _, [] => rfl
  | a :: l, b :: m => by
    show (PySem.W.alike (.int (a : Nat)) (.int (b : Nat)) && PySem.W.alikeAll _ _) = true
    rw [alike_nats l m]
    rfl
theorem cr_sortedN {X : Cx} (hu : X.A.units + 64 < cLine) : CallR X (.builtin "sorted") (rSortN X.K) := by
  intro pins s σ H xs us Q I r h
  obtain ⟨p, ks, rfl, hL, hk, hz, q⟩ := h
  obtain ⟨u, rfl, rx⟩ := one_of r
  cases rx
  obtain ⟨its, ri, pl, hzi⟩ := I.list hL
  have hlen : its.length = ks.length := by have := ri.length; rw [List.length_map] at this; exact this.symm
  have each : ∀ (l : List (Stt × Int × Addr)) (us : List Value), Vals (l.map fun x => V.ref x.2.2) us → PySem.W.EachIs (fun v (x : Stt × Int × Addr) => v = .ref x.2.2) us l := by
    intro l
    induction l with
    | nil => intro us r; cases r; exact .nil
    | cons x l ih => intro us r; cases r with
      | cons a t => exact .cons a (ih _ t)
  have each2 : ∀ (l : List (Stt × Int × Addr)) (us : List Value), (∀ x ∈ l, x ∈ ks) → Vals (l.map fun x => V.ref x.2.2) us → PySem.W.EachIs (fun v (x : Stt × Int × Addr) => ∃ as, Reads s.heap v (encN x) as) us l := by
    intro l
    induction l with
    | nil => intro us _ r; cases r; exact .nil
    | cons x l ih => intro us hm r; cases r with
      | cons a t =>
        refine .cons ?_ (ih _ (fun y hy => hm y (List.mem_cons_of_mem _ hy)) t)
        obtain rfl := a
        obtain ⟨b, b1, b2⟩ := hk x (hm x (List.mem_cons_self ..))
        obtain ⟨_, i1, r1, ⟨o1, a1, a2, n1, a3⟩⟩ := I.hok _ _ b1
        obtain ⟨_, i2, r2, ⟨o2, c1, c2, n2, c3⟩⟩ := I.hok _ _ b2
        cases r1 with
        | cons q1 t1 =>
          cases t1 with
          | cons q2 t2 =>
            cases t2 with
            | cons q3 t3 =>
              cases t3
              cases q1
              obtain ⟨k2, rfl⟩ := q2
              obtain ⟨k3, rfl⟩ := q3
              exact ⟨_, .tuple a1 a2 a3 (.cons (as := []) (bs := []) (.tuple c1 c2 c3 (by simpa using reads_nats _ r2)) (.cons (as := []) (bs := []) (.int _ _) (.cons (as := []) (bs := []) (.int _ _) .nil)))⟩
  refine PySem.W.sorted_data (enc := encN) pl.isList (each _ _ ri) (each2 _ _ (fun _ h => h) ri) (PySem.W.AllAlike.of fun a b => ?_) (PySem.W.Sortable.tuples fun b => ⟨_, _, rfl⟩) (small16 hz) (fun b _ => ?_) fun out ho he => ?_
  · show (PySem.W.alikeAll (a.1.1.map fun m => .int (m : Nat)) (b.1.1.map fun m => .int (m : Nat)) && (PySem.W.alike (.int _) (.int _) && (PySem.W.alike (.int _) (.int _) && PySem.W.alikeAll [] []))) = true
    rw [alike_nats]
    rfl
  · have := depth_nats b.1.1
    show X.A.units + 2 + (max (PyData.depthAll (b.1.1.map fun m => .int (m : Nat)) + 1) (max 0 (max 0 0)) + 1) < cLine
    omega
  · obtain ⟨n, hn⟩ := sortedAll_at s.heap its (List.toArray out)
    have back : ∀ (l : List (Stt × Int × Addr)) (us : List Value), PySem.W.EachIs (fun v (x : Stt × Int × Addr) => v = .ref x.2.2) us l → Vals (l.map fun x => V.ref x.2.2) us := by
      intro l
      induction l with
      | nil => intro us r; cases r; exact .nil
      | cons x l ih => intro us r; cases r with
        | cons a t => exact .cons a (ih _ t)
    have rv := back _ _ he
    have hl' : ((ks.mergeSort (PySem.W.dataLe false encN)).map fun x => V.ref x.2.2).length ≤ sizeLine := by
      rw [List.length_map, (List.mergeSort_perm ks _).length_eq]
      exact small16 hz
    have I3 := I.laid (t' := s.toks) (a := s.heap.objs.size + 1) (o := .lst ((ks.mergeSort (PySem.W.dataLe false encN)).map fun x => V.ref x.2.2)) (h' := sortedAll s.heap its (List.toArray out)) (fun b o e => sortedAll_old e) (Nat.le_succ _) (show ObjOk X.prog X.w _ _ _ (.lst _) from ⟨hl', out, n, rv, hn⟩)
    exact ⟨.ref _, _, I3, rfl, q _ _ (I.hok.fresh (Nat.le_succ _))⟩
end Rw82
/-! due_cloths, start_state, goings, breaks. -/
namespace Rw82
open PySem PySem.Spec PyProof.Rows L2
variable {P : Program} {w : World} {mg : Str → Option Value} {base : Heap} {k : Nat} {G : Ad}
/-- a list of lists of cloths -/
structure RowsAt (H : Hp) (a : Addr) (rows : List (List Cloth)) : Prop where
  ex : ∃ ls : List Addr, H a = some (.lst (ls.map V.ref)) ∧ ls.length = rows.length ∧ ∀ (i : Nat) l row, ls[i]? = some l → rows[i]? = some row → ∃ ts : List Addr, H l = some (.lst (ts.map V.ref)) ∧ TupsAt H ts (row.map clV)
theorem RowsAt.kp {H H' : Hp} {a : Addr} {rows : List (List Cloth)} (x : RowsAt H a rows) (e : Kp H H') : RowsAt H' a rows := by
  obtain ⟨ls, h1, h2, h3⟩ := x.ex
  refine ⟨ls, Kp.lst e h1, h2, fun i l row g1 g2 => ?_⟩
  obtain ⟨ts, t1, t2⟩ := h3 i l row g1 g2
  exact ⟨ts, Kp.lst e t1, t2.kp e⟩
abbrev sp_due_cloths (G : Ad) : Sp := fun vs H Q _ => ∃ (p : Addr) (W : Wk), vs = [.ref p] ∧ WkAt G H p W ∧ Tb G H ∧ ∀ H' a rows, Ext G H H' → Tb G H' → IsRows dueLe W.cl W.n rows → RowsAt H' a rows → Q (.ref a) H'
theorem sc_due_cloths : FnScope ["works", "hue", "name"] ["works"] (defScope sdue_cloths) := ⟨rfl, rfl, rfl, by decide +kernel, rfl, by decide +kernel, by decide +kernel⟩
theorem c_due_cloths (B : Bn mg) (FC : Fc G mg) (MW_hues : Me P w G.K mg base k G.CW "hues" (spW_hues G)) (MW_due_row : Me P w G.K mg base k G.CW "due_row" (spW_due_row G)) (MW_cloth : Me P w G.K mg base k G.CW "cloth" (spW_cloth G)) (F : Gd G.K mg "due_cloths" sdue_cloths) : Ca P w G.K mg base (k + 1) "due_cloths" (sp_due_cloths G) :=
  ca_0 F sc_due_cloths (fun _ _ _ _ _ _ us hl => match us, hl with | [_], _ => rfl) (fun vs H Q E h => by obtain ⟨_, _, rfl, _⟩ := h; rfl)
  fun f cdv A outer s H vs Q E hr h => ⟨_, /- slots: 0 works, 1 hue, 2 name -/ (pss_one (ps_ret (pe_lc (own := [("hue", 1)]) (g := (gName 1)) (tt := tYes) (te := (tLc (iList G.K (tMeth G.CW "due_row" (spW_due_row G) [] E0 (tVar 0) (tCons (tVar 1) tNil))) (gName 2) tYes (tMeth G.CW "cloth" (spW_cloth G) [] E0 (tVar 0) (tCons (tVar 2) tNil)) [2])) rfl sc_due_cloths.nd (pi_range1 (by rfl) B.range (pa_cons (pe_me0 MW_hues hr (pv 0)) pa_nil)) (blkOk_by (own := [("hue", 1)]) (N := ["works", "hue", "name"]) (sc := defScope sdue_cloths) (by decide +kernel)) (fun _ _ _ _ _ => by exact (pg_name (i := 1) sc_due_cloths.nd rfl (Or.inl rfl))) (fun _ _ _ _ _ => by exact pts_nil) (fun _ _ _ _ _ => by exact (pe_lc (own := [("name", 2)]) (g := (gName 2)) (tt := tYes) (te := (tMeth G.CW "cloth" (spW_cloth G) [] E0 (tVar 0) (tCons (tVar 2) tNil))) rfl sc_due_cloths.nd (pi_list (pe_me MW_due_row hr (pv 0) (pa_cons (pv 1) pa_nil))) (blkOk_by (own := [("name", 2)]) (N := ["works", "hue", "name"]) (sc := (relS (lcSc (stE ((defBody sdue_cloths).getD 0 (.Pass ⟨0, 0, 0, 0⟩)))) (defScope sdue_cloths))) (by decide +kernel)) (fun _ _ _ _ _ => by exact (pg_name (i := 2) sc_due_cloths.nd rfl (Or.inl rfl))) (fun _ _ _ _ _ => by exact pts_nil) (fun _ _ _ _ _ => by exact (pe_me MW_cloth hr (pv 0) (pa_cons (pv 2) pa_nil)))))))), by
    obtain ⟨p, W, rfl, hW, hTb, q⟩ := h
    obtain ⟨dx, ls, ts0, d, cs, O⟩ := hW.open_
    have ok := hW.ok
    refine ⟨_, rfl, p, dx, _, rfl, O.at_, wf_no (by decide +kernel), p, dx, _, ts0, W.n, W.R, rfl, O.at_, wf_told, O.told, (W.n : Nat), rfl, by have := ok.n4; omega, by have := ok.n4; omega, fun D hD => ?_⟩
    have h4 := ok.n4
    refine lc_it walk_range (fun i H' => Ext G H H' ∧ Tb G H' ∧ ∃ (ls : List Addr) (rows : List (List Cloth)), H' D = some (.lst (ls.map V.ref)) ∧ ls.length = i ∧ rows.length = i ∧ (∀ (h : Nat) row, rows[h]? = some row → IsRow dueLe W.cl h row) ∧ ∀ (j : Nat) l row, ls[j]? = some l → rows[j]? = some row → ∃ ts : List Addr, H' l = some (.lst (ts.map V.ref)) ∧ TupsAt H' ts (row.map clV))
      ⟨Ext.of (same_new hD), LamX.TabS.ext hTb (same_new hD), [], [], upd_same, rfl, rfl, fun _ _ z => (nomatch z), fun _ _ _ z => (nomatch z)⟩ (fun _ _ _ _ => True.intro) ?_ ?_
    · rintro i x H1 H2 hi ⟨e1, t1, ls, rows, hls, l1, l2, hrows, hcon⟩ ⟨rfl, rfl⟩
      have hi' : i < W.n := by simpa using hi
      have hW1 := hW.kp e1.k
      have o1 := Kp.ins e1.k O.at_
      refine ⟨rfl, ?_⟩
      have e0 : (0 : Int) + (i : Nat) = (i : Nat) := Int.zero_add _
      refine ⟨_, rfl, p, dx, _, rfl, o1, wf_no (by decide +kernel), _, rfl, p, W, i, by show [V.ref p, V.int (0 + (i : Nat))] = _; rw [e0], hW1, t1, fun H3 b row e3 t3 hrow hb => ?_⟩
      have lrow : row.length ≤ 10 := by
        rw [hrow.1.length_eq]
        exact Nat.le_trans (List.length_filter_le _ _) ok.few
      have hz : (row.map fun c => V.str c.name).length = row.length := List.length_map ..
      refine ⟨b, rfl, ⟨_, Or.inl (Or.inl hb)⟩, fun D2 hD2 => lc_it (walk_list (xs := row.map fun c => V.str c.name)) (fun j H' => Same H3 H' ∧ ∃ us : List Addr, H' D2 = some (.lst (us.map V.ref)) ∧ TupsAt H' us ((row.take j).map clV)) ⟨same_new hD2, [], upd_same, TupsAt.nil _⟩ (fun j H' _ z => Or.inl (Or.inl (z.1 _ _ hb))) ?_ ?_⟩
      · rintro j y H4 H5 hj ⟨e4, us, hus, hU⟩ ⟨rfl, hy⟩
        rw [List.getElem?_map] at hy
        obtain ⟨c, hc, rfl⟩ := Option.map_eq_some_iff.mp hy
        have hcW : c ∈ W.cl := (hrow.mem.mp (List.mem_of_getElem? hc)).1
        have e14 := (e1.trans e3).trans (Ext.of e4)
        have htk : row.take (j + 1) = row.take j ++ [c] := by rw [List.take_add_one, hc]; rfl
        refine ⟨rfl, _, rfl, p, dx, _, rfl, Kp.ins e14.k O.at_, wf_no (by decide +kernel), _, rfl, p, W, c.name, rfl, hW.kp e14.k, fun c' t' hc' hn' hat => ?_, fun z => absurd (List.mem_map.mpr ⟨c, hcW, rfl⟩) z⟩
        obtain rfl : c' = c := one_of_name ok.nd hc' hcW hn'
        have lus : us.length ≤ 10 := by
          have := hU.ln
          rw [List.length_map, List.length_take] at this
          omega
        refine ⟨_, hus, by rw [List.length_map]; exact small16' (by omega), same_mut e4 hD2, us ++ [t'], by rw [upd_same, refs_snoc], ?_⟩
        rw [htk, List.map_append]
        have ne : ∀ {b : Addr} {zs : List V}, H5 b = some (HO.tup zs) → b ≠ D2 := fun z w => by rw [w, hus] at z; cases z
        exact TupsAt.snoc ⟨hU.ln, fun i t2 z2 a1 a2 => by rw [upd_ne (ne (hU.at_ i t2 z2 a1 a2))]; exact hU.at_ i t2 z2 a1 a2⟩ (by rw [upd_ne (ne hat)]; exact hat)
      · rintro H4 ⟨e4, us, hus, hU⟩
        rw [hz, List.take_length] at hU
        have e34 := e3.trans (Ext.of e4)
        have e14 := e1.trans e34
        have hD4 := Kp.lst e34.k hls
        have D2D : D2 ≠ D := fun z => by
          have := Kp.lst e3.k hls
          rw [← z, hD2] at this
          cases this
        have tl : ∀ {b : Addr} {zs : List V}, H4 b = some (HO.tup zs) → b ≠ D := fun z w => by rw [w, hD4] at z; cases z
        refine ⟨_, hD4, by rw [List.length_map, l1]; exact small16' (by omega), e14.mut hD hD4, ?_, ls ++ [D2], rows ++ [row], by rw [upd_same, refs_snoc], by rw [List.length_append, l1]; rfl, by rw [List.length_append, l2]; rfl, fun h row' z => ?_, fun j l row' z1 z2 => ?_⟩
        · exact (Ext.mut (Ext.of (Evl.Ex.refl H)|>.trans e14) hD hD4).t hTb
        · rcases snoc_get z with z | ⟨z1, z2⟩
          · exact hrows h row' z
          · rw [z1, z2, l2]
            exact hrow
        · rcases snoc_get z1 with y1 | ⟨y1, y1'⟩
          · rcases snoc_get z2 with y2 | ⟨y2, y2'⟩
            · obtain ⟨ts, w1, w2⟩ := hcon j l row' y1 y2
              have lD : l ≠ D := fun w => by
                have w1' := w1
                rw [w, hls] at w1'
                have q' : ls = ts := refs_inj (by injection w1' with z; injection z)
                have g : ts[j]? = some l := by rw [← q']; exact y1
                have jl : j < (row'.map clV).length := by rw [← w2.ln]; exact (List.getElem?_eq_some_iff.mp g).1
                have a1 := w2.at_ j l _ g (List.getElem?_eq_getElem jl)
                rw [w, hls] at a1
                cases a1
              refine ⟨ts, by rw [upd_ne lD]; exact Kp.lst e34.k w1, w2.ln, fun i t zs a1 a2 => ?_⟩
              have a3 := Kp.tup e34.k (w2.at_ i t zs a1 a2)
              rw [upd_ne (tl a3)]
              exact a3
            · have := (List.getElem?_eq_some_iff.mp y1).1
              omega
          · rcases snoc_get z2 with y2 | ⟨y2, y2'⟩
            · have := (List.getElem?_eq_some_iff.mp y2).1
              omega
            · rw [y1', y2']
              refine ⟨us, by rw [upd_ne D2D]; exact hus, hU.ln, fun i t zs a1 a2 => ?_⟩
              have a3 := hU.at_ i t zs a1 a2
              rw [upd_ne (tl a3)]
              exact a3
    · rintro H1 ⟨e1, t1, ls, rows, hls, l1, l2, hrows, hcon⟩
      have e0 : ((W.n : Nat) : Int).toNat = W.n := Int.toNat_natCast _
      rw [e0] at l1 l2
      exact q H1 D rows e1 t1 ⟨l2, hrows⟩ ⟨ls, hls, by rw [l1, l2], hcon⟩⟩
abbrev sp_breaks (G : Ad) : Sp := fun vs H Q _ => ∃ (t : Addr) (c : Cloth) (e : Int) (b : Option Int), vs = [.ref t, .int e, bdV b] ∧ ClAt H t c ∧ ∀ H' r, Same H H' → (r = false ↔ okB b (e - c.due)) → Q (.bl r) H'
theorem sc_breaks : FnScope ["cloth", "end", "bound"] ["cloth", "end", "bound"] (defScope sbreaks) := ⟨rfl, rfl, rfl, by decide +kernel, rfl, by decide +kernel, by decide +kernel⟩
theorem c_breaks (F : Gd G.K mg "breaks" sbreaks) : Ca P w G.K mg base (k + 1) "breaks" (sp_breaks G) :=
  ca_0 F sc_breaks (fun _ _ _ _ _ _ us hl => match us, hl with | [_, _, _], _ => rfl) (fun vs H Q E h => by obtain ⟨_, _, _, _, rfl, _⟩ := h; rfl)
  fun f cdv A outer s H vs Q E hr h => ⟨_, /- slots: 0 cloth, 1 end, 2 bound -/ (pss_one (ps_ret (pe_and (pe_cmpR op_notN (pv 2) pe_non (nomark _)) (pe_one (pe_cmpR op_gt (pe_op op_sub (pv 1) (pe_ix ix_tup (pv 0) pe_int (fun _ _ => rfl))) (pv 2) (nomark _)))))), by
    obtain ⟨t, c, e, b, rfl, ht, q⟩ := h
    dsimp only [tSeq, tRet, tRetN, tIfS, tAsg, tDrop, tNext, tNever, tVar, tC, tCons, tNil, tCB, tOp, tTest, tB, tAnd, tOr, tNot, tAndV, tOrV, tNotV, tChain, tTup, tLst, tFld, sFld, tCall, tMeth, tMake, tDGet, tDIn, tDNotIn, sDPut, tDNewK, tSl, tPart, tNoPart, gTup, gCons, gNil, gSub, tBM, tUn]
    cases b with
    | none => exact ⟨_, rfl, rfl, false, rfl, q H false (fun _ _ x => x) ⟨fun _ => okB_none _, fun _ => rfl⟩⟩
    | some b =>
      refine ⟨_, rfl, rfl, true, rfl, _, rfl, _, rfl, t, _, 3, _, rfl, rfl, Or.inl (Or.inl ht), rfl, _, _, rfl, rfl, _, rfl, _, _, rfl, rfl, q H _ (fun _ _ x => x) ?_⟩
      rw [okB_some, decide_eq_false_iff_not]
      omega⟩
abbrev sp_start_state (G : Ad) : Sp := fun vs H Q _ => ∃ (p : Addr) (W : Wk), vs = [.ref p] ∧ WkAt G H p W ∧ ∀ H' a, Same H H' → KeyAt H' a (List.replicate W.n 0, W.last) → Q (.ref a) H'
theorem sc_start_state : FnScope ["works", "hue"] ["works"] (defScope sstart_state) := ⟨rfl, rfl, rfl, by decide +kernel, rfl, by decide +kernel, by decide +kernel⟩
theorem c_start_state (B : Bn mg) (MW_hues : Me P w G.K mg base k G.CW "hues" (spW_hues G)) (MW_start : Me P w G.K mg base k G.CW "start" (spW_start G)) (F : Gd G.K mg "start_state" sstart_state) : Ca P w G.K mg base (k + 1) "start_state" (sp_start_state G) :=
  ca_0 F sc_start_state (fun _ _ _ _ _ _ us hl => match us, hl with | [_], _ => rfl) (fun vs H Q E h => by obtain ⟨_, _, rfl, _⟩ := h; rfl)
  fun f cdv A outer s H vs Q E hr h => ⟨_, /- slots: 0 works, 1 hue -/ (pss_one (ps_ret (pe_tup (pa_cons (pe_callTy call_tuple_of (by rfl) B.tuple (by decide +kernel) (pa_cons (pe_lc (own := [("hue", 1)]) (g := (gName 1)) (tt := tYes) (te := (tC (.int 0))) rfl sc_start_state.nd (pi_range1 (by rfl) B.range (pa_cons (pe_me0 MW_hues hr (pv 0)) pa_nil)) (blkOk_by (own := [("hue", 1)]) (N := ["works", "hue"]) (sc := defScope sstart_state) (by decide +kernel)) (fun _ _ _ _ _ => by exact (pg_name (i := 1) sc_start_state.nd rfl (Or.inl rfl))) (fun _ _ _ _ _ => by exact pts_nil) (fun _ _ _ _ _ => by exact pe_int)) pa_nil)) (pa_cons (pe_ix ix_tup (pe_me0 MW_start hr (pv 0)) pe_int (fun _ _ => rfl)) pa_nil))))), by
    obtain ⟨p, W, rfl, hW, q⟩ := h
    obtain ⟨dx, ls, ts0, d, cs, O⟩ := hW.open_
    have ok := hW.ok
    have h4 := ok.n4
    refine ⟨_, rfl, p, dx, _, rfl, O.at_, wf_no (by decide +kernel), p, dx, _, ts0, W.n, W.R, rfl, O.at_, wf_told, O.told, (W.n : Nat), rfl, by omega, by omega, fun D hD => ?_⟩
    refine lc_it walk_range (fun i H' => Same H H' ∧ H' D = some (.lst ((List.replicate i 0).map fun m => V.int (m : Nat)))) ⟨same_new hD, upd_same⟩ (fun _ _ _ _ => True.intro) ?_ ?_
    · rintro i x H1 H2 hi ⟨e1, hD1⟩ ⟨rfl, rfl⟩
      have hi' : i < W.n := by simpa using hi
      refine ⟨rfl, _, hD1, by rw [List.length_map, List.length_replicate]; exact small16' (by omega), same_mut e1 hD, ?_⟩
      rw [upd_same, List.replicate_succ', List.map_append]
      rfl
    · rintro H1 ⟨e1, hD1⟩
      have e0 : ((W.n : Nat) : Int).toNat = W.n := Int.toNat_natCast _
      rw [e0] at hD1
      refine ⟨D, _, rfl, Or.inl ⟨Or.inl (Or.inl hD1), fun l hl => ?_⟩⟩
      have e2 := Evl.Ex.trans e1 (same_new (o := HO.tup ((List.replicate W.n 0).map fun m => V.int (m : Nat))) hl)
      refine ⟨_, rfl, p, dx, _, rfl, e2 _ _ O.at_, wf_no (by decide +kernel), p, W, rfl, hW.same e2, fun H3 t e3 ht => ⟨t, _, 0, _, rfl, rfl, Or.inl (Or.inl ht), rfl, (show 2 ≤ sizeLine by decide), fun a ha => ?_⟩⟩
      refine q _ a (Evl.Ex.trans (Evl.Ex.trans e2 e3) (same_new ha)) ⟨l, upd_same, ?_⟩
      exact (same_new ha) _ _ (e3 _ _ upd_same)⟩
/-- a slice of a tuple, whole or not -/
theorem sl_any {K : PySem.W.Frag} {H : Hp} {a : Addr} {xs : List V} {lo hi : Option Int} {Q : VK} (h : H a = some (.tup xs)) (q : ∀ p H', Same H H' → H' p = some (.tup (cutV xs lo hi)) → Q (.ref p) H') : rSlA K (.ref a) lo hi H Q := by
  refine ⟨a, xs, rfl, Or.inl (Or.inl h), fun z => q a H (fun _ _ x => x) ?_, fun _ p hp => q p _ (same_new hp) upd_same⟩
  have e : cutV xs lo hi = xs := by
    unfold cutV
    rw [z.1, z.2, List.drop_zero, Nat.sub_zero, List.take_length]
  rw [e]
  exact h
theorem cat_any {K : PySem.W.Frag} {H : Hp} {a b : Addr} {xs ys : List V} {Q : VK} (h : H a = some (.tup xs)) (h' : H b = some (.tup ys)) (hz : xs.length + ys.length ≤ 100000) (q : ∀ p H', Same H H' → H' p = some (.tup (xs ++ ys)) → Q (.ref p) H') : rCatA K (.ref a) (.ref b) H Q := by
  refine ⟨a, b, xs, ys, rfl, rfl, Or.inl (Or.inl h), Or.inl (Or.inl h'), small16 hz, fun z => ?_, fun _ z => ?_, fun _ _ p hp => q p _ (same_new hp) upd_same⟩
  · rw [z] at q
    exact q b H (fun _ _ x => x) h'
  · rw [z, List.append_nil] at q
    exact q a H (fun _ _ x => x) h
theorem cut_take {xs : List V} {i : Nat} (h : i ≤ xs.length) : cutV xs none (some (i : Int)) = xs.take i := by
  unfold cutV
  rw [HT.sIx_none, HT.sIx_nat, List.drop_zero, Nat.sub_zero, Nat.min_eq_left h]
theorem cut_drop {xs : List V} {i : Nat} (h : i ≤ xs.length) : cutV xs (some (i : Int)) none = xs.drop i := by
  unfold cutV
  rw [HT.sIx_none, HT.sIx_nat, Nat.min_eq_left h]
  exact List.take_of_length_le (by rw [List.length_drop]; exact Nat.le_refl _)
theorem set_parts {α : Type} {l : List α} {i : Nat} {x : α} (h : i < l.length) : l.set i x = l.take i ++ [x] ++ l.drop (i + 1) := by
  rw [List.set_eq_take_append_cons_drop, if_pos h, List.append_assoc]
  rfl
/-- what may be next: the cloth, the state behind it, its end -/
def GoAt (H : Hp) (x : Addr) (c : Cloth) (s : Stt) (e : Int) : Prop := ∃ tc u b, H x = some (.tup [.ref tc, .ref u]) ∧ ClAt H tc c ∧ H u = some (.tup [.ref b, .int s.2, .int e]) ∧ H b = some (.tup (s.1.map fun m => V.int (m : Nat)))
theorem GoAt.same {H H' : Hp} {x : Addr} {c : Cloth} {s : Stt} {e : Int} (g : GoAt H x c s e) (k : Same H H') : GoAt H' x c s e := by
  obtain ⟨tc, u, b, h1, h2, h3, h4⟩ := g
  exact ⟨tc, u, b, k _ _ h1, k _ _ h2, k _ _ h3, k _ _ h4⟩
theorem GoAt.mutL {H : Hp} {x D : Addr} {c : Cloth} {s : Stt} {e : Int} {xs ys : List V} (g : GoAt H x c s e) (h : H D = some (.lst xs)) : GoAt (upd H D (.lst ys)) x c s e := by
  have tl : ∀ {b : Addr} {zs : List V}, H b = some (.tup zs) → (upd H D (.lst ys)) b = some (.tup zs) := fun z => by
    rw [upd_ne (fun w => by rw [w, h] at z; cases z)]
    exact z
  obtain ⟨tc, u, b, h1, h2, h3, h4⟩ := g
  exact ⟨tc, u, b, tl h1, tl h2, tl h3, tl h4⟩
/-- all that may be next, told by a list -/
structure GosAt (H : Hp) (xs : List Addr) (gs : List (Cloth × Stt × Int)) : Prop where
  ln : xs.length = gs.length
  at_ : ∀ (i : Nat) x g, xs[i]? = some x → gs[i]? = some g → GoAt H x g.1 g.2.1 g.2.2
abbrev sp_goings (G : Ad) : Sp := fun vs H Q _ => ∃ (p a t b : Addr) (W : Wk) (rows : List (List Cloth)) (s : Stt) (tm : Int), vs = [.ref p, .ref a, .ref t] ∧ WkAt G H p W ∧ RowsAt H a rows ∧ rows.length = W.n ∧ (∀ row ∈ rows, row.length ≤ 10) ∧ H t = some (.tup [.ref b, .int s.2, .int tm]) ∧ H b = some (.tup (s.1.map fun m => V.int (m : Nat))) ∧ s.1.length = W.n ∧ -1 ≤ s.2 ∧ s.2 < W.n ∧
  ∀ H' l xs gs, Same H H' → H' l = some (.lst (xs.map V.ref)) → xs.length ≤ 10 → GosAt H' xs gs → (∀ g ∈ gs, ∃ h, Goes rows W.rin s tm h g.1 g.2.1 g.2.2) → (∀ h c s' e, Goes rows W.rin s tm h c s' e → (c, s', e) ∈ gs) → Q (.ref l) H'
theorem sc_goings : FnScope ["works", "cloths", "row", "found", "counts", "last", "time", "hue", "rest", "cloth", "end"] ["works", "cloths", "row"] (defScope sgoings) := ⟨rfl, rfl, rfl, by decide +kernel, rfl, by decide +kernel, by decide +kernel⟩
theorem c_goings (B : Bn mg) (MW_rinse : Me P w G.K mg base k G.CW "rinse" (spW_rinse G)) (F : Gd G.K mg "goings" sgoings) : Ca P w G.K mg base (k + 1) "goings" (sp_goings G) :=
  ca_0 F sc_goings (fun _ _ _ _ _ _ us hl => match us, hl with | [_, _, _], _ => rfl) (fun vs H Q E h => by obtain ⟨_, _, _, _, _, _, _, _, rfl, _⟩ := h; rfl)
  fun f cdv A outer s H vs Q E hr h => ⟨_, /- slots: 0 works, 1 cloths, 2 row, 3 found, 4 counts, 5 last, 6 time, 7 hue, 8 rest, 9 cloth, 10 end -/ (pss_cons (ps_asg (pv 2) (pg_tup rfl (pgs_cons (pg_name (i := 4) sc_goings.nd rfl (Or.inl rfl)) (pgs_cons (pg_name (i := 5) sc_goings.nd rfl (Or.inl rfl)) (pgs_cons (pg_name (i := 6) sc_goings.nd rfl (Or.inl rfl)) pgs_nil)))))
      (pss_cons (ps_set (i := 3) sc_goings.nd rfl (Or.inl rfl) (pe_lst pa_nil))
      (pss_cons (ps_for PassesOwn.never rfl (pi_enum (by rfl) B.enumerate (pa_cons (pv 1) pa_nil)) (pg_tup rfl (pgs_cons (pg_name (i := 7) sc_goings.nd rfl (Or.inl rfl)) (pgs_cons (pg_name (i := 8) sc_goings.nd rfl (Or.inl rfl)) pgs_nil))) (pss_one (ps_if (pt_cmpR op_lt (pe_ix ix_tup (pv 4) (pv 7) (fun _ _ => rfl)) (pe_callB call_len_seq (by rfl) B.len PySem.boot_len (pa_cons (pv 8) pa_nil)) (nomark _)) (pss_cons (ps_set (i := 9) sc_goings.nd rfl (Or.inl rfl) (pe_ix ix_list (pv 8) (pe_ix ix_tup (pv 4) (pv 7) (fun _ _ => rfl)) (fun _ _ => rfl)))
      (pss_cons (ps_set (i := 10) sc_goings.nd rfl (Or.inl rfl) (pe_op op_add (pe_op op_add (pv 6) (pe_me MW_rinse hr (pv 0) (pa_cons (pv 5) (pa_cons (pv 7) pa_nil)))) (pe_ix ix_tup (pv 9) pe_int (fun _ _ => rfl))))
      (pss_one (ps_expr (pe_bm PySem.F.plainAttrs_list PySem.F.slot_list_append PySem.F.type_list_append mt_append (pv 3) (pa_cons (pe_tup (pa_cons (pv 9) (pa_cons (pe_tup (pa_cons (pe_op op_catA (pe_op op_catA (pe_slice sl_tupA (pv 4) po_none (po_some (pv 7))) (pe_tup (pa_cons (pe_op op_add (pe_ix ix_tup (pv 4) (pv 7) (fun _ _ => rfl)) pe_int) pa_nil))) (pe_slice sl_tupA (pv 4) (po_some (pe_op op_add (pv 7) pe_int)) po_none)) (pa_cons (pv 7) (pa_cons (pv 10) pa_nil)))) pa_nil))) pa_nil)))))) pss_nil)))
      (pss_one (ps_ret (pv 3)))))), by
    obtain ⟨p, a, t, b, W, rows, st, tm, rfl, hW, hR, hrn, hr10, ht, hb, hcn, l0, l1, q⟩ := h
    obtain ⟨dx, ls0, ts0, d, cs, O⟩ := hW.open_
    have ok := hW.ok
    have n4 := ok.n4
    obtain ⟨ls, hls, hlr, hcon⟩ := hR.ex
    dsimp only [tSeq, tRet, tRetN, tIfS, tAsg, tDrop, tNext, tNever, tVar, tC, tCons, tNil, tCB, tOp, tTest, tB, tAnd, tOr, tNot, tAndV, tOrV, tNotV, tChain, tTup, tLst, tFld, sFld, tCall, tMeth, tMake, tDGet, tDIn, tDNotIn, sDPut, tDNewK, tSl, tPart, tNoPart, gTup, gCons, gNil, gSub, tBM, tUn]
    refine ⟨_, rfl, t, _, rfl, Or.inl (Or.inl ht), rfl, _, _, rfl, _, _, rfl, _, _, rfl, rfl, ?_⟩
    refine ⟨Nat.zero_le _, fun D hD => ?_⟩
    have hz : (ls.map V.ref).length = W.n := by rw [List.length_map, hlr, hrn]
    have e0 := same_new (o := HO.lst []) hD
    refine ⟨_, rfl, a, _, rfl, Or.inl (Or.inl (e0 _ _ hls)), ?_⟩
    refine for_it (walk_enum (xs := ls.map V.ref)) (fun i σ' H' => (∃ y7 y8 y9 y10, σ' = [some (.ref p), some (.ref a), some (.ref t), some (.ref D), some (.ref b), some (.int st.2), some (.int tm), y7, y8, y9, y10]) ∧ Same H H' ∧ ∃ (xs : List Addr) (gs : List (Cloth × Stt × Int)), H' D = some (.lst (xs.map V.ref)) ∧ xs.length ≤ i ∧ GosAt H' xs gs ∧ (∀ g ∈ gs, ∃ h, Goes rows W.rin st tm h g.1 g.2.1 g.2.2) ∧ (∀ h c s' e, h < i → Goes rows W.rin st tm h c s' e → (c, s', e) ∈ gs))
      ⟨⟨_, _, _, _, rfl⟩, e0, [], [], upd_same, Nat.le_refl _, ⟨rfl, fun _ _ _ z => (nomatch z)⟩, fun _ m => (nomatch m), fun _ _ _ _ z => absurd z (Nat.not_lt_zero _)⟩ (fun i σ' H' _ z => Or.inl (Or.inl (z.2.1 _ _ hls))) ?_ ?_
    · rintro i x _ H1 H2 hi ⟨⟨y7, y8, y9, y10, rfl⟩, e1, xs, gs, hxs, lxs, hG, hs, hcpl⟩ ⟨T, u, v, rfl, hT, rfl, hu, hv⟩
      have hi' : i < W.n := by rw [← hz]; exact hi
      obtain rfl : u = .int (i : Nat) := (Option.some.inj hu).symm
      have hv' : (ls.map V.ref)[i]? = some v := hv
      rw [List.getElem?_map] at hv'
      obtain ⟨l, hl, rfl⟩ := Option.map_eq_some_iff.mp hv'
      have gm : st.1[i]? = some (st.1[i]'(by omega)) := List.getElem?_eq_getElem _
      have gr : rows[i]? = some (rows[i]'(by omega)) := List.getElem?_eq_getElem _
      have r10 := hr10 _ (List.getElem_mem (l := rows) (n := i) (by omega))
      generalize st.1[i]'(by omega) = m at gm
      generalize rows[i]'(by omega) = row at gr r10
      obtain ⟨ts, hts, hU⟩ := hcon i l row hl gr
      have e12 : Same H1 (upd H1 T (.tup [.int (i : Nat), .ref l])) := same_new hT
      have e02 := Evl.Ex.trans e1 e12
      have lts : ts.length = row.length := by have := hU.ln; rw [List.length_map] at this; exact this
      have hcnt : (st.1.map fun m => V.int (m : Nat))[i]? = some (.int m) := by rw [List.getElem?_map, gm]; rfl
      have hcl : (st.1.map fun m => V.int (m : Nat)).length = W.n := by rw [List.length_map, hcn]
      have hD2 := e12 _ _ hxs
      have keepN : ∀ {σ' : L2.St}, (∃ y7 y8 y9 y10, σ' = [some (.ref p), some (.ref a), some (.ref t), some (.ref D), some (.ref b), some (.int st.2), some (.int tm), y7, y8, y9, y10]) → ¬ m < row.length → (∃ y7 y8 y9 y10, σ' = [some (.ref p), some (.ref a), some (.ref t), some (.ref D), some (.ref b), some (.int st.2), some (.int tm), y7, y8, y9, y10]) ∧ Same H (upd H1 T (.tup [.int (i : Nat), .ref l])) ∧ ∃ (xs : List Addr) (gs : List (Cloth × Stt × Int)), (upd H1 T (.tup [.int (i : Nat), .ref l])) D = some (.lst (xs.map V.ref)) ∧ xs.length ≤ i + 1 ∧ GosAt (upd H1 T (.tup [.int (i : Nat), .ref l])) xs gs ∧ (∀ g ∈ gs, ∃ h, Goes rows W.rin st tm h g.1 g.2.1 g.2.2) ∧ (∀ h c s' e, h < i + 1 → Goes rows W.rin st tm h c s' e → (c, s', e) ∈ gs) := fun hσ nlt =>
        ⟨hσ, e02, xs, gs, hD2, by omega, ⟨hG.ln, fun j x g a1 a2 => (hG.at_ j x g a1 a2).same e12⟩, hs, fun h c s' e hh g => by
          by_cases hhi : h < i
          · exact hcpl h c s' e hhi g
          · obtain rfl : h = i := by omega
            obtain ⟨row', m', g1, g2, g3, _⟩ := g
            rw [gr] at g1
            rw [gm] at g2
            cases g1
            cases g2
            exact absurd (List.getElem?_eq_some_iff.mp g3).1 nlt⟩
      refine ⟨T, _, rfl, Or.inl (Or.inl upd_same), rfl, _, _, rfl, _, _, rfl, rfl, ?_⟩
      refine ⟨_, rfl, _, rfl, b, _, (i : Nat), .int m, rfl, rfl, Or.inl (Or.inl (e02 _ _ hb)), atI_nat hcnt, _, rfl, l, _, rfl, Or.inl (Or.inl (Or.inl (e02 _ _ hts))), _, _, rfl, rfl, ?_⟩
      rw [List.length_map, lts]
      by_cases hm : m < row.length
      · have gts : ts[m]? = some (ts[m]'(by omega)) := List.getElem?_eq_getElem _
        have gc : row[m]? = some row[m] := List.getElem?_eq_getElem hm
        generalize ts[m]'(by omega) = tc at gts
        generalize row[m] = c at gc
        have htc := hU.at_ m tc (clV c) gts (by rw [List.getElem?_map, gc]; rfl)
        have hW2 := hW.same e02
        refine ⟨true, congrArg V.bl (decide_eq_true (show ((m : Nat) : Int) < (row.length : Nat) by omega)), ?_⟩
        refine ⟨_, rfl, _, rfl, _, rfl, b, _, (i : Nat), .int m, rfl, rfl, Or.inl (Or.inl (e02 _ _ hb)), atI_nat hcnt, l, _, (m : Nat), _, rfl, rfl, Or.inl (Or.inl (e02 _ _ hts)), atI_nat (by rw [List.getElem?_map, gts]; rfl), ?_⟩
        refine ⟨_, rfl, _, rfl, p, dx, _, rfl, e02 _ _ O.at_, wf_no (by decide +kernel), _, rfl, _, rfl, p, W, st.2, i, rfl, hW2, l0, l1, hi', _, _, rfl, rfl, ?_⟩
        refine ⟨_, rfl, tc, _, 2, _, rfl, rfl, Or.inl (Or.inl (e02 _ _ htc)), rfl, _, _, rfl, rfl, ?_⟩
        refine ⟨_, rfl, Or.inl ⟨rfl, _, Or.inl (Or.inl hD2)⟩, _, rfl, _, rfl, _, rfl, i, rfl, ?_⟩
        refine sl_any (e02 _ _ hb) fun p1 H3 e3 h3 => ?_
        rw [cut_take (by rw [hcl]; omega)] at h3
        have e03 := Evl.Ex.trans e02 e3
        refine ⟨_, rfl, _, rfl, b, _, (i : Nat), .int m, rfl, rfl, Or.inl (Or.inl (e03 _ _ hb)), atI_nat hcnt, _, _, rfl, rfl, (show 1 ≤ sizeLine by decide), fun p2 hp2 => ?_⟩
        have e4 := same_new (o := HO.tup [V.int ((m : Nat) + 1)]) hp2
        refine cat_any (e4 _ _ h3) upd_same (by rw [List.length_take]; show _ + 1 ≤ 100000; omega) fun p3 H5 e5 h5 => ?_
        have e05 := Evl.Ex.trans (Evl.Ex.trans e03 e4) e5
        refine ⟨_, rfl, _, rfl, _, _, rfl, rfl, ((i + 1 : Nat) : Int), rfl, ?_⟩
        dsimp only [tNoPart]
        refine sl_any (e05 _ _ hb) fun p6 H6 e6 h6 => ?_
        rw [cut_drop (by rw [hcl]; omega)] at h6
        refine cat_any (e6 _ _ h5) h6 (by rw [List.length_append, List.length_take, List.length_drop]; show _ + 1 + _ ≤ 100000; omega) fun p7 H7 e7 h7 => ?_
        have hset : (st.1.map fun m => V.int (m : Nat)).take i ++ [V.int ((m : Nat) + 1)] ++ (st.1.map fun m => V.int (m : Nat)).drop (i + 1) = (st.1.set i (m + 1)).map fun m => V.int (m : Nat) := by
          rw [List.map_set, set_parts (by rw [hcl]; exact hi')]
          rfl
        rw [hset] at h7
        refine ⟨_, rfl, _, rfl, (show 3 ≤ sizeLine by decide), fun p8 hp8 => ⟨(show 2 ≤ sizeLine by decide), fun p9 hp9 => ?_⟩⟩
        have e8 := same_new (o := HO.tup [V.ref p7, V.int (i : Nat), V.int (tm + W.rin st.2 i + c.len)]) hp8
        have e9 := same_new (o := HO.tup [V.ref tc, V.ref p8]) hp9
        have e79 := Evl.Ex.trans e8 e9
        have e09 := Evl.Ex.trans (Evl.Ex.trans (Evl.Ex.trans e05 e6) e7) e79
        have e29 : Same (upd H1 T (.tup [.int (i : Nat), .ref l])) (upd (upd H7 p8 (.tup [V.ref p7, V.int (i : Nat), V.int (tm + W.rin st.2 i + c.len)])) p9 (.tup [V.ref tc, V.ref p8])) := Evl.Ex.trans (Evl.Ex.trans (Evl.Ex.trans (Evl.Ex.trans (Evl.Ex.trans e3 e4) e5) e6) e7) e79
        have hD9 := e29 _ _ hD2
        have go9 : GoAt (upd (upd H7 p8 (.tup [V.ref p7, V.int (i : Nat), V.int (tm + W.rin st.2 i + c.len)])) p9 (.tup [V.ref tc, V.ref p8])) p9 c (st.1.set i (m + 1), (i : Int)) (tm + W.rin st.2 i + c.len) :=
          ⟨tc, p8, p7, upd_same, e09 _ _ htc, e9 _ _ upd_same, e79 _ _ h7⟩
        refine ⟨D, _, _, rfl, rfl, hD9, by rw [List.length_map]; exact small16' (by omega), ⟨_, _, _, _, rfl⟩, same_mut (Evl.Ex.trans e09 (Evl.Ex.refl _)) hD, xs ++ [p9], gs ++ [(c, (st.1.set i (m + 1), (i : Int)), tm + W.rin st.2 i + c.len)], by rw [upd_same, refs_snoc], by rw [List.length_append]; show xs.length + 1 ≤ i + 1; omega, ⟨by rw [List.length_append, List.length_append, hG.ln]; rfl, fun j x g a1 a2 => ?_⟩, fun g hg => ?_, fun h c' s' e hh g => ?_⟩
        · rcases snoc_get a1 with b1 | ⟨b1, b1'⟩
          · rcases snoc_get a2 with b2 | ⟨b2, b2'⟩
            · exact ((hG.at_ j x g b1 b2).same (Evl.Ex.trans e12 e29)).mutL hD9
            · have := (List.getElem?_eq_some_iff.mp b1).1
              have := hG.ln
              omega
          · rcases snoc_get a2 with b2 | ⟨b2, b2'⟩
            · have := (List.getElem?_eq_some_iff.mp b2).1
              have := hG.ln
              omega
            · rw [b1', b2']
              exact go9.mutL hD9
        · rcases List.mem_append.mp hg with hg | hg
          · exact hs g hg
          · rw [List.mem_singleton] at hg
            rw [hg]
            exact ⟨i, row, m, gr, gm, gc, rfl, rfl⟩
        · by_cases hhi : h < i
          · exact List.mem_append_left _ (hcpl h c' s' e hhi g)
          · obtain rfl : h = i := by omega
            obtain ⟨row', m', g1, g2, g3, g4, g5⟩ := g
            rw [gr] at g1
            rw [gm] at g2
            cases g1
            cases g2
            rw [gc] at g3
            cases g3
            rw [g4, g5]
            exact List.mem_append_right _ (List.mem_singleton.mpr rfl)
      · exact ⟨false, congrArg V.bl (decide_eq_false (show ¬ ((m : Nat) : Int) < (row.length : Nat) by omega)), keepN ⟨_, _, _, _, rfl⟩ hm⟩
    · rintro _ H1 ⟨⟨y7, y8, y9, y10, rfl⟩, e1, xs, gs, hxs, lxs, hG, hs, hcpl⟩
      rw [hz] at lxs
      exact ⟨_, rfl, q H1 D xs gs e1 hxs (by omega) hG hs fun h c s' e g => hcpl h c s' e (by
        obtain ⟨row, m, g1, _⟩ := g
        have := (List.getElem?_eq_some_iff.mp g1).1
        rw [hz, ← hrn]
        exact this) g⟩⟩
end Rw82
/-! The search: what stays true, in plain words. -/
open PySem
namespace Rw82
def updS {β : Type} (T : Stt → Option β) (s : Stt) (x : β) : Stt → Option β := fun y => if y = s then some x else T y
theorem updS_eq {β : Type} {T : Stt → Option β} {s : Stt} {x : β} : updS T s x s = some x := if_pos rfl
theorem updS_ne {β : Type} {T : Stt → Option β} {s y : Stt} {x : β} (h : y ≠ s) : updS T s x y = T y := if_neg h
abbrev Pro := Stt → Cloth → Stt → Int → Prop
structure SI (rows : List (List Cloth)) (r : Int → Nat → Int) (b : Option Int) (n : Nat) (s0 : Stt) (t0 : Int) (T : Stt → Option Int) (A : Stt → Option (Stt × Str)) (m : Nat) (Pr : Pro) : Prop where
  start : T s0 = some t0
  noA : A s0 = none
  back : ∀ s t, T s = some t → s ≠ s0 → ∃ p tp h c, A s = some (p, c.name) ∧ T p = some tp ∧ Goes rows r p tp h c s t ∧ okB b (t - c.due)
  clos : ∀ s t, T s = some t → ∀ h c s' e, Goes rows r s t h c s' e → okB b (e - c.due) → Pr s c s' e → ∃ t', T s' = some t' ∧ t' ≤ e
  wf : ∀ s t, T s = some t → Cnt rows s.1 ∧ s.1.sum ≤ m ∧ -1 ≤ s.2 ∧ s.2 < n
  dom : ∀ s x, A s = some x → ∃ t, T s = some t
section
variable {rows : List (List Cloth)} {r : Int → Nat → Int} {b : Option Int} {n : Nat} {s0 : Stt} {t0 : Int} {T : Stt → Option Int} {A : Stt → Option (Stt × Str)} {m k : Nat} {Pr Pr' : Pro}
theorem SI.weak {m' : Nat} (x : SI rows r b n s0 t0 T A m Pr) (hm : m ≤ m') (h : ∀ s t h c s' e, T s = some t → Goes rows r s t h c s' e → Pr' s c s' e → Pr s c s' e) : SI rows r b n s0 t0 T A m' Pr' :=
  ⟨x.start, x.noA, x.back, fun s t hs hh c s' e g o p => x.clos s t hs hh c s' e g o (h s t hh c s' e hs g p), fun s t hs => by
    obtain ⟨a1, a2, a3, a4⟩ := x.wf s t hs
    exact ⟨a1, by omega, a3, a4⟩, x.dom⟩
theorem SI.set (x : SI rows r b n s0 t0 T A (k + 1) Pr) (hn : rows.length = n) (hz : s0.1.sum = 0) (hp : ∀ s c s' e, Pr s c s' e → s.1.sum ≤ k) {s s' : Stt} {t e : Int} {h : Nat} {c : Cloth} (hs : T s = some t) (hk : s.1.sum = k) (g : Goes rows r s t h c s' e) (o : okB b (e - c.due)) (hle : ∀ t', T s' = some t' → e ≤ t') :
    SI rows r b n s0 t0 (updS T s' e) (updS A s' (s, c.name)) (k + 1) (fun s1 c1 s2 e2 => Pr s1 c1 s2 e2 ∨ (s1 = s ∧ c1 = c ∧ s2 = s' ∧ e2 = e)) := by
  have sum' : s'.1.sum = k + 1 := by rw [g.sum, hk]
  have n0 : s' ≠ s0 := fun z => by rw [z, hz] at sum'; omega
  have ns : s ≠ s' := fun z => by rw [← z, hk] at sum'; omega
  refine ⟨by rw [updS_ne n0.symm]; exact x.start, by rw [updS_ne n0.symm]; exact x.noA, fun y ty hy hy0 => ?_, fun y ty hy h1 c1 s1 e1 g1 o1 p1 => ?_, fun y ty hy => ?_, fun y z hy => ?_⟩
  · by_cases e1 : y = s'
    · subst e1
      rw [updS_eq] at hy
      cases hy
      exact ⟨s, t, h, c, updS_eq, by rw [updS_ne ns]; exact hs, g, o⟩
    · rw [updS_ne e1] at hy
      obtain ⟨p, tp, h2, c2, a1, a2, a3, a4⟩ := x.back y ty hy hy0
      have np : p ≠ s' := fun z => by
        have := a3.sum
        have := (x.wf y ty hy).2.1
        rw [z] at *
        omega
      exact ⟨p, tp, h2, c2, by rw [updS_ne e1]; exact a1, by rw [updS_ne np]; exact a2, a3, a4⟩
  · by_cases e2 : y = s'
    · subst e2
      rcases p1 with p1 | ⟨p1, _⟩
      · have := hp _ _ _ _ p1
        omega
      · exact absurd p1.symm ns
    · rw [updS_ne e2] at hy
      rcases p1 with p1 | ⟨rfl, rfl, rfl, rfl⟩
      · obtain ⟨t', a1, a2⟩ := x.clos y ty hy h1 c1 s1 e1 g1 o1 p1
        by_cases e3 : s1 = s'
        · subst e3
          exact ⟨e, updS_eq, by have := hle t' a1; omega⟩
        · exact ⟨t', by rw [updS_ne e3]; exact a1, a2⟩
      · exact ⟨_, updS_eq, Int.le_refl _⟩
  · by_cases e2 : y = s'
    · subst e2
      obtain ⟨a1, a2, a3, a4⟩ := x.wf s t hs
      refine ⟨g.cnt a1, by omega, ?_⟩
      obtain ⟨row, mm, g1, g2, g3, rfl, _⟩ := g
      have := (List.getElem?_eq_some_iff.mp g1).1
      exact ⟨show (-1 : Int) ≤ (h : Nat) by omega, show ((h : Nat) : Int) < n by omega⟩
    · rw [updS_ne e2] at hy
      exact x.wf y ty hy
  · by_cases e2 : y = s'
    · subst e2
      exact ⟨e, updS_eq⟩
    · rw [updS_ne e2] at hy
      obtain ⟨ty, h2⟩ := x.dom y z hy
      exact ⟨ty, by rw [updS_ne e2]; exact h2⟩
theorem SI.skip (x : SI rows r b n s0 t0 T A (k + 1) Pr) {s s' : Stt} {e : Int} {c : Cloth} (hno : okB b (e - c.due) → ∃ t', T s' = some t' ∧ t' ≤ e) :
    SI rows r b n s0 t0 T A (k + 1) (fun s1 c1 s2 e2 => Pr s1 c1 s2 e2 ∨ (s1 = s ∧ c1 = c ∧ s2 = s' ∧ e2 = e)) :=
  ⟨x.start, x.noA, x.back, fun y ty hy h1 c1 s1 e1 g1 o1 p1 => by
    rcases p1 with p1 | ⟨rfl, rfl, rfl, rfl⟩
    · exact x.clos y ty hy h1 c1 s1 e1 g1 o1 p1
    · exact hno o1, x.wf, x.dom⟩
theorem SI.srch (x : SI rows r b n s0 t0 T A k (fun s _ _ _ => s.1.sum < k)) (h : ∀ s t, T s = some t → s.1.sum ≠ k) : Srch rows r b s0 t0 T A :=
  ⟨x.start, x.noA, x.back, fun s t hs hh c s' e g o => x.clos s t hs hh c s' e g o (by have := (x.wf s t hs).2.1; have := h s t hs; omega), fun s t hs => (x.wf s t hs).1, x.dom⟩
theorem SI.init (hw : Cnt rows s0.1) (hz : s0.1.sum = 0) (h0 : -1 ≤ s0.2) (h1 : s0.2 < n) : SI rows r b n s0 t0 (updS (fun _ => none) s0 t0) (fun _ => none) 0 (fun s _ _ _ => s.1.sum < 0) := by
  refine ⟨updS_eq, rfl, fun s t hs hn => ?_, fun s t hs hh c s' e g o p => absurd p (Nat.not_lt_zero _), fun s t hs => ?_, fun s x h => nomatch h⟩
  · rw [updS_ne hn] at hs
    cases hs
  · by_cases e : s = s0
    · subst e
      exact ⟨hw, by omega, h0, h1⟩
    · rw [updS_ne e] at hs
      cases hs
end
/-- few states there are -/
def encS : List Nat → Nat
  | [] => 0
  | m :: l => m + 11 * encS l
theorem encS_inj : ∀ {l l' : List Nat}, l.length = l'.length → (∀ m ∈ l, m ≤ 10) → (∀ m ∈ l', m ≤ 10) → encS l = encS l' → l = l'
  | [], [], _, _, _, _ => rfl
  | [], _ :: _, h, _, _, _ => nomatch h
  | _ :: _, [], h, _, _, _ => nomatch h
  | m :: l, m' :: l', h, h1, h2, e => by
    have a1 := h1 m (List.mem_cons_self ..)
    have a2 := h2 m' (List.mem_cons_self ..)
    have e' : m + 11 * encS l = m' + 11 * encS l' := e
    have b1 : m = m' := by omega
    have b2 : encS l = encS l' := by omega
    rw [b1, encS_inj (Nat.succ.inj h) (fun x hx => h1 x (List.mem_cons_of_mem _ hx)) (fun x hx => h2 x (List.mem_cons_of_mem _ hx)) b2]
theorem encS_lt : ∀ {l : List Nat}, (∀ m ∈ l, m ≤ 10) → encS l < 11 ^ l.length
  | [], _ => by decide
  | m :: l, h => by
    have a1 := h m (List.mem_cons_self ..)
    have a2 := encS_lt fun x hx => h x (List.mem_cons_of_mem _ hx)
    show m + 11 * encS l < 11 ^ (l.length + 1)
    rw [Nat.pow_succ]
    omega
theorem few_states {ss : List Stt} {n : Nat} (hn : n ≤ 4) (nd : ss.Nodup) (h : ∀ s ∈ ss, s.1.length = n ∧ (∀ m ∈ s.1, m ≤ 10) ∧ -1 ≤ s.2 ∧ s.2 < n) : ss.length ≤ 73205 := by
  have hm : (ss.map fun s => (s.2 + 1).toNat + 5 * encS s.1).Nodup := by
    refine List.pairwise_map.mpr (List.Pairwise.imp_of_mem (fun {a b} ha hb ne e => ne ?_) nd)
    obtain ⟨a1, a2, a3, a4⟩ := h a ha
    obtain ⟨b1, b2, b3, b4⟩ := h b hb
    have c1 : a.2 = b.2 := by omega
    have c2 : encS a.1 = encS b.1 := by omega
    exact Prod.ext (encS_inj (by rw [a1, b1]) a2 b2 c2) c1
  have l := nd_sub hm (zs := List.range 73205) fun y hy => by
    obtain ⟨s, hs, rfl⟩ := List.mem_map.mp hy
    obtain ⟨a1, a2, a3, a4⟩ := h s hs
    have b1 := encS_lt a2
    rw [a1] at b1
    have b2 : 11 ^ n ≤ 11 ^ 4 := Nat.pow_le_pow_right (by decide) hn
    rw [List.mem_range]
    have b3 : (11 : Nat) ^ 4 = 14641 := by decide
    omega
  rw [List.length_map, List.length_range] at l
  exact l
end Rw82
/-! Dicts of states, told by maps. -/
namespace Rw82
open PySem PySem.Spec PyProof.Rows L2
variable {P : Program} {w : World} {G : Ad}
/-- all but dicts of states stays -/
def Kn (H H' : Hp) : Prop := ∀ b o, H b = some o → (∀ z, o ≠ .ext z) → H' b = some o
section
variable {H H' H'' : Hp} {a d d' : Addr} {s : Stt} {xs ys : XS} {ep ep' : Nat}
theorem Kn.of (e : Same H H') : Kn H H' := fun b o h _ => e b o h
theorem Kn.refl (H : Hp) : Kn H H := fun _ _ h _ => h
theorem Kn.trans (e : Kn H H') (e' : Kn H' H'') : Kn H H'' := fun b o h n => e' b o (e b o h n) n
theorem Kn.put {o : HO} (h : H d = some (NdO P w d xs ep)) : Kn H (upd H d o) := fun b o' hb n => by
  rw [upd_ne (fun z => by
    rw [z, h] at hb
    exact n _ (Option.some.inj hb).symm)]
  exact hb
theorem Kn.tup (e : Kn H H') {zs : List V} (h : H a = some (.tup zs)) : H' a = some (.tup zs) := e _ _ h fun _ z => nomatch z
theorem Kn.lst (e : Kn H H') {zs : List V} (h : H a = some (.lst zs)) : H' a = some (.lst zs) := e _ _ h fun _ z => nomatch z
theorem KeyAt.kn (x : KeyAt H a s) (e : Kn H H') : KeyAt H' a s := by
  obtain ⟨b, h1, h2⟩ := x
  exact ⟨b, Kn.tup e h1, Kn.tup e h2⟩
theorem GoAt.kn {c : Cloth} {t : Int} (g : GoAt H a c s t) (e : Kn H H') : GoAt H' a c s t := by
  obtain ⟨tc, u, b, h1, h2, h3, h4⟩ := g
  exact ⟨tc, u, b, Kn.tup e h1, Kn.tup e h2, Kn.tup e h3, Kn.tup e h4⟩
theorem NdAt.kn (x : NdAt P w H d xs ep) (e : Kn H H') (h : H' d = some (NdO P w d xs ep)) : NdAt P w H' d xs ep := ⟨h, fun y hy => (x.keys y hy).kn e⟩
theorem NdAt.same (x : NdAt P w H d xs ep) (e : Same H H') : NdAt P w H' d xs ep := x.kn (Kn.of e) (e _ _ x.at_)
theorem NdAt.other (x : NdAt P w H d xs ep) (h : NdAt P w H d' ys ep') (n : d ≠ d') {o : HO} : NdAt P w (upd H d' o) d xs ep := x.kn (Kn.put h.at_) (by rw [upd_ne n]; exact x.at_)
theorem mem_putS {v : V} {y : Stt × Addr × V} (h : y ∈ putS xs s a v) : (∃ z ∈ xs, z.1 = y.1 ∧ z.2.1 = y.2.1) ∨ (y.1 = s ∧ y.2.1 = a) := by
  unfold putS at h
  split at h
  · obtain ⟨z, hz, e⟩ := List.mem_map.mp h
    refine Or.inl ⟨z, hz, ?_⟩
    split at e <;> rw [← e] <;> exact ⟨rfl, rfl⟩
  · rcases List.mem_append.mp h with h | h
    · exact Or.inl ⟨y, h, rfl, rfl⟩
    · rw [List.mem_singleton] at h
      rw [h]
      exact Or.inr ⟨rfl, rfl⟩
theorem NdAt.put (x : NdAt P w H d xs ep) (k : KeyAt H a s) {v : V} : NdAt P w (upd H d (NdO P w d (putS xs s a v) ep')) d (putS xs s a v) ep' := by
  refine ⟨upd_same, fun y hy => ?_⟩
  rcases mem_putS hy with ⟨z, hz, e1, e2⟩ | ⟨e1, e2⟩
  · rw [← e1, ← e2]
    exact (x.keys z hz).kn (Kn.put x.at_)
  · rw [e1, e2]
    exact k.kn (Kn.put x.at_)
theorem valS_mem : (valS xs s).isSome = true ↔ s ∈ xs.map (·.1) := by
  unfold valS
  rw [Option.isSome_map, List.find?_isSome]
  constructor
  · rintro ⟨x, hx, e⟩
    exact List.mem_map.mpr ⟨x, hx, of_decide_eq_true e⟩
  · intro h
    obtain ⟨x, hx, e⟩ := List.mem_map.mp h
    exact ⟨x, hx, decide_eq_true e⟩
/-- a dict's pairs tell a map -/
structure KS (xs : XS) (f : Stt → Option V) : Prop where
  nd : (xs.map (·.1)).Nodup
  val : ∀ s, valS xs s = f s
theorem KS.put {f : Stt → Option V} (k : KS xs f) (s : Stt) (a : Addr) (v : V) : KS (putS xs s a v) (updS f s v) := by
  refine ⟨?_, fun t => ?_⟩
  · unfold putS
    split
    · rw [List.map_map]
      have e : ((fun x : Stt × Addr × V => x.1) ∘ fun x => if x.1 = s then (x.1, x.2.1, v) else x) = fun x => x.1 := by
        funext x
        show (if x.1 = s then (x.1, x.2.1, v) else x).1 = x.1
        split <;> rfl
      rw [e]
      exact k.nd
    · rename_i h
      rw [List.map_append]
      refine List.nodup_append.mpr ⟨k.nd, List.nodup_cons.mpr ⟨List.not_mem_nil, List.nodup_nil⟩, fun x hx y hy e => ?_⟩
      have hy' : y = s := List.mem_singleton.mp hy
      rw [e, hy'] at hx
      exact h (valS_mem.mpr hx)
  · rw [valS_put]
    unfold updS
    rw [k.val]
theorem KS.nil : KS [] fun _ => none := ⟨List.nodup_nil, fun _ => rfl⟩
theorem KS.mem {f : Stt → Option V} (k : KS xs f) {x : Stt × Addr × V} (h : x ∈ xs) : f x.1 = some x.2.2 := by
  rw [← k.val]
  have nd := k.nd
  clear k
  induction xs with
  | nil => cases h
  | cons y ys ih =>
    rw [List.map_cons, List.nodup_cons] at nd
    rcases List.mem_cons.mp h with rfl | h
    · exact valS_cons_eq
    · rw [valS_cons_ne (fun z => nd.1 (by rw [z]; exact List.mem_map.mpr ⟨x, h, rfl⟩))]
      exact ih h nd.2
theorem KS.known {f : Stt → Option V} (k : KS xs f) {s : Stt} {v : V} (h : f s = some v) : ∃ x ∈ xs, x.1 = s := by
  obtain ⟨x, hx, e⟩ := List.mem_map.mp (valS_mem.mp (by rw [k.val, h]; rfl))
  exact ⟨x, hx, e⟩
theorem KS.few {f : Stt → Option V} (k : KS xs f) {n : Nat} (hn : n ≤ 4) (h : ∀ s v, f s = some v → s.1.length = n ∧ (∀ m ∈ s.1, m ≤ 10) ∧ -1 ≤ s.2 ∧ s.2 < n) : xs.length ≤ 73205 := by
  have := few_states hn k.nd fun s hs => by
    obtain ⟨x, hx, rfl⟩ := List.mem_map.mp hs
    exact h _ _ (k.mem hx)
  rw [List.length_map] at this
  exact this
/-- the times -/
abbrev TT (xs : XS) (T : Stt → Option Int) : Prop := KS xs fun s => (T s).map V.int
theorem TT.put {T : Stt → Option Int} (k : TT xs T) (s : Stt) (a : Addr) (e : Int) : TT (putS xs s a (.int e)) (updS T s e) := by
  have h := KS.put k s a (.int e)
  refine ⟨h.nd, fun y => (h.val y).trans ?_⟩
  unfold updS
  split <;> rfl
/-- the states ahead -/
structure AT (H : Hp) (xs : XS) (A : Stt → Option (Stt × Str)) : Prop where
  nd : (xs.map (·.1)).Nodup
  val : ∀ s, match A s with
    | none => valS xs s = none
    | some (p, z) => ∃ u a, valS xs s = some (.ref u) ∧ H u = some (.tup [.ref a, .str z]) ∧ KeyAt H a p
theorem AT.kn {A : Stt → Option (Stt × Str)} (k : AT H xs A) (e : Kn H H') : AT H' xs A := ⟨k.nd, fun s => by
  have h := k.val s
  cases hA : A s with
  | none => rw [hA] at h; exact h
  | some x =>
    rw [hA] at h
    obtain ⟨u, a, h1, h2, h3⟩ := h
    exact ⟨u, a, h1, Kn.tup e h2, h3.kn e⟩⟩
theorem AT.nil : AT H [] fun _ => none := ⟨List.nodup_nil, fun _ => rfl⟩
theorem AT.put {A : Stt → Option (Stt × Str)} (k : AT H xs A) {s p : Stt} {z : Str} {a b u : Addr} (hu : H u = some (.tup [.ref b, .str z])) (hb : KeyAt H b p) : AT H (putS xs s a (.ref u)) (updS A s (p, z)) := by
  have h : KS (putS xs s a (.ref u)) (updS (fun s => valS xs s) s (.ref u)) := KS.put ⟨k.nd, fun _ => rfl⟩ s a (.ref u)
  refine ⟨h.nd, fun y => ?_⟩
  rw [h.val]
  unfold updS
  by_cases e : y = s
  · rw [if_pos e, if_pos e]
    exact ⟨u, b, rfl, hu, hb⟩
  · rw [if_neg e, if_neg e]
    exact k.val y
end
end Rw82
/-! searched. -/
namespace Rw82
open PySem PySem.Spec PyProof.Rows L2
variable {P : Program} {w : World} {mg : Str → Option Value} {base : Heap} {k : Nat} {G : Ad}
theorem cx_p {CX : CXT} {P : Program} {w : World} {K : PySem.W.Frag} {mg : Str → Option Value} {base : Heap} {N : List Str} {qual : Str} {scope : Scope} {f : Addr} {cd : Value} {A : Around} {outer : List Env} {s : Shared} {H : Hp} {E : XK} : (cxOf CX P w K mg base N qual scope f cd A outer s H E).prog = P := rfl
theorem cx_w {CX : CXT} {P : Program} {w : World} {K : PySem.W.Frag} {mg : Str → Option Value} {base : Heap} {N : List Str} {qual : Str} {scope : Scope} {f : Addr} {cd : Value} {A : Around} {outer : List Env} {s : Shared} {H : Hp} {E : XK} : (cxOf CX P w K mg base N qual scope f cd A outer s H E).w = w := rfl
theorem cx_K {CX : CXT} {P : Program} {w : World} {K : PySem.W.Frag} {mg : Str → Option Value} {base : Heap} {N : List Str} {qual : Str} {scope : Scope} {f : Addr} {cd : Value} {A : Around} {outer : List Env} {s : Shared} {H : Hp} {E : XK} : (cxOf CX P w K mg base N qual scope f cd A outer s H E).K = K := rfl
/-- what the search holds -/
structure DS (P : Program) (w : World) (H0 H : Hp) (dT dA : Addr) (rows : List (List Cloth)) (r : Int → Nat → Int) (b : Option Int) (n : Nat) (s0 : Stt) (t0 : Int) (T : Stt → Option Int) (A : Stt → Option (Stt × Str)) (m : Nat) (Pr : Pro) : Prop where
  e : Same H0 H
  tm : ∃ xs ep, NdAt P w H dT xs ep ∧ TT xs T
  ah : ∃ xs ep, NdAt P w H dA xs ep ∧ AT H xs A
  si : SI rows r b n s0 t0 T A m Pr
/-- the layer -/
structure LS (H : Hp) (aL : Addr) (lay : List (Stt × Addr)) (T : Stt → Option Int) (kk : Nat) : Prop where
  ly : H aL = some (.lst (lay.map fun x => V.ref x.2))
  ky : ∀ x ∈ lay, KeyAt H x.2 x.1
  kn : ∀ x ∈ lay, (∃ t, T x.1 = some t) ∧ x.1.1.sum = kk
  al : ∀ s t, T s = some t → s.1.sum = kk → ∃ x ∈ lay, x.1 = s
/-- the layer behind -/
structure BS (P : Program) (w : World) (H : Hp) (dB : Addr) (T : Stt → Option Int) (kk : Nat) : Prop where
  ex : ∃ xs ep, NdAt P w H dB xs ep ∧ (xs.map (·.1)).Nodup ∧ ∀ s, s ∈ xs.map (·.1) ↔ (∃ t, T s = some t) ∧ s.1.sum = kk + 1
section
variable {H0 H H' : Hp} {dT dA dB aL : Addr} {rows : List (List Cloth)} {r : Int → Nat → Int} {b : Option Int} {n : Nat} {s0 : Stt} {t0 : Int} {T : Stt → Option Int} {A : Stt → Option (Stt × Str)} {m kk : Nat} {Pr : Pro} {lay : List (Stt × Addr)}
theorem DS.same (x : DS P w H0 H dT dA rows r b n s0 t0 T A m Pr) (e : Same H H') : DS P w H0 H' dT dA rows r b n s0 t0 T A m Pr := by
  obtain ⟨xs, ep, h1, h2⟩ := x.tm
  obtain ⟨ys, ep2, h3, h4⟩ := x.ah
  exact ⟨Evl.Ex.trans x.e e, ⟨xs, ep, h1.same e, h2⟩, ⟨ys, ep2, h3.same e, h4.kn (Kn.of e)⟩, x.si⟩
theorem LS.kn' (x : LS H aL lay T kk) (e : Kn H H') : LS H' aL lay T kk := ⟨Kn.lst e x.ly, fun y hy => (x.ky y hy).kn e, x.kn, x.al⟩
theorem LS.upd (x : LS H aL lay T kk) {s' : Stt} {t : Int} (h : s'.1.sum ≠ kk) : LS H aL lay (updS T s' t) kk :=
  ⟨x.ly, x.ky, fun y hy => by
    obtain ⟨h1, h2⟩ := x.kn y hy
    exact ⟨by rw [updS_ne (fun z => h (by rw [← z]; exact h2))]; exact h1, h2⟩, fun s t' h1 h2 => by
    rw [updS_ne (fun z => h (by rw [← z]; exact h2))] at h1
    exact x.al s t' h1 h2⟩
theorem BS.same (x : BS P w H dB T kk) (e : Same H H') : BS P w H' dB T kk := by
  obtain ⟨xs, ep, h1, h2⟩ := x.ex
  exact ⟨xs, ep, h1.same e, h2⟩
theorem SI.rowsOk (x : SI rows r b n s0 t0 T A m Pr) (hn : rows.length = n) (h10 : ∀ row ∈ rows, row.length ≤ 10) {s : Stt} {t : Int} (h : T s = some t) : s.1.length = n ∧ (∀ m ∈ s.1, m ≤ 10) ∧ -1 ≤ s.2 ∧ s.2 < n := by
  obtain ⟨h1, h2, h3, h4⟩ := x.wf s t h
  have hl : s.1.length = n := h1.1.trans hn
  refine ⟨hl, fun m hm => ?_, h3, h4⟩
  obtain ⟨i, hi, e⟩ := List.getElem_of_mem hm
  have g : s.1[i]? = some m := by rw [List.getElem?_eq_getElem hi, e]
  have hr : rows[i]? = some (rows[i]'(by omega)) := List.getElem?_eq_getElem _
  exact Nat.le_trans (h1.2 i _ m hr g) (h10 _ (List.getElem_mem _))
theorem DS.few (x : DS P w H0 H dT dA rows r b n s0 t0 T A m Pr) (hn : rows.length = n) (n4 : n ≤ 4) (h10 : ∀ row ∈ rows, row.length ≤ 10) {xs : XS} (h : TT xs T) : xs.length ≤ 73205 :=
  KS.few h n4 fun s v e => by
    obtain ⟨t, ht, _⟩ := Option.map_eq_some_iff.mp e
    exact x.si.rowsOk hn h10 ht
theorem DS.fewA (x : DS P w H0 H dT dA rows r b n s0 t0 T A m Pr) (hn : rows.length = n) (n4 : n ≤ 4) (h10 : ∀ row ∈ rows, row.length ≤ 10) {xs : XS} (h : AT H xs A) : xs.length ≤ 73205 := by
  have := few_states n4 h.nd fun s hs => by
    have h1 := valS_mem.mpr hs
    have h2 := h.val s
    cases hA : A s with
    | none => rw [hA] at h2; rw [h2] at h1; cases h1
    | some y =>
      obtain ⟨t, ht⟩ := x.si.dom s y hA
      exact x.si.rowsOk hn h10 ht
  rw [List.length_map] at this
  exact this
theorem DS.fewB (x : DS P w H0 H dT dA rows r b n s0 t0 T A m Pr) (hn : rows.length = n) (n4 : n ≤ 4) (h10 : ∀ row ∈ rows, row.length ≤ 10) {xs : XS} (nd : (xs.map (·.1)).Nodup) (h : ∀ s, s ∈ xs.map (·.1) → ∃ t, T s = some t) : xs.length ≤ 73205 := by
  have := few_states n4 nd fun s hs => by
    obtain ⟨t, ht⟩ := h s hs
    exact x.si.rowsOk hn h10 ht
  rw [List.length_map] at this
  exact this
end
theorem none_of {H H' : Hp} {a : Addr} (e : Same H H') (h : H' a = none) : H a = none := by
  cases z : H a with
  | none => rfl
  | some o => rw [e _ _ z] at h; cases h
abbrev sp_searched (P : Program) (w : World) (G : Ad) : Sp := fun vs H Q _ => ∃ (p : Addr) (W : Wk) (b : Option Int), vs = [.ref p, bdV b] ∧ WkAt G H p W ∧ Tb G H ∧
  ∀ H' t dT dA xsT epT xsA epA rows T A, Ext G H H' → Tb G H' → IsRows dueLe W.cl W.n rows → H' t = some (.tup [.ref dT, .ref dA]) → NdAt P w H' dT xsT epT → NdAt P w H' dA xsA epA → TT xsT T → AT H' xsA A → xsT.length ≤ 73205 → Srch rows W.rin b (List.replicate W.n 0, W.last) W.time T A → (∀ s t, T s = some t → s.1.length = W.n ∧ (∀ m ∈ s.1, m ≤ 10) ∧ -1 ≤ s.2 ∧ s.2 < W.n) → Q (.ref t) H'
theorem sc_searched : FnScope ["works", "bound", "cloths", "first", "times", "ahead", "layer", "behind", "state", "cloth", "there", "counts", "hue", "end"] ["works", "bound"] (defScope ssearched) := ⟨rfl, rfl, rfl, by decide +kernel, rfl, by decide +kernel, by decide +kernel⟩
theorem c_searched (B : Bn mg) (FC : Fc G mg) (MW_start : Me P w G.K mg base k G.CW "start" (spW_start G)) (C_due_cloths : Ca P w G.K mg base k "due_cloths" (sp_due_cloths G)) (C_start_state : Ca P w G.K mg base k "start_state" (sp_start_state G)) (C_goings : Ca P w G.K mg base k "goings" (sp_goings G)) (C_breaks : Ca P w G.K mg base k "breaks" (sp_breaks G)) (F : Gd G.K mg "searched" ssearched) : Ca P w G.K mg base (k + 1) "searched" (sp_searched P w G) :=
  ca_0 F sc_searched (fun _ _ _ _ _ _ us hl => match us, hl with | [_, _], _ => rfl) (fun vs H Q E h => by obtain ⟨_, _, _, rfl, _⟩ := h; rfl)
  fun f cdv A outer s H vs Q E hr h => ⟨_, /- slots: 0 works, 1 bound, 2 cloths, 3 first, 4 times, 5 ahead, 6 layer, 7 behind, 8 state, 9 cloth, 10 there, 11 counts, 12 hue, 13 end -/ (pss_cons (ps_set (i := 2) sc_searched.nd rfl (Or.inl rfl) (pe_ca C_due_cloths hr (pa_cons (pv 0) pa_nil)))
      (pss_cons (ps_set (i := 3) sc_searched.nd rfl (Or.inl rfl) (pe_ca C_start_state hr (pa_cons (pv 0) pa_nil)))
      (pss_cons (ps_set (i := 4) sc_searched.nd rfl (Or.inl rfl) (pe_nd1 (hu8 hr) (pv 3) (pe_ix ix_tup (pe_me0 MW_start hr (pv 0)) pe_int (fun _ _ => rfl))))
      (pss_cons (ps_set (i := 5) sc_searched.nd rfl (Or.inl rfl) pe_ndnew)
      (pss_cons (ps_set (i := 6) sc_searched.nd rfl (Or.inl rfl) (pe_lst (pa_cons (pv 3) pa_nil)))
      (pss_cons (ps_while PassesOwn.never (pt_cmpR (op_neNil hr.units0) (pv 6) (pe_lst pa_nil) (nomark _)) (pss_cons (ps_set (i := 7) sc_searched.nd rfl (Or.inl rfl) pe_ndnew)
      (pss_cons (ps_for PassesOwn.never rfl (pi_list (pv 6)) (pg_name (i := 8) sc_searched.nd rfl (Or.inl rfl)) (pss_one (ps_for PassesOwn.never rfl (pi_list (pe_ca C_goings hr (pa_cons (pv 0) (pa_cons (pv 2) (pa_cons (pe_op op_catA (pv 8) (pe_tup (pa_cons (pe_ndget (hu8 hr) (pv 4) (pv 8) (fun _ _ => rfl)) pa_nil))) pa_nil))))) (pg_tup rfl (pgs_cons (pg_name (i := 9) sc_searched.nd rfl (Or.inl rfl)) (pgs_cons (pg_tup rfl (pgs_cons (pg_name (i := 11) sc_searched.nd rfl (Or.inl rfl)) (pgs_cons (pg_name (i := 12) sc_searched.nd rfl (Or.inl rfl)) (pgs_cons (pg_name (i := 13) sc_searched.nd rfl (Or.inl rfl)) pgs_nil)))) pgs_nil))) (pss_cons (ps_set (i := 10) sc_searched.nd rfl (Or.inl rfl) (pe_tup (pa_cons (pv 11) (pa_cons (pv 12) pa_nil))))
      (pss_one (ps_if (PW.pt (pw_and (pt_not (pt_val (pe_ca C_breaks hr (pa_cons (pv 9) (pa_cons (pv 13) (pa_cons (pv 1) pa_nil)))))) (pw_and1 (pt_cmpR op_le (pv 13) (pe_ndget2 (hu8 hr) (pv 4) (pv 10) (pv 13) ⟨by rfl, by rfl, by rfl, by rfl⟩) (nomark _))))) (pss_cons (ps_ndput (hu8 hr) (pv 4) (pv 10) (pv 13) rfl)
      (pss_cons (ps_ndput (hu8 hr) (pv 5) (pv 10) (pe_tup (pa_cons (pv 8) (pa_cons (pe_ix ix_tup (pv 9) pe_int (fun _ _ => rfl)) pa_nil))) rfl)
      (pss_one (ps_ndput (hu8 hr) (pv 7) (pv 10) pe_bl rfl)))) pss_nil))))))
      (pss_one (ps_set (i := 6) sc_searched.nd rfl (Or.inl rfl) (pe_callTy (call_list_nd rfl) (by rfl) B.list (by decide +kernel) (pa_cons (pv 7) pa_nil)))))))
      (pss_one (ps_ret (pe_tup (pa_cons (pv 4) (pa_cons (pv 5) pa_nil))))))))))), by
    obtain ⟨p, W, b, rfl, hW, hTb, q⟩ := h
    obtain ⟨dx, ls0, ts0, d, cs, O⟩ := hW.open_
    have ok := hW.ok
    have n4 := ok.n4
    dsimp only [tSeq, tRet, tRetN, tIfS, tAsg, tDrop, tNext, tNever, tVar, tC, tCons, tNil, tCB, tOp, tTest, tB, tAnd, tOr, tNot, tAndV, tOrV, tNotV, tChain, tTup, tLst, tFld, sFld, tCall, tMeth, tMake, tDGet, tDIn, tDNotIn, sDPut, tDNewK, tSl, tPart, tNoPart, gTup, gCons, gNil, gSub, tBM, tUn]
    dsimp only [cx_p, cx_w, cx_K]
    refine ⟨_, rfl, p, W, rfl, hW, hTb, fun H1 c rows e1 t1 hrows hR => ?_⟩
    have hW1 := hW.kp e1.k
    refine ⟨_, rfl, p, W, rfl, hW1, fun H2 f2 e2 hf2 => fun dT hdT => ?_⟩
    have e02 := same_new (o := NdO P w dT [] 0) hdT
    have hW2 := hW1.same e2
    obtain ⟨n_rows, hrow⟩ := hrows
    have h10 : ∀ row ∈ rows, row.length ≤ 10 := fun row hm => by
      obtain ⟨i, hi, rfl⟩ := List.getElem_of_mem hm
      have := hrow i _ (List.getElem?_eq_getElem hi)
      rw [this.1.length_eq]
      exact Nat.le_trans (List.length_filter_le _ _) ok.few
    refine ⟨_, rfl, _, rfl, p, dx, _, rfl, e02 _ _ (e2 _ _ (Kp.ins e1.k O.at_)), wf_no (by decide +kernel), p, W, rfl, hW2.same e02, fun H3 ts e3 hts => ⟨ts, _, 1, _, rfl, rfl, Or.inl (Or.inl hts), rfl, f2, (List.replicate W.n 0, W.last), e3 _ _ upd_same, rfl, (hf2.kn (Kn.of e02)).kn (Kn.of e3), fun epT => ?_⟩⟩
    have k3 : KeyAt H3 f2 (List.replicate W.n 0, W.last) := (hf2.kn (Kn.of e02)).kn (Kn.of e3)
    have hT3 : H3 dT = some (NdO P w dT [] 0) := e3 _ _ upd_same
    have e23 : Same H2 H3 := Evl.Ex.trans e02 e3
    have e24 : Same H2 (upd H3 dT (NdO P w dT [((List.replicate W.n 0, W.last), f2, .int W.time)] epT)) := same_mut e23 hdT
    have nd4 : NdAt P w (upd H3 dT (NdO P w dT [((List.replicate W.n 0, W.last), f2, .int W.time)] epT)) dT [((List.replicate W.n 0, W.last), f2, .int W.time)] epT := ⟨upd_same, fun y hy => by
      rw [List.mem_singleton] at hy
      rw [hy]
      exact k3.kn (Kn.put hT3)⟩
    generalize upd H3 dT (NdO P w dT [((List.replicate W.n 0, W.last), f2, .int W.time)] epT) = H4 at e24 nd4 ⊢
    refine fun dA hdA => ?_
    have hA2 := none_of e24 hdA
    have nTA : dT ≠ dA := fun z => by have := nd4.at_; rw [z, hdA] at this; cases this
    have e45 := same_new (o := NdO P w dA [] 0) hdA
    have e05 := Evl.Ex.trans e24 e45
    have k5 : KeyAt (upd H4 dA (NdO P w dA [] 0)) f2 (List.replicate W.n 0, W.last) := hf2.kn (Kn.of e05)
    refine ⟨_, rfl, (show 1 ≤ sizeLine by decide), fun aL haL => ?_⟩
    have e56 := same_new (o := HO.lst [V.ref f2]) haL
    have e06 := Evl.Ex.trans e05 e56
    refine ⟨fun m σ' H' => ∃ kk lay aL T A y7 y8 y9 y10 y11 y12 y13, σ' = [some (.ref p), some (bdV b), some (.ref c), some (.ref f2), some (.ref dT), some (.ref dA), some (.ref aL), y7, y8, y9, y10, y11, y12, y13] ∧ m = (rows.map List.length).sum + 1 - kk ∧ LS H' aL lay T kk ∧ lay.length ≤ 73205 ∧ DS P w H2 H' dT dA rows W.rin b W.n (List.replicate W.n 0, W.last) W.time T A kk (fun s _ _ _ => s.1.sum < kk),
      ⟨_, 0, [((List.replicate W.n 0, W.last), f2)], aL, updS (fun _ => none) (List.replicate W.n 0, W.last) W.time, fun _ => none, _, _, _, _, _, _, _, rfl, rfl, ⟨upd_same, fun y hy => ?_, fun y hy => ?_, fun s t h1 h2 => ?_⟩, (show 1 ≤ 73205 by decide), ⟨e06, ⟨_, _, (nd4.same e45).same e56, TT.put (T := fun _ => none) KS.nil _ f2 _⟩, ⟨[], 0, (⟨upd_same, fun _ m => nomatch m⟩ : NdAt P w (upd H4 dA (NdO P w dA [] 0)) dA [] 0).same e56, AT.nil⟩, SI.init ?_ ?_ ok.l0 ok.l1⟩⟩, ?_⟩
    · rw [List.mem_singleton] at hy
      rw [hy]
      exact k5.kn (Kn.of e56)
    · rw [List.mem_singleton] at hy
      rw [hy]
      exact ⟨⟨_, updS_eq⟩, List.sum_replicate_nat.trans (Nat.mul_zero _)⟩
    · by_cases e : s = (List.replicate W.n 0, W.last)
      · exact ⟨_, List.mem_singleton.mpr rfl, e.symm⟩
      · rw [updS_ne e] at h1
        cases h1
    · refine ⟨by rw [List.length_replicate, n_rows], fun h row m h1 h2 => ?_⟩
      have := List.eq_of_mem_replicate (List.mem_of_getElem? h2)
      omega
    · exact List.sum_replicate_nat.trans (Nat.mul_zero _)
    rintro _ _ H7 ⟨kk, lay, aL, T, A, y7, y8, y9, y10, y11, y12, y13, rfl, rfl, hL, lz, hD⟩
    refine ⟨_, rfl, Nat.zero_le _, fun D2 hD2 => ⟨aL, D2, lay.map fun x => V.ref x.2, rfl, rfl, Or.inl (Or.inl (same_new hD2 _ _ hL.ly)), Or.inl (Or.inl upd_same), ?_⟩⟩
    have e78 := same_new (o := HO.lst []) hD2
    have hL8 := hL.kn' (Kn.of e78)
    have hD8 := hD.same e78
    generalize upd H7 D2 (.lst []) = H8 at hL8 hD8 ⊢
    clear hL hD e78 hD2
    refine ⟨_, rfl, ?_⟩
    by_cases hz : lay = []
    · subst hz
      rw [show (!(([] : List (Stt × Addr)).map fun x => V.ref x.2).isEmpty) = false from rfl]
      dsimp only
      rw [if_neg Bool.false_ne_true]
      obtain ⟨xs, ep, a1, a2⟩ := hD8.tm
      obtain ⟨xsA, epA, a3, a4⟩ := hD8.ah
      refine ⟨_, rfl, _, rfl, (show 2 ≤ sizeLine by decide), fun t ht => ?_⟩
      have e9 := same_new (o := HO.tup [V.ref dT, V.ref dA]) ht
      exact q _ t dT dA xs ep xsA epA rows T A (e1.trans (Ext.of (Evl.Ex.trans e2 (Evl.Ex.trans hD8.e e9)))) ((Ext.of (Evl.Ex.trans e2 (Evl.Ex.trans hD8.e e9))).t t1) ⟨n_rows, hrow⟩ upd_same (a1.same e9) (a3.same e9) a2 (a4.kn (Kn.of e9)) (hD8.few n_rows n4 h10 a2) (hD8.si.srch fun s t h1 h2 => by
        obtain ⟨x, hx, _⟩ := hL8.al s t h1 h2
        cases hx) fun s t h => hD8.si.rowsOk n_rows h10 h
    · have hne : (!(lay.map fun x => V.ref x.2).isEmpty) = true := by
        cases lay with
        | nil => exact absurd rfl hz
        | cons _ _ => rfl
      rw [hne]
      dsimp only
      rw [if_pos rfl]
      have hkk : kk ≤ (rows.map List.length).sum := by
        cases lay with
        | nil => exact absurd rfl hz
        | cons x l =>
          obtain ⟨⟨t, ht⟩, hs⟩ := hL8.kn x (List.mem_cons_self ..)
          rw [← hs]
          exact sum_le_rows (hD8.si.wf _ _ ht).1
      refine ⟨_, fun _ _ h => h, ?_⟩
      refine fun dB hdB => ?_
      have e89 := same_new (o := NdO P w dB [] 0) hdB
      have nTB : dT ≠ dB := fun z => by
        obtain ⟨_, _, h, _⟩ := hD8.tm
        have := h.at_
        rw [z, hdB] at this
        cases this
      have nAB : dA ≠ dB := fun z => by
        obtain ⟨_, _, h, _⟩ := hD8.ah
        have := h.at_
        rw [z, hdB] at this
        cases this
      have hB2 := none_of hD8.e hdB
      have hL9 := hL8.kn' (Kn.of e89)
      have hD9 := hD8.same e89
      have hB9 : BS P w (upd H8 dB (NdO P w dB [] 0)) dB T kk := ⟨[], 0, ⟨upd_same, fun _ m => nomatch m⟩, List.nodup_nil, fun s => Iff.intro (fun m => nomatch m) (fun z => by
        obtain ⟨⟨t, ht⟩, hs⟩ := z
        have := (hD8.si.wf s t ht).2.1
        omega)⟩
      generalize upd H8 dB (NdO P w dB [] 0) = H9 at hL9 hD9 hB9 ⊢
      clear hL8 hD8 e89 hdB
      refine ⟨_, rfl, aL, rfl, ⟨_, Or.inl (Or.inl hL9.ly)⟩, ?_⟩
      refine for_it (walk_list (xs := lay.map fun x => V.ref x.2)) (fun i σ' H' => ∃ T A y8 y9 y10 y11 y12 y13, σ' = [some (.ref p), some (bdV b), some (.ref c), some (.ref f2), some (.ref dT), some (.ref dA), some (.ref aL), some (.ref dB), y8, y9, y10, y11, y12, y13] ∧ LS H' aL lay T kk ∧ DS P w H2 H' dT dA rows W.rin b W.n (List.replicate W.n 0, W.last) W.time T A (kk + 1) (fun s _ _ _ => s.1.sum < kk ∨ ∃ x ∈ lay.take i, x.1 = s) ∧ BS P w H' dB T kk) ⟨T, A, _, _, _, _, _, _, rfl, hL9, ⟨hD9.e, hD9.tm, hD9.ah, hD9.si.weak (by omega) (fun s t h c s' e _ _ hp => by
        rcases hp with hp | ⟨x, hx, _⟩
        · exact hp
        · cases hx)⟩, hB9⟩ (fun i σ' H' _ z => by
        obtain ⟨T, A, _, _, _, _, _, _, _, z, _⟩ := z
        exact Or.inl (Or.inl z.ly)) ?_ ?_
      · clear hL9 hD9 hB9
        rintro i x _ H10 H11 hi ⟨T, A, y8, y9, y10, y11, y12, y13, rfl, hL, hD, hB⟩ ⟨rfl, hx⟩
        rw [List.getElem?_map] at hx
        obtain ⟨⟨st, ay⟩, hy, rfl⟩ := Option.map_eq_some_iff.mp hx
        have hm := List.mem_of_getElem? hy
        obtain ⟨⟨t, hTs⟩, hsk⟩ := hL.kn _ hm
        have kyy := hL.ky _ hm
        obtain ⟨xsT, epT, ndT, tt⟩ := hD.tm
        have wfs := hD.si.rowsOk n_rows h10 hTs
        obtain ⟨b0, hb1, hb2⟩ := kyy
        refine ⟨_, rfl, _, rfl, _, rfl, _, rfl, _, rfl, dT, xsT, epT, ay, st, .int t, rfl, ndT, rfl, ⟨b0, hb1, hb2⟩, by rw [tt.val, hTs]; rfl, (show 1 ≤ sizeLine by decide), fun p2 hp2 => ?_⟩
        have e12 := same_new (o := HO.tup [V.int t]) hp2
        refine cat_any (e12 _ _ hb1) upd_same (show 3 ≤ 100000 by decide) fun p3 H13 e13 h3 => ?_
        have e113 := Evl.Ex.trans e12 e13
        have hW13 := hW2.same (Evl.Ex.trans hD.e e113)
        refine ⟨p, c, p3, b0, W, rows, st, t, rfl, hW13, hR.kp (Kp.of (Evl.Ex.trans e2 (Evl.Ex.trans hD.e e113))), n_rows, h10, h3, e113 _ _ hb2, wfs.1, wfs.2.2.1, wfs.2.2.2, fun H14 l xs gs e14 hl lx hG hs hcpl => ?_⟩
        have e114 := Evl.Ex.trans e113 e14
        have hL := hL.kn' (Kn.of e114)
        have hD := hD.same e114
        have hB := hB.same e114
        refine ⟨l, rfl, ⟨_, Or.inl (Or.inl hl)⟩, ?_⟩
        refine for_it (walk_list (xs := xs.map V.ref)) (fun j σ' H' => ∃ T A y9 y10 y11 y12 y13, σ' = [some (.ref p), some (bdV b), some (.ref c), some (.ref f2), some (.ref dT), some (.ref dA), some (.ref aL), some (.ref dB), some (.ref ay), y9, y10, y11, y12, y13] ∧ Kn H14 H' ∧ LS H' aL lay T kk ∧ T st = some t ∧ DS P w H2 H' dT dA rows W.rin b W.n (List.replicate W.n 0, W.last) W.time T A (kk + 1) (fun s c' s' e' => (s.1.sum < kk ∨ ∃ x ∈ lay.take i, x.1 = s) ∨ (s = st ∧ (c', s', e') ∈ gs.take j)) ∧ BS P w H' dB T kk) ⟨T, A, _, _, _, _, _, rfl, Kn.refl _, hL, hTs, ⟨hD.e, hD.tm, hD.ah, hD.si.weak (Nat.le_refl _) (fun s t h c s' e _ _ hp => by
          rcases hp with hp | ⟨_, hx⟩
          · exact hp
          · cases hx)⟩, hB⟩ (fun j σ' H' _ z => by
          obtain ⟨T, A, _, _, _, _, _, _, z, _⟩ := z
          exact Or.inl (Or.inl (Kn.lst z hl))) ?_ ?_
        · clear hL hD hB hTs tt ndT
          rintro j x _ H15 H16 hj ⟨T, A, y9, y10, y11, y12, y13, rfl, hkn, hL, hTs, hD, hB⟩ ⟨rfl, hx⟩
          rw [List.getElem?_map] at hx
          obtain ⟨x, hx1, rfl⟩ := Option.map_eq_some_iff.mp hx
          clear hx
          have hx := hx1
          have jl : j < gs.length := by rw [← hG.ln]; exact (List.getElem?_eq_some_iff.mp hx).1
          have hg : gs[j]? = some gs[j] := List.getElem?_eq_getElem jl
          have hgm : gs[j] ∈ gs := List.getElem_mem jl
          generalize gs[j] = g at hg hgm
          obtain ⟨c1, s2, e2'⟩ := g
          obtain ⟨hh, hgo⟩ := hs _ hgm
          obtain ⟨tc, u, b2, g1, g2, g3, g4⟩ := (hG.at_ j x _ hx hg).kn hkn
          refine ⟨x, _, rfl, Or.inl (Or.inl g1), rfl, _, _, rfl, _, _, rfl, u, _, rfl, Or.inl (Or.inl g3), rfl, _, _, rfl, _, _, rfl, _, _, rfl, rfl, rfl, ?_⟩
          refine ⟨_, rfl, _, rfl, (show 2 ≤ sizeLine by decide), fun pt hpt => ?_⟩
          have e67 := same_new (o := HO.tup [V.ref b2, V.int s2.2]) hpt
          refine ⟨_, rfl, _, rfl, _, rfl, tc, c1, e2', b, rfl, e67 _ _ g2, fun H18 r e78 hr => ?_⟩
          have e68 := Evl.Ex.trans e67 e78
          have key : KeyAt H18 pt s2 := ⟨b2, e78 _ _ upd_same, e68 _ _ g4⟩
          have hL := hL.kn' (Kn.of e68)
          have hD := hD.same e68
          have hB := hB.same e68
          have hkn := Kn.trans hkn (Kn.of e68)
          have htc := e68 _ _ g2
          have sum2 : s2.1.sum = kk + 1 := by rw [hgo.sum]; exact congrArg (· + 1) hsk
          have wk : ∀ {T : Stt → Option Int} {A : Stt → Option (Stt × Str)}, SI rows W.rin b W.n (List.replicate W.n 0, W.last) W.time T A (kk + 1) (fun s c' s' e' => ((s.1.sum < kk ∨ ∃ x ∈ lay.take i, x.1 = s) ∨ (s = st ∧ (c', s', e') ∈ gs.take j)) ∨ (s = st ∧ c' = c1 ∧ s' = s2 ∧ e' = e2')) → SI rows W.rin b W.n (List.replicate W.n 0, W.last) W.time T A (kk + 1) (fun s c' s' e' => (s.1.sum < kk ∨ ∃ x ∈ lay.take i, x.1 = s) ∨ (s = st ∧ (c', s', e') ∈ gs.take (j + 1))) := fun z =>
            z.weak (Nat.le_refl _) (fun s t h c s' e _ _ hp => by
              rcases hp with hp | ⟨h1, h2⟩
              · exact Or.inl (Or.inl hp)
              · rw [List.take_add_one, hg] at h2
                rcases List.mem_append.mp h2 with h2 | h2
                · exact Or.inl (Or.inr ⟨h1, h2⟩)
                · have h3 : (c, s', e) = (c1, s2, e2') := by simpa using h2
                  cases h3
                  exact Or.inr ⟨h1, rfl, rfl, rfl⟩)
          have stay : (okB b (e2' - c1.due) → ∃ t', T s2 = some t' ∧ t' ≤ e2') → DS P w H2 H18 dT dA rows W.rin b W.n (List.replicate W.n 0, W.last) W.time T A (kk + 1) (fun s c' s' e' => (s.1.sum < kk ∨ ∃ x ∈ lay.take i, x.1 = s) ∨ (s = st ∧ (c', s', e') ∈ gs.take (j + 1))) := fun hno =>
            ⟨hD.e, hD.tm, hD.ah, wk (hD.si.skip hno)⟩
          clear g1 g2 g3 g4 e67 e78 e68 hpt
          obtain ⟨xsT, epT, ndT, tt⟩ := hD.tm
          obtain ⟨xsA, epA, ndA, at_⟩ := hD.ah
          obtain ⟨xsB, epB, ndB, nB, mB⟩ := hB.ex
          cases r with
          | true => exact ⟨true, rfl, T, A, _, _, _, _, _, rfl, hkn, hL, hTs, stay fun o => absurd (hr.mpr o) (by decide), hB⟩
          | false =>
            have o := hr.mp rfl
            have hv : (valS xsT s2).getD (.int e2') = .int ((T s2).getD e2') := by
              rw [tt.val]
              cases T s2 <;> rfl
            refine ⟨false, rfl, _, rfl, _, rfl, dT, xsT, epT, rfl, ndT, _, rfl, _, rfl, xsT, epT, pt, s2, ndT, rfl, key, _, _, rfl, hv, ?_⟩
            by_cases hle : e2' ≤ (T s2).getD e2'
            · refine ⟨true, congrArg V.bl (decide_eq_true hle), ?_⟩
              have lT := hD.few n_rows n4 h10 tt
              have lA := hD.fewA n_rows n4 h10 at_
              have lB := hD.fewB n_rows n4 h10 nB fun s hs => ((mB s).mp hs).1
              refine ⟨_, rfl, _, rfl, _, rfl, dT, xsT, epT, pt, s2, rfl, ndT, by omega, rfl, key, fun ep1 => ?_⟩
              have kn1 := Kn.put (o := NdO P w dT (putS xsT s2 pt (.int e2')) ep1) ndT.at_
              have ndT1 := ndT.put (ep' := ep1) (v := .int e2') key
              have ndA1 := ndA.other (o := NdO P w dT (putS xsT s2 pt (.int e2')) ep1) ndT nTA.symm
              have ndB1 := ndB.other (o := NdO P w dT (putS xsT s2 pt (.int e2')) ep1) ndT nTB.symm
              have eS1 := same_mut (o := NdO P w dT (putS xsT s2 pt (.int e2')) ep1) hD.e hdT
              generalize upd H18 dT (NdO P w dT (putS xsT s2 pt (.int e2')) ep1) = K1 at kn1 ndT1 ndA1 ndB1 eS1 ⊢
              refine ⟨_, rfl, _, rfl, tc, _, 0, _, rfl, rfl, Or.inl (Or.inl (Kn.tup kn1 htc)), rfl, (show 2 ≤ sizeLine by decide), fun u2 hu2 => ?_⟩
              have eK2 := same_new (o := HO.tup [V.ref ay, V.str c1.name]) hu2
              have kn2 := Kn.trans kn1 (Kn.of eK2)
              have ndA2 := ndA1.same eK2
              have at2 := AT.put (a := pt) (s := s2) (at_.kn kn2) (u := u2) (z := c1.name) (b := ay) (p := st) upd_same ((hL.ky _ hm).kn kn2)
              refine ⟨_, rfl, _, rfl, dA, xsA, epA, pt, s2, rfl, ndA2, by omega, rfl, key.kn kn2, fun ep2 => ?_⟩
              have ndT2 := ndT1.same eK2
              have ndB2 := ndB1.same eK2
              have eS2 := Evl.Ex.trans eS1 eK2
              generalize upd K1 u2 (.tup [V.ref ay, V.str c1.name]) = K2 at eK2 kn2 ndA2 ndT2 ndB2 at2 eS2 ⊢
              have kn3 := Kn.trans kn2 (Kn.put (o := NdO P w dA (putS xsA s2 pt (.ref u2)) ep2) ndA2.at_)
              have at3 := at2.kn (Kn.put (o := NdO P w dA (putS xsA s2 pt (.ref u2)) ep2) ndA2.at_)
              have ndA3 := ndA2.put (ep' := ep2) (v := .ref u2) (key.kn kn2)
              have ndT3 := ndT2.other (o := NdO P w dA (putS xsA s2 pt (.ref u2)) ep2) ndA2 nTA
              have ndB3 := ndB2.other (o := NdO P w dA (putS xsA s2 pt (.ref u2)) ep2) ndA2 nAB.symm
              have eS3 := same_mut (o := NdO P w dA (putS xsA s2 pt (.ref u2)) ep2) eS2 hA2
              generalize upd K2 dA (NdO P w dA (putS xsA s2 pt (.ref u2)) ep2) = K3 at kn3 ndA3 ndT3 ndB3 at3 eS3 ⊢
              refine ⟨_, rfl, _, rfl, dB, xsB, epB, pt, s2, rfl, ndB3, by omega, rfl, key.kn kn3, fun ep3 => ?_⟩
              have kn4 := Kn.trans kn3 (Kn.put (o := NdO P w dB (putS xsB s2 pt (.bl true)) ep3) ndB3.at_)
              have at4 := at3.kn (Kn.put (o := NdO P w dB (putS xsB s2 pt (.bl true)) ep3) ndB3.at_)
              have ndB4 := ndB3.put (ep' := ep3) (v := .bl true) (key.kn kn3)
              have ndT4 := ndT3.other (o := NdO P w dB (putS xsB s2 pt (.bl true)) ep3) ndB3 nTB
              have ndA4 := ndA3.other (o := NdO P w dB (putS xsB s2 pt (.bl true)) ep3) ndB3 nAB
              have eS4 := same_mut (o := NdO P w dB (putS xsB s2 pt (.bl true)) ep3) eS3 hB2
              have nst : st ≠ s2 := fun z => by
                rw [← z] at sum2
                have : st.1.sum = kk := hsk
                omega
              refine ⟨updS T s2 e2', updS A s2 (st, c1.name), _, _, _, _, _, rfl, Kn.trans hkn kn4, (hL.kn' kn4).upd (by omega), by rw [updS_ne nst]; exact hTs, ⟨eS4, ⟨_, _, ndT4, TT.put tt s2 pt e2'⟩, ⟨_, _, ndA4, at4⟩, wk (hD.si.set n_rows (List.sum_replicate_nat.trans (Nat.mul_zero _)) (fun s c s' e hp => ?_) hTs hsk hgo o fun t' ht' => ?_)⟩, ⟨_, _, ndB4, (KS.put (f := fun s => valS xsB s) ⟨nB, fun _ => rfl⟩ s2 pt (.bl true)).nd, fun s => ?_⟩⟩
              · rcases hp with (hp | ⟨x, hx, rfl⟩) | ⟨rfl, _⟩
                · omega
                · have := (hL.kn x (List.mem_of_mem_take hx)).2
                  omega
                · exact Nat.le_of_eq hsk
              · rw [ht'] at hle
                exact hle
              · rw [← valS_mem, valS_put]
                by_cases es : s = s2
                · rw [if_pos es, es]
                  exact ⟨fun _ => ⟨⟨e2', updS_eq⟩, sum2⟩, fun _ => rfl⟩
                · rw [if_neg es, updS_ne es, valS_mem]
                  exact mB s
            · refine ⟨false, congrArg V.bl (decide_eq_false hle), T, A, _, _, _, _, _, rfl, hkn, hL, hTs, stay fun _ => ?_, hB⟩
              cases hT : T s2 with
              | none => rw [hT] at hle; exact absurd (Int.le_refl _) hle
              | some t' =>
                rw [hT] at hle
                exact ⟨t', rfl, by have h2 : ¬ e2' ≤ t' := hle; omega⟩
        · clear hL hD hB hTs tt ndT
          rintro _ H15 ⟨T, A, y9, y10, y11, y12, y13, rfl, hkn, hL, hTs, hD, hB⟩
          refine ⟨T, A, _, _, _, _, _, _, rfl, hL, ⟨hD.e, hD.tm, hD.ah, hD.si.weak (Nat.le_refl _) (fun s t' h c' s' e' h1 g h2 => ?_)⟩, hB⟩
          rcases h2 with h2 | ⟨y, h2, rfl⟩
          · exact Or.inl (Or.inl h2)
          · rw [List.take_add_one, hy] at h2
            rcases List.mem_append.mp h2 with h2 | h2
            · exact Or.inl (Or.inr ⟨y, h2, rfl⟩)
            · have h3 : y = (st, ay) := by simpa using h2
              subst h3
              refine Or.inr ⟨rfl, ?_⟩
              rw [List.length_map, hG.ln, List.take_length]
              have : t' = t := by
                have h4 : T st = some t' := h1
                rw [hTs] at h4
                exact (Option.some.inj h4).symm
              rw [this] at g
              exact hcpl _ _ _ _ g
      · rintro _ H15 ⟨T, A, y8, y9, y10, y11, y12, y13, rfl, hL, hD, hB⟩
        obtain ⟨xs, ep, a1, a2, a3⟩ := hB.ex
        have lx := hD.fewB n_rows n4 h10 a2 fun s hs => ((a3 s).mp hs).1
        refine ⟨_, rfl, dB, xs, ep, rfl, a1, by omega, fun aL2 haL2 => ?_⟩
        have e16 := same_new (o := HO.lst (xs.map fun x => V.ref x.2.1)) haL2
        refine ⟨_, ?_, kk + 1, xs.map fun x => (x.1, x.2.1), aL2, T, A, _, _, _, _, _, _, _, rfl, rfl, ⟨?_, fun y hy => ?_, fun y hy => ?_, fun s t h1 h2 => ?_⟩, by rw [List.length_map]; exact lx, ?_⟩
        · omega
        · rw [List.map_map]
          exact upd_same
        · obtain ⟨z, hz, rfl⟩ := List.mem_map.mp hy
          exact (a1.keys z hz).kn (Kn.of e16)
        · obtain ⟨z, hz, rfl⟩ := List.mem_map.mp hy
          exact (a3 z.1).mp (List.mem_map.mpr ⟨z, hz, rfl⟩)
        · obtain ⟨z, hz, rfl⟩ := List.mem_map.mp ((a3 s).mpr ⟨⟨t, h1⟩, h2⟩)
          exact ⟨_, List.mem_map.mpr ⟨z, hz, rfl⟩, rfl⟩
        · have hD' := hD.same e16
          refine ⟨hD'.e, hD'.tm, hD'.ah, hD'.si.weak (Nat.le_refl _) (fun s t h c' s' e' h1 g h2 => ?_)⟩
          by_cases hlt : s.1.sum < kk
          · exact Or.inl hlt
          · obtain ⟨y, hy, hys⟩ := hL.al s t h1 (by omega)
            rw [List.length_map, List.take_length]
            exact Or.inr ⟨y, hy, hys⟩⟩
end Rw82
/-! is_done, table_of, plan_to, soonest_done, plan_for. -/
namespace Rw82
open PySem PySem.Spec PyProof.Rows L2
variable {P : Program} {w : World} {mg : Str → Option Value} {base : Heap} {k : Nat} {G : Ad}
abbrev sp_is_done : Sp := fun vs H Q _ => ∃ (a t : Addr) (rows : List (List Cloth)) (cn : List Nat), vs = [.ref a, .ref t] ∧ RowsAt H a rows ∧ H t = some (.tup (cn.map fun m => V.int (m : Nat))) ∧ cn.length = rows.length ∧ rows.length ≤ 4 ∧
  ∀ H' r, Same H H' → (r = true ↔ Done rows cn) → Q (.bl r) H'
theorem sc_is_done : FnScope ["cloths", "counts", "many", "rest"] ["cloths", "counts"] (defScope sis_done) := ⟨rfl, rfl, rfl, by decide +kernel, rfl, by decide +kernel, by decide +kernel⟩
theorem c_is_done (B : Bn mg) (F : Gd G.K mg "is_done" sis_done) : Ca P w G.K mg base (k + 1) "is_done" sp_is_done :=
  ca_0 F sc_is_done (fun _ _ _ _ _ _ us hl => match us, hl with | [_, _], _ => rfl) (fun vs H Q E h => by obtain ⟨_, _, _, _, rfl, _⟩ := h; rfl)
  fun f cdv A outer s H vs Q E hr h => ⟨_, /- slots: 0 cloths, 1 counts, 2 many, 3 rest -/ (pss_one (ps_ret (pe_callB (cr_all rfl) (by rfl) B.all (by decide +kernel) (pa_cons (pe_lc (own := [("many", 2), ("rest", 3)]) (g := (gTup G.K 2 (gCons (gName 2) (gCons (gName 3) gNil)))) (tt := tYes) (te := (tOp rEq (tVar 2) (tCB (rLenSq G.K) (tCons (tVar 3) tNil)))) rfl sc_is_done.nd (pi_zipTL (by rfl) B.zip (pa_cons (pv 1) (pa_cons (pv 0) pa_nil))) (blkOk_by (own := [("many", 2), ("rest", 3)]) (N := ["cloths", "counts", "many", "rest"]) (sc := defScope sis_done) (by decide +kernel)) (fun _ _ _ _ _ => by exact (pg_tup rfl (pgs_cons (pg_name (i := 2) sc_is_done.nd rfl (Or.inl rfl)) (pgs_cons (pg_name (i := 3) sc_is_done.nd rfl (Or.inl rfl)) pgs_nil)))) (fun _ _ _ _ _ => by exact pts_nil) (fun _ _ _ _ _ => by exact (pe_cmpR op_eq (pv 2) (pe_callB call_len_seq (by rfl) B.len PySem.boot_len (pa_cons (pv 3) pa_nil)) (nomark _)))) pa_nil)))), by
    obtain ⟨a, t, rows, cn, rfl, hR, ht, hl, h4, q⟩ := h
    obtain ⟨ls, hls, hlr, hcon⟩ := hR.ex
    dsimp only [tSeq, tRet, tRetN, tIfS, tAsg, tDrop, tNext, tNever, tVar, tC, tCons, tNil, tCB, tOp, tTest, tB, tAnd, tOr, tNot, tAndV, tOrV, tNotV, tChain, tTup, tLst, tFld, sFld, tCall, tMeth, tMake, tDGet, tDIn, tDNotIn, sDPut, tDNewK, tSl, tPart, tNoPart, gTup, gCons, gNil, gSub, tBM, tUn]
    dsimp only [cx_p, cx_w, cx_K]
    have lz : (cn.map fun m => V.int (m : Nat)).length = (ls.map V.ref).length := by rw [List.length_map, List.length_map, hl, hlr]
    refine ⟨_, rfl, _, rfl, t, a, _, _, rfl, Or.inl (Or.inl ht), Or.inl (Or.inl hls), fun D hD => lc_it (walk_zipM lz) (fun i H' => Same H H' ∧ ∃ bs : List Bool, H' D = some (.lst (bs.map V.bl)) ∧ bs.length = i ∧ (bs.all id = true ↔ ∀ j, j < i → ∀ row m, rows[j]? = some row → cn[j]? = some m → m = row.length)) ⟨same_new hD, [], upd_same, rfl, ⟨fun _ j hj => absurd hj (Nat.not_lt_zero _), fun _ => rfl⟩⟩ (fun i H' _ z => ⟨Or.inl (Or.inl (z.1 _ _ ht)), Or.inl (Or.inl (z.1 _ _ hls))⟩) ?_ ?_⟩
    · rintro i x H1 H2 hi ⟨e1, bs, hbs, lb, hall⟩ ⟨T, u, v, rfl, hT, rfl, hu, hv⟩
      have hi' : i < cn.length := by simpa using hi
      replace hu : (cn.map fun m => V.int (m : Nat))[i]? = some u := hu
      replace hv : (ls.map V.ref)[i]? = some v := hv
      rw [List.getElem?_map] at hu hv
      obtain ⟨m, hm, rfl⟩ := Option.map_eq_some_iff.mp hu
      obtain ⟨l, hl1, rfl⟩ := Option.map_eq_some_iff.mp hv
      have gr : rows[i]? = some (rows[i]'(by omega)) := List.getElem?_eq_getElem _
      generalize rows[i]'(by omega) = row at gr
      obtain ⟨ts, hts, hU⟩ := hcon i l row hl1 gr
      have lts : ts.length = row.length := by have := hU.ln; rw [List.length_map] at this; exact this
      have e12 : Same H1 (upd H1 T (.tup [.int (m : Nat), .ref l])) := same_new hT
      have e02 := Evl.Ex.trans e1 e12
      refine ⟨T, _, rfl, Or.inl (Or.inl upd_same), rfl, _, _, rfl, _, _, rfl, rfl, rfl, _, rfl, _, rfl, l, _, rfl, Or.inl (Or.inl (Or.inl (e02 _ _ hts))), rfl, _, e12 _ _ hbs, by rw [List.length_map]; exact small16' (by omega), same_mut e02 hD, bs ++ [decide (V.int (m : Nat) = V.int ((ts.map V.ref).length : Nat))], by rw [upd_same, List.map_append]; rfl, by rw [List.length_append, lb]; rfl, ?_⟩
      rw [List.all_append, Bool.and_eq_true, hall]
      have hd : ([decide (V.int (m : Nat) = V.int ((ts.map V.ref).length : Nat))].all id = true) ↔ m = row.length := by
        rw [List.length_map, lts]
        simp only [List.all_cons, List.all_nil, Bool.and_true, id_eq, decide_eq_true_eq, V.int.injEq]
        omega
      rw [hd]
      constructor
      · rintro ⟨h1, h2⟩ j hj row' m' g1 g2
        by_cases hji : j < i
        · exact h1 j hji row' m' g1 g2
        · obtain rfl : j = i := by omega
          rw [gr] at g1
          rw [hm] at g2
          cases g1
          cases g2
          exact h2
      · intro h
        exact ⟨fun j hj row' m' g1 g2 => h j (by omega) row' m' g1 g2, h i (Nat.lt_succ_self _) row m gr hm⟩
    · rintro H1 ⟨e1, bs, hbs, lb, hall⟩
      refine ⟨D, bs, rfl, Or.inl (Or.inl hbs), q _ _ e1 (hall.trans ⟨fun h j row m h1 h2 => h j (by rw [List.length_map]; exact (List.getElem?_eq_some_iff.mp h2).1) row m h1 h2, fun h j _ row m h1 h2 => h j row m h1 h2⟩)⟩⟩
abbrev sp_table_of (P : Program) (w : World) : Sp := fun vs H Q _ => ∃ (dT : Addr) (xs : XS) (ep : Nat) (T : Stt → Option Int), vs = [.ref dT] ∧ NdAt P w H dT xs ep ∧ TT xs T ∧ xs.length ≤ 73205 ∧ ∀ H' a, Same H H' → Q (.ref a) H'
theorem sc_table_of : FnScope ["times", "counts", "last"] ["times"] (defScope stable_of) := ⟨rfl, rfl, rfl, by decide +kernel, rfl, by decide +kernel, by decide +kernel⟩
theorem c_table_of (B : Bn mg) (F : Gd G.K mg "table_of" stable_of) : Ca P w G.K mg base (k + 1) "table_of" (sp_table_of P w) :=
  ca_0 F sc_table_of (fun _ _ _ _ _ _ us hl => match us, hl with | [_], _ => rfl) (fun vs H Q E h => by obtain ⟨_, _, _, _, rfl, _⟩ := h; rfl)
  fun f cdv A outer s H vs Q E hr h => ⟨_, /- slots: 0 times, 1 counts, 2 last -/ (pss_one (ps_ret (pe_callB (cr_sortedN hr.units) (by rfl) B.sorted (by decide +kernel) (pa_cons (pe_lc (own := [("counts", 1), ("last", 2)]) (g := (gTup G.K 2 (gCons (gName 1) (gCons (gName 2) gNil)))) (tt := tYes) (te := (tTup (tCons (tVar 1) (tCons (tVar 2) (tCons (tNdGet P w (tVar 0) (tTup (tCons (tVar 1) (tCons (tVar 2) tNil)))) tNil))))) rfl sc_table_of.nd (pi_nd (pv 0)) (blkOk_by (own := [("counts", 1), ("last", 2)]) (N := ["times", "counts", "last"]) (sc := defScope stable_of) (by decide +kernel)) (fun _ _ _ _ _ => by exact (pg_tup rfl (pgs_cons (pg_name (i := 1) sc_table_of.nd rfl (Or.inl rfl)) (pgs_cons (pg_name (i := 2) sc_table_of.nd rfl (Or.inl rfl)) pgs_nil)))) (fun _ _ _ _ _ => by exact pts_nil) (fun _ _ _ _ _ => by exact (pe_tup (pa_cons (pv 1) (pa_cons (pv 2) (pa_cons (pe_ndget (hu8 hr) (pv 0) (pe_tup (pa_cons (pv 1) (pa_cons (pv 2) pa_nil))) (fun _ _ => rfl)) pa_nil)))))) pa_nil)))), by
    obtain ⟨dT, xs, ep, T, rfl, hN, tt, lx, q⟩ := h
    dsimp only [tSeq, tRet, tRetN, tIfS, tAsg, tDrop, tNext, tNever, tVar, tC, tCons, tNil, tCB, tOp, tTest, tB, tAnd, tOr, tNot, tAndV, tOrV, tNotV, tChain, tTup, tLst, tFld, sFld, tCall, tMeth, tMake, tDGet, tDIn, tDNotIn, sDPut, tDNewK, tSl, tPart, tNoPart, gTup, gCons, gNil, gSub, tBM, tUn]
    dsimp only [cx_p, cx_w, cx_K]
    refine ⟨_, rfl, dT, xs, ep, rfl, hN.at_, fun D hD => lc_it walk_nd (fun i H' => Same H H' ∧ ∃ ks : List (Stt × Int × Addr), H' D = some (.lst (ks.map fun x => V.ref x.2.2)) ∧ ks.length = i ∧ ∀ x ∈ ks, ∃ b, H' x.2.2 = some (.tup [.ref b, .int x.1.2, .int x.2.1]) ∧ H' b = some (.tup (x.1.1.map fun m => V.int (m : Nat)))) ⟨same_new hD, [], upd_same, rfl, fun _ m => nomatch m⟩ (fun i H' _ z => z.1 _ _ hN.at_) ?_ ?_⟩
    · rintro i x H1 H2 hi ⟨e1, ks, hks, lk, hk⟩ ⟨rfl, y, hy, rfl⟩
      have hym := List.mem_of_getElem? hy
      obtain ⟨b, hb1, hb2⟩ := (hN.keys y hym).kn (Kn.of e1)
      obtain ⟨t, ht, hv⟩ := Option.map_eq_some_iff.mp (tt.mem hym)
      refine ⟨y.2.1, _, rfl, Or.inl (Or.inl hb1), rfl, _, _, rfl, _, _, rfl, rfl, rfl, _, rfl, _, rfl, _, rfl, _, rfl, _, rfl, (show 2 ≤ sizeLine by decide), fun p1 hp1 => ?_⟩
      have e2 := same_new (o := HO.tup [V.ref b, V.int y.1.2]) hp1
      have e02 := Evl.Ex.trans e1 e2
      refine ⟨dT, xs, ep, p1, y.1, .int t, rfl, hN.same e02, rfl, ⟨b, upd_same, e2 _ _ hb2⟩, ((tt.val y.1).trans (tt.mem hym)).trans (congrArg some hv.symm), (show 3 ≤ sizeLine by decide), fun p2 hp2 => ?_⟩
      have e3 := same_new (o := HO.tup [V.ref b, V.int y.1.2, V.int t]) hp2
      have e13 := Evl.Ex.trans e2 e3
      have e03 := Evl.Ex.trans e1 e13
      have hD3 := e13 _ _ hks
      have kn := same_mut (o := HO.lst ((ks.map fun x => V.ref x.2.2) ++ [V.ref p2])) e03 hD
      have tl : ∀ {c : Addr} {zs : List V}, (upd (upd H2 p1 (.tup [V.ref b, V.int y.1.2])) p2 (.tup [V.ref b, V.int y.1.2, V.int t])) c = some (.tup zs) → (upd (upd (upd H2 p1 (.tup [V.ref b, V.int y.1.2])) p2 (.tup [V.ref b, V.int y.1.2, V.int t])) D (.lst ((ks.map fun x => V.ref x.2.2) ++ [V.ref p2]))) c = some (.tup zs) := fun z => by
        rw [upd_ne (fun w => by rw [w, hD3] at z; cases z)]
        exact z
      refine ⟨_, hD3, by rw [List.length_map]; exact small16' (by omega), kn, ks ++ [(y.1, t, p2)], by rw [upd_same, List.map_append]; rfl, by rw [List.length_append, lk]; rfl, fun x hx => ?_⟩
      rcases List.mem_append.mp hx with hx | hx
      · obtain ⟨c, c1, c2⟩ := hk x hx
        exact ⟨c, tl (e13 _ _ c1), tl (e13 _ _ c2)⟩
      · rw [List.mem_singleton] at hx
        rw [hx]
        exact ⟨b, tl upd_same, tl (e13 _ _ hb2)⟩
    · rintro H1 ⟨e1, ks, hks, lk, hk⟩
      exact ⟨D, ks, rfl, Or.inl (Or.inl hks), hk, by omega, fun p ys hp => q _ p (Evl.Ex.trans e1 (same_new hp))⟩⟩
abbrev sp_plan_to (P : Program) (w : World) : Sp := fun vs H Q _ => ∃ (a dA : Addr) (s : Stt) (t : Int) (xsA : XS) (epA : Nat) (rows : List (List Cloth)) (r : Int → Nat → Int) (b : Option Int) (s0 : Stt) (t0 : Int) (T : Stt → Option Int) (A : Stt → Option (Stt × Str)), vs = [.ref a, .ref dA] ∧ KeyAt H a s ∧ NdAt P w H dA xsA epA ∧ AT H xsA A ∧ Srch rows r b s0 t0 T A ∧ T s = some t ∧ s.1.sum ≤ 1000 ∧
  ∀ H' l cs, Same H H' → H' l = some (.lst (cs.map fun c => V.str c.name)) → Lead rows r b s0 t0 s t cs → Q (.ref l) H'
theorem sc_plan_to : FnScope ["state", "ahead", "names", "name"] ["state", "ahead"] (defScope splan_to) := ⟨rfl, rfl, rfl, by decide +kernel, rfl, by decide +kernel, by decide +kernel⟩
theorem c_plan_to (B : Bn mg) (F : Gd G.K mg "plan_to" splan_to) : Ca P w G.K mg base (k + 1) "plan_to" (sp_plan_to P w) :=
  ca_0 F sc_plan_to (fun _ _ _ _ _ _ us hl => match us, hl with | [_, _], _ => rfl) (fun vs H Q E h => by obtain ⟨_, _, _, _, _, _, _, _, _, _, _, _, _, rfl, _⟩ := h; rfl)
  fun f cdv A outer s H vs Q E hr h => ⟨_, /- slots: 0 state, 1 ahead, 2 names, 3 name -/ (pss_cons (ps_set (i := 2) sc_plan_to.nd rfl (Or.inl rfl) (pe_lst pa_nil))
      (pss_cons (ps_while PassesOwn.never (pt_cmp (pc_ndin (hu8 hr) (pv 0) (pv 1)) rfl) (pss_cons (ps_asg (pe_ndget (hu8 hr) (pv 1) (pv 0) (fun _ _ => rfl)) (pg_tup rfl (pgs_cons (pg_name (i := 0) sc_plan_to.nd rfl (Or.inl rfl)) (pgs_cons (pg_name (i := 3) sc_plan_to.nd rfl (Or.inl rfl)) pgs_nil))))
      (pss_one (ps_expr (pe_bm PySem.F.plainAttrs_list PySem.F.slot_list_append PySem.F.type_list_append mt_append (pv 2) (pa_cons (pv 3) pa_nil))))))
      (pss_one (ps_ret (pe_revL (pv 2)))))), by
    obtain ⟨a, dA, st, t, xsA, epA, rows, r, b, s0, t0, T, A, rfl, hK, hN, hA, hS, hT, h1000, q⟩ := h
    dsimp only [tSeq, tRet, tRetN, tIfS, tAsg, tDrop, tNext, tNever, tVar, tC, tCons, tNil, tCB, tOp, tTest, tB, tAnd, tOr, tNot, tAndV, tOrV, tNotV, tChain, tTup, tLst, tFld, sFld, tCall, tMeth, tMake, tDGet, tDIn, tDNotIn, sDPut, tDNewK, tSl, tPart, tNoPart, gTup, gCons, gNil, gSub, tBM, tUn]
    dsimp only [cx_p, cx_w, cx_K]
    refine ⟨Nat.zero_le _, fun D hD => ?_⟩
    refine ⟨fun m σ' H' => ∃ a' s' t' cs y3, σ' = [some (.ref a'), some (.ref dA), some (.ref D), y3] ∧ m = s'.1.sum ∧ T s' = some t' ∧ KeyAt H' a' s' ∧ Same H H' ∧ H' D = some (.lst (cs.reverse.map fun c => V.str c.name)) ∧ cs.length + s'.1.sum ≤ 1000 ∧ Back rows r b s0 t0 st t s' t' cs, ⟨_, a, st, t, [], _, rfl, rfl, hT, hK.kn (Kn.of (same_new hD)), same_new hD, upd_same, by show 0 + _ ≤ _; omega, Back.refl _ _⟩, ?_⟩
    rintro _ _ H1 ⟨a', s', t', cs, y3, rfl, rfl, hT', hK', e1, hD1, lc, hB⟩
    have hA1 := hA.kn (Kn.of e1)
    refine ⟨_, rfl, _, rfl, dA, xsA, epA, a', s', rfl, hN.same e1, rfl, hK', ?_⟩
    have hv := hA1.val s'
    cases hAs : A s' with
    | none =>
      rw [hAs] at hv
      dsimp only at hv
      have hb : (valS xsA s').isSome = false := by rw [hv]; rfl
      rw [hb]
      refine ⟨false, rfl, ?_⟩
      dsimp only
      rw [if_neg Bool.false_ne_true]
      have e0 : s' = s0 := by
        by_cases e : s' = s0
        · exact e
        · obtain ⟨p, tp, h, c, z, _⟩ := hS.back s' t' hT' e
          rw [hAs] at z
          cases z
      subst e0
      have et : t' = t0 := by
        have := hS.start
        rw [hT'] at this
        exact Option.some.inj this
      rw [et] at hB
      refine ⟨_, rfl, D, _, rfl, Or.inl (Or.inl hD1), fun p hp => ?_⟩
      have e2 := same_new (o := HO.lst ((cs.reverse.map fun c => V.str c.name).reverse)) hp
      exact q _ p cs (Evl.Ex.trans e1 e2) (by rw [upd_same, ← List.map_reverse, List.reverse_reverse]) hB.fin
    | some pz =>
      obtain ⟨p, z⟩ := pz
      rw [hAs] at hv
      obtain ⟨u, a2, v1, v2, v3⟩ := hv
      have hb : (valS xsA s').isSome = true := by rw [v1]; rfl
      rw [hb]
      refine ⟨true, rfl, ?_⟩
      dsimp only
      rw [if_pos rfl]
      have n0 : s' ≠ s0 := fun e => by
        rw [e, hS.noA] at hAs
        cases hAs
      obtain ⟨p', tp, hh, c, z1, z2, z3, z4⟩ := hS.back s' t' hT' n0
      rw [hAs] at z1
      cases z1
      have hsum := z3.sum
      refine ⟨_, fun _ _ h => h, _, rfl, _, rfl, dA, xsA, epA, a', s', .ref u, rfl, hN.same e1, rfl, hK', v1, u, _, rfl, Or.inl (Or.inl v2), rfl, _, _, rfl, _, _, rfl, rfl, ?_⟩
      refine ⟨_, rfl, Or.inl ⟨rfl, _, Or.inl (Or.inl hD1)⟩, _, rfl, D, _, _, rfl, rfl, hD1, by rw [List.length_map, List.length_reverse]; exact small16' (by omega), ?_⟩
      have e2 : Same H (upd H1 D (.lst ((cs.reverse.map fun c => V.str c.name) ++ [V.str c.name]))) := same_mut e1 hD
      refine ⟨p.1.sum, by omega, a2, p, tp, c :: cs, _, rfl, rfl, z2, ?_, e2, ?_, ?_, hB.step z3 z4⟩
      · obtain ⟨b2, w1, w2⟩ := v3
        have tl : ∀ {c' : Addr} {zs : List V}, H1 c' = some (.tup zs) → (upd H1 D (.lst ((cs.reverse.map fun c => V.str c.name) ++ [V.str c.name]))) c' = some (.tup zs) := fun z => by
          rw [upd_ne (fun w => by rw [w, hD1] at z; cases z)]
          exact z
        exact ⟨b2, tl w1, tl w2⟩
      · rw [upd_same, List.reverse_cons, List.map_append]
        rfl
      · show cs.length + 1 + p.1.sum ≤ 1000
        omega⟩
abbrev sp_soonest_done (P : Program) (w : World) (G : Ad) : Sp := fun vs H Q _ => ∃ (p dT : Addr) (W : Wk) (xs : XS) (ep : Nat) (T : Stt → Option Int), vs = [.ref p, .ref dT] ∧ WkAt G H p W ∧ Tb G H ∧ NdAt P w H dT xs ep ∧ TT xs T ∧ (∀ s t, T s = some t → s.1.length = W.n) ∧
  ∀ H' v rows, Ext G H H' → Tb G H' → IsRows dueLe W.cl W.n rows → ((v = .non ∧ ∀ s t, T s = some t → ¬ Done rows s.1) ∨ (∃ a s t, v = .ref a ∧ KeyAt H' a s ∧ T s = some t ∧ Done rows s.1)) → NdAt P w H' dT xs ep → Q v H'
theorem sc_soonest_done : FnScope ["works", "times", "cloths", "best", "state"] ["works", "times"] (defScope ssoonest_done) := ⟨rfl, rfl, rfl, by decide +kernel, rfl, by decide +kernel, by decide +kernel⟩
theorem c_soonest_done (B : Bn mg) (C_due_cloths : Ca P w G.K mg base k "due_cloths" (sp_due_cloths G)) (C_is_done : Ca P w G.K mg base k "is_done" sp_is_done) (F : Gd G.K mg "soonest_done" ssoonest_done) : Ca P w G.K mg base (k + 1) "soonest_done" (sp_soonest_done P w G) :=
  ca_0 F sc_soonest_done (fun _ _ _ _ _ _ us hl => match us, hl with | [_, _], _ => rfl) (fun vs H Q E h => by obtain ⟨_, _, _, _, _, _, rfl, _⟩ := h; rfl)
  fun f cdv A outer s H vs Q E hr h => ⟨_, /- slots: 0 works, 1 times, 2 cloths, 3 best, 4 state -/ (pss_cons (ps_set (i := 2) sc_soonest_done.nd rfl (Or.inl rfl) (pe_ca C_due_cloths hr (pa_cons (pv 0) pa_nil)))
      (pss_cons (ps_set (i := 3) sc_soonest_done.nd rfl (Or.inl rfl) pe_non)
      (pss_cons (ps_for PassesOwn.never rfl (pi_nd (pv 1)) (pg_name (i := 4) sc_soonest_done.nd rfl (Or.inl rfl)) (pss_one (ps_if (PW.pt (pw_and (pt_val (pe_ca C_is_done hr (pa_cons (pv 2) (pa_cons (pe_ix ix_tup (pv 4) pe_int (fun _ _ => rfl)) pa_nil)))) (pw_and1 (PW.pt (pw_or (pt_cmpR op_isN (pv 3) pe_non (nomark _)) (pw_or1 (pt_cmpR op_lt (pe_ndget (hu8 hr) (pv 1) (pv 4) (fun _ _ => rfl)) (pe_ndget (hu8 hr) (pv 1) (pv 3) (fun _ _ => rfl)) (nomark _)))))))) (pss_one (ps_set (i := 3) sc_soonest_done.nd rfl (Or.inl rfl) (pv 4))) pss_nil)))
      (pss_one (ps_ret (pv 3)))))), by
    obtain ⟨p, dT, W, xs, ep, T, rfl, hW, hTb, hN, tt, hln, q⟩ := h
    have n4 := hW.ok.n4
    dsimp only [tSeq, tRet, tRetN, tIfS, tAsg, tDrop, tNext, tNever, tVar, tC, tCons, tNil, tCB, tOp, tTest, tB, tAnd, tOr, tNot, tAndV, tOrV, tNotV, tChain, tTup, tLst, tFld, sFld, tCall, tMeth, tMake, tDGet, tDIn, tDNotIn, sDPut, tDNewK, tSl, tPart, tNoPart, gTup, gCons, gNil, gSub, tBM, tUn]
    dsimp only [cx_p, cx_w, cx_K]
    refine ⟨_, rfl, p, W, rfl, hW, hTb, fun H1 c rows e1 t1 hrows hR => ?_⟩
    have hN1 : NdAt P w H1 dT xs ep := ⟨e1.k _ _ hN.at_ fun _ z => (nomatch z), fun y hy => (hN.keys y hy).kp e1.k⟩
    have n_rows := hrows.1
    refine ⟨_, rfl, dT, xs, ep, rfl, hN1.at_, ?_⟩
    refine for_it walk_nd (fun i σ' H' => ∃ best y4, σ' = [some (.ref p), some (.ref dT), some (.ref c), some best, y4] ∧ Same H1 H' ∧ ((best = .non ∧ ∀ x ∈ xs.take i, ¬ Done rows x.1.1) ∨ (∃ a s t, best = .ref a ∧ KeyAt H' a s ∧ T s = some t ∧ Done rows s.1))) ⟨_, _, rfl, fun _ _ x => x, Or.inl ⟨rfl, fun _ m => nomatch m⟩⟩ (fun i σ' H' _ z => by
      obtain ⟨_, _, _, z, _⟩ := z
      exact z _ _ hN1.at_) ?_ ?_
    · rintro i x _ H2 H3 hi ⟨best, y4, rfl, e2, hb⟩ ⟨rfl, y, hy, rfl⟩
      have hym := List.mem_of_getElem? hy
      have hN3 := hN1.same e2
      obtain ⟨b, hb1, hb2⟩ := hN3.keys y hym
      obtain ⟨t, ht, hv⟩ := Option.map_eq_some_iff.mp (tt.mem hym)
      refine ⟨_, rfl, _, rfl, y.2.1, _, 0, _, rfl, rfl, Or.inl (Or.inl hb1), rfl, c, b, rows, y.1.1, rfl, hR.kp (Kp.of e2), hb2, (hln _ _ ht).trans n_rows.symm, by omega, fun H4 r e4 hr4 => ?_⟩
      have e24 := Evl.Ex.trans e2 e4
      have key : KeyAt H4 y.2.1 y.1 := ⟨b, e4 _ _ hb1, e4 _ _ hb2⟩
      have up : Done rows y.1.1 → ((V.ref y.2.1 = .non ∧ ∀ x ∈ xs.take (i + 1), ¬ Done rows x.1.1) ∨ (∃ a s t, V.ref y.2.1 = .ref a ∧ KeyAt H4 a s ∧ T s = some t ∧ Done rows s.1)) := fun hd => Or.inr ⟨_, _, t, rfl, key, ht, hd⟩
      cases r with
      | false =>
        refine ⟨false, rfl, best, _, rfl, e24, ?_⟩
        rcases hb with ⟨h1, h2⟩ | ⟨a, s, t', h1, h2, h3, h4⟩
        · refine Or.inl ⟨h1, fun x hx => ?_⟩
          rw [List.take_add_one, hy] at hx
          rcases List.mem_append.mp hx with hx | hx
          · exact h2 x hx
          · have h3 : x = y := by simpa using hx
            rw [h3]
            exact fun z => absurd (hr4.mpr z) Bool.false_ne_true
        · exact Or.inr ⟨a, s, t', h1, h2.kn (Kn.of e4), h3, h4⟩
      | true =>
        have hd := hr4.mp rfl
        refine ⟨true, rfl, ?_⟩
        rcases hb with ⟨rfl, h2⟩ | ⟨a, s, t', rfl, h2, h3, h4⟩
        · exact ⟨_, rfl, rfl, true, rfl, _, rfl, _, _, rfl, e24, up hd⟩
        · have h5 := h2.kn (Kn.of e4)
          have hN4 := hN1.same e24
          refine ⟨_, rfl, rfl, false, rfl, _, rfl, _, rfl, dT, xs, ep, y.2.1, y.1, .int t, rfl, hN4, rfl, key, (tt.val y.1).trans (by rw [ht]; rfl), _, rfl, _, rfl, dT, xs, ep, a, s, .int t', rfl, hN4, rfl, h5, (tt.val s).trans (by rw [h3]; rfl), _, _, rfl, rfl, ?_⟩
          by_cases hlt : t < t'
          · exact ⟨true, congrArg V.bl (decide_eq_true hlt), _, rfl, _, _, rfl, e24, up hd⟩
          · exact ⟨false, congrArg V.bl (decide_eq_false hlt), _, _, rfl, e24, Or.inr ⟨a, s, t', rfl, h5, h3, h4⟩⟩
    · rintro _ H2 ⟨best, y4, rfl, e2, hb⟩
      refine ⟨_, rfl, q _ _ rows (e1.trans (Ext.of e2)) ((Ext.of e2).t t1) hrows ?_ (hN1.same e2)⟩
      rcases hb with ⟨h1, h2⟩ | h1
      · refine Or.inl ⟨h1, fun s t h => ?_⟩
        obtain ⟨x, hx, rfl⟩ := KS.known tt (s := s) (v := .int t) (by rw [h]; rfl)
        exact h2 x (by rw [List.take_length]; exact hx)
      · exact Or.inr h1⟩
abbrev sp_plan_for (G : Ad) : Sp := fun vs H Q _ => ∃ (p : Addr) (W : Wk) (b : Option Int), vs = [.ref p, bdV b] ∧ WkAt G H p W ∧ Tb G H ∧
  ∀ H' t, Ext G H H' → Tb G H' → ((∃ l rows pl, H' t = some (.tup [.str "plan", .ref l]) ∧ H' l = some (.lst (pl.map fun c => V.str c.name)) ∧ IsRows dueLe W.cl W.n rows ∧ Keeps W.rin b W.last W.time rows pl) ∨ (∃ v rows, H' t = some (.tup [.str "shut", v]) ∧ IsRows dueLe W.cl W.n rows ∧ ¬ Can W.rin b W.last W.time rows)) → Q (.ref t) H'
theorem sc_plan_for : FnScope ["works", "bound", "state", "times", "ahead"] ["works", "bound"] (defScope splan_for) := ⟨rfl, rfl, rfl, by decide +kernel, rfl, by decide +kernel, by decide +kernel⟩
theorem c_plan_for (B : Bn mg) (C_searched : Ca P w G.K mg base k "searched" (sp_searched P w G)) (C_soonest_done : Ca P w G.K mg base k "soonest_done" (sp_soonest_done P w G)) (C_table_of : Ca P w G.K mg base k "table_of" (sp_table_of P w)) (C_plan_to : Ca P w G.K mg base k "plan_to" (sp_plan_to P w)) (F : Gd G.K mg "plan_for" splan_for) : Ca P w G.K mg base (k + 1) "plan_for" (sp_plan_for G) :=
  ca_0 F sc_plan_for (fun _ _ _ _ _ _ us hl => match us, hl with | [_, _], _ => rfl) (fun vs H Q E h => by obtain ⟨_, _, _, rfl, _⟩ := h; rfl)
  fun f cdv A outer s H vs Q E hr h => ⟨_, /- slots: 0 works, 1 bound, 2 state, 3 times, 4 ahead -/ (pss_cons (ps_asg (pe_ca C_searched hr (pa_cons (pv 0) (pa_cons (pv 1) pa_nil))) (pg_tup rfl (pgs_cons (pg_name (i := 3) sc_plan_for.nd rfl (Or.inl rfl)) (pgs_cons (pg_name (i := 4) sc_plan_for.nd rfl (Or.inl rfl)) pgs_nil))))
      (pss_cons (ps_set (i := 2) sc_plan_for.nd rfl (Or.inl rfl) (pe_ca C_soonest_done hr (pa_cons (pv 0) (pa_cons (pv 3) pa_nil))))
      (pss_cons (ps_if (pt_cmpR op_isN (pv 2) pe_non (nomark _)) (pss_one (ps_ret (pe_tup (pa_cons pe_str (pa_cons (pe_ca C_table_of hr (pa_cons (pv 3) pa_nil)) pa_nil))))) pss_nil)
      (pss_one (ps_ret (pe_tup (pa_cons pe_str (pa_cons (pe_ca C_plan_to hr (pa_cons (pv 2) (pa_cons (pv 4) pa_nil))) pa_nil)))))))), by
    obtain ⟨p, W, b, rfl, hW, hTb, q⟩ := h
    have n4 := hW.ok.n4
    dsimp only [tSeq, tRet, tRetN, tIfS, tAsg, tDrop, tNext, tNever, tVar, tC, tCons, tNil, tCB, tOp, tTest, tB, tAnd, tOr, tNot, tAndV, tOrV, tNotV, tChain, tTup, tLst, tFld, sFld, tCall, tMeth, tMake, tDGet, tDIn, tDNotIn, sDPut, tDNewK, tSl, tPart, tNoPart, gTup, gCons, gNil, gSub, tBM, tUn]
    dsimp only [cx_p, cx_w, cx_K]
    refine ⟨_, rfl, _, rfl, p, W, b, rfl, hW, hTb, fun H1 t dT dA xsT epT xsA epA rows T A e1 t1 hrows ht hT hA tt ta lx hS hwf => ?_⟩
    have hW1 := hW.kp e1.k
    refine ⟨t, _, rfl, Or.inl (Or.inl ht), rfl, _, _, rfl, _, _, rfl, rfl, ?_⟩
    refine ⟨_, rfl, _, rfl, p, dT, W, xsT, epT, T, rfl, hW1, t1, hT, tt, fun s t h => (hwf s t h).1, fun H2 v rows2 e2 t2 hrows2 hv hT2 => ?_⟩
    obtain rfl : rows2 = rows := hrows2.one hrows (List.Perm.refl _) (due_anti hW.ok.nd)
    refine ⟨_, rfl, ?_⟩
    have e12 := e1.trans e2
    have s0 : ∀ {s : Stt} {t : Int}, T s = some t → s.1.sum ≤ 1000 := fun {s t} h => by
      obtain ⟨w1, w2, _⟩ := hwf s t h
      have key : ∀ l : List Nat, (∀ m ∈ l, m ≤ 10) → l.sum ≤ 10 * l.length := by
        intro l
        induction l with
        | nil => intro _; exact Nat.le_refl _
        | cons a l ih =>
          intro hl
          have h1 := hl a (List.mem_cons_self ..)
          have h2 := ih fun m hm => hl m (List.mem_cons_of_mem _ hm)
          show a + l.sum ≤ 10 * (l.length + 1)
          omega
      have := key _ w2
      omega
    rcases hv with ⟨rfl, hno⟩ | ⟨a, st, tm, rfl, hK, hTs, hd⟩
    · refine ⟨rfl, true, rfl, _, rfl, dT, xsT, epT, T, rfl, hT2, tt, by omega, fun H3 a e3 => ⟨(show 2 ≤ sizeLine by decide), fun p3 hp3 => ?_⟩⟩
      have e4 := same_new (o := HO.tup [V.str "shut", V.ref a]) hp3
      have e24 := e12.trans (Ext.of (Evl.Ex.trans e3 e4))
      refine q _ p3 e24 (e24.t hTb) (Or.inr ⟨_, _, upd_same, hrows2, hS.no hrows2.hue (by rw [hrows2.1]) hno⟩)
    · have hA2 : NdAt P w H2 dA xsA epA := ⟨e2.k _ _ hA.at_ fun _ z => (nomatch z), fun y hy => (hA.keys y hy).kp e2.k⟩
      have ta2 : AT H2 xsA A := ⟨ta.nd, fun s => by
        have h := ta.val s
        cases hAs : A s with
        | none => rw [hAs] at h; exact h
        | some x =>
          rw [hAs] at h
          obtain ⟨u, a, h1, h2, h3⟩ := h
          exact ⟨u, a, h1, Kp.tup e2.k h2, h3.kp e2.k⟩⟩
      refine ⟨rfl, false, rfl, _, rfl, _, rfl, a, dA, st, tm, xsA, epA, rows2, W.rin, b, _, _, T, A, rfl, hK, hA2, ta2, hS, hTs, s0 hTs, fun H3 l cs e3 hl hL => ⟨(show 2 ≤ sizeLine by decide), fun p3 hp3 => ?_⟩⟩
      have e4 := same_new (o := HO.tup [V.str "plan", V.ref l]) hp3
      have e24 := e12.trans (Ext.of (Evl.Ex.trans e3 e4))
      exact q _ p3 e24 (e24.t hTb) (Or.inl ⟨l, rows2, cs, upd_same, e4 _ _ hl, hrows2, hL.keeps hrows2.hue (by rw [hrows2.1]) (hS.wf _ _ hTs) hd⟩)⟩
end Rw82
/-! safe, least_late. -/
namespace Rw82
open PySem PySem.Spec PyProof.Rows L2
variable {P : Program} {w : World} {mg : Str → Option Value} {base : Heap} {k : Nat} {G : Ad}
theorem set_total : ∀ {rows : List (List Cloth)} {h : Nat} {c : Cloth} {r : List Cloth}, rows[h]? = some (c :: r) → (rows.map List.length).sum = ((rows.set h r).map List.length).sum + 1
  | [], _, _, _, e => nomatch e
  | x :: rows, 0, c, r, e => by
    cases e
    show (r.length + 1) + _ = r.length + _ + 1
    omega
  | x :: rows, h + 1, c, r, e => by
    have ih := set_total (rows := rows) (h := h) (c := c) (r := r) e
    show x.length + (rows.map List.length).sum = x.length + ((rows.set h r).map List.length).sum + 1
    omega
theorem len_le_sum : ∀ {rows : List (List Cloth)} {r : List Cloth}, r ∈ rows → r.length ≤ (rows.map List.length).sum
  | x :: rows, r, h => by
    show _ ≤ x.length + (rows.map List.length).sum
    rcases List.mem_cons.mp h with rfl | h
    · omega
    · have := len_le_sum h
      omega
theorem dueord_some : ∀ (m : Nat) (rows : List (List Cloth)), (rows.map List.length).sum = m → ∃ p, DueOrd rows p
  | 0, rows, hm => ⟨[], .nil fun r hr => by
    have h1 := len_le_sum hr
    exact List.eq_nil_of_length_eq_zero (by omega)⟩
  | m + 1, rows, hm => by
    have key : ∃ (h : Nat) (c : Cloth) (r : List Cloth), rows[h]? = some (c :: r) := by
      apply Classical.byContradiction
      intro hn
      have : (rows.map List.length).sum = 0 := by
        clear hm
        induction rows with
        | nil => rfl
        | cons x rows ih =>
          cases x with
          | cons c r => exact absurd ⟨0, c, r, rfl⟩ hn
          | nil =>
            have := ih fun ⟨h, c, r, e⟩ => hn ⟨h + 1, c, r, e⟩
            show 0 + (rows.map List.length).sum = 0
            omega
      omega
    obtain ⟨h, c, r, e⟩ := key
    have ht := set_total e
    obtain ⟨p, hp⟩ := dueord_some m (rows.set h r) (by omega)
    exact ⟨c :: p, .cons e hp⟩
theorem can_none {r : Int → Nat → Int} {last t : Int} (rows : List (List Cloth)) : Can r none last t rows := by
  obtain ⟨p, hp⟩ := dueord_some _ rows rfl
  exact ⟨p, hp, fun _ _ => okB_none _⟩
theorem lates_ge {r : Int → Nat → Int} {M : Int} {n : Nat} (hr : ∀ f h, h < n → 0 ≤ r f h) : ∀ (p : List Cloth) (last t : Int), (∀ c ∈ p, c.due ≤ M ∧ 0 < c.len ∧ c.hue < n) → ∀ l ∈ lates r last t p, t - M ≤ l
  | [], _, _, _, l, hl => nomatch hl
  | c :: p, last, t, hc, l, hl => by
    obtain ⟨h1, h2, h3⟩ := hc c (List.mem_cons_self ..)
    have h4 := hr last c.hue h3
    rcases List.mem_cons.mp hl with rfl | hl
    · omega
    · have := lates_ge hr p c.hue (t + r last c.hue + c.len) (fun x hx => hc x (List.mem_cons_of_mem _ hx)) l hl
      omega
theorem due_max : ∀ cl : List Cloth, ∃ M : Int, ∀ c ∈ cl, c.due ≤ M
  | [] => ⟨0, fun _ m => nomatch m⟩
  | c :: cl => by
    obtain ⟨M, h⟩ := due_max cl
    refine ⟨max c.due M, fun x hx => ?_⟩
    rcases List.mem_cons.mp hx with rfl | hx
    · omega
    · have := h x hx
      omega
theorem mx_is {ls : List Int} (h : ls ≠ []) : ∃ m, mxV ls = .int m ∧ m ∈ ls ∧ ∀ x ∈ ls, x ≤ m := by
  cases ls with
  | nil => exact absurd rfl h
  | cons n r =>
    refine ⟨r.foldl max n, rfl, ?_, fun x hx => ?_⟩
    · clear h
      induction r generalizing n with
      | nil => exact List.mem_cons_self ..
      | cons a r ih =>
        have := ih (max n a)
        show (r.foldl max (max n a)) ∈ _
        rcases List.mem_cons.mp this with e | e
        · rw [e]
          rcases Int.le_total n a with z | z
          · rw [Int.max_eq_right z]
            exact List.mem_cons_of_mem _ (List.mem_cons_self ..)
          · rw [Int.max_eq_left z]
            exact List.mem_cons_self ..
        · exact List.mem_cons_of_mem _ (List.mem_cons_of_mem _ e)
    · have h2 := (foldl_max_le (r.foldl max n) r n).mp (Int.le_refl _)
      rcases List.mem_cons.mp hx with rfl | hx
      · exact h2.1
      · exact h2.2 x hx
theorem IsRows.perm {cl cl' : List Cloth} {n : Nat} {rows : List (List Cloth)} (x : IsRows dueLe cl n rows) (p : cl.Perm cl') : IsRows dueLe cl' n rows :=
  ⟨x.1, fun h row e => ⟨(x.2 h row e).1.trans (p.filter _), (x.2 h row e).2⟩⟩
/-- safe to be done next -/
def SafeC (W : Wk) (b : Int) (c : Cloth) : Prop := c ∈ W.cl ∧ okB (some b) (W.time + W.rin W.last c.hue + c.len - c.due) ∧ ∃ rows cl', IsRows dueLe cl' W.n rows ∧ cl'.Perm (W.cl.filter fun x => !decide (x.name = c.name)) ∧ Can W.rin (some b) c.hue (W.time + W.rin W.last c.hue + c.len) rows
abbrev sp_safe (G : Ad) : Sp := fun vs H Q _ => ∃ (p : Addr) (W : Wk) (b : Int), vs = [.ref p, .int b] ∧ WkAt G H p W ∧ Tb G H ∧
  ∀ H' a (ys : List Str), Ext G H H' → Tb G H' → H' a = some (.lst (ys.map V.str)) → ys.length ≤ 10 → (∀ z, z ∈ ys ↔ ∃ c, SafeC W b c ∧ c.name = z) → Q (.ref a) H'
theorem sc_safe : FnScope ["works", "bound", "found", "name"] ["works", "bound"] (defScope ssafe) := ⟨rfl, rfl, rfl, by decide +kernel, rfl, by decide +kernel, by decide +kernel⟩
theorem c_safe (B : Bn mg) (FC : Fc G mg) (MW_names : Me P w G.K mg base k G.CW "names" (spW_names G)) (MW_begun : Me P w G.K mg base k G.CW "begun" (spW_begun G)) (C_keeps : Ca P w G.K mg base k "keeps" (sp_keeps G)) (C_plan_for : Ca P w G.K mg base k "plan_for" (sp_plan_for G)) (F : Gd G.K mg "safe" ssafe) : Ca P w G.K mg base (k + 1) "safe" (sp_safe G) :=
  ca_0 F sc_safe (fun _ _ _ _ _ _ us hl => match us, hl with | [_, _], _ => rfl) (fun vs H Q E h => by obtain ⟨_, _, _, rfl, _⟩ := h; rfl)
  fun f cdv A outer s H vs Q E hr h => ⟨_, /- slots: 0 works, 1 bound, 2 found, 3 name -/ (pss_cons (ps_set (i := 2) sc_safe.nd rfl (Or.inl rfl) (pe_lst pa_nil))
      (pss_cons (ps_for PassesOwn.never rfl (pi_list (pe_me0 MW_names hr (pv 0))) (pg_name (i := 3) sc_safe.nd rfl (Or.inl rfl)) (pss_one (ps_if (PW.pt (pw_and (pt_val (pe_ca C_keeps hr (pa_cons (pv 0) (pa_cons (pe_lst (pa_cons (pv 3) pa_nil)) (pa_cons (pv 1) pa_nil))))) (pw_and1 (pt_cmpR op_eq (pe_ix ix_tup (pe_ca C_plan_for hr (pa_cons (pe_me MW_begun hr (pv 0) (pa_cons (pe_lst (pa_cons (pv 3) pa_nil)) pa_nil)) (pa_cons (pv 1) pa_nil))) pe_int (fun _ _ => rfl)) pe_str (nomark _))))) (pss_one (ps_expr (pe_bm PySem.F.plainAttrs_list PySem.F.slot_list_append PySem.F.type_list_append mt_append (pv 2) (pa_cons (pv 3) pa_nil)))) pss_nil)))
      (pss_one (ps_ret (pv 2))))), by
    obtain ⟨p, W, b, rfl, hW, hTb, q⟩ := h
    obtain ⟨dx, ls0, ts0, d, cs, O⟩ := hW.open_
    have ok := hW.ok
    dsimp only [tSeq, tRet, tRetN, tIfS, tAsg, tDrop, tNext, tNever, tVar, tC, tCons, tNil, tCB, tOp, tTest, tB, tAnd, tOr, tNot, tAndV, tOrV, tNotV, tChain, tTup, tLst, tFld, sFld, tCall, tMeth, tMake, tDGet, tDIn, tDNotIn, sDPut, tDNewK, tSl, tPart, tNoPart, gTup, gCons, gNil, gSub, tBM, tUn]
    dsimp only [cx_p, cx_w, cx_K]
    refine ⟨Nat.zero_le _, fun D hD => ?_⟩
    have e0 := same_new (o := HO.lst []) hD
    refine ⟨_, rfl, p, dx, _, rfl, e0 _ _ O.at_, wf_no (by decide +kernel), p, W, rfl, hW.same e0, fun H1 a ys e1 hys _ ha => ⟨a, rfl, ⟨_, Or.inl (Or.inl ha)⟩, ?_⟩⟩
    have e01 := Evl.Ex.trans e0 e1
    have hD1 := e1 _ _ upd_same
    have nda : (ys.map V.str).length ≤ 10 := by
      rw [List.length_map, hys.length_eq, List.length_map]
      exact ok.few
    refine for_it (walk_list (xs := ys.map V.str)) (fun i σ' H' => ∃ zs y3, σ' = [some (.ref p), some (.int b), some (.ref D), y3] ∧ Ext G H H' ∧ H' a = some (.lst (ys.map V.str)) ∧ H' D = some (.lst (zs.map V.str)) ∧ zs.length ≤ i ∧ ∀ z, z ∈ zs ↔ z ∈ ys.take i ∧ ∃ c, SafeC W b c ∧ c.name = z) ⟨[], _, rfl, Ext.of e01, ha, hD1, Nat.le_refl _, fun z => ⟨fun m => (nomatch m), fun m => (nomatch m.1)⟩⟩ (fun i σ' H' _ z => by
      obtain ⟨_, _, _, _, z, _⟩ := z
      exact Or.inl (Or.inl z)) ?_ ?_
    · rintro i x _ H2 H3 hi ⟨zs, y3, rfl, e2, ha2, hD2, lz, hz⟩ ⟨rfl, hx⟩
      rw [List.getElem?_map] at hx
      obtain ⟨z, hzi, rfl⟩ := Option.map_eq_some_iff.mp hx
      have hzm : z ∈ W.cl.map (·.name) := hys.mem_iff.mp (List.mem_of_getElem? hzi)
      obtain ⟨c, hc, rfl⟩ := List.mem_map.mp hzm
      have hDa : D ≠ a := fun e => by
        rw [e, ha] at hD1
        have hyn : ys.map V.str = [] := by injection hD1 with z; injection z
        have := (List.getElem?_eq_some_iff.mp hzi).1
        have h0 := congrArg List.length hyn
        rw [List.length_map] at h0
        have h00 : ys.length = 0 := h0
        omega
      have hW2 := hW.kp e2.k
      have take1 : ∀ y, y ∈ ys.take (i + 1) ↔ y ∈ ys.take i ∨ y = c.name := fun y => by
        rw [List.take_add_one, hzi, List.mem_append]
        simp
      refine ⟨_, rfl, _, rfl, (show 1 ≤ sizeLine by decide), fun l hl => ⟨_, rfl, p, W, l, [c], some b, rfl, hW2.same (same_new hl), upd_same, List.nodup_cons.mpr ⟨List.not_mem_nil, List.nodup_nil⟩, fun c' m => by rw [List.mem_singleton.mp m]; exact hc, fun H4 r e4 hr4 => ?_⟩⟩
      have e24 := Evl.Ex.trans (same_new (o := HO.lst [V.str c.name]) hl) e4
      have e04 := e2.trans (Ext.of e24)
      refine ⟨r, rfl, ?_⟩
      cases r with
      | false =>
        refine ⟨zs, _, rfl, e04, e24 _ _ ha2, e24 _ _ hD2, by omega, fun y => ?_⟩
        rw [hz, take1]
        refine ⟨fun m => ⟨Or.inl m.1, m.2⟩, fun m => ?_⟩
        obtain ⟨m1 | m1, c', s1, s2⟩ := m
        · exact ⟨m1, c', s1, s2⟩
        · exfalso
          obtain rfl : c' = c := one_of_name ok.nd s1.1 hc (s2.trans m1)
          refine absurd (hr4.mpr fun x hx => ?_) Bool.false_ne_true
          have hx' : x = W.time + W.rin W.last c'.hue + c'.len - c'.due := by simpa [lates] using hx
          rw [hx']
          exact s1.2.1
      | true =>
        have late1 : okB (some b) (W.time + W.rin W.last c.hue + c.len - c.due) := hr4.mp rfl _ (List.mem_cons_self ..)
        have t4 := e04.t hTb
        refine ⟨_, rfl, p, dx, _, rfl, Kp.ins e04.k O.at_, wf_no (by decide +kernel), _, rfl, (show 1 ≤ sizeLine by decide), fun l2 hl2 => ⟨p, W, l2, c, rfl, (hW.kp e04.k).same (same_new hl2), upd_same, hc, fun H5 p' cl' e5 hW5 hp5 => ?_⟩⟩
        have e05 := e04.trans (Ext.of (Evl.Ex.trans (same_new (o := HO.lst [V.str c.name]) hl2) e5))
        have e25 := (Ext.of (G := G) e24).trans (Ext.of (Evl.Ex.trans (same_new (o := HO.lst [V.str c.name]) hl2) e5))
        refine ⟨_, rfl, p', _, some b, rfl, hW5, e05.t hTb, fun H6 t e6 t6 hres => ?_⟩
        have e06 := e05.trans e6
        have e26 := e25.trans e6
        have hD6 := Kp.lst e26.k hD2
        rcases hres with ⟨l3, rows, pl, h1, h2, h3, h4⟩ | ⟨v, rw0, h1, hr0, h2⟩
        · refine ⟨t, _, 0, _, rfl, rfl, Or.inl (Or.inl h1), rfl, rfl, true, congrArg V.bl (decide_eq_true rfl), ?_⟩
          have sc : SafeC W b c := ⟨hc, late1, rows, cl', h3, hp5, pl, h4⟩
          refine ⟨_, rfl, Or.inl ⟨rfl, _, Or.inl (Or.inl hD6)⟩, _, rfl, D, _, _, rfl, rfl, hD6, by rw [List.length_map]; exact small16' (by rw [List.length_map] at hi nda; omega), zs ++ [c.name], _, rfl, e06.mut hD hD6, ?_, by rw [upd_same, List.map_append]; rfl, by rw [List.length_append]; show zs.length + 1 ≤ _; omega, fun y => ?_⟩
          · rw [upd_ne hDa.symm]
            exact Kp.lst e26.k ha2
          · rw [List.mem_append, hz, take1, List.mem_singleton]
            constructor
            · rintro (⟨m1, m2⟩ | rfl)
              · exact ⟨Or.inl m1, m2⟩
              · exact ⟨Or.inr rfl, c, sc, rfl⟩
            · rintro ⟨m1 | m1, m2⟩
              · exact Or.inl ⟨m1, m2⟩
              · exact Or.inr m1
        · refine ⟨t, _, 0, _, rfl, rfl, Or.inl (Or.inl h1), rfl, rfl, false, congrArg V.bl (decide_eq_false (fun z => by
            injection z with z
            exact absurd z (by decide +kernel))), ?_⟩
          refine ⟨zs, _, rfl, e06, Kp.lst e26.k ha2, hD6, by omega, fun y => ?_⟩
          rw [hz, take1]
          refine ⟨fun m => ⟨Or.inl m.1, m.2⟩, fun m => ?_⟩
          obtain ⟨m1 | m1, c', s1, s2⟩ := m
          · exact ⟨m1, c', s1, s2⟩
          · exfalso
            obtain rfl : c' = c := one_of_name ok.nd s1.1 hc (s2.trans m1)
            obtain ⟨_, _, rows, cl2, r1, r2, r3⟩ := s1
            have h9 : IsRows dueLe cl' W.n rows := r1.perm (r2.trans hp5.symm)
            obtain rfl : rows = rw0 := h9.one hr0 (List.Perm.refl _) (due_anti hW5.ok.nd)
            exact h2 r3
    · rintro _ H2 ⟨zs, y3, rfl, e2, ha2, hD2, lz, hz⟩
      refine ⟨_, rfl, q H2 D zs e2 (e2.t hTb) hD2 (by omega) fun z => ?_⟩
      rw [hz, List.length_map, List.take_length]
      refine ⟨fun m => m.2, fun m => ⟨?_, m⟩⟩
      obtain ⟨c, s1, rfl⟩ := m
      exact hys.mem_iff.mpr (List.mem_map.mpr ⟨c, s1.1, rfl⟩)⟩
abbrev sp_least_late (G : Ad) : Sp := fun vs H Q _ => ∃ (p : Addr) (W : Wk), vs = [.ref p] ∧ WkAt G H p W ∧ Tb G H ∧
  (W.cl = [] → ∀ H', Ext G H H' → Tb G H' → Q .non H') ∧ (W.cl ≠ [] → ∀ H' t l v1 v2, Ext G H H' → Tb G H' → H' t = some (.tup [.int l, v1, v2]) → (∃ rows, IsRows dueLe W.cl W.n rows ∧ Can W.rin (some l) W.last W.time rows) → Q (.ref t) H')
theorem sc_least_late : FnScope ["works", "word", "told", "plan", "late"] ["works"] (defScope sleast_late) := ⟨rfl, rfl, rfl, by decide +kernel, rfl, by decide +kernel, by decide +kernel⟩
theorem c_least_late (B : Bn mg) (FC : Fc G mg) (MW_names : Me P w G.K mg base k G.CW "names" (spW_names G)) (C_lateness : Ca P w G.K mg base k "lateness" (sp_lateness G)) (C_plan_for : Ca P w G.K mg base k "plan_for" (sp_plan_for G)) (F : Gd G.K mg "least_late" sleast_late) : Ca P w G.K mg base (k + 1) "least_late" (sp_least_late G) :=
  ca_0 F sc_least_late (fun _ _ _ _ _ _ us hl => match us, hl with | [_], _ => rfl) (fun vs H Q E h => by obtain ⟨_, _, rfl, _⟩ := h; rfl)
  fun f cdv A outer s H vs Q E hr h => ⟨_, /- slots: 0 works, 1 word, 2 told, 3 plan, 4 late -/ (pss_cons (ps_if (pt_cmpR (op_eqNil hr.units0) (pe_me0 MW_names hr (pv 0)) (pe_lst pa_nil) (nomark _)) (pss_one (ps_ret pe_non)) pss_nil)
      (pss_cons (ps_asg (pe_ca C_plan_for hr (pa_cons (pv 0) (pa_cons pe_non pa_nil))) (pg_tup rfl (pgs_cons (pg_name (i := 1) sc_least_late.nd rfl (Or.inl rfl)) (pgs_cons (pg_name (i := 2) sc_least_late.nd rfl (Or.inl rfl)) pgs_nil))))
      (pss_cons (ps_while PassesOwn.never (pt_cmpR op_eq (pv 1) pe_str (nomark _)) (pss_cons (ps_set (i := 3) sc_least_late.nd rfl (Or.inl rfl) (pv 2))
      (pss_cons (ps_set (i := 4) sc_least_late.nd rfl (Or.inl rfl) (pe_ca C_lateness hr (pa_cons (pv 0) (pa_cons (pv 3) pa_nil))))
      (pss_one (ps_asg (pe_ca C_plan_for hr (pa_cons (pv 0) (pa_cons (pe_op op_sub (pv 4) pe_int) pa_nil))) (pg_tup rfl (pgs_cons (pg_name (i := 1) sc_least_late.nd rfl (Or.inl rfl)) (pgs_cons (pg_name (i := 2) sc_least_late.nd rfl (Or.inl rfl)) pgs_nil))))))))
      (pss_one (ps_ret (pe_tup (pa_cons (pv 4) (pa_cons (pv 3) (pa_cons (pv 2) pa_nil))))))))), by
    obtain ⟨p, W, rfl, hW, hTb, qe, qn⟩ := h
    obtain ⟨dx, ls0, ts0, d, cs, O⟩ := hW.open_
    have ok := hW.ok
    dsimp only [tSeq, tRet, tRetN, tIfS, tAsg, tDrop, tNext, tNever, tVar, tC, tCons, tNil, tCB, tOp, tTest, tB, tAnd, tOr, tNot, tAndV, tOrV, tNotV, tChain, tTup, tLst, tFld, sFld, tCall, tMeth, tMake, tDGet, tDIn, tDNotIn, sDPut, tDNewK, tSl, tPart, tNoPart, gTup, gCons, gNil, gSub, tBM, tUn]
    dsimp only [cx_p, cx_w, cx_K]
    refine ⟨_, rfl, p, dx, _, rfl, O.at_, wf_no (by decide +kernel), p, W, rfl, hW, fun H1 a ys e1 hys _ ha => ⟨Nat.zero_le _, fun D hD => ⟨a, D, _, rfl, rfl, Or.inl (Or.inl (same_new hD _ _ ha)), Or.inl (Or.inl upd_same), ?_⟩⟩⟩
    have e01 := Evl.Ex.trans e1 (same_new (o := HO.lst []) hD)
    have E1 : Ext G H (upd H1 D (.lst [])) := Ext.of e01
    generalize upd H1 D (.lst []) = H2 at E1 e01 ⊢
    by_cases hz : W.cl = []
    · have hy : ys = [] := by
        have h1 := hys.length_eq
        rw [hz] at h1
        exact List.eq_nil_of_length_eq_zero h1
      rw [hy]
      exact ⟨true, rfl, qe hz H2 E1 (E1.t hTb)⟩
    · have hy : (ys.map V.str).isEmpty = false := by
        cases ys with
        | nil =>
          have h1 := hys.length_eq
          rw [List.length_map] at h1
          exact absurd (List.eq_nil_of_length_eq_zero h1.symm) hz
        | cons _ _ => rfl
      rw [hy]
      refine ⟨false, rfl, ?_⟩
      obtain ⟨M, hM⟩ := due_max W.cl
      have hcl : ∀ c ∈ W.cl, c.due ≤ M ∧ 0 < c.len ∧ c.hue < W.n := fun c hc => ⟨hM c hc, (ok.good c hc).2.2.1, (ok.good c hc).2.1⟩
      refine ⟨_, rfl, p, W, none, rfl, hW.same e01, E1.t hTb, fun H3 t e3 t3 hres => ?_⟩
      have e03 := E1.trans e3
      have ofK : ∀ {bd : Option Int} {rows : List (List Cloth)} {pl : List Cloth}, IsRows dueLe W.cl W.n rows → Keeps W.rin bd W.last W.time rows pl → (pl.map (·.name)).Nodup ∧ (∀ c ∈ pl, c ∈ W.cl) ∧ ∃ late, mxV (lates W.rin W.last W.time pl) = .int late ∧ late ∈ lates W.rin W.last W.time pl ∧ (∀ x ∈ lates W.rin W.last W.time pl, x ≤ late) ∧ W.time - M ≤ late := fun {bd rows pl} hr hk => by
        have hp : pl.Perm W.cl := hk.1.perm.trans (hr.flat fun c hc => (hcl c hc).2.2)
        have hm : ∀ c ∈ pl, c ∈ W.cl := fun c hc => hp.mem_iff.mp hc
        have hne : lates W.rin W.last W.time pl ≠ [] := fun z => by
          have h1 := lates_length W.rin pl W.last W.time
          rw [z] at h1
          have h2 : pl = [] := List.eq_nil_of_length_eq_zero h1.symm
          rw [h2] at hp
          exact hz (List.nil_perm.mp hp)
        obtain ⟨late, m1, m2, m3⟩ := mx_is hne
        exact ⟨(hp.map _).nodup_iff.mpr ok.nd, hm, late, m1, m2, m3, lates_ge (fun f h hh => ok.rin0 hh) pl _ _ (fun c hc => hcl c (hm c hc)) late m2⟩
      rcases hres with ⟨l3, rows, pl, h1, h2, h3, h4⟩ | ⟨v, rows, h1, h3, h4⟩
      rotate_left
      · exact absurd (can_none rows) h4
      refine ⟨t, _, rfl, Or.inl (Or.inl h1), rfl, _, _, rfl, _, _, rfl, rfl, ?_⟩
      obtain ⟨_, _, late0, m1, m2, m3, m4⟩ := ofK h3 h4
      refine ⟨fun m σ' H' => Ext G H H' ∧ ∃ wd tv y3 y4, σ' = [some (.ref p), some (.str wd), some tv, y3, y4] ∧ ((wd = "plan" ∧ ∃ l rows pl bd late, tv = .ref l ∧ H' l = some (.lst (pl.map fun c => V.str c.name)) ∧ IsRows dueLe W.cl W.n rows ∧ Keeps W.rin bd W.last W.time rows pl ∧ mxV (lates W.rin W.last W.time pl) = .int late ∧ m = (late - (W.time - M)).toNat + 1) ∨ (wd = "shut" ∧ m = 0 ∧ ∃ v3 late rows pl, y3 = some v3 ∧ y4 = some (.int late) ∧ IsRows dueLe W.cl W.n rows ∧ Keeps W.rin (some late) W.last W.time rows pl)), ⟨_, e03, _, _, _, _, rfl, Or.inl ⟨rfl, l3, rows, pl, none, late0, rfl, h2, h3, h4, m1, rfl⟩⟩, ?_⟩
      clear h1 h2 h3 h4 m1 m2 m3 m4 e3 t3
      rintro m _ H4 ⟨e4, wd, tv, y3, y4, rfl, hcase⟩
      refine ⟨_, rfl, rfl, ?_⟩
      rcases hcase with ⟨rfl, l, rows, pl, bd, late, rfl, hl, hr2, hk, hmx, rfl⟩ | ⟨rfl, rfl, v3, late, rows, pl, rfl, rfl, hr2, hk⟩
      · refine ⟨true, congrArg V.bl (decide_eq_true rfl), ?_⟩
        dsimp only
        rw [if_pos rfl]
        obtain ⟨hnd, hmem, late', m1, m2, m3, m4⟩ := ofK hr2 hk
        rw [hmx] at m1
        injection m1 with m1
        subst m1
        have hW4 := hW.kp e4.k
        refine ⟨_, fun _ _ h => h, _, rfl, _, rfl, _, rfl, p, W, l, pl, rfl, hW4, hl, hnd, hmem, fun H5 e5 => ?_⟩
        rw [hmx]
        have e05 := e4.trans (Ext.of e5)
        refine ⟨_, rfl, _, rfl, _, _, rfl, rfl, p, W, some (late - 1), rfl, hW4.same e5, e05.t hTb, fun H6 t2 e6 t6 hres => ?_⟩
        have e06 := e05.trans e6
        rcases hres with ⟨l3, rows2, pl2, h1, h2, h3, h4⟩ | ⟨v, rows2, h1, h3, h4⟩
        · refine ⟨t2, _, rfl, Or.inl (Or.inl h1), rfl, _, _, rfl, _, _, rfl, rfl, ?_⟩
          obtain ⟨_, _, late2, k1, k2, k3, k4⟩ := ofK h3 h4
          have hlt : late2 ≤ late - 1 := h4.2 late2 k2 _ rfl
          exact ⟨(late2 - (W.time - M)).toNat + 1, by omega, e06, _, _, _, _, rfl, Or.inl ⟨rfl, l3, rows2, pl2, _, late2, rfl, h2, h3, h4, k1, rfl⟩⟩
        · refine ⟨t2, _, rfl, Or.inl (Or.inl h1), rfl, _, _, rfl, _, _, rfl, rfl, ?_⟩
          exact ⟨0, by omega, e06, _, _, _, _, rfl, Or.inr ⟨rfl, rfl, _, late, rows, pl, rfl, rfl, hr2, hk.1, fun x hx => okB_some.mpr (m3 x hx)⟩⟩
      · refine ⟨false, congrArg V.bl (decide_eq_false (fun z => by
          injection z with z
          exact absurd z (by decide +kernel))), ?_⟩
        dsimp only
        rw [if_neg Bool.false_ne_true]
        refine ⟨_, rfl, _, rfl, _, rfl, (show 3 ≤ sizeLine by decide), fun t2 ht2 => ?_⟩
        have e5 := e4.trans (Ext.of (same_new (o := HO.tup [V.int late, v3, tv]) ht2))
        exact qn hz _ t2 late v3 tv e5 (e5.t hTb) upd_same ⟨rows, hr2, pl, hk⟩⟩
end Rw82
/-! The law, plainly: safe cloths, one behind the other. -/
namespace Rw82
open PySem PySem.Spec PyProof.Rows L2
theorem perm_pick {c : Cloth} : ∀ {cl : List Cloth}, (cl.map (·.name)).Nodup → c ∈ cl → cl.Perm (c :: cl.filter fun x => !decide (x.name = c.name))
  | [], _, h => nomatch h
  | a :: cl, nd, h => by
    rw [List.map_cons, List.nodup_cons] at nd
    rcases List.mem_cons.mp h with rfl | h
    · have e : (cl.filter fun x => !decide (x.name = c.name)) = cl := List.filter_eq_self.mpr fun x hx => by
        simp only [Bool.not_eq_true', decide_eq_false_iff_not]
        exact fun z => nd.1 (by rw [← z]; exact List.mem_map.mpr ⟨x, hx, rfl⟩)
      rw [List.filter_cons_of_neg (by simp), e]
    · have ne : a.name ≠ c.name := fun z => nd.1 (by rw [z]; exact List.mem_map.mpr ⟨c, h, rfl⟩)
      rw [List.filter_cons_of_pos (by simpa using ne)]
      exact (List.Perm.cons a (perm_pick nd.2 h)).trans (List.Perm.swap c a _)
theorem Can.le {r : Int → Nat → Int} {last t l b : Int} {rows : List (List Cloth)} (c : Can r (some l) last t rows) (h : l ≤ b) : Can r (some b) last t rows := by
  obtain ⟨p, k⟩ := c
  exact ⟨p, k.mono fun x hx => okB_some.mpr (Int.le_trans (okB_some.mp hx) h)⟩
/-- where a plan keeps the bound, and cloths wait, some cloth is safe -/
theorem can_safe {W : Wk} {b : Int} {rows : List (List Cloth)} (ok : W.Ok) (hr : IsRows dueLe W.cl W.n rows) (hc : Can W.rin (some b) W.last W.time rows) (hne : W.cl ≠ []) : ∃ c, SafeC W b c := by
  obtain ⟨p, hk⟩ := hc
  have hp : p.Perm W.cl := hk.1.perm.trans (hr.flat fun c hc => (ok.good c hc).2.1)
  cases p with
  | nil => exact absurd (List.nil_perm.mp hp) hne
  | cons c p =>
    have hcm : c ∈ W.cl := hp.mem_iff.mp (List.mem_cons_self ..)
    obtain ⟨h1, h, x, e, k⟩ := hk.head
    exact ⟨c, hcm, h1, rows.set h x, W.cl.filter fun x => !decide (x.name = c.name), hr.begun e (perm_pick ok.nd hcm), List.Perm.refl _, p, k⟩
/-- a safe cloth, done -/
theorem safe_next {W W' : Wk} {b : Int} {c : Cloth} (s : SafeC W b c) (hn : W'.n = W.n) (hR : W'.R = W.R) (hl : W'.last = c.hue) (ht : W'.time = W.time + W.rin W.last c.hue + c.len) (hp : W'.cl.Perm (W.cl.filter fun x => !decide (x.name = c.name))) :
    ∃ rows, IsRows dueLe W'.cl W'.n rows ∧ Can W'.rin (some b) W'.last W'.time rows := by
  obtain ⟨_, _, rows, cl', h1, h2, h3⟩ := s
  have e : W'.rin = W.rin := by
    unfold Wk.rin
    rw [hn, hR]
  refine ⟨rows, ?_, ?_⟩
  · rw [hn]
    exact h1.perm (h2.trans hp.symm)
  · rw [e, hl, ht]
    exact h3
/-! ### sorted texts: just one way -/
theorem le_of_lt {a b : Str} (h : (!ltCps b.cps.toList a.cps.toList) = true) : a.cps.toList ≤ b.cps.toList := by
  rw [PyProof.Rows.ltCps_eq] at h
  have h' : ¬ b.cps.toList < a.cps.toList := by simpa using h
  exact List.not_lt.mp h'
theorem rising_all : ∀ (l : List Str) (p : Str), risingS p l = true → ∀ x ∈ l, p.cps.toList ≤ x.cps.toList
  | [], _, _, _, m => nomatch m
  | y :: l, p, h, x, m => by
    have h' : (!ltCps y.cps.toList p.cps.toList && risingS y l) = true := h
    rw [Bool.and_eq_true] at h'
    have h1 := le_of_lt h'.1
    rcases List.mem_cons.mp m with rfl | m
    · exact h1
    · exact List.le_trans h1 (rising_all l y h'.2 x m)
theorem rising_tail {x : Str} {l : List Str} (h : sortedS (x :: l) = true) : sortedS l = true := by
  cases l with
  | nil => rfl
  | cons y l =>
    have h' : (!ltCps y.cps.toList x.cps.toList && risingS y l) = true := h
    rw [Bool.and_eq_true] at h'
    exact h'.2
theorem sorted_one : ∀ {l m : List Str}, l.Perm m → sortedS l = true → sortedS m = true → l = m
  | [], m, h, _, _ => List.Perm.nil_eq h
  | a :: l, [], h, _, _ => absurd h.length_eq (by simp)
  | a :: l, c :: m, h, hl, hm => by
    have e : a = c := by
      rcases List.mem_cons.mp (h.mem_iff.mp (List.mem_cons_self (a := a) (l := l))) with e | ha
      · exact e
      · rcases List.mem_cons.mp (h.mem_iff.mpr (List.mem_cons_self (a := c) (l := m))) with e | hc
        · exact e.symm
        · have h1 := rising_all l a hl c hc
          have h2 := rising_all m c hm a ha
          have h3 := List.le_antisymm h1 h2
          obtain ⟨a⟩ := a
          obtain ⟨c⟩ := c
          exact congrArg Str.mk (Array.toList_inj.mp h3)
    subst e
    rw [sorted_one (List.Perm.cons_inv h) (rising_tail hl) (rising_tail hm)]
end Rw82
/-! A list that a call does not know stays: the frame. -/
namespace Rw82
open PySem PySem.Spec PyProof.Rows L2
variable {P : Program} {w : World} {mg : Str → Option Value} {base : Heap} {k : Nat} {G : Ad}
/-- all but s -/
def hid (H : Hp) (s : Addr) : Hp := fun b => if b = s then none else H b
section
variable {H H' : Hp} {s b : Addr} {o : HO} {xs : List V}
theorem hid_same : hid H s s = none := if_pos rfl
theorem hid_ne (h : b ≠ s) : hid H s b = H b := if_neg h
theorem hid_of (h : hid H s b = some o) : b ≠ s ∧ H b = some o := by
  unfold hid at h
  by_cases e : b = s
  · rw [if_pos e] at h
    cases h
  · rw [if_neg e] at h
    exact ⟨e, h⟩
theorem hid_le : Same (hid H s) H := fun b o h => (hid_of h).2
theorem hid_upd : hid (upd H s o) s = hid H s := by
  funext b
  unfold hid
  by_cases e : b = s
  · rw [if_pos e, if_pos e]
  · rw [if_neg e, if_neg e, upd_ne e]
theorem hid_upd_none (h : H s = none) : hid (upd H s o) s = H := by
  funext b
  unfold hid
  by_cases e : b = s
  · rw [if_pos e, e, h]
  · rw [if_neg e, upd_ne e]
theorem hid_same_of (e : Same H H') (n : H s = none) : Same H (hid H' s) := fun b o h => by
  rw [hid_ne (ne_of_none h n)]
  exact e b o h
theorem hid_mono (e : Same H H') : Same (hid H s) (hid H' s) := fun b o h => by
  obtain ⟨n, h⟩ := hid_of h
  rw [hid_ne n]
  exact e b o h
theorem hid_kp (e : Kp H H') : Kp (hid H s) (hid H' s) := fun b o h nt => by
  obtain ⟨n, h⟩ := hid_of h
  rw [hid_ne n]
  exact e b o h nt
end
/-- what a call that raises nothing does beside a list that it does not know -/
def frSp (sp : Sp) : Sp := fun vs H Q _ => ∃ (s : Addr) (xs : List V), H s = some (.lst xs) ∧ sp vs (hid H s) (fun v H' => H' s = none → Q v (upd H' s (.lst xs))) fun _ _ _ => False
theorem fr_fn {K : PySem.W.Frag} {f : Addr} {fd : FuncData} {ps : List Str} {sp : Sp} (F : FnOk P w K mg base (L2.CX P w) k f fd ps sp) : FnOk P w K mg base (L2.CX P w) k f fd ps (frSp sp) := by
  refine ⟨fun vs H Q E ⟨s, xs, _, h⟩ => F.len _ _ _ _ h, fun A outer s H args us vs Q E hr he hb hv ⟨a, xs, ha, hsp⟩ => ?_⟩
  have nown : ∀ {b y : Addr}, H b = some (.own y) → b ≠ a := fun h e => by rw [e, ha] at h; cases h
  have ntup : ∀ {b : Addr} {ys : List V}, H b = some (.tup ys) → b ≠ a := fun h e => by rw [e, ha] at h; cases h
  have hok' : HOk P w (hid H a) s.heap := fun b o h => by
    obtain ⟨n, h⟩ := hid_of h
    exact (he.hok b o h).stay (fun _ _ _ q => q) (fun c q => by rw [hid_ne (nown q)]; exact q) fun c ys q => by rw [hid_ne (ntup q)]; exact q
  have hn : ∀ {b : Addr}, H b = none → hid H a b = none := fun {b} h => by
    unfold hid
    split
    · rfl
    · exact h
  refine codeAny_mono (F.run A outer s (hid H a) args us vs _ _ hr ⟨he.frames, he.mod, fun b o e => ⟨(he.bs b o e).1, hn (he.bs b o e).2⟩, he.bsz, he.funs, fun b hb => hn (he.frf b hb), hok', he.bare⟩ hb hv hsp) fun r s' h => ?_
  cases r with
  | error e =>
    obtain ⟨_, _, _, _, _, _, _, _, _, _, _, _, h⟩ := h
    exact h.elim
  | ok fl =>
    cases fl with
    | ret u =>
      obtain ⟨v, H', os, bare, un, hok, rel, q⟩ := h
      obtain ⟨hl, its, n, r0, g0⟩ := he.hok a _ ha
      have na : H' a = none := un.free a _ g0 hid_same List.not_mem_nil
      have nf : a ∉ frs outer := fun m => by
        have z := he.frf a m
        rw [ha] at z
        cases z
      have g1 := un.keep a _ g0 hid_same nf List.not_mem_nil
      refine ⟨v, upd H' a (.lst xs), os, bare, ⟨fun b o e z => un.keep b o e (hn z), fun b o e z => un.slot b o e (hn z), fun b o e z m => ?_, un.there, fun b ys z => ?_, fun b o y z => ?_, fun b pp z => ?_⟩, fun b o z => ?_, rel, q na⟩
      · rw [upd_ne (fun y => by rw [y, ha] at z; cases z)]
        exact un.free b o e (hn z) m
      · rw [upd_ne (ntup z)]
        exact un.tups b ys (by rw [hid_ne (ntup z)]; exact z)
      · have nb : b ≠ a := fun y => by rw [y, ha] at z; cases z
        rw [upd_ne nb]
        exact un.frzs b o y (by rw [hid_ne nb]; exact z)
      · have nb : b ≠ a := fun y => by rw [y, ha] at z; cases z
        rw [upd_ne nb]
        exact un.tbls b pp (by rw [hid_ne nb]; exact z)
      · by_cases eb : b = a
        · rw [eb, upd_same] at z
          cases z
          rw [eb]
          exact ⟨hl, its, n, r0, g1⟩
        · rw [upd_ne eb] at z
          exact (hok b o z).stay (fun _ _ _ q => q) (fun c q => by rw [upd_ne (ne_of_none q na)]; exact q) fun c ys q => by rw [upd_ne (ne_of_none q na)]; exact q
    | _ => exact h
theorem Me.fr {K : PySem.W.Frag} {C : Addr} {m : Str} {sp : Sp} (c : Me P w K mg base k C m sp) : Me P w K mg base k C m (frSp sp) := by
  obtain ⟨f, fd, ps, hc, hm, F, b⟩ := c.ex
  exact ⟨f, fd, ps, hc, hm, fr_fn F, b⟩
theorem Ca.fr {K : PySem.W.Frag} {x : Str} {sp : Sp} (c : Ca P w K mg base k x sp) : Ca P w K mg base k x (frSp sp) := by
  obtain ⟨f, fd, ps, F, hm, kp, b⟩ := c.ex
  exact ⟨f, fd, ps, fr_fn F, hm, kp, b⟩
end Rw82
/-! The law's numbers: streams and takes. -/
namespace Rw82
open PySem PySem.Spec PyProof.Rows L2
variable {P : Program} {w : World} {mg : Str → Option Value} {base : Heap} {k : Nat} {G : Ad}
theorem rg12 : ∀ l : Fin 64, ∀ k : Fin 2, Builtin.Range.small (k.val : Int) (l.val : Int) 12 = true ∧ 0 ≤ Builtin.Range.rangeSize (k.val : Int) (l.val : Int) 12 ∧ Builtin.Range.rangeSize (k.val : Int) (l.val : Int) 12 ≤ 6 ∧ ∀ t : Fin 6, (t.val : Int) < Builtin.Range.rangeSize (k.val : Int) (l.val : Int) 12 → k.val + 12 * t.val < l.val := by decide +kernel
theorem T120 : (10 : Nat) ^ 60 * 10 ^ 60 ≤ 2 ^ 200 * 2 ^ 200 := by decide +kernel
theorem hMulT : CMulW ((10 : Int) ^ (60 : Int).toNat) ((10 : Int) ^ (60 : Int).toNat) := by
  unfold CMulW
  decide +kernel
theorem hPosT : (0 : Int) < (10 : Int) ^ (60 : Int).toNat * (10 : Int) ^ (60 : Int).toNat := by decide +kernel
theorem hP18 : (0 : Int) < (10 : Int) ^ (18 : Int).toNat := by decide +kernel
theorem hEqT : (10 : Int) ^ (60 : Int).toNat * (10 : Int) ^ (60 : Int).toNat = ((10 ^ 60 * 10 ^ 60 : Nat) : Int) := by decide +kernel
theorem hPow60 : CPow 10 60 := ⟨by decide, by decide, by decide⟩
theorem hPow18 : CPow 10 18 := ⟨by decide, by decide, by decide⟩
theorem powT (i : Nat) : ((10 : Nat) ^ 60 * 10 ^ 60) ^ i ≤ 2 ^ ((200 + 200) * i) :=
  Nat.le_trans (Nat.pow_le_pow_left T120 i) (Nat.le_of_eq (by rw [← Nat.pow_add 2, ← Nat.pow_mul]))
theorem hTb : ((10 : Int) ^ (60 : Int).toNat * (10 : Int) ^ (60 : Int).toNat).natAbs < 2 ^ (200 + 201) := by
  rw [Nat.pow_add]
  decide +kernel
theorem stepT {N f m A : Nat} (hf : f < A) (hm : m < N) : f * N + m < A * N := by
  have h := Nat.mul_le_mul_right N (show f + 1 ≤ A from hf)
  rw [Nat.succ_mul] at h
  omega
theorem castT {N f : Nat} {x : Int} (hx : 0 ≤ x) : (f : Int) * (N : Nat) + x = ((f * N + x.toNat : Nat) : Int) := by
  rw [Int.natCast_add, Int.natCast_mul, Int.toNat_of_nonneg hx]
abbrev mod120 (c : Int) : Int := c % ((10 : Int) ^ (60 : Int).toNat * (10 : Int) ^ (60 : Int).toNat)
abbrev sp_law_mixed : Sp := fun vs H Q _ => ∃ (a : Int) (b : Nat), vs = [.int a, .int (b : Nat)] ∧ b ≤ 1000 ∧ ∀ r : Int, 0 ≤ r → r < 2147483647 → Q (.int r) H
theorem sc_law_mixed : FnScope ["cell", "k", "one"] ["cell", "k"] (defScope s_law_mixed) := ⟨rfl, rfl, rfl, by decide +kernel, rfl, by decide +kernel, by decide +kernel⟩
theorem c_law_mixed (F : Gd G.K mg "_law_mixed" s_law_mixed) : Ca P w G.K mg base (k + 1) "_law_mixed" sp_law_mixed :=
  ca_0 F sc_law_mixed (fun _ _ _ _ _ _ us hl => match us, hl with | [_, _], _ => rfl) (fun vs H Q E h => by obtain ⟨_, _, rfl, _⟩ := h; rfl)
  fun f cdv A outer s H vs Q E hr h => ⟨_, /- slots: 0 cell, 1 k, 2 one -/ (pss_cons (ps_set (i := 2) sc_law_mixed.nd rfl (Or.inl rfl) (pe_op op_mod (pe_op op_mulW (pe_op op_add (pe_op op_add (pe_op op_mod (pv 0) pe_int) (pe_op op_mulW pe_int (pv 1))) pe_int) pe_int) pe_int))
      (pss_one (ps_ret (pe_op op_mod (pe_op op_mulW (pe_op op_mod (pe_op op_mulW (pv 2) (pv 2)) pe_int) pe_int) pe_int)))), by
    obtain ⟨a, b, rfl, hb, q⟩ := h
    dsimp only [tSeq, tRet, tRetN, tIfS, tAsg, tDrop, tNext, tNever, tVar, tC, tCons, tNil, tCB, tOp, tTest, tB, tAnd, tOr, tNot, tAndV, tOrV, tNotV, tChain, tTup, tLst, tFld, sFld, tCall, tMeth, tMake, tDGet, tDIn, tDNotIn, sDPut, tDNewK, tSl, tPart, tNoPart, gTup, gCons, gNil, gSub, tBM, tUn]
    have m1 := Int.emod_nonneg a (show (1000000007 : Int) ≠ 0 by decide)
    have m2 := Int.emod_lt_of_pos a (show (0 : Int) < 1000000007 by decide)
    refine ⟨_, rfl, _, _, rfl, rfl, (show (0 : Int) < 1000000007 from by decide), _, rfl, _, _, rfl, rfl, wide_mul (a := 64) (b := 64) (by decide) (by omega) (by decide) (by decide) (by decide), ?_⟩
    generalize a % 1000000007 = x at m1 m2 ⊢
    refine ⟨_, _, rfl, rfl, _, _, rfl, rfl, _, _, rfl, rfl, wide_mul (a := 64) (b := 64) (by omega) (by decide) (by decide) (by decide) (by decide), _, _, rfl, rfl, (show (0 : Int) < 2147483647 from by decide), ?_⟩
    have n1 := Int.emod_nonneg ((x + 7919 * (b : Int) + 101) * 48271) (show (2147483647 : Int) ≠ 0 by decide)
    have n2 := Int.emod_lt_of_pos ((x + 7919 * (b : Int) + 101) * 48271) (show (0 : Int) < 2147483647 by decide)
    generalize (x + 7919 * (b : Int) + 101) * 48271 % 2147483647 = y at n1 n2 ⊢
    refine ⟨_, rfl, _, rfl, _, _, rfl, rfl, wide_mul (a := 64) (b := 64) (by omega) (by omega) (by decide) (by decide) (by decide), _, _, rfl, rfl, (show (0 : Int) < 2147483629 from by decide), _, _, rfl, rfl, ?_⟩
    have k1 := Int.emod_nonneg (y * y) (show (2147483629 : Int) ≠ 0 by decide)
    have k2 := Int.emod_lt_of_pos (y * y) (show (0 : Int) < 2147483629 by decide)
    generalize y * y % 2147483629 = z at k1 k2 ⊢
    exact ⟨wide_mul (a := 64) (b := 64) (by omega) (by decide) (by decide) (by decide) (by decide), _, _, rfl, rfl, (show (0 : Int) < 2147483647 from by decide), q _ (Int.emod_nonneg _ (by decide)) (Int.emod_lt_of_pos _ (by decide))⟩⟩
abbrev sp_law_take : Sp := fun vs H Q _ => ∃ (s : Addr) (m x : Int), vs = [.ref s, .int m] ∧ 0 < m ∧ m < 2 ^ 200 ∧ H s = some (.lst [.int x]) ∧ ∀ d x', 0 ≤ d → d < m → Q (.int d) (upd H s (.lst [.int x']))
theorem sc_law_take : FnScope ["stream", "many", "digit"] ["stream", "many"] (defScope s_law_take) := ⟨rfl, rfl, rfl, by decide +kernel, rfl, by decide +kernel, by decide +kernel⟩
theorem c_law_take (F : Gd G.K mg "_law_take" s_law_take) : Ca P w G.K mg base (k + 1) "_law_take" sp_law_take :=
  ca_0 F sc_law_take (fun _ _ _ _ _ _ us hl => match us, hl with | [_, _], _ => rfl) (fun vs H Q E h => by obtain ⟨_, _, _, rfl, _⟩ := h; rfl)
  fun f cdv A outer s H vs Q E hr h => ⟨_, /- slots: 0 stream, 1 many, 2 digit -/ (pss_cons (ps_set (i := 2) sc_law_take.nd rfl (Or.inl rfl) (pe_op op_mod (pe_ix ix_list (pv 0) pe_int (fun _ _ => rfl)) (pv 1)))
      (pss_cons (ps_asg (pe_op op_fdivW (pe_ix ix_list (pv 0) pe_int (fun _ _ => rfl)) (pv 1)) (pg_sub (pv 0) pe_int set_list))
      (pss_one (ps_ret (pv 2))))), by
    obtain ⟨s, m, x, rfl, m0, m1, hs, q⟩ := h
    dsimp only [tSeq, tRet, tRetN, tIfS, tAsg, tDrop, tNext, tNever, tVar, tC, tCons, tNil, tCB, tOp, tTest, tB, tAnd, tOr, tNot, tAndV, tOrV, tNotV, tChain, tTup, tLst, tFld, sFld, tCall, tMeth, tMake, tDGet, tDIn, tDNotIn, sDPut, tDNewK, tSl, tPart, tNoPart, gTup, gCons, gNil, gSub, tBM, tUn]
    refine ⟨_, rfl, s, _, 0, _, rfl, rfl, Or.inl (Or.inl hs), rfl, _, rfl, _, _, rfl, rfl, m0, ?_⟩
    refine ⟨_, rfl, s, _, 0, _, rfl, rfl, Or.inl (Or.inl hs), rfl, _, rfl, _, _, rfl, rfl, wide_div (b := 200) m0 (by omega) (by decide) (by decide), ?_⟩
    exact ⟨_, rfl, s, _, 0, 0, rfl, rfl, hs, rfl, _, rfl, q _ _ (Int.emod_nonneg _ (by omega)) (Int.emod_lt_of_pos _ m0)⟩⟩
abbrev sp_law_stream (G : Ad) : Sp := fun vs H Q _ => ∃ (sp : Addr) (xs : List Int) (kk : Nat), vs = [.ref sp, .int (kk : Nat)] ∧ SqL G.K H sp (xs.map V.int) ∧ xs.length ≤ 63 ∧ kk ≤ 1 ∧ ∀ H' a x, Same H H' → H a = none → H' a = some (.lst [.int x]) → Q (.ref a) H'
theorem sc_law_stream : FnScope ["script", "k", "cell", "j", "found", "one"] ["script", "k"] (defScope s_law_stream) := ⟨rfl, rfl, rfl, by decide +kernel, rfl, by decide +kernel, by decide +kernel⟩
theorem c_law_stream (B : Bn mg) (C_law_mixed : Ca P w G.K mg base k "_law_mixed" sp_law_mixed) (F : Gd G.K mg "_law_stream" s_law_stream) : Ca P w G.K mg base (k + 1) "_law_stream" (sp_law_stream G) :=
  ca_0 F sc_law_stream (fun _ _ _ _ _ _ us hl => match us, hl with | [_, _], _ => rfl) (fun vs H Q E h => by obtain ⟨_, _, _, rfl, _⟩ := h; rfl)
  fun f cdv A outer s H vs Q E hr h => ⟨_, /- slots: 0 script, 1 k, 2 cell, 3 j, 4 found, 5 one -/ (pss_cons (ps_set (i := 2) sc_law_stream.nd rfl (Or.inl rfl) pe_int)
      (pss_cons (ps_for PassesOwn.never rfl (pi_range3 (by rfl) B.range (pa_cons (pv 1) (pa_cons (pe_callB call_len_seq (by rfl) B.len PySem.boot_len (pa_cons (pv 0) pa_nil)) (pa_cons pe_int pa_nil)))) (pg_name (i := 3) sc_law_stream.nd rfl (Or.inl rfl)) (pss_one (ps_set (i := 2) sc_law_stream.nd rfl (Or.inl rfl) (pe_op op_add (pe_op op_mulW (pv 2) (pe_op op_mulW (pe_op op_pow pe_int pe_int) (pe_op op_pow pe_int pe_int))) (pe_op op_mod (pe_ix ix_list (pv 0) (pv 3) (fun _ _ => rfl)) (pe_op op_mulW (pe_op op_pow pe_int pe_int) (pe_op op_pow pe_int pe_int)))))))
      (pss_cons (ps_if (pt_cmpR op_ge (pv 2) (pe_op op_pow pe_int pe_int) (nomark _)) (pss_one (ps_ret (pe_lst (pa_cons (pv 2) pa_nil)))) pss_nil)
      (pss_cons (ps_set (i := 2) sc_law_stream.nd rfl (Or.inl rfl) (pe_op op_add (pv 2) (pe_callB (cr_sum rfl) (by rfl) B.sum (by decide +kernel) (pa_cons (pe_lc (own := [("one", 5)]) (g := (gName 5)) (tt := tYes) (te := (tOp (rI (fun _ j => 0 < j) fun i j => .int (i % j)) (tVar 5) (tOp (rI CPow fun i j => .int (i ^ j.toNat)) (tC (.int 10)) (tC (.int 18))))) rfl sc_law_stream.nd (pi_list (pv 0)) (blkOk_by (own := [("one", 5)]) (N := ["script", "k", "cell", "j", "found", "one"]) (sc := defScope s_law_stream) (by decide +kernel)) (fun _ _ _ _ _ => by exact (pg_name (i := 5) sc_law_stream.nd rfl (Or.inl rfl))) (fun _ _ _ _ _ => by exact pts_nil) (fun _ _ _ _ _ => by exact (pe_op op_mod (pv 5) (pe_op op_pow pe_int pe_int)))) pa_nil))))
      (pss_cons (ps_set (i := 4) sc_law_stream.nd rfl (Or.inl rfl) pe_int)
      (pss_cons (ps_for PassesOwn.never rfl (pi_range1 (by rfl) B.range (pa_cons pe_int pa_nil)) (pg_name (i := 3) sc_law_stream.nd rfl (Or.inl rfl)) (pss_one (ps_set (i := 4) sc_law_stream.nd rfl (Or.inl rfl) (pe_op op_add (pe_op op_mulW (pv 4) pe_int) (pe_ca C_law_mixed hr (pa_cons (pe_op op_add (pe_op op_add (pv 2) (pe_op op_mulW pe_int (pv 1))) (pe_callB call_len_seq (by rfl) B.len PySem.boot_len (pa_cons (pv 0) pa_nil))) (pa_cons (pv 3) pa_nil)))))))
      (pss_one (ps_ret (pe_lst (pa_cons (pv 4) pa_nil)))))))))), by
    obtain ⟨sp, xs, kk, rfl, hs, h63, hk, q⟩ := h
    dsimp only [tSeq, tRet, tRetN, tIfS, tAsg, tDrop, tNext, tNever, tVar, tC, tCons, tNil, tCB, tOp, tTest, tB, tAnd, tOr, tNot, tAndV, tOrV, tNotV, tChain, tTup, tLst, tFld, sFld, tCall, tMeth, tMake, tDGet, tDIn, tDNotIn, sDPut, tDNewK, tSl, tPart, tNoPart, gTup, gCons, gNil, gSub, tBM, tUn]
    obtain ⟨g1, g2, g3, g4⟩ := rg12 ⟨xs.length, by omega⟩ ⟨kk, by omega⟩
    dsimp only at g1 g2 g3 g4
    refine ⟨_, rfl, _, rfl, sp, _, rfl, Or.inl hs, _, _, _, (Builtin.Range.rangeSize (kk : Int) (xs.length : Int) 12).toNat, by rw [List.length_map], ⟨by decide, by decide, g1, (Int.toNat_of_nonneg g2).symm⟩, ?_⟩
    have hn6 : (Builtin.Range.rangeSize (kk : Int) (xs.length : Int) 12).toNat ≤ 6 := by omega
    have g5 : ∀ i, i < (Builtin.Range.rangeSize (kk : Int) (xs.length : Int) 12).toNat → kk + 12 * i < xs.length := fun i hi => g4 ⟨i, by omega⟩ (by show (i : Int) < _; omega)
    generalize (Builtin.Range.rangeSize (kk : Int) (xs.length : Int) 12).toNat = n at hn6 g5 ⊢
    clear g1 g2 g3 g4
    refine for_it walk_rangeC (fun i σ' H' => H' = H ∧ ∃ f : Nat, ∃ y3 y4 y5, σ' = [some (.ref sp), some (.int (kk : Nat)), some (.int (f : Nat)), y3, y4, y5] ∧ f < (10 ^ 60 * 10 ^ 60) ^ i) ⟨rfl, 0, _, _, _, rfl, by decide⟩ (fun _ _ _ _ _ => True.intro) ?_ ?_
    · rintro i y _ H1 H2 hi ⟨rfl, f, y3, y4, y5, rfl, hf⟩ ⟨rfl, rfl⟩
      have h1 := g5 i hi
      have gx : xs[kk + 12 * i]? = some (xs[kk + 12 * i]'h1) := List.getElem?_eq_getElem _
      generalize xs[kk + 12 * i]'h1 = x at gx
      have e0 : (kk : Int) + (i : Nat) * 12 = ((kk + 12 * i : Nat) : Int) := by omega
      have hfT := Nat.lt_of_lt_of_le hf (powT i)
      have hN : (0 : Nat) < 10 ^ 60 * 10 ^ 60 := by decide +kernel
      refine ⟨_, rfl, _, _, rfl, rfl, hPow60, _, _, rfl, rfl, hPow60, _, _, rfl, rfl, hMulT, _, _, rfl, rfl, wide_mul (a := (200 + 200) * i + 1) (b := 200 + 201) (by rw [Int.natAbs_natCast, Nat.pow_succ]; omega) hTb (by omega) (by decide) (by omega), ?_⟩
      refine ⟨_, rfl, _, rfl, sp, _, _, .int x, rfl, rfl, hs, by rw [e0]; exact atI_nat (by rw [List.getElem?_map, gx]; rfl), _, _, rfl, rfl, hPow60, _, _, rfl, rfl, hPow60, _, _, rfl, rfl, hMulT, _, _, rfl, rfl, hPosT, _, _, rfl, rfl, rfl, f * (10 ^ 60 * 10 ^ 60) + (x % ((10 : Int) ^ (60 : Int).toNat * (10 : Int) ^ (60 : Int).toNat)).toNat, some (.int ((kk : Int) + (i : Nat) * 12)), y4, y5, ?_, ?_⟩
      · have e1 := castT (N := 10 ^ 60 * 10 ^ 60) (f := f) (Int.emod_nonneg x (show (10 : Int) ^ (60 : Int).toNat * (10 : Int) ^ (60 : Int).toNat ≠ 0 from Int.ne_of_gt hPosT))
        rw [← e1, ← hEqT]
        rfl
      · rw [Nat.pow_succ]
        refine stepT hf ?_
        have h2 := Int.emod_lt_of_pos x hPosT
        have h3 := Int.emod_nonneg x (show (10 : Int) ^ (60 : Int).toNat * (10 : Int) ^ (60 : Int).toNat ≠ 0 from Int.ne_of_gt hPosT)
        rw [hEqT] at h2 h3 ⊢
        generalize (10 ^ 60 * 10 ^ 60 : Nat) = N at h2 h3 ⊢
        omega
    · rintro _ H1 ⟨rfl, f, y3, y4, y5, rfl, hf⟩
      refine ⟨_, rfl, _, _, rfl, rfl, hPow18, _, _, rfl, rfl, ?_⟩
      by_cases hx : (10 : Int) ^ (18 : Int).toNat ≤ (f : Nat)
      · exact ⟨true, congrArg V.bl (decide_eq_true hx), _, rfl, (show 1 ≤ sizeLine by decide), fun a ha => q _ a _ (same_new ha) ha upd_same⟩
      · refine ⟨false, congrArg V.bl (decide_eq_false hx), ?_⟩
        refine ⟨_, rfl, _, rfl, sp, rfl, ⟨_, hs⟩, fun D hD => lc_it (walk_list (xs := xs.map V.int)) (fun i H' => Same H1 H' ∧ ∃ ns : List Int, H' D = some (.lst (ns.map V.int)) ∧ ns.length = i) ⟨same_new hD, [], upd_same, rfl⟩ (fun i H' _ z => Evl.ex_l z.1 hs) ?_ ?_⟩
        · rintro i y H2 H3 hi ⟨e1, ns, hns, ln⟩ ⟨rfl, hy⟩
          have hi' : i < xs.length := by simpa using hi
          rw [List.getElem?_map] at hy
          obtain ⟨x, hx1, rfl⟩ := Option.map_eq_some_iff.mp hy
          exact ⟨rfl, _, rfl, _, _, rfl, rfl, hPow18, _, _, rfl, rfl, hP18, _, hns, by rw [List.length_map]; exact small16' (by omega), same_mut e1 hD, ns ++ [x % (10 : Int) ^ (18 : Int).toNat], by rw [upd_same, List.map_append]; rfl, by rw [List.length_append, ln]; rfl⟩
        · rintro H2 ⟨e1, ns, hns, ln⟩
          refine ⟨D, ns, rfl, Or.inl (Or.inl hns), _, _, rfl, rfl, 12, rfl, by decide, by decide, ?_⟩
          refine for_it walk_range (fun i σ' H' => H' = H2 ∧ ∃ f' : Nat, ∃ y3 y5, σ' = [some (.ref sp), some (.int (kk : Nat)), some (.int ((f : Nat) + ns.sum)), y3, some (.int (f' : Nat)), y5] ∧ f' < 2 ^ (31 * i)) ⟨rfl, 0, _, _, rfl, by decide⟩ (fun _ _ _ _ _ => True.intro) ?_ ?_
          · rintro i y _ H3 H4 hi ⟨rfl, f', y3, y5, rfl, hf'⟩ ⟨rfl, rfl⟩
            have hi' : i < 12 := hi
            have e0 : (0 : Int) + (i : Nat) = (i : Nat) := Int.zero_add _
            refine ⟨_, rfl, _, _, rfl, rfl, wide_mul (a := 31 * i + 1) (b := 32) (by rw [Int.natAbs_natCast, Nat.pow_succ]; omega) (by decide) (by omega) (by decide) (by omega), _, rfl, _, rfl, _, _, rfl, rfl, wide_mul (a := 32) (b := 32) (by decide) (by omega) (by decide) (by decide) (by decide), _, _, rfl, rfl, _, rfl, sp, _, rfl, Or.inl (Evl.ex_l e1 hs), _, _, rfl, rfl, _, rfl, _, i, by show [V.int ((f : Nat) + ns.sum + 1009 * (kk : Nat) + ((xs.map V.int).length : Nat)), V.int (0 + (i : Nat))] = _; rw [e0], by omega, fun r r0 r1 => ⟨_, _, rfl, rfl, rfl, f' * 2147483647 + r.toNat, some (.int (0 + (i : Nat))), y5, ?_, ?_⟩⟩
            · have e1 : (f' : Int) * 2147483647 + r = ((f' * 2147483647 + r.toNat : Nat) : Int) := by omega
              rw [← e1]
              rfl
            · rw [show 31 * (i + 1) = 31 * i + 31 from rfl, Nat.pow_add]
              generalize 2 ^ (31 * i) = A at hf' ⊢
              omega
          · rintro _ H3 ⟨rfl, f', y3, y5, rfl, hf'⟩
            exact ⟨_, rfl, (show 1 ≤ sizeLine by decide), fun a ha => q _ a _ (Evl.Ex.trans e1 (same_new ha)) (none_of e1 ha) upd_same⟩⟩
abbrev sp_law_cell_stream : Sp := fun vs H Q _ => ∃ (c : Int) (kk : Nat), vs = [.int c, .int (kk : Nat)] ∧ kk ≤ 63 ∧ ∀ H' a x, Same H H' → H a = none → H' a = some (.lst [.int x]) → Q (.ref a) H'
theorem sc_law_cell_stream : FnScope ["cell", "k", "found", "j"] ["cell", "k"] (defScope s_law_cell_stream) := ⟨rfl, rfl, rfl, by decide +kernel, rfl, by decide +kernel, by decide +kernel⟩
theorem c_law_cell_stream (B : Bn mg) (C_law_mixed : Ca P w G.K mg base k "_law_mixed" sp_law_mixed) (F : Gd G.K mg "_law_cell_stream" s_law_cell_stream) : Ca P w G.K mg base (k + 1) "_law_cell_stream" sp_law_cell_stream :=
  ca_0 F sc_law_cell_stream (fun _ _ _ _ _ _ us hl => match us, hl with | [_, _], _ => rfl) (fun vs H Q E h => by obtain ⟨_, _, rfl, _⟩ := h; rfl)
  fun f cdv A outer s H vs Q E hr h => ⟨_, /- slots: 0 cell, 1 k, 2 found, 3 j -/ (pss_cons (ps_set (i := 0) sc_law_cell_stream.nd rfl (Or.inl rfl) (pe_op op_mod (pv 0) (pe_op op_mulW (pe_op op_pow pe_int pe_int) (pe_op op_pow pe_int pe_int))))
      (pss_cons (ps_if (pt_cmpR op_ge (pv 0) (pe_op op_pow pe_int pe_int) (nomark _)) (pss_one (ps_ret (pe_lst (pa_cons (pv 0) pa_nil)))) pss_nil)
      (pss_cons (ps_set (i := 2) sc_law_cell_stream.nd rfl (Or.inl rfl) pe_int)
      (pss_cons (ps_for PassesOwn.never rfl (pi_range1 (by rfl) B.range (pa_cons pe_int pa_nil)) (pg_name (i := 3) sc_law_cell_stream.nd rfl (Or.inl rfl)) (pss_one (ps_set (i := 2) sc_law_cell_stream.nd rfl (Or.inl rfl) (pe_op op_add (pe_op op_mulW (pv 2) pe_int) (pe_ca C_law_mixed hr (pa_cons (pe_op op_add (pv 0) (pe_op op_mulW pe_int (pv 1))) (pa_cons (pv 3) pa_nil)))))))
      (pss_one (ps_ret (pe_lst (pa_cons (pv 2) pa_nil)))))))), by
    obtain ⟨c, kk, rfl, hk, q⟩ := h
    dsimp only [tSeq, tRet, tRetN, tIfS, tAsg, tDrop, tNext, tNever, tVar, tC, tCons, tNil, tCB, tOp, tTest, tB, tAnd, tOr, tNot, tAndV, tOrV, tNotV, tChain, tTup, tLst, tFld, sFld, tCall, tMeth, tMake, tDGet, tDIn, tDNotIn, sDPut, tDNewK, tSl, tPart, tNoPart, gTup, gCons, gNil, gSub, tBM, tUn]
    refine ⟨_, rfl, _, _, rfl, rfl, hPow60, _, _, rfl, rfl, hPow60, _, _, rfl, rfl, hMulT, _, _, rfl, rfl, hPosT, ?_⟩
    refine ⟨_, rfl, _, _, rfl, rfl, hPow18, _, _, rfl, rfl, ?_⟩
    by_cases hx : (10 : Int) ^ (18 : Int).toNat ≤ mod120 c
    · exact ⟨true, congrArg V.bl (decide_eq_true hx), _, rfl, (show 1 ≤ sizeLine by decide), fun a ha => q _ a _ (same_new ha) ha upd_same⟩
    · refine ⟨false, congrArg V.bl (decide_eq_false hx), 5, rfl, by decide, by decide, ?_⟩
      refine for_it walk_range (fun i σ' H' => H' = H ∧ ∃ f : Nat, ∃ y3, σ' = [some (.int (mod120 c)), some (.int (kk : Nat)), some (.int (f : Nat)), y3] ∧ f < 2 ^ (31 * i)) ⟨rfl, 0, _, rfl, by decide⟩ (fun _ _ _ _ _ => True.intro) ?_ ?_
      · rintro i y _ H1 H2 hi ⟨rfl, f, y3, rfl, hf⟩ ⟨rfl, rfl⟩
        have hi' : i < 5 := hi
        have e0 : (0 : Int) + (i : Nat) = (i : Nat) := Int.zero_add _
        refine ⟨_, rfl, _, _, rfl, rfl, wide_mul (a := 31 * i + 1) (b := 32) (by rw [Int.natAbs_natCast, Nat.pow_succ]; omega) (by decide) (by omega) (by decide) (by omega), _, rfl, _, rfl, _, _, rfl, rfl, wide_mul (a := 32) (b := 32) (by decide) (by omega) (by decide) (by decide) (by decide), _, _, rfl, rfl, _, rfl, _, i, by show [V.int (mod120 c + 1009 * (kk : Nat)), V.int (0 + (i : Nat))] = _; rw [e0], by omega, fun r r0 r1 => ⟨_, _, rfl, rfl, rfl, f * 2147483647 + r.toNat, some (.int (0 + (i : Nat))), ?_, ?_⟩⟩
        · have e1 : (f : Int) * 2147483647 + r = ((f * 2147483647 + r.toNat : Nat) : Int) := by omega
          rw [← e1]
          rfl
        · rw [show 31 * (i + 1) = 31 * i + 31 from rfl, Nat.pow_add]
          generalize 2 ^ (31 * i) = A at hf ⊢
          omega
      · rintro _ H1 ⟨rfl, f, y3, rfl, hf⟩
        exact ⟨_, rfl, (show 1 ≤ sizeLine by decide), fun a ha => q _ a _ (same_new ha) ha upd_same⟩⟩
abbrev sp_law_rinse (G : Ad) : Sp := fun vs H Q _ => ∃ (s : Addr) (sc x : Int), vs = [.ref s, .int sc] ∧ 0 < sc ∧ sc < 2 ^ 200 ∧ H s = some (.lst [.int x]) ∧ ∀ H' r x', SB s H H' → H' s = some (.lst [.int x']) → 0 ≤ r → Q (.int r) H'
theorem sc_law_rinse : FnScope ["stream", "scale", "way"] ["stream", "scale"] (defScope s_law_rinse) := ⟨rfl, rfl, rfl, by decide +kernel, rfl, by decide +kernel, by decide +kernel⟩
theorem c_law_rinse (C_law_take : Ca P w G.K mg base k "_law_take" sp_law_take) (F : Gd G.K mg "_law_rinse" s_law_rinse) : Ca P w G.K mg base (k + 1) "_law_rinse" (sp_law_rinse G) :=
  ca_0 F sc_law_rinse (fun _ _ _ _ _ _ us hl => match us, hl with | [_, _], _ => rfl) (fun vs H Q E h => by obtain ⟨_, _, _, rfl, _⟩ := h; rfl)
  fun f cdv A outer s H vs Q E hr h => ⟨_, /- slots: 0 stream, 1 scale, 2 way -/ (pss_cons (ps_set (i := 2) sc_law_rinse.nd rfl (Or.inl rfl) (pe_ca C_law_take hr (pa_cons (pv 0) (pa_cons pe_int pa_nil))))
      (pss_cons (ps_if (pt_cmpR op_eq (pv 2) pe_int (nomark _)) (pss_one (ps_ret pe_int)) pss_nil)
      (pss_one (ps_ret (pe_ca C_law_take hr (pa_cons (pv 0) (pa_cons (pe_ix ix_list (pe_lst (pa_cons pe_int (pa_cons (pv 1) pa_nil))) (pe_op op_sub (pv 2) pe_int) (fun _ _ => rfl)) pa_nil))))))), by
    obtain ⟨s, sc, x, rfl, s0, s1, hs, q⟩ := h
    dsimp only [tSeq, tRet, tRetN, tIfS, tAsg, tDrop, tNext, tNever, tVar, tC, tCons, tNil, tCB, tOp, tTest, tB, tAnd, tOr, tNot, tAndV, tOrV, tNotV, tChain, tTup, tLst, tFld, sFld, tCall, tMeth, tMake, tDGet, tDIn, tDNotIn, sDPut, tDNewK, tSl, tPart, tNoPart, gTup, gCons, gNil, gSub, tBM, tUn]
    refine ⟨_, rfl, s, 3, x, rfl, by decide, by decide, hs, fun d x1 d0 d1 => ⟨_, rfl, rfl, ?_⟩⟩
    have e1 : SB s H (upd H s (.lst [.int x1])) := fun b o n e => by rw [upd_ne n]; exact e
    by_cases hz : d = 0
    · refine ⟨true, congrArg V.bl (decide_eq_true (by rw [hz])), q _ 0 x1 e1 upd_same (Int.le_refl _)⟩
    · refine ⟨false, congrArg V.bl (decide_eq_false (fun z => hz (by injection z))), ?_⟩
      refine ⟨_, rfl, _, rfl, (show 2 ≤ sizeLine by decide), fun p hp => ⟨_, rfl, _, _, rfl, rfl, ?_⟩⟩
      have sp' : s ≠ p := fun z => by rw [← z, upd_same] at hp; cases hp
      have hs2 : (upd (upd H s (.lst [.int x1])) p (.lst [.int 4, .int sc])) s = some (.lst [.int x1]) := by rw [upd_ne sp']; exact upd_same
      have e2 : SB s H (upd (upd H s (.lst [.int x1])) p (.lst [.int 4, .int sc])) := e1.same (same_new hp)
      have hd : d = 1 ∨ d = 2 := by omega
      have fin : ∀ m : Int, 0 < m → m < 2 ^ 200 → atI [V.int 4, V.int sc] (d - 1) = some (.int m) → True := fun _ _ _ _ => True.intro
      rcases hd with rfl | rfl
      · refine ⟨p, _, _, .int 4, rfl, rfl, Or.inl (Or.inl upd_same), rfl, s, 4, x1, rfl, by decide, by decide, hs2, fun d' x2 k0 k1 => q _ d' x2 (e2.st) upd_same k0⟩
      · refine ⟨p, _, _, .int sc, rfl, rfl, Or.inl (Or.inl upd_same), rfl, s, sc, x1, rfl, s0, s1, hs2, fun d' x2 k0 k1 => q _ d' x2 (e2.st) upd_same k0⟩⟩
end Rw82
/-! The law's house. -/
namespace Rw82
open PySem PySem.Spec PyProof.Rows L2
variable {P : Program} {w : World} {mg : Str → Option Value} {base : Heap} {k : Nat} {G : Ad}
structure Dr where
  n : Nat
  R : Mat
  f : Int
  ti : Int
  sc : Int
  names : List Str
structure Dr.Ok (D : Dr) : Prop where
  n1 : 1 ≤ D.n
  n4 : D.n ≤ 4
  nn : Nonneg D.R
  f0 : -1 ≤ D.f
  f1 : D.f < D.n
  t0 : 0 ≤ D.ti
  s0 : 0 < D.sc
  s1 : D.sc < 2 ^ 98
  ln : D.names.length = 14
  ok : ∀ z ∈ D.names, okName z = true
structure DrAt (H : Hp) (t : Addr) (D : Dr) : Prop where
  ok : D.Ok
  ex : ∃ r nm : Addr, H t = some (.tup [.ref r, .int D.f, .int D.ti, .int D.sc, .ref nm]) ∧ MxAt H r D.n D.R ∧ H nm = some (.lst (D.names.map V.str))
theorem name_ok : ∀ i : Fin 26, ∀ m : Fin 8, ∃ c, atI ("abcdefghijklmnopqrstuvwxyz" : Str).cps.toList (i.val : Int) = some c ∧ okName (Txt.mul ⟨#[c]⟩ (1 + (m.val : Int))) = true := by
  have h : ∀ i : Fin 26, ∀ m : Fin 8, (match atI ("abcdefghijklmnopqrstuvwxyz" : Str).cps.toList (i.val : Int) with
    | some c => okName (Txt.mul ⟨#[c]⟩ (1 + (m.val : Int)))
    | none => false) = true := by decide +kernel
  intro i m
  have h2 := h i m
  cases e : atI ("abcdefghijklmnopqrstuvwxyz" : Str).cps.toList (i.val : Int) with
  | none => rw [e] at h2; cases h2
  | some c => rw [e] at h2; exact ⟨c, rfl, h2⟩
theorem sb_ne {s a : Addr} {H H' : Hp} {o : HO} (e : SB s H H') (n : a ≠ s) (h : H a = some o) : H' a = some o := e a o n h
theorem SB.trans {s : Addr} {H H1 H2 : Hp} (e : SB s H H1) (e' : SB s H1 H2) : SB s H H2 := fun b o n h => e' b o n (e b o n h)
theorem SB.put1 {s : Addr} {H : Hp} {o : HO} : SB s H (upd H s o) := fun b u n h => by rw [upd_ne n]; exact h
abbrev sp_law_house (G : Ad) : Sp := fun vs H Q _ => ∃ (sp : Addr) (xs : List Int), vs = [.ref sp] ∧ SqL G.K H sp (xs.map V.int) ∧ xs.length ≤ 63 ∧ ∀ H' t D, Same H H' → DrAt H' t D → Q (.ref t) H'
theorem sc_law_house : FnScope ["script", "stream", "hues", "scale", "letter", "last", "time", "rinses", "letters", "names", "row", "j", "hue"] ["script"] (defScope s_law_house) := ⟨rfl, rfl, rfl, by decide +kernel, rfl, by decide +kernel, by decide +kernel⟩
theorem c_law_house (B : Bn mg) (C_law_stream : Ca P w G.K mg base k "_law_stream" (sp_law_stream G)) (C_law_take : Ca P w G.K mg base k "_law_take" sp_law_take) (C_law_rinse : Ca P w G.K mg base k "_law_rinse" (sp_law_rinse G)) (F : Gd G.K mg "_law_house" s_law_house) : Ca P w G.K mg base (k + 1) "_law_house" (sp_law_house G) :=
  ca_0 F sc_law_house (fun _ _ _ _ _ _ us hl => match us, hl with | [_], _ => rfl) (fun vs H Q E h => by obtain ⟨_, _, rfl, _⟩ := h; rfl)
  fun f cdv A outer s H vs Q E hr h => ⟨_, /- slots: 0 script, 1 stream, 2 hues, 3 scale, 4 letter, 5 last, 6 time, 7 rinses, 8 letters, 9 names, 10 row, 11 j, 12 hue -/ (pss_cons (ps_set (i := 1) sc_law_house.nd rfl (Or.inr rfl) (pe_ca C_law_stream hr (pa_cons (pv 0) (pa_cons pe_int pa_nil))))
      (pss_cons (ps_set (i := 2) sc_law_house.nd rfl (Or.inr rfl) (pe_op op_add pe_int (pe_ca C_law_take hr (pa_cons (pv 1) (pa_cons pe_int pa_nil)))))
      (pss_cons (ps_set (i := 3) sc_law_house.nd rfl (Or.inr rfl) (pe_ix ix_list (pe_lst (pa_cons pe_int (pa_cons pe_int (pa_cons pe_int (pa_cons pe_int (pa_cons (pe_op op_pow pe_int pe_int) pa_nil)))))) (pe_ca C_law_take hr (pa_cons (pv 1) (pa_cons pe_int pa_nil))) (fun _ _ => rfl)))
      (pss_cons (ps_set (i := 4) sc_law_house.nd rfl (Or.inr rfl) (pe_ca C_law_take hr (pa_cons (pv 1) (pa_cons pe_int pa_nil))))
      (pss_cons (ps_set (i := 5) sc_law_house.nd rfl (Or.inl rfl) (pe_op op_sub (pe_ca C_law_take hr (pa_cons (pv 1) (pa_cons (pe_op op_add (pv 2) pe_int) pa_nil))) pe_int))
      (pss_cons (ps_set (i := 6) sc_law_house.nd rfl (Or.inl rfl) (pe_ca C_law_take hr (pa_cons (pv 1) (pa_cons (pe_ix ix_list (pe_lst (pa_cons pe_int (pa_cons pe_int (pa_cons (pv 3) pa_nil)))) (pe_ca C_law_take hr (pa_cons (pv 1) (pa_cons pe_int pa_nil))) (fun _ _ => rfl)) pa_nil))))
      (pss_cons (ps_setLc (i := 7) (own := [("row", 10)]) (g := (gName 10)) (tt := tYes) (te := (tLc (iRng1 (tCons (tVar 2) tNil)) (gName 12) tYes (tCall (sp_law_rinse G) [] E0 (tCons (tVar 1) (tCons (tVar 3) tNil))) [12])) rfl sc_law_house.nd rfl rfl (sw_true rfl rfl rfl (by decide +kernel)) (pi_range1 (by rfl) B.range (pa_cons (pe_op op_add (pv 2) pe_int) pa_nil)) (blkOk_by (own := [("row", 10)]) (N := ["script", "stream", "hues", "scale", "letter", "last", "time", "rinses", "letters", "names", "row", "j", "hue"]) (sc := defScope s_law_house) (by decide +kernel)) (fun _ _ _ _ _ => by exact (pg_name (i := 10) sc_law_house.nd rfl (Or.inl rfl))) (fun _ _ _ _ _ => by exact pts_nil) (fun _ _ _ _ _ => by exact (pe_lc (own := [("hue", 12)]) (g := (gName 12)) (tt := tYes) (te := (tCall (sp_law_rinse G) [] E0 (tCons (tVar 1) (tCons (tVar 3) tNil)))) rfl sc_law_house.nd (pi_range1 (by rfl) B.range (pa_cons (pv 2) pa_nil)) (blkOk_by (own := [("hue", 12)]) (N := ["script", "stream", "hues", "scale", "letter", "last", "time", "rinses", "letters", "names", "row", "j", "hue"]) (sc := (relS (lcSc (stE ((defBody s_law_house).getD 6 (.Pass ⟨0, 0, 0, 0⟩)))) (defScope s_law_house))) (by decide +kernel)) (fun _ _ _ _ _ => by exact (pg_name (i := 12) sc_law_house.nd rfl (Or.inl rfl))) (fun _ _ _ _ _ => by exact pts_nil) (fun _ _ _ _ _ => by exact (pe_ca C_law_rinse hr (pa_cons (pv 1) (pa_cons (pv 3) pa_nil)))))))
      (pss_cons (ps_set (i := 8) sc_law_house.nd rfl (Or.inr rfl) pe_str)
      (pss_cons (ps_setLc (i := 9) (own := [("j", 11)]) (g := (gName 11)) (tt := tYes) (te := (tOp rMulSI (tOp rIxS (tVar 8) (tOp (rI (fun _ j => 0 < j) fun i j => .int (i % j)) (tOp (rI0 fun i j => .int (i + j)) (tVar 4) (tOp (rI CDivW fun i j => .int (i / j)) (tVar 11) (tC (.int 8)))) (tC (.int 26)))) (tOp (rI0 fun i j => .int (i + j)) (tC (.int 1)) (tOp (rI (fun _ j => 0 < j) fun i j => .int (i % j)) (tVar 11) (tC (.int 8)))))) rfl sc_law_house.nd rfl rfl (sw_true rfl rfl rfl (by decide +kernel)) (pi_range1 (by rfl) B.range (pa_cons pe_int pa_nil)) (blkOk_by (own := [("j", 11)]) (N := ["script", "stream", "hues", "scale", "letter", "last", "time", "rinses", "letters", "names", "row", "j", "hue"]) (sc := defScope s_law_house) (by decide +kernel)) (fun _ _ _ _ _ => by exact (pg_name (i := 11) sc_law_house.nd rfl (Or.inl rfl))) (fun _ _ _ _ _ => by exact pts_nil) (fun _ _ _ _ _ => by exact (pe_op op_mulSI (pe_ix ix_str (pv 8) (pe_op op_mod (pe_op op_add (pv 4) (pe_op op_fdivW (pv 11) pe_int)) pe_int) (fun _ _ => rfl)) (pe_op op_add pe_int (pe_op op_mod (pv 11) pe_int)))))
      (pss_one (ps_ret (pe_tup (pa_cons (pv 7) (pa_cons (pv 5) (pa_cons (pv 6) (pa_cons (pv 3) (pa_cons (pv 9) pa_nil))))))))))))))))), by
    obtain ⟨sp, xs, rfl, hs, h63, q⟩ := h
    dsimp only [tSeq, tRet, tRetN, tIfS, tAsg, tDrop, tNext, tNever, tVar, tC, tCons, tNil, tCB, tOp, tTest, tB, tAnd, tOr, tNot, tAndV, tOrV, tNotV, tChain, tTup, tLst, tFld, sFld, tCall, tMeth, tMake, tDGet, tDIn, tDNotIn, sDPut, tDNewK, tSl, tPart, tNoPart, gTup, gCons, gNil, gSub, tBM, tUn]
    dsimp only [cx_p, cx_w, cx_K]
    refine ⟨_, rfl, sp, xs, 0, rfl, hs, h63, by omega, fun H1 s x e1 hn1 hx => ?_⟩
    refine ⟨_, rfl, s, 4, x, rfl, by decide, by decide, hx, fun d1 x1 d10 d11 => ?_⟩
    refine ⟨_, _, rfl, rfl, ?_⟩
    have E1 : SB s H1 (upd H1 s (.lst [.int x1])) := SB.put1
    have hx1 : (upd H1 s (.lst [.int x1])) s = some (.lst [.int x1]) := upd_same
    generalize upd H1 s (.lst [.int x1]) = H2 at E1 hx1 ⊢
    refine ⟨_, _, rfl, rfl, ⟨by decide, by decide, by decide⟩, (show 5 ≤ sizeLine by decide), fun L hL => ?_⟩
    have sL : s ≠ L := fun z => by rw [← z, hx1] at hL; cases hL
    have E2 := E1.same (same_new (o := HO.lst [.int 4, .int 10, .int 10, .int 1000, .int ((10 : Int) ^ (26 : Int).toNat)]) hL)
    have hx2 := same_new (o := HO.lst [.int 4, .int 10, .int 10, .int 1000, .int ((10 : Int) ^ (26 : Int).toNat)]) hL _ _ hx1
    refine ⟨_, rfl, s, 5, x1, rfl, by decide, by decide, hx2, fun d2 x2 d20 d21 => ?_⟩
    have E3 := E2.st (o := HO.lst [.int x2])
    have hx3 : (upd (upd H2 L (.lst [.int 4, .int 10, .int 10, .int 1000, .int ((10 : Int) ^ (26 : Int).toNat)])) s (.lst [.int x2])) s = some (.lst [.int x2]) := upd_same
    have hL3 : (upd (upd H2 L (.lst [.int 4, .int 10, .int 10, .int 1000, .int ((10 : Int) ^ (26 : Int).toNat)])) s (.lst [.int x2])) L = some (.lst [.int 4, .int 10, .int 10, .int 1000, .int ((10 : Int) ^ (26 : Int).toNat)]) := by rw [upd_ne sL.symm]; exact upd_same
    generalize upd (upd H2 L (.lst [.int 4, .int 10, .int 10, .int 1000, .int ((10 : Int) ^ (26 : Int).toNat)])) s (.lst [.int x2]) = H3 at E3 hx3 hL3 ⊢
    clear E1 E2 hx1 hx2 hL sL
    have hsc : ∃ sc : Int, atI [V.int 4, V.int 10, V.int 10, V.int 1000, V.int ((10 : Int) ^ (26 : Int).toNat)] d2 = some (.int sc) ∧ 0 < sc ∧ sc < 2 ^ 98 := by
      have h5 : d2 = 0 ∨ d2 = 1 ∨ d2 = 2 ∨ d2 = 3 ∨ d2 = 4 := by omega
      rcases h5 with rfl | rfl | rfl | rfl | rfl
      · exact ⟨_, rfl, by decide, by decide⟩
      · exact ⟨_, rfl, by decide, by decide⟩
      · exact ⟨_, rfl, by decide, by decide⟩
      · exact ⟨_, rfl, by decide, by decide⟩
      · exact ⟨_, rfl, by decide +kernel, by decide +kernel⟩
    obtain ⟨sc, hsc, s0, s1⟩ := hsc
    refine ⟨L, _, d2, _, rfl, rfl, Or.inl (Or.inl hL3), hsc, ?_⟩
    clear hL3 hsc
    refine ⟨_, rfl, s, 26, x2, rfl, by decide, by decide, hx3, fun d4 x4 d40 d41 => ?_⟩
    have E4 := E3.st (o := HO.lst [.int x4])
    have hx4 : (upd H3 s (.lst [.int x4])) s = some (.lst [.int x4]) := upd_same
    generalize upd H3 s (.lst [.int x4]) = H4 at E4 hx4 ⊢
    refine ⟨_, rfl, _, rfl, _, _, rfl, rfl, s, 1 + d1 + 1, x4, rfl, by omega, by omega, hx4, fun d5 x5 d50 d51 => ⟨_, _, rfl, rfl, ?_⟩⟩
    have E5 := E4.st (o := HO.lst [.int x5])
    have hx5 : (upd H4 s (.lst [.int x5])) s = some (.lst [.int x5]) := upd_same
    generalize upd H4 s (.lst [.int x5]) = H5 at E5 hx5 ⊢
    clear E3 E4 hx3 hx4
    refine ⟨_, rfl, _, rfl, (show 3 ≤ sizeLine by decide), fun Lb hLb => ?_⟩
    have sL : s ≠ Lb := fun z => by rw [← z, hx5] at hLb; cases hLb
    have E6 := E5.same (same_new (o := HO.lst [.int 1, .int 10, .int sc]) hLb)
    have hx6 := same_new (o := HO.lst [.int 1, .int 10, .int sc]) hLb _ _ hx5
    refine ⟨_, rfl, s, 3, x5, rfl, by decide, by decide, hx6, fun d6 x6 d60 d61 => ?_⟩
    have E7 := E6.st (o := HO.lst [.int x6])
    have hx7 : (upd (upd H5 Lb (.lst [.int 1, .int 10, .int sc])) s (.lst [.int x6])) s = some (.lst [.int x6]) := upd_same
    have hL7 : (upd (upd H5 Lb (.lst [.int 1, .int 10, .int sc])) s (.lst [.int x6])) Lb = some (.lst [.int 1, .int 10, .int sc]) := by rw [upd_ne sL.symm]; exact upd_same
    generalize upd (upd H5 Lb (.lst [.int 1, .int 10, .int sc])) s (.lst [.int x6]) = H7 at E7 hx7 hL7 ⊢
    clear E5 E6 hx5 hx6 hLb sL
    have hm7 : ∃ m : Int, atI [V.int 1, V.int 10, V.int sc] d6 = some (.int m) ∧ 0 < m ∧ m < 2 ^ 200 := by
      have h5 : d6 = 0 ∨ d6 = 1 ∨ d6 = 2 := by omega
      rcases h5 with rfl | rfl | rfl
      · exact ⟨_, rfl, by decide, by decide⟩
      · exact ⟨_, rfl, by decide, by decide⟩
      · exact ⟨_, rfl, s0, by omega⟩
    obtain ⟨m7, hm7, m70, m71⟩ := hm7
    refine ⟨Lb, _, d6, _, rfl, rfl, Or.inl (Or.inl hL7), hm7, s, m7, x6, rfl, m70, m71, hx7, fun d8 x8 d80 d81 => ?_⟩
    have E8 := E7.st (o := HO.lst [.int x8])
    have hx8 : (upd H7 s (.lst [.int x8])) s = some (.lst [.int x8]) := upd_same
    generalize upd H7 s (.lst [.int x8]) = H8 at E8 hx8 ⊢
    clear E7 hx7 hL7 hm7
    obtain ⟨n, hn⟩ : ∃ n : Nat, 1 + d1 = (n : Nat) := ⟨(1 + d1).toNat, by omega⟩
    rw [hn] at d51
    have n4 : n ≤ 4 := by omega
    have n1 : 1 ≤ n := by omega
    refine ⟨_, rfl, _, _, rfl, rfl, 1 + d1 + 1, rfl, by omega, by omega, fun D hD => ?_⟩
    have nDs : s ≠ D := fun z => by rw [← z, hx8] at hD; cases hD
    refine lc_it walk_range (fun i H' => SB s H8 H' ∧ (∃ x, H' s = some (.lst [.int x])) ∧ ∃ (rs : List Addr) (R : Mat), H' D = some (.lst (rs.map V.ref)) ∧ rs.length = i ∧ (∀ j r, rs[j]? = some r → r ≠ s ∧ H' r = some (.lst (rowV n R j))) ∧ Nonneg R) ⟨fun b o _ e => same_new hD b o e, ⟨x8, same_new hD _ _ hx8⟩, [], fun _ _ => 0, upd_same, rfl, fun _ _ z => (nomatch z), fun _ _ => Int.le_refl 0⟩ (fun _ _ _ _ => True.intro) ?_ ?_
    · rintro i y H9 H10 hi ⟨E9, ⟨x9, hx9⟩, rs, R, hrs, lrs, hrow, nn⟩ ⟨rfl, rfl⟩
      have hi' : i < n + 1 := by
        have : i < (1 + d1 + 1).toNat := hi
        omega
      refine ⟨rfl, _, rfl, 1 + d1, rfl, by omega, by omega, fun D2 hD2 => ?_⟩
      have nD2s : D2 ≠ s := fun z => by rw [z, hx9] at hD2; cases hD2
      have nD2D : D ≠ D2 := fun z => by rw [← z, hrs] at hD2; cases hD2
      refine lc_it walk_range (fun j H' => SB s H10 H' ∧ (∃ x, H' s = some (.lst [.int x])) ∧ ∃ vs : List Int, H' D2 = some (.lst (vs.map V.int)) ∧ vs.length = j ∧ ∀ v ∈ vs, 0 ≤ v) ⟨fun b o _ e => same_new hD2 b o e, ⟨x9, same_new hD2 _ _ hx9⟩, [], upd_same, rfl, fun _ m => (nomatch m)⟩ (fun _ _ _ _ => True.intro) ?_ ?_
      · rintro j y H11 H12 hj ⟨E11, ⟨x11, hx11⟩, vs, hvs, lv, nv⟩ ⟨rfl, rfl⟩
        have hj' : j < (1 + d1).toNat := hj
        refine ⟨rfl, _, rfl, _, rfl, s, sc, x11, rfl, s0, by omega, hx11, fun H13 r x13 E13 hx13 r0 => ⟨_, E13 _ _ nD2s hvs, by rw [List.length_map]; exact small16' (by omega), (E11.trans E13).mut hD2, ⟨x13, ?_⟩, vs ++ [r], by rw [upd_same, List.map_append]; rfl, by rw [List.length_append, lv]; rfl, fun v hv => ?_⟩⟩
        · rw [upd_ne nD2s.symm]
          exact hx13
        · rcases List.mem_append.mp hv with hv | hv
          · exact nv v hv
          · rw [List.mem_singleton.mp hv]
            exact r0
      · rintro H11 ⟨E11, ⟨x11, hx11⟩, vs, hvs, lv, nv⟩
        have hD11 := E11 _ _ nDs.symm hrs
        have lv' : vs.length = n := by
          have : vs.length = (1 + d1).toNat := lv
          omega
        have rowne : ∀ {a : Addr} {zs : List Int}, zs.length = n → H11 a = some (.lst (zs.map V.int)) → a ≠ D := fun {a zs} hz h z => by
          rw [z, hD11] at h
          have h1 : rs.map V.ref = zs.map V.int := by injection h with h; injection h
          have h2 := congrArg (fun l => l[0]?) h1
          cases zs with
          | nil => have : 0 = n := hz; omega
          | cons b zs =>
            cases rs with
            | nil => cases h2
            | cons r rs => cases h2
        have rowV_vs : rowV n (fun a b => if a = i then vs.getD b 0 else R a b) i = vs.map V.int := by
          unfold rowV
          apply List.ext_getElem?
          intro m
          rw [List.getElem?_map, List.getElem?_map]
          by_cases hm : m < n
          · rw [List.getElem?_range hm, List.getElem?_eq_getElem (by omega : m < vs.length)]
            show some (V.int (if i = i then vs.getD m 0 else R i m)) = some (V.int _)
            rw [if_pos rfl, List.getD_eq_getElem?_getD, List.getElem?_eq_getElem (by omega : m < vs.length)]
            rfl
          · rw [List.getElem?_eq_none (by rw [List.length_range]; omega), List.getElem?_eq_none (by omega)]
            rfl
        refine ⟨_, hD11, by rw [List.length_map]; exact small16' (by omega), (E9.trans E11).mut hD, ⟨x11, by rw [upd_ne nDs]; exact hx11⟩, rs ++ [D2], fun a b => if a = i then vs.getD b 0 else R a b, by rw [upd_same, refs_snoc], by rw [List.length_append, lrs]; rfl, fun j r hj => ?_, fun a b => ?_⟩
        · rcases snoc_get hj with hj | ⟨hj2, rfl⟩
          · obtain ⟨h1, h2⟩ := hrow j r hj
            have h3 := E11 _ _ h1 h2
            have jlt : j < i := by rw [← lrs]; exact (List.getElem?_eq_some_iff.mp hj).1
            refine ⟨h1, ?_⟩
            have h4 : rowV n (fun a b => if a = i then vs.getD b 0 else R a b) j = rowV n R j := by
              unfold rowV
              refine List.map_congr_left fun m _ => ?_
              show V.int (if j = i then _ else _) = _
              rw [if_neg (by omega)]
            rw [h4, upd_ne (rowne (zs := (List.range n).map fun m => R j m) (by rw [List.length_map, List.length_range]) (by rw [List.map_map]; exact h3))]
            exact h3
          · rw [hj2, lrs, rowV_vs]
            refine ⟨nD2s, ?_⟩
            rw [upd_ne (rowne lv' hvs)]
            exact hvs
        · show 0 ≤ if a = i then vs.getD b 0 else R a b
          split
          · rw [List.getD_eq_getElem?_getD]
            cases e : vs[b]? with
            | none => exact Int.le_refl 0
            | some v => exact nv v (List.mem_of_getElem? e)
          · exact nn a b
    · rintro H9 ⟨E9, ⟨x9, hx9⟩, rs, R, hrs, lrs, hrow, nn⟩
      have lrs' : rs.length = n + 1 := by
        have : rs.length = (1 + d1 + 1).toNat := lrs
        omega
      have e9 : Same H H9 := fun b o e => (E8.trans E9) b o (ne_of_none e hn1) (e1 b o e)
      refine ⟨14, rfl, by decide, by decide, fun Dn hDn => lc_it walk_range (fun i H' => Same H9 H' ∧ ∃ ys : List Str, H' Dn = some (.lst (ys.map V.str)) ∧ ys.length = i ∧ ∀ z ∈ ys, okName z = true) ⟨same_new hDn, [], upd_same, rfl, fun _ m => (nomatch m)⟩ (fun _ _ _ _ => True.intro) ?_ ?_⟩
      · rintro i y H11 H12 hi ⟨e11, ys, hys, ly, oy⟩ ⟨rfl, rfl⟩
        have hi' : i < 14 := hi
        obtain ⟨c, hc, hok⟩ := name_ok ⟨((d4 + (0 + (i : Nat)) / 8) % 26).toNat, by omega⟩ ⟨i % 8, by omega⟩
        have ei : ((((d4 + (0 + (i : Nat)) / 8) % 26).toNat : Nat) : Int) = (d4 + (0 + (i : Nat)) / 8) % 26 := by omega
        dsimp only at hc hok
        rw [ei] at hc
        have em : (1 : Int) + ((i % 8 : Nat) : Int) = 1 + (0 + (i : Nat)) % 8 := by omega
        rw [em] at hok
        refine ⟨rfl, _, rfl, _, rfl, _, rfl, _, _, rfl, rfl, ⟨by decide, by decide⟩, _, _, rfl, rfl, _, _, rfl, rfl, (show (0 : Int) < 26 from by decide), _, _, c, rfl, rfl, by decide +kernel, hc, _, rfl, _, _, rfl, rfl, (show (0 : Int) < 8 from by decide), _, _, rfl, rfl, _, _, rfl, rfl, (show 1 ≤ 16 from by decide), by omega, by omega, _, hys, by rw [List.length_map]; exact small16' (by omega), same_mut e11 hDn, ys ++ [Txt.mul ⟨#[c]⟩ (1 + (0 + (i : Nat)) % 8)], by rw [upd_same, List.map_append]; rfl, by rw [List.length_append, ly]; rfl, fun z hz => ?_⟩
        rcases List.mem_append.mp hz with hz | hz
        · exact oy z hz
        · rw [List.mem_singleton.mp hz]
          exact hok
      · rintro H11 ⟨e11, ys, hys, ly, oy⟩
        refine ⟨_, rfl, _, rfl, _, rfl, _, rfl, _, rfl, (show 5 ≤ sizeLine by decide), fun t ht => ?_⟩
        have e12 := Evl.Ex.trans e11 (same_new (o := HO.tup [V.ref D, V.int (d5 - 1), V.int d8, V.int sc, V.ref Dn]) ht)
        exact q _ t ⟨n, R, d5 - 1, d8, sc, ys⟩ (Evl.Ex.trans e9 e12) ⟨⟨n1, n4, nn, by show (-1 : Int) ≤ d5 - 1; omega, by show d5 - 1 < (n : Int); omega, d80, s0, s1, ly, oy⟩, D, Dn, upd_same, ⟨rs, e12 _ _ hrs, lrs', fun j r hj => e12 _ _ (hrow j r hj).2⟩, same_new ht _ _ hys⟩⟩
end Rw82
/-! The law's cloth, its least sums and ends. -/
namespace Rw82
open PySem PySem.Spec PyProof.Rows L2
variable {P : Program} {w : World} {mg : Str → Option Value} {base : Heap} {k : Nat} {G : Ad}
theorem SB.refl {s : Addr} {H : Hp} : SB s H H := fun _ _ _ h => h
/-- a stream: one number -/
def StrAt (H : Hp) (s : Addr) : Prop := ∃ x : Int, H s = some (.lst [.int x])
abbrev sp_law_cloth (G : Ad) : Sp := fun vs H Q _ => ∃ (s t : Addr) (tm x : Int) (D : Dr), vs = [.ref s, .ref t, .int tm] ∧ H s = some (.lst [.int x]) ∧ DrAt H t D ∧ (∀ r nm : Addr, H t = some (.tup [.ref r, .int D.f, .int D.ti, .int D.sc, .ref nm]) → r ≠ s ∧ nm ≠ s) ∧
  ∀ H' a c x', SB s H H' → H' s = some (.lst [.int x']) → ClAt H' a c → goodC D.n c → Q (.ref a) H'
theorem sc_law_cloth : FnScope ["stream", "house", "time", "name", "hue", "length", "due", "rinses", "last", "begun", "scale", "names"] ["stream", "house", "time"] (defScope s_law_cloth) := ⟨rfl, rfl, rfl, by decide +kernel, rfl, by decide +kernel, by decide +kernel⟩
theorem c_law_cloth (B : Bn mg) (C_law_take : Ca P w G.K mg base k "_law_take" sp_law_take) (F : Gd G.K mg "_law_cloth" s_law_cloth) : Ca P w G.K mg base (k + 1) "_law_cloth" (sp_law_cloth G) :=
  ca_0 F sc_law_cloth (fun _ _ _ _ _ _ us hl => match us, hl with | [_, _, _], _ => rfl) (fun vs H Q E h => by obtain ⟨_, _, _, _, _, rfl, _⟩ := h; rfl)
  fun f cdv A outer s H vs Q E hr h => ⟨_, /- slots: 0 stream, 1 house, 2 time, 3 name, 4 hue, 5 length, 6 due, 7 rinses, 8 last, 9 begun, 10 scale, 11 names -/ (pss_cons (ps_asg (pv 1) (pg_tup rfl (pgs_cons (pg_name (i := 7) sc_law_cloth.nd rfl (Or.inl rfl)) (pgs_cons (pg_name (i := 8) sc_law_cloth.nd rfl (Or.inl rfl)) (pgs_cons (pg_name (i := 9) sc_law_cloth.nd rfl (Or.inl rfl)) (pgs_cons (pg_name (i := 10) sc_law_cloth.nd rfl (Or.inl rfl)) (pgs_cons (pg_name (i := 11) sc_law_cloth.nd rfl (Or.inl rfl)) pgs_nil)))))))
      (pss_cons (ps_set (i := 3) sc_law_cloth.nd rfl (Or.inl rfl) (pe_ix ix_list (pv 11) (pe_ca C_law_take hr (pa_cons (pv 0) (pa_cons pe_int pa_nil))) (fun _ _ => rfl)))
      (pss_cons (ps_set (i := 4) sc_law_cloth.nd rfl (Or.inl rfl) (pe_ca C_law_take hr (pa_cons (pv 0) (pa_cons (pe_op op_sub (pe_callB call_len_seq (by rfl) B.len PySem.boot_len (pa_cons (pv 7) pa_nil)) pe_int) pa_nil))))
      (pss_cons (ps_set (i := 5) sc_law_cloth.nd rfl (Or.inl rfl) (pe_op op_add pe_int (pe_ca C_law_take hr (pa_cons (pv 0) (pa_cons (pv 10) pa_nil)))))
      (pss_cons (ps_set (i := 6) sc_law_cloth.nd rfl (Or.inl rfl) (pe_op op_sub (pe_op op_add (pv 2) (pe_ca C_law_take hr (pa_cons (pv 0) (pa_cons (pe_op op_mulW pe_int (pv 10)) pa_nil)))) pe_int))
      (pss_one (ps_ret (pe_tup (pa_cons (pv 3) (pa_cons (pv 4) (pa_cons (pv 5) (pa_cons (pv 6) (pa_cons (pe_op op_add pe_int (pe_ca C_law_take hr (pa_cons (pv 0) (pa_cons (pe_ix ix_list (pe_lst (pa_cons pe_int (pa_cons (pe_op op_pow pe_int pe_int) pa_nil))) (pe_ca C_law_take hr (pa_cons (pv 0) (pa_cons pe_int pa_nil))) (fun _ _ => rfl)) pa_nil)))) pa_nil))))))))))))), by
    obtain ⟨s, t, tm, x, D, rfl, hx, hD, hne, q⟩ := h
    obtain ⟨ok, r, nm, ht, hM, hnm⟩ := hD
    obtain ⟨rns, nns⟩ := hne r nm ht
    obtain ⟨rs, hrs, lrs, _⟩ := hM.ex
    have hs1 := ok.s1
    have hs0 := ok.s0
    have hn4 := ok.n4
    have hn1 := ok.n1
    dsimp only [tSeq, tRet, tRetN, tIfS, tAsg, tDrop, tNext, tNever, tVar, tC, tCons, tNil, tCB, tOp, tTest, tB, tAnd, tOr, tNot, tAndV, tOrV, tNotV, tChain, tTup, tLst, tFld, sFld, tCall, tMeth, tMake, tDGet, tDIn, tDNotIn, sDPut, tDNewK, tSl, tPart, tNoPart, gTup, gCons, gNil, gSub, tBM, tUn]
    dsimp only [cx_p, cx_w, cx_K]
    refine ⟨_, rfl, t, _, rfl, Or.inl (Or.inl ht), rfl, _, _, rfl, _, _, rfl, _, _, rfl, _, _, rfl, _, _, rfl, rfl, ?_⟩
    refine ⟨_, rfl, _, rfl, s, 14, x, rfl, by decide, by decide, hx, fun d1 x1 d10 d11 => ?_⟩
    have E1 : SB s H (upd H s (.lst [.int x1])) := SB.put1
    have hx1 : (upd H s (.lst [.int x1])) s = some (.lst [.int x1]) := upd_same
    generalize upd H s (.lst [.int x1]) = H1 at E1 hx1 ⊢
    obtain ⟨i1, rfl⟩ := Int.eq_ofNat_of_zero_le d10
    have li1 : i1 < D.names.length := by rw [ok.ln]; omega
    have gz : D.names[i1]? = some D.names[i1] := List.getElem?_eq_getElem li1
    have oz := ok.ok _ (List.getElem_mem li1)
    generalize D.names[i1] = z at gz oz
    refine ⟨nm, _, _, .str z, rfl, rfl, Or.inl (Or.inl (E1 _ _ nns hnm)), atI_nat (by rw [List.getElem?_map, gz]; rfl), ?_⟩
    refine ⟨_, rfl, _, rfl, r, _, rfl, Or.inl (Or.inl (Or.inl (E1 _ _ rns hrs))), _, _, rfl, rfl, s, _, x1, rfl, ?_, ?_, hx1, fun d2 x2 d20 d21 => ?_⟩
    · rw [List.length_map, lrs]; omega
    · rw [List.length_map, lrs]; omega
    have E2 := E1.st (o := HO.lst [.int x2])
    have hx2 : (upd H1 s (.lst [.int x2])) s = some (.lst [.int x2]) := upd_same
    generalize upd H1 s (.lst [.int x2]) = H2 at E2 hx2 ⊢
    rw [List.length_map, lrs] at d21
    obtain ⟨h2, rfl⟩ := Int.eq_ofNat_of_zero_le d20
    refine ⟨_, rfl, _, rfl, s, _, x2, rfl, hs0, by omega, hx2, fun d3 x3 d30 d31 => ⟨_, _, rfl, rfl, ?_⟩⟩
    have E3 := E2.st (o := HO.lst [.int x3])
    have hx3 : (upd H2 s (.lst [.int x3])) s = some (.lst [.int x3]) := upd_same
    generalize upd H2 s (.lst [.int x3]) = H3 at E3 hx3 ⊢
    refine ⟨_, rfl, _, rfl, _, rfl, _, _, rfl, rfl, wide_mul (a := 64) (b := 98) (by decide) (by omega) (by decide) (by decide) (by decide), s, _, x3, rfl, by omega, by omega, hx3, fun d4 x4 d40 d41 => ⟨_, _, rfl, rfl, _, _, rfl, rfl, ?_⟩⟩
    have E4 := E3.st (o := HO.lst [.int x4])
    have hx4 : (upd H3 s (.lst [.int x4])) s = some (.lst [.int x4]) := upd_same
    generalize upd H3 s (.lst [.int x4]) = H4 at E4 hx4 ⊢
    refine ⟨_, rfl, _, rfl, _, rfl, _, rfl, _, rfl, _, _, rfl, rfl, ⟨by decide, by decide, by decide⟩, (show 2 ≤ sizeLine by decide), fun L hL => ?_⟩
    have sL : s ≠ L := fun z => by rw [← z, hx4] at hL; cases hL
    have E5 := E4.same (same_new (o := HO.lst [.int 3, .int ((10 : Int) ^ (29 : Int).toNat)]) hL)
    have hx5 := same_new (o := HO.lst [.int 3, .int ((10 : Int) ^ (29 : Int).toNat)]) hL _ _ hx4
    refine ⟨_, rfl, s, 2, x4, rfl, by decide, by decide, hx5, fun d5 x5 d50 d51 => ?_⟩
    have E6 := E5.st (o := HO.lst [.int x5])
    have hx6 : (upd (upd H4 L (.lst [.int 3, .int ((10 : Int) ^ (29 : Int).toNat)])) s (.lst [.int x5])) s = some (.lst [.int x5]) := upd_same
    have hL6 : (upd (upd H4 L (.lst [.int 3, .int ((10 : Int) ^ (29 : Int).toNat)])) s (.lst [.int x5])) L = some (.lst [.int 3, .int ((10 : Int) ^ (29 : Int).toNat)]) := by rw [upd_ne sL.symm]; exact upd_same
    generalize upd (upd H4 L (.lst [.int 3, .int ((10 : Int) ^ (29 : Int).toNat)])) s (.lst [.int x5]) = H6 at E6 hx6 hL6 ⊢
    have hm7 : ∃ m : Int, atI [V.int 3, V.int ((10 : Int) ^ (29 : Int).toNat)] d5 = some (.int m) ∧ 0 < m ∧ m < 2 ^ 200 := by
      have h5 : d5 = 0 ∨ d5 = 1 := by omega
      rcases h5 with rfl | rfl
      · exact ⟨_, rfl, by decide, by decide⟩
      · exact ⟨_, rfl, by decide +kernel, by decide +kernel⟩
    obtain ⟨m7, hm7, m70, m71⟩ := hm7
    refine ⟨L, _, d5, _, rfl, rfl, Or.inl (Or.inl hL6), hm7, s, m7, x5, rfl, m70, m71, hx6, fun d8 x8 d80 d81 => ⟨_, _, rfl, rfl, (show 5 ≤ sizeLine by decide), fun a ha => ?_⟩⟩
    have E7 := E6.st (o := HO.lst [.int x8])
    have hx7 : (upd H6 s (.lst [.int x8])) s = some (.lst [.int x8]) := upd_same
    exact q _ a ⟨z, h2, 1 + d3, tm + d4 - 2, 1 + d8⟩ x8 (E7.same (same_new ha)) (same_new ha _ _ hx7) upd_same ⟨oz, by show h2 < D.n; omega, by show 0 < 1 + d3; omega, by show 0 < 1 + d8; omega⟩⟩
abbrev sp_law_end (G : Ad) : Sp := fun vs H Q _ => ∃ (a t : Addr) (W : Wk) (c : Cloth), vs = [.ref a, .int W.last, .int W.time, .ref t] ∧ MxAt H a W.n (fw W.n W.R) ∧ ClAt H t c ∧ c.hue < W.n ∧ -1 ≤ W.last ∧ W.last < W.n ∧ Q (.int (W.time + W.rin W.last c.hue + c.len)) H
theorem sc_law_end : FnScope ["least", "last", "time", "cloth"] ["least", "last", "time", "cloth"] (defScope s_law_end) := ⟨rfl, rfl, rfl, by decide +kernel, rfl, by decide +kernel, by decide +kernel⟩
theorem c_law_end (F : Gd G.K mg "_law_end" s_law_end) : Ca P w G.K mg base (k + 1) "_law_end" (sp_law_end G) :=
  ca_0 F sc_law_end (fun _ _ _ _ _ _ us hl => match us, hl with | [_, _, _, _], _ => rfl) (fun vs H Q E h => by obtain ⟨_, _, _, _, rfl, _⟩ := h; rfl)
  fun f cdv A outer s H vs Q E hr h => ⟨_, /- slots: 0 least, 1 last, 2 time, 3 cloth -/ (pss_cons (ps_if (pt_cmpR op_ne (pv 1) (pe_ix ix_tup (pv 3) pe_int (fun _ _ => rfl)) (nomark _)) (pss_one (ps_set (i := 2) sc_law_end.nd rfl (Or.inl rfl) (pe_op op_add (pv 2) (pe_ix ix_list (pe_ix ix_list (pv 0) (pv 1) (fun _ _ => rfl)) (pe_ix ix_tup (pv 3) pe_int (fun _ _ => rfl)) (fun _ _ => rfl))))) pss_nil)
      (pss_one (ps_ret (pe_op op_add (pv 2) (pe_ix ix_tup (pv 3) pe_int (fun _ _ => rfl)))))), by
    obtain ⟨a, t, W, c, rfl, hM, ht, hh, l0, l1, q⟩ := h
    obtain ⟨rs, hrs, lrs, hrow⟩ := hM.ex
    dsimp only [tSeq, tRet, tRetN, tIfS, tAsg, tDrop, tNext, tNever, tVar, tC, tCons, tNil, tCB, tOp, tTest, tB, tAnd, tOr, tNot, tAndV, tOrV, tNotV, tChain, tTup, tLst, tFld, sFld, tCall, tMeth, tMake, tDGet, tDIn, tDNotIn, sDPut, tDNewK, tSl, tPart, tNoPart, gTup, gCons, gNil, gSub, tBM, tUn]
    dsimp only [cx_p, cx_w, cx_K]
    refine ⟨_, rfl, _, rfl, t, _, 1, _, rfl, rfl, Or.inl (Or.inl ht), rfl, rfl, ?_⟩
    by_cases e : W.last = (c.hue : Int)
    · have er : W.rin W.last c.hue = 0 := if_pos e
      rw [er, Int.add_zero] at q
      exact ⟨false, congrArg V.bl (by rw [e, decide_eq_true rfl]; rfl), _, rfl, _, rfl, t, _, 2, _, rfl, rfl, Or.inl (Or.inl ht), rfl, _, _, rfl, rfl, q⟩
    · have er : W.rin W.last c.hue = fw W.n W.R (rowIx W.n W.last) c.hue := if_neg e
      rw [er] at q
      have hix : rowIx W.n W.last < W.n + 1 := by unfold rowIx; split <;> omega
      have gr : rs[rowIx W.n W.last]? = some (rs[rowIx W.n W.last]'(by omega)) := List.getElem?_eq_getElem _
      generalize rs[rowIx W.n W.last]'(by omega) = r at gr
      have hr2 := hrow _ r gr
      have h1 : atI (rs.map V.ref) W.last = some (.ref r) := atI_rowIx (by rw [List.length_map, lrs]) l0 l1 (by rw [List.getElem?_map, gr]; rfl)
      have h2 : atI (rowV W.n (fw W.n W.R) (rowIx W.n W.last)) (c.hue : Int) = some (.int (fw W.n W.R (rowIx W.n W.last) c.hue)) := atI_nat (by unfold rowV; rw [List.getElem?_map, List.getElem?_range hh]; rfl)
      exact ⟨true, congrArg V.bl (by rw [decide_eq_false (fun z => e (by injection z))]; rfl), _, rfl, _, rfl, _, rfl, a, _, _, _, rfl, rfl, Or.inl (Or.inl hrs), h1, _, rfl, t, _, 1, _, rfl, rfl, Or.inl (Or.inl ht), rfl, r, _, _, _, rfl, rfl, Or.inl (Or.inl hr2), h2, _, _, rfl, rfl, _, rfl, _, rfl, t, _, 2, _, rfl, rfl, Or.inl (Or.inl ht), rfl, _, _, rfl, rfl, q⟩⟩
end Rw82
/-! The law's least sums. -/
namespace Rw82
open PySem PySem.Spec PyProof.Rows L2
variable {P : Program} {w : World} {mg : Str → Option Value} {base : Heap} {k : Nat} {G : Ad}
theorem RowsP.same {H0 H H' : Hp} {D : Addr} {rs : List Addr} {n i : Nat} {R : Mat} (x : RowsP H0 H D rs n R i) (e : Same H H') : RowsP H0 H' D rs n R i :=
  ⟨Evl.Ex.trans x.s e, x.d0, e _ _ x.hs, x.ln, x.nd, x.fr, fun j r h => e _ _ (x.row j r h)⟩
theorem RowsP.set {H0 H : Hp} {D r : Addr} {rs : List Addr} {n i f h : Nat} {L : Mat} {v : Int} (x : RowsP H0 H D rs n L i) (g : rs[f]? = some r) : RowsP H0 (upd H r (.lst (rowV n (setM L f h v) f))) D rs n (setM L f h v) i := by
  have m := List.mem_of_getElem? g
  obtain ⟨h1, h2⟩ := x.fr r m
  refine ⟨same_mut x.s h1, x.d0, by rw [upd_ne h2.symm]; exact x.hs, x.ln, x.nd, x.fr, fun j r' hj => ?_⟩
  by_cases e : j = f
  · subst e
    rw [g] at hj
    cases hj
    exact upd_same
  · have ne : r' ≠ r := fun z => by
      rw [z] at hj
      obtain ⟨lj, ej⟩ := List.getElem?_eq_some_iff.mp hj
      obtain ⟨lf, ef⟩ := List.getElem?_eq_some_iff.mp g
      exact e ((List.getElem_inj x.nd).mp (ej.trans ef.symm))
    rw [upd_ne ne, x.row j r' hj]
    have h4 : rowV n (setM L f h v) j = rowV n L j := by
      unfold rowV
      refine List.map_congr_left fun b _ => ?_
      rw [setM_ne _ _ (fun z => e z.1)]
    rw [h4]
abbrev sp_law_least (G : Ad) : Sp := fun vs H Q _ => ∃ r n R, vs = [.ref r] ∧ MxAt H r n R ∧ 1 ≤ n ∧ n ≤ 4 ∧ Nonneg R ∧ ∀ H' a, Same H H' → MxAt H' a n (fw n R) → Q (.ref a) H'
theorem sc_law_least : FnScope ["rinses", "least", "turn", "row", "hue", "through", "amid"] ["rinses"] (defScope s_law_least) := ⟨rfl, rfl, rfl, by decide +kernel, rfl, by decide +kernel, by decide +kernel⟩
theorem c_law_least (B : Bn mg) (F : Gd G.K mg "_law_least" s_law_least) : Ca P w G.K mg base (k + 1) "_law_least" (sp_law_least G) :=
  ca_0 F sc_law_least (fun _ _ _ _ _ _ us hl => match us, hl with | [_], _ => rfl) (fun vs H Q E h => by obtain ⟨_, _, _, rfl, _⟩ := h; rfl)
  fun f cdv A outer s H vs Q E hr h => ⟨_, /- slots: 0 rinses, 1 least, 2 turn, 3 row, 4 hue, 5 through, 6 amid -/ (pss_cons (ps_set (i := 1) sc_law_least.nd rfl (Or.inr rfl) (pe_lc (own := [("row", 3)]) (g := (gName 3)) (tt := tYes) (te := (tCB (rListOf G.K) (tCons (tVar 3) tNil))) rfl sc_law_least.nd (pi_list (pv 0)) (blkOk_by (own := [("row", 3)]) (N := ["rinses", "least", "turn", "row", "hue", "through", "amid"]) (sc := defScope s_law_least) (by decide +kernel)) (fun _ _ _ _ _ => by exact (pg_name (i := 3) sc_law_least.nd rfl (Or.inl rfl))) (fun _ _ _ _ _ => by exact pts_nil) (fun _ _ _ _ _ => by exact (pe_callTy call_list_of (by rfl) B.list (by decide +kernel) (pa_cons (pv 3) pa_nil)))))
      (pss_cons (ps_for PassesOwn.never rfl (pi_range1 (by rfl) B.range (pa_cons (pe_callB call_len_seq (by rfl) B.len PySem.boot_len (pa_cons (pv 0) pa_nil)) pa_nil)) (pg_name (i := 2) sc_law_least.nd rfl (Or.inl rfl)) (pss_one (ps_for PassesOwn.never rfl (pi_list (pv 1)) (pg_name (i := 3) sc_law_least.nd rfl (Or.inr rfl)) (pss_one (ps_for PassesOwn.never rfl (pi_range1 (by rfl) B.range (pa_cons (pe_callB call_len_seq (by rfl) B.len PySem.boot_len (pa_cons (pv 3) pa_nil)) pa_nil)) (pg_name (i := 4) sc_law_least.nd rfl (Or.inr rfl)) (pss_cons (ps_setLc (i := 5) (own := [("amid", 6)]) (g := (gName 6)) (tt := tYes) (te := (tOp (rI0 fun i j => .int (i + j)) (tOp (rIxL G.K) (tVar 3) (tVar 6)) (tOp (rIxL G.K) (tOp (rIxL G.K) (tVar 1) (tVar 6)) (tVar 4)))) rfl sc_law_least.nd rfl rfl (sw_true rfl rfl rfl (by decide +kernel)) (pi_range1 (by rfl) B.range (pa_cons (pe_callB call_len_seq (by rfl) B.len PySem.boot_len (pa_cons (pv 3) pa_nil)) pa_nil)) (blkOk_by (own := [("amid", 6)]) (N := ["rinses", "least", "turn", "row", "hue", "through", "amid"]) (sc := defScope s_law_least) (by decide +kernel)) (fun _ _ _ _ _ => by exact (pg_name (i := 6) sc_law_least.nd rfl (Or.inl rfl))) (fun _ _ _ _ _ => by exact pts_nil) (fun _ _ _ _ _ => by exact (pe_op op_add (pe_ix ix_list (pv 3) (pv 6) (fun _ _ => rfl)) (pe_ix ix_list (pe_ix ix_list (pv 1) (pv 6) (fun _ _ => rfl)) (pv 4) (fun _ _ => rfl)))))
      (pss_one (ps_asg (pe_callB (call_min2 rfl) (by rfl) B.min (by decide +kernel) (pa_cons (pe_ix ix_list (pv 3) (pv 4) (fun _ _ => rfl)) (pa_cons (pe_callB (cr_min rfl) (by rfl) B.min (by decide +kernel) (pa_cons (pv 5) pa_nil)) pa_nil))) (pg_sub (pv 3) (pv 4) set_list)))))))))
      (pss_one (ps_ret (pv 1))))), by
    obtain ⟨r, n, R, rfl, hm, h1, h4, nn, q⟩ := h
    obtain ⟨rs0, hl, hn, hrow⟩ := hm.ex
    have hL : ∀ {H'}, Same H H' → SqL G.K H' r (rs0.map V.ref) := fun e => Or.inl (Or.inl (e _ _ hl))
    have hz : (rs0.map V.ref).length = n + 1 := by rw [List.length_map, hn]
    dsimp only [tSeq, tRet, tRetN, tIfS, tAsg, tDrop, tNext, tNever, tVar, tC, tCons, tNil, tCB, tOp, tTest, tB, tAnd, tOr, tNot, tAndV, tOrV, tNotV, tChain, tTup, tLst, tFld, sFld, tCall, tMeth, tMake, tDGet, tDIn, tDNotIn, sDPut, tDNewK, tSl, tPart, tNoPart, gTup, gCons, gNil, gSub, tBM, tUn]
    dsimp only [cx_p, cx_w, cx_K]
    refine ⟨_, rfl, r, rfl, ⟨_, hL (Evl.Ex.refl _)⟩, fun a ha => lc_it walk_list (fun i H' => ∃ rs, RowsP H H' a rs n R i) ⟨[], RowsP.new ha⟩ (fun i H' _ ⟨rs, p⟩ => hL p.s) ?_ ?_⟩
    · rintro i x H2 H3 hi ⟨rs, p⟩ ⟨rfl, hx⟩
      rw [List.getElem?_map] at hx
      obtain ⟨ra, hra, rfl⟩ := Option.map_eq_some_iff.mp hx
      have hz' : i < n + 1 := by rw [← hz]; exact hi
      exact ⟨rfl, ⟨_, rfl, ra, _, rfl, Or.inl (Or.inl (Or.inl (p.s _ _ (hrow i ra hra)))), fun l hl' => ⟨_, by rw [upd_ne (fun e => by rw [← e, p.hs] at hl'; cases hl')]; exact p.hs, by rw [List.length_map, p.ln]; exact small16' (by omega), _, p.step hl'⟩⟩⟩
    rintro H2 ⟨rs, hrs⟩
    rw [hz] at hrs
    refine ⟨_, rfl, r, _, rfl, Or.inl (hL hrs.s), _, rfl, by omega, by omega, ?_⟩
    refine for_it walk_range (fun t σ' H' => (∃ y2 y3 y4 y5 y6, σ' = [some (.ref r), some (.ref a), y2, y3, y4, y5, y6]) ∧ ∃ L, RowsP H H' a rs n L (n + 1) ∧ LTurn n R t L) ⟨⟨_, _, _, _, _, rfl⟩, R, hrs, LTurn.start nn⟩ (fun _ _ _ _ _ => True.intro) ?_ ?_
    · rintro t x _ H3 H4 ht ⟨⟨y2, y3, y4, y5, y6, rfl⟩, L0, p0, lt⟩ ⟨rfl, rfl⟩
      refine ⟨_, rfl, a, rfl, ⟨_, Or.inl (Or.inl p0.hs)⟩, ?_⟩
      refine for_it (walk_list (xs := rs.map V.ref)) (fun f σ' H' => (∃ y2 y3 y4 y5 y6, σ' = [some (.ref r), some (.ref a), y2, y3, y4, y5, y6]) ∧ ∃ L, RowsP H H' a rs n L (n + 1) ∧ LInv n (fw n R) L0 f 0 L) ⟨⟨_, _, _, _, _, rfl⟩, L0, p0, lt.inv⟩ (fun _ _ _ _ z => by
        obtain ⟨_, _, z, _⟩ := z
        exact Or.inl (Or.inl z.hs)) ?_ ?_
      · rintro f x _ H5 H6 hf ⟨⟨y2, y3, y4, y5, y6, rfl⟩, L1, p1, li⟩ ⟨rfl, hx⟩
        rw [List.getElem?_map] at hx
        obtain ⟨rf, hrf, rfl⟩ := Option.map_eq_some_iff.mp hx
        have hf' : f < n + 1 := by rw [List.length_map, p1.ln] at hf; exact hf
        have lr : (((rowV n L1 f).length : Nat) : Int) = (n : Nat) := by rw [rowV_length]
        refine ⟨_, rfl, rf, _, rfl, Or.inl (Or.inl (Or.inl (p1.row f rf hrf))), _, rfl, by omega, by omega, ?_⟩
        refine for_it walk_range (fun h σ' H' => (∃ y2 y4 y5 y6, σ' = [some (.ref r), some (.ref a), y2, some (.ref rf), y4, y5, y6]) ∧ ∃ L, RowsP H H' a rs n L (n + 1) ∧ LInv n (fw n R) L0 f h L) ⟨⟨_, _, _, _, rfl⟩, L1, p1, li⟩ (fun _ _ _ _ _ => True.intro) ?_ ?_
        · rintro h x _ H7 H8 hh ⟨⟨y2, y4, y5, y6, rfl⟩, L, p, lv⟩ ⟨rfl, rfl⟩
          have hh' : h < n := by
            have : h < (((rowV n L1 f).length : Nat) : Int).toNat := hh
            omega
          have e0 : (0 : Int) + (h : Nat) = (h : Nat) := Int.zero_add _
          have lr2 : (((rowV n L f).length : Nat) : Int) = (n : Nat) := by rw [rowV_length]
          have gf : rs[f]? = some rf := hrf
          have hrw := p.row f rf gf
          refine ⟨_, rfl, rf, _, rfl, Or.inl (Or.inl (Or.inl hrw)), _, rfl, by omega, by omega, fun Dt hDt => ?_⟩
          refine lc_it walk_range (fun j H' => Same H8 H' ∧ H' Dt = some (.lst (((List.range j).map fun g => L f g + L g h).map V.int))) ⟨same_new hDt, upd_same⟩ (fun _ _ _ _ => True.intro) ?_ ?_
          · rintro j x H9 H10 hj ⟨e9, hDt9⟩ ⟨rfl, rfl⟩
            have hj' : j < n := by
              have : j < (((rowV n L f).length : Nat) : Int).toNat := hj
              omega
            have ej : (0 : Int) + (j : Nat) = (j : Nat) := Int.zero_add _
            have p9 := p.same e9
            have gj : rs[j]? = some (rs[j]'(by rw [p9.ln]; omega)) := List.getElem?_eq_getElem _
            generalize rs[j]'(by rw [p9.ln]; omega) = rj at gj
            refine ⟨rfl, _, rfl, _, rfl, rf, _, _, _, rfl, rfl, Or.inl (Or.inl (p9.row f rf gf)), by rw [ej]; exact atI_nat (rowV_get hj'), _, rfl, _, rfl, a, _, _, _, rfl, rfl, Or.inl (Or.inl p9.hs), by rw [ej]; exact atI_nat (by rw [List.getElem?_map, gj]; rfl), _, rfl, rj, _, _, _, rfl, rfl, Or.inl (Or.inl (p9.row j rj gj)), by rw [e0]; exact atI_nat (rowV_get hh'), _, _, rfl, rfl, _, hDt9, by rw [List.length_map, List.length_map, List.length_range]; exact small16' (by omega), same_mut e9 hDt, ?_⟩
            rw [upd_same, List.range_succ, List.map_append, List.map_append]
            rfl
          · rintro H9 ⟨e9, hDt9⟩
            have en : (((rowV n L f).length : Nat) : Int).toNat = n := by omega
            rw [en] at hDt9
            have p9 := p.same e9
            refine ⟨_, rfl, _, rfl, rf, _, _, _, rfl, rfl, Or.inl (Or.inl (p9.row f rf gf)), by rw [e0]; exact atI_nat (rowV_get hh'), _, rfl, Dt, _, rfl, Or.inl (Or.inl hDt9), by rw [List.length_map, List.length_range]; omega, fun m hm hle => ⟨_, _, rfl, ?_⟩⟩
            have hmin : ∀ g, g < n → m ≤ L f g + L g h := fun g hg => hle _ (List.mem_map.mpr ⟨g, List.mem_range.mpr hg, rfl⟩)
            have hone : ∃ g, g < n ∧ m = L f g + L g h := by
              obtain ⟨g, hg, e⟩ := List.mem_map.mp hm
              exact ⟨g, List.mem_range.mp hg, e.symm⟩
            have cell : LCell n L f h (if m < L f h then m else L f h) := by
              refine ⟨?_, fun g hg => ?_, ?_⟩
              · split <;> omega
              · have := hmin g hg
                split <;> omega
              · by_cases hlt : m < L f h
                · rw [if_pos hlt]
                  exact Or.inr hone
                · rw [if_neg hlt]
                  exact Or.inl rfl
            refine ⟨_, rfl, _, rfl, rf, _, _, h, rfl, rfl, p9.row f rf gf, by rw [e0, rowV_length]; exact Evl.ixN_nat hh', ?_⟩
            rw [rowV_set hh']
            exact ⟨⟨_, _, _, _, rfl⟩, _, p9.set gf, lv.cell hf' hh' (fw_tri' nn) cell⟩
        · rintro _ H7 ⟨⟨y2, y4, y5, y6, rfl⟩, L, p, lv⟩
          have : (((rowV n L1 f).length : Nat) : Int).toNat = n := by omega
          rw [this] at lv
          exact ⟨⟨_, _, _, _, _, rfl⟩, L, p, lv.row⟩
      · rintro _ H5 ⟨⟨y2, y3, y4, y5, y6, rfl⟩, L1, p1, li⟩
        rw [List.length_map, p1.ln] at li
        exact ⟨⟨_, _, _, _, _, rfl⟩, L1, p1, lt.next nn li⟩
    · rintro _ H3 ⟨⟨y2, y3, y4, y5, y6, rfl⟩, L, p, lt⟩
      refine ⟨_, rfl, q H3 a p.s ⟨rs, p.hs, p.ln, fun i r' hi => ?_⟩⟩
      have hi' : i < n + 1 := by rw [← p.ln]; exact (List.getElem?_eq_some_iff.mp hi).1
      rw [p.row i r' hi]
      have : rowV n L i = rowV n (fw n R) i := by
        unfold rowV
        refine List.map_congr_left fun b hb => ?_
        rw [lt.fin (by rw [hz]; omega) hi' (List.mem_range.mp hb)]
      rw [this]⟩
end Rw82
/-! The law's deeds. -/
namespace Rw82
open PySem PySem.Spec PyProof.Rows L2
variable {P : Program} {w : World} {mg : Str → Option Value} {base : Heap} {k : Nat} {G : Ad}
/-- the law's own state -/
structure LSt where
  cs : List (Cloth × Addr)
  last : Int
  time : Int
  rows : List V
  lates : List V
structure StAt (H : Hp) (t : Addr) (S : LSt) : Prop where
  ex : ∃ d rr rl : Addr, H t = some (.tup [.ref d, .int S.last, .int S.time, .ref rr, .ref rl]) ∧ H d = some (.dK (kvsOf S.cs)) ∧ H rr = some (.lst S.rows) ∧ H rl = some (.lst S.lates)
  cl : ∀ q ∈ S.cs, ClAt H q.2 q.1
theorem StAt.kp {H H' : Hp} {t : Addr} {S : LSt} (x : StAt H t S) (e : Kp H H') : StAt H' t S := by
  obtain ⟨⟨d, rr, rl, h1, h2, h3, h4⟩, h5⟩ := x
  exact ⟨⟨d, rr, rl, Kp.tup e h1, Kp.dK e h2, Kp.lst e h3, Kp.lst e h4⟩, fun q hq => (h5 q hq).kp e⟩
theorem DrAt.kp {H H' : Hp} {t : Addr} {D : Dr} (x : DrAt H t D) (e : Kp H H') : DrAt H' t D := by
  obtain ⟨ok, r, nm, h1, h2, h3⟩ := x
  exact ⟨ok, r, nm, Kp.tup e h1, h2.kp e, Kp.lst e h3⟩
inductive Deed
  | put (zs : List V) (g : Bool)
  | work (z : Str)
  | drop (z : Str)
  | wait (v : V)
  | back
def DeedAt (H : Hp) (t : Addr) : Deed → Prop
  | .put zs g => ∃ c : Addr, H t = some (.tup [.str "put", .ref c, .bl g]) ∧ H c = some (.tup zs)
  | .work z => H t = some (.tup [.str "work", .str z])
  | .drop z => H t = some (.tup [.str "drop", .str z])
  | .wait v => H t = some (.tup [.str "wait", v])
  | .back => H t = some (.tup [.str "back"])
def Deed.Ok (n : Nat) : Deed → Prop
  | .put zs true => ∃ c, zs = clV c ∧ goodC n c
  | .put zs false => isCl n zs = some false ∧ zs.length ≤ 1000 ∧ 1 ≤ zs.length ∧ (∀ a r, zs = .str a :: r → a.length ≤ 1000)
  | .wait v => v = .bl true ∨ v = .non ∨ v = .str "9" ∨ ∃ i, v = .int i
  | _ => True
theorem same_sb {s : Addr} {H0 H H' : Hp} (e : Same H0 H) (n : H0 s = none) (e' : SB s H H') : Same H0 H' := fun b o h => e' b o (ne_of_none h n) (e b o h)
theorem app_cps (z : Str) : (z ++ "A" : Str).cps.toList = z.cps.toList ++ ("A" : Str).cps.toList := Array.toList_append ..
theorem noA (z : Str) : okName (z ++ "A") = false := by
  unfold okName
  rw [app_cps, List.all_append, show (("A" : Str).cps.toList.all fun c => decide (c ∈ alphabet.cps.toList)) = false from by decide +kernel, Bool.and_false, Bool.and_false]
theorem app_len (z : Str) : (z ++ "A" : Str).length = z.length + 1 := by
  show (z ++ "A" : Str).cps.size = z.cps.size + 1
  rw [← Array.length_toList, app_cps, List.length_append, Array.length_toList]
  rfl
theorem st18 (a b c : V) : L2.start ["stream", "house", "state", "kind", "waiting", "last", "time", "rows", "lates", "cloth", "spoil", "name", "odd", "hues", "hue", "length", "due", "weight"] [a, b, c] = [some a, some b, some c, none, none, none, none, none, none, none, none, none, none, none, none, none, none, none] := rfl
abbrev sp_law_deed (G : Ad) : Sp := fun vs H Q _ => ∃ (H0 : Hp) (s t u : Addr) (x : Int) (D : Dr) (S : LSt), vs = [.ref s, .ref t, .ref u] ∧ H s = some (.lst [.int x]) ∧ H0 s = none ∧ Same H0 H ∧ DrAt H0 t D ∧ StAt H0 u S ∧ S.cs.length ≤ 60 ∧
  ∀ H' a d, Same H0 H' → DeedAt H' a d → d.Ok D.n → Q (.ref a) H'
theorem sc_law_deed : FnScope ["stream", "house", "state", "kind", "waiting", "last", "time", "rows", "lates", "cloth", "spoil", "name", "odd", "hues", "hue", "length", "due", "weight"] ["stream", "house", "state"] (defScope s_law_deed) := ⟨rfl, rfl, rfl, by decide +kernel, rfl, by decide +kernel, by decide +kernel⟩
theorem c_law_deed (B : Bn mg) (C_law_take : Ca P w G.K mg base k "_law_take" sp_law_take) (C_law_cloth : Ca P w G.K mg base k "_law_cloth" (sp_law_cloth G)) (F : Gd G.K mg "_law_deed" s_law_deed) : Ca P w G.K mg base (k + 1) "_law_deed" (sp_law_deed G) :=
  ca_0 F sc_law_deed (fun _ _ _ _ _ _ us hl => match us, hl with | [_, _, _], _ => rfl) (fun vs H Q E h => by obtain ⟨_, _, _, _, _, _, _, rfl, _⟩ := h; rfl)
  fun f cdv A outer s H vs Q E hr h => ⟨_, /- slots: 0 stream, 1 house, 2 state, 3 kind, 4 waiting, 5 last, 6 time, 7 rows, 8 lates, 9 cloth, 10 spoil, 11 name, 12 odd, 13 hues, 14 hue, 15 length, 16 due, 17 weight -/ (pss_cons (ps_asg (pv 2) (pg_tup rfl (pgs_cons (pg_name (i := 4) sc_law_deed.nd rfl (Or.inl rfl)) (pgs_cons (pg_name (i := 5) sc_law_deed.nd rfl (Or.inl rfl)) (pgs_cons (pg_name (i := 6) sc_law_deed.nd rfl (Or.inl rfl)) (pgs_cons (pg_name (i := 7) sc_law_deed.nd rfl (Or.inl rfl)) (pgs_cons (pg_name (i := 8) sc_law_deed.nd rfl (Or.inl rfl)) pgs_nil)))))))
      (pss_cons (ps_set (i := 3) sc_law_deed.nd rfl (Or.inl rfl) (pe_ca C_law_take hr (pa_cons (pv 0) (pa_cons pe_int pa_nil))))
      (pss_cons (ps_if (pt_cmpR op_lt (pv 3) pe_int (nomark _)) (pss_cons (ps_set (i := 9) sc_law_deed.nd rfl (Or.inl rfl) (pe_ca C_law_cloth hr (pa_cons (pv 0) (pa_cons (pv 1) (pa_cons (pv 6) pa_nil)))))
      (pss_cons (ps_set (i := 10) sc_law_deed.nd rfl (Or.inl rfl) (pe_ca C_law_take hr (pa_cons (pv 0) (pa_cons pe_int pa_nil))))
      (pss_cons (ps_if (pt_cmpR op_lt (pv 10) pe_int (nomark _)) (pss_cons (ps_asg (pv 9) (pg_tup rfl (pgs_cons (pg_name (i := 11) sc_law_deed.nd rfl (Or.inl rfl)) (pgs_cons (pg_name (i := 14) sc_law_deed.nd rfl (Or.inl rfl)) (pgs_cons (pg_name (i := 15) sc_law_deed.nd rfl (Or.inl rfl)) (pgs_cons (pg_name (i := 16) sc_law_deed.nd rfl (Or.inl rfl)) (pgs_cons (pg_name (i := 17) sc_law_deed.nd rfl (Or.inl rfl)) pgs_nil)))))))
      (pss_cons (ps_set (i := 13) sc_law_deed.nd rfl (Or.inl rfl) (pe_op op_sub (pe_callB call_len_seq (by rfl) B.len PySem.boot_len (pa_cons (pe_ix ix_tup (pv 1) pe_int (fun _ _ => rfl)) pa_nil)) pe_int))
      (pss_one (ps_set (i := 9) sc_law_deed.nd rfl (Or.inl rfl) (pe_ix ix_list (pe_lst (pa_cons (pe_tup (pa_cons (pv 11) (pa_cons (pv 13) (pa_cons (pv 15) (pa_cons (pv 16) (pa_cons (pv 17) pa_nil)))))) (pa_cons (pe_tup (pa_cons (pv 11) (pa_cons (pv 14) (pa_cons pe_int (pa_cons (pv 16) (pa_cons (pv 17) pa_nil)))))) (pa_cons (pe_tup (pa_cons (pv 11) (pa_cons (pv 14) (pa_cons (pv 15) (pa_cons (pv 16) pa_nil))))) (pa_cons (pe_tup (pa_cons (pe_op op_add_str (pv 11) pe_str) (pa_cons (pv 14) (pa_cons (pv 15) (pa_cons (pv 16) (pa_cons (pv 17) pa_nil)))))) pa_nil))))) (pv 10) (fun _ _ => rfl)))))) pss_nil)
      (pss_one (ps_ret (pe_tup (pa_cons pe_str (pa_cons (pv 9) (pa_cons (pe_cmpR op_ge (pv 10) pe_int (nomark _)) pa_nil))))))))) pss_nil)
      (pss_cons (ps_if (pt_cmpR op_lt (pv 3) pe_int (nomark _)) (pss_cons (ps_set (i := 11) sc_law_deed.nd rfl (Or.inl rfl) (pe_ix ix_list (pe_op op_cat (pe_ix ix_tup (pv 1) pe_int (fun _ _ => rfl)) (pe_lst (pa_cons pe_str (pa_cons pe_str pa_nil)))) (pe_ca C_law_take hr (pa_cons (pv 0) (pa_cons pe_int pa_nil))) (fun _ _ => rfl)))
      (pss_cons (ps_if (PW.pt (pw_and (pt_cmpR (op_neD0 hr.units0) (pv 4) pe_dnewK (nomark _)) (pw_and1 (pt_cmpR op_gt (pe_ca C_law_take hr (pa_cons (pv 0) (pa_cons pe_int pa_nil))) pe_int (nomark _))))) (pss_one (ps_set (i := 11) sc_law_deed.nd rfl (Or.inl rfl) (pe_ix ix_list (pe_callB (call_sortK rfl) (by rfl) B.sorted (by decide +kernel) (pa_cons (pe_bm0 PySem.F.plainAttrs_dict PySem.F.slot_dict_keys PySem.F.type_dict_keys mt_keys (pv 4)) pa_nil)) (pe_ca C_law_take hr (pa_cons (pv 0) (pa_cons (pe_callB call_lenD (by rfl) B.len PySem.boot_len (pa_cons (pv 4) pa_nil)) pa_nil))) (fun _ _ => rfl)))) pss_nil)
      (pss_one (ps_ret (pe_tup (pa_cons (pe_ix ix_list (pe_lst (pa_cons pe_str (pa_cons pe_str (pa_cons pe_str pa_nil)))) (pe_op op_sub (pv 3) pe_int) (fun _ _ => rfl)) (pa_cons (pv 11) pa_nil))))))) pss_nil)
      (pss_cons (ps_if (pt_cmpR op_eq (pv 3) pe_int (nomark _)) (pss_cons (ps_set (i := 12) sc_law_deed.nd rfl (Or.inl rfl) (pe_ca C_law_take hr (pa_cons (pv 0) (pa_cons pe_int pa_nil))))
      (pss_cons (ps_if (pt_cmpR op_lt (pv 12) pe_int (nomark _)) (pss_one (ps_ret (pe_tup (pa_cons pe_str (pa_cons (pe_ix ix_list (pe_lst (pa_cons pe_bl (pa_cons pe_non (pa_cons pe_str pa_nil)))) (pv 12) (fun _ _ => rfl)) pa_nil))))) pss_nil)
      (pss_one (ps_ret (pe_tup (pa_cons pe_str (pa_cons (pe_op op_sub (pe_op op_add (pv 6) (pe_ca C_law_take hr (pa_cons (pv 0) (pa_cons (pe_ix ix_list (pe_lst (pa_cons pe_int (pa_cons pe_int (pa_cons (pe_ix ix_tup (pv 1) pe_int (fun _ _ => rfl)) pa_nil)))) (pe_op op_mod (pv 12) pe_int) (fun _ _ => rfl)) pa_nil)))) (pe_callTy call_int1 (by rfl) B.int (by decide +kernel) (pa_cons (pe_cmpR op_eq (pv 12) pe_int (nomark _)) pa_nil))) pa_nil))))))) pss_nil)
      (pss_one (ps_ret (pe_tup (pa_cons pe_str pa_nil))))))))), by
    obtain ⟨H0, s, t, u, x, D, S, rfl, hx, hn, e0, hD, hS, hlen, q⟩ := h
    obtain ⟨⟨d, rr, rl, hu, hd, hrr, hrl⟩, hcl⟩ := hS
    have ok := hD.ok
    have hs0 := ok.s0
    have hs1 := ok.s1
    have hDex := hD.ex
    obtain ⟨r, nm, ht, hM, hnm⟩ := hDex
    dsimp only [tSeq, tRet, tRetN, tIfS, tAsg, tDrop, tNext, tNever, tVar, tC, tCons, tNil, tCB, tOp, tTest, tB, tAnd, tOr, tNot, tAndV, tOrV, tNotV, tChain, tTup, tLst, tFld, sFld, tCall, tMeth, tMake, tDGet, tDIn, tDNotIn, sDPut, tDNewK, tSl, tPart, tNoPart, gTup, gCons, gNil, gSub, tBM, tUn]
    dsimp only [cx_p, cx_w, cx_K]
    refine ⟨_, rfl, u, _, rfl, Or.inl (Or.inl (e0 _ _ hu)), rfl, _, _, rfl, _, _, rfl, _, _, rfl, _, _, rfl, _, _, rfl, rfl, ?_⟩
    refine ⟨_, rfl, s, 8, x, rfl, by decide, by decide, hx, fun d1 x1 d10 d11 => ?_⟩
    have E1 : Same H0 (upd H s (.lst [.int x1])) := same_sb e0 hn SB.put1
    have hx1 : (upd H s (.lst [.int x1])) s = some (.lst [.int x1]) := upd_same
    generalize upd H s (.lst [.int x1]) = H1 at E1 hx1 ⊢
    refine ⟨_, rfl, _, _, rfl, rfl, ?_⟩
    by_cases h3 : d1 < 3
    · refine ⟨true, congrArg V.bl (decide_eq_true h3), ?_⟩
      refine ⟨_, rfl, _, rfl, _, rfl, s, t, S.time, x1, D, rfl, hx1, hD.kp (Kp.of E1), fun r' nm' h' => ?_, fun H2 a c x2 E2 hx2 hac hgc => ?_⟩
      · rw [E1 _ _ ht] at h'
        injection h' with h'
        injection h' with h'
        injection h' with h'1 h'
        injection h'1 with h'1
        injection h' with _ h'
        injection h' with _ h'
        injection h' with _ h'
        injection h' with h'2 _
        injection h'2 with h'2
        obtain ⟨rs, hrs, _⟩ := hM.ex
        rw [← h'1, ← h'2]
        exact ⟨ne_of_none hrs hn, ne_of_none hnm hn⟩
      have E2' := same_sb E1 hn E2
      refine ⟨_, rfl, s, 24, x2, rfl, by decide, by decide, hx2, fun d3 x3 d30 d31 => ?_⟩
      have E3 := same_sb E2' hn (SB.put1 (o := .lst [.int x3]))
      have hac3 : ClAt (upd H2 s (.lst [.int x3])) a c := by
        show (upd H2 s _) a = _
        rw [upd_ne (fun z => by
          have h9 : H2 a = some (.tup (clV c)) := hac
          rw [z, hx2] at h9
          cases h9)]
        exact hac
      generalize upd H2 s (.lst [.int x3]) = H3 at E3 hac3 ⊢
      refine ⟨_, rfl, _, _, rfl, rfl, ?_⟩
      by_cases h4 : d3 < 4
      · refine ⟨true, congrArg V.bl (decide_eq_true h4), ?_⟩
        obtain ⟨rs, hrs, lrs, _⟩ := hM.ex
        have on := hgc.1
        refine ⟨_, rfl, a, _, rfl, Or.inl (Or.inl hac3), rfl, _, _, rfl, _, _, rfl, _, _, rfl, _, _, rfl, _, _, rfl, rfl, ?_⟩
        refine ⟨_, rfl, t, _, 0, _, rfl, rfl, Or.inl (Or.inl (E3 _ _ ht)), rfl, r, _, rfl, Or.inl (Or.inl (Or.inl (E3 _ _ hrs))), _, _, rfl, rfl, ?_⟩
        have hle : c.name.length ≤ 8 := by
          unfold okName at on
          simp only [Bool.and_eq_true, decide_eq_true_eq] at on
          exact on.1.2
        have hl1 : c.name.length + ("A" : Str).length ≤ sizeLine := Nat.le_trans (Nat.add_le_add_right hle _) (by decide +kernel)
        simp only [gName, st18, List.set_cons_zero, List.set_cons_succ]
        refine ⟨_, rfl, _, rfl, _, rfl, _, rfl, _, rfl, (show 5 ≤ sizeLine by decide), fun p0 hp0 => ?_⟩
        refine ⟨_, rfl, _, rfl, _, rfl, _, rfl, (show 5 ≤ sizeLine by decide), fun p1 hp1 => ?_⟩
        refine ⟨_, rfl, _, rfl, _, rfl, _, rfl, (show 4 ≤ sizeLine by decide), fun p2 hp2 => ?_⟩
        refine ⟨_, rfl, _, _, rfl, rfl, hl1, _, rfl, _, rfl, _, rfl, _, rfl, (show 5 ≤ sizeLine by decide), fun p3 hp3 => ⟨(show 4 ≤ sizeLine by decide), fun L hL => ?_⟩⟩
        have s0 := same_new (o := HO.tup [V.str c.name, .int (((rs.map V.ref).length : Nat) - 1), .int c.len, .int c.due, .int c.wt]) hp0
        have s1 := same_new (o := HO.tup [V.str c.name, .int (c.hue : Nat), .int 0, .int c.due, .int c.wt]) hp1
        have s2 := same_new (o := HO.tup [V.str c.name, .int (c.hue : Nat), .int c.len, .int c.due]) hp2
        have s3 := same_new (o := HO.tup [V.str (c.name ++ "A"), .int (c.hue : Nat), .int c.len, .int c.due, .int c.wt]) hp3
        have s4 := same_new (o := HO.lst [V.ref p0, .ref p1, .ref p2, .ref p3]) hL
        have E9 := Evl.Ex.trans E3 (Evl.Ex.trans s0 (Evl.Ex.trans s1 (Evl.Ex.trans s2 (Evl.Ex.trans s3 s4))))
        have hn5 : (((rs.map V.ref).length : Nat) : Int) - 1 = (D.n : Nat) := by rw [List.length_map, lrs]; omega
        have hv : ∃ v zs, atI [V.ref p0, .ref p1, .ref p2, .ref p3] d3 = some (.ref v) ∧ (upd (upd (upd (upd (upd H3 p0 (.tup [V.str c.name, .int (((rs.map V.ref).length : Nat) - 1), .int c.len, .int c.due, .int c.wt])) p1 (.tup [V.str c.name, .int (c.hue : Nat), .int 0, .int c.due, .int c.wt])) p2 (.tup [V.str c.name, .int (c.hue : Nat), .int c.len, .int c.due])) p3 (.tup [V.str (c.name ++ "A"), .int (c.hue : Nat), .int c.len, .int c.due, .int c.wt])) L (.lst [V.ref p0, .ref p1, .ref p2, .ref p3])) v = some (.tup zs) ∧ Deed.Ok D.n (.put zs false) := by
          have h9 : d3 = 0 ∨ d3 = 1 ∨ d3 = 2 ∨ d3 = 3 := by omega
          rcases h9 with rfl | rfl | rfl | rfl
          · refine ⟨p0, _, rfl, s4 _ _ (s3 _ _ (s2 _ _ (s1 _ _ upd_same))), ?_, (show 5 ≤ 1000 by decide), (show 1 ≤ 5 by decide), fun a r h => by injection h with h _; injection h with h; rw [← h]; omega⟩
            show some (okName c.name && (decide (0 ≤ _) && decide (_ < _) && (decide (0 < _) && decide (0 < _)))) = _
            rw [hn5, decide_eq_false (show ¬ ((D.n : Nat) : Int) < (D.n : Nat) by omega), Bool.and_false, Bool.false_and, Bool.and_false]
          · refine ⟨p1, _, rfl, s4 _ _ (s3 _ _ (s2 _ _ upd_same)), ?_, (show 5 ≤ 1000 by decide), (show 1 ≤ 5 by decide), fun a r h => by injection h with h _; injection h with h; rw [← h]; omega⟩
            show some (okName c.name && (decide (0 ≤ _) && decide (_ < _) && (decide ((0 : Int) < 0) && decide (0 < _)))) = _
            rw [decide_eq_false (show ¬ (0 : Int) < 0 by decide), Bool.false_and, Bool.and_false, Bool.and_false]
          · exact ⟨p2, _, rfl, s4 _ _ (s3 _ _ upd_same), rfl, (show 4 ≤ 1000 by decide), (show 1 ≤ 4 by decide), fun a r h => by injection h with h _; injection h with h; rw [← h]; omega⟩
          · refine ⟨p3, _, rfl, s4 _ _ upd_same, ?_, (show 5 ≤ 1000 by decide), (show 1 ≤ 5 by decide), fun a r h => ?_⟩
            · show some (okName (c.name ++ "A") && _) = _
              rw [noA, Bool.false_and]
            · injection h with h _
              injection h with h
              rw [← h, app_len]
              omega
        obtain ⟨v, zs, hv1, hv2, hv3⟩ := hv
        refine ⟨_, rfl, L, _, d3, _, rfl, rfl, Or.inl (Or.inl upd_same), hv1, ?_⟩
        refine ⟨_, rfl, _, rfl, _, _, rfl, rfl, (show 3 ≤ sizeLine by decide), fun b hb => ?_⟩
        refine q _ b (.put zs false) (Evl.Ex.trans E9 (same_new hb)) ⟨v, ?_, same_new hb _ _ hv2⟩ hv3
        show (upd _ b (.tup [.str "put", .ref v, .bl (decide ((4 : Int) ≤ d3))])) b = _
        rw [decide_eq_false (show ¬ (4 : Int) ≤ d3 by omega)]
        exact upd_same
      · refine ⟨false, congrArg V.bl (decide_eq_false h4), ?_⟩
        refine ⟨_, rfl, _, rfl, _, _, rfl, rfl, (show 3 ≤ sizeLine by decide), fun b hb => q _ b (.put (clV c) true) (Evl.Ex.trans E3 (same_new hb)) ⟨a, ?_, same_new hb _ _ hac3⟩ ⟨c, rfl, hgc⟩⟩
        show (upd H3 b (.tup [.str "put", .ref a, .bl (decide ((4 : Int) ≤ d3))])) b = _
        rw [decide_eq_true (show (4 : Int) ≤ d3 by omega)]
        exact upd_same
    · refine ⟨false, congrArg V.bl (decide_eq_false h3), ?_⟩
      refine ⟨_, rfl, _, _, rfl, rfl, ?_⟩
      by_cases h6 : d1 < 6
      · refine ⟨true, congrArg V.bl (decide_eq_true h6), ?_⟩
        refine ⟨_, rfl, t, _, 4, _, rfl, rfl, Or.inl (Or.inl (E1 _ _ ht)), rfl, (show 2 ≤ sizeLine by decide), fun L hL => ?_⟩
        have E2 := Evl.Ex.trans E1 (same_new (o := HO.lst [V.str "A", V.str ""]) hL)
        refine ⟨nm, L, _, _, rfl, rfl, E2 _ _ hnm, upd_same, by rw [List.length_map, ok.ln]; decide, fun L3 hL3 => ?_⟩
        have E3 := Evl.Ex.trans E2 (same_new (o := HO.lst (D.names.map V.str ++ [V.str "A", V.str ""])) hL3)
        have hx3 := same_new (o := HO.lst (D.names.map V.str ++ [V.str "A", V.str ""])) hL3 _ _ (same_new (o := HO.lst [V.str "A", V.str ""]) hL _ _ hx1)
        have hL33 : (upd (upd H1 L (.lst [V.str "A", V.str ""])) L3 (.lst (D.names.map V.str ++ [V.str "A", V.str ""]))) L3 = some (.lst (D.names.map V.str ++ [V.str "A", V.str ""])) := upd_same
        generalize upd (upd H1 L (.lst [V.str "A", V.str ""])) L3 (.lst (D.names.map V.str ++ [V.str "A", V.str ""])) = H3 at E3 hx3 hL33 ⊢
        refine ⟨_, rfl, s, 16, x1, rfl, by decide, by decide, hx3, fun d3 x3 d30 d31 => ?_⟩
        have sL : L3 ≠ s := fun z => by
          rw [z, hx3] at hL33
          have h9 : [V.int x1] = D.names.map V.str ++ [V.str "A", V.str ""] := by injection hL33 with z; injection z
          have h10 := congrArg List.length h9
          rw [List.length_append, List.length_map, ok.ln] at h10
          exact absurd (show 1 = 16 from h10) (by decide)
        have E4 := same_sb E3 hn (SB.put1 (o := .lst [.int x3]))
        have hx4 : (upd H3 s (.lst [.int x3])) s = some (.lst [.int x3]) := upd_same
        have hL4 : (upd H3 s (.lst [.int x3])) L3 = some (.lst (D.names.map V.str ++ [V.str "A", V.str ""])) := by rw [upd_ne sL]; exact hL33
        generalize upd H3 s (.lst [.int x3]) = H4 at E4 hx4 hL4 ⊢
        have hz : ∃ z : Str, atI (D.names.map V.str ++ [V.str "A", V.str ""]) d3 = some (.str z) := by
          obtain ⟨i, rfl⟩ := Int.eq_ofNat_of_zero_le d30
          have e : D.names.map V.str ++ [V.str "A", V.str ""] = (D.names ++ [("A" : Str), ""]).map V.str := by rw [List.map_append]; rfl
          have hl : i < (D.names ++ [("A" : Str), ""]).length := by
            rw [List.length_append, ok.ln]
            show i < 16
            omega
          rw [e]
          exact ⟨(D.names ++ [("A" : Str), ""])[i], atI_nat (by rw [List.getElem?_map, List.getElem?_eq_getElem hl]; rfl)⟩
        obtain ⟨z, hz⟩ := hz
        refine ⟨L3, _, d3, _, rfl, rfl, Or.inl (Or.inl hL4), hz, ?_⟩
        have hkd : ∃ kd : V, atI [V.str "work", V.str "work", V.str "drop"] (d1 - 3) = some kd ∧ (kd = .str "work" ∨ kd = .str "drop") := by
          have h9 : d1 - 3 = 0 ∨ d1 - 3 = 1 ∨ d1 - 3 = 2 := by omega
          rcases h9 with e | e | e <;> rw [e]
          · exact ⟨_, rfl, Or.inl rfl⟩
          · exact ⟨_, rfl, Or.inl rfl⟩
          · exact ⟨_, rfl, Or.inr rfl⟩
        obtain ⟨kd, hkd, hkw⟩ := hkd
        have ret : ∀ (H' : Hp) (z' : Str), Same H0 H' → ∀ b, H' b = none → Q (.ref b) (upd H' b (.tup [kd, .str z'])) := fun H' z' e b hb => by
          rcases hkw with rfl | rfl
          · exact q _ b (.work z') (Evl.Ex.trans e (same_new hb)) upd_same True.intro
          · exact q _ b (.drop z') (Evl.Ex.trans e (same_new hb)) upd_same True.intro
        refine ⟨_, rfl, fun p0 hp0 => ⟨d, p0, _, rfl, rfl, same_new hp0 _ _ (E4 _ _ hd), upd_same, ?_⟩⟩
        have E5 := Evl.Ex.trans E4 (same_new (o := HO.dK []) hp0)
        have hx5 := same_new (o := HO.dK []) hp0 _ _ hx4
        generalize upd H4 p0 (.dK []) = H5 at E5 hx5 ⊢
        have go : ∀ (H' : Hp) (z' : Str), Same H0 H' → ∀ L5, H' L5 = none → ∀ b, (upd H' L5 (.lst [V.str "work", V.str "work", V.str "drop"])) b = none → Q (.ref b) (upd (upd H' L5 (.lst [V.str "work", V.str "work", V.str "drop"])) b (.tup [kd, .str z'])) := fun H' z' e L5 h5 b hb => ret _ z' (Evl.Ex.trans e (same_new h5)) b hb
        refine ⟨!(kvsOf S.cs).isEmpty, rfl, ?_⟩
        by_cases hE : S.cs = []
        · have hb : (!(kvsOf S.cs).isEmpty) = false := by rw [hE]; rfl
          rw [hb]
          exact ⟨(show 3 ≤ sizeLine by decide), fun L5 h5 => ⟨_, rfl, _, _, rfl, rfl, L5, _, _, kd, rfl, rfl, Or.inl (Or.inl upd_same), hkd, _, rfl, (show 2 ≤ sizeLine by decide), fun b hb => go H5 z E5 L5 h5 b hb⟩⟩
        · have hb : (!(kvsOf S.cs).isEmpty) = true := by
            cases h : S.cs with
            | nil => exact absurd h hE
            | cons _ _ => rfl
          rw [hb]
          refine ⟨_, rfl, s, 4, x3, rfl, by decide, by decide, hx5, fun d6 x6 d60 d61 => ⟨_, _, rfl, rfl, ?_⟩⟩
          have E6 := same_sb E5 hn (SB.put1 (o := .lst [.int x6]))
          have hx6 : (upd H5 s (.lst [.int x6])) s = some (.lst [.int x6]) := upd_same
          generalize upd H5 s (.lst [.int x6]) = H6 at E6 hx6 ⊢
          by_cases h6 : (0 : Int) < d6
          · refine ⟨true, congrArg V.bl (decide_eq_true h6), ?_⟩
            have hd6 := E6 _ _ hd
            refine ⟨_, rfl, Or.inr (Or.inr (Or.inl ⟨rfl, Or.inl ⟨_, hd6⟩⟩)), d, _, rfl, rfl, Or.inl hd6, fun v hv => ⟨v, d, _, S.cs.map (·.1.name), rfl, upd_same, Or.inl (same_new hv _ _ hd6), kvs_keys S.cs, by rw [List.length_map]; omega, fun ys l h1 h2 h3 => ?_⟩⟩
            have E7 := Evl.Ex.trans E6 (Evl.Ex.trans (same_new (o := viewO v d) hv) (same_new (o := HO.lst (ys.map V.str)) h3))
            have hx7 := same_new (o := HO.lst (ys.map V.str)) h3 _ _ (same_new (o := viewO v d) hv _ _ hx6)
            have hl7 : (upd (upd H6 v (viewO v d)) l (.lst (ys.map V.str))) l = some (.lst (ys.map V.str)) := upd_same
            have nls : l ≠ s := fun z => by rw [z, same_new (o := viewO v d) hv _ _ hx6] at h3; cases h3
            generalize upd (upd H6 v (viewO v d)) l (.lst (ys.map V.str)) = H7 at E7 hx7 hl7 ⊢
            have hlen1 : (kvsOf S.cs).length = S.cs.length := List.length_map ..
            have hpos : 0 < S.cs.length := List.length_pos_iff.mpr hE
            refine ⟨_, rfl, _, rfl, d, _, rfl, E7 _ _ hd, s, _, x6, rfl, by omega, by omega, hx7, fun d7 x7 d70 d71 => ?_⟩
            have E8 := same_sb E7 hn (SB.put1 (o := .lst [.int x7]))
            have hl8 : (upd H7 s (.lst [.int x7])) l = some (.lst (ys.map V.str)) := by rw [upd_ne nls]; exact hl7
            generalize upd H7 s (.lst [.int x7]) = H8 at E8 hl8 ⊢
            obtain ⟨i, rfl⟩ := Int.eq_ofNat_of_zero_le d70
            have hly : i < ys.length := by
              rw [h1.length_eq, List.length_map]
              omega
            refine ⟨l, _, _, .str (ys[i]), rfl, rfl, Or.inl (Or.inl hl8), atI_nat (by rw [List.getElem?_map, List.getElem?_eq_getElem hly]; rfl), ?_⟩
            exact ⟨(show 3 ≤ sizeLine by decide), fun L5 h5 => ⟨_, rfl, _, _, rfl, rfl, L5, _, _, kd, rfl, rfl, Or.inl (Or.inl upd_same), hkd, _, rfl, (show 2 ≤ sizeLine by decide), fun b hb => go H8 ys[i] E8 L5 h5 b hb⟩⟩
          · refine ⟨false, congrArg V.bl (decide_eq_false h6), ?_⟩
            exact ⟨(show 3 ≤ sizeLine by decide), fun L5 h5 => ⟨_, rfl, _, _, rfl, rfl, L5, _, _, kd, rfl, rfl, Or.inl (Or.inl upd_same), hkd, _, rfl, (show 2 ≤ sizeLine by decide), fun b hb => go H6 z E6 L5 h5 b hb⟩⟩
      · refine ⟨false, congrArg V.bl (decide_eq_false h6), ?_⟩
        refine ⟨_, rfl, rfl, ?_⟩
        by_cases h7 : d1 = 6
        · refine ⟨true, congrArg V.bl (decide_eq_true (by rw [h7])), ?_⟩
          refine ⟨_, rfl, s, 12, x1, rfl, by decide, by decide, hx1, fun d3 x3 d30 d31 => ?_⟩
          have E3 := same_sb E1 hn (SB.put1 (o := .lst [.int x3]))
          have hx3 : (upd H1 s (.lst [.int x3])) s = some (.lst [.int x3]) := upd_same
          generalize upd H1 s (.lst [.int x3]) = H3 at E3 hx3 ⊢
          refine ⟨_, rfl, _, _, rfl, rfl, ?_⟩
          by_cases h8 : d3 < 3
          · refine ⟨true, congrArg V.bl (decide_eq_true h8), ?_⟩
            have hv : ∃ v, atI [V.bl true, V.non, V.str "9"] d3 = some v ∧ (v = .bl true ∨ v = .non ∨ v = .str "9" ∨ ∃ i, v = .int i) := by
              have h9 : d3 = 0 ∨ d3 = 1 ∨ d3 = 2 := by omega
              rcases h9 with rfl | rfl | rfl
              · exact ⟨_, rfl, Or.inl rfl⟩
              · exact ⟨_, rfl, Or.inr (Or.inl rfl)⟩
              · exact ⟨_, rfl, Or.inr (Or.inr (Or.inl rfl))⟩
            obtain ⟨v, hv, hvo⟩ := hv
            exact ⟨(show 3 ≤ sizeLine by decide), fun L hL => ⟨_, rfl, L, _, d3, v, rfl, rfl, Or.inl (Or.inl upd_same), hv, (show 2 ≤ sizeLine by decide), fun b hb => q _ b (.wait v) (Evl.Ex.trans (Evl.Ex.trans E3 (same_new hL)) (same_new hb)) upd_same hvo⟩⟩
          · refine ⟨false, congrArg V.bl (decide_eq_false h8), ?_⟩
            have hm : ∃ m : Int, atI [V.int 3, V.int 3, V.int D.sc] (d3 % 3) = some (.int m) ∧ 0 < m ∧ m < 2 ^ 200 := by
              have h9 : d3 % 3 = 0 ∨ d3 % 3 = 1 ∨ d3 % 3 = 2 := by omega
              rcases h9 with e | e | e <;> rw [e]
              · exact ⟨_, rfl, by decide, by decide⟩
              · exact ⟨_, rfl, by decide, by decide⟩
              · exact ⟨_, rfl, hs0, by omega⟩
            obtain ⟨m, hm, m0, m1⟩ := hm
            refine ⟨_, rfl, _, rfl, _, rfl, t, _, 3, _, rfl, rfl, Or.inl (Or.inl (E3 _ _ ht)), rfl, (show 3 ≤ sizeLine by decide), fun L hL => ⟨_, rfl, _, _, rfl, rfl, (show (0 : Int) < 3 from by decide), L, _, _, _, rfl, rfl, Or.inl (Or.inl upd_same), hm, s, m, x3, rfl, m0, m1, same_new hL _ _ hx3, fun d8 x8 d80 d81 => ⟨_, _, rfl, rfl, _, rfl, rfl, Or.inr ⟨_, rfl, _, _, rfl, rfl, (show 2 ≤ sizeLine by decide), fun b hb => ?_⟩⟩⟩⟩
            exact q _ b (.wait _) (Evl.Ex.trans (same_sb (Evl.Ex.trans E3 (same_new hL)) hn SB.put1) (same_new hb)) upd_same (Or.inr (Or.inr (Or.inr ⟨_, rfl⟩)))
        · refine ⟨false, congrArg V.bl (decide_eq_false (fun z => h7 (by injection z))), ?_⟩
          exact ⟨(show 1 ≤ sizeLine by decide), fun b hb => q _ b .back (Evl.Ex.trans E1 (same_new hb)) upd_same True.intro⟩⟩
end Rw82
/-! What a deed does to the law's state. -/
namespace Rw82
open PySem PySem.Spec PyProof.Rows L2
variable {P : Program} {w : World} {mg : Str → Option Value} {base : Heap} {k : Nat} {G : Ad}
/-- the works that the law's state tells -/
def LSt.wk (S : LSt) (n : Nat) (R : Mat) : Wk := ⟨n, R, S.last, S.time, S.cs.map (·.1)⟩
/-- a deed that is let by -/
def okD (W : Wk) : Deed → Prop
  | .put zs g => g = true ∧ ∀ c, zs = clV c → c.name ∉ W.cl.map (·.name)
  | .work z => z ∈ W.cl.map (·.name)
  | .drop z => z ∈ W.cl.map (·.name)
  | .wait v => ∃ i, v = .int i ∧ W.time ≤ i
  | .back => False
/-- what it does -/
def effD (W W' : Wk) : Deed → Prop
  | .put zs _ => ∃ c, zs = clV c ∧ W'.last = W.last ∧ W'.time = W.time ∧ W'.cl.Perm (c :: W.cl)
  | .work z => ∃ c ∈ W.cl, c.name = z ∧ W'.last = c.hue ∧ W'.time = W.time + W.rin W.last c.hue + c.len ∧ W'.cl.Perm (W.cl.filter fun x => !decide (x.name = z))
  | .drop z => W'.last = W.last ∧ W'.time = W.time ∧ W'.cl.Perm (W.cl.filter fun x => !decide (x.name = z))
  | .wait v => ∃ i, v = .int i ∧ W'.last = W.last ∧ W'.time = i ∧ W'.cl.Perm W.cl
  | .back => False
structure Alike (W V : Wk) : Prop where
  n : W.n = V.n
  R : W.R = V.R
  last : W.last = V.last
  time : W.time = V.time
  cl : W.cl.Perm V.cl
theorem clV_inj {c c' : Cloth} (h : clV c = clV c') : c = c' := by
  obtain ⟨a1, a2, a3, a4, a5⟩ := c
  obtain ⟨b1, b2, b3, b4, b5⟩ := c'
  unfold clV at h
  injection h with e1 h
  injection h with e2 h
  injection h with e3 h
  injection h with e4 h
  injection h with e5 _
  injection e1 with e1
  injection e2 with e2
  injection e3 with e3
  injection e4 with e4
  injection e5 with e5
  have e2' : a2 = b2 := Int.ofNat.inj e2
  dsimp only at e1 e3 e4 e5
  subst e1 e2' e3 e4 e5
  rfl
theorem Alike.names {W V : Wk} (a : Alike W V) {z : Str} : z ∈ W.cl.map (·.name) ↔ z ∈ V.cl.map (·.name) := (a.cl.map _).mem_iff
theorem Alike.okD {W V : Wk} (a : Alike W V) (d : Deed) : okD W d ↔ okD V d := by
  cases d with
  | put zs g =>
    show (_ ∧ _) ↔ (_ ∧ _)
    exact ⟨fun h => ⟨h.1, fun c e m => h.2 c e (a.names.mpr m)⟩, fun h => ⟨h.1, fun c e m => h.2 c e (a.names.mp m)⟩⟩
  | work z => exact a.names
  | drop z => exact a.names
  | wait v =>
    show (∃ i, _ ∧ _) ↔ (∃ i, _ ∧ _)
    rw [a.time]
  | back => exact Iff.rfl
theorem Alike.rin {W V : Wk} (a : Alike W V) : W.rin = V.rin := by
  unfold Wk.rin
  rw [a.n, a.R]
theorem Alike.eff {W V W' V' : Wk} (a : Alike W V) (nd : (W.cl.map (·.name)).Nodup) (hn : W'.n = W.n) (hR : W'.R = W.R) (hn' : V'.n = V.n) (hR' : V'.R = V.R) {d : Deed} (e : effD W W' d) (e' : effD V V' d) : Alike W' V' := by
  have n0 : W'.n = V'.n := hn.trans (a.n.trans hn'.symm)
  have R0 : W'.R = V'.R := hR.trans (a.R.trans hR'.symm)
  cases d with
  | put zs g =>
    obtain ⟨c, h1, h2, h3, h4⟩ := e
    obtain ⟨c', h1', h2', h3', h4'⟩ := e'
    obtain rfl := clV_inj (h1.symm.trans h1')
    exact ⟨n0, R0, by rw [h2, h2', a.last], by rw [h3, h3', a.time], (h4.trans (a.cl.cons c)).trans h4'.symm⟩
  | work z =>
    obtain ⟨c, h0, h1, h2, h3, h4⟩ := e
    obtain ⟨c', h0', h1', h2', h3', h4'⟩ := e'
    obtain rfl := one_of_name nd h0 (a.cl.mem_iff.mpr h0') (h1.trans h1'.symm)
    exact ⟨n0, R0, by rw [h2, h2'], by rw [h3, h3', a.last, a.time, a.rin], (h4.trans (a.cl.filter _)).trans h4'.symm⟩
  | drop z =>
    obtain ⟨h2, h3, h4⟩ := e
    obtain ⟨h2', h3', h4'⟩ := e'
    exact ⟨n0, R0, by rw [h2, h2', a.last], by rw [h3, h3', a.time], (h4.trans (a.cl.filter _)).trans h4'.symm⟩
  | wait v =>
    obtain ⟨i, rfl, h2, h3, h4⟩ := e
    obtain ⟨i', h1', h2', h3', h4'⟩ := e'
    injection h1' with h1'
    exact ⟨n0, R0, by rw [h2, h2', a.last], by rw [h3, h3', h1'], (h4.trans a.cl).trans h4'.symm⟩
  | back => exact e.elim
theorem Alike.ok {W V : Wk} (a : Alike W V) (h : W.Ok) : V.Ok :=
  ⟨by rw [← a.n]; exact h.n1, by rw [← a.n]; exact h.n4, by rw [← a.R]; exact h.nn, by rw [← a.last]; exact h.l0, by rw [← a.last, ← a.n]; exact h.l1, by rw [← a.time]; exact h.t0, by rw [← a.cl.length_eq]; exact h.few, (a.cl.map _).nodup_iff.mp h.nd, fun c hc => by rw [← a.n]; exact h.good c (a.cl.mem_iff.mpr hc)⟩
theorem dropK_kvs (z : Str) : ∀ cs : List (Cloth × Addr), dropK (kvsOf cs) (Sum.inr z) = kvsOf (cs.filter fun q => !decide (q.1.name = z))
  | [] => rfl
  | q :: cs => by
    have ih := dropK_kvs z cs
    unfold dropK kvsOf at ih ⊢
    rw [List.map_cons, List.filter_cons, List.filter_cons]
    by_cases e : q.1.name = z
    · rw [if_neg (by simp [e]), if_neg (by simp [e])]
      exact ih
    · rw [if_pos (by simp [e]), if_pos (by simp [e]), List.map_cons, ih]
theorem filter_fst (z : Str) (cs : List (Cloth × Addr)) : (cs.filter fun q => !decide (q.1.name = z)).map (·.1) = (cs.map (·.1)).filter fun x => !decide (x.name = z) := by
  rw [List.filter_map]
  rfl
theorem st12 (a b c : V) : L2.start ["least", "state", "deed", "more", "cloth", "end", "row", "waiting", "last", "time", "rows", "lates"] [a, b, c] = [some a, some b, some c, none, none, none, none, none, none, none, none, none] := rfl
theorem isi_t {K : PySem.W.Frag} {H : Hp} {x : V} {t u : String} {r : Bool} (ty : TyOf K H x (.type t)) (e : kitB t u = some r) {Q' : VK} (q' : Q' (.bl r) H) : rIsi K [x, .ty u] H Q' := ⟨x, _, _, _, _, rfl, .ty _, .base ty, kit_ty e, q'⟩
theorem twice_ne (y : Str) : ("Twice " ++ y : Str) ≠ "" := fun z => by
  have z' : ("Twice " ++ y : Str).cps.toList.length = ("" : Str).cps.toList.length := by rw [z]
  have z2 : ("Twice " ++ y : Str).cps.toList = ("Twice " : Str).cps.toList ++ y.cps.toList := Array.toList_append ..
  rw [z2, List.length_append] at z'
  have z3 : ("Twice " : Str).cps.toList.length = 6 := by decide +kernel
  have z4 : ("" : Str).cps.toList.length = 0 := by decide +kernel
  omega
abbrev sp_law_goes (G : Ad) : Sp := fun vs H Q _ => ∃ (a u t : Addr) (S : LSt) (n : Nat) (R : Mat) (d : Deed), vs = [.ref a, .ref u, .ref t] ∧ MxAt H a n (fw n R) ∧ StAt H u S ∧ (S.wk n R).Ok ∧ DeedAt H t d ∧ d.Ok n ∧ d ≠ .back ∧ S.rows.length ≤ 1000 ∧ S.lates.length ≤ 1000 ∧ (∀ zs g, d = .put zs g → S.cs.length ≤ 6) ∧
  (¬ okD (S.wk n R) d → ∀ (H' : Hp) (b : Addr) (z : Str), Same H H' → z ≠ "" → H' b = some (.tup [.str z, .ref u]) → Q (.ref b) H') ∧
  (okD (S.wk n R) d → ∀ H' b u' S', Same H H' → H' b = some (.tup [.str "", .ref u']) → StAt H' u' S' → effD (S.wk n R) (S'.wk n R) d → S'.rows.length ≤ S.rows.length + 1 → S'.lates.length ≤ S.lates.length + 1 → Q (.ref b) H')
theorem sc_law_goes : FnScope ["least", "state", "deed", "more", "cloth", "end", "row", "waiting", "last", "time", "rows", "lates"] ["least", "state", "deed"] (defScope s_law_goes) := ⟨rfl, rfl, rfl, by decide +kernel, rfl, by decide +kernel, by decide +kernel⟩
theorem c_law_goes (B : Bn mg) (C_law_end : Ca P w G.K mg base k "_law_end" (sp_law_end G)) (F : Gd G.K mg "_law_goes" s_law_goes) : Ca P w G.K mg base (k + 1) "_law_goes" (sp_law_goes G) :=
  ca_0 F sc_law_goes (fun _ _ _ _ _ _ us hl => match us, hl with | [_, _, _], _ => rfl) (fun vs H Q E h => by obtain ⟨_, _, _, _, _, _, _, rfl, _⟩ := h; rfl)
  fun f cdv A outer s H vs Q E hr h => ⟨_, /- slots: 0 least, 1 state, 2 deed, 3 more, 4 cloth, 5 end, 6 row, 7 waiting, 8 last, 9 time, 10 rows, 11 lates -/ (pss_cons (ps_asg (pv 1) (pg_tup rfl (pgs_cons (pg_name (i := 7) sc_law_goes.nd rfl (Or.inl rfl)) (pgs_cons (pg_name (i := 8) sc_law_goes.nd rfl (Or.inl rfl)) (pgs_cons (pg_name (i := 9) sc_law_goes.nd rfl (Or.inl rfl)) (pgs_cons (pg_name (i := 10) sc_law_goes.nd rfl (Or.inl rfl)) (pgs_cons (pg_name (i := 11) sc_law_goes.nd rfl (Or.inl rfl)) pgs_nil)))))))
      (pss_cons (ps_set (i := 3) sc_law_goes.nd rfl (Or.inl rfl) (pe_callTy call_dictD (by rfl) B.dict (by decide +kernel) (pa_cons (pv 7) pa_nil)))
      (pss_cons (ps_if (pt_cmpR op_eq (pe_ix ix_tup (pv 2) pe_int (fun _ _ => rfl)) pe_str (nomark _)) (pss_cons (ps_if (pt_cmpR op_gt (pe_callB call_lenD (by rfl) B.len PySem.boot_len (pa_cons (pv 7) pa_nil)) pe_int (nomark _)) (pss_one (ps_ret (pe_tup (pa_cons pe_str (pa_cons (pv 1) pa_nil))))) pss_nil)
      (pss_cons (ps_if (pt_not (pt_val (pe_ix ix_tup (pv 2) pe_int (fun _ _ => rfl)))) (pss_one (ps_ret (pe_tup (pa_cons pe_str (pa_cons (pv 1) pa_nil))))) pss_nil)
      (pss_cons (ps_if (pt_cmp (pc_din (hu_of hr) (pe_ix ix_tup (pe_ix ix_tup (pv 2) pe_int (fun _ _ => rfl)) pe_int (fun _ _ => rfl)) (pv 7)) rfl) (pss_one (ps_ret (pe_tup (pa_cons (pe_op op_add_str pe_str (pe_ix ix_tup (pe_ix ix_tup (pv 2) pe_int (fun _ _ => rfl)) pe_int (fun _ _ => rfl))) (pa_cons (pv 1) pa_nil))))) pss_nil)
      (pss_cons (ps_dput (hu_of hr) (pv 3) (pe_ix ix_tup (pe_ix ix_tup (pv 2) pe_int (fun _ _ => rfl)) pe_int (fun _ _ => rfl)) (pe_ix ix_tup (pv 2) pe_int (fun _ _ => rfl)) rfl)
      (pss_one (ps_ret (pe_tup (pa_cons pe_str (pa_cons (pe_tup (pa_cons (pv 3) (pa_cons (pv 8) (pa_cons (pv 9) (pa_cons (pv 10) (pa_cons (pv 11) pa_nil)))))) pa_nil))))))))) pss_nil)
      (pss_cons (ps_if (pt_cmpR op_eq (pe_ix ix_tup (pv 2) pe_int (fun _ _ => rfl)) pe_str (nomark _)) (pss_cons (ps_if (PW.pt (pw_or (pt_not (pt_val (pe_callB call_isi (by rfl) B.isinstance (by decide +kernel) (pa_cons (pe_ix ix_tup (pv 2) pe_int (fun _ _ => rfl)) (pa_cons (pe_bltn (v := .ty "int") (by rfl) B.int (by decide +kernel) rfl) pa_nil))))) (pw_or (pt_val (pe_callB call_isi (by rfl) B.isinstance (by decide +kernel) (pa_cons (pe_ix ix_tup (pv 2) pe_int (fun _ _ => rfl)) (pa_cons (pe_bltn (v := .ty "bool") (by rfl) B.bool (by decide +kernel) rfl) pa_nil)))) (pw_or1 (pt_cmpR op_lt (pe_ix ix_tup (pv 2) pe_int (fun _ _ => rfl)) (pv 9) (nomark _)))))) (pss_one (ps_ret (pe_tup (pa_cons pe_str (pa_cons (pv 1) pa_nil))))) pss_nil)
      (pss_one (ps_ret (pe_tup (pa_cons pe_str (pa_cons (pe_tup (pa_cons (pv 3) (pa_cons (pv 8) (pa_cons (pe_ix ix_tup (pv 2) pe_int (fun _ _ => rfl)) (pa_cons (pv 10) (pa_cons (pv 11) pa_nil)))))) pa_nil)))))) pss_nil)
      (pss_cons (ps_if (pt_cmp (pc_dnotin (hu_of hr) (pe_ix ix_tup (pv 2) pe_int (fun _ _ => rfl)) (pv 7)) rfl) (pss_one (ps_ret (pe_tup (pa_cons pe_str (pa_cons (pv 1) pa_nil))))) pss_nil)
      (pss_cons (ps_set (i := 4) sc_law_goes.nd rfl (Or.inl rfl) (pe_dpop1 (pv 3) (pe_ix ix_tup (pv 2) pe_int (fun _ _ => rfl)) ⟨by rfl, by rfl, by rfl, by rfl⟩))
      (pss_cons (ps_if (pt_cmpR op_eq (pe_ix ix_tup (pv 2) pe_int (fun _ _ => rfl)) pe_str (nomark _)) (pss_one (ps_ret (pe_tup (pa_cons pe_str (pa_cons (pe_tup (pa_cons (pv 3) (pa_cons (pv 8) (pa_cons (pv 9) (pa_cons (pv 10) (pa_cons (pv 11) pa_nil)))))) pa_nil))))) pss_nil)
      (pss_cons (ps_set (i := 5) sc_law_goes.nd rfl (Or.inl rfl) (pe_ca C_law_end hr (pa_cons (pv 0) (pa_cons (pv 8) (pa_cons (pv 9) (pa_cons (pv 4) pa_nil))))))
      (pss_cons (ps_set (i := 6) sc_law_goes.nd rfl (Or.inl rfl) (pe_tup (pa_cons (pe_ix ix_tup (pv 4) pe_int (fun _ _ => rfl)) (pa_cons (pe_op op_sub (pv 5) (pe_ix ix_tup (pv 4) pe_int (fun _ _ => rfl))) (pa_cons (pv 5) pa_nil)))))
      (pss_one (ps_ret (pe_tup (pa_cons pe_str (pa_cons (pe_tup (pa_cons (pv 3) (pa_cons (pe_ix ix_tup (pv 4) pe_int (fun _ _ => rfl)) (pa_cons (pv 5) (pa_cons (pe_op op_cat (pv 10) (pe_lst (pa_cons (pv 6) pa_nil))) (pa_cons (pe_op op_cat (pv 11) (pe_lst (pa_cons (pe_op op_sub (pv 5) (pe_ix ix_tup (pv 4) pe_int (fun _ _ => rfl))) pa_nil))) pa_nil)))))) pa_nil)))))))))))))), by
    obtain ⟨a, u, t, S, n, R, dd, rfl, hM, hS, ok, hD, hDo, nb, lr, ll, h6, qn, qy⟩ := h
    obtain ⟨⟨d, rr, rl, hu, hd, hrr, hrl⟩, hcl⟩ := hS
    have nd : (S.cs.map (·.1.name)).Nodup := by
      have h := ok.nd
      unfold LSt.wk at h
      dsimp only at h
      rw [List.map_map] at h
      exact h
    have hnm : ∀ z, z ∈ (S.wk n R).cl.map (·.name) ↔ z ∈ S.cs.map (·.1.name) := fun z => by
      show z ∈ (S.cs.map (·.1)).map (·.name) ↔ _
      rw [List.map_map]
      exact Iff.rfl
    have few : S.cs.length ≤ 10 := by
      have h := ok.few
      unfold LSt.wk at h
      dsimp only at h
      rw [List.length_map] at h
      exact h
    dsimp only [tSeq, tRet, tRetN, tIfS, tAsg, tDrop, tNext, tNever, tVar, tC, tCons, tNil, tCB, tOp, tTest, tB, tAnd, tOr, tNot, tAndV, tOrV, tNotV, tChain, tTup, tLst, tFld, sFld, tCall, tMeth, tMake, tDGet, tDIn, tDNotIn, sDPut, tDNewK, tSl, tPart, tNoPart, gTup, gCons, gNil, gSub, tBM, tUn]
    dsimp only [cx_p, cx_w, cx_K]
    refine ⟨_, rfl, u, _, rfl, Or.inl (Or.inl hu), rfl, _, _, rfl, _, _, rfl, _, _, rfl, _, _, rfl, _, _, rfl, rfl, ?_⟩
    simp only [gName, st12, List.set_cons_zero, List.set_cons_succ]
    refine ⟨_, rfl, d, _, rfl, Or.inl hd, fun m hm => ?_⟩
    try simp only [gName, List.set_cons_zero, List.set_cons_succ]
    have e1 := same_new (o := HO.dK (kvsOf S.cs)) hm
    have hm1 : (upd H m (.dK (kvsOf S.cs))) m = some (.dK (kvsOf S.cs)) := upd_same
    have memo : ∀ {H' : Hp} (kv : List (Key × V)), Same (upd H m (.dK (kvsOf S.cs))) H' → Same H (upd H' m (.dK kv)) := fun kv e => same_mut (Evl.Ex.trans e1 e) hm
    generalize upd H m (.dK (kvsOf S.cs)) = H1 at e1 hm1 memo ⊢
    cases dd with
    | back => exact absurd rfl nb
    | put zs g =>
      obtain ⟨c, ht, hc⟩ := hD
      have l6 := h6 zs g rfl
      refine ⟨_, rfl, t, _, 0, _, rfl, rfl, Or.inl (Or.inl (e1 _ _ ht)), rfl, rfl, true, congrArg V.bl (decide_eq_true rfl), ?_⟩
      refine ⟨_, rfl, d, _, rfl, e1 _ _ hd, _, _, rfl, rfl, false, congrArg V.bl (decide_eq_false (by rw [kvs_len]; omega)), ?_⟩
      refine ⟨_, rfl, t, _, 2, _, rfl, rfl, Or.inl (Or.inl (e1 _ _ ht)), rfl, g, rfl, ?_⟩
      cases g with
      | false =>
        exact ⟨_, rfl, (show 2 ≤ sizeLine by decide), fun b hb => qn (fun z => Bool.false_ne_true z.1) _ b _ (Evl.Ex.trans e1 (same_new hb)) (by decide +kernel) upd_same⟩
      | true =>
        obtain ⟨cl, rfl, hgc⟩ := hDo
        have on := hgc.1
        have hle : cl.name.length ≤ 8 := by
          unfold okName at on
          simp only [Bool.and_eq_true, decide_eq_true_eq] at on
          exact on.1.2
        have hl1 : ("Twice " : Str).length + cl.name.length ≤ sizeLine := Nat.le_trans (Nat.add_le_add_left hle _) (by decide +kernel)
        by_cases hin : cl.name ∈ S.cs.map (·.1.name)
        · obtain ⟨q', hq', e'⟩ := List.mem_map.mp hin
          have G9 : DGet H1 d (.str cl.name) (some (.ref q'.2)) := by
            have g := DGet.k (k := Sum.inr cl.name) (e1 _ _ hd)
            rw [kvs_val nd hq' e'] at g
            exact g
          refine ⟨_, rfl, t, _, 1, _, rfl, rfl, Or.inl (Or.inl (e1 _ _ ht)), rfl, c, _, 0, _, rfl, rfl, Or.inl (Or.inl (e1 _ _ hc)), rfl, _, rfl, d, _, rfl, G9, true, rfl, ?_⟩
          refine ⟨_, rfl, t, _, 1, _, rfl, rfl, Or.inl (Or.inl (e1 _ _ ht)), rfl, c, _, 0, _, rfl, rfl, Or.inl (Or.inl (e1 _ _ hc)), rfl, _, _, rfl, rfl, hl1, _, rfl, (show 2 ≤ sizeLine by decide), fun b hb => ?_⟩
          exact qn (fun z => z.2 cl rfl ((hnm _).mpr hin)) _ b ("Twice " ++ cl.name : Str) (Evl.Ex.trans e1 (same_new hb)) (twice_ne _) upd_same
        · have G9 : DGet H1 d (.str cl.name) none := by
            have g := DGet.k (k := Sum.inr cl.name) (e1 _ _ hd)
            rw [kvs_no hin] at g
            exact g
          refine ⟨_, rfl, t, _, 1, _, rfl, rfl, Or.inl (Or.inl (e1 _ _ ht)), rfl, c, _, 0, _, rfl, rfl, Or.inl (Or.inl (e1 _ _ hc)), rfl, _, rfl, d, _, rfl, G9, false, rfl, ?_⟩
          refine ⟨_, rfl, t, _, 1, _, rfl, rfl, Or.inl (Or.inl (e1 _ _ ht)), rfl, _, rfl, _, rfl, t, _, 1, _, rfl, rfl, Or.inl (Or.inl (e1 _ _ ht)), rfl, c, _, 0, _, rfl, rfl, Or.inl (Or.inl (e1 _ _ hc)), rfl, m, _, rfl, DPut.k (k := Sum.inr cl.name) hm1 (small16' (by rw [kvs_len]; omega)), ?_⟩
          have e2 := memo (putK (kvsOf S.cs) (Sum.inr cl.name) (.ref c)) (Evl.Ex.refl H1)
          have hm2 : (upd H1 m (.dK (putK (kvsOf S.cs) (Sum.inr cl.name) (.ref c)))) m = some (.dK (kvsOf (S.cs ++ [(cl, c)]))) := by
            rw [upd_same, putK_new _ (kvs_no hin)]
            unfold kvsOf
            rw [List.map_append]
            rfl
          generalize upd H1 m (.dK (putK (kvsOf S.cs) (Sum.inr cl.name) (.ref c))) = H2 at e2 hm2 ⊢
          refine ⟨_, rfl, _, rfl, _, rfl, _, rfl, _, rfl, (show 5 ≤ sizeLine by decide), fun p hp => ⟨(show 2 ≤ sizeLine by decide), fun b hb => ?_⟩⟩
          have e23 := Evl.Ex.trans (same_new hp) (same_new (o := HO.tup [V.str "", .ref p]) hb)
          have e3 := Evl.Ex.trans e2 e23
          refine qy ⟨rfl, fun c' e m => hin ((hnm _).mp (by rw [clV_inj e]; exact m))⟩ _ b p ⟨S.cs ++ [(cl, c)], S.last, S.time, S.rows, S.lates⟩ e3 upd_same ⟨⟨m, rr, rl, same_new hb _ _ upd_same, e23 _ _ hm2, e3 _ _ hrr, e3 _ _ hrl⟩, fun q hq => ?_⟩ ⟨cl, rfl, rfl, rfl, ?_⟩ (Nat.le_succ _) (Nat.le_succ _)
          · rcases List.mem_append.mp hq with hq | hq
            · exact e3 _ _ (hcl q hq)
            · rw [List.mem_singleton.mp hq]
              exact e3 _ _ hc
          · show ((S.cs ++ [(cl, c)]).map (·.1)).Perm (cl :: S.cs.map (·.1))
            rw [List.map_append]
            exact List.perm_append_comm
    | wait v =>
      have ht : H t = some (.tup [.str "wait", v]) := hD
      refine ⟨_, rfl, t, _, 0, _, rfl, rfl, Or.inl (Or.inl (e1 _ _ ht)), rfl, rfl, false, congrArg V.bl (decide_eq_false (fun z => by injection z with z; exact absurd z (by decide +kernel))), ?_⟩
      refine ⟨_, rfl, t, _, 0, _, rfl, rfl, Or.inl (Or.inl (e1 _ _ ht)), rfl, rfl, true, congrArg V.bl (decide_eq_true rfl), ?_⟩
      have no : ¬ okD (S.wk n R) (.wait v) → (tRet (tTup (tCons (tC (.str "NoTime")) (tCons (tVar 1) tNil)))) { nx := fun _ H' => Q .non H', rt := Q } [some (V.ref a), some (V.ref u), some (V.ref t), some (V.ref m), none, none, none, some (V.ref d), some (V.int S.last), some (V.int S.time), some (V.ref rr), some (V.ref rl)] H1 := fun no => by
        dsimp only [tSeq, tRet, tRetN, tIfS, tAsg, tDrop, tNext, tNever, tVar, tC, tCons, tNil, tCB, tOp, tTest, tB, tAnd, tOr, tNot, tAndV, tOrV, tNotV, tChain, tTup, tLst, tFld, sFld, tCall, tMeth, tMake, tDGet, tDIn, tDNotIn, sDPut, tDNewK, tSl, tPart, tNoPart, gTup, gCons, gNil, gSub, tBM, tUn]
        exact ⟨_, rfl, (show 2 ≤ sizeLine by decide), fun b hb => qn no _ b _ (Evl.Ex.trans e1 (same_new hb)) (by decide +kernel) upd_same⟩
      have hDo' : v = .bl true ∨ v = .non ∨ v = .str "9" ∨ ∃ i, v = .int i := hDo
      rcases hDo' with rfl | rfl | rfl | ⟨i, rfl⟩
      · refine ⟨_, rfl, t, _, 1, _, rfl, rfl, Or.inl (Or.inl (e1 _ _ ht)), rfl, ?_⟩
        refine ⟨V.bl true, V.ty "int", _, _, true, rfl, .ty _, .base (.bl true), kit_ty (by decide +kernel), ?_⟩
        refine ⟨true, rfl, ?_⟩
        refine ⟨_, rfl, t, _, 1, _, rfl, rfl, Or.inl (Or.inl (e1 _ _ ht)), rfl, ?_⟩
        refine ⟨V.bl true, V.ty "bool", _, _, true, rfl, .ty _, .base (.bl true), kit_ty (by decide +kernel), ?_⟩
        refine ⟨true, rfl, ?_⟩
        exact no (fun ⟨i, z, _⟩ => nomatch z)
      · refine ⟨_, rfl, t, _, 1, _, rfl, rfl, Or.inl (Or.inl (e1 _ _ ht)), rfl, ?_⟩
        refine ⟨V.non, V.ty "int", _, _, false, rfl, .ty _, .base .non, kit_ty (by decide +kernel), ?_⟩
        refine ⟨false, rfl, ?_⟩
        exact no (fun ⟨i, z, _⟩ => nomatch z)
      · refine ⟨_, rfl, t, _, 1, _, rfl, rfl, Or.inl (Or.inl (e1 _ _ ht)), rfl, ?_⟩
        refine ⟨V.str "9", V.ty "int", _, _, false, rfl, .ty _, .base (.str "9"), kit_ty (by decide +kernel), ?_⟩
        refine ⟨false, rfl, ?_⟩
        exact no (fun ⟨i, z, _⟩ => nomatch z)
      · refine ⟨_, rfl, t, _, 1, _, rfl, rfl, Or.inl (Or.inl (e1 _ _ ht)), rfl, ?_⟩
        refine ⟨V.int i, V.ty "int", _, _, true, rfl, .ty _, .base (.int i), kit_ty (by decide +kernel), ?_⟩
        refine ⟨true, rfl, ?_⟩
        refine ⟨_, rfl, t, _, 1, _, rfl, rfl, Or.inl (Or.inl (e1 _ _ ht)), rfl, ?_⟩
        refine ⟨V.int i, V.ty "bool", _, _, false, rfl, .ty _, .base (.int i), kit_ty (by decide +kernel), ?_⟩
        refine ⟨false, rfl, ?_⟩
        refine ⟨_, rfl, t, _, 1, _, rfl, rfl, Or.inl (Or.inl (e1 _ _ ht)), rfl, _, rfl, _, _, rfl, rfl, ?_⟩
        by_cases hi : i < S.time
        · refine ⟨true, congrArg V.bl (decide_eq_true hi), ?_⟩
          exact no (fun ⟨j, z, hj⟩ => by
            injection z with z
            have hj' : S.time ≤ j := hj
            omega)
        · refine ⟨false, congrArg V.bl (decide_eq_false hi), ?_⟩
          refine ⟨_, rfl, _, rfl, _, rfl, t, _, 1, _, rfl, rfl, Or.inl (Or.inl (e1 _ _ ht)), rfl, _, rfl, _, rfl, (show 5 ≤ sizeLine by decide), fun p hp => ⟨(show 2 ≤ sizeLine by decide), fun b hb => ?_⟩⟩
          have e23 := Evl.Ex.trans (same_new hp) (same_new (o := HO.tup [V.str "", .ref p]) hb)
          have e3 := Evl.Ex.trans e1 e23
          exact qy ⟨i, rfl, by show S.time ≤ i; omega⟩ _ b p ⟨S.cs, S.last, i, S.rows, S.lates⟩ e3 upd_same ⟨⟨m, rr, rl, same_new hb _ _ upd_same, e23 _ _ hm1, e3 _ _ hrr, e3 _ _ hrl⟩, fun q hq => e3 _ _ (hcl q hq)⟩ ⟨i, rfl, rfl, rfl, List.Perm.refl _⟩ (Nat.le_succ _) (Nat.le_succ _)
    | drop z =>
      have ht : H t = some (.tup [.str "drop", .str z]) := hD
      refine ⟨_, rfl, t, _, 0, _, rfl, rfl, Or.inl (Or.inl (e1 _ _ ht)), rfl, rfl, false, congrArg V.bl (decide_eq_false (fun z => by injection z with z; exact absurd z (by decide +kernel))), ?_⟩
      refine ⟨_, rfl, t, _, 0, _, rfl, rfl, Or.inl (Or.inl (e1 _ _ ht)), rfl, rfl, false, congrArg V.bl (decide_eq_false (fun z => by injection z with z; exact absurd z (by decide +kernel))), ?_⟩
      by_cases hin : z ∈ S.cs.map (·.1.name)
      · obtain ⟨q', hq', e'⟩ := List.mem_map.mp hin
        have hval := kvs_val nd hq' e'
        have G9 : DGet H1 d (.str z) (some (.ref q'.2)) := by
          have g := DGet.k (k := Sum.inr z) (e1 _ _ hd)
          rw [hval] at g
          exact g
        refine ⟨_, rfl, t, _, 1, _, rfl, rfl, Or.inl (Or.inl (e1 _ _ ht)), rfl, _, rfl, d, _, rfl, G9, false, rfl, ?_⟩
        refine ⟨_, rfl, m, rfl, Or.inl ⟨_, Or.inl hm1⟩, _, rfl, t, _, 1, _, rfl, rfl, Or.inl (Or.inl (e1 _ _ ht)), rfl, _, Sum.inr z, _, hm1, rfl, hval, ?_⟩
        try simp only [gName, List.set_cons_zero, List.set_cons_succ]
        rw [dropK_kvs]
        have e2 := memo (kvsOf (S.cs.filter fun q => !decide (q.1.name = z))) (Evl.Ex.refl H1)
        have hm2 : (upd H1 m (.dK (kvsOf (S.cs.filter fun q => !decide (q.1.name = z))))) m = some (.dK (kvsOf (S.cs.filter fun q => !decide (q.1.name = z)))) := upd_same
        generalize upd H1 m (.dK (kvsOf (S.cs.filter fun q => !decide (q.1.name = z)))) = H2 at e2 hm2 ⊢
        refine ⟨_, rfl, t, _, 0, _, rfl, rfl, Or.inl (Or.inl (e2 _ _ ht)), rfl, rfl, true, congrArg V.bl (decide_eq_true rfl), ?_⟩
        refine ⟨_, rfl, _, rfl, _, rfl, _, rfl, _, rfl, (show 5 ≤ sizeLine by decide), fun p hp => ⟨(show 2 ≤ sizeLine by decide), fun b hb => ?_⟩⟩
        have e23 := Evl.Ex.trans (same_new hp) (same_new (o := HO.tup [V.str "", .ref p]) hb)
        have e3 := Evl.Ex.trans e2 e23
        exact qy ((hnm _).mpr hin) _ b p ⟨S.cs.filter fun q => !decide (q.1.name = z), S.last, S.time, S.rows, S.lates⟩ e3 upd_same ⟨⟨m, rr, rl, same_new hb _ _ upd_same, e23 _ _ hm2, e3 _ _ hrr, e3 _ _ hrl⟩, fun q hq => e3 _ _ (hcl q ((List.mem_filter.mp hq).1))⟩ ⟨rfl, rfl, by show ((S.cs.filter fun q => !decide (q.1.name = z)).map (·.1)).Perm _; rw [filter_fst]; exact List.Perm.refl _⟩ (Nat.le_succ _) (Nat.le_succ _)
      · have G9 : DGet H1 d (.str z) none := by
          have g := DGet.k (k := Sum.inr z) (e1 _ _ hd)
          rw [kvs_no hin] at g
          exact g
        refine ⟨_, rfl, t, _, 1, _, rfl, rfl, Or.inl (Or.inl (e1 _ _ ht)), rfl, _, rfl, d, _, rfl, G9, true, rfl, ?_⟩
        exact ⟨_, rfl, (show 2 ≤ sizeLine by decide), fun b hb => qn (fun z => hin ((hnm _).mp z)) _ b _ (Evl.Ex.trans e1 (same_new hb)) (by decide +kernel) upd_same⟩
    | work z =>
      have ht : H t = some (.tup [.str "work", .str z]) := hD
      refine ⟨_, rfl, t, _, 0, _, rfl, rfl, Or.inl (Or.inl (e1 _ _ ht)), rfl, rfl, false, congrArg V.bl (decide_eq_false (fun z => by injection z with z; exact absurd z (by decide +kernel))), ?_⟩
      refine ⟨_, rfl, t, _, 0, _, rfl, rfl, Or.inl (Or.inl (e1 _ _ ht)), rfl, rfl, false, congrArg V.bl (decide_eq_false (fun z => by injection z with z; exact absurd z (by decide +kernel))), ?_⟩
      by_cases hin : z ∈ S.cs.map (·.1.name)
      · obtain ⟨q', hq', e'⟩ := List.mem_map.mp hin
        have hval := kvs_val nd hq' e'
        have G9 : DGet H1 d (.str z) (some (.ref q'.2)) := by
          have g := DGet.k (k := Sum.inr z) (e1 _ _ hd)
          rw [hval] at g
          exact g
        refine ⟨_, rfl, t, _, 1, _, rfl, rfl, Or.inl (Or.inl (e1 _ _ ht)), rfl, _, rfl, d, _, rfl, G9, false, rfl, ?_⟩
        refine ⟨_, rfl, m, rfl, Or.inl ⟨_, Or.inl hm1⟩, _, rfl, t, _, 1, _, rfl, rfl, Or.inl (Or.inl (e1 _ _ ht)), rfl, _, Sum.inr z, _, hm1, rfl, hval, ?_⟩
        try simp only [gName, List.set_cons_zero, List.set_cons_succ]
        rw [dropK_kvs]
        have e2 := memo (kvsOf (S.cs.filter fun q => !decide (q.1.name = z))) (Evl.Ex.refl H1)
        have hm2 : (upd H1 m (.dK (kvsOf (S.cs.filter fun q => !decide (q.1.name = z))))) m = some (.dK (kvsOf (S.cs.filter fun q => !decide (q.1.name = z)))) := upd_same
        generalize upd H1 m (.dK (kvsOf (S.cs.filter fun q => !decide (q.1.name = z)))) = H2 at e2 hm2 ⊢
        refine ⟨_, rfl, t, _, 0, _, rfl, rfl, Or.inl (Or.inl (e2 _ _ ht)), rfl, rfl, false, congrArg V.bl (decide_eq_false (fun z => by injection z with z; exact absurd z (by decide +kernel))), ?_⟩
        have hq2 : ClAt H2 q'.2 q'.1 := e2 _ _ (hcl q' hq')
        have hqm : q'.1 ∈ (S.wk n R).cl := List.mem_map.mpr ⟨q', hq', rfl⟩
        have good := ok.good _ hqm
        refine ⟨_, rfl, _, rfl, _, rfl, _, rfl, a, q'.2, S.wk n R, q'.1, rfl, hM.kp (Kp.of e2), hq2, good.2.1, ok.l0, ok.l1, ?_⟩
        try simp only [gName, List.set_cons_zero, List.set_cons_succ]
        have q2 : H2 q'.2 = some (.tup (clV q'.1)) := hq2
        refine ⟨_, rfl, q'.2, _, 0, _, rfl, rfl, Or.inl (Or.inl q2), rfl, _, rfl, _, rfl, q'.2, _, 2, _, rfl, rfl, Or.inl (Or.inl q2), rfl, _, _, rfl, rfl, _, rfl, (show 3 ≤ sizeLine by decide), fun r hr => ?_⟩
        try simp only [gName, List.set_cons_zero, List.set_cons_succ]
        have e4 := same_new (o := HO.tup [V.str q'.1.name, V.int ((S.wk n R).time + (S.wk n R).rin (S.wk n R).last q'.1.hue + q'.1.len - q'.1.len), V.int ((S.wk n R).time + (S.wk n R).rin (S.wk n R).last q'.1.hue + q'.1.len)]) hr
        have hm4 := e4 _ _ hm2
        have e14 := Evl.Ex.trans e2 e4
        have q4 := e4 _ _ q2
        revert e14 hm4 q4
        clear e4
        generalize upd H2 r _ = H4
        intro hm4 e14 q4
        refine ⟨_, rfl, _, rfl, q'.2, _, 1, _, rfl, rfl, Or.inl (Or.inl q4), rfl, _, rfl, _, rfl, _, rfl, (show 1 ≤ sizeLine by decide), fun l1 hl1 => ?_⟩
        have e5 := same_new (o := HO.lst [V.ref r]) hl1
        have e15 := Evl.Ex.trans e14 e5
        refine ⟨rr, l1, _, _, rfl, rfl, e15 _ _ hrr, upd_same, small16 (by show S.rows.length + 1 ≤ _; omega), fun l2 hl2 => ?_⟩
        have e6 := same_new (o := HO.lst (S.rows ++ [V.ref r])) hl2
        have e16 := Evl.Ex.trans e15 e6
        have hl22 : (upd (upd H4 l1 (.lst [V.ref r])) l2 (.lst (S.rows ++ [V.ref r]))) l2 = some (.lst (S.rows ++ [V.ref r])) := upd_same
        have hm6 := Evl.Ex.trans e5 e6 _ _ hm4
        have q6 := Evl.Ex.trans e5 e6 _ _ q4
        revert e16 hl22 hm6 q6
        clear e5 e6 e15
        generalize upd (upd H4 l1 (.lst [V.ref r])) l2 (.lst (S.rows ++ [V.ref r])) = H6
        intro e16 hl22 hm6 q6
        refine ⟨_, rfl, _, rfl, _, rfl, q'.2, _, 3, _, rfl, rfl, Or.inl (Or.inl q6), rfl, _, _, rfl, rfl, (show 1 ≤ sizeLine by decide), fun l3 hl3 => ?_⟩
        have e7 := same_new (o := HO.lst [V.int ((S.wk n R).time + (S.wk n R).rin (S.wk n R).last q'.1.hue + q'.1.len - q'.1.due)]) hl3
        refine ⟨rl, l3, _, _, rfl, rfl, Evl.Ex.trans e16 e7 _ _ hrl, upd_same, small16 (by show S.lates.length + 1 ≤ _; omega), fun l4 hl4 => ?_⟩
        have e8 := same_new (o := HO.lst (S.lates ++ [V.int ((S.wk n R).time + (S.wk n R).rin (S.wk n R).last q'.1.hue + q'.1.len - q'.1.due)])) hl4
        refine ⟨(show 5 ≤ sizeLine by decide), fun p hp => ⟨(show 2 ≤ sizeLine by decide), fun b hb => ?_⟩⟩
        have e9 := Evl.Ex.trans (same_new hp) (same_new (o := HO.tup [V.str "", .ref p]) hb)
        have e69 := Evl.Ex.trans (Evl.Ex.trans e7 e8) e9
        have e3 := Evl.Ex.trans e16 e69
        refine qy ((hnm _).mpr hin) _ b p ⟨S.cs.filter fun q => !decide (q.1.name = z), q'.1.hue, (S.wk n R).time + (S.wk n R).rin (S.wk n R).last q'.1.hue + q'.1.len, S.rows ++ [V.ref r], S.lates ++ [V.int ((S.wk n R).time + (S.wk n R).rin (S.wk n R).last q'.1.hue + q'.1.len - q'.1.due)]⟩ e3 upd_same ⟨⟨m, l2, l4, same_new hb _ _ upd_same, e69 _ _ hm6, e69 _ _ hl22, e9 _ _ upd_same⟩, fun q hq => e3 _ _ (hcl q ((List.mem_filter.mp hq).1))⟩ ⟨q'.1, hqm, e', rfl, rfl, by show ((S.cs.filter fun q => !decide (q.1.name = z)).map (·.1)).Perm _; rw [filter_fst]; exact List.Perm.refl _⟩ ?_ ?_
        · show (S.rows ++ [V.ref r]).length ≤ _
          rw [List.length_append]
          exact Nat.le_refl _
        · show (S.lates ++ [_]).length ≤ _
          rw [List.length_append]
          exact Nat.le_refl _
      · have G9 : DGet H1 d (.str z) none := by
          have g := DGet.k (k := Sum.inr z) (e1 _ _ hd)
          rw [kvs_no hin] at g
          exact g
        refine ⟨_, rfl, t, _, 1, _, rfl, rfl, Or.inl (Or.inl (e1 _ _ ht)), rfl, _, rfl, d, _, rfl, G9, true, rfl, ?_⟩
        exact ⟨_, rfl, (show 2 ≤ sizeLine by decide), fun b hb => qn (fun z => hin ((hnm _).mp z)) _ b _ (Evl.Ex.trans e1 (same_new hb)) (by decide +kernel) upd_same⟩⟩
end Rw82
/-! A deed, done by the house: let by or not. -/
namespace Rw82
open PySem PySem.Spec PyProof.Rows L2
variable {P : Program} {w : World} {mg : Str → Option Value} {base : Heap} {k : Nat} {G : Ad}
abbrev sp_law_do (G : Ad) : Sp := fun vs H Q E => ∃ (h pp t : Addr) (W : Wk) (rws : List (List V)) (np : Nat) (d : Deed), vs = [.ref h, .ref t] ∧ HsAt G H h pp W rws np ∧ np < 1000 ∧ rws.length ≤ 1000 ∧ (∀ zs ∈ rws, zs.length = 4) ∧ DeedAt H t d ∧ d.Ok W.n ∧ d ≠ .back ∧ W.cl.length < 10 ∧
  (okD W d → ∀ H' W' rws', HB h pp H H' → HsAt G H' h pp W' rws' (np + 1) → W'.n = W.n → W'.R = W.R → effD W W' d → rws'.length ≤ rws.length + 1 → (∀ zs ∈ rws', zs.length = 4) → Q .non H') ∧
  (¬ okD W d → ∀ cls dd H', Caught G cls → Same H H' → E cls dd H')
theorem sc_law_do : FnScope ["house", "deed"] ["house", "deed"] (defScope s_law_do) := ⟨rfl, rfl, rfl, by decide +kernel, rfl, by decide +kernel, by decide +kernel⟩
theorem c_law_do (MH_put : Me P w G.K mg base k G.CH "put" (spH_put G)) (MH_drop : Me P w G.K mg base k G.CH "drop" (spH_drop G)) (MH_work : Me P w G.K mg base k G.CH "work" (spH_work G)) (MH_wait : Me P w G.K mg base k G.CH "wait" (spH_wait G)) (F : Gd G.K mg "_law_do" s_law_do) : Ca P w G.K mg base (k + 1) "_law_do" (sp_law_do G) :=
  ca_X F sc_law_do (fun _ _ _ _ _ _ us hl => match us, hl with | [_, _], _ => rfl) (fun vs H Q E h => by obtain ⟨_, _, _, _, _, _, _, rfl, _⟩ := h; rfl)
  fun f cdv A outer s H vs Q E hr h => ⟨_, /- slots: 0 house, 1 deed -/ (pss_cons (ps_if (pt_cmpR op_eq (pe_ix ix_tup (pv 1) pe_int (fun _ _ => rfl)) pe_str (nomark _)) (pss_one (ps_ret (pe_meX MH_put hr (passes_call (takes_of rfl rfl rfl rfl) fun _ _ _ _ h => h) (pv 0) (pa_cons (pe_ix ix_tup (pv 1) pe_int (fun _ _ => rfl)) pa_nil)))) pss_nil)
      (pss_cons (ps_if (pt_cmpR op_eq (pe_ix ix_tup (pv 1) pe_int (fun _ _ => rfl)) pe_str (nomark _)) (pss_one (ps_ret (pe_meX MH_drop hr (passes_call (takes_of rfl rfl rfl rfl) fun _ _ _ _ h => h) (pv 0) (pa_cons (pe_ix ix_tup (pv 1) pe_int (fun _ _ => rfl)) pa_nil)))) pss_nil)
      (pss_cons (ps_if (pt_cmpR op_eq (pe_ix ix_tup (pv 1) pe_int (fun _ _ => rfl)) pe_str (nomark _)) (pss_one (ps_ret (pe_meX MH_work hr (passes_call (takes_of rfl rfl rfl rfl) fun _ _ _ _ h => h) (pv 0) (pa_cons (pe_ix ix_tup (pv 1) pe_int (fun _ _ => rfl)) pa_nil)))) pss_nil)
      (pss_cons (ps_if (pt_cmpR op_eq (pe_ix ix_tup (pv 1) pe_int (fun _ _ => rfl)) pe_str (nomark _)) (pss_one (ps_ret (pe_meX MH_wait hr (passes_call (takes_of rfl rfl rfl rfl) fun _ _ _ _ h => h) (pv 0) (pa_cons (pe_ix ix_tup (pv 1) pe_int (fun _ _ => rfl)) pa_nil)))) pss_nil)
      (pss_one ps_never))))), by
    obtain ⟨h, pp, t, W, rws, np, dd, rfl, hH, hnp, hrl, h4, hD, hDo, nb, l10, qy, qn⟩ := h
    obtain ⟨dx, pw, pr, ts, h1, h2, h3, hne, h5⟩ := hH.ex
    have okW := h2.ok
    dsimp only [tSeq, tRet, tRetN, tIfS, tAsg, tDrop, tNext, tNever, tVar, tC, tCons, tNil, tCB, tOp, tTest, tB, tAnd, tOr, tNot, tAndV, tOrV, tNotV, tChain, tTup, tLst, tFld, sFld, tCall, tMeth, tMake, tDGet, tDIn, tDNotIn, sDPut, tDNewK, tSl, tPart, tNoPart, gTup, gCons, gNil, gSub, tBM, tUn]
    dsimp only [cx_p, cx_w, cx_K]
    cases dd with
    | back => exact absurd rfl nb
    | put zs g =>
      obtain ⟨c, ht, hc⟩ := hD
      refine ⟨_, rfl, t, _, 0, _, rfl, rfl, Or.inl (Or.inl ht), rfl, rfl, true, congrArg V.bl (decide_eq_true rfl), ?_⟩
      refine ⟨_, rfl, h, dx, _, rfl, h1, hf_no (by decide +kernel), _, rfl, t, _, 1, _, rfl, rfl, Or.inl (Or.inl ht), rfl, h, pp, c, W, rws, np, zs, rfl, hH, hnp, hc, l10, ?_⟩
      cases g with
      | false =>
        obtain ⟨o1, o2, o3, o4⟩ := hDo
        exact Or.inr ⟨o2, o4, o3, Or.inl o1, qn fun z => Bool.false_ne_true z.1⟩
      | true =>
        obtain ⟨cl, rfl, hgc⟩ := hDo
        by_cases hin : cl.name ∈ W.cl.map (·.name)
        · exact Or.inr ⟨(show 5 ≤ 1000 by decide), short_cl hgc, (show 1 ≤ 5 by decide), Or.inr ⟨cl, rfl, hgc, hin⟩, qn fun z => z.2 cl rfl hin⟩
        · exact Or.inl ⟨cl, rfl, hgc, hin, fun H' cl' hb hs hp => qy ⟨rfl, fun c' e m => hin (by rw [clV_inj e]; exact m)⟩ H' _ _ hb hs rfl rfl ⟨cl, rfl, rfl, rfl, hp⟩ (Nat.le_succ _) h4⟩
    | drop z =>
      have ht : H t = some (.tup [.str "drop", .str z]) := hD
      refine ⟨_, rfl, t, _, 0, _, rfl, rfl, Or.inl (Or.inl ht), rfl, rfl, false, congrArg V.bl (decide_eq_false (fun z => by injection z with z; exact absurd z (by decide +kernel))), ?_⟩
      refine ⟨_, rfl, t, _, 0, _, rfl, rfl, Or.inl (Or.inl ht), rfl, rfl, true, congrArg V.bl (decide_eq_true rfl), ?_⟩
      exact ⟨_, rfl, h, dx, _, rfl, h1, hf_no (by decide +kernel), _, rfl, t, _, 1, _, rfl, rfl, Or.inl (Or.inl ht), rfl, h, pp, W, rws, np, z, rfl, hH, hnp, fun hz H' cl' hb hs hp => qy hz H' _ _ hb hs rfl rfl ⟨rfl, rfl, hp⟩ (Nat.le_succ _) h4, qn⟩
    | work z =>
      have ht : H t = some (.tup [.str "work", .str z]) := hD
      refine ⟨_, rfl, t, _, 0, _, rfl, rfl, Or.inl (Or.inl ht), rfl, rfl, false, congrArg V.bl (decide_eq_false (fun z => by injection z with z; exact absurd z (by decide +kernel))), ?_⟩
      refine ⟨_, rfl, t, _, 0, _, rfl, rfl, Or.inl (Or.inl ht), rfl, rfl, false, congrArg V.bl (decide_eq_false (fun z => by injection z with z; exact absurd z (by decide +kernel))), ?_⟩
      refine ⟨_, rfl, t, _, 0, _, rfl, rfl, Or.inl (Or.inl ht), rfl, rfl, true, congrArg V.bl (decide_eq_true rfl), ?_⟩
      refine ⟨_, rfl, h, dx, _, rfl, h1, hf_no (by decide +kernel), _, rfl, t, _, 1, _, rfl, rfl, Or.inl (Or.inl ht), rfl, h, pp, W, rws, np, z, rfl, hH, hnp, hrl, fun c hc hn H' cl' hb hs hp => ?_, qn⟩
      subst hn
      refine qy (List.mem_map.mpr ⟨c, hc, rfl⟩) H' _ _ hb hs rfl rfl ⟨c, hc, rfl, rfl, rfl, hp⟩ (by rw [List.length_append]; exact Nat.le_refl _) fun zs hz => ?_
      rcases List.mem_append.mp hz with hz | hz
      · exact h4 zs hz
      · rw [List.mem_singleton.mp hz]
        rfl
    | wait v =>
      have ht : H t = some (.tup [.str "wait", v]) := hD
      refine ⟨_, rfl, t, _, 0, _, rfl, rfl, Or.inl (Or.inl ht), rfl, rfl, false, congrArg V.bl (decide_eq_false (fun z => by injection z with z; exact absurd z (by decide +kernel))), ?_⟩
      refine ⟨_, rfl, t, _, 0, _, rfl, rfl, Or.inl (Or.inl ht), rfl, rfl, false, congrArg V.bl (decide_eq_false (fun z => by injection z with z; exact absurd z (by decide +kernel))), ?_⟩
      refine ⟨_, rfl, t, _, 0, _, rfl, rfl, Or.inl (Or.inl ht), rfl, rfl, false, congrArg V.bl (decide_eq_false (fun z => by injection z with z; exact absurd z (by decide +kernel))), ?_⟩
      refine ⟨_, rfl, t, _, 0, _, rfl, rfl, Or.inl (Or.inl ht), rfl, rfl, true, congrArg V.bl (decide_eq_true rfl), ?_⟩
      refine ⟨_, rfl, h, dx, _, rfl, h1, hf_no (by decide +kernel), _, rfl, t, _, 1, _, rfl, rfl, Or.inl (Or.inl ht), rfl, h, pp, W, rws, np, v, rfl, hH, hnp, ?_⟩
      have hDo' : v = .bl true ∨ v = .non ∨ v = .str "9" ∨ ∃ i, v = .int i := hDo
      rcases hDo' with rfl | rfl | rfl | ⟨i, rfl⟩
      · exact Or.inr ⟨Or.inl rfl, qn fun ⟨i, z, _⟩ => nomatch z⟩
      · exact Or.inr ⟨Or.inl rfl, qn fun ⟨i, z, _⟩ => nomatch z⟩
      · exact Or.inr ⟨Or.inl rfl, qn fun ⟨i, z, _⟩ => nomatch z⟩
      · by_cases hi : W.time ≤ i
        · exact Or.inl ⟨i, rfl, hi, fun H' cl' hb hs hp => qy ⟨i, rfl, hi⟩ H' _ _ hb hs rfl rfl ⟨i, rfl, rfl, rfl, hp⟩ (Nat.le_succ _) h4⟩
        · exact Or.inr ⟨Or.inr ⟨i, rfl, by omega⟩, qn fun ⟨j, z, hj⟩ => by
            injection z with z
            omega⟩⟩
/-- in the body of a try -/
theorem pe_caS {X : Cx} {j : Nat} {x : Str} {sp : Sp} {p pos : Pos} {e : Expr} {es : List Expr} {t : TA} {E : L2.St → XK} (c : Ca X.prog X.w X.K X.mg X.base k x sp) (hr : Room j X.A) (hx : ∀ σ, PassesAt (L2.CX X.prog X.w) X σ (E σ)) (ha : PA X (e :: es) t) (hk : k ≤ j := by omega) (hg : Gl X x := by rfl)
    (hdb : (x == ("__debug__" : Str)) = false := by decide) (he : starEach (e :: es) X.env = (false, eval e X.env) :: starEach es X.env := by rfl) (hpl : (backTo pos (starEach es X.env)).any (·.1) = false := by rfl) :
    PE X (.Call (.Name x p) (e :: es) [] pos) (tCallS sp E t) := by
  obtain ⟨f, fd, ps, F, hm, kp, b⟩ := c.ex
  exact pe_callS F (hr.mono hk) hg hm kp b hx ha hdb he hpl
abbrev sp_law_try (G : Ad) : Sp := fun vs H Q _ => ∃ (h pp t : Addr) (W : Wk) (rws : List (List V)) (np : Nat) (d : Deed), vs = [.ref h, .ref t] ∧ HsAt G H h pp W rws np ∧ np < 1000 ∧ rws.length ≤ 1000 ∧ (∀ zs ∈ rws, zs.length = 4) ∧ DeedAt H t d ∧ d.Ok W.n ∧ d ≠ .back ∧ W.cl.length < 10 ∧
  (okD W d → ∀ H' W' rws', HB h pp H H' → HsAt G H' h pp W' rws' (np + 1) → W'.n = W.n → W'.R = W.R → effD W W' d → rws'.length ≤ rws.length + 1 → (∀ zs ∈ rws', zs.length = 4) → Q (.bl true) H') ∧
  (¬ okD W d → ∀ H', Same H H' → Q (.bl false) H')
theorem sc_law_try : FnScope ["house", "deed", "let_by"] ["house", "deed"] (defScope s_law_try) := ⟨rfl, rfl, rfl, by decide +kernel, rfl, by decide +kernel, by decide +kernel⟩
theorem c_law_try (gR : mg "RinseError" = some (.ref G.CR)) (C_law_do : Ca P w G.K mg base k "_law_do" (sp_law_do G)) (F : Gd G.K mg "_law_try" s_law_try) : Ca P w G.K mg base (k + 1) "_law_try" (sp_law_try G) :=
  ca_0 F sc_law_try (fun _ _ _ _ _ _ us hl => match us, hl with | [_, _], _ => rfl) (fun vs H Q E h => by obtain ⟨_, _, _, _, _, _, _, rfl, _⟩ := h; rfl)
  fun f cdv A outer s H vs Q E hr h => ⟨_, pss_cons (ps_set (i := 2) sc_law_try.nd rfl (Or.inl rfl) pe_bl)
      (pss_cons (ps_try_only (tb := fun W => tDrop (tCallS (sp_law_do G) (WE W) (tCons (tVar 0) (tCons (tVar 1) tNil)))) (ts := fun _ _ _ => tAsg (tC (.bl false)) (gName 2)) (Wout := fun _ _ _ _ => False) rfl rfl ⟨rfl, by decide, Or.inl gR⟩ takes0
          (fun W pn xe tk _ => pss_one (ps_expr (pe_caS C_law_do hr (fun σ => passAt tk σ) (by exact (pa_cons (pv 0) (pa_cons (pv 1) pa_nil))))))
          (fun _ _ _ _ _ _ _ => pss_one (ps_set (i := 2) sc_law_try.nd rfl (Or.inl rfl) pe_bl)))
      (pss_one (ps_ret (pv 2)))), by
    obtain ⟨h, pp, t, W, rws, np, dd, rfl, hH, hnp, hrl, h4, hD, hDo, nb, l10, qy, qn⟩ := h
    dsimp only [tSeq, tRet, tRetN, tIfS, tAsg, tDrop, tNext, tNever, tVar, tC, tCons, tNil, tCB, tOp, tTest, tB, tAnd, tOr, tNot, tAndV, tOrV, tNotV, tChain, tTup, tLst, tFld, sFld, tCall, tMeth, tMake, tDGet, tDIn, tDNotIn, sDPut, tDNewK, tSl, tPart, tNoPart, gTup, gCons, gNil, gSub, tBM, tUn]
    dsimp only [cx_p, cx_w, cx_K]
    refine ⟨_, rfl, _, rfl, h, pp, t, W, rws, np, dd, rfl, hH, hnp, hrl, h4, hD, hDo, nb, l10, fun ho H' W' rws' hb hs e1 e2 e3 e4 e5 => ⟨_, rfl, qy ho H' W' rws' hb hs e1 e2 e3 e4 e5⟩, fun ho cls d H' hc hs => ⟨true, hc, fun _ a _ => ⟨_, rfl, qn ho H' hs⟩, fun z => nomatch z⟩⟩⟩
end Rw82
/-! The law: what it leans on. -/
namespace Rw82
open PySem PySem.Spec PyProof.Rows L2
variable {P : Program} {w : World} {mg : Str → Option Value} {base : Heap} {k : Nat} {G : Ad}
/-! ### lists of texts, compared -/
theorem eqv_strs : ∀ ys : List Str, PyData.eqvAll (ys.map PyData.str) (ys.map PyData.str) = true
  | [] => rfl
  | y :: ys => by
    show ((y == y) && PyData.eqvAll (ys.map PyData.str) (ys.map PyData.str)) = true
    rw [eqv_strs ys, Bool.and_true]
    exact beq_self_eq_true y
theorem lay_strs : ∀ {ys : List Str}, (∀ y ∈ ys, okName y = true) → PyData.canLayAll0 (ys.map PyData.str) = true
  | [], _ => rfl
  | y :: ys, h => by
    have h1 := lay_strs (ys := ys) fun z m => h z (List.mem_cons_of_mem _ m)
    have h2 := h y (List.mem_cons_self ..)
    unfold okName at h2
    simp only [Bool.and_eq_true, List.all_eq_true, decide_eq_true_eq] at h2
    show (PyData.strOk y && PyData.canLayAll0 (ys.map PyData.str)) = true
    rw [h1, Bool.and_true]
    unfold PyData.strOk
    rw [← Array.all_toList, List.all_eq_true]
    intro c hc
    have h3 := h2.2 c hc
    have h4 : ∀ d ∈ alphabet.cps.toList, d < 0x110000 := by decide +kernel
    exact decide_eq_true (h4 c h3)
theorem depth_strs : ∀ ys : List Str, PyData.depthAll (ys.map PyData.str) = 0
  | [] => rfl
  | y :: ys => by
    show max 0 (PyData.depthAll (ys.map PyData.str)) = 0
    rw [depth_strs ys]
    rfl
theorem shaped_strs {ys : List Str} (h : ∀ y ∈ ys, okName y = true) : SeqAt.shaped (.list (ys.map PyData.str)) = true := by
  unfold SeqAt.shaped
  rw [Bool.and_eq_true]
  refine ⟨lay_strs h, decide_eq_true ?_⟩
  show PyData.depthAll (ys.map PyData.str) + 1 ≤ 64
  rw [depth_strs]
  decide
theorem dpAll_strs {K : PySem.W.Frag} {H : Hp} : ∀ ys : List Str, DpAll K H (ys.map V.str) (ys.map PyData.str)
  | [] => .nil
  | y :: ys => .cons (.str y) (dpAll_strs ys)
theorem ne_strs {K : PySem.W.Frag} {H : Hp} {a b : Addr} {ys : List Str} (ha : H a = some (.lst (ys.map V.str))) (hb : H b = some (.lst (ys.map V.str))) (h : ∀ y ∈ ys, okName y = true) {Q : VK} (q : Q (.bl false) H) : rNeD K (.ref a) (.ref b) H Q := by
  refine ⟨.list (ys.map PyData.str), .list (ys.map PyData.str), .lst (Or.inl (Or.inl ha)) (dpAll_strs ys), .lst (Or.inl (Or.inl hb)) (dpAll_strs ys), shaped_strs h, shaped_strs h, ?_⟩
  have e : PyData.eqv (.list (ys.map PyData.str)) (.list (ys.map PyData.str)) = true := eqv_strs ys
  rw [e]
  exact q
/-! ### what stays beside the house -/
section
variable {H0 H H' : Hp} {h pp a dx : Addr} {fs : List (Str × V)} {np : Nat}
theorem Kp.hb (e : Kp H0 H) (n1 : H0 h = none) (n2 : H0 pp = none) (x : HB h pp H H') : Kp H0 H' := fun b o z nt => x b o (ne_of_none z n1) (ne_of_none z n2) (e b o z nt)
theorem Kp.new {o : HO} (e : Kp H0 H) (n : H a = none) : Kp H0 (upd H a o) := LamX.ExtN.trans e (Kp.of (same_new n))
theorem Kp.same (e : Kp H0 H) (s : Same H H') : Kp H0 H' := LamX.ExtN.trans e (Kp.of s)
theorem Tb.same (t : Tb G H) (s : Same H H') : Tb G H' := LamX.TabS.ext t s
theorem Tb.hb {W : Wk} {rws : List (List V)} (t : Tb G H) (hH : HsAt G H h pp W rws np) (x : HB h pp H H') : Tb G H' := by
  obtain ⟨dx, pw, pr, ts, h1, _⟩ := hH.ex
  obtain ⟨ps, p1, _⟩ := hH.past
  obtain ⟨zs, z1, z2, z3⟩ := t
  have nt : ∀ {o : HO} {b : Addr}, H b = some o → (∀ C dx fs, o ≠ .ins C dx fs) → (∀ xs, o ≠ .lst xs) → H' b = some o := fun {o b} z n1 n2 => x b o (fun e => by
    rw [e, h1] at z
    exact n1 _ _ _ (Option.some.inj z).symm) (fun e => by
    rw [e, p1] at z
    exact n2 _ (Option.some.inj z).symm) z
  refine ⟨zs, nt z1 (fun _ _ _ z => nomatch z) (fun _ z => nomatch z), z2, fun pos cv hc => ?_⟩
  obtain ⟨c, e, hc⟩ := z3 pos cv hc
  exact ⟨c, e, nt hc (fun _ _ _ z => nomatch z) (fun _ z => nomatch z)⟩
/-- a list that may be the house's past is a list behind a deed, too -/
theorem lst_hb {xs : List V} {W W' : Wk} {rws rws' : List (List V)} {np' : Nat} (ha : H a = some (.lst xs)) (hH : HsAt G H h pp W rws np) (hH' : HsAt G H' h pp W' rws' np') (x : HB h pp H H') : ∃ ys, H' a = some (.lst ys) ∧ ys.length ≤ max xs.length np' := by
  obtain ⟨dx, pw, pr, ts, h1, _⟩ := hH.ex
  obtain ⟨ps, p1, p2, p3⟩ := hH'.past
  by_cases e : a = pp
  · rw [e]
    exact ⟨_, p1, by rw [List.length_map]; omega⟩
  · exact ⟨xs, x a _ (fun z => by rw [z, h1] at ha; cases ha) e ha, by omega⟩
theorem StAt.hb {S : LSt} {W W' : Wk} {rws rws' : List (List V)} {np' : Nat} (s : StAt H a S) (hH : HsAt G H h pp W rws np) (hH' : HsAt G H' h pp W' rws' np') (x : HB h pp H H') :
    ∃ rs ls, StAt H' a ⟨S.cs, S.last, S.time, rs, ls⟩ ∧ rs.length ≤ max S.rows.length np' ∧ ls.length ≤ max S.lates.length np' := by
  obtain ⟨⟨d, rr, rl, h1, h2, h3, h4⟩, h5⟩ := s
  obtain ⟨rs, r1, r2⟩ := lst_hb h3 hH hH' x
  obtain ⟨ls, l1, l2⟩ := lst_hb h4 hH hH' x
  obtain ⟨dx, pw, pr, ts, g1, _⟩ := hH.ex
  obtain ⟨ps, p1, _⟩ := hH.past
  have nt : ∀ {o : HO} {b : Addr}, H b = some o → (∀ C dx fs, o ≠ .ins C dx fs) → (∀ xs, o ≠ .lst xs) → H' b = some o := fun {o b} z n1 n2 => x b o (fun e => by
    rw [e, g1] at z
    exact n1 _ _ _ (Option.some.inj z).symm) (fun e => by
    rw [e, p1] at z
    exact n2 _ (Option.some.inj z).symm) z
  refine ⟨rs, ls, ⟨⟨d, rr, rl, nt h1 (fun _ _ _ z => nomatch z) (fun _ z => nomatch z), nt h2 (fun _ _ _ z => nomatch z) (fun _ z => nomatch z), r1, l1⟩, fun q hq => ?_⟩, r2, l2⟩
  have h6 : H q.2 = some (.tup (clV q.1)) := h5 q hq
  exact nt h6 (fun _ _ _ z => nomatch z) (fun _ z => nomatch z)
theorem HsAt.of_hid {s : Addr} {W : Wk} {rws : List (List V)} (x : HsAt G (hid H s) h pp W rws np) : HsAt G H h pp W rws np := x.same hid_le
end
/-- House(r, f, ti) -/
theorem mkH {H1 : Hp} {x dx r : Addr} {n : Nat} {R : Mat} {f ti : Int} {Q : Hp → Prop} {E : XK} (hx : H1 x = none) (hd : H1 dx = none) (ne : dx ≠ x) (hm : MxAt H1 r n R) (n1 : 1 ≤ n) (n4 : n ≤ 4) (nn : Nonneg R) (f0 : -1 ≤ f) (f1 : f < n) (t0 : 0 ≤ ti)
    (fin : ∀ H' pp, Same H1 H' → H1 pp = none → HsAt G H' x pp ⟨n, R, f, ti, []⟩ [] 0 → Q H') :
    spH_init G [.ref x, .ref r, .int f, .int ti] (upd (upd H1 dx (.own x)) x (.ins G.CH dx [])) (fun v H2 => v = .non ∧ Q H2) E := by
  have s : Same H1 (upd (upd H1 dx (.own x)) x (.ins G.CH dx [])) := fun b o e => by
    rw [upd_ne (ne_of_none e hx), upd_ne (ne_of_none e hd)]
    exact e
  refine ⟨x, dx, r, n, R, f, ti, rfl, upd_same, hm.kp (Kp.of s), n1, n4, nn, f0, f1, t0, fun H' pp sb hp hs => ⟨rfl, fin H' pp (fun b o e => sb b o (ne_of_none e hx) (s b o e)) ?_ hs⟩⟩
  cases q : H1 pp with
  | none => rfl
  | some o =>
    have z := s pp o q
    rw [hp] at z
    cases z
/-! ### deeds -/
def Deed.kd : Deed → Str
  | .put _ _ => "put"
  | .work _ => "work"
  | .drop _ => "drop"
  | .wait _ => "wait"
  | .back => "back"
theorem DeedAt.kd {H : Hp} {a : Addr} {d : Deed} (x : DeedAt H a d) : ∃ zs, H a = some (.tup (.str d.kd :: zs)) := by
  cases d with
  | put zs g =>
    obtain ⟨c, h, _⟩ := x
    exact ⟨_, h⟩
  | work z => exact ⟨_, x⟩
  | drop z => exact ⟨_, x⟩
  | wait v => exact ⟨_, x⟩
  | back => exact ⟨_, x⟩
theorem DeedAt.same {H H' : Hp} {a : Addr} {d : Deed} (x : DeedAt H a d) (e : Same H H') : DeedAt H' a d := by
  cases d with
  | put zs g =>
    obtain ⟨c, h, h2⟩ := x
    exact ⟨c, e _ _ h, e _ _ h2⟩
  | work z => exact e _ _ x
  | drop z => exact e _ _ x
  | wait v => exact e _ _ x
  | back => exact e _ _ x
theorem kd_back : ∀ d : Deed, d ≠ .back → d.kd ≠ "back"
  | .put _ _, _ => (show ("put" : Str) ≠ "back" by decide +kernel)
  | .work _, _ => (show ("work" : Str) ≠ "back" by decide +kernel)
  | .drop _, _ => (show ("drop" : Str) ≠ "back" by decide +kernel)
  | .wait _, _ => (show ("wait" : Str) ≠ "back" by decide +kernel)
  | .back, h => absurd rfl h
theorem kd_put : ∀ d : Deed, (∃ zs g, d = .put zs g) ∨ d.kd ≠ "put"
  | .put zs g => Or.inl ⟨zs, g, rfl⟩
  | .work _ => Or.inr (show ("work" : Str) ≠ "put" by decide +kernel)
  | .drop _ => Or.inr (show ("drop" : Str) ≠ "put" by decide +kernel)
  | .wait _ => Or.inr (show ("wait" : Str) ≠ "put" by decide +kernel)
  | .back => Or.inr (by decide +kernel)
theorem eff_few {W W' : Wk} {d : Deed} (e : effD W W' d) : (∃ zs g, d = .put zs g) ∧ W'.cl.length = W.cl.length + 1 ∨ W'.cl.length ≤ W.cl.length := by
  cases d with
  | put zs g =>
    obtain ⟨c, _, _, _, h⟩ := e
    exact Or.inl ⟨⟨zs, g, rfl⟩, h.length_eq⟩
  | work z =>
    obtain ⟨c, _, _, _, _, h⟩ := e
    exact Or.inr (by rw [h.length_eq]; exact List.length_filter_le _ _)
  | drop z =>
    obtain ⟨_, _, h⟩ := e
    exact Or.inr (by rw [h.length_eq]; exact List.length_filter_le _ _)
  | wait v =>
    obtain ⟨i, _, _, _, h⟩ := e
    exact Or.inr (by rw [h.length_eq]; exact Nat.le_refl _)
  | back => exact e.elim
/-! ### the dues -/
def dueOf (cl : List Cloth) (z : Str) : Int := match cl.find? fun c => decide (c.name = z) with
  | some c => c.due
  | none => 0
theorem dueOf_mem {cl : List Cloth} {c : Cloth} (nd : (cl.map (·.name)).Nodup) (h : c ∈ cl) : dueOf cl c.name = c.due := by
  unfold dueOf
  cases e : cl.find? fun x => decide (x.name = c.name) with
  | none =>
    have z := List.find?_eq_none.mp e c h
    exact absurd (decide_eq_true rfl) z
  | some c' =>
    have h1 := List.mem_of_find?_eq_some e
    have h2' : decide (c'.name = c.name) = true := List.find?_some (p := fun x : Cloth => decide (x.name = c.name)) e
    have h2 := of_decide_eq_true h2'
    rw [one_of_name nd h1 h h2]
def dv (cl : List Cloth) (ys : List Str) : List (Key × V) := ys.map fun z => (Sum.inr z, V.int (dueOf cl z))
theorem dv_val {cl : List Cloth} {z : Str} : ∀ {ys : List Str}, z ∈ ys → valV (dv cl ys) (Sum.inr z) = some (.int (dueOf cl z))
  | [], h => nomatch h
  | y :: ys, h => by
    unfold dv
    rw [List.map_cons]
    by_cases e : y = z
    · rw [e]
      exact valV_pos (p := (Sum.inr z, V.int (dueOf cl z))) rfl
    · rw [valV_neg (p := (Sum.inr y, V.int (dueOf cl y))) (fun w => e (Sum.inr.inj w))]
      rcases List.mem_cons.mp h with h | h
      · exact absurd h.symm e
      · exact dv_val h
theorem dv_no {cl : List Cloth} {z : Str} : ∀ {ys : List Str}, z ∉ ys → valV (dv cl ys) (Sum.inr z) = none
  | [], _ => rfl
  | y :: ys, h => by
    rw [List.mem_cons, not_or] at h
    unfold dv
    rw [List.map_cons, valV_neg (p := (Sum.inr y, V.int (dueOf cl y))) (fun w => h.1 (Sum.inr.inj w).symm)]
    exact dv_no h.2
theorem dv_keys (cl : List Cloth) (ys : List Str) : (dv cl ys).map (·.1) = ys.map Sum.inr := by
  unfold dv
  rw [List.map_map]
  rfl
theorem dv_len (cl : List Cloth) (ys : List Str) : (dv cl ys).length = ys.length := List.length_map ..
theorem Tb.hid {H : Hp} {s : Addr} {xs : List V} (t : Tb G H) (hs : H s = some (.lst xs)) : Tb G (hid H s) := by
  obtain ⟨zs, z1, z2, z3⟩ := t
  refine ⟨zs, by rw [hid_ne (fun e => by rw [e, hs] at z1; cases z1)]; exact z1, z2, fun pos cv hc => ?_⟩
  obtain ⟨c, e, h⟩ := z3 pos cv hc
  refine ⟨c, e, ?_⟩
  rw [hid_ne (fun e => by
    rw [e, hs] at h
    exact nomatch h)]
  exact h
/-- a row of what was done -/
abbrev Tr := Cloth × Int × Int
def rowT (q : Tr) : List V := [V.str q.1.name, .int q.2.1, .int q.2.2, .int (q.2.2 - q.1.due)]
def rowS (q : Tr) : List V := [V.str q.1.name, .int q.2.1, .int q.2.2]
theorem rowT_take (tr : List Tr) : (tr.map rowT).map (fun zs => zs.take 3) = tr.map rowS := by
  rw [List.map_map]
  rfl
end Rw82
/-! The law itself. -/
namespace Rw82
open PySem PySem.Spec PyProof.Rows L2
variable {P : Program} {w : World} {mg : Str → Option Value} {base : Heap} {k : Nat} {G : Ad}
theorem sq_kp {K : PySem.W.Frag} {H H' : Hp} {a : Addr} {xs : List V} (e : Kp H H') (h : SqL K H a xs) : SqL K H' a xs := by
  rcases h with (h | ⟨o, h⟩) | h
  · exact Or.inl (Or.inl (Kp.lst e h))
  · exact Or.inl (Or.inr ⟨o, e _ _ h fun _ z => nomatch z⟩)
  · exact Or.inr h
theorem atI_0 {v : V} {zs : List V} : atI (v :: zs) 0 = some v := atI_nat (j := 0) rfl
theorem st21 (a : V) : L2.start ["script", "drawn", "least", "house", "state", "told", "stream", "bound", "dues", "name", "many", "turn", "rows", "k", "cell", "deed", "names", "due", "begin", "end", "row"] [a] = [some a, none, none, none, none, none, none, none, none, none, none, none, none, none, none, none, none, none, none, none, none] := rfl
/-- behind i deeds -/
structure LI (G : Ad) (H0 : Hp) (D : Dr) (h pp : Addr) (i : Nat) (u : Addr) (H : Hp) : Prop where
  kp : Kp H0 H
  tb : Tb G H
  ex : ∃ (S : LSt) (W : Wk) (rws : List (List V)) (np : Nat), HsAt G H h pp W rws np ∧ StAt H u S ∧ Alike W (S.wk D.n D.R) ∧ np ≤ i ∧ rws.length ≤ i ∧ (∀ zs ∈ rws, zs.length = 4) ∧ S.rows.length ≤ i ∧ S.lates.length ≤ i ∧ S.cs.length ≤ 7
abbrev sp_law (G : Ad) : Sp := fun vs H Q _ => ∃ (sp : Addr) (xs : List Int), vs = [.ref sp] ∧ SqL G.K H sp (xs.map V.int) ∧ xs.length ≤ 63 ∧ Tb G H ∧ ∀ H', Q (.bl true) H'
theorem sc_law : FnScope ["script", "drawn", "least", "house", "state", "told", "stream", "bound", "dues", "name", "many", "turn", "rows", "k", "cell", "deed", "names", "due", "begin", "end", "row"] ["script"] (defScope slaw) := ⟨rfl, rfl, rfl, by decide +kernel, rfl, by decide +kernel, by decide +kernel⟩
theorem c_law (B : Bn mg) (FC : Fc G mg) (C_law_house : Ca P w G.K mg base k "_law_house" (sp_law_house G)) (C_law_least : Ca P w G.K mg base k "_law_least" (sp_law_least G)) (Mk_House : Ma P w G.K mg base k "House" G.CH (spH_init G)) (C_law_deed : Ca P w G.K mg base (k + 1) "_law_deed" (sp_law_deed G)) (C_law_cell_stream : Ca P w G.K mg base (k + 1) "_law_cell_stream" sp_law_cell_stream)
    (C_law_goes : Ca P w G.K mg base (k + 1) "_law_goes" (sp_law_goes G)) (C_law_try : Ca P w G.K mg base (k + 1) "_law_try" (sp_law_try G)) (C_least_late : Ca P w G.K mg base (k + 1) "least_late" (sp_least_late G)) (MH_works : Me P w G.K mg base (k + 1) G.CH "works" (spH_works G)) (MW_names : Me P w G.K mg base (k + 1) G.CW "names" (spW_names G))
    (C_law_stream : Ca P w G.K mg base (k + 1) "_law_stream" (sp_law_stream G)) (C_law_take : Ca P w G.K mg base (k + 1) "_law_take" sp_law_take) (MW_cloth : Me P w G.K mg base (k + 1) G.CW "cloth" (spW_cloth G)) (MH_done : Me P w G.K mg base (k + 1) G.CH "done" (spH_done G)) (C_safe : Ca P w G.K mg base (k + 1) "safe" (sp_safe G)) (MH_work : Me P w G.K mg base (k + 1) G.CH "work" (frSp (spH_work G)))
    {f0 : Addr} {fd0 : FuncData} (F : FunD G.K "law" "law" (defArgs slaw) (defBody slaw) (defScope slaw) [] [] f0 fd0) : FnOk P w G.K mg base (L2.CX P w) (k + 1 + 1) f0 fd0 ["script"] (sp_law G) :=
  fn_0 F sc_law (fun vs H Q E h => by obtain ⟨_, _, rfl, _⟩ := h; rfl)
  fun f cdv A outer s H vs Q E hr h => ⟨_, /- slots: 0 script, 1 drawn, 2 least, 3 house, 4 state, 5 told, 6 stream, 7 bound, 8 dues, 9 name, 10 many, 11 turn, 12 rows, 13 k, 14 cell, 15 deed, 16 names, 17 due, 18 begin, 19 end, 20 row -/ (pss_cons (ps_set (i := 1) sc_law.nd rfl (Or.inl rfl) (pe_ca C_law_house hr (pa_cons (pv 0) pa_nil)))
      (pss_cons (ps_set (i := 2) sc_law.nd rfl (Or.inl rfl) (pe_ca C_law_least hr (pa_cons (pe_ix ix_tup (pv 1) pe_int (fun _ _ => rfl)) pa_nil)))
      (pss_cons (ps_set (i := 3) sc_law.nd rfl (Or.inl rfl) (pe_ma Mk_House hr (pa_cons (pe_ix ix_tup (pv 1) pe_int (fun _ _ => rfl)) (pa_cons (pe_ix ix_tup (pv 1) pe_int (fun _ _ => rfl)) (pa_cons (pe_ix ix_tup (pv 1) pe_int (fun _ _ => rfl)) pa_nil)))))
      (pss_cons (ps_set (i := 4) sc_law.nd rfl (Or.inl rfl) (pe_tup (pa_cons pe_dnewK (pa_cons (pe_ix ix_tup (pv 1) pe_int (fun _ _ => rfl)) (pa_cons (pe_ix ix_tup (pv 1) pe_int (fun _ _ => rfl)) (pa_cons (pe_lst pa_nil) (pa_cons (pe_lst pa_nil) pa_nil)))))))
      (pss_cons (ps_for PassesOwn.never rfl (pi_enum (by rfl) B.enumerate (pa_cons (pv 0) pa_nil)) (pg_tup rfl (pgs_cons (pg_name (i := 13) sc_law.nd rfl (Or.inl rfl)) (pgs_cons (pg_name (i := 14) sc_law.nd rfl (Or.inl rfl)) pgs_nil))) (pss_cons (ps_set (i := 15) sc_law.nd rfl (Or.inl rfl) (pe_ca C_law_deed hr (pa_cons (pe_ca C_law_cell_stream hr (pa_cons (pv 14) (pa_cons (pv 13) pa_nil))) (pa_cons (pv 1) (pa_cons (pv 4) pa_nil)))))
      (pss_one (ps_if (PW.pt (pw_and (pt_cmpR op_ne (pe_ix ix_tup (pv 15) pe_int (fun _ _ => rfl)) pe_str (nomark _)) (pw_and1 (pt_cmpR op_lt (pe_callB call_lenD (by rfl) B.len PySem.boot_len (pa_cons (pe_ix ix_tup (pv 4) pe_int (fun _ _ => rfl)) pa_nil)) (pe_op op_add pe_int (pe_op op_mulW pe_int (pe_callTy call_int1 (by rfl) B.int (by decide +kernel) (pa_cons (pe_cmpR op_ne (pe_ix ix_tup (pv 15) pe_int (fun _ _ => rfl)) pe_str (nomark _)) pa_nil)))) (nomark _))))) (pss_cons (ps_asg (pe_ca C_law_goes hr (pa_cons (pv 2) (pa_cons (pv 4) (pa_cons (pv 15) pa_nil)))) (pg_tup rfl (pgs_cons (pg_name (i := 17) sc_law.nd rfl (Or.inl rfl)) (pgs_cons (pg_name (i := 4) sc_law.nd rfl (Or.inl rfl)) pgs_nil))))
      (pss_one (ps_if (pt_cmpR op_ne (pe_ca C_law_try hr (pa_cons (pv 3) (pa_cons (pv 15) pa_nil))) (pe_cmpR op_eq (pv 17) pe_str (nomark _)) (nomark _)) (pss_one (ps_ret pe_bl)) pss_nil))) pss_nil))))
      (pss_cons (ps_set (i := 5) sc_law.nd rfl (Or.inl rfl) (pe_ca C_least_late hr (pa_cons (pe_me0 MH_works hr (pv 3)) pa_nil)))
      (pss_cons (ps_if (pt_cmpR op_isN (pv 5) pe_non (nomark _)) (pss_one (ps_ret (pe_cmpR (op_eqNil hr.units0) (pe_me0 MW_names hr (pe_me0 MH_works hr (pv 3))) (pe_lst pa_nil) (nomark _)))) pss_nil)
      (pss_cons (ps_set (i := 6) sc_law.nd rfl (Or.inl rfl) (pe_ca C_law_stream hr (pa_cons (pv 0) (pa_cons pe_int pa_nil))))
      (pss_cons (ps_set (i := 7) sc_law.nd rfl (Or.inr rfl) (pe_op op_add (pe_ix ix_tup (pv 5) pe_int (fun _ _ => rfl)) (pe_ca C_law_take hr (pa_cons (pv 6) (pa_cons (pe_ix ix_list (pe_lst (pa_cons pe_int (pa_cons pe_int (pa_cons (pe_ix ix_tup (pv 1) pe_int (fun _ _ => rfl)) pa_nil)))) (pe_ca C_law_take hr (pa_cons (pv 6) (pa_cons pe_int pa_nil))) (fun _ _ => rfl)) pa_nil)))))
      (pss_cons (ps_set (i := 8) sc_law.nd rfl (Or.inr rfl) pe_dnewK)
      (pss_cons (ps_for PassesOwn.never rfl (pi_list (pe_me0 MW_names hr (pe_me0 MH_works hr (pv 3)))) (pg_name (i := 9) sc_law.nd rfl (Or.inl rfl)) (pss_one (ps_dput (hu_of hr) (pv 8) (pv 9) (pe_ix ix_tup (pe_me MW_cloth hr (pe_me0 MH_works hr (pv 3)) (pa_cons (pv 9) pa_nil)) pe_int (fun _ _ => rfl)) rfl)))
      (pss_cons (ps_set (i := 10) sc_law.nd rfl (Or.inl rfl) (pe_callB call_len_seq (by rfl) B.len PySem.boot_len (pa_cons (pe_me0 MH_done hr (pv 3)) pa_nil)))
      (pss_cons (ps_for PassesOwn.never rfl (pi_range1 (by rfl) B.range (pa_cons (pe_callB call_lenD (by rfl) B.len PySem.boot_len (pa_cons (pv 8) pa_nil)) pa_nil)) (pg_name (i := 11) sc_law.nd rfl (Or.inl rfl)) (pss_cons (ps_set (i := 16) sc_law.nd rfl (Or.inl rfl) (pe_ca C_safe hr (pa_cons (pe_me0 MH_works hr (pv 3)) (pa_cons (pv 7) pa_nil))))
      (pss_cons (ps_if (pt_cmpR (op_eqNil hr.units0) (pv 16) (pe_lst pa_nil) (nomark _)) (pss_one (ps_ret pe_bl)) pss_nil)
      (pss_one (ps_expr (pe_me MH_work hr (pv 3) (pa_cons (pe_ix ix_list (pv 16) (pe_ca C_law_take hr (pa_cons (pv 6) (pa_cons (pe_callB call_len_seq (by rfl) B.len PySem.boot_len (pa_cons (pv 16) pa_nil)) pa_nil))) (fun _ _ => rfl)) pa_nil)))))))
      (pss_cons (ps_set (i := 12) sc_law.nd rfl (Or.inl rfl) (pe_slice sl_list (pe_me0 MH_done hr (pv 3)) (po_some (pv 10)) po_none))
      (pss_cons (ps_if (PW.pt (pw_or (pt_cmpR (op_neNil hr.units0) (pe_me0 MW_names hr (pe_me0 MH_works hr (pv 3))) (pe_lst pa_nil) (nomark _)) (pw_or1 (pt_cmpR (op_neD hr.units) (pe_callB cr_sortedS (by rfl) B.sorted (by decide +kernel) (pa_cons (pe_lc (own := [("row", 20)]) (g := (gName 20)) (tt := tYes) (te := (tOp (rIxT G.K) (tVar 20) (tC (.int 0)))) rfl sc_law.nd (pi_list (pv 12)) (blkOk_by (own := [("row", 20)]) (N := ["script", "drawn", "least", "house", "state", "told", "stream", "bound", "dues", "name", "many", "turn", "rows", "k", "cell", "deed", "names", "due", "begin", "end", "row"]) (sc := defScope slaw) (by decide +kernel)) (fun _ _ _ _ _ => by exact (pg_name (i := 20) sc_law.nd rfl (Or.inl rfl))) (fun _ _ _ _ _ => by exact pts_nil) (fun _ _ _ _ _ => by exact (pe_ix ix_tup (pv 20) pe_int (fun _ _ => rfl)))) pa_nil)) (pe_callB (call_sortK rfl) (by rfl) B.sorted (by decide +kernel) (pa_cons (pe_bm0 PySem.F.plainAttrs_dict PySem.F.slot_dict_keys PySem.F.type_dict_keys mt_keys (pv 8)) pa_nil)) (nomark _))))) (pss_one (ps_ret pe_bl)) pss_nil)
      (pss_one (ps_ret (pe_callB (cr_all rfl) (by rfl) B.all (by decide +kernel) (pa_cons (pe_lc (own := [("name", 9), ("begin", 18), ("end", 19)]) (g := (gTup G.K 3 (gCons (gName 9) (gCons (gName 18) (gCons (gName 19) gNil))))) (tt := tYes) (te := (tOp (rI0 fun i j => .bl (decide (i ≤ j))) (tOp (rI0 fun i j => .int (i - j)) (tVar 19) (tDGet (tVar 8) (tVar 9))) (tVar 7))) rfl sc_law.nd (pi_list (pv 12)) (blkOk_by (own := [("name", 9), ("begin", 18), ("end", 19)]) (N := ["script", "drawn", "least", "house", "state", "told", "stream", "bound", "dues", "name", "many", "turn", "rows", "k", "cell", "deed", "names", "due", "begin", "end", "row"]) (sc := defScope slaw) (by decide +kernel)) (fun _ _ _ _ _ => by exact (pg_tup rfl (pgs_cons (pg_name (i := 9) sc_law.nd rfl (Or.inl rfl)) (pgs_cons (pg_name (i := 18) sc_law.nd rfl (Or.inl rfl)) (pgs_cons (pg_name (i := 19) sc_law.nd rfl (Or.inl rfl)) pgs_nil))))) (fun _ _ _ _ _ => by exact pts_nil) (fun _ _ _ _ _ => by exact (pe_cmpR op_le (pe_op op_sub (pv 19) (pe_dget (hu_of hr) (pv 8) (pv 9) (fun _ _ => rfl))) (pv 7) (nomark _)))) pa_nil))))))))))))))))))), by
    obtain ⟨sp, xs, rfl, hS, h63, hTb, q⟩ := h
    dsimp only [tSeq, tRet, tRetN, tIfS, tAsg, tDrop, tNext, tNever, tVar, tC, tCons, tNil, tCB, tOp, tTest, tB, tAnd, tOr, tNot, tAndV, tOrV, tNotV, tChain, tTup, tLst, tFld, sFld, tCall, tMeth, tMake, tDGet, tDIn, tDNotIn, sDPut, tDNewK, tSl, tPart, tNoPart, gTup, gCons, gNil, gSub, tBM, tUn]
    dsimp only [cx_p, cx_w, cx_K]
    simp only [gName, st21, List.set_cons_zero, List.set_cons_succ]
    refine ⟨_, rfl, sp, xs, rfl, hS, h63, fun H1 t D e1 hD => ?_⟩
    have ok := hD.ok
    obtain ⟨r, nm, ht, hM, hnm⟩ := hD.ex
    refine ⟨_, rfl, t, _, 0, _, rfl, rfl, Or.inl (Or.inl ht), rfl, r, D.n, D.R, rfl, hM, ok.n1, ok.n4, ok.nn, fun H2 a e2 hA => ?_⟩
    have ht2 := e2 _ _ ht
    refine ⟨_, rfl, t, _, 0, _, rfl, rfl, Or.inl (Or.inl ht2), rfl, _, rfl, t, _, 1, _, rfl, rfl, Or.inl (Or.inl ht2), rfl, _, rfl, t, _, 2, _, rfl, rfl, Or.inl (Or.inl ht2), rfl, fun h dx hx hd ne => mkH hx hd ne (hM.kp (Kp.of e2)) ok.n1 ok.n4 ok.nn ok.f0 ok.f1 ok.t0 fun H3 pp e3 hpp hH => ?_⟩
    have ht3 := e3 _ _ ht2
    refine fun d0 hd0 => ⟨_, rfl, t, _, 1, _, rfl, rfl, Or.inl (Or.inl (same_new hd0 _ _ ht3)), rfl, _, rfl, t, _, 2, _, rfl, rfl, Or.inl (Or.inl (same_new hd0 _ _ ht3)), rfl, (show 0 ≤ sizeLine from Nat.zero_le _), fun l1 hl1 => ⟨(show 0 ≤ sizeLine from Nat.zero_le _), fun l2 hl2 => ⟨(show 5 ≤ sizeLine by decide), fun u hu => ?_⟩⟩⟩
    have st0 : StAt (upd (upd (upd (upd H3 d0 (.dK [])) l1 (.lst [])) l2 (.lst [])) u (.tup [.ref d0, .int D.f, .int D.ti, .ref l1, .ref l2])) u ⟨[], D.f, D.ti, [], []⟩ := ⟨⟨d0, l1, l2, upd_same, same_new hu _ _ (same_new hl2 _ _ (same_new hl1 _ _ upd_same)), same_new hu _ _ (same_new hl2 _ _ upd_same), same_new hu _ _ upd_same⟩, fun q m => nomatch m⟩
    have e4 : Same H3 (upd (upd (upd (upd H3 d0 (.dK [])) l1 (.lst [])) l2 (.lst [])) u (.tup [.ref d0, .int D.f, .int D.ti, .ref l1, .ref l2])) := Evl.Ex.trans (same_new hd0) (Evl.Ex.trans (same_new hl1) (Evl.Ex.trans (same_new hl2) (same_new hu)))
    revert st0 e4
    generalize (upd (upd (upd (upd H3 d0 (.dK [])) l1 (.lst [])) l2 (.lst [])) u (.tup [.ref d0, .int D.f, .int D.ti, .ref l1, .ref l2])) = H4
    intro st0 e4
    have l0 : LI G H2 D h pp 0 u H4 := ⟨Kp.of (Evl.Ex.trans e3 e4), hTb.same (Evl.Ex.trans (Evl.Ex.trans e1 e2) (Evl.Ex.trans e3 e4)), ⟨[], D.f, D.ti, [], []⟩, _, [], 0, hH.same e4, st0, ⟨rfl, rfl, rfl, rfl, List.Perm.refl _⟩, Nat.le_refl _, Nat.le_refl _, fun _ m => (nomatch m), Nat.le_refl _, Nat.le_refl _, Nat.zero_le _⟩
    have hD2 : DrAt H2 t D := hD.kp (Kp.of e2)
    have hS2 : SqL G.K H2 sp (xs.map V.int) := sq_kp (Kp.of (Evl.Ex.trans e1 e2)) hS
    clear hu hl1 hl2 hd0 e4 st0 hH ht ht3 hd ne hM hnm hD hS hTb e1 e2 e3
    try simp only [gName, List.set_cons_zero, List.set_cons_succ]
    refine ⟨_, rfl, sp, _, rfl, sq_kp l0.kp hS2, ?_⟩
    refine for_it (walk_enum (xs := xs.map V.int)) (fun i σ' H' => ∃ u y13 y14 y15 y17, σ' = [some (.ref sp), some (.ref t), some (.ref a), some (.ref h), some (.ref u), none, none, none, none, none, none, none, none, y13, y14, y15, none, y17, none, none, none] ∧ LI G H2 D h pp i u H') ⟨_, _, _, _, _, rfl, l0⟩ (fun i σ' H' _ z => by
      obtain ⟨_, _, _, _, _, _, z⟩ := z
      exact sq_kp z.kp hS2) ?_ ?_
    · rintro i x _ H5 H6 hi ⟨u, y13, y14, y15, y17, rfl, L⟩ ⟨T, u', v, rfl, hT, rfl, hu', hv'⟩
      have hi' : i < xs.length := by
        have z : i < (xs.map V.int).length := hi
        rw [List.length_map] at z
        exact z
      obtain rfl : u' = .int (i : Nat) := (Option.some.inj hu').symm
      have hv2 : (xs.map V.int)[i]? = some v := hv'
      rw [List.getElem?_map] at hv2
      obtain ⟨c, hc, rfl⟩ := Option.map_eq_some_iff.mp hv2
      have e6 : Same H5 (upd H5 T (.tup [.int (i : Nat), .int c])) := same_new hT
      have hT6 : (upd H5 T (.tup [.int (i : Nat), .int c])) T = some (.tup [.int (i : Nat), .int c]) := upd_same
      generalize upd H5 T (.tup [.int (i : Nat), .int c]) = H6 at e6 hT6 ⊢
      obtain ⟨S, W, rws, np, hH, hSt, al, np1, lr, r4, lS, lL, l7⟩ := L.ex
      have kp6 := L.kp.same e6
      have tb6 := L.tb.same e6
      refine ⟨T, _, rfl, Or.inl (Or.inl hT6), rfl, _, _, rfl, _, _, rfl, rfl, ?_⟩
      refine ⟨_, rfl, _, rfl, c, i, rfl, by omega, fun H7 s x7 e7 hn7 hs7 => ⟨_, rfl, _, rfl, H6, s, t, u, x7, D, S, rfl, hs7, hn7, e7, hD2.kp kp6, hSt.kp (Kp.of e6), by omega, fun H8 b d e8 hd hok => ?_⟩⟩
      have e68 := Evl.Ex.trans e6 e8
      have hH8 := hH.same e68
      have hS8 := hSt.kp (Kp.of e68)
      have kp8 := L.kp.same e68
      have tb8 := L.tb.same e68
      have okW : W.Ok := by
        obtain ⟨_, _, _, _, _, h2, _⟩ := hH.ex
        exact h2.ok
      have nW : W.n = D.n := al.n
      have lW : W.cl.length < 10 := by
        have z := al.cl.length_eq
        have z2 : (S.wk D.n D.R).cl.length = S.cs.length := List.length_map ..
        omega
      have skip : LI G H2 D h pp (i + 1) u H8 := ⟨kp8, tb8, S, W, rws, np, hH8, hS8, al, by omega, by omega, r4, by omega, by omega, l7⟩
      obtain ⟨zs, hz⟩ := hd.kd
      obtain ⟨⟨dd, rr, rl, hu8, hdd8, _⟩, _⟩ := id hS8
      by_cases hb : d = .back
      · subst hb
        refine ⟨_, rfl, b, _, 0, .str Deed.back.kd, rfl, rfl, Or.inl (Or.inl hz), atI_0, rfl, false, congrArg V.bl (by rw [decide_eq_true (show V.str Deed.back.kd = V.str "back" from rfl)]; rfl), ?_⟩
        exact ⟨u, _, _, _, _, rfl, skip⟩
      · refine ⟨_, rfl, b, _, 0, .str d.kd, rfl, rfl, Or.inl (Or.inl hz), atI_0, rfl, true, congrArg V.bl (by rw [decide_eq_false (fun z => kd_back d hb (by injection z))]; rfl), ?_⟩
        refine ⟨_, rfl, u, _, 0, _, rfl, rfl, Or.inl (Or.inl hu8), rfl, dd, _, rfl, hdd8, ?_⟩
        refine ⟨_, rfl, b, _, 0, .str d.kd, rfl, rfl, Or.inl (Or.inl hz), atI_0, rfl, Or.inr ⟨_, rfl, _, _, rfl, rfl, wide_mul (a := 64) (b := 64) (by decide) (by split <;> decide) (by decide) (by decide) (by decide), _, _, rfl, rfl, _, _, rfl, rfl, ?_⟩⟩
        obtain ⟨tv, htv, himp⟩ : ∃ tv : Bool, decide ((((kvsOf S.cs).length : Nat) : Int) < 7 + 9 * (if (!decide (V.str d.kd = V.str "put")) = true then 1 else 0)) = tv ∧ (tv = true → ∀ zs g, d = .put zs g → S.cs.length ≤ 6) := by
          refine ⟨_, rfl, fun ht zs g e => ?_⟩
          subst e
          rw [decide_eq_true (show V.str (Deed.put zs g).kd = V.str "put" from rfl)] at ht
          have h9 := of_decide_eq_true ht
          rw [kvs_len] at h9
          have h10 : (if (!true) = true then (1 : Int) else 0) = 0 := rfl
          rw [h10] at h9
          omega
        refine ⟨tv, congrArg V.bl htv, ?_⟩
        cases tv with
        | false => exact ⟨u, _, _, _, _, rfl, skip⟩
        | true =>
          have h6 := himp rfl
          refine ⟨_, rfl, _, rfl, _, rfl, a, u, b, S, D.n, D.R, d, rfl, hA.kp kp8, hS8, al.ok okW, hd, hok, hb, by omega, by omega, h6, fun hno H9 b2 z e9 hz2 hb2 => ?_, fun hyes H9 b2 u2 S2 e9 hb2 hS2' heff hr2 hl2 => ?_⟩
          · refine ⟨b2, _, rfl, Or.inl (Or.inl hb2), rfl, _, _, rfl, _, _, rfl, rfl, ?_⟩
            have hnoW : ¬ okD W d := fun z => hno ((al.okD d).mp z)
            refine ⟨_, rfl, _, rfl, h, pp, b, W, rws, np, d, rfl, hH8.same e9, by omega, by omega, r4, hd.same e9, by rw [nW]; exact hok, hb, lW, fun z => absurd z hnoW, fun _ H10 e10 => ?_⟩
            refine ⟨_, rfl, rfl, rfl, false, congrArg V.bl (by rw [decide_eq_false (show V.str z ≠ V.str "" from fun y => hz2 (by injection y))]; rfl), ?_⟩
            have e810 := Evl.Ex.trans e9 e10
            exact ⟨u, _, _, _, _, rfl, kp8.same e810, tb8.same e810, S, W, rws, np, hH8.same e810, hS8.kp (Kp.of e810), al, by omega, by omega, r4, by omega, by omega, l7⟩
          · refine ⟨b2, _, rfl, Or.inl (Or.inl hb2), rfl, _, _, rfl, _, _, rfl, rfl, ?_⟩
            have hyesW := (al.okD d).mpr hyes
            refine ⟨_, rfl, _, rfl, h, pp, b, W, rws, np, d, rfl, hH8.same e9, by omega, by omega, r4, hd.same e9, by rw [nW]; exact hok, hb, lW, fun _ H10 W2 rws2 hb10 hH10 n2 R2 eff2 lr2 r42 => ?_, fun z => absurd hyesW z⟩
            refine ⟨_, rfl, rfl, rfl, false, congrArg V.bl (by rw [decide_eq_true (show V.str "" = V.str "" from rfl), decide_eq_true (show V.bl true = V.bl true from rfl)]; rfl), ?_⟩
            obtain ⟨rs, ls, hS10, lrs, lls⟩ := hS2'.hb (hH8.same e9) hH10 hb10
            have al2 : Alike W2 (S2.wk D.n D.R) := al.eff okW.nd n2 R2 rfl rfl eff2 heff
            have l72 : S2.cs.length ≤ 7 := by
              have z2 : (S.wk D.n D.R).cl.length = S.cs.length := List.length_map ..
              have z3 : (S2.wk D.n D.R).cl.length = S2.cs.length := List.length_map ..
              rcases eff_few heff with ⟨⟨zs, g, e⟩, z⟩ | z
              · have := h6 zs g e
                omega
              · omega
            exact ⟨u2, _, _, _, _, rfl, (kp8.same e9).hb hx hpp hb10, (tb8.same e9).hb (hH8.same e9) hb10, ⟨S2.cs, S2.last, S2.time, rs, ls⟩, W2, rws2, np + 1, hH10, hS10, ⟨al2.n, al2.R, al2.last, al2.time, al2.cl⟩, by omega, by omega, r42, by show rs.length ≤ _; omega, by show ls.length ≤ _; omega, l72⟩
    · rintro _ H5 ⟨u, y13, y14, y15, y17, rfl, L⟩
      try simp only [gName, List.set_cons_zero, List.set_cons_succ]
      obtain ⟨S, W, rws, np, hH, hSt, al, np1, lr, r4, lS, lL, l7⟩ := L.ex
      have kp5 := L.kp
      have tb5 := L.tb
      have lx : (xs.map V.int).length = xs.length := List.length_map ..
      rw [lx] at np1 lr
      clear lS lL L hSt
      obtain ⟨dx5, pw5, _, _, h1, hW5, _⟩ := id hH.ex
      have okW : W.Ok := hW5.ok
      have l7W : W.cl.length ≤ 7 := by
        have z := al.cl.length_eq
        have z2 : (S.wk D.n D.R).cl.length = S.cs.length := List.length_map ..
        omega
      clear al l7 hW5
      refine ⟨_, rfl, h, dx5, _, rfl, h1, hf_no (by decide +kernel), h, pp, W, rws, np, rfl, hH, fun pw hpw => ⟨pw, W, rfl, hpw, tb5, fun hz H6 e6 t6 => ?_, fun hz H6 tt l v1 v2 e6 t6 htt hcan => ?_⟩⟩
      · refine ⟨_, rfl, rfl, true, congrArg V.bl (decide_eq_true rfl), ?_⟩
        refine ⟨_, rfl, h, dx5, _, rfl, Kp.ins e6.k h1, hf_no (by decide +kernel), h, pp, W, rws, np, rfl, hH.ext e6.k, fun pw2 hpw2 => ?_⟩
        obtain ⟨dxw, ls, tsw, d, cs, O⟩ := hpw2.open_
        refine ⟨pw2, dxw, _, rfl, O.at_, wf_no (by decide +kernel), pw2, W, rfl, hpw2, fun H7 b ys e7 hp hs hb => ⟨Nat.zero_le _, fun D2 hD2 => ⟨b, D2, _, rfl, rfl, Or.inl (Or.inl (same_new hD2 _ _ hb)), Or.inl (Or.inl upd_same), ?_⟩⟩⟩
        have hy : ys = [] := by
          have z := hp.length_eq
          rw [hz] at z
          exact List.eq_nil_of_length_eq_zero z
        rw [hy]
        exact q _
      · refine ⟨_, rfl, rfl, false, rfl, ?_⟩
        have kp6 := LamX.ExtN.trans kp5 e6.k
        have hH6 := hH.ext e6.k
        refine ⟨_, rfl, sp, xs, 1, rfl, sq_kp kp6 hS2, h63, by decide, fun H7 s x7 e7 hn7 hs7 => ?_⟩
        have hD6 := hD2.kp kp6
        have ok6 := hD6.ok
        obtain ⟨r6, nm6, ht6, _, _⟩ := hD6.ex
        have s0 := ok6.s0
        have s1 := ok6.s1
        refine ⟨_, rfl, tt, _, 0, _, rfl, rfl, Or.inl (Or.inl (e7 _ _ htt)), rfl, _, rfl, _, rfl, t, _, 3, _, rfl, rfl, Or.inl (Or.inl (e7 _ _ ht6)), rfl, (show 3 ≤ sizeLine by decide), fun L3 hL3 => ⟨_, rfl, s, 3, x7, rfl, by decide, by decide, same_new hL3 _ _ hs7, fun d3 x3 d30 d31 => ?_⟩⟩
        have nLs : L3 ≠ s := fun z => by rw [z, hs7] at hL3; cases hL3
        have hm : ∃ m : Int, atI [V.int 1, V.int 4, V.int D.sc] d3 = some (.int m) ∧ 0 < m ∧ m < 2 ^ 200 := by
          have h9 : d3 = 0 ∨ d3 = 1 ∨ d3 = 2 := by omega
          rcases h9 with e | e | e <;> rw [e]
          · exact ⟨_, rfl, by decide, by decide⟩
          · exact ⟨_, rfl, by decide, by decide⟩
          · exact ⟨_, rfl, s0, by omega⟩
        obtain ⟨m, hm, m0, m1⟩ := hm
        refine ⟨L3, _, d3, _, rfl, rfl, Or.inl (Or.inl (by rw [upd_ne nLs]; exact upd_same)), hm, s, m, x3, rfl, m0, m1, upd_same, fun d8 x8 d80 d81 => ⟨_, _, rfl, rfl, ?_⟩⟩
        have hs8 : (upd (upd (upd H7 L3 (.lst [V.int 1, V.int 4, V.int D.sc])) s (.lst [.int x3])) s (.lst [.int x8])) s = some (.lst [.int x8]) := upd_same
        have e8 : Same H6 (hid (upd (upd (upd H7 L3 (.lst [V.int 1, V.int 4, V.int D.sc])) s (.lst [.int x3])) s (.lst [.int x8])) s) := by
          rw [hid_upd, hid_upd]
          exact hid_same_of (Evl.Ex.trans e7 (same_new hL3)) hn7
        revert hs8 e8
        generalize (upd (upd (upd H7 L3 (.lst [V.int 1, V.int 4, V.int D.sc])) s (.lst [.int x3])) s (.lst [.int x8])) = H8
        intro hs8 e8
        have hH8 := hH6.same e8
        have tb8 := t6.same e8
        have hcan8 : ∃ rows, IsRows dueLe W.cl W.n rows ∧ Can W.rin (some (l + d8)) W.last W.time rows := by
          obtain ⟨rows, z1, z2⟩ := hcan
          exact ⟨rows, z1, z2.le (by omega)⟩
        clear hcan htt hm hL3 e7 hs7 hn7 kp6 kp5 tb5 hH6 h1 hpw t6 d80 d81 d30 d31 hH
        refine fun dd hdd => ?_
        have e9 : Same H8 (upd H8 dd (.dK [])) := same_new hdd
        have hdd9 : (upd H8 dd (.dK [])) dd = some (.dK []) := upd_same
        have memo : ∀ {H' : Hp} (kv : List (Key × V)), Same H8 H' → Same H8 (upd H' dd (.dK kv)) := fun kv e => same_mut e hdd
        generalize upd H8 dd (.dK []) = H9 at e9 hdd9 ⊢
        have hA8 : HsAt G H8 h pp W rws np := hH8.of_hid
        obtain ⟨dx8, _, _, _, h8, _⟩ := id hA8.ex
        refine ⟨_, rfl, h, dx8, _, rfl, e9 _ _ h8, hf_no (by decide +kernel), h, pp, W, rws, np, rfl, hA8.same e9, fun pw2 hpw2 => ?_⟩
        obtain ⟨dxw, ls, tsw, d, cs, O⟩ := hpw2.open_
        refine ⟨pw2, dxw, _, rfl, O.at_, wf_no (by decide +kernel), pw2, W, rfl, hpw2, fun H10 b ys e10 hys hsrt hb => ⟨b, rfl, ⟨_, Or.inl (Or.inl hb)⟩, ?_⟩⟩
        clear O hpw2
        have nys : ys.Nodup := hys.nodup_iff.mpr okW.nd
        have lys : ys.length = W.cl.length := by rw [hys.length_eq, List.length_map]
        refine for_it (walk_list (xs := ys.map V.str)) (fun i σ' H' => (∃ y9, σ' = [some (.ref sp), some (.ref t), some (.ref a), some (.ref h), some (.ref u), some (.ref tt), some (.ref s), some (.int (l + d8)), some (.ref dd), y9, none, none, none, y13, y14, y15, none, y17, none, none, none]) ∧ Same H8 H' ∧ H' b = some (.lst (ys.map V.str)) ∧ H' dd = some (.dK (dv W.cl (ys.take i)))) ⟨⟨_, rfl⟩, Evl.Ex.trans e9 e10, hb, e10 _ _ hdd9⟩ (fun i σ' H' _ z => Or.inl (Or.inl z.2.2.1)) ?_ ?_
        · rintro i x _ H11 H12 hi ⟨⟨y9, rfl⟩, e11, hb11, hd11⟩ ⟨rfl, hx⟩
          rw [List.getElem?_map] at hx
          obtain ⟨z, hz, rfl⟩ := Option.map_eq_some_iff.mp hx
          have hzm : z ∈ W.cl.map (·.name) := hys.mem_iff.mp (List.mem_of_getElem? hz)
          have htk : ys.take (i + 1) = ys.take i ++ [z] := by rw [List.take_add_one, hz]; rfl
          have nin : z ∉ ys.take i := fun m => by
            have n2 : (ys.take (i + 1)).Nodup := nys.sublist (List.take_sublist _ _)
            rw [htk, List.nodup_append] at n2
            exact n2.2.2 z m z (List.mem_singleton.mpr rfl) rfl
          refine ⟨_, rfl, h, dx8, _, rfl, e11 _ _ h8, hf_no (by decide +kernel), h, pp, W, rws, np, rfl, hA8.same e11, fun pw3 hpw3 => ?_⟩
          obtain ⟨dxw3, ls3, tsw3, d3', cs3, O3⟩ := hpw3.open_
          refine ⟨pw3, dxw3, _, rfl, O3.at_, wf_no (by decide +kernel), _, rfl, pw3, W, z, rfl, hpw3, fun c t' hc hn hat => ?_, fun w => absurd hzm w⟩
          subst hn
          refine ⟨t', _, 3, _, rfl, rfl, Or.inl (Or.inl hat), rfl, _, rfl, _, rfl, dd, _, rfl, DPut.k (k := Sum.inr c.name) hd11 (small16' (by rw [dv_len, List.length_take]; omega)), ⟨_, rfl⟩, memo _ e11, ?_, ?_⟩
          · rw [upd_ne (fun e => by rw [e, hd11] at hb11; cases hb11)]
            exact hb11
          · rw [upd_same, putK_new _ (dv_no nin), htk]
            unfold dv
            rw [List.map_append, List.map_cons, List.map_nil, dueOf_mem okW.nd hc]
        · rintro _ H11 ⟨⟨y9, rfl⟩, e11, hb11, hd11⟩
          rw [List.length_map, List.take_length] at hd11
          try simp only [gName, List.set_cons_zero, List.set_cons_succ]
          have hA11 := hA8.same e11
          refine ⟨_, rfl, h, dx8, _, rfl, e11 _ _ h8, hf_no (by decide +kernel), h, pp, W, rws, np, rfl, hA11, by omega, r4, fun H12 ml ts e12 hml hts => ⟨ml, _, rfl, Or.inl (Or.inl (Or.inl hml)), ?_⟩⟩
          have lts : (ts.map V.ref).length = rws.length := by rw [List.length_map, hts.ln, List.length_map]
          have ldv : (((dv W.cl ys).length : Nat) : Int).toNat = W.cl.length := by rw [dv_len, lys]; rfl
          have ldv2 : (dv W.cl ys).length = W.cl.length := by rw [dv_len, lys]
          refine ⟨_, rfl, dd, _, rfl, e12 _ _ hd11, _, rfl, by omega, by omega, ?_⟩
          refine for_it walk_range (fun i σ' H' => (∃ y11 y16, σ' = [some (.ref sp), some (.ref t), some (.ref a), some (.ref h), some (.ref u), some (.ref tt), some (.ref s), some (.int (l + d8)), some (.ref dd), y9, some (.int ((ts.map V.ref).length : Nat)), y11, none, y13, y14, y15, y16, y17, none, none, none]) ∧ (∃ x, H' s = some (.lst [.int x])) ∧ H' dd = some (.dK (dv W.cl ys)) ∧ Tb G (hid H' s) ∧ ∃ (W' : Wk) (np' : Nat) (tr : List Tr), HsAt G (hid H' s) h pp W' (rws ++ tr.map rowT) np' ∧ np' ≤ np + i ∧ tr.length = i ∧ W'.cl.length + i = W.cl.length ∧ (tr.map (·.1) ++ W'.cl).Perm W.cl ∧ (∀ q ∈ tr, q.2.2 - q.1.due ≤ l + d8) ∧ ∃ rows, IsRows dueLe W'.cl W'.n rows ∧ Can W'.rin (some (l + d8)) W'.last W'.time rows)
            ⟨⟨_, _, rfl⟩, ⟨x8, e12 _ _ (e11 _ _ hs8)⟩, e12 _ _ hd11, tb8.same (hid_mono (Evl.Ex.trans e11 e12)), W, np, [], by rw [List.map_nil, List.append_nil]; exact hH8.same (hid_mono (Evl.Ex.trans e11 e12)), Nat.le_refl _, rfl, rfl, List.Perm.refl _, fun _ m => (nomatch m), hcan8⟩ (fun _ _ _ _ _ => True.intro) ?_ ?_
          · rintro i x _ H0 H13 hi ⟨⟨y11, y16, rfl⟩, ⟨x13, hs13⟩, hd13, tb13, W', np', tr, hH13, np2, ltr, lcl, hperm, hok13, rowsC, hr1, hc1⟩ ⟨rfl, rfl⟩
            have hi' : i < W.cl.length := by rw [← ldv]; exact hi
            have hA13 := hH13.of_hid
            obtain ⟨dx13, _, _, _, h13, hW13, _⟩ := id hA13.ex
            have okW' : W'.Ok := hW13.ok
            have hne : W'.cl ≠ [] := fun z => by
              rw [z] at lcl
              have : 0 + i = W.cl.length := lcl
              omega
            obtain ⟨cS, hcS⟩ := can_safe okW' hr1 hc1 hne
            refine ⟨_, rfl, h, dx13, _, rfl, h13, hf_no (by decide +kernel), h, pp, W', _, np', rfl, hA13, fun pw3 hpw3 => ⟨_, rfl, pw3, W', l + d8, rfl, hpw3, tb13.same hid_le, fun H14 nl zs e14 t14 hnl l10 hmem => ?_⟩⟩
            have hzs : (zs.map V.str).isEmpty = false := by
              have m := (hmem cS.name).mpr ⟨cS, hcS, rfl⟩
              cases zs with
              | nil => cases m
              | cons _ _ => rfl
            refine ⟨_, rfl, Nat.zero_le _, fun D4 hD4 => ⟨nl, D4, _, rfl, rfl, Or.inl (Or.inl (same_new hD4 _ _ hnl)), Or.inl (Or.inl upd_same), ?_⟩⟩
            rw [hzs]
            refine ⟨false, rfl, ?_⟩
            have k15 : Kp H13 (upd H14 D4 (.lst [])) := LamX.ExtN.trans e14.k (Kp.of (same_new hD4))
            have t15 : Tb G (upd H14 D4 (.lst [])) := t14.same (same_new hD4)
            have hnl15 := same_new (o := HO.lst []) hD4 _ _ hnl
            revert k15 t15 hnl15
            generalize upd H14 D4 (.lst []) = H15
            intro k15 t15 hnl15
            have hs15 := Kp.lst k15 hs13
            have hH15 := hH13.ext (hid_kp (s := s) k15)
            have tb15 := t15.hid hs15
            have hd15 := Kp.dK k15 hd13
            have lzs : 0 < zs.length := by
              cases zs with
              | nil => cases hzs
              | cons _ _ => exact Nat.succ_pos _
            have lzm : (zs.map V.str).length = zs.length := List.length_map ..
            refine ⟨_, rfl, h, dx13, _, rfl, Kp.ins k15 h13, hf_no (by decide +kernel), _, rfl, _, rfl, _, rfl, nl, _, rfl, Or.inl (Or.inl (Or.inl hnl15)), s, _, x13, rfl, by omega, by omega, hs15, fun d x' d0 d1 => ?_⟩
            obtain ⟨j, rfl⟩ := Int.eq_ofNat_of_zero_le d0
            have hj : j < zs.length := by omega
            have nls : nl ≠ s := fun e => by
              rw [e, hs15] at hnl15
              have z : [V.int x13] = zs.map V.str := by injection hnl15 with z; injection z
              cases zs with
              | nil => cases z
              | cons _ _ => injection z with z; cases z
            obtain ⟨c, hsc, hcn⟩ := (hmem zs[j]).mp (List.getElem_mem hj)
            have hcW := hsc.1
            refine ⟨nl, _, _, .str zs[j], rfl, rfl, Or.inl (Or.inl (by rw [upd_ne nls]; exact hnl15)), atI_nat (by rw [List.getElem?_map, List.getElem?_eq_getElem hj]; rfl), s, _, upd_same, ?_⟩
            rw [hid_upd]
            have lrow : (rws ++ tr.map rowT).length ≤ 1000 := by
              rw [List.length_append, List.length_map]
              omega
            refine ⟨h, pp, W', _, np', zs[j], rfl, hH15, by omega, lrow, fun c' hc' hn' H16 cl' hb16 hH16 hp16 hs16 => ?_, fun w => absurd (List.mem_map.mpr ⟨c, hcW, hcn⟩) w⟩
            obtain rfl : c' = c := one_of_name okW'.nd hc' hcW (hn'.trans hcn.symm)
            have lp : cl'.length + 1 = W'.cl.length := by
              have z1 := hp16.length_eq
              have z2 := (perm_pick okW'.nd hcW).length_eq
              rw [List.length_cons] at z2
              omega
            refine ⟨⟨_, _, rfl⟩, ⟨x', upd_same⟩, ?_, ?_, ⟨W'.n, W'.R, c'.hue, W'.time + W'.rin W'.last c'.hue + c'.len, cl'⟩, np' + 1, tr ++ [(c', W'.time + W'.rin W'.last c'.hue, W'.time + W'.rin W'.last c'.hue + c'.len)], ?_, by omega, by rw [List.length_append, ltr]; rfl, by show cl'.length + (i + 1) = _; omega, ?_, ?_, safe_next hsc rfl rfl rfl rfl hp16⟩
            · have nds : dd ≠ s := fun e => by rw [e, hs15] at hd15; cases hd15
              rw [upd_ne nds]
              obtain ⟨_, _, _, _, g1, _⟩ := hH15.ex
              obtain ⟨_, p1, _⟩ := hH15.past
              have hd15' : hid H15 s dd = some (.dK (dv W.cl ys)) := by rw [hid_ne nds]; exact hd15
              exact hb16 dd _ (fun e => by rw [e, g1] at hd15'; cases hd15') (fun e => by rw [e, p1] at hd15'; cases hd15') hd15'
            · rw [hid_upd_none hs16]
              exact tb15.hb hH15 hb16
            · rw [hid_upd_none hs16, List.map_append, ← List.append_assoc]
              exact hH16
            · rw [List.map_append, List.append_assoc]
              exact ((List.Perm.append_left _ ((hp16.cons c').trans (perm_pick okW'.nd hcW).symm))).trans hperm
            · intro q' hq'
              rcases List.mem_append.mp hq' with hq' | hq'
              · exact hok13 q' hq'
              · rw [List.mem_singleton.mp hq']
                exact okB_some.mp hsc.2.1
          · rintro _ H13 ⟨⟨y11, y16, rfl⟩, ⟨x13, hs13⟩, hd13, tb13, W', np', tr, hH13, np2, ltr, lcl, hperm, hok13, rowsC, hr1, hc1⟩
            try simp only [gName, List.set_cons_zero, List.set_cons_succ]
            rw [ldv] at np2 ltr lcl
            have hcl0 : W'.cl = [] := List.eq_nil_of_length_eq_zero (by omega)
            rw [hcl0, List.append_nil] at hperm
            have hA13 := hH13.of_hid
            obtain ⟨dx13, _, _, _, h13, hW13, _⟩ := id hA13.ex
            have lrow : (rws ++ tr.map rowT).length = rws.length + tr.length := by rw [List.length_append, List.length_map]
            refine ⟨_, rfl, h, dx13, _, rfl, h13, hf_no (by decide +kernel), h, pp, W', _, np', rfl, hA13, by omega, fun zs hz => ?_, fun H14 dl us e14 hdl hus => ⟨_, rfl, _, rfl, dl, _, rfl, Or.inl (Or.inl hdl), fun rl hrl => ?_⟩⟩
            · rcases List.mem_append.mp hz with hz | hz
              · exact r4 zs hz
              · obtain ⟨q', _, rfl⟩ := List.mem_map.mp hz
                rfl
            rw [List.map_append, rowT_take] at hus
            have lus : us.length = rws.length + tr.length := by rw [hus.ln, List.length_append, List.length_map, List.length_map]
            have hcut : cutV (us.map V.ref) (some ((ts.map V.ref).length : Nat)) none = (us.drop rws.length).map V.ref := by
              unfold cutV
              rw [HT.sIx_nat, HT.sIx_none, lts, List.length_map, Nat.min_eq_left (by omega), List.take_of_length_le (by rw [List.length_drop, List.length_map]; omega), List.map_drop]
            rw [hcut]
            have hvt : ∀ (j : Nat) (t' : Addr) (q' : Tr), (us.drop rws.length)[j]? = some t' → tr[j]? = some q' → H14 t' = some (.tup (rowS q')) := fun j t' q' h1 h2 => by
              rw [List.getElem?_drop] at h1
              refine hus.at_ _ t' _ h1 ?_
              rw [List.getElem?_append_right (by rw [List.length_map]; omega), List.length_map, Nat.add_sub_cancel_left, List.getElem?_map, h2]
              rfl
            have lvs : (us.drop rws.length).length = tr.length := by rw [List.length_drop]; omega
            clear hus hcut lus
            revert hvt lvs
            generalize us.drop rws.length = vs
            intro hvt lvs
            have e15 : Same H13 (upd H14 rl (.lst (vs.map V.ref))) := Evl.Ex.trans e14 (same_new hrl)
            have hrl15 : (upd H14 rl (.lst (vs.map V.ref))) rl = some (.lst (vs.map V.ref)) := upd_same
            have hvt15 : ∀ (j : Nat) (t' : Addr) (q' : Tr), vs[j]? = some t' → tr[j]? = some q' → (upd H14 rl (.lst (vs.map V.ref))) t' = some (.tup (rowS q')) := fun j t' q' h1 h2 => same_new hrl _ _ (hvt j t' q' h1 h2)
            revert e15 hrl15 hvt15
            clear hvt hrl
            generalize upd H14 rl (.lst (vs.map V.ref)) = H15
            intro e15 hrl15 hvt15
            have hA15 := hA13.same e15
            refine ⟨_, rfl, h, dx13, _, rfl, e15 _ _ h13, hf_no (by decide +kernel), h, pp, W', _, np', rfl, hA15, fun pw4 hpw4 => ?_⟩
            obtain ⟨dxw4, ls4, tsw4, d4, cs4, O4⟩ := hpw4.open_
            refine ⟨pw4, dxw4, _, rfl, O4.at_, wf_no (by decide +kernel), pw4, W', rfl, hpw4, fun H16 nb ns e16 hns hs16 hnb => ⟨Nat.zero_le _, fun D5 hD5 => ⟨nb, D5, _, rfl, rfl, Or.inl (Or.inl (same_new hD5 _ _ hnb)), Or.inl (Or.inl upd_same), ?_⟩⟩⟩
            have hns0 : ns = [] := by
              have z := hns.length_eq
              rw [hcl0] at z
              exact List.eq_nil_of_length_eq_zero z
            rw [hns0]
            refine ⟨false, rfl, ?_⟩
            clear hpw4 O4
            have e17 : Same H15 (upd H16 D5 (.lst [])) := Evl.Ex.trans e16 (same_new hD5)
            revert e17
            generalize upd H16 D5 (.lst []) = H17
            intro e17
            have hrl17 := e17 _ _ hrl15
            have hvt17 : ∀ (j : Nat) (t' : Addr) (q' : Tr), vs[j]? = some t' → tr[j]? = some q' → H17 t' = some (.tup (rowS q')) := fun j t' q' h1 h2 => e17 _ _ (hvt15 j t' q' h1 h2)
            have hd17 := e17 _ _ (e15 _ _ hd13)
            have lvm : (vs.map V.ref).length = tr.length := by rw [List.length_map, lvs]
            have hnames : (tr.map fun q' => q'.1.name).Perm (W.cl.map (·.name)) := by
              have z := hperm.map (fun c : Cloth => c.name)
              rw [List.map_map] at z
              exact z
            refine ⟨_, rfl, rl, rfl, ⟨_, Or.inl (Or.inl hrl17)⟩, fun D6 hD6 => lc_it (walk_list (xs := vs.map V.ref)) (fun i H' => Same H17 H' ∧ H' D6 = some (.lst (((tr.take i).map fun q' => q'.1.name).map V.str))) ⟨same_new hD6, upd_same⟩ (fun i H' _ z => Or.inl (Or.inl (z.1 _ _ hrl17))) ?_ ?_⟩
            · rintro i x H18 H19 hi ⟨e18, hD18⟩ ⟨rfl, hx⟩
              rw [List.getElem?_map] at hx
              obtain ⟨t', ht', rfl⟩ := Option.map_eq_some_iff.mp hx
              have hi' : i < tr.length := by rw [← lvm]; exact hi
              have gq : tr[i]? = some tr[i] := List.getElem?_eq_getElem hi'
              have htk : tr.take (i + 1) = tr.take i ++ [tr[i]] := by rw [List.take_add_one, gq]; rfl
              have hrow := e18 _ _ (hvt17 i t' _ ht' gq)
              refine ⟨rfl, _, rfl, t', _, 0, _, rfl, rfl, Or.inl (Or.inl hrow), rfl, _, hD18, by rw [List.length_map, List.length_map, List.length_take]; exact small16' (by omega), same_mut e18 hD6, ?_⟩
              rw [upd_same, htk, List.map_append, List.map_append]
              rfl
            rintro H18 ⟨e18, hD18⟩
            rw [lvm, List.take_length] at hD18
            refine ⟨D6, _, rfl, Or.inl (Or.inl hD18), by rw [List.length_map]; omega, fun ys1 p1 hp1 hs1 hn1 => ?_⟩
            have e19 : Same H17 (upd H18 p1 (.lst (ys1.map V.str))) := Evl.Ex.trans e18 (same_new hn1)
            have hp19 : (upd H18 p1 (.lst (ys1.map V.str))) p1 = some (.lst (ys1.map V.str)) := upd_same
            revert e19 hp19
            clear hn1
            generalize upd H18 p1 (.lst (ys1.map V.str)) = H19
            intro e19 hp19
            have hd19 := e19 _ _ hd17
            refine ⟨_, rfl, Or.inr (Or.inr (Or.inl ⟨rfl, Or.inl ⟨_, hd19⟩⟩)), dd, _, rfl, rfl, Or.inl hd19, fun v hv => ⟨v, dd, _, ys, rfl, upd_same, Or.inl (same_new hv _ _ hd19), dv_keys W.cl ys, by omega, fun ys2 p2 hp2 hs2 hn2 => ?_⟩⟩
            have e20 : Same H19 (upd (upd H19 v (viewO v dd)) p2 (.lst (ys2.map V.str))) := Evl.Ex.trans (same_new hv) (same_new hn2)
            have hp20 : (upd (upd H19 v (viewO v dd)) p2 (.lst (ys2.map V.str))) p2 = some (.lst (ys2.map V.str)) := upd_same
            revert e20 hp20
            clear hn2 hv
            generalize upd (upd H19 v (viewO v dd)) p2 (.lst (ys2.map V.str)) = H20
            intro e20 hp20
            obtain rfl : ys1 = ys2 := sorted_one ((hp1.trans hnames).trans (hp2.trans hys).symm) hs1 hs2
            refine ne_strs (e20 _ _ hp19) hp20 (fun y hy => ?_) ⟨false, rfl, ?_⟩
            · obtain ⟨c, hc, rfl⟩ := List.mem_map.mp ((hp1.trans hnames).mem_iff.mp hy)
              exact (okW.good c hc).1
            have hrl20 := e20 _ _ (e19 _ _ hrl17)
            have hd20 := e20 _ _ hd19
            have hvt20 : ∀ (j : Nat) (t' : Addr) (q' : Tr), vs[j]? = some t' → tr[j]? = some q' → H20 t' = some (.tup (rowS q')) := fun j t' q' h1 h2 => e20 _ _ (e19 _ _ (hvt17 j t' q' h1 h2))
            refine ⟨_, rfl, rl, rfl, ⟨_, Or.inl (Or.inl hrl20)⟩, fun D7 hD7 => lc_it (walk_list (xs := vs.map V.ref)) (fun i H' => Same H20 H' ∧ H' D7 = some (.lst ((List.replicate i true).map V.bl))) ⟨same_new hD7, upd_same⟩ (fun i H' _ z => Or.inl (Or.inl (z.1 _ _ hrl20))) ?_ ?_⟩
            · rintro i x H21 H22 hi ⟨e21, hD21⟩ ⟨rfl, hx⟩
              rw [List.getElem?_map] at hx
              obtain ⟨t', ht', rfl⟩ := Option.map_eq_some_iff.mp hx
              have hi' : i < tr.length := by rw [← lvm]; exact hi
              have gq : tr[i]? = some tr[i] := List.getElem?_eq_getElem hi'
              have hqm := List.getElem_mem hi'
              have hrow := e21 _ _ (hvt20 i t' _ ht' gq)
              generalize tr[i] = q' at gq hrow hqm
              have hcW : q'.1 ∈ W.cl := hperm.mem_iff.mp (List.mem_map.mpr ⟨q', hqm, rfl⟩)
              have hyy : q'.1.name ∈ ys := hys.mem_iff.mpr (List.mem_map.mpr ⟨_, hcW, rfl⟩)
              have G9 : DGet H22 dd (.str q'.1.name) (some (.int q'.1.due)) := by
                have g := DGet.k (k := Sum.inr q'.1.name) (e21 _ _ hd20)
                rw [dv_val hyy, dueOf_mem okW.nd hcW] at g
                exact g
              have hle := hok13 q' hqm
              refine ⟨t', _, rfl, Or.inl (Or.inl hrow), rfl, _, _, rfl, _, _, rfl, _, _, rfl, rfl, rfl, _, rfl, _, rfl, _, rfl, dd, _, rfl, G9, _, _, rfl, rfl, _, rfl, _, _, rfl, rfl, _, hD21, by rw [List.length_map, List.length_replicate]; exact small16' (by omega), same_mut e21 hD7, ?_⟩
              rw [upd_same, List.replicate_succ', List.map_append]
              show some (HO.lst (_ ++ [V.bl (decide (q'.2.2 - q'.1.due ≤ l + d8))])) = _
              rw [decide_eq_true hle]
              rfl
            rintro H21 ⟨e21, hD21⟩
            refine ⟨D7, _, rfl, Or.inl (Or.inl hD21), ?_⟩
            have hall : (List.replicate (vs.map V.ref).length true).all id = true := by
              rw [List.all_eq_true]
              exact fun b hb => List.eq_of_mem_replicate hb
            rw [hall]
            exact q _⟩
end Rw82
set_option maxHeartbeats 0
/-! The head: the defs as data, what is looked at, the top's run. -/
namespace Rw82
open PySem PySem.Spec PyProof.Rows L2
def dTwice___init__ : He.DefD := ⟨("Twice", some "__init__"), "__init__", "Twice.__init__", defArgs sTwice___init__, defBody sTwice___init__, defScope sTwice___init__, [], []⟩
def ddone_rows : He.DefD := ⟨("done_rows", none), "done_rows", "done_rows", defArgs sdone_rows, defBody sdone_rows, defScope sdone_rows, [], []⟩
def dlateness : He.DefD := ⟨("lateness", none), "lateness", "lateness", defArgs slateness, defBody slateness, defScope slateness, [], []⟩
def dkeeps : He.DefD := ⟨("keeps", none), "keeps", "keeps", defArgs skeeps, defBody skeeps, defScope skeeps, [], []⟩
def dis_whole : He.DefD := ⟨("is_whole", none), "is_whole", "is_whole", defArgs sis_whole, defBody sis_whole, defScope sis_whole, [], []⟩
def dis_name : He.DefD := ⟨("is_name", none), "is_name", "is_name", defArgs sis_name, defBody sis_name, defScope sis_name, [], []⟩
def dlook_at_rinses : He.DefD := ⟨("look_at_rinses", none), "look_at_rinses", "look_at_rinses", defArgs slook_at_rinses, defBody slook_at_rinses, defScope slook_at_rinses, [], []⟩
def dsums_and_ways : He.DefD := ⟨("sums_and_ways", none), "sums_and_ways", "sums_and_ways", defArgs ssums_and_ways, defBody ssums_and_ways, defScope ssums_and_ways, [], []⟩
def dleast_rinses : He.DefD := ⟨("least_rinses", none), "least_rinses", "least_rinses", defArgs sleast_rinses, defBody sleast_rinses, defScope sleast_rinses, [], []⟩
def dis_cloth : He.DefD := ⟨("is_cloth", none), "is_cloth", "is_cloth", defArgs sis_cloth, defBody sis_cloth, defScope sis_cloth, [], []⟩
def dWorks___init__ : He.DefD := ⟨("Works", some "__init__"), "__init__", "Works.__init__", defArgs sWorks___init__, defBody sWorks___init__, defScope sWorks___init__, [.non, .int 0], []⟩
def dWorks_hues : He.DefD := ⟨("Works", some "hues"), "hues", "Works.hues", defArgs sWorks_hues, defBody sWorks_hues, defScope sWorks_hues, [], []⟩
def dWorks_rinses : He.DefD := ⟨("Works", some "rinses"), "rinses", "Works.rinses", defArgs sWorks_rinses, defBody sWorks_rinses, defScope sWorks_rinses, [], []⟩
def dWorks_rinse : He.DefD := ⟨("Works", some "rinse"), "rinse", "Works.rinse", defArgs sWorks_rinse, defBody sWorks_rinse, defScope sWorks_rinse, [], []⟩
def dWorks_start : He.DefD := ⟨("Works", some "start"), "start", "Works.start", defArgs sWorks_start, defBody sWorks_start, defScope sWorks_start, [], []⟩
def dWorks_names : He.DefD := ⟨("Works", some "names"), "names", "Works.names", defArgs sWorks_names, defBody sWorks_names, defScope sWorks_names, [], []⟩
def dWorks_cloth : He.DefD := ⟨("Works", some "cloth"), "cloth", "Works.cloth", defArgs sWorks_cloth, defBody sWorks_cloth, defScope sWorks_cloth, [], []⟩
def dWorks_of_hue : He.DefD := ⟨("Works", some "of_hue"), "of_hue", "Works.of_hue", defArgs sWorks_of_hue, defBody sWorks_of_hue, defScope sWorks_of_hue, [], []⟩
def dWorks_due_row : He.DefD := ⟨("Works", some "due_row"), "due_row", "Works.due_row", defArgs sWorks_due_row, defBody sWorks_due_row, defScope sWorks_due_row, [], []⟩
def dWorks_want : He.DefD := ⟨("Works", some "want"), "want", "Works.want", defArgs sWorks_want, defBody sWorks_want, defScope sWorks_want, [], []⟩
def dWorks_put : He.DefD := ⟨("Works", some "put"), "put", "Works.put", defArgs sWorks_put, defBody sWorks_put, defScope sWorks_put, [], []⟩
def dWorks_without : He.DefD := ⟨("Works", some "without"), "without", "Works.without", defArgs sWorks_without, defBody sWorks_without, defScope sWorks_without, [], []⟩
def dWorks_only : He.DefD := ⟨("Works", some "only"), "only", "Works.only", defArgs sWorks_only, defBody sWorks_only, defScope sWorks_only, [], []⟩
def dWorks_begun : He.DefD := ⟨("Works", some "begun"), "begun", "Works.begun", defArgs sWorks_begun, defBody sWorks_begun, defScope sWorks_begun, [], []⟩
def dHouse___init__ : He.DefD := ⟨("House", some "__init__"), "__init__", "House.__init__", defArgs sHouse___init__, defBody sHouse___init__, defScope sHouse___init__, [.non, .int 0], []⟩
def dHouse_step : He.DefD := ⟨("House", some "step"), "step", "House.step", defArgs sHouse_step, defBody sHouse_step, defScope sHouse_step, [], []⟩
def dHouse_put : He.DefD := ⟨("House", some "put"), "put", "House.put", defArgs sHouse_put, defBody sHouse_put, defScope sHouse_put, [], []⟩
def dHouse_drop : He.DefD := ⟨("House", some "drop"), "drop", "House.drop", defArgs sHouse_drop, defBody sHouse_drop, defScope sHouse_drop, [], []⟩
def dHouse_work : He.DefD := ⟨("House", some "work"), "work", "House.work", defArgs sHouse_work, defBody sHouse_work, defScope sHouse_work, [], []⟩
def dHouse_wait : He.DefD := ⟨("House", some "wait"), "wait", "House.wait", defArgs sHouse_wait, defBody sHouse_wait, defScope sHouse_wait, [], []⟩
def dHouse_works : He.DefD := ⟨("House", some "works"), "works", "House.works", defArgs sHouse_works, defBody sHouse_works, defScope sHouse_works, [], []⟩
def dHouse_done : He.DefD := ⟨("House", some "done"), "done", "House.done", defArgs sHouse_done, defBody sHouse_done, defScope sHouse_done, [], []⟩
def ddue_cloths : He.DefD := ⟨("due_cloths", none), "due_cloths", "due_cloths", defArgs sdue_cloths, defBody sdue_cloths, defScope sdue_cloths, [], []⟩
def dstart_state : He.DefD := ⟨("start_state", none), "start_state", "start_state", defArgs sstart_state, defBody sstart_state, defScope sstart_state, [], []⟩
def dgoings : He.DefD := ⟨("goings", none), "goings", "goings", defArgs sgoings, defBody sgoings, defScope sgoings, [], []⟩
def dbreaks : He.DefD := ⟨("breaks", none), "breaks", "breaks", defArgs sbreaks, defBody sbreaks, defScope sbreaks, [], []⟩
def dsearched : He.DefD := ⟨("searched", none), "searched", "searched", defArgs ssearched, defBody ssearched, defScope ssearched, [], []⟩
def dtable_of : He.DefD := ⟨("table_of", none), "table_of", "table_of", defArgs stable_of, defBody stable_of, defScope stable_of, [], []⟩
def dis_done : He.DefD := ⟨("is_done", none), "is_done", "is_done", defArgs sis_done, defBody sis_done, defScope sis_done, [], []⟩
def dplan_to : He.DefD := ⟨("plan_to", none), "plan_to", "plan_to", defArgs splan_to, defBody splan_to, defScope splan_to, [], []⟩
def dsoonest_done : He.DefD := ⟨("soonest_done", none), "soonest_done", "soonest_done", defArgs ssoonest_done, defBody ssoonest_done, defScope ssoonest_done, [], []⟩
def dplan_for : He.DefD := ⟨("plan_for", none), "plan_for", "plan_for", defArgs splan_for, defBody splan_for, defScope splan_for, [], []⟩
def dsafe : He.DefD := ⟨("safe", none), "safe", "safe", defArgs ssafe, defBody ssafe, defScope ssafe, [], []⟩
def dleast_late : He.DefD := ⟨("least_late", none), "least_late", "least_late", defArgs sleast_late, defBody sleast_late, defScope sleast_late, [], []⟩
def d_law_mixed : He.DefD := ⟨("_law_mixed", none), "_law_mixed", "_law_mixed", defArgs s_law_mixed, defBody s_law_mixed, defScope s_law_mixed, [], []⟩
def d_law_stream : He.DefD := ⟨("_law_stream", none), "_law_stream", "_law_stream", defArgs s_law_stream, defBody s_law_stream, defScope s_law_stream, [], []⟩
def d_law_take : He.DefD := ⟨("_law_take", none), "_law_take", "_law_take", defArgs s_law_take, defBody s_law_take, defScope s_law_take, [], []⟩
def d_law_cell_stream : He.DefD := ⟨("_law_cell_stream", none), "_law_cell_stream", "_law_cell_stream", defArgs s_law_cell_stream, defBody s_law_cell_stream, defScope s_law_cell_stream, [], []⟩
def d_law_rinse : He.DefD := ⟨("_law_rinse", none), "_law_rinse", "_law_rinse", defArgs s_law_rinse, defBody s_law_rinse, defScope s_law_rinse, [], []⟩
def d_law_house : He.DefD := ⟨("_law_house", none), "_law_house", "_law_house", defArgs s_law_house, defBody s_law_house, defScope s_law_house, [], []⟩
def d_law_cloth : He.DefD := ⟨("_law_cloth", none), "_law_cloth", "_law_cloth", defArgs s_law_cloth, defBody s_law_cloth, defScope s_law_cloth, [], []⟩
def d_law_least : He.DefD := ⟨("_law_least", none), "_law_least", "_law_least", defArgs s_law_least, defBody s_law_least, defScope s_law_least, [], []⟩
def d_law_end : He.DefD := ⟨("_law_end", none), "_law_end", "_law_end", defArgs s_law_end, defBody s_law_end, defScope s_law_end, [], []⟩
def d_law_deed : He.DefD := ⟨("_law_deed", none), "_law_deed", "_law_deed", defArgs s_law_deed, defBody s_law_deed, defScope s_law_deed, [], []⟩
def d_law_goes : He.DefD := ⟨("_law_goes", none), "_law_goes", "_law_goes", defArgs s_law_goes, defBody s_law_goes, defScope s_law_goes, [], []⟩
def d_law_do : He.DefD := ⟨("_law_do", none), "_law_do", "_law_do", defArgs s_law_do, defBody s_law_do, defScope s_law_do, [], []⟩
def d_law_try : He.DefD := ⟨("_law_try", none), "_law_try", "_law_try", defArgs s_law_try, defBody s_law_try, defScope s_law_try, [], []⟩
def dlaw : He.DefD := ⟨("law", none), "law", "law", defArgs slaw, defBody slaw, defScope slaw, [], []⟩
def fn1 : List He.DefD := [dTwice___init__, ddone_rows, dlateness, dkeeps, dis_whole, dis_name, dlook_at_rinses, dsums_and_ways, dleast_rinses, dis_cloth, dWorks___init__, dWorks_hues, dWorks_rinses, dWorks_rinse, dWorks_start, dWorks_names, dWorks_cloth, dWorks_of_hue, dWorks_due_row, dWorks_want, dWorks_put, dWorks_without, dWorks_only, dWorks_begun, dHouse___init__, dHouse_step, dHouse_put, dHouse_drop, dHouse_work, dHouse_wait]
def fn2 : List He.DefD := [dHouse_works, dHouse_done, ddue_cloths, dstart_state, dgoings, dbreaks, dsearched, dtable_of, dis_done, dplan_to, dsoonest_done, dplan_for, dsafe, dleast_late, d_law_mixed, d_law_stream, d_law_take, d_law_cell_stream, d_law_rinse, d_law_house, d_law_cloth, d_law_least, d_law_end, d_law_deed, d_law_goes, d_law_do, d_law_try, dlaw]
def fn : List He.DefD := fn1 ++ fn2
def fa1 : List He.Fa := [.glo "done_rows", .glo "lateness", .glo "keeps", .glo "is_whole", .glo "is_name", .glo "look_at_rinses", .glo "sums_and_ways", .glo "least_rinses", .glo "is_cloth", .glo "due_cloths", .glo "start_state", .glo "goings", .glo "breaks", .glo "searched", .glo "table_of", .glo "is_done", .glo "plan_to", .glo "soonest_done", .glo "plan_for", .glo "safe", .glo "least_late", .glo "_law_mixed", .glo "_law_stream", .glo "_law_take", .glo "_law_cell_stream", .glo "_law_rinse", .glo "_law_house", .glo "_law_cloth", .glo "_law_least", .glo "_law_end"]
def fa2 : List He.Fa := [.glo "_law_deed", .glo "_law_goes", .glo "_law_do", .glo "_law_try", .glo "law", .free "len", .free "range", .free "enumerate", .free "zip", .free "isinstance", .free "all", .free "max", .free "min", .free "sorted", .free "list", .free "tuple", .free "dict", .free "sum", .free "int", .free "bool", .free "str", .str "LETTERS" "abcdefghijklmnopqrstuvwxyz", .int "LONGEST" 8, .int "MOST_HUES" 4, .int "MOST_CLOTHS" 10, .int "FRESH" (-1), .glo "Works", .glo "House", .glo "RinseError", .glo "Twice"]
def fa3 : List He.Fa := [.glo "NoName", .glo "NoCloth", .glo "NoTime", .exc "NoName", .exm "NoName" "RinseError" true, .exc "NoCloth", .exm "NoCloth" "RinseError" true, .exc "NoTime", .exm "NoTime" "RinseError" true, .exm "Twice" "RinseError" true, .meth "Twice" "__init__", .noat "Twice" "name", .cls "Works", .mkr "Works", .cls "House", .mkr "House", .meth "Works" "hues", .meth "Works" "rinses", .meth "Works" "rinse", .meth "Works" "start", .meth "Works" "names", .meth "Works" "cloth", .meth "Works" "of_hue", .meth "Works" "due_row", .meth "Works" "want", .meth "Works" "put", .meth "Works" "without", .meth "Works" "only", .meth "Works" "begun", .meth "House" "step"]
def fa4 : List He.Fa := [.meth "House" "put", .meth "House" "drop", .meth "House" "work", .meth "House" "wait", .meth "House" "works", .meth "House" "done", .noat "Works" "least", .noat "Works" "told", .noat "Works" "last", .noat "Works" "time", .noat "Works" "waiting", .noat "House" "now", .noat "House" "rows", .noat "House" "past"]
def fa : List He.Fa := fa1 ++ fa2 ++ fa3 ++ fa4
/-- RinseError as a thing that is read, Twice as an own exception -/
def oexB (K : PySem.W.Frag) (C : Addr) : Bool := match K.lookup C with
  | some ⟨.type "type", _, .cls cd, sl⟩ => (match cd.mro, sl.toList with
    | .ref C' :: bm, [_, _, _, _, some (.builtin n), _] => C' == C && n == "ValueError.__new__" && !cd.hasDel && cd.hasDict && PySem.HandSPX.refsVE bm
    | _, _ => false)
  | _ => false
def exB (K : PySem.W.Frag) : Bool :=
  decide (PySem.W.specialIn K (.ref (He.ga K "RinseError")) "__getattribute__" = some (some (.builtin "type.__getattribute__"))) && (decide (PySem.W.typeIn K (.ref (He.ga K "RinseError")) = some (.type "type")) && (PySem.W.readsIn K (He.ga K "RinseError") (.type "type") && ((match PySem.W.findCls K (.ref (He.ga K "RinseError")) (.type "type") "__init__" with
    | some (.val (.builtin n)) => n == "ValueError.__init__"
    | _ => false) && (oexB K (He.ga K "Twice") && (decide (PySem.W.findIn K (.ref (He.ga K "Twice")) "__setattr__" = some (some (.builtin "object.__setattr__"))) && (decide (PySem.W.subIn K (.ref (He.ga K "Twice")) (.type "BaseException") = some true) && (decide (PySem.W.typeIn K (.ref (He.ga K "Twice")) = some (.type "type")) && (PySem.W.keepIn K (.ref (He.ga K "Twice")) && decide (PySem.W.typeIn K (.ref (He.ma K (He.ga K "Twice") "__init__")) = some (.type "function"))))))))))
def loose1 : List Str := ["done_rows", "lateness", "keeps", "is_whole", "is_name", "look_at_rinses", "sums_and_ways", "least_rinses", "is_cloth", "due_cloths", "start_state", "goings", "breaks", "searched", "table_of", "is_done", "plan_to", "soonest_done", "plan_for", "safe", "least_late", "_law_mixed", "_law_stream", "_law_take", "_law_cell_stream", "_law_rinse", "_law_house", "_law_cloth", "_law_least", "_law_end"]
def loose2 : List Str := ["_law_deed", "_law_goes", "_law_do", "_law_try", "LETTERS", "LONGEST", "MOST_HUES", "MOST_CLOTHS", "FRESH", "Works", "House", "RinseError", "NoRinses", "NoStart", "TooMany", "NoCloth", "Twice", "NoName", "NoPlan", "NoTime", "NothingDone", "_wall"]
def loose : List Str := loose1 ++ loose2
def tf : List He.Defn := [("Works", some "due_row")]
abbrev dueT (K : PySem.W.Frag) : Addr × Addr := He.cT K ("Works", some "due_row")
abbrev R : PySem.W.OpenRow := PySem.W.OpenLaw.row PySem.Challenge.rw_rinsework_k82_whole_safe_ones_worked
/-- what is looked at: what the names reach, and the interpreter's statics -/
def KF (g : Addr → Option Obj) : PySem.W.Frag := He.frT g (He.asD g 4 ++ [cStatics])
def obsK (g : Addr → Option Obj) (K : PySem.W.Frag) : He.AlD × Bool := (He.obsD fa fn K, exB K && He.tabsB g tf K)
/-- what the end leans on -/
structure Told (h : Heap) (K : PySem.W.Frag) : Prop where
  d : He.SaysD fa fn K
  x : exB K = true
  hd : PySem.W.codeHdIn K (dueT K).1 (dueT K).2 = true
  out : K.lookup (dueT K).2 = none
  emp : h.get? (dueT K).2 = some { cls := .none, data := .fields #[] }
theorem told_of {h : Heap} (e : obsK h.get? (KF h.get?) = (He.valD fn, true)) : Told h (KF h.get?) := by
  have z := congrArg Prod.snd e
  obtain ⟨z1, z2⟩ := He.ba (show (exB (KF h.get?) && He.tabsB h.get? tf (KF h.get?)) = true from z)
  obtain ⟨z3, z4⟩ := He.ba (List.all_eq_true.mp z2 ("Works", some "due_row") (List.mem_singleton.mpr rfl))
  cases q : h.get? (dueT (KF h.get?)).2 with
  | none =>
    exfalso
    have z5 : (match h.get? (dueT (KF h.get?)).2 with
      | some o => He.emptyTab o
      | none => false) = true := z4
    rw [q] at z5
    cases z5
  | some o =>
    have z5 : (match h.get? (dueT (KF h.get?)).2 with
      | some o => He.emptyTab o
      | none => false) = true := z4
    rw [q] at z5
    exact ⟨congrArg Prod.fst e, z1, z3, He.frT_none q z5, by rw [q, He.emptyTab_eq z5]⟩
def hk : PySem.W.Hook := ⟨He.AlD × Bool, fun s => obsK s.heap.get? (KF s.heap.get?), fun _ => (He.valD fn, true), fun _ h => ∃ K : PySem.W.Frag, K.In h ∧ Told h K, fun _ _ e => ⟨_, He.frT_in, told_of e⟩, fun _ _ _ ⟨K, hK, c⟩ k => ⟨K, PySem.W.Frag.In.keeps hK k, c.d, c.x, c.hd, c.out, k _ _ c.emp⟩⟩
def ob (s : PySem.W.SharedT) : He.AlD × Bool := obsK (HandSHeadRun.getT s) (KF (HandSHeadRun.getT s))
theorem ob_eq (s : PySem.W.SharedT) : ob s = hk.obs s.abs := by
  show obsK (HandSHeadRun.getT s) (KF (HandSHeadRun.getT s)) = obsK s.abs.heap.get? (KF s.abs.heap.get?)
  rw [show HandSHeadRun.getT s = s.abs.heap.get? from funext (HandSHeadRun.getT_eq s)]
theorem run (w : World) : HandSHeadRun.RunEq R (PySem.W.view R.prog [62]) hk ob 8000 loose w := by
  intro os
  kernel_rfl
end Rw82
set_option maxHeartbeats 4000000
/-! The end: every def by what the head tells of it. -/
namespace Rw82
open PySem PySem.Spec PyProof.Rows L2
abbrev adOf (K : PySem.W.Frag) : Ad := ⟨K, He.ga K "Works", He.ga K "House", He.ga K "RinseError", (dueT K).2⟩
theorem oexB_ok {K : PySem.W.Frag} {C : Addr} (h : oexB K C = true) : ∃ nm q N bs bm sn sub ab col dd k0 k1 k2 k3 k5, K.lookup C = some (excClassObj nm q C N bs bm true sn sub ab col dd k0 k1 k2 k3 k5 "ValueError.__new__") ∧ PySem.HandSPX.refsVE bm = true := by
  unfold oexB at h
  split at h
  · rename_i d1 c1 s1 h1
    split at h
    · rename_i C1 b1 j0 j1 j2 j3 n1 j5 hm1 hs1
      simp only [Bool.and_eq_true, beq_iff_eq, Bool.not_eq_true'] at h
      obtain ⟨⟨⟨⟨rfl, rfl⟩, g1⟩, g2⟩, g3⟩ := h
      obtain ⟨a1, a2, a3, a4, a5, a6, a7, a8, a9, a10, a11⟩ := c1
      dsimp only at hm1 g1 g2
      subst hm1 g1 g2
      obtain ⟨l1⟩ := s1
      have e1 : l1 = _ := hs1
      subst e1
      exact ⟨_, _, _, _, _, _, _, _, _, _, _, _, _, _, _, h1, g3⟩
    · cases h
  · cases h
section
variable {K : PySem.W.Frag} {h : Heap} {mg : Str → Option Value} (X : K.In h) (Gn : h.Ns mainGlobals mg) (c : Told h K)
include X Gn c
theorem bn_ok : Bn mg := ⟨He.free_ok X Gn (x := "len") (c.d.fact 35 rfl), He.free_ok X Gn (x := "range") (c.d.fact 36 rfl), He.free_ok X Gn (x := "enumerate") (c.d.fact 37 rfl), He.free_ok X Gn (x := "zip") (c.d.fact 38 rfl), He.free_ok X Gn (x := "isinstance") (c.d.fact 39 rfl), He.free_ok X Gn (x := "all") (c.d.fact 40 rfl), He.free_ok X Gn (x := "max") (c.d.fact 41 rfl), He.free_ok X Gn (x := "min") (c.d.fact 42 rfl), He.free_ok X Gn (x := "sorted") (c.d.fact 43 rfl), He.free_ok X Gn (x := "list") (c.d.fact 44 rfl), He.free_ok X Gn (x := "tuple") (c.d.fact 45 rfl), He.free_ok X Gn (x := "dict") (c.d.fact 46 rfl), He.free_ok X Gn (x := "sum") (c.d.fact 47 rfl), He.free_ok X Gn (x := "int") (c.d.fact 48 rfl), He.free_ok X Gn (x := "bool") (c.d.fact 49 rfl), He.free_ok X Gn (x := "str") (c.d.fact 50 rfl), He.str_ok X Gn (x := "LETTERS") (c.d.fact 51 rfl), He.int_ok X Gn (x := "LONGEST") (c.d.fact 52 rfl), He.int_ok X Gn (x := "MOST_HUES") (c.d.fact 53 rfl), He.int_ok X Gn (x := "MOST_CLOTHS") (c.d.fact 54 rfl), He.int_ok X Gn (x := "FRESH") (c.d.fact 55 rfl)⟩
omit X Gn in
theorem fc_ok : Fc (adOf K) mg := ⟨He.cls_ok (x := "Works") (c.d.fact 72 rfl), He.cls_ok (x := "House") (c.d.fact 74 rfl), He.noat_ok (x := "Works") (f := "least") (c.d.fact 96 rfl), He.noat_ok (x := "Works") (f := "told") (c.d.fact 97 rfl), He.noat_ok (x := "Works") (f := "last") (c.d.fact 98 rfl), He.noat_ok (x := "Works") (f := "time") (c.d.fact 99 rfl), He.noat_ok (x := "Works") (f := "waiting") (c.d.fact 100 rfl), He.noat_ok (x := "House") (f := "now") (c.d.fact 101 rfl), He.noat_ok (x := "House") (f := "rows") (c.d.fact 102 rfl), He.noat_ok (x := "House") (f := "past") (c.d.fact 103 rfl)⟩
theorem x_NoName : ExF (adOf K) mg "NoName" := by
  obtain ⟨e1, e2, e3, e4⟩ := He.exc_ok (x := "NoName") (c.d.fact 63 rfl)
  exact ⟨He.ga K "NoName", (He.glo_ok X Gn (x := "NoName") (c.d.fact 60 rfl)), e1, e2, e3, e4, He.exm_ok (x := "NoName") (y := "RinseError") (c.d.fact 64 rfl)⟩
theorem x_NoCloth : ExF (adOf K) mg "NoCloth" := by
  obtain ⟨e1, e2, e3, e4⟩ := He.exc_ok (x := "NoCloth") (c.d.fact 65 rfl)
  exact ⟨He.ga K "NoCloth", (He.glo_ok X Gn (x := "NoCloth") (c.d.fact 61 rfl)), e1, e2, e3, e4, He.exm_ok (x := "NoCloth") (y := "RinseError") (c.d.fact 66 rfl)⟩
theorem x_NoTime : ExF (adOf K) mg "NoTime" := by
  obtain ⟨e1, e2, e3, e4⟩ := He.exc_ok (x := "NoTime") (c.d.fact 67 rfl)
  exact ⟨He.ga K "NoTime", (He.glo_ok X Gn (x := "NoTime") (c.d.fact 62 rfl)), e1, e2, e3, e4, He.exm_ok (x := "NoTime") (y := "RinseError") (c.d.fact 68 rfl)⟩
theorem re_tw : ReF (adOf K) mg ∧ TwF (adOf K) (He.ga K "Twice") (He.ma K (He.ga K "Twice") "__init__") := by
  have z := c.x
  unfold exB at z
  obtain ⟨z1, z⟩ := He.ba z
  obtain ⟨z2, z⟩ := He.ba z
  obtain ⟨z3, z⟩ := He.ba z
  obtain ⟨z4, z⟩ := He.ba z
  obtain ⟨z5, z⟩ := He.ba z
  obtain ⟨z6, z⟩ := He.ba z
  obtain ⟨z7, z⟩ := He.ba z
  obtain ⟨z8, z⟩ := He.ba z
  obtain ⟨z9, z10⟩ := He.ba z
  obtain ⟨m1, m2, m3⟩ := He.meth_ok (x := "Twice") (m := "__init__") (c.d.fact 70 rfl)
  have hf : PySem.W.findCls K (.ref (He.ga K "RinseError")) (.type "type") "__init__" = some (.val (.builtin "ValueError.__init__")) := by
    split at z4
    · rename_i n hn
      rw [hn, beq_iff_eq.mp z4]
    · cases z4
  exact ⟨⟨(He.glo_ok X Gn (x := "RinseError") (c.d.fact 58 rfl)), of_decide_eq_true z1, of_decide_eq_true z2, z3, hf⟩, ⟨⟨oexB_ok z5, of_decide_eq_true z6, of_decide_eq_true z7, of_decide_eq_true z8, z9⟩, m1, of_decide_eq_true z10, He.noat_ok (x := "Twice") (f := "name") (c.d.fact 71 rfl), He.exm_ok (x := "Twice") (y := "RinseError") (c.d.fact 69 rfl)⟩⟩
theorem gd_is_whole : Gd K mg "is_whole" sis_whole := by
  obtain ⟨fd, e⟩ := c.d.def_ 4 (d := dis_whole) rfl
  exact ⟨_, fd, e, (He.glo_ok X Gn (x := "is_whole") (c.d.fact 3 rfl))⟩
theorem gd_is_name : Gd K mg "is_name" sis_name := by
  obtain ⟨fd, e⟩ := c.d.def_ 5 (d := dis_name) rfl
  exact ⟨_, fd, e, (He.glo_ok X Gn (x := "is_name") (c.d.fact 4 rfl))⟩
theorem gd_look_at_rinses : Gd K mg "look_at_rinses" slook_at_rinses := by
  obtain ⟨fd, e⟩ := c.d.def_ 6 (d := dlook_at_rinses) rfl
  exact ⟨_, fd, e, (He.glo_ok X Gn (x := "look_at_rinses") (c.d.fact 5 rfl))⟩
theorem gd_sums_and_ways : Gd K mg "sums_and_ways" ssums_and_ways := by
  obtain ⟨fd, e⟩ := c.d.def_ 7 (d := dsums_and_ways) rfl
  exact ⟨_, fd, e, (He.glo_ok X Gn (x := "sums_and_ways") (c.d.fact 6 rfl))⟩
theorem gd_least_rinses : Gd K mg "least_rinses" sleast_rinses := by
  obtain ⟨fd, e⟩ := c.d.def_ 8 (d := dleast_rinses) rfl
  exact ⟨_, fd, e, (He.glo_ok X Gn (x := "least_rinses") (c.d.fact 7 rfl))⟩
theorem gd_is_cloth : Gd K mg "is_cloth" sis_cloth := by
  obtain ⟨fd, e⟩ := c.d.def_ 9 (d := dis_cloth) rfl
  exact ⟨_, fd, e, (He.glo_ok X Gn (x := "is_cloth") (c.d.fact 8 rfl))⟩
omit X Gn in
theorem md_Works_hues : Md K (He.ga K "Works") "hues" "Works.hues" sWorks_hues := by
  obtain ⟨fd, e⟩ := c.d.def_ 11 (d := dWorks_hues) rfl
  exact ⟨_, fd, e, He.meth_ok (x := "Works") (m := "hues") (c.d.fact 76 rfl), He.cls_ok (x := "Works") (c.d.fact 72 rfl)⟩
omit X Gn in
theorem md_Works_rinses : Md K (He.ga K "Works") "rinses" "Works.rinses" sWorks_rinses := by
  obtain ⟨fd, e⟩ := c.d.def_ 12 (d := dWorks_rinses) rfl
  exact ⟨_, fd, e, He.meth_ok (x := "Works") (m := "rinses") (c.d.fact 77 rfl), He.cls_ok (x := "Works") (c.d.fact 72 rfl)⟩
omit X Gn in
theorem md_Works_rinse : Md K (He.ga K "Works") "rinse" "Works.rinse" sWorks_rinse := by
  obtain ⟨fd, e⟩ := c.d.def_ 13 (d := dWorks_rinse) rfl
  exact ⟨_, fd, e, He.meth_ok (x := "Works") (m := "rinse") (c.d.fact 78 rfl), He.cls_ok (x := "Works") (c.d.fact 72 rfl)⟩
omit X Gn in
theorem md_Works_start : Md K (He.ga K "Works") "start" "Works.start" sWorks_start := by
  obtain ⟨fd, e⟩ := c.d.def_ 14 (d := dWorks_start) rfl
  exact ⟨_, fd, e, He.meth_ok (x := "Works") (m := "start") (c.d.fact 79 rfl), He.cls_ok (x := "Works") (c.d.fact 72 rfl)⟩
omit X Gn in
theorem md_Works_names : Md K (He.ga K "Works") "names" "Works.names" sWorks_names := by
  obtain ⟨fd, e⟩ := c.d.def_ 15 (d := dWorks_names) rfl
  exact ⟨_, fd, e, He.meth_ok (x := "Works") (m := "names") (c.d.fact 80 rfl), He.cls_ok (x := "Works") (c.d.fact 72 rfl)⟩
omit X Gn in
theorem md_Works_cloth : Md K (He.ga K "Works") "cloth" "Works.cloth" sWorks_cloth := by
  obtain ⟨fd, e⟩ := c.d.def_ 16 (d := dWorks_cloth) rfl
  exact ⟨_, fd, e, He.meth_ok (x := "Works") (m := "cloth") (c.d.fact 81 rfl), He.cls_ok (x := "Works") (c.d.fact 72 rfl)⟩
theorem idf_Works : Idf K mg "Works" (He.ga K "Works") "Works.__init__" sWorks___init__ [.non, .int 0] := by
  obtain ⟨fd, e⟩ := c.d.def_ 10 (d := dWorks___init__) rfl
  exact ⟨_, fd, e, He.mkr_ok (x := "Works") (c.d.fact 73 rfl), (He.glo_ok X Gn (x := "Works") (c.d.fact 56 rfl))⟩
omit X Gn in
theorem md_Works_want : Md K (He.ga K "Works") "want" "Works.want" sWorks_want := by
  obtain ⟨fd, e⟩ := c.d.def_ 19 (d := dWorks_want) rfl
  exact ⟨_, fd, e, He.meth_ok (x := "Works") (m := "want") (c.d.fact 84 rfl), He.cls_ok (x := "Works") (c.d.fact 72 rfl)⟩
omit X Gn in
theorem md_Works_only : Md K (He.ga K "Works") "only" "Works.only" sWorks_only := by
  obtain ⟨fd, e⟩ := c.d.def_ 22 (d := dWorks_only) rfl
  exact ⟨_, fd, e, He.meth_ok (x := "Works") (m := "only") (c.d.fact 87 rfl), He.cls_ok (x := "Works") (c.d.fact 72 rfl)⟩
omit X Gn in
theorem md_Works_without : Md K (He.ga K "Works") "without" "Works.without" sWorks_without := by
  obtain ⟨fd, e⟩ := c.d.def_ 21 (d := dWorks_without) rfl
  exact ⟨_, fd, e, He.meth_ok (x := "Works") (m := "without") (c.d.fact 86 rfl), He.cls_ok (x := "Works") (c.d.fact 72 rfl)⟩
omit X Gn in
theorem md_Works_put : Md K (He.ga K "Works") "put" "Works.put" sWorks_put := by
  obtain ⟨fd, e⟩ := c.d.def_ 20 (d := dWorks_put) rfl
  exact ⟨_, fd, e, He.meth_ok (x := "Works") (m := "put") (c.d.fact 85 rfl), He.cls_ok (x := "Works") (c.d.fact 72 rfl)⟩
omit X Gn in
theorem md_Works_begun : Md K (He.ga K "Works") "begun" "Works.begun" sWorks_begun := by
  obtain ⟨fd, e⟩ := c.d.def_ 23 (d := dWorks_begun) rfl
  exact ⟨_, fd, e, He.meth_ok (x := "Works") (m := "begun") (c.d.fact 88 rfl), He.cls_ok (x := "Works") (c.d.fact 72 rfl)⟩
omit X Gn in
theorem md_Works_of_hue : Md K (He.ga K "Works") "of_hue" "Works.of_hue" sWorks_of_hue := by
  obtain ⟨fd, e⟩ := c.d.def_ 17 (d := dWorks_of_hue) rfl
  exact ⟨_, fd, e, He.meth_ok (x := "Works") (m := "of_hue") (c.d.fact 82 rfl), He.cls_ok (x := "Works") (c.d.fact 72 rfl)⟩
theorem gd_done_rows : Gd K mg "done_rows" sdone_rows := by
  obtain ⟨fd, e⟩ := c.d.def_ 1 (d := ddone_rows) rfl
  exact ⟨_, fd, e, (He.glo_ok X Gn (x := "done_rows") (c.d.fact 0 rfl))⟩
theorem gd_lateness : Gd K mg "lateness" slateness := by
  obtain ⟨fd, e⟩ := c.d.def_ 2 (d := dlateness) rfl
  exact ⟨_, fd, e, (He.glo_ok X Gn (x := "lateness") (c.d.fact 1 rfl))⟩
theorem gd_keeps : Gd K mg "keeps" skeeps := by
  obtain ⟨fd, e⟩ := c.d.def_ 3 (d := dkeeps) rfl
  exact ⟨_, fd, e, (He.glo_ok X Gn (x := "keeps") (c.d.fact 2 rfl))⟩
omit X Gn in
theorem md_House_step : Md K (He.ga K "House") "step" "House.step" sHouse_step := by
  obtain ⟨fd, e⟩ := c.d.def_ 25 (d := dHouse_step) rfl
  exact ⟨_, fd, e, He.meth_ok (x := "House") (m := "step") (c.d.fact 89 rfl), He.cls_ok (x := "House") (c.d.fact 74 rfl)⟩
omit X Gn in
theorem md_House_put : Md K (He.ga K "House") "put" "House.put" sHouse_put := by
  obtain ⟨fd, e⟩ := c.d.def_ 26 (d := dHouse_put) rfl
  exact ⟨_, fd, e, He.meth_ok (x := "House") (m := "put") (c.d.fact 90 rfl), He.cls_ok (x := "House") (c.d.fact 74 rfl)⟩
omit X Gn in
theorem md_House_drop : Md K (He.ga K "House") "drop" "House.drop" sHouse_drop := by
  obtain ⟨fd, e⟩ := c.d.def_ 27 (d := dHouse_drop) rfl
  exact ⟨_, fd, e, He.meth_ok (x := "House") (m := "drop") (c.d.fact 91 rfl), He.cls_ok (x := "House") (c.d.fact 74 rfl)⟩
omit X Gn in
theorem md_House_works : Md K (He.ga K "House") "works" "House.works" sHouse_works := by
  obtain ⟨fd, e⟩ := c.d.def_ 30 (d := dHouse_works) rfl
  exact ⟨_, fd, e, He.meth_ok (x := "House") (m := "works") (c.d.fact 94 rfl), He.cls_ok (x := "House") (c.d.fact 74 rfl)⟩
omit X Gn in
theorem md_House_done : Md K (He.ga K "House") "done" "House.done" sHouse_done := by
  obtain ⟨fd, e⟩ := c.d.def_ 31 (d := dHouse_done) rfl
  exact ⟨_, fd, e, He.meth_ok (x := "House") (m := "done") (c.d.fact 95 rfl), He.cls_ok (x := "House") (c.d.fact 74 rfl)⟩
omit X Gn in
theorem md_House_work : Md K (He.ga K "House") "work" "House.work" sHouse_work := by
  obtain ⟨fd, e⟩ := c.d.def_ 28 (d := dHouse_work) rfl
  exact ⟨_, fd, e, He.meth_ok (x := "House") (m := "work") (c.d.fact 92 rfl), He.cls_ok (x := "House") (c.d.fact 74 rfl)⟩
omit X Gn in
theorem md_House_wait : Md K (He.ga K "House") "wait" "House.wait" sHouse_wait := by
  obtain ⟨fd, e⟩ := c.d.def_ 29 (d := dHouse_wait) rfl
  exact ⟨_, fd, e, He.meth_ok (x := "House") (m := "wait") (c.d.fact 93 rfl), He.cls_ok (x := "House") (c.d.fact 74 rfl)⟩
theorem idf_House : Idf K mg "House" (He.ga K "House") "House.__init__" sHouse___init__ [.non, .int 0] := by
  obtain ⟨fd, e⟩ := c.d.def_ 24 (d := dHouse___init__) rfl
  exact ⟨_, fd, e, He.mkr_ok (x := "House") (c.d.fact 75 rfl), (He.glo_ok X Gn (x := "House") (c.d.fact 57 rfl))⟩
theorem gd_due_cloths : Gd K mg "due_cloths" sdue_cloths := by
  obtain ⟨fd, e⟩ := c.d.def_ 32 (d := ddue_cloths) rfl
  exact ⟨_, fd, e, (He.glo_ok X Gn (x := "due_cloths") (c.d.fact 9 rfl))⟩
theorem gd_start_state : Gd K mg "start_state" sstart_state := by
  obtain ⟨fd, e⟩ := c.d.def_ 33 (d := dstart_state) rfl
  exact ⟨_, fd, e, (He.glo_ok X Gn (x := "start_state") (c.d.fact 10 rfl))⟩
theorem gd_goings : Gd K mg "goings" sgoings := by
  obtain ⟨fd, e⟩ := c.d.def_ 34 (d := dgoings) rfl
  exact ⟨_, fd, e, (He.glo_ok X Gn (x := "goings") (c.d.fact 11 rfl))⟩
theorem gd_breaks : Gd K mg "breaks" sbreaks := by
  obtain ⟨fd, e⟩ := c.d.def_ 35 (d := dbreaks) rfl
  exact ⟨_, fd, e, (He.glo_ok X Gn (x := "breaks") (c.d.fact 12 rfl))⟩
theorem gd_searched : Gd K mg "searched" ssearched := by
  obtain ⟨fd, e⟩ := c.d.def_ 36 (d := dsearched) rfl
  exact ⟨_, fd, e, (He.glo_ok X Gn (x := "searched") (c.d.fact 13 rfl))⟩
theorem gd_is_done : Gd K mg "is_done" sis_done := by
  obtain ⟨fd, e⟩ := c.d.def_ 38 (d := dis_done) rfl
  exact ⟨_, fd, e, (He.glo_ok X Gn (x := "is_done") (c.d.fact 15 rfl))⟩
theorem gd_table_of : Gd K mg "table_of" stable_of := by
  obtain ⟨fd, e⟩ := c.d.def_ 37 (d := dtable_of) rfl
  exact ⟨_, fd, e, (He.glo_ok X Gn (x := "table_of") (c.d.fact 14 rfl))⟩
theorem gd_plan_to : Gd K mg "plan_to" splan_to := by
  obtain ⟨fd, e⟩ := c.d.def_ 39 (d := dplan_to) rfl
  exact ⟨_, fd, e, (He.glo_ok X Gn (x := "plan_to") (c.d.fact 16 rfl))⟩
theorem gd_soonest_done : Gd K mg "soonest_done" ssoonest_done := by
  obtain ⟨fd, e⟩ := c.d.def_ 40 (d := dsoonest_done) rfl
  exact ⟨_, fd, e, (He.glo_ok X Gn (x := "soonest_done") (c.d.fact 17 rfl))⟩
theorem gd_plan_for : Gd K mg "plan_for" splan_for := by
  obtain ⟨fd, e⟩ := c.d.def_ 41 (d := dplan_for) rfl
  exact ⟨_, fd, e, (He.glo_ok X Gn (x := "plan_for") (c.d.fact 18 rfl))⟩
theorem gd_safe : Gd K mg "safe" ssafe := by
  obtain ⟨fd, e⟩ := c.d.def_ 42 (d := dsafe) rfl
  exact ⟨_, fd, e, (He.glo_ok X Gn (x := "safe") (c.d.fact 19 rfl))⟩
theorem gd_least_late : Gd K mg "least_late" sleast_late := by
  obtain ⟨fd, e⟩ := c.d.def_ 43 (d := dleast_late) rfl
  exact ⟨_, fd, e, (He.glo_ok X Gn (x := "least_late") (c.d.fact 20 rfl))⟩
theorem gd_law_mixed : Gd K mg "_law_mixed" s_law_mixed := by
  obtain ⟨fd, e⟩ := c.d.def_ 44 (d := d_law_mixed) rfl
  exact ⟨_, fd, e, (He.glo_ok X Gn (x := "_law_mixed") (c.d.fact 21 rfl))⟩
theorem gd_law_take : Gd K mg "_law_take" s_law_take := by
  obtain ⟨fd, e⟩ := c.d.def_ 46 (d := d_law_take) rfl
  exact ⟨_, fd, e, (He.glo_ok X Gn (x := "_law_take") (c.d.fact 23 rfl))⟩
theorem gd_law_stream : Gd K mg "_law_stream" s_law_stream := by
  obtain ⟨fd, e⟩ := c.d.def_ 45 (d := d_law_stream) rfl
  exact ⟨_, fd, e, (He.glo_ok X Gn (x := "_law_stream") (c.d.fact 22 rfl))⟩
theorem gd_law_cell_stream : Gd K mg "_law_cell_stream" s_law_cell_stream := by
  obtain ⟨fd, e⟩ := c.d.def_ 47 (d := d_law_cell_stream) rfl
  exact ⟨_, fd, e, (He.glo_ok X Gn (x := "_law_cell_stream") (c.d.fact 24 rfl))⟩
theorem gd_law_rinse : Gd K mg "_law_rinse" s_law_rinse := by
  obtain ⟨fd, e⟩ := c.d.def_ 48 (d := d_law_rinse) rfl
  exact ⟨_, fd, e, (He.glo_ok X Gn (x := "_law_rinse") (c.d.fact 25 rfl))⟩
theorem gd_law_house : Gd K mg "_law_house" s_law_house := by
  obtain ⟨fd, e⟩ := c.d.def_ 49 (d := d_law_house) rfl
  exact ⟨_, fd, e, (He.glo_ok X Gn (x := "_law_house") (c.d.fact 26 rfl))⟩
theorem gd_law_cloth : Gd K mg "_law_cloth" s_law_cloth := by
  obtain ⟨fd, e⟩ := c.d.def_ 50 (d := d_law_cloth) rfl
  exact ⟨_, fd, e, (He.glo_ok X Gn (x := "_law_cloth") (c.d.fact 27 rfl))⟩
theorem gd_law_end : Gd K mg "_law_end" s_law_end := by
  obtain ⟨fd, e⟩ := c.d.def_ 52 (d := d_law_end) rfl
  exact ⟨_, fd, e, (He.glo_ok X Gn (x := "_law_end") (c.d.fact 29 rfl))⟩
theorem gd_law_least : Gd K mg "_law_least" s_law_least := by
  obtain ⟨fd, e⟩ := c.d.def_ 51 (d := d_law_least) rfl
  exact ⟨_, fd, e, (He.glo_ok X Gn (x := "_law_least") (c.d.fact 28 rfl))⟩
theorem gd_law_deed : Gd K mg "_law_deed" s_law_deed := by
  obtain ⟨fd, e⟩ := c.d.def_ 53 (d := d_law_deed) rfl
  exact ⟨_, fd, e, (He.glo_ok X Gn (x := "_law_deed") (c.d.fact 30 rfl))⟩
theorem gd_law_goes : Gd K mg "_law_goes" s_law_goes := by
  obtain ⟨fd, e⟩ := c.d.def_ 54 (d := d_law_goes) rfl
  exact ⟨_, fd, e, (He.glo_ok X Gn (x := "_law_goes") (c.d.fact 31 rfl))⟩
theorem gd_law_do : Gd K mg "_law_do" s_law_do := by
  obtain ⟨fd, e⟩ := c.d.def_ 55 (d := d_law_do) rfl
  exact ⟨_, fd, e, (He.glo_ok X Gn (x := "_law_do") (c.d.fact 32 rfl))⟩
theorem gd_law_try : Gd K mg "_law_try" s_law_try := by
  obtain ⟨fd, e⟩ := c.d.def_ 56 (d := d_law_try) rfl
  exact ⟨_, fd, e, (He.glo_ok X Gn (x := "_law_try") (c.d.fact 33 rfl))⟩
omit X Gn in
theorem due_ok : DueD K (He.ga K "Works") (dueT K).1 := by
  obtain ⟨fd, e⟩ := c.d.def_ 18 (d := dWorks_due_row) rfl
  have e' := e
  obtain ⟨oc, od, dV, kV, doc, pm, an, cdv, ct, osl, rfl, lk, hcode, _, _⟩ := e'.ex
  obtain ⟨cc, rfl⟩ := He.codeIn_ref hcode
  have hc : He.codeOf K ("Works", some "due_row") = cc := He.codeOf_eq lk rfl
  refine ⟨_, _, e, He.meth_ok (x := "Works") (m := "due_row") (c.d.fact 83 rfl), He.cls_ok (x := "Works") (c.d.fact 72 rfl), ?_⟩
  show Value.ref cc = Value.ref (He.codeOf K ("Works", some "due_row"))
  rw [hc]
theorem law_ok {P : Program} {w : World} {fa : Addr} (hfa : mg "law" = some (.ref fa)) : ∃ fd : FuncData, (∀ (s : Shared) (u : Value), BindsTo s fd ⟨[u], []⟩ [("script", u)]) ∧
    ∀ base : Heap, LamX.TabB base mg (dueT K).1 (dueT K).2 → FnOk P w K mg base (L2.CX P w) 15 fa fd ["script"] (sp_law (adOf K)) := by
  obtain ⟨fd, eL⟩ := c.d.def_ 57 (d := dlaw) rfl
  obtain ⟨fT, fTw⟩ := c.d.def_ 0 (d := dTwice___init__) rfl
  have e := hfa.symm.trans (He.glo_ok X Gn (x := "law") (c.d.fact 34 rfl))
  cases e
  have b := FunD.bindsA (ps := ["script"]) eL fun _ _ _ _ _ _ us hl => match us, hl with | [_], _ => rfl
  refine ⟨fd, fun s u => b s [u] rfl, fun base TB => ?_⟩
  have C_is_whole : Ca P w K mg base 1 "is_whole" (sp_is_whole (adOf K)) := c_is_whole (G := adOf K) (k := 0) (bn_ok X Gn c) (gd_is_whole X Gn c)
  have C_is_name : Ca P w K mg base 1 "is_name" (sp_is_name (adOf K)) := c_is_name (G := adOf K) (k := 0) (bn_ok X Gn c) (gd_is_name X Gn c)
  have C_look_at_rinses : Ca P w K mg base 2 "look_at_rinses" (sp_look_at_rinses (adOf K)) := c_look_at_rinses (G := adOf K) (k := 1) (bn_ok X Gn c) C_is_whole (gd_look_at_rinses X Gn c)
  have C_sums_and_ways : Ca P w K mg base 3 "sums_and_ways" (sp_sums_and_ways (adOf K)) := c_sums_and_ways (G := adOf K) (k := 2) (bn_ok X Gn c) C_look_at_rinses (gd_sums_and_ways X Gn c)
  have C_least_rinses : Ca P w K mg base 4 "least_rinses" (sp_least_rinses (adOf K)) := c_least_rinses (G := adOf K) (k := 3) (bn_ok X Gn c) C_sums_and_ways (gd_least_rinses X Gn c)
  have C_is_cloth : Ca P w K mg base 2 "is_cloth" (sp_is_cloth (adOf K)) := c_is_cloth (G := adOf K) (k := 1) (bn_ok X Gn c) C_is_name C_is_whole (gd_is_cloth X Gn c)
  have MW_hues : Me P w K mg base 1 (He.ga K "Works") "hues" (spW_hues (adOf K)) := mW_hues (G := adOf K) (k := 0) (bn_ok X Gn c) (fc_ok c) (md_Works_hues c)
  have MW_rinses : Me P w K mg base 1 (He.ga K "Works") "rinses" (spW_rinses (adOf K)) := mW_rinses (G := adOf K) (k := 0) (bn_ok X Gn c) (fc_ok c) (md_Works_rinses c)
  have MW_rinse : Me P w K mg base 1 (He.ga K "Works") "rinse" (spW_rinse (adOf K)) := mW_rinse (G := adOf K) (k := 0) (fc_ok c) (md_Works_rinse c)
  have MW_start : Me P w K mg base 1 (He.ga K "Works") "start" (spW_start (adOf K)) := mW_start (G := adOf K) (k := 0) (fc_ok c) (md_Works_start c)
  have MW_names : Me P w K mg base 1 (He.ga K "Works") "names" (spW_names (adOf K)) := mW_names (G := adOf K) (k := 0) (bn_ok X Gn c) (fc_ok c) (md_Works_names c)
  have MW_cloth : Me P w K mg base 1 (He.ga K "Works") "cloth" (spW_cloth (adOf K)) := mW_cloth (G := adOf K) (k := 0) (fc_ok c) (x_NoName X Gn c) (md_Works_cloth c)
  have Mk_Works : Ma P w K mg base 6 "Works" (He.ga K "Works") (spW_init (adOf K)) := mk_Works (G := adOf K) (k := 4) (bn_ok X Gn c) (fc_ok c) (x_NoCloth X Gn c) (tw_ok (k := 3) (re_tw X Gn c).1 (He.glo_ok X Gn (x := "Twice") (c.d.fact 59 rfl)) (re_tw X Gn c).2 fTw) C_least_rinses (C_is_whole.mono (by decide)) (C_is_cloth.mono (by decide)) (MW_hues.mono (by decide)) (idf_Works X Gn c)
  have MW_want : Me P w K mg base 2 (He.ga K "Works") "want" (spW_want (adOf K)) := mW_want (G := adOf K) (k := 1) (fc_ok c) C_is_name (md_Works_want c)
  have MW_only : Me P w K mg base 8 (He.ga K "Works") "only" (spW_only (adOf K)) := mW_only (G := adOf K) (k := 6) (fc_ok c) (MW_want.mono (by decide)) Mk_Works (md_Works_only c)
  have MW_without : Me P w K mg base 9 (He.ga K "Works") "without" (spW_without (adOf K)) := mW_without (G := adOf K) (k := 8) (bn_ok X Gn c) (fc_ok c) (MW_names.mono (by decide)) (MW_cloth.mono (by decide)) MW_only (md_Works_without c)
  have MW_put : Me P w K mg base 8 (He.ga K "Works") "put" (spW_put (adOf K)) := mW_put (G := adOf K) (k := 6) (bn_ok X Gn c) (fc_ok c) (MW_names.mono (by decide)) Mk_Works (md_Works_put c)
  have MW_begun : Me P w K mg base 8 (He.ga K "Works") "begun" (spW_begun (adOf K)) := mW_begun (G := adOf K) (k := 6) (bn_ok X Gn c) (fc_ok c) (MW_want.mono (by decide)) (MW_names.mono (by decide)) (MW_rinse.mono (by decide)) Mk_Works (md_Works_begun c)
  have MW_of_hue : Me P w K mg base 2 (He.ga K "Works") "of_hue" (spW_of_hue (adOf K)) := mW_of_hue (G := adOf K) (k := 1) (bn_ok X Gn c) (fc_ok c) MW_names (md_Works_of_hue c)
  have MW_due_row : Me P w K mg base 10 (He.ga K "Works") "due_row" (spW_due_row (adOf K)) := mW_due_row (G := adOf K) (k := 2) (bn_ok X Gn c) (fc_ok c) TB MW_of_hue (due_ok c)
  have C_done_rows : Ca P w K mg base 3 "done_rows" (sp_done_rows (adOf K)) := c_done_rows (G := adOf K) (k := 2) (fc_ok c) MW_want (MW_start.mono (by decide)) (MW_cloth.mono (by decide)) (MW_rinse.mono (by decide)) (gd_done_rows X Gn c)
  have C_lateness : Ca P w K mg base 4 "lateness" (sp_lateness (adOf K)) := c_lateness (G := adOf K) (k := 3) (bn_ok X Gn c) (fc_ok c) C_done_rows (MW_cloth.mono (by decide)) (gd_lateness X Gn c)
  have C_keeps : Ca P w K mg base 5 "keeps" (sp_keeps (adOf K)) := c_keeps (G := adOf K) (k := 4) C_lateness (gd_keeps X Gn c)
  have MH_step : Me P w K mg base 1 (He.ga K "House") "step" (spH_step (adOf K)) := mH_step (G := adOf K) (k := 0) (fc_ok c) (md_House_step c)
  have MH_put : Me P w K mg base 9 (He.ga K "House") "put" (spH_put (adOf K)) := mH_put (G := adOf K) (k := 8) (fc_ok c) (MH_step.mono (by decide)) MW_put (md_House_put c)
  have MH_drop : Me P w K mg base 10 (He.ga K "House") "drop" (spH_drop (adOf K)) := mH_drop (G := adOf K) (k := 9) (fc_ok c) (MH_step.mono (by decide)) MW_without (md_House_drop c)
  have MH_works : Me P w K mg base 1 (He.ga K "House") "works" (spH_works (adOf K)) := mH_works (G := adOf K) (k := 0) (fc_ok c) (md_House_works c)
  have MH_done : Me P w K mg base 1 (He.ga K "House") "done" (spH_done (adOf K)) := mH_done (G := adOf K) (k := 0) (fc_ok c) (md_House_done c)
  have MH_work : Me P w K mg base 9 (He.ga K "House") "work" (spH_work (adOf K)) := mH_work (G := adOf K) (k := 8) (fc_ok c) (MH_step.mono (by decide)) (MW_cloth.mono (by decide)) MW_begun (C_done_rows.mono (by decide)) (md_House_work c)
  have MH_wait : Me P w K mg base 8 (He.ga K "House") "wait" (spH_wait (adOf K)) := mH_wait (G := adOf K) (k := 6) (bn_ok X Gn c) (fc_ok c) (x_NoTime X Gn c) (C_is_whole.mono (by decide)) (MH_step.mono (by decide)) (MW_start.mono (by decide)) (MW_names.mono (by decide)) (MW_cloth.mono (by decide)) (MW_rinses.mono (by decide)) Mk_Works (md_House_wait c)
  have Mk_House : Ma P w K mg base 8 "House" (He.ga K "House") (spH_init (adOf K)) := mk_House (G := adOf K) (k := 6) (fc_ok c) Mk_Works (idf_House X Gn c)
  have C_due_cloths : Ca P w K mg base 11 "due_cloths" (sp_due_cloths (adOf K)) := c_due_cloths (G := adOf K) (k := 10) (bn_ok X Gn c) (fc_ok c) (MW_hues.mono (by decide)) MW_due_row (MW_cloth.mono (by decide)) (gd_due_cloths X Gn c)
  have C_start_state : Ca P w K mg base 2 "start_state" (sp_start_state (adOf K)) := c_start_state (G := adOf K) (k := 1) (bn_ok X Gn c) MW_hues MW_start (gd_start_state X Gn c)
  have C_goings : Ca P w K mg base 2 "goings" (sp_goings (adOf K)) := c_goings (G := adOf K) (k := 1) (bn_ok X Gn c) MW_rinse (gd_goings X Gn c)
  have C_breaks : Ca P w K mg base 1 "breaks" (sp_breaks (adOf K)) := c_breaks (G := adOf K) (k := 0) (gd_breaks X Gn c)
  have C_searched : Ca P w K mg base 12 "searched" (sp_searched P w (adOf K)) := c_searched (G := adOf K) (k := 11) (bn_ok X Gn c) (fc_ok c) (MW_start.mono (by decide)) C_due_cloths (C_start_state.mono (by decide)) (C_goings.mono (by decide)) (C_breaks.mono (by decide)) (gd_searched X Gn c)
  have C_is_done : Ca P w K mg base 1 "is_done" sp_is_done := c_is_done (G := adOf K) (k := 0) (bn_ok X Gn c) (gd_is_done X Gn c)
  have C_table_of : Ca P w K mg base 1 "table_of" (sp_table_of P w) := c_table_of (G := adOf K) (k := 0) (bn_ok X Gn c) (gd_table_of X Gn c)
  have C_plan_to : Ca P w K mg base 1 "plan_to" (sp_plan_to P w) := c_plan_to (G := adOf K) (k := 0) (bn_ok X Gn c) (gd_plan_to X Gn c)
  have C_soonest_done : Ca P w K mg base 12 "soonest_done" (sp_soonest_done P w (adOf K)) := c_soonest_done (G := adOf K) (k := 11) (bn_ok X Gn c) C_due_cloths (C_is_done.mono (by decide)) (gd_soonest_done X Gn c)
  have C_plan_for : Ca P w K mg base 13 "plan_for" (sp_plan_for (adOf K)) := c_plan_for (G := adOf K) (k := 12) (bn_ok X Gn c) C_searched C_soonest_done (C_table_of.mono (by decide)) (C_plan_to.mono (by decide)) (gd_plan_for X Gn c)
  have C_safe : Ca P w K mg base 14 "safe" (sp_safe (adOf K)) := c_safe (G := adOf K) (k := 13) (bn_ok X Gn c) (fc_ok c) (MW_names.mono (by decide)) (MW_begun.mono (by decide)) (C_keeps.mono (by decide)) C_plan_for (gd_safe X Gn c)
  have C_least_late : Ca P w K mg base 14 "least_late" (sp_least_late (adOf K)) := c_least_late (G := adOf K) (k := 13) (bn_ok X Gn c) (fc_ok c) (MW_names.mono (by decide)) (C_lateness.mono (by decide)) C_plan_for (gd_least_late X Gn c)
  have C_law_mixed : Ca P w K mg base 1 "_law_mixed" sp_law_mixed := c_law_mixed (G := adOf K) (k := 0) (gd_law_mixed X Gn c)
  have C_law_take : Ca P w K mg base 1 "_law_take" sp_law_take := c_law_take (G := adOf K) (k := 0) (gd_law_take X Gn c)
  have C_law_stream : Ca P w K mg base 2 "_law_stream" (sp_law_stream (adOf K)) := c_law_stream (G := adOf K) (k := 1) (bn_ok X Gn c) C_law_mixed (gd_law_stream X Gn c)
  have C_law_cell_stream : Ca P w K mg base 2 "_law_cell_stream" sp_law_cell_stream := c_law_cell_stream (G := adOf K) (k := 1) (bn_ok X Gn c) C_law_mixed (gd_law_cell_stream X Gn c)
  have C_law_rinse : Ca P w K mg base 2 "_law_rinse" (sp_law_rinse (adOf K)) := c_law_rinse (G := adOf K) (k := 1) C_law_take (gd_law_rinse X Gn c)
  have C_law_house : Ca P w K mg base 3 "_law_house" (sp_law_house (adOf K)) := c_law_house (G := adOf K) (k := 2) (bn_ok X Gn c) C_law_stream (C_law_take.mono (by decide)) C_law_rinse (gd_law_house X Gn c)
  have C_law_cloth : Ca P w K mg base 2 "_law_cloth" (sp_law_cloth (adOf K)) := c_law_cloth (G := adOf K) (k := 1) (bn_ok X Gn c) C_law_take (gd_law_cloth X Gn c)
  have C_law_end : Ca P w K mg base 1 "_law_end" (sp_law_end (adOf K)) := c_law_end (G := adOf K) (k := 0) (gd_law_end X Gn c)
  have C_law_least : Ca P w K mg base 1 "_law_least" (sp_law_least (adOf K)) := c_law_least (G := adOf K) (k := 0) (bn_ok X Gn c) (gd_law_least X Gn c)
  have C_law_deed : Ca P w K mg base 3 "_law_deed" (sp_law_deed (adOf K)) := c_law_deed (G := adOf K) (k := 2) (bn_ok X Gn c) (C_law_take.mono (by decide)) C_law_cloth (gd_law_deed X Gn c)
  have C_law_goes : Ca P w K mg base 2 "_law_goes" (sp_law_goes (adOf K)) := c_law_goes (G := adOf K) (k := 1) (bn_ok X Gn c) C_law_end (gd_law_goes X Gn c)
  have C_law_do : Ca P w K mg base 11 "_law_do" (sp_law_do (adOf K)) := c_law_do (G := adOf K) (k := 10) (MH_put.mono (by decide)) MH_drop (MH_work.mono (by decide)) (MH_wait.mono (by decide)) (gd_law_do X Gn c)
  have C_law_try : Ca P w K mg base 12 "_law_try" (sp_law_try (adOf K)) := c_law_try (G := adOf K) (k := 11) (He.glo_ok X Gn (x := "RinseError") (c.d.fact 58 rfl)) C_law_do (gd_law_try X Gn c)
  exact c_law (G := adOf K) (k := 13) (bn_ok X Gn c) (fc_ok c) (C_law_house.mono (by decide)) (C_law_least.mono (by decide)) (Mk_House.mono (by decide)) (C_law_deed.mono (by decide)) (C_law_cell_stream.mono (by decide)) (C_law_goes.mono (by decide)) (C_law_try.mono (by decide)) C_least_late (MH_works.mono (by decide)) (MW_names.mono (by decide)) (C_law_stream.mono (by decide)) (C_law_take.mono (by decide)) (MW_cloth.mono (by decide)) (MH_done.mono (by decide)) C_safe (MH_work.mono (by decide)).fr eL
end
end Rw82
open PySem PySem.W PySem.Calls PyProof.Rows
set_option maxRecDepth 100000 in
set_option maxHeartbeats 0 in
theorem PySem.Challenge.cw_rinsework_k82_whole_safe_ones_worked_holds : PySem.Challenge.rw_rinsework_k82_whole_safe_ones_worked.Holds := by
  w_on; o_law
  refine HandSHeadRun.head_any (r := OpenLaw.row PySem.Challenge.rw_rinsework_k82_whole_safe_ones_worked) (q := view (OpenLaw.row PySem.Challenge.rw_rinsework_k82_whole_safe_ones_worked).prog [62]) (H := Rw82.hk) (ob := Rw82.ob) (M := 8000) (loose := Rw82.loose) (d := HandSHeadRun.topDef (OpenLaw.row PySem.Challenge.rw_rinsework_k82_whole_safe_ones_worked).prog 62) (kwd := []) Rw82.ob_eq
    (by kernel_rfl) (fun s => by kernel_rfl) Rw82.run (by kernel_rfl) (by kernel_rfl) (by kernel_rfl) (by rfl) (by first | assumption | decide +kernel) (by decide +kernel) ⟨rfl, rfl, rfl, rfl, rfl, by decide +kernel⟩ ?hw ?hc
  case hw => w_witness2
  case hc =>
    refine LamX.walk_ofTsE (l := PySem.Challenge.rw_rinsework_k82_whole_safe_ones_worked) (n := 63) (k := 15) (x := "script") (CX := fun w => L2.CX (PySem.Challenge.rw_rinsework_k82_whole_safe_ones_worked).prog w) rfl (by decide) (by kernel_rfl) ⟨rfl, by decide, by decide⟩ ?F (fun w H s e s' z => by
      obtain ⟨_, _, _, _, _, _, _, _, _, _, _, _, z⟩ := z
      exact z)
    intro w mg fa h Y Gn hmg0
    obtain ⟨K, X, c⟩ := Y
    have hmg : mg ("law" : PySem.Str) = some (.ref fa) := by
      have e : (HandSHeadRun.topDef (OpenLaw.row PySem.Challenge.rw_rinsework_k82_whole_safe_ones_worked).prog 62).name = ("law" : PySem.Str) := by kernel_rfl
      rw [← e]
      exact hmg0
    obtain ⟨fd, hb, hF⟩ := Rw82.law_ok (P := (PySem.Challenge.rw_rinsework_k82_whole_safe_ones_worked).prog) (w := w) X Gn c hmg
    exact ⟨K, X, fd, [Rw82.dueT K], Rw82.sp_law (Rw82.adOf K), fun p hp => by rw [List.mem_singleton.mp hp]; exact c.emp, fun p hp => by rw [List.mem_singleton.mp hp]; exact c.out, fun p hp => by rw [List.mem_singleton.mp hp]; exact codeHd_of_K X c.hd, hb,
      fun H a ns hl _ hT hS => ⟨a, ns, rfl, hS, hl, LamX.TabS.nil (hT _ (List.mem_singleton.mpr rfl)), fun _ => rfl⟩, fun base _ _ hTB => hF base (hTB _ (List.mem_singleton.mpr rfl))⟩
