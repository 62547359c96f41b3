import PyProof.Rows.All
import Wide.All
import OpenK.AllK
import Wide.FinOn
import HandS.ForMost
import HandS.Walk
import HandS.Conv
import HandS.Codes
import HandS.IsInst
import HandS.TupAny
import HandS.TupMul
import HandS.Style
import HandS.Zip
import KE.GoesNew
import KE.GoesMore
import HandS.Wide
import PySem.Challenge.RW_sharefold_k65_whole_leftmost_ways_win
set_option Elab.async false
set_option linter.all false
set_option maxRecDepth 100000
/-! SfM1: terms as data, and what the program's defs compute of them. -/
namespace Sf

inductive Tm where
  | nm (n : Nat)
  | lt (c : Bool)
  | fn (b : Tm)
  | ap (f a : Tm)
  deriving DecidableEq

namespace Tm
def size : Tm → Nat
  | nm _ => 1
  | lt _ => 1
  | fn b => 1 + b.size
  | ap f a => 1 + (f.size + a.size)
def height : Tm → Nat
  | nm _ => 1
  | lt _ => 1
  | fn b => 1 + b.height
  | ap f a => 1 + max f.height a.height
def inner : Tm → List Tm
  | nm _ => []
  | lt _ => []
  | fn b => [b]
  | ap f a => [f, a]
def parts : Tm → List Tm
  | nm n => [nm n]
  | lt c => [lt c]
  | fn b => fn b :: b.parts
  | ap f a => ap f a :: (f.parts ++ a.parts)
def isFn : Tm → Bool
  | fn _ => true
  | _ => false
def isRed : Tm → Bool
  | ap f _ => f.isFn
  | _ => false
def lift : Tm → Nat → Nat → Tm
  | nm n, m, c => if c ≤ n then nm (n + m) else nm n
  | lt x, _, _ => lt x
  | fn b, m, c => fn (b.lift m (c + 1))
  | ap f a, m, c => ap (f.lift m c) (a.lift m c)
def put : Tm → Tm → Nat → Tm
  | nm n, u, d => if n = d then u.lift d 0 else if d < n then nm (n - 1) else nm n
  | lt x, _, _ => lt x
  | fn b, u, d => fn (b.put u (d + 1))
  | ap f a, u, d => ap (f.put u d) (a.put u d)
def stands : Tm → Nat → Nat
  | nm n, d => if n = d then 1 else 0
  | lt _, _ => 0
  | fn b, d => b.stands (d + 1)
  | ap f a, d => f.stands d + a.stands d
/-- what comes in the place of a redex -/
def contract : Tm → Tm
  | ap (fn b) a => b.put a 0
  | t => t
/-- the term behind the plain step at a node -/
def step : Tm → Nat → Tm
  | t, 0 => t.contract
  | fn b, n + 1 => fn (b.step n)
  | ap f a, n + 1 => if n < f.size then ap (f.step n) a else ap f (a.step (n - f.size))
  | t, _ + 1 => t
/-- is there a redex at a node? -/
def redAt : Tm → Nat → Bool
  | t, 0 => t.isRed
  | fn b, n + 1 => b.redAt n
  | ap f a, n + 1 => if n < f.size then f.redAt n else a.redAt (n - f.size)
  | _, _ + 1 => false
def putAt : Tm → Nat → Tm → Tm
  | _, 0, p => p
  | fn b, n + 1, p => fn (b.putAt n p)
  | ap f a, n + 1, p => if n < f.size then ap (f.putAt n p) a else ap f (a.putAt (n - f.size) p)
  | t, _ + 1, _ => t
def sizeBehind : Tm → Nat
  | ap (fn b) a => b.size + b.stands 0 * (a.size - 1)
  | t => t.size
/-- names below a bound alone are free -/
def closedN : Tm → Nat → Bool
  | nm n, d => decide (n < d)
  | lt _, _ => true
  | fn b, d => b.closedN (d + 1)
  | ap f a, d => f.closedN d && a.closedN d
end Tm

/-- the places, from k on, of the items with a property -/
def idxFrom {α : Type} (p : α → Bool) : Nat → List α → List Nat
  | _, [] => []
  | k, x :: xs => if p x then k :: idxFrom p (k + 1) xs else idxFrom p (k + 1) xs
theorem idxFrom_append {α : Type} (p : α → Bool) : ∀ (k : Nat) (xs ys : List α), idxFrom p k (xs ++ ys) = idxFrom p k xs ++ idxFrom p (k + xs.length) ys
  | k, [], ys => by simp [idxFrom]
  | k, x :: xs, ys => by
    have ih := idxFrom_append p (k + 1) xs ys
    have e : k + 1 + xs.length = k + (x :: xs).length := by rw [List.length_cons]; omega
    rw [e] at ih
    show (if p x then k :: idxFrom p (k + 1) (xs ++ ys) else idxFrom p (k + 1) (xs ++ ys)) = (if p x then k :: idxFrom p (k + 1) xs else idxFrom p (k + 1) xs) ++ _
    rw [ih]
    split <;> rfl
theorem idxFrom_take {α : Type} (p : α → Bool) (xs : List α) (i : Nat) (x : α) (h : xs[i]? = some x) : idxFrom p 0 (xs.take (i + 1)) = if p x then idxFrom p 0 (xs.take i) ++ [i] else idxFrom p 0 (xs.take i) := by
  obtain ⟨hi, e⟩ := List.getElem?_eq_some_iff.mp h
  rw [List.take_add_one, h, idxFrom_append]
  have el : (xs.take i).length = i := by rw [List.length_take]; omega
  rw [el]
  show idxFrom p 0 (xs.take i) ++ (if p x then (0 + i) :: [] else []) = _
  split
  · rw [Nat.zero_add]
  · rw [List.append_nil]

namespace Tm
theorem size_pos (t : Tm) : 0 < t.size := by cases t <;> simp only [size] <;> omega
theorem height_pos (t : Tm) : 0 < t.height := by cases t <;> simp only [height] <;> omega
theorem parts_length : ∀ t : Tm, t.parts.length = t.size
  | nm _ => rfl
  | lt _ => rfl
  | fn b => by
    show b.parts.length + 1 = 1 + b.size
    rw [parts_length b]; omega
  | ap f a => by
    show (f.parts ++ a.parts).length + 1 = 1 + (f.size + a.size)
    rw [List.length_append, parts_length f, parts_length a]; omega
/-- the redexes, ascending -/
def redNodes (t : Tm) : List Nat := idxFrom isRed 0 t.parts
theorem parts_redAt : ∀ (t : Tm) (n : Nat), t.redAt n = ((t.parts)[n]?.map isRed).getD false
  | nm k, 0 => rfl
  | lt k, 0 => rfl
  | nm k, n + 1 => rfl
  | lt k, n + 1 => rfl
  | fn b, 0 => rfl
  | fn b, n + 1 => by
    show b.redAt n = ((fn b :: b.parts)[n + 1]?.map isRed).getD false
    rw [List.getElem?_cons_succ]
    exact parts_redAt b n
  | ap f a, 0 => rfl
  | ap f a, n + 1 => by
    show (if n < f.size then f.redAt n else a.redAt (n - f.size)) = ((ap f a :: (f.parts ++ a.parts))[n + 1]?.map isRed).getD false
    rw [List.getElem?_cons_succ]
    by_cases h : n < f.size
    · rw [if_pos h, List.getElem?_append_left (by rw [parts_length]; exact h)]
      exact parts_redAt f n
    · rw [if_neg h, List.getElem?_append_right (by rw [parts_length]; omega), parts_length]
      exact parts_redAt a (n - f.size)
theorem redAt_lt {t : Tm} {n : Nat} (h : t.redAt n = true) : n < t.size := by
  rw [parts_redAt] at h
  by_cases hn : n < t.parts.length
  · rwa [parts_length] at hn
  · rw [List.getElem?_eq_none (by omega)] at h; cases h
/-- the redex that stands at a node -/
theorem redAt_part {t : Tm} {n : Nat} (h : t.redAt n = true) : ∃ b a, t.parts[n]? = some (ap (fn b) a) := by
  rw [parts_redAt] at h
  cases q : t.parts[n]? with
  | none => rw [q] at h; cases h
  | some p =>
    rw [q] at h
    have h : p.isRed = true := h
    cases p with
    | ap f a =>
      cases f with
      | fn b => exact ⟨b, a, rfl⟩
      | nm _ => cases h
      | lt _ => cases h
      | ap _ _ => cases h
    | nm _ => cases h
    | lt _ => cases h
    | fn _ => cases h
theorem step_putAt : ∀ (t : Tm) (n : Nat) (p : Tm), t.parts[n]? = some p → t.step n = t.putAt n p.contract
  | nm k, 0, p, h => by cases h; rfl
  | lt k, 0, p, h => by cases h; rfl
  | fn b, 0, p, h => by cases h; rfl
  | ap f a, 0, p, h => by
    cases h
    show (ap f a).contract = _
    rfl
  | nm k, n + 1, p, h => by cases h
  | lt k, n + 1, p, h => by cases h
  | fn b, n + 1, p, h => by
    show fn (b.step n) = fn (b.putAt n p.contract)
    rw [step_putAt b n p (by simpa [parts] using h)]
  | ap f a, n + 1, p, h => by
    have h : (f.parts ++ a.parts)[n]? = some p := h
    show (if n < f.size then ap (f.step n) a else ap f (a.step (n - f.size))) = (if n < f.size then ap (f.putAt n p.contract) a else ap f (a.putAt (n - f.size) p.contract))
    by_cases hn : n < f.size
    · rw [if_pos hn, if_pos hn]
      rw [List.getElem?_append_left (by rw [parts_length]; exact hn)] at h
      rw [step_putAt f n p h]
    · rw [if_neg hn, if_neg hn]
      rw [List.getElem?_append_right (by rw [parts_length]; omega), parts_length] at h
      rw [step_putAt a _ p h]
theorem height_part : ∀ (t : Tm) (n : Nat) (p : Tm), t.parts[n]? = some p → p.height ≤ t.height ∧ p.size ≤ t.size
  | nm k, 0, p, h => by cases h; exact ⟨Nat.le_refl _, Nat.le_refl _⟩
  | lt k, 0, p, h => by cases h; exact ⟨Nat.le_refl _, Nat.le_refl _⟩
  | fn b, 0, p, h => by cases h; exact ⟨Nat.le_refl _, Nat.le_refl _⟩
  | ap f a, 0, p, h => by cases h; exact ⟨Nat.le_refl _, Nat.le_refl _⟩
  | nm k, n + 1, p, h => by cases h
  | lt k, n + 1, p, h => by cases h
  | fn b, n + 1, p, h => by
    have q := height_part b n p (by simpa [parts] using h)
    simp only [height, size]; omega
  | ap f a, n + 1, p, h => by
    have h : (f.parts ++ a.parts)[n]? = some p := h
    by_cases hn : n < f.size
    · rw [List.getElem?_append_left (by rw [parts_length]; exact hn)] at h
      have q := height_part f n p h
      simp only [height, size]; omega
    · rw [List.getElem?_append_right (by rw [parts_length]; omega), parts_length] at h
      have q := height_part a _ p h
      simp only [height, size]; omega
theorem part_end : ∀ (t : Tm) (n : Nat) (p : Tm), t.parts[n]? = some p → n + p.size ≤ t.size
  | nm k, 0, p, h => by cases h; simp
  | lt k, 0, p, h => by cases h; simp
  | fn b, 0, p, h => by cases h; simp
  | ap f a, 0, p, h => by cases h; simp
  | nm k, n + 1, p, h => by cases h
  | lt k, n + 1, p, h => by cases h
  | fn b, n + 1, p, h => by
    have q := part_end b n p (by simpa [parts] using h)
    simp only [size]; omega
  | ap f a, n + 1, p, h => by
    have h : (f.parts ++ a.parts)[n]? = some p := h
    by_cases hn : n < f.size
    · rw [List.getElem?_append_left (by rw [parts_length]; exact hn)] at h
      have q := part_end f n p h
      simp only [size]; omega
    · rw [List.getElem?_append_right (by rw [parts_length]; omega), parts_length] at h
      have q := part_end a _ p h
      simp only [size]; omega
theorem size_lift : ∀ (t : Tm) (m c : Nat), (t.lift m c).size = t.size
  | nm n, m, c => by unfold lift; split <;> rfl
  | lt _, _, _ => rfl
  | fn b, m, c => by
    show 1 + (b.lift m (c + 1)).size = 1 + b.size
    rw [size_lift b]
  | ap f a, m, c => by
    show 1 + ((f.lift m c).size + (a.lift m c).size) = _
    rw [size_lift f, size_lift a] <;> rfl
theorem height_lift : ∀ (t : Tm) (m c : Nat), (t.lift m c).height = t.height
  | nm n, m, c => by unfold lift; split <;> rfl
  | lt _, _, _ => rfl
  | fn b, m, c => by
    show 1 + (b.lift m (c + 1)).height = 1 + b.height
    rw [height_lift b]
  | ap f a, m, c => by
    show 1 + max (f.lift m c).height (a.lift m c).height = _
    rw [height_lift f, height_lift a] <;> rfl
/-- the size of a body with an argument put -/
theorem size_put : ∀ (b u : Tm) (d : Nat), (b.put u d).size = b.size + b.stands d * (u.size - 1)
  | nm n, u, d => by
    have hp := u.size_pos
    unfold put stands
    by_cases h : n = d
    · rw [if_pos h, if_pos h, size_lift]; simp only [size]; omega
    · rw [if_neg h, if_neg h]; split <;> simp [size]
  | lt _, u, d => by simp [put, stands, size]
  | fn b, u, d => by
    show 1 + (b.put u (d + 1)).size = 1 + b.size + b.stands (d + 1) * (u.size - 1)
    rw [size_put b]; omega
  | ap f a, u, d => by
    show 1 + ((f.put u d).size + (a.put u d).size) = 1 + (f.size + a.size) + (f.stands d + a.stands d) * (u.size - 1)
    rw [size_put f, size_put a, Nat.add_mul]; omega
theorem stands_le : ∀ (b : Tm) (d : Nat), b.stands d ≤ b.size
  | nm n, d => by unfold stands; split <;> simp [size]
  | lt _, d => by simp [stands, size]
  | fn b, d => by have := stands_le b (d + 1); simp only [stands, size]; omega
  | ap f a, d => by have := stands_le f d; have := stands_le a d; simp only [stands, size]; omega
theorem size_contract {b a : Tm} : (contract (ap (fn b) a)).size = sizeBehind (ap (fn b) a) := size_put b a 0
theorem size_putAt : ∀ (t : Tm) (n : Nat) (p q : Tm), t.parts[n]? = some p → (t.putAt n q).size + p.size = t.size + q.size
  | nm k, 0, p, q, h => by cases h; exact Nat.add_comm _ _
  | lt k, 0, p, q, h => by cases h; exact Nat.add_comm _ _
  | fn b, 0, p, q, h => by cases h; exact Nat.add_comm _ _
  | ap f a, 0, p, q, h => by cases h; exact Nat.add_comm _ _
  | nm k, n + 1, p, q, h => by cases h
  | lt k, n + 1, p, q, h => by cases h
  | fn b, n + 1, p, q, h => by
    have r := size_putAt b n p q (by simpa [parts] using h)
    show 1 + (b.putAt n q).size + p.size = 1 + b.size + q.size
    omega
  | ap f a, n + 1, p, q, h => by
    have h : (f.parts ++ a.parts)[n]? = some p := h
    show (if n < f.size then ap (f.putAt n q) a else ap f (a.putAt (n - f.size) q)).size + p.size = 1 + (f.size + a.size) + q.size
    by_cases hn : n < f.size
    · rw [if_pos hn]
      rw [List.getElem?_append_left (by rw [parts_length]; exact hn)] at h
      have r := size_putAt f n p q h
      show 1 + ((f.putAt n q).size + a.size) + p.size = _
      omega
    · rw [if_neg hn]
      rw [List.getElem?_append_right (by rw [parts_length]; omega), parts_length] at h
      have r := size_putAt a _ p q h
      show 1 + (f.size + (a.putAt (n - f.size) q).size) + p.size = _
      omega
/-- the size of the term behind a step, as the program reckons it ahead -/
theorem size_step {t : Tm} {n : Nat} {b a : Tm} (h : t.parts[n]? = some (ap (fn b) a)) : t.size - (ap (fn b) a).size + (ap (fn b) a).sizeBehind = (t.step n).size := by
  rw [step_putAt t n _ h]
  have r := size_putAt t n _ (contract (ap (fn b) a)) h
  have s := (height_part t n _ h).2
  rw [size_contract] at r
  omega
/-- the nodes of which those of a body behind the step are copies -/
def bo : Tm → Nat → Nat → List Nat → List Nat
  | nm k, d, p, arg => if k = d then arg else [p]
  | lt _, _, p, _ => [p]
  | fn b, d, p, arg => p :: b.bo (d + 1) (p + 1) arg
  | ap f a, d, p, arg => p :: (f.bo d (p + 1) arg ++ a.bo d (p + 1 + f.size) arg)
/-- the nodes of which those behind a step are copies -/
def origins (t : Tm) (n : Nat) : List Nat := match t.parts[n]? with
  | some (ap (fn b) a) => List.range n ++ b.bo 0 (n + 2) (List.range' (n + 2 + b.size) a.size) ++ List.range' (n + 2 + b.size + a.size) (t.size - (n + 2 + b.size + a.size))
  | _ => []
theorem bo_length : ∀ (b : Tm) (d p : Nat) (arg : List Nat), (b.bo d p arg).length = b.size + b.stands d * arg.length - b.stands d
  | nm k, d, p, arg => by
    unfold bo stands size
    split
    · omega
    · simp
  | lt _, d, p, arg => by simp [bo, stands, size]
  | fn b, d, p, arg => by
    have ih := bo_length b (d + 1) (p + 1) arg
    have le := stands_le b (d + 1)
    simp only [bo, stands, size, List.length_cons, ih]
    omega
  | ap f a, d, p, arg => by
    have i1 := bo_length f d (p + 1) arg
    have i2 := bo_length a d (p + 1 + f.size) arg
    have l1 := stands_le f d
    have l2 := stands_le a d
    simp only [bo, stands, size, List.length_cons, List.length_append, i1, i2, Nat.add_mul]
    omega
theorem bo_le (b : Tm) (d p : Nat) (arg : List Nat) : (b.bo d p arg).length ≤ b.size * (arg.length + 1) := by
  rw [bo_length]
  have h := Nat.mul_le_mul_right arg.length (stands_le b d)
  rw [Nat.mul_add]
  omega
/-- parts one behind the other -/
def boIn : List Tm → Nat → Nat → List Nat → List Nat
  | [], _, _, _ => []
  | u :: us, d, p, arg => u.bo d (p + 1) arg ++ boIn us d (p + u.size) arg
def sizes (ts : List Tm) : Nat := (ts.map size).sum
theorem boIn_snoc : ∀ (ts : List Tm) (u : Tm) (d p : Nat) (arg : List Nat), boIn (ts ++ [u]) d p arg = boIn ts d p arg ++ u.bo d (p + sizes ts + 1) arg
  | [], u, d, p, arg => by simp [boIn, sizes]
  | t :: ts, u, d, p, arg => by
    have ih := boIn_snoc ts u d (p + t.size) arg
    have e : p + t.size + sizes ts + 1 = p + sizes (t :: ts) + 1 := by simp [sizes]; omega
    rw [e] at ih
    show t.bo d (p + 1) arg ++ boIn (ts ++ [u]) d (p + t.size) arg = _
    rw [ih, ← List.append_assoc]
    rfl
theorem sizes_snoc (ts : List Tm) (u : Tm) : sizes (ts ++ [u]) = sizes ts + u.size := by simp [sizes]
theorem bo_eq {t : Tm} {d p : Nat} {arg : List Nat} (h : t ≠ nm d) : t.bo d p arg = p :: boIn t.inner (if t.isFn then d + 1 else d) p arg := by
  cases t with
  | nm k =>
    have hk : ¬ k = d := fun e => h (by rw [e])
    simp [bo, inner, boIn, hk]
  | lt _ => rfl
  | fn b => simp [bo, inner, boIn, isFn]
  | ap f a =>
    have e : p + 1 + f.size = p + f.size + 1 := by omega
    simp [bo, inner, boIn, isFn, e]
theorem boIn_le : ∀ (ts : List Tm) (d p : Nat) (arg : List Nat), (boIn ts d p arg).length ≤ sizes ts * (arg.length + 1)
  | [], _, _, _ => Nat.zero_le _
  | t :: ts, d, p, arg => by
    have h1 := bo_le t d (p + 1) arg
    have h2 := boIn_le ts d (p + t.size) arg
    have e : sizes (t :: ts) = t.size + sizes ts := by simp [sizes]
    rw [e, Nat.add_mul]
    show (t.bo d (p + 1) arg ++ boIn ts d (p + t.size) arg).length ≤ _
    rw [List.length_append]
    omega
theorem sizes_take (t : Tm) (i : Nat) : sizes (t.inner.take i) + 1 ≤ t.size := by
  cases t with
  | nm _ => simp [inner, sizes, size]
  | lt _ => simp [inner, sizes, size]
  | fn b =>
    cases i with
    | zero => simp [sizes, size]
    | succ i => simp [inner, sizes, size]; omega
  | ap f a =>
    match i with
    | 0 => simp [sizes, size]
    | 1 => simp [inner, sizes, size]; omega
    | i + 2 => simp [inner, sizes, size]; omega
theorem height_le_size : ∀ t : Tm, t.height ≤ t.size
  | nm _ => Nat.le_refl _
  | lt _ => Nat.le_refl _
  | fn b => by have := height_le_size b; simp only [height, size]; omega
  | ap f a => by have := height_le_size f; have := height_le_size a; simp only [height, size]; omega
/-- what is left of a lot behind the step at a redex -/
def leftIn (t : Tm) (n : Nat) (lot : List Nat) : List Nat :=
  if lot.filter (fun o => !decide (o = n)) = [] then [] else idxFrom (fun o => (lot.filter fun o => !decide (o = n)).contains o) 0 (t.origins n)

theorem idxFrom_none {α : Type} (p : α → Bool) : ∀ (k : Nat) (l : List α), (∀ x ∈ l, p x = false) → idxFrom p k l = []
  | _, [], _ => rfl
  | k, x :: l, h => by
    unfold idxFrom
    rw [h x (List.mem_cons_self ..), if_neg Bool.false_ne_true]
    exact idxFrom_none p (k + 1) l fun y hy => h y (List.mem_cons_of_mem _ hy)
theorem idxFrom_range (p : Nat → Bool) (n : Nat) : idxFrom p 0 (List.range n) = (List.range n).filter p := by
  induction n with
  | zero => rfl
  | succ n ih =>
    rw [List.range_succ, idxFrom_append, ih, List.filter_append, List.length_range, Nat.zero_add]
    congr 1
    cases h : p n <;> simp [idxFrom, h]
/-- a descending list of numbers below n -/
theorem filt : ∀ (k : List Nat) (n : Nat), k.Pairwise (· > ·) → (∀ m ∈ k, m < n) → (List.range n).filter (fun o => k.contains o) = k.reverse
  | [], n, _, _ => by simp
  | m :: k, n, h, hn => by
    have hm : m < n := hn m (List.mem_cons_self ..)
    obtain ⟨h1, h2⟩ := List.pairwise_cons.mp h
    have ih := filt k m h2 h1
    obtain ⟨j, rfl⟩ : ∃ j, n = m + (1 + j) := ⟨n - m - 1, by omega⟩
    have e : List.range (m + (1 + j)) = List.range m ++ ([m] ++ List.range' (m + 1) j) := by
      rw [List.range_eq_range', List.range_eq_range', ← List.range'_append_1, ← List.range'_append_1, Nat.zero_add]
      rfl
    rw [e, List.filter_append, List.filter_append, List.reverse_cons]
    have e1 : (List.range m).filter (fun o => (m :: k).contains o) = (List.range m).filter (fun o => k.contains o) := by
      refine List.filter_congr fun x hx => ?_
      have hx : x < m := List.mem_range.mp hx
      have hne : (x == m) = false := beq_eq_false_iff_ne.mpr (by omega)
      rw [List.contains_cons, hne, Bool.false_or]
    have e2 : [m].filter (fun o => (m :: k).contains o) = [m] := by simp
    have e3 : (List.range' (m + 1) j).filter (fun o => (m :: k).contains o) = [] := by
      rw [List.filter_eq_nil_iff]
      intro x hx hc
      have hx1 : m + 1 ≤ x := (List.mem_range'_1.mp hx).1
      have hc : x ∈ m :: k := by simpa using hc
      rcases List.mem_cons.mp hc with rfl | hc
      · omega
      · have := h1 x hc
        omega
    rw [e1, e2, e3, ih, List.append_nil]
theorem bo_ge : ∀ (b : Tm) (d p : Nat) (arg : List Nat) (x : Nat), x ∈ b.bo d p arg → p ≤ x ∨ x ∈ arg
  | nm k, d, p, arg, x, h => by
    unfold bo at h
    split at h
    · exact .inr h
    · rw [List.mem_singleton] at h; exact .inl (by omega)
  | lt _, d, p, arg, x, h => by
    rw [bo, List.mem_singleton] at h
    exact .inl (by omega)
  | fn b, d, p, arg, x, h => by
    rw [bo] at h
    rcases List.mem_cons.mp h with h | h
    · exact .inl (by omega)
    · rcases bo_ge b _ _ _ _ h with h | h
      · exact .inl (by omega)
      · exact .inr h
  | ap f a, d, p, arg, x, h => by
    rw [bo] at h
    rcases List.mem_cons.mp h with h | h
    · exact .inl (by omega)
    · rcases List.mem_append.mp h with h | h
      · rcases bo_ge f _ _ _ _ h with h | h
        · exact .inl (by omega)
        · exact .inr h
      · rcases bo_ge a _ _ _ _ h with h | h
        · exact .inl (by omega)
        · exact .inr h
/-- behind the step at the greatest of a lot the others are left as they are -/
theorem leftIn_last {t : Tm} {n : Nat} {l : List Nat} (hr : t.redAt n = true) (ha : (l ++ [n]).Pairwise (· < ·)) : t.leftIn n (l ++ [n]) = l := by
  obtain ⟨b, a, ep⟩ := redAt_part hr
  have hlt : ∀ m ∈ l, m < n := fun m hm => (List.pairwise_append.mp ha).2.2 m hm n (List.mem_singleton.mpr rfl)
  have hf : (l ++ [n]).filter (fun o => !decide (o = n)) = l := by
    rw [List.filter_append]
    have e1 : l.filter (fun o => !decide (o = n)) = l := List.filter_eq_self.mpr fun m hm => by
      have := hlt m hm
      simp; omega
    rw [e1]
    simp
  unfold leftIn
  rw [hf]
  split
  · rename_i h; exact h.symm
  · unfold origins
    rw [ep]
    show idxFrom (fun o => l.contains o) 0 (List.range n ++ b.bo 0 (n + 2) (List.range' (n + 2 + b.size) a.size) ++ List.range' (n + 2 + b.size + a.size) (t.size - (n + 2 + b.size + a.size))) = l
    have hno : ∀ x, n ≤ x → l.contains x = false := fun x hx => by
      cases q : l.contains x with
      | false => rfl
      | true =>
        have := hlt x (by simpa using q)
        omega
    have hd : l.reverse.Pairwise (· > ·) := List.pairwise_reverse.mpr (List.pairwise_append.mp ha).1
    rw [List.append_assoc, idxFrom_append, idxFrom_range, idxFrom_none, List.append_nil]
    · have e := filt l.reverse n hd fun m hm => hlt m (List.mem_reverse.mp hm)
      rw [List.reverse_reverse] at e
      refine Eq.trans (List.filter_congr fun x _ => ?_) e
      rw [List.contains_reverse]
    · intro x hx
      rcases List.mem_append.mp hx with hx | hx
      · rcases bo_ge _ _ _ _ _ hx with h | h
        · exact hno x (by omega)
        · exact hno x (by have := (List.mem_range'_1.mp h).1; omega)
      · exact hno x (by have := (List.mem_range'_1.mp hx).1; omega)
theorem origins_le {t : Tm} {n : Nat} (hz : t.size ≤ 900) : (t.origins n).length ≤ 820000 := by
  unfold origins
  split
  · rename_i b a ep
    obtain ⟨_, hpz⟩ := height_part t n _ ep
    have he := part_end t n _ ep
    simp only [size] at hpz he
    have h1 := bo_le b 0 (n + 2) (List.range' (n + 2 + b.size) a.size)
    rw [List.length_range'] at h1
    have h2 : b.size * (a.size + 1) ≤ 900 * 900 := Nat.mul_le_mul (by omega) (by omega)
    rw [List.length_append, List.length_append, List.length_range, List.length_range']
    omega
  · exact Nat.zero_le _
theorem idxFrom_le {α : Type} (p : α → Bool) : ∀ (k : Nat) (l : List α), (idxFrom p k l).length ≤ l.length
  | _, [] => Nat.le_refl _
  | k, x :: l => by
    have ih := idxFrom_le p (k + 1) l
    unfold idxFrom
    split <;> simp only [List.length_cons] <;> omega
theorem leftIn_le {t : Tm} {n : Nat} {l : List Nat} (hz : t.size ≤ 900) : (t.leftIn n l).length ≤ 820000 := by
  unfold leftIn
  split
  · exact Nat.zero_le _
  · exact Nat.le_trans (idxFrom_le _ _ _) (origins_le hz)
/-! ### ways -/
def steps (t : Tm) (ws : List Nat) : Tm := ws.foldl step t
theorem steps_append (t : Tm) (a b : List Nat) : t.steps (a ++ b) = (t.steps a).steps b := List.foldl_append
/-- the terms along a way -/
def trail : Tm → List Nat → List Tm
  | t, [] => [t]
  | t, n :: ws => t :: (t.step n).trail ws
theorem trail_snoc : ∀ (t : Tm) (ws : List Nat) (n : Nat), t.trail (ws ++ [n]) = t.trail ws ++ [(t.steps ws).step n]
  | t, [], n => rfl
  | t, m :: ws, n => by
    show t :: (t.step m).trail (ws ++ [n]) = t :: (t.step m).trail ws ++ [((t.step m).steps ws).step n]
    rw [trail_snoc (t.step m) ws n] <;> rfl
theorem trail_length : ∀ (t : Tm) (ws : List Nat), (t.trail ws).length = ws.length + 1
  | t, [] => rfl
  | t, n :: ws => congrArg (· + 1) (trail_length (t.step n) ws)
theorem trail_get : ∀ (t : Tm) (a b : List Nat), (t.trail (a ++ b))[a.length]? = some (t.steps a)
  | t, [], [] => rfl
  | t, [], n :: b => rfl
  | t, m :: a, b => by
    show (t :: (t.step m).trail (a ++ b))[a.length + 1]? = _
    rw [List.getElem?_cons_succ]
    exact trail_get (t.step m) a b
def Small (t : Tm) : Prop := t.size ≤ 600 ∧ t.height ≤ 60
/-- each step is at a redex, and not too great -/
def WaySm : Tm → List Nat → Prop
  | _, [] => True
  | t, n :: ws => t.redAt n = true ∧ Small (t.step n) ∧ (t.step n).WaySm ws
theorem WaySm.append : ∀ {t : Tm} {a b : List Nat}, t.WaySm a → (t.steps a).WaySm b → t.WaySm (a ++ b)
  | _, [], _, _, h => h
  | _, _ :: _, _, ⟨h1, h2, h3⟩, h => ⟨h1, h2, WaySm.append h3 h⟩
theorem WaySm.left : ∀ {t : Tm} {a b : List Nat}, t.WaySm (a ++ b) → t.WaySm a
  | _, [], _, _ => trivial
  | _, _ :: _, _, ⟨h1, h2, h3⟩ => ⟨h1, h2, WaySm.left h3⟩
theorem WaySm.right : ∀ {t : Tm} {a b : List Nat}, t.WaySm (a ++ b) → (t.steps a).WaySm b
  | _, [], _, h => h
  | t, n :: a, b, ⟨_, _, h3⟩ => WaySm.right (t := t.step n) (a := a) (b := b) h3
theorem WaySm.small : ∀ {t : Tm} {a : List Nat}, Small t → t.WaySm a → Small (t.steps a)
  | _, [], s, _ => s
  | t, n :: a, _, ⟨_, h2, h3⟩ => WaySm.small (t := t.step n) (a := a) h2 h3
/-- what is left of a lot along a way -/
def leftThrough : Tm → List Nat → List Nat → List Nat
  | _, [], lot => lot
  | t, n :: ws, lot => (t.step n).leftThrough ws (t.leftIn n lot)
theorem leftThrough_append : ∀ (t : Tm) (a b lot : List Nat), t.leftThrough (a ++ b) lot = (t.steps a).leftThrough b (t.leftThrough a lot)
  | _, [], _, _ => rfl
  | t, n :: a, b, lot => leftThrough_append (t.step n) a b (t.leftIn n lot)
theorem leftThrough_le : ∀ {t : Tm} {ws lot : List Nat}, Small t → t.WaySm ws → lot.length ≤ 820000 → (t.leftThrough ws lot).length ≤ 820000
  | _, [], _, _, _, h => h
  | t, n :: ws, _, s, ⟨_, h2, h3⟩, _ => leftThrough_le (t := t.step n) (ws := ws) h2 h3 (leftIn_le (Nat.le_trans s.1 (by decide)))
/-- a lot that can be developed, the greatest first -/
def DevOK (t : Tm) (lot : List Nat) : Prop := lot.Pairwise (· < ·) ∧ t.WaySm lot.reverse
def rowBehind : Tm → List (List Nat) → List Nat → List (List Nat) × List Nat
  | _, [], lot => ([], lot)
  | t, own :: row, lot => (t.leftThrough lot.reverse own :: ((t.steps own.reverse).rowBehind row (t.leftThrough own.reverse lot)).1, ((t.steps own.reverse).rowBehind row (t.leftThrough own.reverse lot)).2)
def RowOK : Tm → List (List Nat) → List Nat → Prop
  | _, [], _ => True
  | t, own :: row, lot => t.DevOK lot ∧ t.DevOK own ∧ (t.steps own.reverse).RowOK row (t.leftThrough own.reverse lot)
def wayOf : Tm → List (List Nat) → List Nat
  | _, [] => []
  | t, lot :: row => lot.reverse ++ (t.steps lot.reverse).wayOf row
def WayOfOK : Tm → List (List Nat) → Prop
  | _, [] => True
  | t, lot :: row => t.DevOK lot ∧ (t.steps lot.reverse).WayOfOK row
/-- how many redexes a row has -/
def rowSum (row : List (List Nat)) : Nat := (row.map List.length).sum
def rowOf (ws : List Nat) : List (List Nat) := ws.map fun n => [n]

/-- the term behind a row -/
def rowEnd (t : Tm) (row : List (List Nat)) : Tm := row.foldl (fun t own => t.steps own.reverse) t
theorem rowEnd_append (t : Tm) (a b : List (List Nat)) : t.rowEnd (a ++ b) = (t.rowEnd a).rowEnd b := List.foldl_append
theorem rowBehind_append : ∀ (t : Tm) (a b : List (List Nat)) (lot : List Nat), t.rowBehind (a ++ b) lot = ((t.rowBehind a lot).1 ++ ((t.rowEnd a).rowBehind b (t.rowBehind a lot).2).1, ((t.rowEnd a).rowBehind b (t.rowBehind a lot).2).2)
  | _, [], _, _ => rfl
  | t, own :: a, b, lot => by
    have ih := rowBehind_append (t.steps own.reverse) a b (t.leftThrough own.reverse lot)
    show (t.leftThrough lot.reverse own :: ((t.steps own.reverse).rowBehind (a ++ b) (t.leftThrough own.reverse lot)).1, ((t.steps own.reverse).rowBehind (a ++ b) (t.leftThrough own.reverse lot)).2) = _
    rw [ih]
    rfl
theorem RowOK.right : ∀ {t : Tm} {a b : List (List Nat)} {lot : List Nat}, t.RowOK (a ++ b) lot → (t.rowEnd a).RowOK b (t.rowBehind a lot).2
  | _, [], _, _, h => h
  | t, own :: a, b, lot, ⟨_, _, h⟩ => RowOK.right (t := t.steps own.reverse) (a := a) (b := b) (lot := t.leftThrough own.reverse lot) h
theorem RowOK.small : ∀ {t : Tm} {a b : List (List Nat)} {lot : List Nat}, t.Small → lot.length ≤ 820000 → t.RowOK (a ++ b) lot → (t.rowEnd a).Small ∧ (t.rowBehind a lot).2.length ≤ 820000
  | _, [], _, _, s, h, _ => ⟨s, h⟩
  | t, own :: a, b, lot, s, hl, ⟨_, d, h⟩ => RowOK.small (t := t.steps own.reverse) (a := a) (b := b) (lot := t.leftThrough own.reverse lot) (WaySm.small s d.2) (leftThrough_le s d.2 hl) h
theorem wayOf_append : ∀ (t : Tm) (a b : List (List Nat)), t.wayOf (a ++ b) = t.wayOf a ++ (t.rowEnd a).wayOf b
  | _, [], _ => rfl
  | t, lot :: a, b => by
    show lot.reverse ++ (t.steps lot.reverse).wayOf (a ++ b) = lot.reverse ++ (t.steps lot.reverse).wayOf a ++ _
    rw [wayOf_append (t.steps lot.reverse) a b, List.append_assoc]
    rfl
theorem WayOfOK.right : ∀ {t : Tm} {a b : List (List Nat)}, t.WayOfOK (a ++ b) → (t.rowEnd a).WayOfOK b
  | _, [], _, h => h
  | t, lot :: a, b, ⟨_, h⟩ => WayOfOK.right (t := t.steps lot.reverse) (a := a) (b := b) h
theorem WayOfOK.small : ∀ {t : Tm} {a b : List (List Nat)}, t.Small → t.WayOfOK (a ++ b) → (t.rowEnd a).Small
  | _, [], _, s, _ => s
  | t, lot :: a, b, s, ⟨d, h⟩ => WayOfOK.small (t := t.steps lot.reverse) (a := a) (b := b) (WaySm.small s d.2) h
theorem wayOf_length (t : Tm) (row : List (List Nat)) : (t.wayOf row).length = rowSum row := by
  induction row generalizing t with
  | nil => rfl
  | cons l r ih =>
    show (l.reverse ++ (t.steps l.reverse).wayOf r).length = _
    rw [List.length_append, List.length_reverse, ih]
    simp [rowSum]
theorem rowSum_append (a b : List (List Nat)) : rowSum (a ++ b) = rowSum a + rowSum b := by simp [rowSum]

/-- is some step of a way at a redex of what is left of a lot? -/
def isDone : Tm → List Nat → List Nat → Bool
  | _, [], _ => false
  | t, n :: ws, lot => if lot.contains n then true else (t.step n).isDone ws (t.leftIn n lot)
def doneFirst (t : Tm) (ws : List Nat) : Option Nat := t.redNodes.find? fun r => t.isDone ws [r]
/-- each step is at the least redex -/
def Firsts : Tm → List Nat → Prop
  | _, [] => True
  | t, n :: ws => (∀ r ∈ t.redNodes, n ≤ r) ∧ (t.step n).Firsts ws
theorem Firsts.right : ∀ {t : Tm} {a b : List Nat}, t.Firsts (a ++ b) → (t.steps a).Firsts b
  | _, [], _, h => h
  | t, n :: a, b, ⟨_, h⟩ => Firsts.right (t := t.step n) (a := a) (b := b) h
/-- the tail of a way behind the lot of a redex alone -/
def tailOf (t : Tm) (ws : List Nat) (r : Nat) : List Nat := (t.step r).wayOf (t.rowBehind (rowOf ws) [r]).1
/-- the program sorts a way to L, and nothing comes in its way -/
def Sorts : Tm → List Nat → List Nat → Prop
  | _, ws, [] => ws = []
  | t, ws, r :: L => ws ≠ [] ∧ Small t ∧ t.WaySm ws ∧ ws.length ≤ 200 ∧ t.doneFirst ws = some r ∧ t.redAt r = true ∧ Small (t.step r) ∧ t.RowOK (rowOf ws) [r] ∧ rowSum (t.rowBehind (rowOf ws) [r]).1 ≤ 200 ∧
    (t.step r).WayOfOK (t.rowBehind (rowOf ws) [r]).1 ∧ (t.step r).Sorts (t.tailOf ws r) L

theorem height_put : ∀ (b u : Tm) (d : Nat), (b.put u d).height ≤ b.height + u.height
  | nm n, u, d => by
    unfold put
    split
    · rw [height_lift]; simp only [height]; omega
    · split <;> simp only [height] <;> omega
  | lt _, u, d => by simp only [put, height]; omega
  | fn b, u, d => by have := height_put b u (d + 1); simp only [put, height]; omega
  | ap f a, u, d => by have := height_put f u d; have := height_put a u d; simp only [put, height]; omega
theorem height_step : ∀ (t : Tm) (n : Nat), (t.step n).height ≤ 2 * t.height
  | nm k, 0 => by simp [step, contract, height]
  | lt k, 0 => by simp [step, contract, height]
  | fn b, 0 => by simp only [step, contract, height]; omega
  | ap f a, 0 => by
    cases f with
    | fn b => have := height_put b a 0; simp only [step, contract, height]; omega
    | nm _ => simp only [step, contract, height]; omega
    | lt _ => simp only [step, contract, height]; omega
    | ap _ _ => simp only [step, contract, height]; omega
  | nm k, n + 1 => by simp [step, height]
  | lt k, n + 1 => by simp [step, height]
  | fn b, n + 1 => by have := height_step b n; simp only [step, height]; omega
  | ap f a, n + 1 => by
    have := height_step f n
    have := height_step a (n - f.size)
    simp only [step]
    split <;> simp only [height] <;> omega
theorem size_step_le {t : Tm} {n : Nat} (h : t.redAt n = true) (hz : t.size ≤ 60) : (t.step n).size ≤ 4000 := by
  obtain ⟨b, a, ep⟩ := redAt_part h
  have e := size_step ep
  have q := (height_part t n _ ep).2
  have s := stands_le b 0
  simp only [sizeBehind] at e
  simp only [size] at q e
  have m : b.stands 0 * (a.size - 1) ≤ 60 * 60 := Nat.mul_le_mul (by omega) (by omega)
  omega
/-- the leftmost way to a normal form -/
def Lm : Tm → List Nat → Prop
  | t, [] => t.redNodes = []
  | t, n :: L => t.redNodes.head? = some n ∧ (t.step n).Lm L
/-- a way of small terms -/
def Way60 : Tm → List Nat → Prop
  | _, [] => True
  | t, n :: ws => t.redAt n = true ∧ (t.step n).size ≤ 60 ∧ (t.step n).Way60 ws
theorem Way60.snoc : ∀ {t : Tm} {ws : List Nat} {n : Nat}, t.Way60 ws → (t.steps ws).redAt n = true → ((t.steps ws).step n).size ≤ 60 → t.Way60 (ws ++ [n])
  | _, [], _, _, h1, h2 => ⟨h1, h2, trivial⟩
  | t, m :: ws, n, ⟨g1, g2, g3⟩, h1, h2 => ⟨g1, g2, Way60.snoc (t := t.step m) g3 h1 h2⟩
theorem idxFrom_mem {α : Type} (p : α → Bool) : ∀ (k : Nat) (l : List α) (n : Nat), n ∈ idxFrom p k l ↔ k ≤ n ∧ (l[n - k]?.map p).getD false = true
  | k, [], n => by simp [idxFrom]
  | k, x :: l, n => by
    have ih := idxFrom_mem p (k + 1) l n
    by_cases e : n = k
    · subst e
      have h0 : ¬ (n + 1 ≤ n) := by omega
      unfold idxFrom
      cases hp : p x
      · simp only [Bool.false_eq_true, if_false, ih, h0, false_and]
        simp [hp]
      · simp [hp]
    · have hk : (k ≤ n ∧ ((x :: l)[n - k]?.map p).getD false = true) ↔ (k + 1 ≤ n ∧ (l[n - (k + 1)]?.map p).getD false = true) := by
        constructor
        · rintro ⟨h1, h2⟩
          have e1 : n - k = (n - (k + 1)) + 1 := by omega
          rw [e1, List.getElem?_cons_succ] at h2
          exact ⟨by omega, h2⟩
        · rintro ⟨h1, h2⟩
          have e1 : n - k = (n - (k + 1)) + 1 := by omega
          rw [e1, List.getElem?_cons_succ]
          exact ⟨by omega, h2⟩
      have ec : idxFrom p k (x :: l) = if p x then k :: idxFrom p (k + 1) l else idxFrom p (k + 1) l := rfl
      rw [hk, ← ih, ec]
      cases hp : p x
      · simp
      · simp [e]
theorem mem_redNodes {t : Tm} {n : Nat} : n ∈ t.redNodes ↔ t.redAt n = true := by
  rw [redNodes, idxFrom_mem, parts_redAt]
  simp
theorem idxFrom_sorted {α : Type} (p : α → Bool) : ∀ (k : Nat) (l : List α), (idxFrom p k l).Pairwise (· < ·) ∧ ∀ n ∈ idxFrom p k l, k ≤ n
  | k, [] => ⟨List.Pairwise.nil, fun _ h => by cases h⟩
  | k, x :: l => by
    obtain ⟨h1, h2⟩ := idxFrom_sorted p (k + 1) l
    unfold idxFrom
    split
    · refine ⟨List.pairwise_cons.mpr ⟨fun n hn => h2 n hn, h1⟩, fun n hn => ?_⟩
      rcases List.mem_cons.mp hn with rfl | hn
      · exact Nat.le_refl _
      · exact Nat.le_of_succ_le (h2 n hn)
    · exact ⟨h1, fun n hn => Nat.le_of_succ_le (h2 n hn)⟩
/-- the first redex is the least one -/
theorem head_least {t : Tm} {n : Nat} (h : t.redNodes.head? = some n) : t.redAt n = true ∧ ∀ r ∈ t.redNodes, n ≤ r := by
  have hs := (idxFrom_sorted isRed 0 t.parts).1
  cases q : t.redNodes with
  | nil => rw [q] at h; cases h
  | cons m l =>
    rw [q] at h
    cases Option.some.inj h
    refine ⟨mem_redNodes.mp (by rw [q]; exact List.mem_cons_self ..), fun r hr => ?_⟩
    have hs : (n :: l).Pairwise (· < ·) := by rw [← q]; exact hs
    rcases List.mem_cons.mp hr with rfl | hr
    · exact Nat.le_refl _
    · exact Nat.le_of_lt ((List.pairwise_cons.mp hs).1 r hr)
/-! ### the law's terms -/
def fns : Nat → Tm → Tm
  | 0, t => t
  | n + 1, t => fn (fns n t)
def calls (f : Tm) (ts : List Tm) : Tm := ts.foldl ap f
def namesT (m : Nat) (n : Nat) (ns : List Nat) : Tm := fns m (calls (nm n) (ns.map nm))
def numBody : Nat → Tm
  | 0 => nm 0
  | n + 1 => ap (nm 1) (numBody n)
def numT (n : Nat) : Tm := fn (fn (numBody n))
abbrev tA : Tm := lt false
abbrev tB : Tm := lt true
abbrev tOne : Tm := fn (nm 0)
abbrev tK : Tm := fn (fn (nm 1))
abbrev tPair : Tm := fn (ap (nm 0) (nm 0))
abbrev tTwo : Tm := fn (fn (ap (nm 1) (ap (nm 1) (nm 0))))
abbrev tThree : Tm := fn (fn (ap (nm 1) (ap (nm 1) (ap (nm 1) (nm 0)))))
abbrev tSwap : Tm := fn (fn (fn (ap (ap (nm 2) (nm 0)) (nm 1))))
abbrev tDup : Tm := fn (fn (fn (ap (ap (nm 2) (nm 0)) (nm 0))))
abbrev tOmega : Tm := ap tPair tPair
def knowns : List Tm := [ap tOne tA, ap tPair (ap tOne tA), ap (ap tK tA) (ap tPair tPair), ap (ap tTwo tOne) tA,
  ap (ap (ap tTwo tTwo) tOne) tB, ap (ap (ap tSwap tK) tA) tB, ap (ap tThree tTwo) tA, ap (ap tTwo tPair) tA,
  ap tPair (fn (ap tOne (nm 0))), fn (ap tPair (ap tOne (nm 0))), ap tPair (ap tPair tOne), ap (ap (ap tDup tK) tA) (ap tOne tB)]
/-- each fun has its name at most once -/
def affine : Tm → Bool
  | nm _ => true
  | lt _ => true
  | fn b => decide (b.stands 0 ≤ 1) && b.affine
  | ap f a => f.affine && a.affine
/-- how great an affine term of the law's is, so deep -/
def deepSize : Nat → Nat
  | 0 => 1
  | d + 1 => 2 * deepSize d + 2
/-- an affine term with names out of a list -/
structure Aff (ns : List Nat) (d : Nat) (t : Tm) : Prop where
  aff : t.affine = true
  st : ∀ i, t.stands i ≤ ns.count i
  sz : t.size ≤ deepSize d
  ht : t.height ≤ 2 * d + 1
theorem deepSize_pos (d : Nat) : 1 ≤ deepSize d := by cases d <;> simp [deepSize]
theorem Aff.name {n : Nat} {ns : List Nat} {d : Nat} : Aff (n :: ns) d (nm n) :=
  ⟨rfl, fun i => by simp only [stands, List.count_cons]; by_cases h : n = i <;> simp [h], deepSize_pos d, by simp only [height]; omega⟩
theorem Aff.letter {c : Bool} {ns : List Nat} {d : Nat} : Aff ns d (lt c) :=
  ⟨rfl, fun i => Nat.zero_le _, deepSize_pos d, by simp only [height]; omega⟩
theorem count_succ (ns : List Nat) (i : Nat) : (ns.map (· + 1)).count (i + 1) = ns.count i ∧ (ns.map (· + 1)).count 0 = 0 := by
  induction ns with
  | nil => exact ⟨rfl, rfl⟩
  | cons n r ih =>
    rw [List.map_cons, List.count_cons, List.count_cons, List.count_cons, ih.1, ih.2]
    refine ⟨?_, by simp⟩
    by_cases h : n = i <;> simp [h]
theorem Aff.fn {b : Tm} {ns : List Nat} {d : Nat} (h : Aff (0 :: ns.map (· + 1)) d b) : Aff ns (d + 1) (Tm.fn b) := by
  refine ⟨?_, fun i => ?_, ?_, ?_⟩
  · have h0 := h.st 0
    rw [List.count_cons, (count_succ ns 0).2] at h0
    simp at h0
    show (decide (b.stands 0 ≤ 1) && b.affine) = true
    rw [h.aff]
    simp [h0]
  · have hi := h.st (i + 1)
    rw [List.count_cons, (count_succ ns i).1] at hi
    show b.stands (i + 1) ≤ _
    simpa using hi
  · have := h.sz
    have := deepSize_pos d
    simp only [size, deepSize]; omega
  · have := h.ht
    simp only [height]; omega
theorem count_cut (ns : List Nat) (k i : Nat) : ns.count i = (ns.take k).count i + (ns.drop k).count i := by
  rw [← List.count_append, List.take_append_drop]
theorem Aff.call {f a : Tm} {ns : List Nat} {d k : Nat} (hf : Aff (ns.take k) d f) (ha : Aff (ns.drop k) d a) : Aff ns (d + 1) (ap f a) := by
  refine ⟨?_, fun i => ?_, ?_, ?_⟩
  · show (f.affine && a.affine) = true
    rw [hf.aff, ha.aff] <;> rfl
  · have h1 := hf.st i
    have h2 := ha.st i
    have h3 := count_cut ns k i
    simp only [stands]; omega
  · have := hf.sz
    have := ha.sz
    simp only [size, deepSize]; omega
  · have := hf.ht
    have := ha.ht
    simp only [height]; omega
theorem Aff.callFn {b a : Tm} {ns : List Nat} {d k : Nat} (hb : Aff (0 :: (ns.take k).map (· + 1)) d b) (ha : Aff (ns.drop k) d a) : Aff ns (d + 1) (ap (Tm.fn b) a) := by
  have hf := Aff.fn hb
  refine ⟨?_, fun i => ?_, ?_, ?_⟩
  · show ((Tm.fn b).affine && a.affine) = true
    rw [hf.aff, ha.aff] <;> rfl
  · have h1 := hf.st i
    have h2 := ha.st i
    have h3 := count_cut ns k i
    simp only [stands] at h1 ⊢; omega
  · have := hb.sz
    have := ha.sz
    simp only [size, deepSize]; omega
  · have := hb.ht
    have := ha.ht
    simp only [height]; omega
/-- what the law draws -/
def Drawn (t : Tm) : Prop := t ∈ knowns ∨ Aff [] 4 t
/-- what the law tries -/
inductive Wide : Tm → Prop
  | one {t : Tm} : Drawn t → Wide t
  | call {t u : Tm} : Drawn t → Drawn u → t.size + u.size ≤ 24 → Wide (ap t u)
  | fcall {t u : Tm} : Drawn t → Drawn u → t.size + u.size ≤ 24 → Wide (fn (ap t u))
  | pair {t : Tm} : Drawn t → t.size ≤ 23 → Wide (ap tPair t)
  | k {t : Tm} : Drawn t → t.size ≤ 23 → Wide (ap tK t)
  | drop {t u : Tm} : Drawn t → Drawn u → t.size + u.size ≤ 24 → Wide (ap (fn t) u)
end Tm
end Sf
/-! SfM2: what is computed: the law's endless terms. -/
namespace Sf
namespace Tm
instance decSmall (t : Tm) : Decidable (Small t) := inferInstanceAs (Decidable (_ ∧ _))
instance decWaySm : ∀ (t : Tm) (ws : List Nat), Decidable (t.WaySm ws)
  | _, [] => isTrue trivial
  | t, n :: ws => by
    have := decWaySm (t.step n) ws
    exact inferInstanceAs (Decidable (_ ∧ _ ∧ _))
instance decDevOK (t : Tm) (lot : List Nat) : Decidable (t.DevOK lot) := inferInstanceAs (Decidable (_ ∧ _))
instance decRowOK : ∀ (t : Tm) (row : List (List Nat)) (lot : List Nat), Decidable (t.RowOK row lot)
  | _, [], _ => isTrue trivial
  | t, own :: row, lot => by
    have := decRowOK (t.steps own.reverse) row (t.leftThrough own.reverse lot)
    exact inferInstanceAs (Decidable (_ ∧ _ ∧ _))
instance decWayOfOK : ∀ (t : Tm) (row : List (List Nat)), Decidable (t.WayOfOK row)
  | _, [] => isTrue trivial
  | t, lot :: row => by
    have := decWayOfOK (t.steps lot.reverse) row
    exact inferInstanceAs (Decidable (_ ∧ _))
instance decSorts : ∀ (t : Tm) (ws L : List Nat), Decidable (t.Sorts ws L)
  | _, ws, [] => inferInstanceAs (Decidable (ws = []))
  | t, ws, r :: L => by
    have := decSorts (t.step r) (t.tailOf ws r) L
    exact inferInstanceAs (Decidable (_ ∧ _ ∧ _ ∧ _ ∧ _ ∧ _ ∧ _ ∧ _ ∧ _ ∧ _ ∧ _))
instance decLm : ∀ (t : Tm) (ws : List Nat), Decidable (t.Lm ws)
  | t, [] => inferInstanceAs (Decidable (t.redNodes = []))
  | t, n :: ws => by
    have := decLm (t.step n) ws
    exact inferInstanceAs (Decidable (_ ∧ _))
/-- what standard_way asks of a way, and gives -/
def StdOf (t : Tm) (ws L : List Nat) : Prop := Small t ∧ t.closedN 0 = true ∧ t.WaySm ws ∧ ws.length ≤ 200 ∧ t.Sorts ws L ∧ L.length ≤ 200
/-- what _law_normal asks of a term, and gives -/
def NormOf (t : Tm) (m : Nat) (L : List Nat) : Prop := Small t ∧ t.WaySm L ∧ t.Lm L ∧ L.length ≤ m ∧ m ≤ 60
instance (t : Tm) (ws L : List Nat) : Decidable (t.StdOf ws L) := inferInstanceAs (Decidable (_ ∧ _ ∧ _ ∧ _ ∧ _ ∧ _))
instance (t : Tm) (m : Nat) (L : List Nat) : Decidable (t.NormOf m L) := inferInstanceAs (Decidable (_ ∧ _ ∧ _ ∧ _ ∧ _))
abbrev tNever : Tm := ap (ap tK tA) tOmega
abbrev tInner : Tm := ap (fn tB) tOmega
theorem never_norm : tNever.NormOf 9 [1, 0] := by decide +kernel
theorem inner_norm : tInner.NormOf 9 [0] := by decide +kernel
theorem never_std : ∀ k < 4, tNever.StdOf (List.replicate k 6 ++ [1, 0]) [1, 0] := by decide +kernel
theorem never_std2 : ∀ k < 4, tNever.StdOf ([1] ++ List.replicate k 3 ++ [0]) [1, 0] := by decide +kernel
theorem inner_std : ∀ k < 4, tInner.StdOf (List.replicate k 3 ++ [0]) [0] := by decide +kernel
theorem inner_fn : ∀ k < 4, (fn tInner).StdOf (List.replicate k 4) (List.replicate k 4) := by decide +kernel
end Tm
end Sf
/-! SfM3: lifts, puts, steps: what is left of a redex, and that two steps can be turned round. -/
namespace Sf
namespace Tm
/-! ### lifts and puts -/
theorem lift_lift : ∀ (t : Tm) (m c n d : Nat), c ≤ d → d ≤ c + m → (t.lift m c).lift n d = t.lift (m + n) c
  | nm k, m, c, n, d, h1, h2 => by
    simp only [lift]
    by_cases h : c ≤ k
    · rw [if_pos h, if_pos h]
      simp only [lift]
      rw [if_pos (by omega), Nat.add_assoc]
    · rw [if_neg h, if_neg h]
      simp only [lift]
      rw [if_neg (by omega)]
  | lt _, _, _, _, _, _, _ => rfl
  | fn b, m, c, n, d, h1, h2 => by
    simp only [lift]
    rw [lift_lift b m (c + 1) n (d + 1) (by omega) (by omega)]
  | ap f a, m, c, n, d, h1, h2 => by
    simp only [lift]
    rw [lift_lift f m c n d h1 h2, lift_lift a m c n d h1 h2]
theorem lift_comm : ∀ (t : Tm) (m c n d : Nat), d ≤ c → (t.lift m c).lift n d = (t.lift n d).lift m (c + n)
  | nm k, m, c, n, d, h => by
    simp only [lift]
    by_cases h1 : c ≤ k
    · rw [if_pos h1, if_pos (show d ≤ k by omega)]
      simp only [lift]
      rw [if_pos (by omega), if_pos (by omega)]
      congr 1; omega
    · rw [if_neg h1]
      by_cases h2 : d ≤ k
      · rw [if_pos h2]
        simp only [lift]
        rw [if_pos h2, if_neg (by omega)]
      · rw [if_neg h2]
        simp only [lift]
        rw [if_neg h2, if_neg (by omega)]
  | lt _, _, _, _, _, _ => rfl
  | fn b, m, c, n, d, h => by
    simp only [lift]
    rw [lift_comm b m (c + 1) n (d + 1) (by omega), show c + 1 + n = c + n + 1 by omega]
  | ap f a, m, c, n, d, h => by
    simp only [lift]
    rw [lift_comm f m c n d h, lift_comm a m c n d h]
theorem lift_put : ∀ (b a : Tm) (j m c : Nat), (b.put a j).lift m (c + j) = (b.lift m (c + j + 1)).put (a.lift m c) j
  | nm k, a, j, m, c => by
    simp only [put, lift]
    by_cases h1 : k = j
    · rw [if_pos h1, if_neg (by omega)]
      simp only [put]
      rw [if_pos h1, lift_comm a m c j 0 (Nat.zero_le _)]
    · rw [if_neg h1]
      by_cases h2 : j < k
      · rw [if_pos h2]
        simp only [lift]
        by_cases h3 : c + j ≤ k - 1
        · rw [if_pos h3, if_pos (by omega)]
          simp only [put]
          rw [if_neg (by omega), if_pos (by omega)]
          congr 1; omega
        · rw [if_neg h3, if_neg (by omega)]
          simp only [put]
          rw [if_neg h1, if_pos h2]
      · rw [if_neg h2, if_neg (by omega)]
        simp only [put, lift]
        rw [if_neg (by omega), if_neg h1, if_neg h2]
  | lt _, _, _, _, _ => rfl
  | fn b, a, j, m, c => by
    simp only [put, lift]
    have := lift_put b a (j + 1) m c
    rw [show c + (j + 1) = c + j + 1 by omega] at this
    rw [this]
  | ap f g, a, j, m, c => by
    simp only [put, lift]
    rw [lift_put f a j m c, lift_put g a j m c]
theorem lift_put0 (b a : Tm) (m c : Nat) : (b.put a 0).lift m c = (b.lift m (c + 1)).put (a.lift m c) 0 := lift_put b a 0 m c
theorem put_lift : ∀ (t u : Tm) (m c d : Nat), c ≤ d → (t.lift m c).put u (d + m) = (t.put u d).lift m c
  | nm k, u, m, c, d, h => by
    simp only [put, lift]
    by_cases h1 : c ≤ k
    · rw [if_pos h1]
      simp only [put]
      by_cases h2 : k = d
      · rw [if_pos (by omega), if_pos h2, lift_lift u d 0 m c (Nat.zero_le _) (by omega)]
      · rw [if_neg (by omega), if_neg h2]
        by_cases h3 : d < k
        · rw [if_pos (by omega), if_pos h3]
          simp only [lift]
          rw [if_pos (by omega)]
          congr 1; omega
        · rw [if_neg (by omega), if_neg h3]
          simp only [lift]
          rw [if_pos h1]
    · rw [if_neg h1, if_neg (by omega), if_neg (by omega)]
      simp only [put, lift]
      rw [if_neg (by omega), if_neg (by omega), if_neg h1]
  | lt _, _, _, _, _, _ => rfl
  | fn b, u, m, c, d, h => by
    simp only [put, lift]
    have := put_lift b u m (c + 1) (d + 1) (by omega)
    rw [show d + 1 + m = d + m + 1 by omega] at this
    rw [this]
  | ap f g, u, m, c, d, h => by
    simp only [put, lift]
    rw [put_lift f u m c d h, put_lift g u m c d h]
/-- a name lifted over is not put for -/
theorem put_over : ∀ (t u : Tm) (k c j : Nat), c ≤ j → j ≤ c + k → (t.lift (k + 1) c).put u j = t.lift k c
  | nm n, u, k, c, j, h1, h2 => by
    simp only [lift]
    by_cases h : c ≤ n
    · rw [if_pos h, if_pos h]
      simp only [put]
      rw [if_neg (by omega), if_pos (by omega)]
      congr 1
    · rw [if_neg h, if_neg h]
      simp only [put]
      rw [if_neg (by omega), if_neg (by omega)]
  | lt _, _, _, _, _, _, _ => rfl
  | fn b, u, k, c, j, h1, h2 => by
    simp only [lift, put]
    rw [put_over b u k (c + 1) (j + 1) (by omega) (by omega)]
  | ap f g, u, k, c, j, h1, h2 => by
    simp only [lift, put]
    rw [put_over f u k c j h1 h2, put_over g u k c j h1 h2]
theorem put_put : ∀ (b e a : Tm) (j d : Nat), (b.put e j).put a (d + j) = (b.put a (d + j + 1)).put (e.put a d) j
  | nm n, e, a, j, d => by
    simp only [put]
    by_cases h1 : n = j
    · rw [if_pos h1, if_neg (by omega), if_neg (by omega)]
      simp only [put]
      rw [if_pos h1, put_lift e a j 0 d (Nat.zero_le _)]
    · rw [if_neg h1]
      by_cases h2 : j < n
      · rw [if_pos h2]
        simp only [put]
        by_cases h3 : n = d + j + 1
        · rw [if_pos (by omega), if_pos h3, put_over a _ (d + j) 0 j (Nat.zero_le _) (by omega)]
        · rw [if_neg (by omega), if_neg h3]
          by_cases h4 : d + j + 1 < n
          · rw [if_pos (by omega), if_pos h4]
            simp only [put]
            rw [if_neg (by omega), if_pos (by omega)]
          · rw [if_neg (by omega), if_neg h4]
            simp only [put]
            rw [if_neg h1, if_pos h2]
      · rw [if_neg h2, if_neg (by omega), if_neg (by omega)]
        simp only [put]
        rw [if_neg (by omega), if_neg (by omega), if_neg h1, if_neg h2]
  | lt _, _, _, _, _ => rfl
  | fn b, e, a, j, d => by
    simp only [put]
    have := put_put b e a (j + 1) d
    rw [show d + (j + 1) = d + j + 1 by omega] at this
    rw [this]
  | ap f g, e, a, j, d => by
    simp only [put]
    rw [put_put f e a j d, put_put g e a j d]
theorem put_put0 (b e a : Tm) (d : Nat) : (b.put e 0).put a d = (b.put a (d + 1)).put (e.put a d) 0 := put_put b e a 0 d
end Tm
end Sf
/-! SfM4: what is left of a redex behind another; two steps turned round. -/
namespace Sf
namespace Tm
/-- each step is at a redex -/
def Way : Tm → List Nat → Prop
  | _, [] => True
  | t, n :: ws => t.redAt n = true ∧ (t.step n).Way ws
theorem Way.append : ∀ {t : Tm} {a b : List Nat}, t.Way a → (t.steps a).Way b → t.Way (a ++ b)
  | _, [], _, _, h => h
  | _, _ :: _, _, ⟨h1, h2⟩, h => ⟨h1, Way.append h2 h⟩
theorem Way.left : ∀ {t : Tm} {a b : List Nat}, t.Way (a ++ b) → t.Way a
  | _, [], _, _ => trivial
  | _, _ :: _, _, ⟨h1, h2⟩ => ⟨h1, Way.left h2⟩
theorem Way.right : ∀ {t : Tm} {a b : List Nat}, t.Way (a ++ b) → (t.steps a).Way b
  | _, [], _, h => h
  | t, n :: a, b, ⟨_, h⟩ => Way.right (t := t.step n) (a := a) (b := b) h
theorem parts_zero (t : Tm) : t.parts[0]? = some t := by cases t <;> rfl
theorem parts_ap {f a : Tm} {n : Nat} : (ap f a).parts[n + 1]? = if n < f.size then f.parts[n]? else a.parts[n - f.size]? := by
  show (f.parts ++ a.parts)[n]? = _
  by_cases h : n < f.size
  · rw [if_pos h, List.getElem?_append_left (by rw [parts_length]; exact h)]
  · rw [if_neg h, List.getElem?_append_right (by rw [parts_length]; omega), parts_length]
theorem parts_fn {b : Tm} {n : Nat} : (fn b).parts[n + 1]? = b.parts[n]? := rfl
/-! ### inside of a part, and behind it -/
theorem putAt_in : ∀ (t : Tm) (r : Nat) (p q : Tm) (i : Nat), t.parts[r]? = some p → i < q.size → (t.putAt r q).redAt (r + i) = q.redAt i ∧ (t.putAt r q).step (r + i) = t.putAt r (q.step i)
  | t, 0, p, q, i, h, hi => by
    have e : ∀ x : Tm, t.putAt 0 x = x := fun x => by cases t <;> rfl
    rw [e, e, Nat.zero_add]
    exact ⟨rfl, rfl⟩
  | nm k, r + 1, p, q, i, h, hi => by cases h
  | lt k, r + 1, p, q, i, h, hi => by cases h
  | fn b, r + 1, p, q, i, h, hi => by
    have ih := putAt_in b r p q i h hi
    rw [show r + 1 + i = (r + i) + 1 by omega]
    show (b.putAt r q).redAt (r + i) = _ ∧ fn ((b.putAt r q).step (r + i)) = fn (b.putAt r (q.step i))
    rw [ih.1, ih.2]
    exact ⟨rfl, rfl⟩
  | ap f a, r + 1, p, q, i, h, hi => by
    rw [parts_ap] at h
    rw [show r + 1 + i = (r + i) + 1 by omega]
    by_cases c : r < f.size
    · rw [if_pos c] at h
      have ih := putAt_in f r p q i h hi
      have hs := size_putAt f r p q h
      have he := part_end f r p h
      have e1 : ∀ x, (ap f a).putAt (r + 1) x = ap (f.putAt r x) a := fun x => if_pos c
      rw [e1, e1]
      have hc : r + i < (f.putAt r q).size := by omega
      show (if r + i < (f.putAt r q).size then (f.putAt r q).redAt (r + i) else _) = _ ∧ (if r + i < (f.putAt r q).size then ap ((f.putAt r q).step (r + i)) a else _) = _
      rw [if_pos hc, if_pos hc, ih.1, ih.2]
      exact ⟨rfl, rfl⟩
    · rw [if_neg c] at h
      have ih := putAt_in a (r - f.size) p q i h hi
      have e1 : ∀ x, (ap f a).putAt (r + 1) x = ap f (a.putAt (r - f.size) x) := fun x => if_neg c
      rw [e1, e1]
      have hc : ¬ r + i < f.size := by omega
      show (if r + i < f.size then _ else (a.putAt (r - f.size) q).redAt (r + i - f.size)) = _ ∧ (if r + i < f.size then _ else ap f ((a.putAt (r - f.size) q).step (r + i - f.size))) = _
      rw [if_neg hc, if_neg hc, show r + i - f.size = r - f.size + i by omega, ih.1, ih.2]
      exact ⟨rfl, rfl⟩
theorem putAt_behind : ∀ (t : Tm) (r : Nat) (p q : Tm) (k : Nat), t.parts[r]? = some p → t.redAt (r + p.size + k) = true →
    (t.putAt r q).redAt (r + q.size + k) = true ∧ (t.putAt r q).step (r + q.size + k) = (t.step (r + p.size + k)).putAt r q ∧ (t.step (r + p.size + k)).parts[r]? = some p
  | t, 0, p, q, k, h, hr => by
    rw [parts_zero] at h
    cases h
    have := redAt_lt hr
    omega
  | nm j, r + 1, p, q, k, h, hr => by cases h
  | lt j, r + 1, p, q, k, h, hr => by cases h
  | fn b, r + 1, p, q, k, h, hr => by
    rw [show r + 1 + p.size + k = (r + p.size + k) + 1 by omega] at hr ⊢
    rw [show r + 1 + q.size + k = (r + q.size + k) + 1 by omega]
    have ih := putAt_behind b r p q k h hr
    refine ⟨ih.1, ?_, ih.2.2⟩
    show fn ((b.putAt r q).step (r + q.size + k)) = fn ((b.step (r + p.size + k)).putAt r q)
    rw [ih.2.1]
  | ap f a, r + 1, p, q, k, h, hr => by
    rw [parts_ap] at h
    rw [show r + 1 + p.size + k = (r + p.size + k) + 1 by omega] at hr ⊢
    rw [show r + 1 + q.size + k = (r + q.size + k) + 1 by omega]
    have hr : (if r + p.size + k < f.size then f.redAt (r + p.size + k) else a.redAt (r + p.size + k - f.size)) = true := hr
    have eS : (ap f a).step (r + p.size + k + 1) = if r + p.size + k < f.size then ap (f.step (r + p.size + k)) a else ap f (a.step (r + p.size + k - f.size)) := rfl
    by_cases c : r < f.size
    · rw [if_pos c] at h
      have hs := size_putAt f r p q h
      have he := part_end f r p h
      have e1 : (ap f a).putAt (r + 1) q = ap (f.putAt r q) a := if_pos c
      rw [e1]
      have eR : (ap (f.putAt r q) a).redAt (r + q.size + k + 1) = if r + q.size + k < (f.putAt r q).size then (f.putAt r q).redAt (r + q.size + k) else a.redAt (r + q.size + k - (f.putAt r q).size) := rfl
      have eT : (ap (f.putAt r q) a).step (r + q.size + k + 1) = if r + q.size + k < (f.putAt r q).size then ap ((f.putAt r q).step (r + q.size + k)) a else ap (f.putAt r q) (a.step (r + q.size + k - (f.putAt r q).size)) := rfl
      rw [eR, eT, eS]
      by_cases c2 : r + p.size + k < f.size
      · rw [if_pos c2] at hr ⊢
        have ih := putAt_behind f r p q k h hr
        have c3 : r + q.size + k < (f.putAt r q).size := by omega
        rw [if_pos c3, if_pos c3]
        have c4 : r < (f.step (r + p.size + k)).size := by
          have := part_end _ r p ih.2.2
          have := size_pos p
          omega
        refine ⟨ih.1, ?_, ?_⟩
        · show _ = if r < (f.step (r + p.size + k)).size then ap ((f.step (r + p.size + k)).putAt r q) a else _
          rw [if_pos c4, ih.2.1]
        · rw [parts_ap, if_pos c4]
          exact ih.2.2
      · rw [if_neg c2] at hr ⊢
        have c3 : ¬ r + q.size + k < (f.putAt r q).size := by omega
        rw [if_neg c3, if_neg c3, show r + q.size + k - (f.putAt r q).size = r + p.size + k - f.size by omega]
        refine ⟨hr, ?_, ?_⟩
        · show _ = if r < f.size then ap (f.putAt r q) _ else _
          rw [if_pos c]
        · rw [parts_ap, if_pos c]
          exact h
    · rw [if_neg c] at h
      have e1 : (ap f a).putAt (r + 1) q = ap f (a.putAt (r - f.size) q) := if_neg c
      have c2 : ¬ r + p.size + k < f.size := by omega
      have c3 : ¬ r + q.size + k < f.size := by omega
      rw [if_neg c2, show r + p.size + k - f.size = r - f.size + p.size + k by omega] at hr
      have ih := putAt_behind a (r - f.size) p q k h hr
      rw [e1, eS, if_neg c2, show r + p.size + k - f.size = r - f.size + p.size + k by omega]
      refine ⟨?_, ?_, ?_⟩
      · show (if r + q.size + k < f.size then _ else (a.putAt (r - f.size) q).redAt (r + q.size + k - f.size)) = true
        rw [if_neg c3, show r + q.size + k - f.size = r - f.size + q.size + k by omega]
        exact ih.1
      · show (if r + q.size + k < f.size then _ else ap f ((a.putAt (r - f.size) q).step (r + q.size + k - f.size))) = if r < f.size then _ else ap f ((a.step (r - f.size + p.size + k)).putAt (r - f.size) q)
        rw [if_neg c3, if_neg c, show r + q.size + k - f.size = r - f.size + q.size + k by omega, ih.2.1]
      · rw [parts_ap, if_neg c]
        exact ih.2.2
theorem putAt_self : ∀ (t : Tm) (r : Nat) (p : Tm), t.parts[r]? = some p → t.putAt r p = t
  | t, 0, p, h => by
    rw [parts_zero] at h
    cases h
    cases t <;> rfl
  | nm j, r + 1, p, h => by cases h
  | lt j, r + 1, p, h => by cases h
  | fn b, r + 1, p, h => by
    show fn (b.putAt r p) = _
    rw [putAt_self b r p h]
  | ap f a, r + 1, p, h => by
    rw [parts_ap] at h
    show (if r < f.size then ap (f.putAt r p) a else ap f (a.putAt (r - f.size) p)) = _
    by_cases c : r < f.size
    · rw [if_pos c] at h ⊢
      rw [putAt_self f r p h]
    · rw [if_neg c] at h ⊢
      rw [putAt_self a _ p h]
/-- a way inside of a part -/
theorem way_in {t : Tm} {r : Nat} {p : Tm} (h : t.parts[r]? = some p) : ∀ (ws : List Nat) (q : Tm), q.Way ws → (t.putAt r q).Way (ws.map (r + ·)) ∧ (t.putAt r q).steps (ws.map (r + ·)) = t.putAt r (q.steps ws)
  | [], q, _ => ⟨trivial, rfl⟩
  | n :: ws, q, ⟨h1, h2⟩ => by
    have g := putAt_in t r p q n h (redAt_lt h1)
    have ih := way_in h ws (q.step n) h2
    rw [← g.2] at ih
    exact ⟨⟨by rw [g.1]; exact h1, ih.1⟩, ih.2⟩
/-! ### steps and lifts -/
theorem isFn_lift (t : Tm) (m c : Nat) : (t.lift m c).isFn = t.isFn := by
  cases t with
  | nm k => simp only [lift]; split <;> rfl
  | lt _ => rfl
  | fn _ => rfl
  | ap _ _ => rfl
theorem redAt_lift : ∀ (t : Tm) (m c n : Nat), (t.lift m c).redAt n = t.redAt n
  | nm k, m, c, 0 => by simp only [lift]; split <;> rfl
  | nm k, m, c, n + 1 => by simp only [lift]; split <;> rfl
  | lt _, _, _, _ => rfl
  | fn b, m, c, 0 => rfl
  | fn b, m, c, n + 1 => redAt_lift b m (c + 1) n
  | ap f a, m, c, 0 => isFn_lift f m c
  | ap f a, m, c, n + 1 => by
    show (if n < (f.lift m c).size then (f.lift m c).redAt n else (a.lift m c).redAt (n - (f.lift m c).size)) = if n < f.size then f.redAt n else a.redAt (n - f.size)
    rw [size_lift, redAt_lift f, redAt_lift a]
theorem step_lift : ∀ (t : Tm) (m c n : Nat), (t.lift m c).step n = (t.step n).lift m c
  | nm k, m, c, 0 => by
    show ((nm k).lift m c).step 0 = (nm k).lift m c
    simp only [lift]; split <;> rfl
  | nm k, m, c, n + 1 => by
    show (nm k |>.lift m c).step (n + 1) = (nm k).lift m c
    simp only [lift]; split <;> rfl
  | lt _, _, _, 0 => rfl
  | lt _, _, _, n + 1 => rfl
  | fn b, m, c, 0 => rfl
  | fn b, m, c, n + 1 => by
    show fn ((b.lift m (c + 1)).step n) = fn ((b.step n).lift m (c + 1))
    rw [step_lift b m (c + 1) n]
  | ap f a, m, c, 0 => by
    cases f with
    | fn b => exact (lift_put0 b a m c).symm
    | nm k =>
      show (ap ((nm k).lift m c) (a.lift m c)).step 0 = ap ((nm k).lift m c) (a.lift m c)
      simp only [lift]; split <;> rfl
    | lt _ => rfl
    | ap _ _ => rfl
  | ap f a, m, c, n + 1 => by
    show (if n < (f.lift m c).size then ap ((f.lift m c).step n) (a.lift m c) else ap (f.lift m c) ((a.lift m c).step (n - (f.lift m c).size))) = (if n < f.size then ap (f.step n) a else ap f (a.step (n - f.size))).lift m c
    rw [size_lift, step_lift f, step_lift a]
    split <;> rfl
/-! ### the copies of a node -/
/-- where a node of a body stands behind the put -/
def copB : Tm → Nat → Nat → Nat → Nat
  | fn b, d, s, m + 1 => copB b (d + 1) s m + 1
  | ap f a, d, s, m + 1 => if m < f.size then copB f d s m + 1 else f.size + f.stands d * (s - 1) + copB a d s (m - f.size) + 1
  | _, _, _, _ => 0
/-- where the copies of a node of what is put stand -/
def occs : Tm → Nat → Nat → Nat → List Nat
  | nm k, d, _, m => if k = d then [m] else []
  | lt _, _, _, _ => []
  | fn b, d, s, m => (occs b (d + 1) s m).map (1 + ·)
  | ap f a, d, s, m => (occs f d s m).map (1 + ·) ++ (occs a d s m).map (1 + (f.size + f.stands d * (s - 1)) + ·)
theorem red_zero {t : Tm} (h : t.redAt 0 = true) : ∃ b a, t = ap (fn b) a := by
  cases t with
  | ap f a =>
    cases f with
    | fn b => exact ⟨b, a, rfl⟩
    | nm _ => cases h
    | lt _ => cases h
    | ap _ _ => cases h
  | nm _ => cases h
  | lt _ => cases h
  | fn _ => cases h
theorem step_put : ∀ (b a : Tm) (d m : Nat), b.redAt m = true → (b.put a d).redAt (copB b d a.size m) = true ∧ (b.put a d).step (copB b d a.size m) = (b.step m).put a d
  | t, a, d, 0, h => by
    obtain ⟨c, e, rfl⟩ := red_zero h
    exact ⟨rfl, (put_put0 c e a d).symm⟩
  | nm _, a, d, m + 1, h => by cases h
  | lt _, a, d, m + 1, h => by cases h
  | fn b, a, d, m + 1, h => by
    have ih := step_put b a (d + 1) m h
    refine ⟨ih.1, ?_⟩
    show fn ((b.put a (d + 1)).step (copB b (d + 1) a.size m)) = fn ((b.step m).put a (d + 1))
    rw [ih.2]
  | ap f g, a, d, m + 1, h => by
    have h : (if m < f.size then f.redAt m else g.redAt (m - f.size)) = true := h
    have eS : (ap f g).step (m + 1) = if m < f.size then ap (f.step m) g else ap f (g.step (m - f.size)) := rfl
    have eC : copB (ap f g) d a.size (m + 1) = if m < f.size then copB f d a.size m + 1 else f.size + f.stands d * (a.size - 1) + copB g d a.size (m - f.size) + 1 := rfl
    rw [eS, eC]
    by_cases c : m < f.size
    · rw [if_pos c] at h ⊢
      rw [if_pos c]
      have ih := step_put f a d m h
      have hl := redAt_lt ih.1
      show (if copB f d a.size m < (f.put a d).size then (f.put a d).redAt (copB f d a.size m) else _) = true ∧ (if copB f d a.size m < (f.put a d).size then ap ((f.put a d).step (copB f d a.size m)) (g.put a d) else _) = ap ((f.step m).put a d) (g.put a d)
      rw [if_pos hl, if_pos hl, ih.2]
      exact ⟨ih.1, rfl⟩
    · rw [if_neg c] at h ⊢
      rw [if_neg c]
      have ih := step_put g a d (m - f.size) h
      have hz := size_put f a d
      have hl : ¬ f.size + f.stands d * (a.size - 1) + copB g d a.size (m - f.size) < (f.put a d).size := by omega
      show (if f.size + f.stands d * (a.size - 1) + copB g d a.size (m - f.size) < (f.put a d).size then _ else (g.put a d).redAt (f.size + f.stands d * (a.size - 1) + copB g d a.size (m - f.size) - (f.put a d).size)) = true ∧
        (if f.size + f.stands d * (a.size - 1) + copB g d a.size (m - f.size) < (f.put a d).size then _ else ap (f.put a d) ((g.put a d).step (f.size + f.stands d * (a.size - 1) + copB g d a.size (m - f.size) - (f.put a d).size))) = ap (f.put a d) ((g.step (m - f.size)).put a d)
      rw [if_neg hl, if_neg hl, show f.size + f.stands d * (a.size - 1) + copB g d a.size (m - f.size) - (f.put a d).size = copB g d a.size (m - f.size) by omega, ih.2]
      exact ⟨ih.1, rfl⟩
theorem way_fn : ∀ (ws : List Nat) (b : Tm), b.Way ws → (fn b).Way (ws.map (1 + ·)) ∧ (fn b).steps (ws.map (1 + ·)) = fn (b.steps ws) := fun ws b h => by
  have g := way_in (t := fn b) (r := 1) (p := b) (by rw [parts_fn, parts_zero]) ws b h
  have e : ∀ x, (fn b).putAt 1 x = fn x := fun x => by
    show fn (b.putAt 0 x) = _
    cases b <;> rfl
  rw [e, e] at g
  exact g
theorem way_apL : ∀ (ws : List Nat) (f a : Tm), f.Way ws → (ap f a).Way (ws.map (1 + ·)) ∧ (ap f a).steps (ws.map (1 + ·)) = ap (f.steps ws) a := fun ws f a h => by
  have g := way_in (t := ap f a) (r := 1) (p := f) (by rw [parts_ap, if_pos (size_pos f), parts_zero]) ws f h
  have e : ∀ x, (ap f a).putAt 1 x = ap x a := fun x => by
    show (if 0 < f.size then ap (f.putAt 0 x) a else _) = _
    rw [if_pos (size_pos f)]
    cases f <;> rfl
  rw [e, e] at g
  exact g
theorem way_apR : ∀ (ws : List Nat) (f a : Tm), a.Way ws → (ap f a).Way (ws.map (1 + f.size + ·)) ∧ (ap f a).steps (ws.map (1 + f.size + ·)) = ap f (a.steps ws) := fun ws f a h => by
  have g := way_in (t := ap f a) (r := 1 + f.size) (p := a) (by rw [Nat.add_comm, parts_ap, if_neg (Nat.lt_irrefl _), Nat.sub_self, parts_zero]) ws a h
  have e : ∀ x, (ap f a).putAt (1 + f.size) x = ap f x := fun x => by
    rw [Nat.add_comm]
    show (if f.size < f.size then _ else ap f (a.putAt (f.size - f.size) x)) = _
    rw [if_neg (Nat.lt_irrefl _), Nat.sub_self]
    cases a <;> rfl
  rw [e, e] at g
  exact g
/-- the steps at the copies, the greatest first -/
theorem steps_put : ∀ (b a : Tm) (d m : Nat), a.redAt m = true → (b.put a d).Way (occs b d a.size m).reverse ∧ (b.put a d).steps (occs b d a.size m).reverse = b.put (a.step m) d
  | nm k, a, d, m, h => by
    simp only [put, occs]
    by_cases c : k = d
    · rw [if_pos c, if_pos c, if_pos c]
      refine ⟨⟨by rw [redAt_lift]; exact h, trivial⟩, ?_⟩
      show (a.lift d 0).step m = _
      rw [step_lift]
    · rw [if_neg c, if_neg c, if_neg c]
      exact ⟨trivial, rfl⟩
  | lt _, a, d, m, h => ⟨trivial, rfl⟩
  | fn b, a, d, m, h => by
    have ih := steps_put b a (d + 1) m h
    simp only [put, occs]
    rw [← List.map_reverse]
    have g := way_fn _ _ ih.1
    rw [ih.2] at g
    exact g
  | ap f g, a, d, m, h => by
    have i1 := steps_put f a d m h
    have i2 := steps_put g a d m h
    simp only [put, occs]
    rw [List.reverse_append, ← List.map_reverse, ← List.map_reverse, ← size_put]
    have g2 := way_apR _ (f.put a d) _ i2.1
    have g1 := way_apL _ _ (g.put (a.step m) d) i1.1
    rw [i2.2] at g2
    rw [i1.2] at g1
    refine ⟨Way.append g2.1 (by rw [g2.2]; exact g1.1), ?_⟩
    rw [steps_append, g2.2, g1.2]
end Tm
end Sf
/-! SfM5: where the copies stand; the diamond; the least redex stays; the tail of a way. -/
namespace Sf
namespace Tm
theorem idxFrom_shift {α : Type} (p : α → Bool) : ∀ (l : List α) (k : Nat), idxFrom p k l = (idxFrom p 0 l).map (k + ·)
  | [], k => rfl
  | x :: l, k => by
    have i1 := idxFrom_shift p l (k + 1)
    have i2 := idxFrom_shift p l (0 + 1)
    unfold idxFrom
    rw [i1, i2]
    have e : ((idxFrom p 0 l).map (0 + 1 + ·)).map (k + ·) = (idxFrom p 0 l).map (k + 1 + ·) := by
      rw [List.map_map]
      refine List.map_congr_left fun x _ => ?_
      show k + (0 + 1 + x) = _
      omega
    cases p x
    · exact e.symm
    · show k :: _ = (k + 0) :: _
      rw [e]
      rfl
def one (n : Nat) : Nat → Bool := fun o => [n].contains o
theorem one_self (n : Nat) : one n n = true := by simp [one]
theorem one_ne {n x : Nat} (h : x ≠ n) : one n x = false := by simp [one, h]
theorem bo_lt : ∀ (b : Tm) (d p : Nat) (arg : List Nat) (x : Nat), x ∈ b.bo d p arg → x < p + b.size ∨ x ∈ arg
  | nm k, d, p, arg, x, h => by
    unfold bo at h
    split at h
    · exact .inr h
    · rw [List.mem_singleton] at h; exact .inl (by simp only [size]; omega)
  | lt _, d, p, arg, x, h => by
    rw [bo, List.mem_singleton] at h
    exact .inl (by simp only [size]; omega)
  | fn b, d, p, arg, x, h => by
    rw [bo] at h
    simp only [size]
    rcases List.mem_cons.mp h with h | h
    · exact .inl (by omega)
    · rcases bo_lt b _ _ _ _ h with h | h
      · exact .inl (by omega)
      · exact .inr h
  | ap f a, d, p, arg, x, h => by
    rw [bo] at h
    simp only [size]
    rcases List.mem_cons.mp h with h | h
    · exact .inl (by omega)
    · rcases List.mem_append.mp h with h | h
      · rcases bo_lt f _ _ _ _ h with h | h
        · exact .inl (by omega)
        · exact .inr h
      · rcases bo_lt a _ _ _ _ h with h | h
        · exact .inl (by omega)
        · exact .inr h
theorem idx_cons_no {n x : Nat} {l : List Nat} (h : x ≠ n) : idxFrom (one n) 0 (x :: l) = (idxFrom (one n) 0 l).map (1 + ·) := by
  show (if one n x then _ else idxFrom (one n) (0 + 1) l) = _
  rw [one_ne h, if_neg Bool.false_ne_true, idxFrom_shift]
theorem idx_none {n : Nat} {l : List Nat} (h : ∀ x ∈ l, x ≠ n) (k : Nat) : idxFrom (one n) k l = [] := idxFrom_none _ k l fun x hx => one_ne (h x hx)
theorem idx_range' (q s m : Nat) (h : m < s) : idxFrom (one (q + m)) 0 (List.range' q s) = [m] := by
  obtain ⟨j, rfl⟩ : ∃ j, s = m + (1 + j) := ⟨s - m - 1, by omega⟩
  rw [← List.range'_append_1, idxFrom_append, idx_none (fun x hx => by have := (List.mem_range'_1.mp hx).2; omega), List.length_range', List.nil_append, ← List.range'_append_1, idxFrom_append,
    idx_none (l := List.range' (q + m + 1) j) (fun x hx => by have := (List.mem_range'_1.mp hx).1; omega), List.append_nil]
  show (if one (q + m) (q + m) then (0 + m) :: [] else []) = [m]
  rw [one_self, if_pos rfl, Nat.zero_add]
/-- the place of a body's node -/
theorem bo_len (b : Tm) (d p : Nat) (arg : List Nat) (h : 1 ≤ arg.length) : (b.bo d p arg).length = b.size + b.stands d * (arg.length - 1) := by
  rw [bo_length]
  obtain ⟨k, e⟩ : ∃ k, arg.length = k + 1 := ⟨arg.length - 1, by omega⟩
  rw [e, Nat.add_sub_cancel, Nat.mul_add, Nat.mul_one]
  omega
theorem bo_body : ∀ (b : Tm) (d p : Nat) (arg : List Nat) (m : Nat), 1 ≤ arg.length → b.redAt m = true → (∀ x ∈ arg, p + b.size ≤ x) → idxFrom (one (p + m)) 0 (b.bo d p arg) = [copB b d arg.length m]
  | t, d, p, arg, 0, h1, h, ha => by
    obtain ⟨c, e, rfl⟩ := red_zero h
    rw [bo]
    show (if one (p + 0) p then 0 :: idxFrom (one (p + 0)) (0 + 1) _ else _) = _
    rw [Nat.add_zero, one_self, if_pos rfl, idx_none]
    · rfl
    · intro x hx
      simp only [size] at ha
      rcases List.mem_append.mp hx with hx | hx
      · rcases bo_ge _ _ _ _ _ hx with q | q
        · omega
        · have := ha x q; omega
      · rcases bo_ge _ _ _ _ _ hx with q | q
        · omega
        · have := ha x q; omega
  | nm _, d, p, arg, m + 1, h1, h, ha => by cases h
  | lt _, d, p, arg, m + 1, h1, h, ha => by cases h
  | fn b, d, p, arg, m + 1, h1, h, ha => by
    simp only [size] at ha
    have ih := bo_body b (d + 1) (p + 1) arg m h1 h (fun x hx => by have := ha x hx; omega)
    rw [bo, idx_cons_no (by omega), show p + (m + 1) = p + 1 + m by omega, ih]
    show [1 + copB b (d + 1) arg.length m] = [copB b (d + 1) arg.length m + 1]
    rw [Nat.add_comm]
  | ap f g, d, p, arg, m + 1, h1, h, ha => by
    have h : (if m < f.size then f.redAt m else g.redAt (m - f.size)) = true := h
    simp only [size] at ha
    have eC : copB (ap f g) d arg.length (m + 1) = if m < f.size then copB f d arg.length m + 1 else f.size + f.stands d * (arg.length - 1) + copB g d arg.length (m - f.size) + 1 := rfl
    rw [bo, idx_cons_no (by omega), idxFrom_append, eC]
    by_cases c : m < f.size
    · rw [if_pos c] at h ⊢
      have ih := bo_body f d (p + 1) arg m h1 h (fun x hx => by have := ha x hx; omega)
      rw [show p + (m + 1) = p + 1 + m by omega, ih, idx_none]
      · show [1 + copB f d arg.length m] = _
        rw [Nat.add_comm]
      · intro x hx
        rcases bo_ge _ _ _ _ _ hx with q | q
        · omega
        · have := ha x q; omega
    · rw [if_neg c] at h ⊢
      have ih := bo_body g d (p + 1 + f.size) arg (m - f.size) h1 h (fun x hx => by have := ha x hx; omega)
      have hl := redAt_lt h
      rw [idx_none, List.nil_append, idxFrom_shift, show p + (m + 1) = p + 1 + f.size + (m - f.size) by omega, ih, bo_len _ _ _ _ h1]
      · show [1 + (0 + (f.size + f.stands d * (arg.length - 1)) + copB g d arg.length (m - f.size))] = _
        congr 1
        omega
      · intro x hx
        rcases bo_lt _ _ _ _ _ hx with q | q
        · omega
        · have := ha x q; omega
/-- the places of the copies of a node of what is put -/
theorem bo_arg : ∀ (b : Tm) (d p q s m : Nat), m < s → p + b.size ≤ q → idxFrom (one (q + m)) 0 (b.bo d p (List.range' q s)) = occs b d s m
  | nm k, d, p, q, s, m, hm, hq => by
    simp only [size] at hq
    simp only [bo, occs]
    by_cases c : k = d
    · rw [if_pos c, if_pos c, idx_range' q s m hm]
    · rw [if_neg c, if_neg c, idx_none]
      intro x hx
      rw [List.mem_singleton] at hx
      omega
  | lt _, d, p, q, s, m, hm, hq => by
    simp only [size] at hq
    rw [bo, occs, idx_none]
    intro x hx
    rw [List.mem_singleton] at hx
    omega
  | fn b, d, p, q, s, m, hm, hq => by
    simp only [size] at hq
    rw [bo, occs, idx_cons_no (by omega), bo_arg b (d + 1) (p + 1) q s m hm (by omega)]
  | ap f g, d, p, q, s, m, hm, hq => by
    simp only [size] at hq
    have hs : 1 ≤ (List.range' q s).length := by rw [List.length_range']; omega
    rw [bo, occs, idx_cons_no (by omega), idxFrom_append, bo_arg f d (p + 1) q s m hm (by omega), idxFrom_shift _ (bo g _ _ _), bo_arg g d (p + 1 + f.size) q s m hm (by omega), bo_len _ _ _ _ hs, List.length_range', List.map_append, List.map_map]
    congr 1
    refine List.map_congr_left fun x _ => ?_
    show 1 + (0 + (f.size + f.stands d * (s - 1)) + x) = _
    omega
/-! ### two steps turned round -/
theorem leftIn_one {t : Tm} {r n : Nat} (h : n ≠ r) : t.leftIn r [n] = idxFrom (one n) 0 (t.origins r) := by
  unfold leftIn
  have e : [n].filter (fun o => !decide (o = r)) = [n] := by simp [h]
  rw [e, if_neg (by simp)]
  rfl
theorem leftIn_self {t : Tm} {r : Nat} : t.leftIn r [r] = [] := by
  unfold leftIn
  rw [if_pos (by simp)]
theorem leftIn_nil {t : Tm} {r : Nat} : t.leftIn r [] = [] := by
  unfold leftIn
  rw [if_pos (by simp)]
/-- a lesser redex is left as it is -/
theorem leftIn_less {t : Tm} {r n : Nat} (hr : t.redAt n = true) (h : r < n) : t.leftIn n [r] = [r] := by
  have g := leftIn_last (t := t) (n := n) (l := [r]) hr (by simp; exact h)
  have e : t.leftIn n [r] = t.leftIn n ([r] ++ [n]) := by
    unfold leftIn
    have f : ([r] ++ [n]).filter (fun o => !decide (o = n)) = [r].filter (fun o => !decide (o = n)) := by
      rw [List.filter_append]
      simp
    rw [f]
  rw [e, g]
theorem leftIn_sorted {t : Tm} {n : Nat} {lot : List Nat} : (t.leftIn n lot).Pairwise (· < ·) := by
  unfold leftIn
  split
  · exact List.Pairwise.nil
  · exact (idxFrom_sorted _ _ _).1
theorem diamond {t : Tm} {r n : Nat} (hr : t.redAt r = true) (hn : t.redAt n = true) (h : r < n) :
    (t.step r).Way (t.leftIn r [n]).reverse ∧ (t.step r).steps (t.leftIn r [n]).reverse = (t.step n).step r ∧ (t.step n).redAt r = true := by
  obtain ⟨b, a, hp⟩ := redAt_part hr
  have hsz := size_pos a
  have hend := part_end t r _ hp
  have eP : (ap (fn b) a).size = 2 + b.size + a.size := by simp only [size]; omega
  have self := putAt_self t r _ hp
  have sr : t.step r = t.putAt r (b.put a 0) := step_putAt t r _ hp
  have hin := fun i hi => putAt_in t r _ (ap (fn b) a) i hp hi
  rw [self] at hin
  have eL : t.leftIn r [n] = idxFrom (one n) 0 (List.range r ++ b.bo 0 (r + 2) (List.range' (r + 2 + b.size) a.size) ++ List.range' (r + 2 + b.size + a.size) (t.size - (r + 2 + b.size + a.size))) := by
    rw [leftIn_one (by omega)]
    unfold origins
    rw [hp]
  have hla : 1 ≤ (List.range' (r + 2 + b.size) a.size).length := by rw [List.length_range']; exact hsz
  have e0 : idxFrom (one n) 0 (List.range r) = [] := idx_none (fun x hx => by have := List.mem_range.mp hx; omega) 0
  rw [List.append_assoc, idxFrom_append, e0, List.nil_append, List.length_range, Nat.zero_add, idxFrom_append, bo_len _ _ _ _ hla, List.length_range'] at eL
  rw [eL]
  rcases Nat.lt_or_ge n (r + 2 + b.size) with c1 | c1
  · -- in the body
    obtain ⟨m, rfl⟩ : ∃ m, n = r + (m + 2) := by
      refine ⟨n - r - 2, ?_⟩
      have hne : n ≠ r + 1 := fun e => by
        have e1 : (ap (fn b) a).redAt 1 = false := by
          show (if 0 < (fn b).size then (fn b).redAt 0 else _) = false
          rw [if_pos (size_pos _)]
          rfl
        rw [e, (hin 1 (by omega)).1, e1] at hn
        cases hn
      omega
    obtain ⟨g1, g2⟩ := hin (m + 2) (by omega)
    have hm : m < b.size := by omega
    have hm1 : m + 1 < (fn b).size := by simp only [size]; omega
    rw [g1] at hn
    have hn : (if m + 1 < (fn b).size then (fn b).redAt (m + 1) else _) = true := hn
    rw [if_pos hm1] at hn
    have hn : b.redAt m = true := hn
    have eS : (ap (fn b) a).step (m + 2) = ap (fn (b.step m)) a := if_pos hm1
    rw [g2, eS]
    have g3 := putAt_in t r _ (ap (fn (b.step m)) a) 0 hp (size_pos _)
    rw [idxFrom_shift, show r + (m + 2) = r + 2 + m by omega, bo_body b 0 (r + 2) _ m hla hn (fun x hx => (List.mem_range'_1.mp hx).1), idx_none (l := List.range' _ _) (fun x hx => by have := (List.mem_range'_1.mp hx).1; omega), List.append_nil, List.length_range']
    obtain ⟨k1, k2⟩ := step_put b a 0 m hn
    have w := way_in hp [copB b 0 a.size m] (b.put a 0) ⟨k1, trivial⟩
    rw [sr]
    refine ⟨w.1, w.2.trans ?_, g3.1⟩
    rw [Nat.add_zero] at g3
    rw [g3.2]
    show t.putAt r ((b.put a 0).step _) = t.putAt r ((b.step m).put a 0)
    rw [k2]
  rcases Nat.lt_or_ge n (r + 2 + b.size + a.size) with c2 | c2
  · -- in the argument
    obtain ⟨m, rfl⟩ : ∃ m, n = r + (b.size + 1 + m + 1) := ⟨n - (r + 2 + b.size), by omega⟩
    obtain ⟨g1, g2⟩ := hin (b.size + 1 + m + 1) (by omega)
    have hm : m < a.size := by omega
    have hm1 : ¬ b.size + 1 + m < (fn b).size := by simp only [size]; omega
    have hm2 : b.size + 1 + m - (fn b).size = m := by simp only [size]; omega
    rw [g1] at hn
    have hn : (if b.size + 1 + m < (fn b).size then _ else a.redAt (b.size + 1 + m - (fn b).size)) = true := hn
    rw [if_neg hm1, hm2] at hn
    have eS : (ap (fn b) a).step (b.size + 1 + m + 1) = ap (fn b) (a.step (b.size + 1 + m - (fn b).size)) := if_neg hm1
    rw [hm2] at eS
    rw [g2, eS]
    have g3 := putAt_in t r _ (ap (fn b) (a.step m)) 0 hp (size_pos _)
    rw [idxFrom_shift, show r + (b.size + 1 + m + 1) = r + 2 + b.size + m by omega, bo_arg b 0 (r + 2) (r + 2 + b.size) a.size m hm (Nat.le_refl _), idx_none (l := List.range' _ _) (fun x hx => by have := (List.mem_range'_1.mp hx).1; omega), List.append_nil, ← List.map_reverse]
    obtain ⟨k1, k2⟩ := steps_put b a 0 m hn
    have w := way_in hp _ (b.put a 0) k1
    rw [sr]
    refine ⟨w.1, w.2.trans ?_, g3.1⟩
    rw [Nat.add_zero] at g3
    rw [g3.2, k2]
    rfl
  · -- behind it
    obtain ⟨k, rfl⟩ : ∃ k, n = r + (ap (fn b) a).size + k := ⟨n - (r + 2 + b.size + a.size), by omega⟩
    have hl := redAt_lt hn
    obtain ⟨g1, g2, g3⟩ := putAt_behind t r _ (b.put a 0) k hp hn
    rw [idx_none (l := bo _ _ _ _) (fun x hx => by
      rcases bo_lt _ _ _ _ _ hx with q | q
      · omega
      · have := (List.mem_range'_1.mp q).2; omega), List.nil_append, idxFrom_shift, show r + (ap (fn b) a).size + k = r + 2 + b.size + a.size + k by omega, idx_range' _ _ k (by omega)]
    rw [← size_put]
    show (t.step r).Way [r + (b.put a 0).size + k] ∧ (t.step r).step (r + (b.put a 0).size + k) = _ ∧ _
    rw [show r + 2 + b.size + a.size + k = r + (ap (fn b) a).size + k by omega, sr]
    refine ⟨⟨g1, trivial⟩, ?_, ?_⟩
    · rw [g2, step_putAt _ r _ g3]
      rfl
    · rw [parts_redAt, g3]
      rfl
/-! ### the least redex -/
theorem isFn_step : ∀ (t : Tm) (n : Nat), 0 < n → (t.step n).isFn = t.isFn
  | nm _, n + 1, _ => rfl
  | lt _, n + 1, _ => rfl
  | fn _, n + 1, _ => rfl
  | ap f a, n + 1, _ => by
    show (if n < f.size then ap (f.step n) a else ap f (a.step (n - f.size))).isFn = _
    split <;> rfl
theorem size_step_gt {t : Tm} {n : Nat} (h : t.redAt n = true) : n < (t.step n).size := by
  obtain ⟨b, a, hp⟩ := redAt_part h
  have h1 := size_putAt t n _ (b.put a 0) hp
  have h2 := part_end t n _ hp
  have h3 := size_pos (b.put a 0)
  have sr : t.step n = t.putAt n (b.put a 0) := step_putAt t n _ hp
  rw [sr]
  omega
/-- what stands well before a step is a redex behind it if it was one ahead of it -/
theorem redAt_before : ∀ (t : Tm) (n x : Nat), t.redAt n = true → x + 1 < n → (t.step n).redAt x = t.redAt x
  | nm _, n + 1, x, h, _ => by cases h
  | lt _, n + 1, x, h, _ => by cases h
  | fn b, n + 1, 0, h, _ => rfl
  | fn b, n + 1, x + 1, h, hx => redAt_before b n x h (by omega)
  | ap f a, n + 1, x, h, hx => by
    have h : (if n < f.size then f.redAt n else a.redAt (n - f.size)) = true := h
    show (if n < f.size then ap (f.step n) a else ap f (a.step (n - f.size))).redAt x = _
    by_cases c : n < f.size
    · rw [if_pos c] at h ⊢
      cases x with
      | zero => exact isFn_step f n (by omega)
      | succ x =>
        have hz := size_step_gt h
        show (if x < (f.step n).size then (f.step n).redAt x else _) = if x < f.size then f.redAt x else _
        rw [if_pos (by omega), if_pos (by omega), redAt_before f n x h (by omega)]
    · rw [if_neg c] at h ⊢
      cases x with
      | zero => rfl
      | succ x =>
        show (if x < f.size then f.redAt x else (a.step (n - f.size)).redAt (x - f.size)) = if x < f.size then f.redAt x else a.redAt (x - f.size)
        by_cases c2 : x < f.size
        · rw [if_pos c2, if_pos c2]
        · rw [if_neg c2, if_neg c2, redAt_before a _ _ h (by omega)]
def Least (t : Tm) (r : Nat) : Prop := t.redAt r = true ∧ ∀ x < r, t.redAt x = false
theorem Least.step {t : Tm} {r n : Nat} (h : Least t r) (hn : t.redAt n = true) (hl : r < n) : Least (t.step n) r :=
  ⟨(diamond h.1 hn hl).2.2, fun x hx => by rw [redAt_before t n x hn (by omega)]; exact h.2 x hx⟩
theorem Least.le {t : Tm} {r n : Nat} (h : Least t r) (hn : t.redAt n = true) : r ≤ n := by
  rcases Nat.lt_or_ge n r with c | c
  · rw [h.2 n c] at hn; cases hn
  · exact c
theorem head_of_least {t : Tm} {n : Nat} (h : t.redNodes.head? = some n) : Least t n := by
  obtain ⟨h1, h2⟩ := head_least h
  refine ⟨h1, fun x hx => ?_⟩
  cases q : t.redAt x with
  | false => rfl
  | true =>
    have := h2 x (mem_redNodes.mpr q)
    omega
theorem least_head {t : Tm} {n : Nat} (h : Least t n) : t.redNodes.head? = some n := by
  cases q : t.redNodes with
  | nil =>
    have := mem_redNodes.mpr h.1
    rw [q] at this
    cases this
  | cons m l =>
    have h0 : t.redNodes.head? = some m := by rw [q]; rfl
    have g := head_least h0
    have g1 := g.2 n (mem_redNodes.mpr h.1)
    have g2 := h.le g.1
    rw [List.head?_cons, show m = n by omega]
/-! ### the tail of a way behind its least redex -/
def AllSm (t : Tm) : Prop := ∀ ws, t.Way ws → Small (t.steps ws)
theorem AllSm.self {t : Tm} (h : AllSm t) : Small t := h [] trivial
theorem AllSm.step {t : Tm} {n : Nat} (h : AllSm t) (hn : t.redAt n = true) : AllSm (t.step n) := fun ws hw => h (n :: ws) ⟨hn, hw⟩
theorem AllSm.steps : ∀ {t : Tm} {a : List Nat}, AllSm t → t.Way a → AllSm (t.steps a)
  | _, [], h, _ => h
  | t, n :: a, h, ⟨h1, h2⟩ => AllSm.steps (t := t.step n) (a := a) (h.step h1) h2
theorem AllSm.waySm : ∀ {t : Tm} {ws : List Nat}, AllSm t → t.Way ws → t.WaySm ws
  | _, [], _, _ => trivial
  | t, n :: ws, h, ⟨h1, h2⟩ => ⟨h1, (h.step h1).self, (h.step h1).waySm h2⟩
theorem wayOf_rowOf : ∀ (ws : List Nat) (t : Tm), t.wayOf (rowOf ws) = ws
  | [], _ => rfl
  | n :: ws, t => by
    show [n] ++ (t.step n).wayOf (rowOf ws) = _
    rw [wayOf_rowOf ws]
    rfl
theorem rowBehind_nil : ∀ (ws : List Nat) (t : Tm), t.rowBehind (rowOf ws) [] = (rowOf ws, [])
  | [], _ => rfl
  | n :: ws, t => by
    have ih := rowBehind_nil ws (t.step n)
    show (([n] : List Nat) :: ((t.step n).rowBehind (rowOf ws) (t.leftIn n [])).1, ((t.step n).rowBehind (rowOf ws) (t.leftIn n [])).2) = _
    rw [leftIn_nil, ih]
    rfl
theorem devOK_one {t : Tm} {n : Nat} (h : AllSm t) (hn : t.redAt n = true) : t.DevOK [n] := ⟨List.pairwise_singleton _ _, hn, (h.step hn).self, trivial⟩
theorem devOK_nil {t : Tm} : t.DevOK [] := ⟨List.Pairwise.nil, trivial⟩
theorem rowOK_nil : ∀ {ws : List Nat} {t : Tm}, AllSm t → t.Way ws → t.RowOK (rowOf ws) []
  | [], _, _, _ => trivial
  | n :: ws, t, h, ⟨h1, h2⟩ => by
    refine ⟨devOK_nil, devOK_one h h1, ?_⟩
    show (t.step n).RowOK (rowOf ws) (t.leftIn n [])
    rw [leftIn_nil]
    exact rowOK_nil (h.step h1) h2
theorem wayOfOK_row : ∀ {ws : List Nat} {t : Tm}, AllSm t → t.Way ws → t.WayOfOK (rowOf ws)
  | [], _, _, _ => trivial
  | n :: ws, t, h, ⟨h1, h2⟩ => ⟨devOK_one h h1, wayOfOK_row (h.step h1) h2⟩
theorem tail_ok {r : Nat} : ∀ (ws : List Nat) (t : Tm), Least t r → t.Way ws → (t.steps ws).redNodes = [] → AllSm t →
    t.isDone ws [r] = true ∧ t.RowOK (rowOf ws) [r] ∧ (t.step r).WayOfOK (t.rowBehind (rowOf ws) [r]).1 ∧ (t.step r).Way (t.tailOf ws r) ∧ (t.step r).steps (t.tailOf ws r) = t.steps ws
  | [], t, hl, _, hn, _ => by
    have := mem_redNodes.mpr hl.1
    have hn : t.redNodes = [] := hn
    rw [hn] at this
    cases this
  | n :: ws, t, hl, ⟨h1, h2⟩, hn, hs => by
    have hle := hl.le h1
    rcases Nat.eq_or_lt_of_le hle with e | hlt
    · subst e
      have eB : t.rowBehind (rowOf (r :: ws)) [r] = ([] :: rowOf ws, []) := by
        show (t.leftIn r [r] :: ((t.step r).rowBehind (rowOf ws) (t.leftIn r [r])).1, ((t.step r).rowBehind (rowOf ws) (t.leftIn r [r])).2) = _
        rw [leftIn_self, rowBehind_nil]
      have eT : t.tailOf (r :: ws) r = ws := by
        unfold tailOf
        rw [eB]
        show [] ++ (t.step r).wayOf (rowOf ws) = ws
        rw [wayOf_rowOf]
        rfl
      rw [eT, eB]
      refine ⟨?_, ⟨devOK_one hs h1, devOK_one hs h1, ?_⟩, ⟨devOK_nil, wayOfOK_row (hs.step h1) h2⟩, h2, rfl⟩
      · show (if [r].contains r then true else _) = true
        rw [if_pos (by simp)]
      · show (t.step r).RowOK (rowOf ws) (t.leftIn r [r])
        rw [leftIn_self]
        exact rowOK_nil (hs.step h1) h2
    · have hl2 := hl.step h1 hlt
      obtain ⟨i1, i2, i3, i4, i5⟩ := tail_ok ws (t.step n) hl2 h2 hn (hs.step h1)
      obtain ⟨d1, d2, d3⟩ := diamond hl.1 h1 hlt
      have hL := leftIn_less h1 hlt
      have eB : t.rowBehind (rowOf (n :: ws)) [r] = (t.leftIn r [n] :: ((t.step n).rowBehind (rowOf ws) [r]).1, ((t.step n).rowBehind (rowOf ws) [r]).2) := by
        show (t.leftIn r [n] :: ((t.step n).rowBehind (rowOf ws) (t.leftIn n [r])).1, ((t.step n).rowBehind (rowOf ws) (t.leftIn n [r])).2) = _
        rw [hL]
      have eT : t.tailOf (n :: ws) r = (t.leftIn r [n]).reverse ++ (t.step n).tailOf ws r := by
        unfold tailOf
        rw [eB]
        show (t.leftIn r [n]).reverse ++ ((t.step r).steps (t.leftIn r [n]).reverse).wayOf _ = _
        rw [d2]
      have hsr := hs.step hl.1
      rw [eT, eB]
      refine ⟨?_, ⟨devOK_one hs hl.1, devOK_one hs h1, ?_⟩, ⟨⟨leftIn_sorted, hsr.waySm d1⟩, ?_⟩, Way.append d1 (by rw [d2]; exact i4), ?_⟩
      · show (if [r].contains n then true else (t.step n).isDone ws (t.leftIn n [r])) = true
        rw [hL, i1]
        split <;> rfl
      · show (t.step n).RowOK (rowOf ws) (t.leftIn n [r])
        rw [hL]
        exact i2
      · show ((t.step r).steps (t.leftIn r [n]).reverse).WayOfOK _
        rw [d2]
        exact i3
      · rw [steps_append, d2, i5]
        rfl
end Tm
end Sf
/-! SfM6: every way to a normal form is sorted to the leftmost way, where the terms stay small and the leftmost way is short. -/
namespace Sf
namespace Tm
def Good (t : Tm) (ws : List Nat) : Prop := AllSm t ∧ ∃ L, t.Lm L ∧ t.Way L ∧ t.Sorts ws L ∧ L.length ≤ 60
theorem way_normal {t : Tm} {ws : List Nat} (h : t.redNodes = []) (hw : t.Way ws) : ws = [] := by
  cases ws with
  | nil => rfl
  | cons n ws =>
    have := mem_redNodes.mpr hw.1
    rw [h] at this
    cases this
theorem sort_all {G : Nat → Tm → List Nat → Prop} (h1 : ∀ {m t ws}, G m t ws → AllSm t ∧ ws.length ≤ 200 ∧ t.Way ws ∧ (t.steps ws).redNodes = [])
    (h2 : ∀ {m t ws r}, G m t ws → Least t r → (t.step r).Way (t.tailOf ws r) → ((t.step r).steps (t.tailOf ws r)).redNodes = [] → ∃ m', m' + 1 ≤ m ∧ G m' (t.step r) (t.tailOf ws r)) :
    ∀ (m : Nat) (t : Tm) (ws : List Nat), G m t ws → ∃ L, t.Lm L ∧ t.Way L ∧ t.Sorts ws L ∧ L.length ≤ m := by
  intro m
  induction m using Nat.strongRecOn with
  | _ m ih =>
    intro t ws hG
    obtain ⟨hs, hl, hw, hn⟩ := h1 hG
    cases q : t.redNodes with
    | nil => exact ⟨[], q, trivial, way_normal q hw, Nat.zero_le _⟩
    | cons r l =>
      have hL : Least t r := head_of_least (by rw [q]; rfl)
      obtain ⟨t1, t2, t3, t4, t5⟩ := tail_ok ws t hL hw hn hs
      rw [← t5] at hn
      obtain ⟨m', hm, hG'⟩ := h2 hG hL t4 hn
      obtain ⟨L, e1, e2, e3, e4⟩ := ih m' (by omega) _ _ hG'
      have hsum : rowSum (t.rowBehind (rowOf ws) [r]).1 ≤ 200 := by
        have := (h1 hG').2.1
        unfold tailOf at this
        rwa [wayOf_length] at this
      refine ⟨r :: L, ⟨by rw [q]; rfl, e1⟩, ⟨hL.1, e2⟩, ⟨?_, hs.self, hs.waySm hw, hl, ?_, hL.1, (hs.step hL.1).self, t2, hsum, t3, e3⟩, by rw [List.length_cons]; omega⟩
      · intro e
        rw [e] at t1
        cases t1
      · unfold doneFirst
        rw [q, List.find?_cons, t1]
/-- a class of terms in which each step lowers a weight by 2 -/
theorem way_short {C : Nat → Tm → Prop} (hst : ∀ {w t n}, C w t → t.redAt n = true → ∃ w', w' + 2 ≤ w ∧ C w' (t.step n)) : ∀ {ws : List Nat} {t : Tm} {w : Nat}, C w t → t.Way ws → ∃ w', w' + 2 * ws.length ≤ w ∧ C w' (t.steps ws)
  | [], t, w, h, _ => ⟨w, by simp, h⟩
  | n :: ws, t, w, h, ⟨h1, h2⟩ => by
    obtain ⟨w1, l1, c1⟩ := hst h h1
    obtain ⟨w2, l2, c2⟩ := way_short hst c1 h2
    exact ⟨w2, by rw [List.length_cons]; omega, c2⟩
theorem sort_term {C : Nat → Tm → Prop} (hst : ∀ {w t n}, C w t → t.redAt n = true → ∃ w', w' + 2 ≤ w ∧ C w' (t.step n)) (hsm : ∀ {w t}, C w t → Small t) {w : Nat} {t : Tm} {ws : List Nat} (h : C w t) (hw : w ≤ 120) (h1 : t.Way ws) (h2 : (t.steps ws).redNodes = []) : Good t ws := by
  have sm : ∀ {w t}, C w t → AllSm t := fun h ws hw => by
    obtain ⟨w', _, c⟩ := way_short hst h hw
    exact hsm c
  refine ⟨sm h, ?_⟩
  refine sort_all (G := fun m t ws => ∃ w, C w t ∧ w ≤ 2 * m + 1 ∧ w ≤ 120 ∧ t.Way ws ∧ (t.steps ws).redNodes = []) (fun {m t ws} g => ?_) (fun {m t ws r} g hL g1 g2 => ?_) 60 t ws ⟨w, h, by omega, hw, h1, h2⟩
  · obtain ⟨w, c, l1, l2, g1, g2⟩ := g
    obtain ⟨w', l3, _⟩ := way_short hst c g1
    exact ⟨sm c, by omega, g1, g2⟩
  · obtain ⟨w, c, l1, l2, _, _⟩ := g
    obtain ⟨w', l3, c'⟩ := hst c hL.1
    exact ⟨m - 1, by omega, w', c', by omega, by omega, g1, g2⟩
theorem lm_firsts : ∀ {L : List Nat} {t : Tm}, t.Lm L → t.Firsts L
  | [], _, _ => trivial
  | _ :: L, t, ⟨h1, h2⟩ => ⟨fun r hr => (head_least h1).2 r hr, lm_firsts h2⟩
theorem Good.main {t : Tm} {ws : List Nat} (h : Good t ws) (hc : t.closedN 0 = true) (hw : t.Way ws) (hl : ws.length ≤ 200) : ∃ L, t.NormOf 60 L ∧ t.StdOf ws L ∧ t.Firsts L := by
  obtain ⟨sm, L, l1, l2, l3, l4⟩ := h
  exact ⟨L, ⟨sm.self, sm.waySm l2, l1, l4, Nat.le_refl _⟩, ⟨sm.self, hc, sm.waySm hw, hl, l3, by omega⟩, lm_firsts l1⟩
theorem Way60.way : ∀ {ws : List Nat} {t : Tm}, t.Way60 ws → t.Way ws
  | [], _, _ => trivial
  | _ :: _, _, ⟨h1, _, h3⟩ => ⟨h1, Way60.way h3⟩
end Tm
end Sf
/-! SfM7: graded types: each step lowers a term's weight by 2. -/
namespace Sf
namespace Tm
inductive Ti where
  | U
  | ar (m : Nat) (a b : Ti)
  deriving DecidableEq
/-- how often an argument may be used, what it is, what comes -/
def Ti.spl : Ti → Nat × Ti × Ti
  | .U => (1, .U, .U)
  | .ar m a b => (m, a, b)
def cn (A : Ti) (Γ : Nat → Ti) : Nat → Ti
  | 0 => A
  | i + 1 => Γ i
/-- a term has a type, a weight of at most w, and uses its names at most so often -/
inductive Ty : (Nat → Ti) → Tm → Ti → Nat → (Nat → Nat) → Prop
  | nm {Γ : Nat → Ti} {n : Nat} {T : Ti} {w : Nat} {o : Nat → Nat} : Γ n = T → 1 ≤ o n → Ty Γ (nm n) T w o
  | lt {Γ : Nat → Ti} {c : Bool} {T : Ti} {w : Nat} {o : Nat → Nat} : Ty Γ (lt c) T w o
  | fn {Γ : Nat → Ti} {b : Tm} {T : Ti} {m : Nat} {A B : Ti} {w W : Nat} {o o' : Nat → Nat} : T.spl = (m, A, B) → Ty (cn A Γ) b B w o' → o' 0 ≤ m → (∀ i, o' (i + 1) ≤ o i) → w + 1 ≤ W → Ty Γ (fn b) T W o
  | ap {Γ : Nat → Ti} {f a : Tm} {T : Ti} {m : Nat} {A B : Ti} {w1 w2 W : Nat} {o1 o2 o : Nat → Nat} : T.spl = (m, A, B) → 1 ≤ m → Ty Γ f T w1 o1 → Ty Γ a A w2 o2 → (∀ i, o1 i + m * o2 i ≤ o i) → w1 + 1 + m * w2 ≤ W → Ty Γ (ap f a) B W o
theorem Ty.sub {Γ : Nat → Ti} {t : Tm} {T : Ti} {w w' : Nat} {o o' : Nat → Nat} (h : Ty Γ t T w o) (hw : w ≤ w') (ho : ∀ i, o i ≤ o' i) : Ty Γ t T w' o' := by
  cases h with
  | nm h1 h2 => exact .nm h1 (Nat.le_trans h2 (ho _))
  | lt => exact .lt
  | fn h1 h2 h3 h4 h5 => exact .fn h1 h2 h3 (fun i => Nat.le_trans (h4 i) (ho i)) (Nat.le_trans h5 hw)
  | ap h1 h2 h3 h4 h5 h6 => exact .ap h1 h2 h3 h4 (fun i => Nat.le_trans (h5 i) (ho i)) (Nat.le_trans h6 hw)
def up (c m : Nat) (o : Nat → Nat) : Nat → Nat := fun i => if i < c then o i else if i < c + m then 0 else o (i - m)
theorem up_lt {c m i : Nat} {o : Nat → Nat} (h : i < c) : up c m o i = o i := if_pos h
theorem up_mid {c m i : Nat} {o : Nat → Nat} (h : c ≤ i) (h2 : i < c + m) : up c m o i = 0 := by unfold up; rw [if_neg (by omega), if_pos h2]
theorem up_ge {c m i : Nat} {o : Nat → Nat} (h : c + m ≤ i) : up c m o i = o (i - m) := by unfold up; rw [if_neg (by omega), if_neg (by omega)]
theorem up_succ {c m i : Nat} {o o' : Nat → Nat} (h : ∀ i, o' (i + 1) ≤ o i) : up (c + 1) m o' (i + 1) ≤ up c m o i := by
  rcases Nat.lt_or_ge i c with c1 | c1
  · rw [up_lt c1, up_lt (by omega)]
    exact h i
  · rcases Nat.lt_or_ge i (c + m) with c2 | c2
    · rw [up_mid (by omega) (by omega)]
      exact Nat.zero_le _
    · rw [up_ge c2, up_ge (by omega), show i + 1 - m = i - m + 1 by omega]
      exact h _
theorem up_add {c m k i : Nat} {o1 o2 o : Nat → Nat} (h : ∀ i, o1 i + k * o2 i ≤ o i) : up c m o1 i + k * up c m o2 i ≤ up c m o i := by
  rcases Nat.lt_or_ge i c with c1 | c1
  · rw [up_lt c1, up_lt c1, up_lt c1]
    exact h i
  · rcases Nat.lt_or_ge i (c + m) with c2 | c2
    · rw [up_mid c1 c2, up_mid c1 c2, up_mid c1 c2]
      simp
    · rw [up_ge c2, up_ge c2, up_ge c2]
      exact h _
/-- Γ' is Γ with m more at c -/
def Ins (c m : Nat) (Γ Γ' : Nat → Ti) : Prop := (∀ i, i < c → Γ' i = Γ i) ∧ ∀ i, c ≤ i → Γ' (i + m) = Γ i
theorem Ins.cn {c m : Nat} {Γ Γ' : Nat → Ti} (h : Ins c m Γ Γ') (A : Ti) : Ins (c + 1) m (Tm.cn A Γ) (Tm.cn A Γ') := by
  refine ⟨fun i hi => ?_, fun i hi => ?_⟩
  · cases i with
    | zero => rfl
    | succ i => exact h.1 i (by omega)
  · cases i with
    | zero => omega
    | succ i =>
      rw [show i + 1 + m = (i + m) + 1 by omega]
      exact h.2 i (by omega)
theorem Ty.lift {m : Nat} : ∀ {t : Tm} {c : Nat} {Γ Γ' : Nat → Ti} {T : Ti} {w : Nat} {o : Nat → Nat}, Ty Γ t T w o → Ins c m Γ Γ' → Ty Γ' (t.lift m c) T w (up c m o)
  | _, c, Γ, Γ', _, _, _, .nm (n := n) h1 h2, hI => by
    simp only [Tm.lift]
    by_cases hc : c ≤ n
    · rw [if_pos hc]
      exact .nm (by rw [hI.2 n hc, h1]) (by rw [up_ge (by omega), Nat.add_sub_cancel]; exact h2)
    · rw [if_neg hc]
      exact .nm (by rw [hI.1 n (by omega), h1]) (by rw [up_lt (by omega)]; exact h2)
  | _, c, Γ, Γ', _, _, _, .lt, hI => .lt
  | _, c, Γ, Γ', _, _, _, .fn (A := A) h1 h2 h3 h4 h5, hI => .fn h1 (Ty.lift h2 (hI.cn A)) (by rw [up_lt (by omega)]; exact h3) (fun i => up_succ h4) h5
  | _, c, Γ, Γ', _, _, _, .ap h1 h2 h3 h4 h5 h6, hI => .ap h1 h2 (Ty.lift h3 hI) (Ty.lift h4 hI) (fun i => up_add h5) h6
/-- the uses behind a put -/
def dn (d : Nat) (o1 o2 : Nat → Nat) : Nat → Nat := fun i => if i < d then o1 i else o1 (i + 1) + o1 d * o2 (i - d)
theorem dn_lt {d i : Nat} {o1 o2 : Nat → Nat} (h : i < d) : dn d o1 o2 i = o1 i := if_pos h
theorem dn_ge {d i : Nat} {o1 o2 : Nat → Nat} (h : d ≤ i) : dn d o1 o2 i = o1 (i + 1) + o1 d * o2 (i - d) := if_neg (by omega)
/-- Γb is Γ with A at d; what is put stands ahead of d more -/
structure Put (d : Nat) (A : Ti) (Γb Γ Γa : Nat → Ti) : Prop where
  lo : ∀ i, i < d → Γb i = Γ i
  at_ : Γb d = A
  hi : ∀ i, d ≤ i → Γb (i + 1) = Γ i
  arg : ∀ i, Γ (i + d) = Γa i
theorem Put.cn {d : Nat} {A : Ti} {Γb Γ Γa : Nat → Ti} (h : Put d A Γb Γ Γa) (C : Ti) : Put (d + 1) A (Tm.cn C Γb) (Tm.cn C Γ) Γa := by
  refine ⟨fun i hi => ?_, h.at_, fun i hi => ?_, fun i => h.arg i⟩
  · cases i with
    | zero => rfl
    | succ i => exact h.lo i (by omega)
  · cases i with
    | zero => omega
    | succ i => exact h.hi i (by omega)
theorem dn_succ {d i : Nat} {o o' o2 : Nat → Nat} (h : ∀ i, o' (i + 1) ≤ o i) : dn (d + 1) o' o2 (i + 1) ≤ dn d o o2 i := by
  rcases Nat.lt_or_ge i d with c1 | c1
  · rw [dn_lt c1, dn_lt (by omega)]
    exact h i
  · rw [dn_ge c1, dn_ge (by omega), show i + 1 - (d + 1) = i - d by omega]
    exact Nat.add_le_add (h _) (Nat.mul_le_mul_right _ (h _))
theorem dn_add {d k i : Nat} {o1 o2 o o3 : Nat → Nat} (h : ∀ i, o1 i + k * o2 i ≤ o i) : dn d o1 o3 i + k * dn d o2 o3 i ≤ dn d o o3 i := by
  rcases Nat.lt_or_ge i d with c1 | c1
  · rw [dn_lt c1, dn_lt c1, dn_lt c1]
    exact h i
  · rw [dn_ge c1, dn_ge c1, dn_ge c1]
    have g1 := h (i + 1)
    have g2 := Nat.mul_le_mul_right (o3 (i - d)) (h d)
    rw [Nat.add_mul, Nat.mul_assoc] at g2
    rw [Nat.mul_add]
    omega
theorem mul_pos_le {a b : Nat} (h : 1 ≤ a) : b ≤ a * b := Nat.le_mul_of_pos_left _ h
theorem Ty.put {A : Ti} {a : Tm} {Γa : Nat → Ti} {w2 : Nat} {o2 : Nat → Nat} (ha : Ty Γa a A w2 o2) : ∀ {b : Tm} {d : Nat} {Γb Γ : Nat → Ti} {B : Ti} {w1 : Nat} {o1 : Nat → Nat}, Ty Γb b B w1 o1 → Put d A Γb Γ Γa → Ty Γ (b.put a d) B (w1 + o1 d * w2) (dn d o1 o2)
  | _, d, Γb, Γ, B, w1, o1, .nm (n := n) h1 h2, hP => by
    simp only [Tm.put]
    by_cases c1 : n = d
    · rw [if_pos c1]
      subst c1
      have e : B = A := by rw [← h1, hP.at_]
      subst e
      refine (Ty.lift (c := 0) (m := n) (Γ' := Γ) ha ⟨fun i hi => by omega, fun i _ => hP.arg i⟩).sub (Nat.le_trans (mul_pos_le h2) (Nat.le_add_left _ _)) fun i => ?_
      rcases Nat.lt_or_ge i n with c2 | c2
      · rw [up_mid (Nat.zero_le _) (by omega)]
        exact Nat.zero_le _
      · rw [up_ge (by omega), dn_ge c2]
        exact Nat.le_trans (mul_pos_le h2) (Nat.le_add_left _ _)
    · rw [if_neg c1]
      by_cases c2 : d < n
      · rw [if_pos c2]
        obtain ⟨k, rfl⟩ : ∃ k, n = k + 1 := ⟨n - 1, by omega⟩
        refine .nm ?_ ?_
        · rw [Nat.add_sub_cancel, ← hP.hi k (by omega), h1]
        · rw [Nat.add_sub_cancel, dn_ge (by omega)]
          exact Nat.le_trans h2 (Nat.le_add_right _ _)
      · rw [if_neg c2]
        exact .nm (by rw [← hP.lo n (by omega), h1]) (by rw [dn_lt (by omega)]; exact h2)
  | _, d, Γb, Γ, B, w1, o1, .lt, hP => .lt
  | _, d, Γb, Γ, B, w1, o1, .fn (A := C) (w := w) h1 h2 h3 h4 h5, hP => by
    refine .fn h1 (Ty.put ha h2 (hP.cn C)) (by rw [dn_lt (by omega)]; exact h3) (fun i => dn_succ h4) ?_
    have := Nat.mul_le_mul_right w2 (h4 d)
    omega
  | _, d, Γb, Γ, B, w1, o1, .ap (m := m) (w1 := v1) (w2 := v2) (o1 := p1) (o2 := p2) h1 h2 h3 h4 h5 h6, hP => by
    refine .ap h1 h2 (Ty.put ha h3 hP) (Ty.put ha h4 hP) (fun i => dn_add h5) ?_
    have g2 := Nat.mul_le_mul_right w2 (h5 d)
    rw [Nat.add_mul, Nat.mul_assoc] at g2
    rw [Nat.mul_add]
    omega
theorem put0 {A : Ti} {Γ : Nat → Ti} : Put 0 A (cn A Γ) Γ Γ := ⟨fun i hi => by omega, rfl, fun i _ => rfl, fun i => rfl⟩
/-- each step lowers the weight -/
theorem Ty.step : ∀ {t : Tm} {n : Nat} {Γ : Nat → Ti} {T : Ti} {w : Nat} {o : Nat → Nat}, Ty Γ t T w o → t.redAt n = true → ∃ w', w' + 2 ≤ w ∧ Ty Γ (t.step n) T w' o
  | _, 0, _, _, _, _, .nm _ _, h => by cases h
  | _, n + 1, _, _, _, _, .nm _ _, h => by cases h
  | _, 0, _, _, _, _, .lt, h => by cases h
  | _, n + 1, _, _, _, _, .lt, h => by cases h
  | _, 0, _, _, _, _, .fn _ _ _ _ _, h => by cases h
  | _, n + 1, _, _, _, _, .fn h1 h2 h3 h4 h5, h => by
    obtain ⟨w', l, g⟩ := Ty.step (n := n) h2 h
    exact ⟨w' + 1, by omega, .fn h1 g h3 h4 (Nat.le_refl _)⟩
  | _, 0, Γ, _, _, o, .ap (m := m) (w2 := w2) (o2 := o2) h1 h2 h3 h4 h5 h6, h => by
    cases h3 with
    | nm _ _ => cases h
    | lt => cases h
    | ap _ _ _ _ _ _ => cases h
    | fn k1 k2 k3 k4 k5 =>
      rename_i b m' A' B' w o'
      rw [h1] at k1
      cases k1
      have g := Ty.put h4 k2 put0
      have e2 := Nat.mul_le_mul_right w2 k3
      refine ⟨w + o' 0 * w2, by omega, ?_⟩
      refine g.sub (Nat.le_refl _) fun i => ?_
      rw [dn_ge (Nat.zero_le _)]
      have e1 := k4 i
      have e3 := Nat.mul_le_mul_right (o2 i) k3
      have e4 := h5 i
      rw [Nat.sub_zero]
      omega
  | _, n + 1, Γ, _, _, _, .ap (f := f) (a := a) (m := m) (w1 := w1) (w2 := w2) h1 h2 h3 h4 h5 h6, h => by
    have h : (if n < f.size then f.redAt n else a.redAt (n - f.size)) = true := h
    show ∃ w', _ ∧ Ty Γ (if n < f.size then Tm.ap (f.step n) a else Tm.ap f (a.step (n - f.size))) _ w' _
    by_cases c : n < f.size
    · rw [if_pos c] at h ⊢
      obtain ⟨w', l, g⟩ := Ty.step h3 h
      exact ⟨w' + 1 + m * w2, by omega, .ap h1 h2 g h4 h5 (Nat.le_refl _)⟩
    · rw [if_neg c] at h ⊢
      obtain ⟨w', l, g⟩ := Ty.step h4 h
      have e := Nat.mul_le_mul_left m l
      rw [Nat.mul_add] at e
      exact ⟨w1 + 1 + m * w', by omega, .ap h1 h2 h3 g h5 (Nat.le_refl _)⟩
theorem Ty.small : ∀ {t : Tm} {Γ : Nat → Ti} {T : Ti} {w : Nat} {o : Nat → Nat}, Ty Γ t T w o → t.size ≤ 2 * w + 1 ∧ t.height ≤ w + 1
  | _, _, _, _, _, .nm _ _ => by simp only [size, height]; omega
  | _, _, _, _, _, .lt => by simp only [size, height]; omega
  | _, _, _, _, _, .fn h1 h2 h3 h4 h5 => by
    have := Ty.small h2
    simp only [size, height]; omega
  | _, _, _, _, _, .ap (m := m) (w2 := w2) h1 h2 h3 h4 h5 h6 => by
    have := Ty.small h3
    have := Ty.small h4
    have := mul_pos_le (b := w2) h2
    simp only [size, height]; omega
/-- terms of weight 59 at most -/
def TyC (w : Nat) (t : Tm) : Prop := w ≤ 59 ∧ ∃ Γ T o, Ty Γ t T w o
theorem TyC.good {w : Nat} {t : Tm} {ws : List Nat} (h : TyC w t) (h1 : t.Way ws) (h2 : (t.steps ws).redNodes = []) : Good t ws :=
  sort_term (C := TyC) (fun {w t n} ⟨hw, Γ, T, o, h⟩ hr => by
    obtain ⟨w', l, g⟩ := h.step hr
    exact ⟨w', l, by omega, Γ, T, o, g⟩) (fun {w t} ⟨hw, Γ, T, o, h⟩ => by
    have := h.small
    exact ⟨by omega, by omega⟩) h (by have := h.1; omega) h1 h2
/-! ### the types of given terms are checked -/
inductive An where
  | nm (n : Nat) (T : Ti)
  | lt (c : Bool) (T : Ti)
  | fn (T : Ti) (b : An)
  | ap (f a : An)
def An.tm : An → Tm
  | .nm n _ => Tm.nm n
  | .lt c _ => Tm.lt c
  | .fn _ b => Tm.fn b.tm
  | .ap f a => Tm.ap f.tm a.tm
def An.ty : An → Ti
  | .nm _ T => T
  | .lt _ T => T
  | .fn T _ => T
  | .ap f _ => f.ty.spl.2.2
def An.w : An → Nat
  | .nm _ _ => 0
  | .lt _ _ => 0
  | .fn _ b => b.w + 1
  | .ap f a => f.w + 1 + f.ty.spl.1 * a.w
def An.o : An → Nat → Nat
  | .nm n _ => fun i => if n = i then 1 else 0
  | .lt _ _ => fun _ => 0
  | .fn _ b => fun i => b.o (i + 1)
  | .ap f a => fun i => f.o i + f.ty.spl.1 * a.o i
def An.ok : An → (Nat → Ti) → Bool
  | .nm n T, Γ => decide (Γ n = T)
  | .lt _ _, _ => true
  | .fn T b, Γ => b.ok (cn T.spl.2.1 Γ) && decide (b.ty = T.spl.2.2) && decide (b.o 0 ≤ T.spl.1)
  | .ap f a, Γ => f.ok Γ && a.ok Γ && decide (a.ty = f.ty.spl.2.1) && decide (1 ≤ f.ty.spl.1)
theorem An.sound : ∀ (x : An) (Γ : Nat → Ti), x.ok Γ = true → Ty Γ x.tm x.ty x.w x.o
  | .nm n T, Γ, h => .nm (of_decide_eq_true h) (by simp [An.o])
  | .lt _ _, Γ, h => .lt
  | .fn T b, Γ, h => by
    simp only [An.ok, Bool.and_eq_true, decide_eq_true_eq] at h
    obtain ⟨⟨h1, h2⟩, h3⟩ := h
    have ih := An.sound b _ h1
    rw [h2] at ih
    exact .fn rfl ih h3 (fun i => Nat.le_refl _) (Nat.le_refl _)
  | .ap f a, Γ, h => by
    simp only [An.ok, Bool.and_eq_true, decide_eq_true_eq] at h
    obtain ⟨⟨⟨h1, h2⟩, h3⟩, h4⟩ := h
    have i1 := An.sound f _ h1
    have i2 := An.sound a _ h2
    rw [h3] at i2
    exact .ap rfl h4 i1 i2 (fun i => Nat.le_refl _) (Nat.le_refl _)
/-! ### affine terms -/
def inn : Tm → Nat
  | nm _ => 0
  | lt _ => 0
  | fn b => b.inn + 1
  | ap f a => f.inn + 1 + a.inn
theorem inn_lt : ∀ t : Tm, t.inn + 1 ≤ t.size
  | nm _ => Nat.le_refl _
  | lt _ => Nat.le_refl _
  | fn b => by have := inn_lt b; simp only [inn, size]; omega
  | ap f a => by have := inn_lt f; have := inn_lt a; simp only [inn, size]; omega
def GU : Nat → Ti := fun _ => .U
theorem cn_GU : cn .U GU = GU := by
  funext i
  cases i <;> rfl
theorem affine_ty : ∀ (t : Tm), t.affine = true → Ty GU t .U t.inn t.stands
  | nm n, h => .nm rfl (by simp [stands])
  | lt _, h => .lt
  | fn b, h => by
    have h : (decide (b.stands 0 ≤ 1) && b.affine) = true := h
    simp only [Bool.and_eq_true, decide_eq_true_eq] at h
    have ih := affine_ty b h.2
    rw [← cn_GU] at ih
    exact .fn rfl ih h.1 (fun i => Nat.le_refl _) (Nat.le_refl _)
  | ap f a, h => by
    have h : (f.affine && a.affine) = true := h
    simp only [Bool.and_eq_true] at h
    refine .ap rfl (Nat.le_refl _) (affine_ty f h.1) (affine_ty a h.2) (fun i => ?_) ?_
    · simp only [stands]; omega
    · simp only [inn]; omega
end Tm
end Sf
/-! SfM8: one place that may use its argument twice; what stands outside of it weighs double. -/
namespace Sf
namespace Tm
inductive Sp1 : (Nat → Ti) → Tm → Ti → Nat → (Nat → Nat) → Prop
  | pl {Γ : Nat → Ti} {t : Tm} {T : Ti} {w W : Nat} {o : Nat → Nat} : Ty Γ t T w o → 2 * w ≤ W → Sp1 Γ t T W o
  | reg {Γ : Nat → Ti} {t : Tm} {T' : Ti} {w W : Nat} {o o' : Nat → Nat} : Ty Γ t T' w o' → (T' = .U ∨ T' = .ar 2 .U .U) → (∀ i, o' i ≤ 2 * o i) → w ≤ W → Sp1 Γ t .U W o
  | fn {Γ : Nat → Ti} {b : Tm} {T : Ti} {m : Nat} {A B : Ti} {w W : Nat} {o o' : Nat → Nat} : T.spl = (m, A, B) → Sp1 (cn A Γ) b B w o' → o' 0 ≤ m → (∀ i, o' (i + 1) ≤ o i) → w + 2 ≤ W → Sp1 Γ (fn b) T W o
  | apL {Γ : Nat → Ti} {f a : Tm} {T : Ti} {m : Nat} {A B : Ti} {w1 w2 W : Nat} {o1 o2 o : Nat → Nat} : T.spl = (m, A, B) → 1 ≤ m → Sp1 Γ f T w1 o1 → Ty Γ a A w2 o2 → (∀ i, o1 i + m * o2 i ≤ o i) → w1 + 2 + 2 * (m * w2) ≤ W → Sp1 Γ (ap f a) B W o
  | apR {Γ : Nat → Ti} {f a : Tm} {T : Ti} {A B : Ti} {w1 w2 W : Nat} {o1 o2 o : Nat → Nat} : T.spl = (1, A, B) → Ty Γ f T w1 o1 → Sp1 Γ a A w2 o2 → (∀ i, o1 i + o2 i ≤ o i) → 2 * w1 + 2 + w2 ≤ W → Sp1 Γ (ap f a) B W o
theorem Sp1.sub {Γ : Nat → Ti} {t : Tm} {T : Ti} {w w' : Nat} {o o' : Nat → Nat} (h : Sp1 Γ t T w o) (hw : w ≤ w') (ho : ∀ i, o i ≤ o' i) : Sp1 Γ t T w' o' := by
  cases h with
  | pl h1 h2 => exact .pl (h1.sub (Nat.le_refl _) ho) (Nat.le_trans h2 hw)
  | reg h1 h2 h3 h4 => exact .reg h1 h2 (fun i => Nat.le_trans (h3 i) (Nat.mul_le_mul_left _ (ho i))) (Nat.le_trans h4 hw)
  | fn h1 h2 h3 h4 h5 => exact .fn h1 h2 h3 (fun i => Nat.le_trans (h4 i) (ho i)) (Nat.le_trans h5 hw)
  | apL h1 h2 h3 h4 h5 h6 => exact .apL h1 h2 h3 h4 (fun i => Nat.le_trans (h5 i) (ho i)) (Nat.le_trans h6 hw)
  | apR h1 h2 h3 h4 h5 => exact .apR h1 h2 h3 (fun i => Nat.le_trans (h4 i) (ho i)) (Nat.le_trans h5 hw)
theorem up_dbl {c m i : Nat} {o o' : Nat → Nat} (h : ∀ i, o' i ≤ 2 * o i) : up c m o' i ≤ 2 * up c m o i := by
  rcases Nat.lt_or_ge i c with c1 | c1
  · rw [up_lt c1, up_lt c1]
    exact h i
  · rcases Nat.lt_or_ge i (c + m) with c2 | c2
    · rw [up_mid c1 c2]
      exact Nat.zero_le _
    · rw [up_ge c2, up_ge c2]
      exact h _
theorem Sp1.lift {m : Nat} : ∀ {t : Tm} {c : Nat} {Γ Γ' : Nat → Ti} {T : Ti} {w : Nat} {o : Nat → Nat}, Sp1 Γ t T w o → Ins c m Γ Γ' → Sp1 Γ' (t.lift m c) T w (up c m o)
  | _, c, Γ, Γ', _, _, _, .pl h1 h2, hI => .pl (h1.lift hI) h2
  | _, c, Γ, Γ', _, _, _, .reg h1 h2 h3 h4, hI => .reg (h1.lift hI) h2 (fun i => up_dbl h3) h4
  | _, c, Γ, Γ', _, _, _, .fn (A := A) h1 h2 h3 h4 h5, hI => .fn h1 (Sp1.lift h2 (hI.cn A)) (by rw [up_lt (by omega)]; exact h3) (fun i => up_succ h4) h5
  | _, c, Γ, Γ', _, _, _, .apL h1 h2 h3 h4 h5 h6, hI => .apL h1 h2 (Sp1.lift h3 hI) (h4.lift hI) (fun i => up_add h5) h6
  | _, c, Γ, Γ', _, _, _, .apR (o1 := o1) (o2 := o2) (o := o) h1 h2 h3 h4 h5, hI => .apR h1 (h2.lift hI) (Sp1.lift h3 hI) (fun i => by
      have h4' : ∀ i, o1 i + 1 * o2 i ≤ o i := fun i => by rw [Nat.one_mul]; exact h4 i
      have := up_add (c := c) (m := m) (i := i) h4'
      rwa [Nat.one_mul] at this) h5
theorem dn_dbl {d i : Nat} {o o' o2 : Nat → Nat} (h : ∀ i, o' i ≤ 2 * o i) : dn d o' o2 i ≤ 2 * dn d o o2 i := by
  rcases Nat.lt_or_ge i d with c1 | c1
  · rw [dn_lt c1, dn_lt c1]
    exact h i
  · rw [dn_ge c1, dn_ge c1]
    have g1 := h (i + 1)
    have g2 := Nat.mul_le_mul_right (o2 (i - d)) (h d)
    rw [Nat.mul_assoc] at g2
    omega
/-- something plain is put into something with the place -/
theorem Sp1.put {A : Ti} {a : Tm} {Γa : Nat → Ti} {w2 : Nat} {o2 : Nat → Nat} (ha : Ty Γa a A w2 o2) : ∀ {b : Tm} {d : Nat} {Γb Γ : Nat → Ti} {B : Ti} {w1 : Nat} {o1 : Nat → Nat}, Sp1 Γb b B w1 o1 → Put d A Γb Γ Γa → Sp1 Γ (b.put a d) B (w1 + 2 * (o1 d * w2)) (dn d o1 o2)
  | _, d, Γb, Γ, B, w1, o1, .pl h1 h2, hP => .pl (Ty.put ha h1 hP) (by omega)
  | _, d, Γb, Γ, _, w1, o1, .reg h1 h2 h3 h4, hP => by
    refine .reg (Ty.put ha h1 hP) h2 (fun i => dn_dbl h3) ?_
    have g2 := Nat.mul_le_mul_right w2 (h3 d)
    rw [Nat.mul_assoc] at g2
    omega
  | _, d, Γb, Γ, B, w1, o1, .fn (A := C) h1 h2 h3 h4 h5, hP => by
    refine .fn h1 (Sp1.put ha h2 (hP.cn C)) (by rw [dn_lt (by omega)]; exact h3) (fun i => dn_succ h4) ?_
    have := Nat.mul_le_mul_right w2 (h4 d)
    omega
  | _, d, Γb, Γ, B, w1, o1, .apL (m := m) (w1 := v1) (w2 := v2) (o1 := p1) (o2 := p2) h1 h2 h3 h4 h5 h6, hP => by
    refine .apL h1 h2 (Sp1.put ha h3 hP) (Ty.put ha h4 hP) (fun i => dn_add h5) ?_
    have g2 := Nat.mul_le_mul_right w2 (h5 d)
    rw [Nat.add_mul, Nat.mul_assoc] at g2
    rw [Nat.mul_add m]
    omega
  | _, d, Γb, Γ, B, w1, o1, .apR (w1 := v1) (w2 := v2) (o1 := p1) (o2 := p2) h1 h2 h3 h4 h5, hP => by
    have h4' : ∀ i, p1 i + 1 * p2 i ≤ o1 i := fun i => by rw [Nat.one_mul]; exact h4 i
    refine .apR h1 (Ty.put ha h2 hP) (Sp1.put ha h3 hP) (fun i => ?_) ?_
    · have := dn_add (d := d) (i := i) (o3 := o2) h4'
      rwa [Nat.one_mul] at this
    · have g2 := Nat.mul_le_mul_right w2 (h4 d)
      rw [Nat.add_mul] at g2
      omega
theorem put_none : ∀ (b a a' : Tm) (d : Nat), b.stands d = 0 → b.put a d = b.put a' d
  | nm n, a, a', d, h => by
    simp only [stands] at h
    simp only [Tm.put]
    by_cases c : n = d
    · rw [if_pos c] at h; cases h
    · rw [if_neg c, if_neg c]
  | lt _, _, _, _, _ => rfl
  | fn b, a, a', d, h => by
    show fn (b.put a (d + 1)) = fn (b.put a' (d + 1))
    rw [put_none b a a' (d + 1) h]
  | ap f g, a, a', d, h => by
    simp only [stands] at h
    show ap (f.put a d) (g.put a d) = ap (f.put a' d) (g.put a' d)
    rw [put_none f a a' d (by omega), put_none g a a' d (by omega)]
theorem Ty.stands_le : ∀ {t : Tm} {Γ : Nat → Ti} {T : Ti} {w : Nat} {o : Nat → Nat}, Ty Γ t T w o → ∀ i, t.stands i ≤ o i
  | _, _, _, _, _, .nm (n := n) _ h, i => by
    simp only [stands]
    by_cases c : n = i
    · rw [if_pos c, ← c]; exact h
    · rw [if_neg c]; exact Nat.zero_le _
  | _, _, _, _, _, .lt, i => Nat.zero_le _
  | _, _, _, _, _, .fn h1 h2 h3 h4 h5, i => Nat.le_trans (Ty.stands_le h2 (i + 1)) (h4 i)
  | _, _, _, _, _, .ap (m := m) (o2 := o2) h1 h2 h3 h4 h5 h6, i => by
    have e1 := Ty.stands_le h3 i
    have e2 := Ty.stands_le h4 i
    have e3 := h5 i
    have e4 := mul_pos_le (b := o2 i) h2
    simp only [stands]
    omega
/-- nothing is put -/
theorem Ty.put_no {A : Ti} {a b : Tm} {Γa : Nat → Ti} {o2 : Nat → Nat} {d : Nat} {Γb Γ : Nat → Ti} {B : Ti} {w1 : Nat} {o1 : Nat → Nat} (h : Ty Γb b B w1 o1) (h0 : o1 d = 0) (hP : Put d A Γb Γ Γa) : Ty Γ (b.put a d) B w1 (dn d o1 o2) := by
  have e := put_none b a (Tm.lt false) d (by have := h.stands_le d; omega)
  rw [e]
  have g := Ty.put (A := A) (a := Tm.lt false) (Γa := Γa) (w2 := 0) (o2 := o2) .lt h hP
  exact g.sub (by simp) fun i => Nat.le_refl _
/-- the place is put into something plain that has one use for it -/
theorem Sp1.into {A : Ti} {a : Tm} {Γa : Nat → Ti} {w2 : Nat} {o2 : Nat → Nat} (ha : Sp1 Γa a A w2 o2) : ∀ {b : Tm} {d : Nat} {Γb Γ : Nat → Ti} {B : Ti} {w1 : Nat} {o1 : Nat → Nat}, Ty Γb b B w1 o1 → o1 d ≤ 1 → Put d A Γb Γ Γa → Sp1 Γ (b.put a d) B (2 * w1 + w2) (dn d o1 o2)
  | _, d, Γb, Γ, B, w1, o1, .nm (n := n) h1 h2, h0, hP => by
    simp only [Tm.put]
    by_cases c1 : n = d
    · rw [if_pos c1]
      subst c1
      have e : B = A := by rw [← h1, hP.at_]
      subst e
      refine (Sp1.lift (c := 0) (m := n) (Γ' := Γ) ha ⟨fun i hi => by omega, fun i _ => hP.arg i⟩).sub (by omega) fun i => ?_
      rcases Nat.lt_or_ge i n with c2 | c2
      · rw [up_mid (Nat.zero_le _) (by omega)]
        exact Nat.zero_le _
      · rw [up_ge (by omega), dn_ge c2]
        exact Nat.le_trans (mul_pos_le h2) (Nat.le_add_left _ _)
    · rw [if_neg c1]
      by_cases c2 : d < n
      · rw [if_pos c2]
        obtain ⟨k, rfl⟩ : ∃ k, n = k + 1 := ⟨n - 1, by omega⟩
        refine .pl (w := 0) (.nm ?_ ?_) (by omega)
        · rw [Nat.add_sub_cancel, ← hP.hi k (by omega), h1]
        · rw [Nat.add_sub_cancel, dn_ge (by omega)]
          exact Nat.le_trans h2 (Nat.le_add_right _ _)
      · rw [if_neg c2]
        exact .pl (w := 0) (.nm (by rw [← hP.lo n (by omega), h1]) (by rw [dn_lt (by omega)]; exact h2)) (by omega)
  | _, d, Γb, Γ, B, w1, o1, .lt, h0, hP => .pl (w := 0) .lt (by omega)
  | _, d, Γb, Γ, B, w1, o1, .fn (A := C) (w := w) h1 h2 h3 h4 h5, h0, hP =>
    .fn h1 (Sp1.into ha h2 (Nat.le_trans (h4 d) h0) (hP.cn C)) (by rw [dn_lt (by omega)]; exact h3) (fun i => dn_succ h4) (by omega)
  | _, d, Γb, Γ, B, w1, o1, .ap (m := m) (w1 := v1) (w2 := v2) (o1 := p1) (o2 := p2) h1 h2 h3 h4 h5 h6, h0, hP => by
    have hd := h5 d
    rcases Nat.eq_zero_or_pos (p2 d) with c | c
    · have g := Ty.put_no (a := a) (o2 := o2) h4 c hP
      exact .apL h1 h2 (Sp1.into ha h3 (by omega) hP) g (fun i => dn_add h5) (by omega)
    · have e := Nat.mul_le_mul_left m c
      have hm : m = 1 := by omega
      subst hm
      have g := Ty.put_no (a := a) (o2 := o2) h3 (by omega) hP
      refine .apR h1 g (Sp1.into ha h4 (by omega) hP) (fun i => ?_) (by omega)
      have := dn_add (d := d) (i := i) (o3 := o2) h5
      rwa [Nat.one_mul] at this
theorem dn0_le {m : Nat} {o1 o2 o o' : Nat → Nat} (h4 : ∀ i, o' (i + 1) ≤ o1 i) (h3 : o' 0 ≤ m) (h5 : ∀ i, o1 i + m * o2 i ≤ o i) (i : Nat) : dn 0 o' o2 i ≤ o i := by
  rw [dn_ge (Nat.zero_le _), Nat.sub_zero]
  have e1 := h4 i
  have e3 := Nat.mul_le_mul_right (o2 i) h3
  have e4 := h5 i
  omega
theorem Sp1.step : ∀ {t : Tm} {n : Nat} {Γ : Nat → Ti} {T : Ti} {w : Nat} {o : Nat → Nat}, Sp1 Γ t T w o → t.redAt n = true → ∃ w', w' + 2 ≤ w ∧ Sp1 Γ (t.step n) T w' o
  | _, n, Γ, T, w, o, .pl h1 h2, h => by
    obtain ⟨w', l, g⟩ := h1.step h
    exact ⟨2 * w', by omega, .pl g (Nat.le_refl _)⟩
  | _, n, Γ, _, w, o, .reg h1 h2 h3 h4, h => by
    obtain ⟨w', l, g⟩ := h1.step h
    exact ⟨w', by omega, .reg g h2 h3 (Nat.le_refl _)⟩
  | _, 0, _, _, _, _, .fn _ _ _ _ _, h => by cases h
  | _, n + 1, _, _, _, _, .fn h1 h2 h3 h4 h5, h => by
    obtain ⟨w', l, g⟩ := Sp1.step (n := n) h2 h
    exact ⟨w' + 2, by omega, .fn h1 g h3 h4 (Nat.le_refl _)⟩
  | _, 0, Γ, _, W, o, .apL (m := m) (w2 := w2) (o2 := o2) h1 h2 h3 h4 h5 h6, h => by
    cases h3 with
    | pl k1 k2 =>
      obtain ⟨w', l, g⟩ := (Ty.ap h1 h2 k1 h4 h5 (Nat.le_refl _)).step h
      exact ⟨2 * w', by omega, .pl g (Nat.le_refl _)⟩
    | apL _ _ _ _ _ _ => cases h
    | apR _ _ _ _ _ => cases h
    | fn k1 k2 k3 k4 k5 =>
      rename_i b m' A' B' w o'
      rw [h1] at k1
      cases k1
      have g := Sp1.put h4 k2 put0
      have e2 := Nat.mul_le_mul_right w2 k3
      exact ⟨w + 2 * (o' 0 * w2), by omega, g.sub (Nat.le_refl _) (dn0_le k4 k3 h5)⟩
    | reg k1 k2 k3 k4 =>
      cases h1
      cases k1 with
      | nm _ _ => cases h
      | lt => cases h
      | ap _ _ _ _ _ _ => cases h
      | fn j1 j2 j3 j4 j5 =>
        rename_i T' wW o' b m' A' B' w p'
        have hT : A' = .U ∧ B' = .U ∧ m' ≤ 2 := by
          rcases k2 with rfl | rfl
          · cases j1; exact ⟨rfl, rfl, by decide⟩
          · cases j1; exact ⟨rfl, rfl, by decide⟩
        obtain ⟨rfl, rfl, hm⟩ := hT
        have g := Ty.put h4 j2 put0
        have e2 := Nat.mul_le_mul_right w2 (Nat.le_trans j3 hm)
        refine ⟨w + p' 0 * w2, by omega, .reg g (.inl rfl) (fun i => ?_) (Nat.le_refl _)⟩
        rw [dn_ge (Nat.zero_le _), Nat.sub_zero]
        have e3 := j4 i
        have e4 := k3 i
        have e5 := h5 i
        have e6 := Nat.mul_le_mul_right (o2 i) (Nat.le_trans j3 hm)
        omega
  | _, n + 1, Γ, _, _, _, .apL (f := f) (a := a) (m := m) (w1 := w1) (w2 := w2) h1 h2 h3 h4 h5 h6, h => by
    have h : (if n < f.size then f.redAt n else a.redAt (n - f.size)) = true := h
    show ∃ w', _ ∧ Sp1 Γ (if n < f.size then Tm.ap (f.step n) a else Tm.ap f (a.step (n - f.size))) _ w' _
    by_cases c : n < f.size
    · rw [if_pos c] at h ⊢
      obtain ⟨w', l, g⟩ := Sp1.step h3 h
      exact ⟨w' + 2 + 2 * (m * w2), by omega, .apL h1 h2 g h4 h5 (Nat.le_refl _)⟩
    · rw [if_neg c] at h ⊢
      obtain ⟨w', l, g⟩ := Ty.step h4 h
      have e := Nat.mul_le_mul_left m l
      rw [Nat.mul_add] at e
      exact ⟨w1 + 2 + 2 * (m * w'), by omega, .apL h1 h2 h3 g h5 (Nat.le_refl _)⟩
  | _, 0, Γ, _, W, o, .apR (w2 := w2) (o2 := o2) h1 h2 h3 h4 h5, h => by
    cases h2 with
    | nm _ _ => cases h
    | lt => cases h
    | ap _ _ _ _ _ _ => cases h
    | fn j1 j2 j3 j4 j5 =>
      rename_i b m' A' B' w p'
      rw [h1] at j1
      cases j1
      have g := Sp1.into h3 j2 j3 put0
      exact ⟨2 * w + w2, by omega, g.sub (Nat.le_refl _) (dn0_le j4 j3 fun i => by rw [Nat.one_mul]; exact h4 i)⟩
  | _, n + 1, Γ, _, _, _, .apR (f := f) (a := a) (w1 := w1) (w2 := w2) h1 h2 h3 h4 h5, h => by
    have h : (if n < f.size then f.redAt n else a.redAt (n - f.size)) = true := h
    show ∃ w', _ ∧ Sp1 Γ (if n < f.size then Tm.ap (f.step n) a else Tm.ap f (a.step (n - f.size))) _ w' _
    by_cases c : n < f.size
    · rw [if_pos c] at h ⊢
      obtain ⟨w', l, g⟩ := Ty.step h2 h
      exact ⟨2 * w' + 2 + w2, by omega, .apR h1 g h3 h4 (Nat.le_refl _)⟩
    · rw [if_neg c] at h ⊢
      obtain ⟨w', l, g⟩ := Sp1.step h3 h
      exact ⟨2 * w1 + 2 + w', by omega, .apR h1 h2 g h4 (Nat.le_refl _)⟩
theorem Sp1.small : ∀ {t : Tm} {Γ : Nat → Ti} {T : Ti} {w : Nat} {o : Nat → Nat}, Sp1 Γ t T w o → t.size ≤ 2 * w + 1 ∧ t.height ≤ w + 1
  | _, _, _, _, _, .pl h1 h2 => by
    have := h1.small
    omega
  | _, _, _, _, _, .reg h1 h2 h3 h4 => by
    have := h1.small
    omega
  | _, _, _, _, _, .fn h1 h2 h3 h4 h5 => by
    have := Sp1.small h2
    simp only [size, height]; omega
  | _, _, _, _, _, .apL (m := m) (w2 := w2) h1 h2 h3 h4 h5 h6 => by
    have := Sp1.small h3
    have := h4.small
    have := mul_pos_le (b := w2) h2
    simp only [size, height]; omega
  | _, _, _, _, _, .apR h1 h2 h3 h4 h5 => by
    have := h2.small
    have := Sp1.small h3
    simp only [size, height]; omega
def SpC (w : Nat) (t : Tm) : Prop := w ≤ 59 ∧ ∃ Γ T o, Sp1 Γ t T w o
theorem SpC.good {w : Nat} {t : Tm} {ws : List Nat} (h : SpC w t) (h1 : t.Way ws) (h2 : (t.steps ws).redNodes = []) : Good t ws :=
  sort_term (C := SpC) (fun {w t n} ⟨hw, Γ, T, o, h⟩ hr => by
    obtain ⟨w', l, g⟩ := h.step hr
    exact ⟨w', l, by omega, Γ, T, o, g⟩) (fun {w t} ⟨hw, Γ, T, o, h⟩ => by
    have := h.small
    exact ⟨by omega, by omega⟩) h (by have := h.1; omega) h1 h2
end Tm
end Sf
/-! SfM9: terms in which the endless one stands. -/
namespace Sf
namespace Tm
/-! ### names in lifts and puts -/
theorem stands_lift_lt : ∀ (t : Tm) (m c i : Nat), i < c → (t.lift m c).stands i = t.stands i
  | nm k, m, c, i, h => by
    simp only [lift]
    by_cases h1 : c ≤ k
    · rw [if_pos h1]
      simp only [stands]
      rw [if_neg (by omega), if_neg (by omega)]
    · rw [if_neg h1]
  | lt _, _, _, _, _ => rfl
  | fn b, m, c, i, h => stands_lift_lt b m (c + 1) (i + 1) (by omega)
  | ap f a, m, c, i, h => by
    show (f.lift m c).stands i + (a.lift m c).stands i = f.stands i + a.stands i
    rw [stands_lift_lt f m c i h, stands_lift_lt a m c i h]
theorem stands_lift_mid : ∀ (t : Tm) (m c i : Nat), c ≤ i → i < c + m → (t.lift m c).stands i = 0
  | nm k, m, c, i, h, h2 => by
    simp only [lift]
    by_cases h1 : c ≤ k
    · rw [if_pos h1]
      simp only [stands]
      rw [if_neg (by omega)]
    · rw [if_neg h1]
      simp only [stands]
      rw [if_neg (by omega)]
  | lt _, _, _, _, _, _ => rfl
  | fn b, m, c, i, h, h2 => stands_lift_mid b m (c + 1) (i + 1) (by omega) (by omega)
  | ap f a, m, c, i, h, h2 => by
    show (f.lift m c).stands i + (a.lift m c).stands i = 0
    rw [stands_lift_mid f m c i h h2, stands_lift_mid a m c i h h2]
theorem stands_lift_ge : ∀ (t : Tm) (m c i : Nat), c ≤ i → (t.lift m c).stands (i + m) = t.stands i
  | nm k, m, c, i, h => by
    simp only [lift]
    by_cases h1 : c ≤ k
    · rw [if_pos h1]
      simp only [stands]
      by_cases h2 : k = i
      · rw [if_pos (by omega), if_pos h2]
      · rw [if_neg (by omega), if_neg h2]
    · rw [if_neg h1]
      simp only [stands]
      rw [if_neg (by omega), if_neg (by omega)]
  | lt _, _, _, _, _ => rfl
  | fn b, m, c, i, h => by
    show (b.lift m (c + 1)).stands (i + m + 1) = b.stands (i + 1)
    rw [show i + m + 1 = i + 1 + m by omega]
    exact stands_lift_ge b m (c + 1) (i + 1) (by omega)
  | ap f a, m, c, i, h => by
    show (f.lift m c).stands (i + m) + (a.lift m c).stands (i + m) = f.stands i + a.stands i
    rw [stands_lift_ge f m c i h, stands_lift_ge a m c i h]
theorem stands_put_lt : ∀ (b a : Tm) (d i : Nat), i < d → (b.put a d).stands i = b.stands i
  | nm k, a, d, i, h => by
    simp only [put]
    by_cases h1 : k = d
    · rw [if_pos h1, stands_lift_mid a d 0 i (by omega) (by omega)]
      simp only [stands]
      rw [if_neg (by omega)]
    · rw [if_neg h1]
      by_cases h2 : d < k
      · rw [if_pos h2]
        simp only [stands]
        rw [if_neg (by omega), if_neg (by omega)]
      · rw [if_neg h2]
  | lt _, _, _, _, _ => rfl
  | fn b, a, d, i, h => stands_put_lt b a (d + 1) (i + 1) (by omega)
  | ap f g, a, d, i, h => by
    show (f.put a d).stands i + (g.put a d).stands i = f.stands i + g.stands i
    rw [stands_put_lt f a d i h, stands_put_lt g a d i h]
theorem stands_put_ge : ∀ (b a : Tm) (d i : Nat), (b.put a d).stands (i + d) = b.stands (i + d + 1) + b.stands d * a.stands i
  | nm k, a, d, i => by
    simp only [put]
    by_cases h1 : k = d
    · rw [if_pos h1, stands_lift_ge a d 0 i (by omega)]
      simp only [stands]
      rw [if_neg (by omega), if_pos h1]
      omega
    · rw [if_neg h1]
      by_cases h2 : d < k
      · rw [if_pos h2]
        simp only [stands]
        rw [if_neg h1]
        by_cases h3 : k = i + d + 1
        · rw [if_pos (by omega), if_pos h3]; omega
        · rw [if_neg (by omega), if_neg h3]; omega
      · rw [if_neg h2]
        simp only [stands]
        rw [if_neg (by omega), if_neg (by omega), if_neg h1]
        omega
  | lt _, _, _, _ => by simp [put, stands]
  | fn b, a, d, i => by
    show (b.put a (d + 1)).stands (i + d + 1) = b.stands (i + d + 1 + 1) + b.stands (d + 1) * a.stands i
    exact stands_put_ge b a (d + 1) i
  | ap f g, a, d, i => by
    show (f.put a d).stands (i + d) + (g.put a d).stands (i + d) = (f.stands (i + d + 1) + g.stands (i + d + 1)) + (f.stands d + g.stands d) * a.stands i
    rw [stands_put_ge f a d i, stands_put_ge g a d i, Nat.add_mul]
    omega
/-! ### closed terms -/
theorem closed_mono : ∀ (t : Tm) (d e : Nat), d ≤ e → t.closedN d = true → t.closedN e = true
  | nm k, d, e, h, hc => by
    simp only [closedN, decide_eq_true_eq] at hc ⊢
    omega
  | lt _, _, _, _, _ => rfl
  | fn b, d, e, h, hc => closed_mono b (d + 1) (e + 1) (by omega) hc
  | ap f a, d, e, h, hc => by
    simp only [closedN, Bool.and_eq_true] at hc ⊢
    exact ⟨closed_mono f d e h hc.1, closed_mono a d e h hc.2⟩
theorem closed_lift : ∀ (t : Tm) (m c : Nat), t.closedN c = true → t.lift m c = t
  | nm k, m, c, h => by
    simp only [closedN, decide_eq_true_eq] at h
    simp only [lift]
    rw [if_neg (by omega)]
  | lt _, _, _, _ => rfl
  | fn b, m, c, h => by
    show fn (b.lift m (c + 1)) = _
    rw [closed_lift b m (c + 1) h]
  | ap f a, m, c, h => by
    simp only [closedN, Bool.and_eq_true] at h
    show ap (f.lift m c) (a.lift m c) = _
    rw [closed_lift f m c h.1, closed_lift a m c h.2]
theorem closed_put : ∀ (t u : Tm) (d : Nat), t.closedN d = true → t.put u d = t
  | nm k, u, d, h => by
    simp only [closedN, decide_eq_true_eq] at h
    simp only [put]
    rw [if_neg (by omega), if_neg (by omega)]
  | lt _, _, _, _ => rfl
  | fn b, u, d, h => by
    show fn (b.put u (d + 1)) = _
    rw [closed_put b u (d + 1) h]
  | ap f a, u, d, h => by
    simp only [closedN, Bool.and_eq_true] at h
    show ap (f.put u d) (a.put u d) = _
    rw [closed_put f u d h.1, closed_put a u d h.2]
theorem closed_stands : ∀ (t : Tm) (d i : Nat), t.closedN d = true → d ≤ i → t.stands i = 0
  | nm k, d, i, h, hi => by
    simp only [closedN, decide_eq_true_eq] at h
    simp only [stands]
    rw [if_neg (by omega)]
  | lt _, _, _, _, _ => rfl
  | fn b, d, i, h, hi => closed_stands b (d + 1) (i + 1) h (by omega)
  | ap f a, d, i, h, hi => by
    simp only [closedN, Bool.and_eq_true] at h
    show f.stands i + a.stands i = 0
    rw [closed_stands f d i h.1 hi, closed_stands a d i h.2 hi]
theorem closed_of_stands : ∀ (t : Tm) (d : Nat), (∀ i, d ≤ i → t.stands i = 0) → t.closedN d = true
  | nm k, d, h => by
    simp only [closedN, decide_eq_true_eq]
    rcases Nat.lt_or_ge k d with c | c
    · exact c
    · have := h k c
      simp [stands] at this
  | lt _, _, _ => rfl
  | fn b, d, h => closed_of_stands b (d + 1) fun i hi => by
      obtain ⟨j, rfl⟩ : ∃ j, i = j + 1 := ⟨i - 1, by omega⟩
      exact h j (by omega)
  | ap f a, d, h => by
    simp only [closedN, Bool.and_eq_true]
    have h' : ∀ i, d ≤ i → f.stands i + a.stands i = 0 := h
    exact ⟨closed_of_stands f d fun i hi => by have := h' i hi; omega, closed_of_stands a d fun i hi => by have := h' i hi; omega⟩
/-! ### the class -/
inductive Om : Nat → Nat → Tm → Prop
  | nm {k w n : Nat} : Om k w (nm n)
  | lt {k w : Nat} {c : Bool} : Om k w (lt c)
  | om {k w : Nat} : 5 ≤ w → Om k w tOmega
  | fn {k w W : Nat} {b : Tm} : Om k w b → b.stands 0 ≤ 1 → w + 1 ≤ W → Om k W (fn b)
  | ap {k k1 k2 w w1 w2 : Nat} {f a : Tm} : Om k1 w1 f → Om k2 w2 a → k1 + k2 ≤ k → w1 + 1 + w2 ≤ w → Om k w (ap f a)
  | dup {k w W : Nat} {a : Tm} : Om 0 w a → a.closedN 0 = true → 1 ≤ k → 3 + 2 * w ≤ W → Om k W (ap tPair a)
theorem Om.sub {k k' w w' : Nat} {t : Tm} (h : Om k w t) (hk : k ≤ k') (hw : w ≤ w') : Om k' w' t := by
  cases h with
  | nm => exact .nm
  | lt => exact .lt
  | om h => exact .om (Nat.le_trans h hw)
  | fn h1 h2 h3 =>
    have : ∀ {b : Tm} {w : Nat}, Om k w b → Om k' w b := fun h => by
      clear h1 h2 h3 hw
      induction h generalizing k' with
      | nm => exact .nm
      | lt => exact .lt
      | om h => exact .om h
      | fn h1 h2 h3 ih => exact .fn (ih hk) h2 h3
      | ap h1 h2 h3 h4 => exact .ap h1 h2 (Nat.le_trans h3 hk) h4
      | dup h1 h2 h3 h4 => exact .dup h1 h2 (Nat.le_trans h3 hk) h4
    exact .fn (this h1) h2 (Nat.le_trans h3 hw)
  | ap h1 h2 h3 h4 => exact .ap h1 h2 (Nat.le_trans h3 hk) (Nat.le_trans h4 hw)
  | dup h1 h2 h3 h4 => exact .dup h1 h2 (Nat.le_trans h3 hk) (Nat.le_trans h4 hw)
theorem closed_lift0 {t : Tm} (h : t.closedN 0 = true) (m c : Nat) : t.lift m c = t := closed_lift t m c (closed_mono t 0 c (Nat.zero_le _) h)
theorem closed_put0 {t : Tm} (h : t.closedN 0 = true) (u : Tm) (d : Nat) : t.put u d = t := closed_put t u d (closed_mono t 0 d (Nat.zero_le _) h)
theorem pair_closed : tPair.closedN 0 = true := rfl
theorem omega_closed : tOmega.closedN 0 = true := rfl
theorem Om.lift {m : Nat} : ∀ {t : Tm} {k w c : Nat}, Om k w t → Om k w (t.lift m c)
  | _, _, _, c, .nm (n := n) => by
    simp only [Tm.lift]
    split <;> exact .nm
  | _, _, _, _, .lt => .lt
  | _, _, _, c, .om h => by rw [closed_lift0 omega_closed]; exact .om h
  | _, _, _, c, .fn h1 h2 h3 => .fn (Om.lift h1) (by rw [stands_lift_lt _ _ _ _ (by omega)]; exact h2) h3
  | _, _, _, _, .ap h1 h2 h3 h4 => .ap (Om.lift h1) (Om.lift h2) h3 h4
  | _, _, _, c, .dup (a := a) h1 h2 h3 h4 => by
    have e : (Tm.ap tPair a).closedN 0 = true := by
      show (tPair.closedN 0 && a.closedN 0) = true
      rw [h2]
      rfl
    rw [closed_lift0 e]
    exact .dup h1 h2 h3 h4
theorem Om.put {a : Tm} {k2 w2 : Nat} (ha : Om k2 w2 a) : ∀ {b : Tm} {k1 w1 d : Nat}, Om k1 w1 b → Om (k1 + b.stands d * k2) (w1 + b.stands d * w2) (b.put a d)
  | _, k1, w1, d, .nm (n := n) => by
    simp only [Tm.put, stands]
    by_cases h1 : n = d
    · rw [if_pos h1, if_pos h1]
      exact ha.lift.sub (by omega) (by omega)
    · rw [if_neg h1, if_neg h1]
      split <;> exact .nm
  | _, _, _, _, .lt => .lt
  | _, k1, w1, d, .om h => by
    rw [closed_put0 omega_closed]
    exact .om (by omega)
  | _, k1, w1, d, .fn (b := b) h1 h2 h3 => by
    refine .fn (Om.put ha (d := d + 1) h1) (by rw [stands_put_lt _ _ _ _ (by omega)]; exact h2) ?_
    show _ ≤ w1 + b.stands (d + 1) * w2
    omega
  | _, k1, w1, d, .ap (f := f) (a := g) h1 h2 h3 h4 => by
    refine .ap (Om.put ha (d := d) h1) (Om.put ha (d := d) h2) ?_ ?_
    · show _ ≤ k1 + (f.stands d + g.stands d) * k2
      rw [Nat.add_mul]; omega
    · show _ ≤ w1 + (f.stands d + g.stands d) * w2
      rw [Nat.add_mul]; omega
  | _, k1, w1, d, .dup (a := g) h1 h2 h3 h4 => by
    have e : (Tm.ap tPair g).closedN 0 = true := by
      show (tPair.closedN 0 && g.closedN 0) = true
      rw [h2]
      rfl
    rw [closed_put0 e]
    exact (Om.dup h1 h2 h3 h4).sub (by omega) (by omega)
/-- how often the name of the redex at a node stands -/
def occAt (t : Tm) (n : Nat) : Nat := match t.parts[n]? with
  | some (ap (fn b) _) => b.stands 0
  | _ => 0
theorem occAt_of {t : Tm} {n : Nat} {b a : Tm} (h : t.parts[n]? = some (ap (fn b) a)) : t.occAt n = b.stands 0 := by
  unfold occAt
  rw [h]
theorem stands_contract (b a : Tm) (i : Nat) : (b.put a 0).stands i = b.stands (i + 1) + b.stands 0 * a.stands i := stands_put_ge b a 0 i
theorem pair_red (n : Nat) : tPair.redAt n = false := by
  match n with
  | 0 => rfl
  | 1 => rfl
  | 2 => rfl
  | 3 => rfl
  | n + 4 =>
    cases q : tPair.redAt (n + 4) with
    | false => rfl
    | true =>
      have := redAt_lt q
      simp only [size] at this
      omega
theorem ap_red {f a : Tm} {n : Nat} : (ap f a).redAt (n + 1) = if n < f.size then f.redAt n else a.redAt (n - f.size) := rfl
theorem ap_step {f a : Tm} {n : Nat} : (ap f a).step (n + 1) = if n < f.size then ap (f.step n) a else ap f (a.step (n - f.size)) := rfl
theorem omega_red {n : Nat} (h : tOmega.redAt n = true) : n = 0 := by
  cases n with
  | zero => rfl
  | succ n =>
    rw [ap_red] at h
    split at h
    · rw [pair_red] at h; cases h
    · rw [pair_red] at h; cases h
theorem Om.size : ∀ {t : Tm} {k w : Nat}, Om k w t → t.size ≤ 2 * w + 1 ∧ t.height ≤ w + 1
  | _, _, _, .nm => by simp only [Tm.size, height]; omega
  | _, _, _, .lt => by simp only [Tm.size, height]; omega
  | _, _, _, .om h => by simp only [Tm.size, height]; omega
  | _, _, _, .fn h1 h2 h3 => by
    have := Om.size h1
    simp only [Tm.size, height]; omega
  | _, _, _, .ap h1 h2 h3 h4 => by
    have := Om.size h1
    have := Om.size h2
    simp only [Tm.size, height]; omega
  | _, _, _, .dup h1 h2 h3 h4 => by
    have := Om.size h1
    simp only [Tm.size, height]; omega
/-- a step, other than at the endless term -/
def StepOk (k w : Nat) (t : Tm) (n : Nat) : Prop := ∃ k' w', w' + 2 ≤ w ∧ Om k' w' (t.step n) ∧ ((t.occAt n ≤ 1 ∧ k' ≤ k) ∨ (t.occAt n ≤ 2 ∧ k' + 1 ≤ k))
theorem occAt_fn {b : Tm} {n : Nat} : (fn b).occAt (n + 1) = b.occAt n := rfl
theorem occAt_apL {f a : Tm} {n : Nat} (h : n < f.size) : (ap f a).occAt (n + 1) = f.occAt n := by
  unfold occAt
  rw [parts_ap, if_pos h]
theorem occAt_apR {f a : Tm} {n : Nat} (h : ¬ n < f.size) : (ap f a).occAt (n + 1) = a.occAt (n - f.size) := by
  unfold occAt
  rw [parts_ap, if_neg h]
theorem closed_step {t : Tm} {n : Nat} (h : t.closedN 0 = true) (hs : ∀ i, (t.step n).stands i ≤ t.stands i) : (t.step n).closedN 0 = true := by
  refine closed_of_stands _ 0 fun i _ => ?_
  have := hs i
  have := closed_stands t 0 i h (Nat.zero_le _)
  omega
theorem Om.step : ∀ {t : Tm} {k w n : Nat}, Om k w t → t.redAt n = true → (∀ i, (t.step n).stands i ≤ t.stands i) ∧ ((t.parts[n]? = some tOmega ∧ t.step n = t) ∨ StepOk k w t n)
  | _, _, _, 0, .nm, h => by cases h
  | _, _, _, n + 1, .nm, h => by cases h
  | _, _, _, 0, .lt, h => by cases h
  | _, _, _, n + 1, .lt, h => by cases h
  | _, k, w, n, .om hw, h => by
    cases omega_red h
    exact ⟨fun i => Nat.le_refl _, .inl ⟨rfl, rfl⟩⟩
  | _, _, _, 0, .fn _ _ _, h => by cases h
  | _, k, w, n + 1, .fn (b := b) h1 h2 h3, h => by
    obtain ⟨g1, g2⟩ := Om.step (n := n) h1 h
    refine ⟨fun i => g1 (i + 1), ?_⟩
    rcases g2 with ⟨e1, e2⟩ | ⟨k', w', l, o, hk⟩
    · exact .inl ⟨e1, by show Tm.fn (b.step n) = _; rw [e2]⟩
    · exact .inr ⟨k', w' + 1, by omega, .fn o (Nat.le_trans (g1 0) h2) (Nat.le_refl _), hk⟩
  | _, k, w, 0, .ap (k1 := k1) (k2 := k2) (w1 := w1) (w2 := w2) (f := f) (a := a) h1 h2 h3 h4, h => by
    cases h1 with
    | nm => cases h
    | lt => cases h
    | om _ => cases h
    | ap _ _ _ _ => cases h
    | dup _ _ _ _ => cases h
    | fn j1 j2 j3 =>
      rename_i w0 b
      have e : (Tm.ap (Tm.fn b) a).step 0 = b.put a 0 := rfl
      have ho : (Tm.ap (Tm.fn b) a).occAt 0 = b.stands 0 := rfl
      have hm : ∀ x, b.stands 0 * x ≤ x := fun x => by
        have := Nat.mul_le_mul_right x j2
        omega
      rw [e]
      refine ⟨fun i => ?_, .inr ⟨k1 + k2, w0 + w2, by omega, ?_, .inl ⟨by rw [ho]; exact j2, h3⟩⟩⟩
      · rw [stands_contract]
        have := hm (a.stands i)
        show _ ≤ b.stands (i + 1) + a.stands i
        omega
      · rw [e]
        exact (Om.put h2 (d := 0) j1).sub (by have := hm k2; omega) (by have := hm w2; omega)
  | _, k, w, n + 1, .ap (k1 := k1) (k2 := k2) (w1 := w1) (w2 := w2) (f := f) (a := a) h1 h2 h3 h4, h => by
    rw [ap_red] at h
    unfold StepOk
    rw [ap_step, parts_ap]
    by_cases c : n < f.size
    · rw [if_pos c] at h
      rw [if_pos c, if_pos c, occAt_apL c]
      obtain ⟨g1, g2⟩ := Om.step h1 h
      refine ⟨fun i => Nat.add_le_add_right (g1 i) _, ?_⟩
      rcases g2 with ⟨e1, e2⟩ | ⟨k', w', l, o, hk⟩
      · exact .inl ⟨e1, by rw [e2]⟩
      · refine .inr ⟨k' + k2, w' + 1 + w2, by omega, .ap o h2 (Nat.le_refl _) (Nat.le_refl _), ?_⟩
        omega
    · rw [if_neg c] at h
      rw [if_neg c, if_neg c, occAt_apR c]
      obtain ⟨g1, g2⟩ := Om.step h2 h
      refine ⟨fun i => Nat.add_le_add_left (g1 i) _, ?_⟩
      rcases g2 with ⟨e1, e2⟩ | ⟨k', w', l, o, hk⟩
      · exact .inl ⟨e1, by rw [e2]⟩
      · refine .inr ⟨k1 + k', w1 + 1 + w', by omega, .ap h1 o (Nat.le_refl _) (Nat.le_refl _), ?_⟩
        omega
  | _, k, w, 0, .dup (w := w0) (a := a) h1 h2 h3 h4, h => by
    have e0 : a.lift 0 0 = a := closed_lift0 h2 0 0
    have e : (Tm.ap tPair a).step 0 = Tm.ap a a := by
      show Tm.ap (a.lift 0 0) (a.lift 0 0) = _
      rw [e0]
    rw [e]
    refine ⟨fun i => ?_, .inr ⟨0, w0 + 1 + w0, by omega, ?_, .inr ⟨Nat.le_refl 2, by omega⟩⟩⟩
    · show a.stands i + a.stands i ≤ _
      rw [closed_stands a 0 i h2 (Nat.zero_le _)]
      exact Nat.zero_le _
    · rw [e]
      exact .ap h1 h1 (Nat.le_refl _) (Nat.le_refl _)
  | _, k, w, n + 1, .dup (w := w0) (a := a) h1 h2 h3 h4, h => by
    rw [ap_red] at h
    have c : ¬ n < tPair.size := fun c => by
      rw [if_pos c, pair_red] at h
      cases h
    rw [if_neg c] at h
    unfold StepOk
    rw [ap_step, parts_ap, if_neg c, if_neg c, occAt_apR c]
    obtain ⟨g1, g2⟩ := Om.step h1 h
    refine ⟨fun i => Nat.add_le_add_left (g1 i) _, ?_⟩
    rcases g2 with ⟨e1, e2⟩ | ⟨k', w', l, o, hk⟩
    · exact .inl ⟨e1, by rw [e2]⟩
    · refine .inr ⟨k, 3 + 2 * w', by omega, .dup (o.sub (by omega) (Nat.le_refl _)) (closed_step h2 g1) h3 (Nat.le_refl _), .inl ⟨by omega, Nat.le_refl _⟩⟩
end Tm
end Sf
/-! SfM10: ways of terms with the endless one are sorted. -/
namespace Sf
namespace Tm
theorem parts_putAt : ∀ (t : Tm) (r : Nat) (p q : Tm), t.parts[r]? = some p → (t.putAt r q).parts[r]? = some q
  | t, 0, p, q, h => by
    have e : t.putAt 0 q = q := by cases t <;> rfl
    rw [e, parts_zero]
  | nm j, r + 1, p, q, h => by cases h
  | lt j, r + 1, p, q, h => by cases h
  | fn b, r + 1, p, q, h => parts_putAt b r p q h
  | ap f a, r + 1, p, q, h => by
    rw [parts_ap] at h
    show (if r < f.size then ap (f.putAt r q) a else ap f (a.putAt (r - f.size) q)).parts[r + 1]? = _
    by_cases c : r < f.size
    · rw [if_pos c] at h ⊢
      have hs := size_putAt f r p q h
      have he := part_end f r p h
      have := size_pos q
      rw [parts_ap, if_pos (by omega)]
      exact parts_putAt f r p q h
    · rw [if_neg c] at h ⊢
      rw [parts_ap, if_neg c]
      exact parts_putAt a _ p q h
theorem occs_length : ∀ (b : Tm) (d s m : Nat), (occs b d s m).length = b.stands d
  | nm k, d, s, m => by
    simp only [occs, stands]
    split <;> rfl
  | lt _, _, _, _ => rfl
  | fn b, d, s, m => by
    simp only [occs, List.length_map]
    exact occs_length b (d + 1) s m
  | ap f a, d, s, m => by
    simp only [occs, List.length_append, List.length_map, stands]
    rw [occs_length f, occs_length a]
theorem part_step {t : Tm} {r n : Nat} {b a : Tm} (hp : t.parts[r]? = some (ap (fn b) a)) (hn : t.redAt n = true) (h : r < n) :
    (t.leftIn r [n]).length ≤ max 1 (b.stands 0) ∧ ∃ b' a', (t.step n).parts[r]? = some (ap (fn b') a') ∧ (b' = b ∨ ∃ m, b.redAt m = true ∧ b' = b.step m) ∧ (a' = a ∨ ∃ m, a.redAt m = true ∧ a' = a.step m) := by
  have hsz := size_pos a
  have hend := part_end t r _ hp
  have eP : (ap (fn b) a).size = 2 + b.size + a.size := by simp only [size]; omega
  have self := putAt_self t r _ hp
  have hin := fun i hi => putAt_in t r _ (ap (fn b) a) i hp hi
  rw [self] at hin
  have eL : t.leftIn r [n] = idxFrom (one n) 0 (List.range r ++ b.bo 0 (r + 2) (List.range' (r + 2 + b.size) a.size) ++ List.range' (r + 2 + b.size + a.size) (t.size - (r + 2 + b.size + a.size))) := by
    rw [leftIn_one (by omega)]
    unfold origins
    rw [hp]
  have hla : 1 ≤ (List.range' (r + 2 + b.size) a.size).length := by rw [List.length_range']; exact hsz
  have e0 : idxFrom (one n) 0 (List.range r) = [] := idx_none (fun x hx => by have := List.mem_range.mp hx; omega) 0
  rw [List.append_assoc, idxFrom_append, e0, List.nil_append, List.length_range, Nat.zero_add, idxFrom_append, bo_len _ _ _ _ hla, List.length_range'] at eL
  rw [eL]
  rcases Nat.lt_or_ge n (r + 2 + b.size) with c1 | c1
  · obtain ⟨m, rfl⟩ : ∃ m, n = r + (m + 2) := by
      refine ⟨n - r - 2, ?_⟩
      have hne : n ≠ r + 1 := fun e => by
        have e1 : (ap (fn b) a).redAt 1 = false := by
          show (if 0 < (fn b).size then (fn b).redAt 0 else _) = false
          rw [if_pos (size_pos _)]
          rfl
        rw [e, (hin 1 (by omega)).1, e1] at hn
        cases hn
      omega
    obtain ⟨g1, g2⟩ := hin (m + 2) (by omega)
    have hm1 : m + 1 < (fn b).size := by simp only [size]; omega
    rw [g1] at hn
    have hn : (if m + 1 < (fn b).size then (fn b).redAt (m + 1) else _) = true := hn
    rw [if_pos hm1] at hn
    have hn : b.redAt m = true := hn
    have eS : (ap (fn b) a).step (m + 2) = ap (fn (b.step m)) a := if_pos hm1
    rw [g2, eS]
    rw [idxFrom_shift, show r + (m + 2) = r + 2 + m by omega, bo_body b 0 (r + 2) _ m hla hn (fun x hx => (List.mem_range'_1.mp hx).1), idx_none (l := List.range' _ _) (fun x hx => by have := (List.mem_range'_1.mp hx).1; omega), List.append_nil, List.length_range']
    exact ⟨Nat.le_max_left _ _, _, _, parts_putAt t r _ _ hp, .inr ⟨m, hn, rfl⟩, .inl rfl⟩
  rcases Nat.lt_or_ge n (r + 2 + b.size + a.size) with c2 | c2
  · obtain ⟨m, rfl⟩ : ∃ m, n = r + (b.size + 1 + m + 1) := ⟨n - (r + 2 + b.size), by omega⟩
    obtain ⟨g1, g2⟩ := hin (b.size + 1 + m + 1) (by omega)
    have hm : m < a.size := by omega
    have hm1 : ¬ b.size + 1 + m < (fn b).size := by simp only [size]; omega
    have hm2 : b.size + 1 + m - (fn b).size = m := by simp only [size]; omega
    rw [g1] at hn
    have hn : (if b.size + 1 + m < (fn b).size then _ else a.redAt (b.size + 1 + m - (fn b).size)) = true := hn
    rw [if_neg hm1, hm2] at hn
    have eS : (ap (fn b) a).step (b.size + 1 + m + 1) = ap (fn b) (a.step (b.size + 1 + m - (fn b).size)) := if_neg hm1
    rw [hm2] at eS
    rw [g2, eS]
    rw [idxFrom_shift, show r + (b.size + 1 + m + 1) = r + 2 + b.size + m by omega, bo_arg b 0 (r + 2) (r + 2 + b.size) a.size m hm (Nat.le_refl _), idx_none (l := List.range' _ _) (fun x hx => by have := (List.mem_range'_1.mp hx).1; omega), List.append_nil, List.length_map, occs_length]
    exact ⟨Nat.le_max_right _ _, _, _, parts_putAt t r _ _ hp, .inl rfl, .inr ⟨m, hn, rfl⟩⟩
  · obtain ⟨k, rfl⟩ : ∃ k, n = r + (ap (fn b) a).size + k := ⟨n - (r + 2 + b.size + a.size), by omega⟩
    have hl := redAt_lt hn
    obtain ⟨g1, g2, g3⟩ := putAt_behind t r _ (b.put a 0) k hp hn
    rw [idx_none (l := bo _ _ _ _) (fun x hx => by
      rcases bo_lt _ _ _ _ _ hx with q | q
      · omega
      · have := (List.mem_range'_1.mp q).2; omega), List.nil_append, idxFrom_shift, show r + (ap (fn b) a).size + k = r + 2 + b.size + a.size + k by omega, idx_range' _ _ k (by omega)]
    rw [show r + 2 + b.size + a.size + k = r + (ap (fn b) a).size + k by omega]
    exact ⟨Nat.le_max_left _ _, _, _, g3, .inl rfl, .inl rfl⟩
/-- the body of a redex of the class -/
theorem Om.body : ∀ {t : Tm} {k w r : Nat} {b a : Tm}, Om k w t → t.parts[r]? = some (Tm.ap (Tm.fn b) a) → (∃ k w, Om k w b) ∨ b = Tm.ap (Tm.nm 0) (Tm.nm 0)
  | _, _, _, 0, _, _, .nm, h => by cases h
  | _, _, _, r + 1, _, _, .nm, h => by cases h
  | _, _, _, 0, _, _, .lt, h => by cases h
  | _, _, _, r + 1, _, _, .lt, h => by cases h
  | _, _, _, 0, _, _, .om _, h => by cases h; exact .inr rfl
  | _, _, _, r + 1, _, _, .om _, h => by
    have g : tOmega.redAt (r + 1) = true := by rw [parts_redAt, h]; rfl
    have := omega_red g
    omega
  | _, _, _, 0, _, _, .fn _ _ _, h => by cases h
  | _, _, _, r + 1, _, _, .fn h1 _ _, h => Om.body h1 h
  | _, _, _, 0, _, _, .ap h1 h2 _ _, h => by
    cases h
    cases h1 with
    | fn j1 _ _ => exact .inl ⟨_, _, j1⟩
  | _, _, _, r + 1, _, _, .ap (f := f) h1 h2 _ _, h => by
    rw [parts_ap] at h
    by_cases c : r < f.size
    · rw [if_pos c] at h
      exact Om.body h1 h
    · rw [if_neg c] at h
      exact Om.body h2 h
  | _, _, _, 0, _, _, .dup _ _ _ _, h => by cases h; exact .inr rfl
  | _, _, _, r + 1, b, a, .dup h1 _ _ _, h => by
    rw [parts_ap] at h
    by_cases c : r < tPair.size
    · rw [if_pos c] at h
      have g : tPair.redAt r = true := by rw [parts_redAt, h]; rfl
      rw [pair_red] at g
      cases g
    · rw [if_neg c] at h
      exact Om.body h1 h
theorem zz_red (n : Nat) : (ap (nm 0) (nm 0)).redAt n = false := pair_red (n + 1)
theorem Om.occ_step {t : Tm} {k w r n : Nat} (h : Om k w t) (hr : t.redAt r = true) (hn : t.redAt n = true) (hl : r < n) : (t.step n).occAt r ≤ t.occAt r := by
  obtain ⟨b, a, hp⟩ := redAt_part hr
  obtain ⟨_, b', a', hp', hb, _⟩ := part_step hp hn hl
  rw [occAt_of hp, occAt_of hp']
  rcases hb with rfl | ⟨m, hm, rfl⟩
  · exact Nat.le_refl _
  · rcases h.body hp with ⟨k', w', ob⟩ | rfl
    · exact (ob.step hm).1 0
    · rw [zz_red] at hm
      cases hm
/-- all the terms of a way of the class -/
theorem Om.way : ∀ {ws : List Nat} {t : Tm} {k w : Nat}, Om k w t → t.Way ws → ∃ k' w', w' ≤ w ∧ Om k' w' (t.steps ws)
  | [], t, k, w, h, _ => ⟨k, w, Nat.le_refl _, h⟩
  | n :: ws, t, k, w, h, ⟨h1, h2⟩ => by
    rcases (h.step h1).2 with ⟨_, e⟩ | ⟨k', w', l, o, _⟩
    · have h2' := h2
      rw [e] at h2'
      obtain ⟨k', w', l, o⟩ := Om.way h h2'
      refine ⟨k', w', l, ?_⟩
      show Om k' w' ((t.step n).steps ws)
      rw [e]
      exact o
    · obtain ⟨k2, w2, l2, o2⟩ := Om.way o h2
      exact ⟨k2, w2, by omega, o2⟩
theorem Om.allSm {t : Tm} {k w : Nat} (h : Om k w t) (hw : w ≤ 59) : AllSm t := fun ws g => by
  obtain ⟨k', w', l, o⟩ := h.way g
  have := o.size
  exact ⟨by omega, by omega⟩
theorem Om.next {t : Tm} {k w n : Nat} (h : Om k w t) (hn : t.redAt n = true) : ∃ k' w', Om k' w' (t.step n) := by
  rcases (h.step hn).2 with ⟨_, e⟩ | ⟨k', w', l, o, _⟩
  · exact ⟨k, w, by rw [e]; exact h⟩
  · exact ⟨k', w', o⟩
/-- the tail is at most so long -/
theorem Om.tail {r M : Nat} : ∀ {ws : List Nat} {t : Tm} {k w : Nat}, Om k w t → Least t r → t.Way ws → t.occAt r ≤ M → 1 ≤ M → (t.tailOf ws r).length ≤ M * ws.length
  | [], t, k, w, _, _, _, _, _ => Nat.zero_le _
  | n :: ws, t, k, w, h, hl, ⟨h1, h2⟩, ho, hM => by
    have hle := hl.le h1
    rw [List.length_cons, Nat.mul_add, Nat.mul_one]
    rcases Nat.eq_or_lt_of_le hle with e | hlt
    · subst e
      have eB : t.rowBehind (rowOf (r :: ws)) [r] = ([] :: rowOf ws, []) := by
        show (t.leftIn r [r] :: ((t.step r).rowBehind (rowOf ws) (t.leftIn r [r])).1, ((t.step r).rowBehind (rowOf ws) (t.leftIn r [r])).2) = _
        rw [leftIn_self, rowBehind_nil]
      have eT : t.tailOf (r :: ws) r = ws := by
        unfold tailOf
        rw [eB]
        show [] ++ (t.step r).wayOf (rowOf ws) = ws
        rw [wayOf_rowOf]
        rfl
      rw [eT]
      have := mul_pos_le (b := ws.length) hM
      omega
    · obtain ⟨k', w', h'⟩ := h.next h1
      have ih := Om.tail (ws := ws) h' (hl.step h1 hlt) h2 (Nat.le_trans (h.occ_step hl.1 h1 hlt) ho) hM
      obtain ⟨d1, d2, d3⟩ := diamond hl.1 h1 hlt
      have hL := leftIn_less h1 hlt
      have eB : t.rowBehind (rowOf (n :: ws)) [r] = (t.leftIn r [n] :: ((t.step n).rowBehind (rowOf ws) [r]).1, ((t.step n).rowBehind (rowOf ws) [r]).2) := by
        show (t.leftIn r [n] :: ((t.step n).rowBehind (rowOf ws) (t.leftIn n [r])).1, ((t.step n).rowBehind (rowOf ws) (t.leftIn n [r])).2) = _
        rw [hL]
      have eT : t.tailOf (n :: ws) r = (t.leftIn r [n]).reverse ++ (t.step n).tailOf ws r := by
        unfold tailOf
        rw [eB]
        show (t.leftIn r [n]).reverse ++ ((t.step r).steps (t.leftIn r [n]).reverse).wayOf _ = _
        rw [d2]
      obtain ⟨b, a, hp⟩ := redAt_part hl.1
      have g := (part_step hp h1 hlt).1
      rw [occAt_of hp] at ho
      rw [eT, List.length_append, List.length_reverse]
      omega
/-- no way out of the endless one when it stands first -/
theorem omega_first {r : Nat} : ∀ {ws : List Nat} {t : Tm}, Least t r → t.parts[r]? = some tOmega → t.Way ws → (t.steps ws).redNodes ≠ []
  | [], t, hl, _, _ => fun e => by
    have := mem_redNodes.mpr hl.1
    have e : t.redNodes = [] := e
    rw [e] at this
    cases this
  | n :: ws, t, hl, hp, ⟨h1, h2⟩ => by
    have hle := hl.le h1
    rcases Nat.eq_or_lt_of_le hle with e | hlt
    · subst e
      have es : t.step r = t := by
        rw [step_putAt t r _ hp]
        exact putAt_self t r _ hp
      show ((t.step r).steps ws).redNodes ≠ []
      rw [es] at h2 ⊢
      exact omega_first hl hp h2
    · obtain ⟨_, b', a', hp', hb, ha⟩ := part_step hp h1 hlt
      have eb : b' = ap (nm 0) (nm 0) := by
        rcases hb with e | ⟨m, hm, _⟩
        · exact e
        · rw [zz_red] at hm; cases hm
      have ea : a' = tPair := by
        rcases ha with e | ⟨m, hm, _⟩
        · exact e
        · rw [pair_red] at hm; cases hm
      rw [eb, ea] at hp'
      exact omega_first (ws := ws) (hl.step h1 hlt) hp' h2
theorem Om.good {t : Tm} {k w : Nat} {ws : List Nat} (h : Om k w t) (hw : w ≤ 59) (hk : 2 ^ k * ws.length ≤ 200) (h1 : t.Way ws) (h2 : (t.steps ws).redNodes = []) : Good t ws := by
  refine ⟨h.allSm hw, ?_⟩
  refine sort_all (G := fun m t ws => ∃ k w, Om k w t ∧ w ≤ 59 ∧ w ≤ 2 * m + 1 ∧ 2 ^ k * ws.length ≤ 200 ∧ t.Way ws ∧ (t.steps ws).redNodes = []) (fun {m t ws} g => ?_) (fun {m t ws r} g hL g1 g2 => ?_) 60 t ws ⟨k, w, h, hw, by omega, hk, h1, h2⟩
  · obtain ⟨k, w, c, l1, l2, l3, g1, g2⟩ := g
    have := mul_pos_le (a := 2 ^ k) (b := ws.length) (Nat.one_le_two_pow)
    exact ⟨c.allSm l1, by omega, g1, g2⟩
  · obtain ⟨k, w, c, l1, l2, l3, g3, g4⟩ := g
    rcases (c.step hL.1).2 with ⟨hp, _⟩ | ⟨k', w', l, o, ho⟩
    · exact absurd g4 (omega_first hL hp g3)
    · refine ⟨m - 1, by omega, k', w', o, by omega, by omega, ?_, g1, g2⟩
      rcases ho with ⟨ho, hk⟩ | ⟨ho, hk⟩
      · have q := c.tail hL g3 ho (Nat.le_refl _)
        rw [Nat.one_mul] at q
        have e1 := Nat.mul_le_mul (Nat.pow_le_pow_right (show 0 < 2 by decide) hk) q
        omega
      · have q := c.tail hL g3 ho (by decide)
        have e2 : 2 ^ k' * (2 * ws.length) = 2 ^ (k' + 1) * ws.length := by rw [Nat.pow_succ, Nat.mul_assoc]
        have e1 := Nat.mul_le_mul_left (2 ^ k') q
        have e3 := Nat.mul_le_mul_right ws.length (Nat.pow_le_pow_right (show 0 < 2 by decide) hk)
        omega
theorem affine_om : ∀ (t : Tm), t.affine = true → Om 0 t.inn t
  | nm n, h => .nm
  | lt _, h => .lt
  | fn b, h => by
    have h : (decide (b.stands 0 ≤ 1) && b.affine) = true := h
    simp only [Bool.and_eq_true, decide_eq_true_eq] at h
    exact .fn (affine_om b h.2) h.1 (Nat.le_refl _)
  | ap f a, h => by
    have h : (f.affine && a.affine) = true := h
    simp only [Bool.and_eq_true] at h
    exact .ap (affine_om f h.1) (affine_om a h.2) (Nat.le_refl _) (by simp only [inn]; omega)
end Tm
end Sf
/-! SfM11: terms that have no normal form. -/
namespace Sf
namespace Tm
abbrev tD : Tm := fn (ap tPair (ap tOne (nm 0)))
def fam : List Tm := [tD, fn (ap (ap tOne (nm 0)) (ap tOne (nm 0))), fn (ap tPair (nm 0)), fn (ap (nm 0) (ap tOne (nm 0))), fn (ap (ap tOne (nm 0)) (nm 0)), tPair]
theorem fam_step0 : ∀ t ∈ fam, ∀ n < t.size, t.redAt n = true → t.step n ∈ fam := by decide
theorem fam_closed : ∀ t ∈ fam, t.closedN 0 = true ∧ t.isFn = true := by decide
theorem fam_step {t : Tm} {n : Nat} (h : t ∈ fam) (hn : t.redAt n = true) : t.step n ∈ fam := fam_step0 t h n (redAt_lt hn) hn
inductive EE : Tm → Prop
  | d {t : Tm} : t ∈ fam → EE t
  | i {t : Tm} : EE t → EE (ap tOne t)
theorem EE.closed : ∀ {t : Tm}, EE t → t.closedN 0 = true
  | _, .d h => (fam_closed _ h).1
  | _, .i (t := t) h => by
    show (tOne.closedN 0 && t.closedN 0) = true
    rw [EE.closed h]
    rfl
theorem one_red (n : Nat) : tOne.redAt n = false := by
  match n with
  | 0 => rfl
  | 1 => rfl
  | n + 2 =>
    cases q : tOne.redAt (n + 2) with
    | false => rfl
    | true =>
      have := redAt_lt q
      simp only [size] at this
      omega
theorem EE.step : ∀ {t : Tm} {n : Nat}, EE t → t.redAt n = true → EE (t.step n)
  | _, n, .d h, hn => .d (fam_step h hn)
  | _, 0, .i (t := t) h, hn => by
    have e : (ap tOne t).step 0 = t.lift 0 0 := rfl
    rw [e, closed_lift0 h.closed]
    exact h
  | _, n + 1, .i (t := t) h, hn => by
    rw [ap_red] at hn
    have c : ¬ n < tOne.size := fun c => by
      rw [if_pos c, one_red] at hn
      cases hn
    rw [if_neg c] at hn
    rw [ap_step, if_neg c]
    exact .i (EE.step h hn)
def ZZ (t : Tm) : Prop := ∃ e e', EE e ∧ EE e' ∧ t = ap e e'
theorem fam_put {b e : Tm} (h : fn b ∈ fam) (he : EE e) : ZZ (b.put e 0) := by
  have e0 : e.lift 0 0 = e := closed_lift0 he.closed 0 0
  have hp : EE tPair := .d (by decide)
  have h' : fn b = tD ∨ fn b = fn (ap (ap tOne (nm 0)) (ap tOne (nm 0))) ∨ fn b = fn (ap tPair (nm 0)) ∨ fn b = fn (ap (nm 0) (ap tOne (nm 0))) ∨ fn b = fn (ap (ap tOne (nm 0)) (nm 0)) ∨ fn b = tPair := by
    simpa [fam] using h
  rcases h' with q | q | q | q | q | q <;> cases q
  · exact ⟨tPair, ap tOne (e.lift 0 0), hp, by rw [e0]; exact .i he, rfl⟩
  · exact ⟨ap tOne (e.lift 0 0), ap tOne (e.lift 0 0), by rw [e0]; exact .i he, by rw [e0]; exact .i he, rfl⟩
  · exact ⟨tPair, e.lift 0 0, hp, by rw [e0]; exact he, rfl⟩
  · exact ⟨e.lift 0 0, ap tOne (e.lift 0 0), by rw [e0]; exact he, by rw [e0]; exact .i he, rfl⟩
  · exact ⟨ap tOne (e.lift 0 0), e.lift 0 0, by rw [e0]; exact .i he, by rw [e0]; exact he, rfl⟩
  · exact ⟨e.lift 0 0, e.lift 0 0, by rw [e0]; exact he, by rw [e0]; exact he, rfl⟩
theorem ZZ.step {t : Tm} {n : Nat} (h : ZZ t) (hn : t.redAt n = true) : ZZ (t.step n) := by
  obtain ⟨e, e', he, he', rfl⟩ := h
  cases n with
  | zero =>
    cases he with
    | i _ => cases hn
    | d hf =>
      obtain ⟨b, a, q⟩ := red_zero hn
      cases q
      exact fam_put hf he'
  | succ n =>
    rw [ap_red] at hn
    rw [ap_step]
    by_cases c : n < e.size
    · rw [if_pos c] at hn ⊢
      exact ⟨_, _, he.step hn, he', rfl⟩
    · rw [if_neg c] at hn ⊢
      exact ⟨_, _, he, he'.step hn, rfl⟩
theorem ZZ.red {t : Tm} (h : ZZ t) : ∃ n, t.redAt n = true := by
  obtain ⟨e, e', he, he', rfl⟩ := h
  cases he with
  | d hf => exact ⟨0, (fam_closed _ hf).2⟩
  | i _ => exact ⟨1, by rw [ap_red, if_pos (size_pos _)]; rfl⟩
theorem ZZ.way : ∀ {ws : List Nat} {t : Tm}, ZZ t → t.Way ws → ZZ (t.steps ws)
  | [], _, h, _ => h
  | n :: ws, t, h, ⟨h1, h2⟩ => ZZ.way (ws := ws) (h.step h1) h2
theorem ZZ.never {t : Tm} {ws : List Nat} (h : ZZ t) (hw : t.Way ws) : (t.steps ws).redNodes ≠ [] := fun e => by
  obtain ⟨n, hn⟩ := (h.way hw).red
  have := mem_redNodes.mpr hn
  rw [e] at this
  cases this
theorem fn_way : ∀ {ws : List Nat} {t : Tm}, (fn t).Way ws → ∃ vs, t.Way vs ∧ (fn t).steps ws = fn (t.steps vs)
  | [], t, _ => ⟨[], trivial, rfl⟩
  | 0 :: ws, t, ⟨h1, _⟩ => by cases h1
  | (n + 1) :: ws, t, ⟨h1, h2⟩ => by
    obtain ⟨vs, g1, g2⟩ := fn_way (ws := ws) (t := t.step n) h2
    exact ⟨n :: vs, ⟨h1, g1⟩, g2⟩
theorem ZZ.never_fn {t : Tm} {ws : List Nat} (h : ZZ t) (hw : (fn t).Way ws) : ((fn t).steps ws).redNodes ≠ [] := fun e => by
  obtain ⟨vs, g1, g2⟩ := fn_way hw
  obtain ⟨n, hn⟩ := (h.way g1).red
  have := mem_redNodes.mpr (show (fn (t.steps vs)).redAt (n + 1) = true from hn)
  rw [← g2, e] at this
  cases this
end Tm
end Sf
/-! SfX: all that comes of (3 2 A) B, a search tree; printed by gentree.py. -/
namespace Sf
namespace Tm
inductive NT where
  | e
  | d (l : NT) (k : Nat) (t : Tm) (r : NT)
namespace NT
abbrev n0 : Tm := Tm.nm 0
abbrev n1 : Tm := Tm.nm 1
abbrev n2 : Tm := Tm.nm 2
abbrev n3 : Tm := Tm.nm 3
abbrev a : Tm := Tm.lt false
abbrev b : Tm := Tm.lt true
abbrev f (t : Tm) : Tm := Tm.fn t
abbrev p (t u : Tm) : Tm := Tm.ap t u
noncomputable def q0 : NT := (d (d (d (d (d (d e 4396371064814053 (p a (p a (p a (p a (p a (p a (p a (p a b)))))))) e) 2250941985185320709 (p a (p a (p a (p a (p a (p a (p (f (p a (p a n0))) b))))))) e) 2250941987332061669 (p a (p a (p a (p a (p (f (p a (p a n0))) (p a (p a b))))))) (d e 2250941987332280069 (p a (p a (p a (p a (p (f (p a (p a (p a (p a n0))))) b))))) e)) 2250950780383033829 (p a (p a (p (f (p a (p a n0))) (p a (p a (p a (p a b))))))) (d (d (d e 2286967117165001189 (p (f (p a (p a n0))) (p a (p a (p a (p a (p a (p a b))))))) e) 2286970781308975589 (p (f (p a (p a (p a (p a n0))))) (p a (p a (p a (p a b))))) e) 2286970782203760389 (p (f (p a (p a (p a (p a (p a (p a (p a (p a n0))))))))) b) (d e 2303282872572956421 (p (p (f (f (p n1 (p n1 n0)))) (f (p a (p a (p a (p a n0)))))) b) e))) 18444183990922179109 (p (p (p (f (f (p n1 (p n1 (p n1 n0))))) (f (f (p n1 (p n1 n0))))) a) b) (d (d (d (d e 1152482296415005766181 (p a (p a (p a (p a (p a (p a (p (p (f (f (p n1 (p n1 n0)))) a) b))))))) e) 1152482297514016100101 (p a (p a (p a (p a (p (f (p a (p a n0))) (p (f (p a (p a n0))) b)))))) e) 1152482297514131617797 (p a (p a (p a (p a (p (f (p a (p a (p (f (p a (p a n0))) n0)))) b))))) (d e 1152482297531305545477 (p a (p a (p a (p a (p (f (p (f (p a (p a n0))) (p a (p a n0)))) b))))) e)) 1152482298011932850661 (p a (p a (p a (p a (p (p (f (f (p n1 (p n1 n0)))) a) (p a (p a b))))))) (d (d (d e 1152486799556113846021 (p a (p a (p (f (p a (p a n0))) (p a (p a (p (f (p a (p a n0))) b)))))) e) 1152486799558260586981 (p a (p a (p (f (p a (p a n0))) (p (f (p a (p a n0))) (p a (p a b)))))) e) 1152486799558260805381 (p a (p a (p (f (p a (p a n0))) (p (f (p a (p a (p a (p a n0))))) b)))) (d e 1152488839025270880741 (p a (p a (p (p (f (f (p n1 (p n1 n0)))) a) (p a (p a (p a (p a b))))))) e)))) 1170927163988481134341 (p (f (p a (p a n0))) (p a (p a (p a (p a (p (f (p a (p a n0))) b)))))) (d (d (d (d (d e 1170927163990627875301 (p (f (p a (p a n0))) (p a (p a (p (f (p a (p a n0))) (p a (p a b)))))) e) 1170927163990628093701 (p (f (p a (p a n0))) (p a (p a (p (f (p a (p a (p a (p a n0))))) b)))) e) 1170927172783678847461 (p (f (p a (p a n0))) (p (f (p a (p a n0))) (p a (p a (p a (p a b)))))) (d e 1170929040030196027141 (p (f (p a (p a (p a (p a n0))))) (p a (p a (p (f (p a (p a n0))) b)))) e)) 1170929040032342768101 (p (f (p a (p a (p a (p a n0))))) (p (f (p a (p a n0))) (p a (p a b)))) (d (d (d e 1170929040032342986501 (p (f (p a (p a (p a (p a n0))))) (p (f (p a (p a (p a (p a n0))))) b)) e) 1170929040488329541637 (p (f (p a (p a (p a (p a (p a (p a (p (f (p a (p a n0))) n0)))))))) b) e) 1170929040505503469317 (p (f (p a (p a (p a (p a (p (f (p a (p a n0))) (p a (p a n0)))))))) b) (d e 1170929040505505216517 (p (f (p a (p a (p a (p a (p (f (p a (p a (p a (p a n0))))) n0)))))) b) e))) 1170929110849016461797 (p (f (p a (p a (p (f (p a (p a n0))) n0)))) (p a (p a (p a (p a b))))) (d (d (d (d e 1170929110849911246597 (p (f (p a (p a (p (f (p a (p a n0))) (p a (p a (p a (p a n0)))))))) b) e) 1171217241543272200677 (p (f (p (f (p a (p a n0))) (p a (p a n0)))) (p a (p a (p a (p a b))))) e) 1171217241544166985477 (p (f (p (f (p a (p a n0))) (p a (p a (p a (p a (p a (p a n0)))))))) b) (d e 1171217270857318780677 (p (f (p (f (p a (p a (p a (p a n0))))) (p a (p a (p a (p a n0)))))) b) e)) 1179280829657842088421 (p (p (f (f (p n1 (p n1 n0)))) a) (p a (p a (p a (p a (p a (p a b))))))) (d (d e 1179280830757357910021 (p (p (f (f (p n1 (p n1 n0)))) (f (p a (p a (p (f (p a (p a n0))) n0))))) b) e) 1179280830774531837701 (p (p (f (f (p n1 (p n1 n0)))) (f (p (f (p a (p a n0))) (p a (p a n0))))) b) (d e 1179280858768721375781 (p (p (f (f (p n1 (p n1 (p n1 (p n1 (p n1 (p n1 (p n1 (p n1 n0)))))))))) a) b) e)))))
noncomputable def q1 : NT := (d (d (d (d (d (d e 9219858384095463329541 (p a (p a (p a (p a (p (p (f (f (p n1 (p n1 n0)))) (f (p a (p a n0)))) b))))) e) 9434246646057934944741 (p (p (f (f (p n1 (p n1 n0)))) (f (p a (p a n0)))) (p a (p a (p a (p a b))))) e) 9434246650041273667333 (p (p (f (f (p n1 (p n1 n0)))) (p (f (f (p n1 (p n1 n0)))) (f (p a (p a n0))))) b) (d e 590070936327176364814885 (p a (p a (p a (p a (p (f (p a (p a n0))) (p (p (f (f (p n1 (p n1 n0)))) a) b)))))) e)) 590070936327236360835333 (p a (p a (p a (p a (p (f (p a (p a (p (p (f (f (p n1 (p n1 n0)))) a) n0)))) b))))) (d (d (d e 590070936336028443506693 (p a (p a (p a (p a (p (f (p (f (p a (p a n0))) (p (f (p a (p a n0))) n0))) b))))) e) 590070936340011777511173 (p a (p a (p a (p a (p (f (p (p (f (f (p n1 (p n1 n0)))) a) (p a (p a n0)))) b))))) e) 590070936582109620064005 (p a (p a (p a (p a (p (p (f (f (p n1 (p n1 n0)))) a) (p (f (p a (p a n0))) b)))))) (d e 590073241372730410725925 (p a (p a (p (f (p a (p a n0))) (p a (p a (p (p (f (f (p n1 (p n1 n0)))) a) b)))))) e))) 590073241373829421059845 (p a (p a (p (f (p a (p a n0))) (p (f (p a (p a n0))) (p (f (p a (p a n0))) b))))) (d (d (d (d e 590073241373829536577541 (p a (p a (p (f (p a (p a n0))) (p (f (p a (p a (p (f (p a (p a n0))) n0)))) b)))) e) 590073241373846710505221 (p a (p a (p (f (p a (p a n0))) (p (f (p (f (p a (p a n0))) (p a (p a n0)))) b)))) e) 590073241374327337810405 (p a (p a (p (f (p a (p a n0))) (p (p (f (f (p n1 (p n1 n0)))) a) (p a (p a b)))))) (d e 590074285580938691464965 (p a (p a (p (p (f (f (p n1 (p n1 n0)))) a) (p a (p a (p (f (p a (p a n0))) b)))))) e)) 590074285580940838205925 (p a (p a (p (p (f (f (p n1 (p n1 n0)))) a) (p (f (p a (p a n0))) (p a (p a b)))))) (d (d e 590074285580940838424325 (p a (p a (p (p (f (f (p n1 (p n1 n0)))) a) (p (f (p a (p a (p a (p a n0))))) b)))) e) 599514707962102462345765 (p (f (p a (p a n0))) (p a (p a (p a (p a (p (p (f (f (p n1 (p n1 n0)))) a) b)))))) (d e 599514707963201472679685 (p (f (p a (p a n0))) (p a (p a (p (f (p a (p a n0))) (p (f (p a (p a n0))) b))))) e)))) 599514707963201588197381 (p (f (p a (p a n0))) (p a (p a (p (f (p a (p a (p (f (p a (p a n0))) n0)))) b)))) (d (d (d (d (d e 599514707963218762125061 (p (f (p a (p a n0))) (p a (p a (p (f (p (f (p a (p a n0))) (p a (p a n0)))) b)))) e) 599514707963699389430245 (p (f (p a (p a n0))) (p a (p a (p (p (f (f (p n1 (p n1 n0)))) a) (p a (p a b)))))) e) 599514712465243570425605 (p (f (p a (p a n0))) (p (f (p a (p a n0))) (p a (p a (p (f (p a (p a n0))) b))))) (d e 599514712465245717166565 (p (f (p a (p a n0))) (p (f (p a (p a n0))) (p (f (p a (p a n0))) (p a (p a b))))) e)) 599514712465245717384965 (p (f (p a (p a n0))) (p (f (p a (p a n0))) (p (f (p a (p a (p a (p a n0))))) b))) (d (d (d e 599514714504712727460325 (p (f (p a (p a n0))) (p (p (f (f (p n1 (p n1 n0)))) a) (p a (p a (p a (p a b)))))) e) 599515668495460487459365 (p (f (p a (p a (p a (p a n0))))) (p a (p a (p (p (f (f (p n1 (p n1 n0)))) a) b)))) e) 599515668496559497793285 (p (f (p a (p a (p a (p a n0))))) (p (f (p a (p a n0))) (p (f (p a (p a n0))) b))) (d e 599515668496559613310981 (p (f (p a (p a (p a (p a n0))))) (p (f (p a (p a (p (f (p a (p a n0))) n0)))) b)) e))) 599515668496576787238661 (p (f (p a (p a (p a (p a n0))))) (p (f (p (f (p a (p a n0))) (p a (p a n0)))) b)) (d (d (d (d e 599515668497057414543845 (p (f (p a (p a (p a (p a n0))))) (p (p (f (f (p n1 (p n1 n0)))) a) (p a (p a b)))) e) 599515668730025697841413 (p (f (p a (p a (p a (p a (p a (p a (p (p (f (f (p n1 (p n1 n0)))) a) n0)))))))) b) e) 599515668738817780512773 (p (f (p a (p a (p a (p a (p (f (p a (p a n0))) (p (f (p a (p a n0))) n0))))))) b) (d e 599515668738818704654341 (p (f (p a (p a (p a (p a (p (f (p a (p a (p (f (p a (p a n0))) n0)))) n0)))))) b) e)) 599515668738956096075781 (p (f (p a (p a (p a (p a (p (f (p (f (p a (p a n0))) (p a (p a n0)))) n0)))))) b) (d (d e 599515668742801114517253 (p (f (p a (p a (p a (p a (p (p (f (f (p n1 (p n1 n0)))) a) (p a (p a n0)))))))) b) e) 599515704754696428965637 (p (f (p a (p a (p (f (p a (p a n0))) n0)))) (p a (p a (p (f (p a (p a n0))) b)))) (d e 599515704754698575706597 (p (f (p a (p a (p (f (p a (p a n0))) n0)))) (p (f (p a (p a n0))) (p a (p a b)))) e)))))
noncomputable def q2 : NT := (d (d (d (d (d (d e 599515704755154562480133 (p (f (p a (p a (p (f (p a (p a n0))) (p a (p a (p (f (p a (p a n0))) n0))))))) b) e) 599515704755171736407813 (p (f (p a (p a (p (f (p a (p a n0))) (p (f (p a (p a n0))) (p a (p a n0))))))) b) e) 599515704755171738155013 (p (f (p a (p a (p (f (p a (p a n0))) (p (f (p a (p a (p a (p a n0))))) n0))))) b) (d e 599515721070906923973093 (p (f (p a (p a (p (p (f (f (p n1 (p n1 n0)))) a) n0)))) (p a (p a (p a (p a b))))) e)) 599515721070907818757893 (p (f (p a (p a (p (p (f (f (p n1 (p n1 n0)))) a) (p a (p a (p a (p a n0)))))))) b) (d (d (d e 599663227670155367272197 (p (f (p (f (p a (p a n0))) (p a (p a n0)))) (p a (p a (p (f (p a (p a n0))) b)))) e) 599663227670157514013157 (p (f (p (f (p a (p a n0))) (p a (p a n0)))) (p (f (p a (p a n0))) (p a (p a b)))) e) 599663227670157514231557 (p (f (p (f (p a (p a n0))) (p a (p a n0)))) (p (f (p a (p a (p a (p a n0))))) b)) (d e 599663227670613500786693 (p (f (p (f (p a (p a n0))) (p a (p a (p a (p a (p (f (p a (p a n0))) n0))))))) b) e))) 599663227670630674714373 (p (f (p (f (p a (p a n0))) (p a (p a (p (f (p a (p a n0))) (p a (p a n0))))))) b) (d (d (d (d e 599663227670630676461573 (p (f (p (f (p a (p a n0))) (p a (p a (p (f (p a (p a (p a (p a n0))))) n0))))) b) e) 599663227740974187706853 (p (f (p (f (p a (p a n0))) (p (f (p a (p a n0))) n0))) (p a (p a (p a (p a b))))) e) 599663227740975082491653 (p (f (p (f (p a (p a n0))) (p (f (p a (p a n0))) (p a (p a (p a (p a n0))))))) b) (d e 599663242678947219929093 (p (f (p (f (p a (p a (p a (p a n0))))) (p a (p a (p (f (p a (p a n0))) n0))))) b) e)) 599663242678964393856773 (p (f (p (f (p a (p a (p a (p a n0))))) (p (f (p a (p a n0))) (p a (p a n0))))) b) (d (d e 599663242678964395603973 (p (f (p (f (p a (p a (p a (p a n0))))) (p (f (p a (p a (p a (p a n0))))) n0))) b) e) 599663243245497783406341 (p (f (p (f (p a (p a (p (f (p a (p a n0))) n0)))) (p a (p a (p a (p a n0)))))) b) (d e 599665548291051829317381 (p (f (p (f (p (f (p a (p a n0))) (p a (p a n0)))) (p a (p a (p a (p a n0)))))) b) e)))) 599730056995967493634533 (p (f (p (p (f (f (p n1 (p n1 n0)))) a) (p a (p a n0)))) (p a (p a (p a (p a b))))) (d (d (d (d (d e 599730056995968388419333 (p (f (p (p (f (f (p n1 (p n1 n0)))) a) (p a (p a (p a (p a (p a (p a n0)))))))) b) e) 603791784784815149797125 (p (p (f (f (p n1 (p n1 n0)))) a) (p a (p a (p a (p a (p (f (p a (p a n0))) b)))))) e) 603791784784817296538085 (p (p (f (f (p n1 (p n1 n0)))) a) (p a (p a (p (f (p a (p a n0))) (p a (p a b)))))) (d e 603791784784817296756485 (p (p (f (f (p n1 (p n1 n0)))) a) (p a (p a (p (f (p a (p a (p a (p a n0))))) b)))) e)) 603791784793610347510245 (p (p (f (f (p n1 (p n1 n0)))) a) (p (f (p a (p a n0))) (p a (p a (p a (p a b)))))) (d (d (d e 603791785347768222454021 (p (p (f (f (p n1 (p n1 n0)))) (f (p a (p a (p (p (f (f (p n1 (p n1 n0)))) a) n0))))) b) e) 603791785356560305125381 (p (p (f (f (p n1 (p n1 n0)))) (f (p (f (p a (p a n0))) (p (f (p a (p a n0))) n0)))) b) e) 603791785360543639129861 (p (p (f (f (p n1 (p n1 n0)))) (f (p (p (f (f (p n1 (p n1 n0)))) a) (p a (p a n0))))) b) (d e 603791799689585428766757 (p (p (f (f (p n1 (p n1 (p n1 (p n1 (p n1 (p n1 (p (f (p n2 (p n2 n0))) n0))))))))) a) b) e))) 603791799689930019238437 (p (p (f (f (p n1 (p n1 (p n1 (p n1 (p (f (p n2 (p n2 n0))) (p n1 (p n1 n0))))))))) a) b) (d (d (d (d e 603791799689930032783397 (p (p (f (f (p n1 (p n1 (p n1 (p n1 (p (f (p n2 (p n2 (p n2 (p n2 n0))))) n0))))))) a) b) e) 603791801101372591239717 (p (p (f (f (p n1 (p n1 (p (f (p n2 (p n2 n0))) (p n1 (p n1 (p n1 (p n1 n0))))))))) a) b) e) 603797582370147508482597 (p (p (f (f (p (f (p n2 (p n2 n0))) (p n1 (p n1 (p n1 (p n1 (p n1 (p n1 n0))))))))) a) b) (d e 603797582597394228113957 (p (p (f (f (p (f (p n2 (p n2 (p n2 (p n2 n0))))) (p n1 (p n1 (p n1 (p n1 n0))))))) a) b) e)) 603862127677066074365989 (p (p (f (p (f (f (p n1 (p n1 n0)))) (f (p n1 (p n1 (p (f (p n2 (p n2 n0))) n0)))))) a) b) (d (d e 603862127677410664837669 (p (p (f (p (f (f (p n1 (p n1 n0)))) (f (p (f (p n2 (p n2 n0))) (p n1 (p n1 n0)))))) a) b) e) 4720567492656877346288165 (p a (p a (p a (p a (p (p (f (f (p n1 (p n1 n0)))) (p (f (f (p n1 (p n1 n0)))) a)) b))))) (d e 4720585930994618703007493 (p a (p a (p (f (p a (p a n0))) (p (p (f (f (p n1 (p n1 n0)))) (f (p a (p a n0)))) b)))) e)))))
noncomputable def q3 : NT := (d (d (d (d (d (d e 4796125347976459316875013 (p (f (p a (p a (p a (p a n0))))) (p (p (f (f (p n1 (p n1 n0)))) (f (p a (p a n0)))) b)) e) 4796125349942408920332293 (p (f (p a (p a (p a (p a (p (p (f (f (p n1 (p n1 n0)))) (f (p a (p a n0)))) n0)))))) b) e) 4797840456038108693253893 (p (f (p (p (f (f (p n1 (p n1 n0)))) (f (p a (p a n0)))) (p a (p a (p a (p a n0)))))) b) (d e 4830334282781662692232965 (p (p (f (f (p n1 (p n1 n0)))) (f (p a (p a n0)))) (p a (p a (p (f (p a (p a n0))) b)))) e)) 4830334282781664838973925 (p (p (f (f (p n1 (p n1 n0)))) (f (p a (p a n0)))) (p (f (p a (p a n0))) (p a (p a b)))) (d (d (d e 4830334282781664839192325 (p (p (f (f (p n1 (p n1 n0)))) (f (p a (p a n0)))) (p (f (p a (p a (p a (p a n0))))) b)) e) 4830334284821131849267685 (p (p (f (f (p n1 (p n1 n0)))) (p (f (f (p n1 (p n1 n0)))) a)) (p a (p a (p a (p a b))))) e) 4830334284821132239237669 (p (p (f (f (p n1 (p n1 n0)))) (p (f (f (p n1 (p n1 n0)))) (p (f (f (p n1 (p n1 n0)))) a))) b) (d e 4830897021450062919430693 (p (p (f (p (f (f (p n1 (p n1 n0)))) (p (f (f (p n1 (p n1 n0)))) (f (p n1 (p n1 n0)))))) a) b) e))) 302116319404046564047950085 (p a (p a (p a (p a (p (f (p (f (p a (p a n0))) (p (p (f (f (p n1 (p n1 n0)))) a) n0))) b))))) (d (d (d (d e 302116319406086030089943045 (p a (p a (p a (p a (p (f (p (p (f (f (p n1 (p n1 n0)))) a) (p (f (p a (p a n0))) n0))) b))))) e) 302116319530040125594333733 (p a (p a (p a (p a (p (p (f (f (p n1 (p n1 n0)))) a) (p (p (f (f (p n1 (p n1 n0)))) a) b)))))) e) 302117499583400663704203813 (p a (p a (p (f (p a (p a n0))) (p (f (p a (p a n0))) (p (p (f (f (p n1 (p n1 n0)))) a) b))))) (d e 302117499583400723700224261 (p a (p a (p (f (p a (p a n0))) (p (f (p a (p a (p (p (f (f (p n1 (p n1 n0)))) a) n0)))) b)))) e)) 302117499583409515782895621 (p a (p a (p (f (p a (p a n0))) (p (f (p (f (p a (p a n0))) (p (f (p a (p a n0))) n0))) b)))) (d (d e 302117499583413499116900101 (p a (p a (p (f (p a (p a n0))) (p (f (p (p (f (f (p n1 (p n1 n0)))) a) (p a (p a n0)))) b)))) e) 302117499583655596959452933 (p a (p a (p (f (p a (p a n0))) (p (p (f (f (p n1 (p n1 n0)))) a) (p (f (p a (p a n0))) b))))) (d e 302118034217440610151625253 (p a (p a (p (p (f (f (p n1 (p n1 n0)))) a) (p a (p a (p (p (f (f (p n1 (p n1 n0)))) a) b)))))) e)))) 302118034217441709161959173 (p a (p a (p (p (f (f (p n1 (p n1 n0)))) a) (p (f (p a (p a n0))) (p (f (p a (p a n0))) b))))) (d (d (d (d (d e 302118034217441709277476869 (p a (p a (p (p (f (f (p n1 (p n1 n0)))) a) (p (f (p a (p a (p (f (p a (p a n0))) n0)))) b)))) e) 302118034217441726451404549 (p a (p a (p (p (f (f (p n1 (p n1 n0)))) a) (p (f (p (f (p a (p a n0))) (p a (p a n0)))) b)))) e) 302118034217442207078709733 (p a (p a (p (p (f (f (p n1 (p n1 n0)))) a) (p (p (f (f (p n1 (p n1 n0)))) a) (p a (p a b)))))) (d e 306951530477159154133561893 (p (f (p a (p a n0))) (p a (p a (p (f (p a (p a n0))) (p (p (f (f (p n1 (p n1 n0)))) a) b))))) e)) 306951530477159214129582341 (p (f (p a (p a n0))) (p a (p a (p (f (p a (p a (p (p (f (f (p n1 (p n1 n0)))) a) n0)))) b)))) (d (d (d e 306951530477168006212253701 (p (f (p a (p a n0))) (p a (p a (p (f (p (f (p a (p a n0))) (p (f (p a (p a n0))) n0))) b)))) e) 306951530477171989546258181 (p (f (p a (p a n0))) (p a (p a (p (f (p (p (f (f (p n1 (p n1 n0)))) a) (p a (p a n0)))) b)))) e) 306951530477414087388811013 (p (f (p a (p a n0))) (p a (p a (p (p (f (f (p n1 (p n1 n0)))) a) (p (f (p a (p a n0))) b))))) (d e 306951532782204708179472933 (p (f (p a (p a n0))) (p (f (p a (p a n0))) (p a (p a (p (p (f (f (p n1 (p n1 n0)))) a) b))))) e))) 306951532782205807189806853 (p (f (p a (p a n0))) (p (f (p a (p a n0))) (p (f (p a (p a n0))) (p (f (p a (p a n0))) b)))) (d (d (d (d e 306951532782205807305324549 (p (f (p a (p a n0))) (p (f (p a (p a n0))) (p (f (p a (p a (p (f (p a (p a n0))) n0)))) b))) e) 306951532782205824479252229 (p (f (p a (p a n0))) (p (f (p a (p a n0))) (p (f (p (f (p a (p a n0))) (p a (p a n0)))) b))) e) 306951532782206305106557413 (p (f (p a (p a n0))) (p (f (p a (p a n0))) (p (p (f (f (p n1 (p n1 n0)))) a) (p a (p a b))))) (d e 306951533826412916460211973 (p (f (p a (p a n0))) (p (p (f (f (p n1 (p n1 n0)))) a) (p a (p a (p (f (p a (p a n0))) b))))) e)) 306951533826412918606952933 (p (f (p a (p a n0))) (p (p (f (f (p n1 (p n1 n0)))) a) (p (f (p a (p a n0))) (p a (p a b))))) (d (d e 306951533826412918607171333 (p (f (p a (p a n0))) (p (p (f (f (p n1 (p n1 n0)))) a) (p (f (p a (p a (p a (p a n0))))) b))) e) 306952022270238462991725093 (p (f (p a (p a (p a (p a n0))))) (p (f (p a (p a n0))) (p (p (f (f (p n1 (p n1 n0)))) a) b))) (d e 306952022270238522987745541 (p (f (p a (p a (p a (p a n0))))) (p (f (p a (p a (p (p (f (f (p n1 (p n1 n0)))) a) n0)))) b)) e)))))
noncomputable def q4 : NT := (d (d (d (d (d (d e 306952022270251298404421381 (p (f (p a (p a (p a (p a n0))))) (p (f (p (p (f (f (p n1 (p n1 n0)))) a) (p a (p a n0)))) b)) e) 306952022270493396246974213 (p (f (p a (p a (p a (p a n0))))) (p (p (f (f (p n1 (p n1 n0)))) a) (p (f (p a (p a n0))) b))) e) 306952022394274704595063045 (p (f (p a (p a (p a (p a (p (f (p a (p a n0))) (p (p (f (f (p n1 (p n1 n0)))) a) n0))))))) b) (d e 306952022394275184563226629 (p (f (p a (p a (p a (p a (p (f (p a (p a (p (p (f (f (p n1 (p n1 n0)))) a) n0)))) n0)))))) b) e)) 306952022394345521224597509 (p (f (p a (p a (p a (p a (p (f (p (f (p a (p a n0))) (p (f (p a (p a n0))) n0))) n0)))))) b) (d (d (d e 306952022394377387896633349 (p (f (p a (p a (p a (p a (p (f (p (p (f (f (p n1 (p n1 n0)))) a) (p a (p a n0)))) n0)))))) b) e) 306952022396314170637056005 (p (f (p a (p a (p a (p a (p (p (f (f (p n1 (p n1 n0)))) a) (p (f (p a (p a n0))) n0))))))) b) e) 306952040834404571751969317 (p (f (p a (p a (p (f (p a (p a n0))) n0)))) (p a (p a (p (p (f (f (p n1 (p n1 n0)))) a) b)))) (d e 306952040834405670762303237 (p (f (p a (p a (p (f (p a (p a n0))) n0)))) (p (f (p a (p a n0))) (p (f (p a (p a n0))) b))) e))) 306952040834405670877820933 (p (f (p a (p a (p (f (p a (p a n0))) n0)))) (p (f (p a (p a (p (f (p a (p a n0))) n0)))) b)) (d (d (d (d e 306952040834405688051748613 (p (f (p a (p a (p (f (p a (p a n0))) n0)))) (p (f (p (f (p a (p a n0))) (p a (p a n0)))) b)) e) 306952040834406168679053797 (p (f (p a (p a (p (f (p a (p a n0))) n0)))) (p (p (f (f (p n1 (p n1 n0)))) a) (p a (p a b)))) e) 306952040834639136962351365 (p (f (p a (p a (p (f (p a (p a n0))) (p a (p a (p (p (f (f (p n1 (p n1 n0)))) a) n0))))))) b) (d e 306952040834647929045022725 (p (f (p a (p a (p (f (p a (p a n0))) (p (f (p a (p a n0))) (p (f (p a (p a n0))) n0)))))) b) e)) 306952040834647929969164293 (p (f (p a (p a (p (f (p a (p a n0))) (p (f (p a (p a (p (f (p a (p a n0))) n0)))) n0))))) b) (d (d (d e 306952040834648067360585733 (p (f (p a (p a (p (f (p a (p a n0))) (p (f (p (f (p a (p a n0))) (p a (p a n0)))) n0))))) b) e) 306952040834651912379027205 (p (f (p a (p a (p (f (p a (p a n0))) (p (p (f (f (p n1 (p n1 n0)))) a) (p a (p a n0))))))) b) e) 306952049188304345074749189 (p (f (p a (p a (p (p (f (f (p n1 (p n1 n0)))) a) n0)))) (p a (p a (p (f (p a (p a n0))) b)))) (d e 306952049188304347221490149 (p (f (p a (p a (p (p (f (f (p n1 (p n1 n0)))) a) n0)))) (p (f (p a (p a n0))) (p a (p a b)))) e)))) 306952049188304347221708549 (p (f (p a (p a (p (p (f (f (p n1 (p n1 n0)))) a) n0)))) (p (f (p a (p a (p a (p a n0))))) b)) (d (d (d (d (d e 306952049188304803208263685 (p (f (p a (p a (p (p (f (f (p n1 (p n1 n0)))) a) (p a (p a (p (f (p a (p a n0))) n0))))))) b) e) 306952049188304820382191365 (p (f (p a (p a (p (p (f (f (p n1 (p n1 n0)))) a) (p (f (p a (p a n0))) (p a (p a n0))))))) b) e) 306952049188304820383938565 (p (f (p a (p a (p (p (f (f (p n1 (p n1 n0)))) a) (p (f (p a (p a (p a (p a n0))))) n0))))) b) (d e 307027572567119548164928037 (p (f (p (f (p a (p a n0))) (p a (p a n0)))) (p a (p a (p (p (f (f (p n1 (p n1 n0)))) a) b)))) e)) 307027572567120647175261957 (p (f (p (f (p a (p a n0))) (p a (p a n0)))) (p (f (p a (p a n0))) (p (f (p a (p a n0))) b))) (d (d (d e 307027572567120647290779653 (p (f (p (f (p a (p a n0))) (p a (p a n0)))) (p (f (p a (p a (p (f (p a (p a n0))) n0)))) b)) e) 307027572567120664464707333 (p (f (p (f (p a (p a n0))) (p a (p a n0)))) (p (f (p (f (p a (p a n0))) (p a (p a n0)))) b)) e) 307027572567121145092012517 (p (f (p (f (p a (p a n0))) (p a (p a n0)))) (p (p (f (f (p n1 (p n1 n0)))) a) (p a (p a b)))) (d e 307027572567354113375310085 (p (f (p (f (p a (p a n0))) (p a (p a (p a (p a (p (p (f (f (p n1 (p n1 n0)))) a) n0))))))) b) e))) 307027572567362905457981445 (p (f (p (f (p a (p a n0))) (p a (p a (p (f (p a (p a n0))) (p (f (p a (p a n0))) n0)))))) b) (d (d (d (d e 307027572567362906382123013 (p (f (p (f (p a (p a n0))) (p a (p a (p (f (p a (p a (p (f (p a (p a n0))) n0)))) n0))))) b) e) 307027572567363043773544453 (p (f (p (f (p a (p a n0))) (p a (p a (p (f (p (f (p a (p a n0))) (p a (p a n0)))) n0))))) b) e) 307027572567366888791985925 (p (f (p (f (p a (p a n0))) (p a (p a (p (p (f (f (p n1 (p n1 n0)))) a) (p a (p a n0))))))) b) (d e 307027572603378784106434309 (p (f (p (f (p a (p a n0))) (p (f (p a (p a n0))) n0))) (p a (p a (p (f (p a (p a n0))) b)))) e)) 307027572603378786253175269 (p (f (p (f (p a (p a n0))) (p (f (p a (p a n0))) n0))) (p (f (p a (p a n0))) (p a (p a b)))) (d (d e 307027572603378786253393669 (p (f (p (f (p a (p a n0))) (p (f (p a (p a n0))) n0))) (p (f (p a (p a (p a (p a n0))))) b)) e) 307027572603379242239948805 (p (f (p (f (p a (p a n0))) (p (f (p a (p a n0))) (p a (p a (p (f (p a (p a n0))) n0)))))) b) (d e 307027572603379259413876485 (p (f (p (f (p a (p a n0))) (p (f (p a (p a n0))) (p (f (p a (p a n0))) (p a (p a n0)))))) b) e)))))
noncomputable def q5 : NT := (d (d (d (d (d (d e 307027572619694994601441765 (p (f (p (f (p a (p a n0))) (p (p (f (f (p n1 (p n1 n0)))) a) n0))) (p a (p a (p a (p a b))))) e) 307027572619694995496226565 (p (f (p (f (p a (p a n0))) (p (p (f (f (p n1 (p n1 n0)))) a) (p a (p a (p a (p a n0))))))) b) e) 307027580251620977576218885 (p (f (p (f (p a (p a (p a (p a n0))))) (p a (p a (p (p (f (f (p n1 (p n1 n0)))) a) n0))))) b) (d e 307027580251629769658890245 (p (f (p (f (p a (p a (p a (p a n0))))) (p (f (p a (p a n0))) (p (f (p a (p a n0))) n0)))) b) e)) 307027580251629770583031813 (p (f (p (f (p a (p a (p a (p a n0))))) (p (f (p a (p a (p (f (p a (p a n0))) n0)))) n0))) b) (d (d (d e 307027580251629907974453253 (p (f (p (f (p a (p a (p a (p a n0))))) (p (f (p (f (p a (p a n0))) (p a (p a n0)))) n0))) b) e) 307027580251633752992894725 (p (f (p (f (p a (p a (p a (p a n0))))) (p (p (f (f (p n1 (p n1 n0)))) a) (p a (p a n0))))) b) e) 307027580541694865108269061 (p (f (p (f (p a (p a (p (f (p a (p a n0))) n0)))) (p a (p a (p (f (p a (p a n0))) n0))))) b) (d e 307027580541694882282196741 (p (f (p (f (p a (p a (p (f (p a (p a n0))) n0)))) (p (f (p a (p a n0))) (p a (p a n0))))) b) e))) 307027580541694882283943941 (p (f (p (f (p a (p a (p (f (p a (p a n0))) n0)))) (p (f (p a (p a (p a (p a n0))))) n0))) b) (d (d (d (d e 307027580672224549068328709 (p (f (p (f (p a (p a (p (p (f (f (p n1 (p n1 n0)))) a) n0)))) (p a (p a (p a (p a n0)))))) b) e) 307028760725018536614721541 (p (f (p (f (p (f (p a (p a n0))) (p a (p a n0)))) (p a (p a (p (f (p a (p a n0))) n0))))) b) e) 307028760725018553788649221 (p (f (p (f (p (f (p a (p a n0))) (p a (p a n0)))) (p (f (p a (p a n0))) (p a (p a n0))))) b) (d e 307028760725018553790396421 (p (f (p (f (p (f (p a (p a n0))) (p a (p a n0)))) (p (f (p a (p a (p a (p a n0))))) n0))) b) e)) 307028760725585087178198789 (p (f (p (f (p (f (p a (p a n0))) (p (f (p a (p a n0))) n0))) (p a (p a (p a (p a n0)))))) b) (d (d e 307029295359625033625620229 (p (f (p (f (p (p (f (f (p n1 (p n1 n0)))) a) (p a (p a n0)))) (p a (p a (p a (p a n0)))))) b) e) 307061789181935356741406469 (p (f (p (p (f (f (p n1 (p n1 n0)))) a) (p a (p a n0)))) (p a (p a (p (f (p a (p a n0))) b)))) (d e 307061789181935358888147429 (p (f (p (p (f (f (p n1 (p n1 n0)))) a) (p a (p a n0)))) (p (f (p a (p a n0))) (p a (p a b)))) e)))) 307061789181935358888365829 (p (f (p (p (f (f (p n1 (p n1 n0)))) a) (p a (p a n0)))) (p (f (p a (p a (p a (p a n0))))) b)) (d (d (d (d (d e 307061789181935814874920965 (p (f (p (p (f (f (p n1 (p n1 n0)))) a) (p a (p a (p a (p a (p (f (p a (p a n0))) n0))))))) b) e) 307061789181935832048848645 (p (f (p (p (f (f (p n1 (p n1 n0)))) a) (p a (p a (p (f (p a (p a n0))) (p a (p a n0))))))) b) e) 307061789181935832050595845 (p (f (p (p (f (f (p n1 (p n1 n0)))) a) (p a (p a (p (f (p a (p a (p a (p a n0))))) n0))))) b) (d e 307061789182006175561841125 (p (f (p (p (f (f (p n1 (p n1 n0)))) a) (p (f (p a (p a n0))) n0))) (p a (p a (p a (p a b))))) e)) 307061789182006176456625925 (p (f (p (p (f (f (p n1 (p n1 n0)))) a) (p (f (p a (p a n0))) (p a (p a (p a (p a n0))))))) b) (d (d (d e 309141393809825356817691173 (p (p (f (f (p n1 (p n1 n0)))) a) (p a (p a (p a (p a (p (p (f (f (p n1 (p n1 n0)))) a) b)))))) e) 309141393809826455828025093 (p (p (f (f (p n1 (p n1 n0)))) a) (p a (p a (p (f (p a (p a n0))) (p (f (p a (p a n0))) b))))) e) 309141393809826455943542789 (p (p (f (f (p n1 (p n1 n0)))) a) (p a (p a (p (f (p a (p a (p (f (p a (p a n0))) n0)))) b)))) (d e 309141393809826473117470469 (p (p (f (f (p n1 (p n1 n0)))) a) (p a (p a (p (f (p (f (p a (p a n0))) (p a (p a n0)))) b)))) e))) 309141393809826953744775653 (p (p (f (f (p n1 (p n1 n0)))) a) (p a (p a (p (p (f (f (p n1 (p n1 n0)))) a) (p a (p a b)))))) (d (d (d (d e 309141393814328497925771013 (p (p (f (f (p n1 (p n1 n0)))) a) (p (f (p a (p a n0))) (p a (p a (p (f (p a (p a n0))) b))))) e) 309141393814328500072511973 (p (p (f (f (p n1 (p n1 n0)))) a) (p (f (p a (p a n0))) (p (f (p a (p a n0))) (p a (p a b))))) e) 309141393814328500072730373 (p (p (f (f (p n1 (p n1 n0)))) a) (p (f (p a (p a n0))) (p (f (p a (p a (p a (p a n0))))) b))) (d e 309141393816367967082805733 (p (p (f (f (p n1 (p n1 n0)))) a) (p (p (f (f (p n1 (p n1 n0)))) a) (p a (p a (p a (p a b)))))) e)) 309141394102558877196718341 (p (p (f (f (p n1 (p n1 n0)))) (f (p (f (p a (p a n0))) (p (p (f (f (p n1 (p n1 n0)))) a) n0)))) b) (d (d e 309141394104598343238711301 (p (p (f (f (p n1 (p n1 n0)))) (f (p (p (f (f (p n1 (p n1 n0)))) a) (p (f (p a (p a n0))) n0)))) b) e) 309141401441067747581395493 (p (p (f (f (p n1 (p n1 (p n1 (p n1 (p n1 (p n1 (p (p (f (f (p n1 (p n1 n0)))) n1) n0))))))))) a) b) (d e 309141401441244169934446629 (p (p (f (f (p n1 (p n1 (p n1 (p n1 (p (f (p n2 (p n2 n0))) (p (f (p n2 (p n2 n0))) n0)))))))) a) b) e)))))
noncomputable def q6 : NT := (d (d (d (d (d (d e 309141401441246384426295333 (p (p (f (f (p n1 (p n1 (p n1 (p n1 (p (f (p (f (p n3 (p n3 n0))) (p n2 (p n2 n0)))) n0))))))) a) b) e) 309141401441277153292120613 (p (p (f (f (p n1 (p n1 (p n1 (p n1 (p (p (f (f (p n1 (p n1 n0)))) n1) (p n1 (p n1 n0))))))))) a) b) e) 309141402163902766799101989 (p (p (f (f (p n1 (p n1 (p (f (p n2 (p n2 n0))) (p n1 (p n1 (p (f (p n2 (p n2 n0))) n0)))))))) a) b) (d e 309141402163903111389573669 (p (p (f (f (p n1 (p n1 (p (f (p n2 (p n2 n0))) (p (f (p n2 (p n2 n0))) (p n1 (p n1 n0)))))))) a) b) e)) 309141402163903111403118629 (p (p (f (f (p n1 (p n1 (p (f (p n2 (p n2 n0))) (p (f (p n2 (p n2 (p n2 (p n2 n0))))) n0)))))) a) b) (d (d (d e 309141402299002944422212133 (p (p (f (f (p n1 (p n1 (p (p (f (f (p n1 (p n1 n0)))) n1) (p n1 (p n1 (p n1 (p n1 n0))))))))) a) b) e) 309144362173515524427456549 (p (p (f (f (p (f (p n2 (p n2 n0))) (p n1 (p n1 (p n1 (p n1 (p (f (p n2 (p n2 n0))) n0)))))))) a) b) e) 309144362173515869017928229 (p (p (f (f (p (f (p n2 (p n2 n0))) (p n1 (p n1 (p (f (p n2 (p n2 n0))) (p n1 (p n1 n0)))))))) a) b) (d e 309144362173515869031473189 (p (p (f (f (p (f (p n2 (p n2 n0))) (p n1 (p n1 (p (f (p n2 (p n2 (p n2 (p n2 n0))))) n0)))))) a) b) e))) 309144362174927311589929509 (p (p (f (f (p (f (p n2 (p n2 n0))) (p (f (p n2 (p n2 n0))) (p n1 (p n1 (p n1 (p n1 n0)))))))) a) b) (d (d (d (d e 309144362289865844878712869 (p (p (f (f (p (f (p n2 (p n2 (p n2 (p n2 n0))))) (p n1 (p n1 (p (f (p n2 (p n2 n0))) n0)))))) a) b) e) 309144362289866189469184549 (p (p (f (f (p (f (p n2 (p n2 (p n2 (p n2 n0))))) (p (f (p n2 (p n2 n0))) (p n1 (p n1 n0)))))) a) b) e) 309144362289866189482729509 (p (p (f (f (p (f (p n2 (p n2 (p n2 (p n2 n0))))) (p (f (p n2 (p n2 (p n2 (p n2 n0))))) n0)))) a) b) (d e 309144362298936692601319973 (p (p (f (f (p (f (p n2 (p n2 (p (f (p n3 (p n3 n0))) n0)))) (p n1 (p n1 (p n1 (p n1 n0))))))) a) b) e)) 309144399327935387536257573 (p (p (f (f (p (f (p (f (p n3 (p n3 n0))) (p n2 (p n2 n0)))) (p n1 (p n1 (p n1 (p n1 n0))))))) a) b) (d (d e 309144915543843413277078053 (p (p (f (f (p (p (f (f (p n1 (p n1 n0)))) n1) (p n1 (p n1 (p n1 (p n1 (p n1 (p n1 n0))))))))) a) b) e) 309177409370657838128202277 (p (p (f (p (f (f (p n1 (p n1 n0)))) (f (p n1 (p n1 (p (p (f (f (p n1 (p n1 n0)))) n1) n0)))))) a) b) (d e 309177409370834260481253413 (p (p (f (p (f (f (p n1 (p n1 n0)))) (f (p (f (p n2 (p n2 n0))) (p (f (p n2 (p n2 n0))) n0))))) a) b) e)))) 309177409370867243838927397 (p (p (f (p (f (f (p n1 (p n1 n0)))) (f (p (p (f (f (p n1 (p n1 n0)))) n1) (p n1 (p n1 n0)))))) a) b) (d (d (d (d (d e 2416939996669244776061399589 (p a (p a (p (f (p a (p a n0))) (p (p (f (f (p n1 (p n1 n0)))) (p (f (f (p n1 (p n1 n0)))) a)) b)))) e) 2416944273739537656630202117 (p a (p a (p (p (f (f (p n1 (p n1 n0)))) a) (p (p (f (f (p n1 (p n1 n0)))) (f (p a (p a n0)))) b)))) e) 2455612243819312699496264229 (p (f (p a (p a n0))) (p a (p a (p (p (f (f (p n1 (p n1 n0)))) (p (f (f (p n1 (p n1 n0)))) a)) b)))) (d e 2455612262257650440852983557 (p (f (p a (p a n0))) (p (f (p a (p a n0))) (p (p (f (f (p n1 (p n1 n0)))) (f (p a (p a n0)))) b))) e)) 2455616178163947170361569829 (p (f (p a (p a (p a (p a n0))))) (p (p (f (f (p n1 (p n1 n0)))) (p (f (f (p n1 (p n1 n0)))) a)) b)) (d (d (d e 2455616179170513368182657285 (p (f (p a (p a (p a (p a (p (p (f (f (p n1 (p n1 n0)))) (p (f (f (p n1 (p n1 n0)))) a)) n0)))))) b) e) 2455616326675249349432954629 (p (f (p a (p a (p (f (p a (p a n0))) n0)))) (p (p (f (f (p n1 (p n1 n0)))) (f (p a (p a n0)))) b)) e) 2455616326677215299036411909 (p (f (p a (p a (p (f (p a (p a n0))) (p (p (f (f (p n1 (p n1 n0)))) (f (p a (p a n0)))) n0))))) b) (d e 2456220580536969160736624389 (p (f (p (f (p a (p a n0))) (p a (p a n0)))) (p (p (f (f (p n1 (p n1 n0)))) (f (p a (p a n0)))) b)) e))) 2456220580538935110340081669 (p (f (p (f (p a (p a n0))) (p a (p a (p (p (f (f (p n1 (p n1 n0)))) (f (p a (p a n0)))) n0))))) b) (d (d (d (d e 2456220642013070023947352069 (p (f (p (f (p a (p a (p a (p a n0))))) (p (p (f (f (p n1 (p n1 n0)))) (f (p a (p a n0)))) n0))) b) e) 2456494313491511650950215685 (p (f (p (p (f (f (p n1 (p n1 n0)))) (f (p a (p a n0)))) (p a (p a (p (f (p a (p a n0))) n0))))) b) e) 2456494313491511668124143365 (p (f (p (p (f (f (p n1 (p n1 n0)))) (f (p a (p a n0)))) (p (f (p a (p a n0))) (p a (p a n0))))) b) (d e 2456494313491511668125890565 (p (f (p (p (f (f (p n1 (p n1 n0)))) (f (p a (p a n0)))) (p (f (p a (p a (p a (p a n0))))) n0))) b) e)) 2456494313507827404206493445 (p (f (p (p (f (f (p n1 (p n1 n0)))) (p (f (f (p n1 (p n1 n0)))) a)) (p a (p a (p a (p a n0)))))) b) (d (d e 2473131150478615629958729477 (p (p (f (f (p n1 (p n1 n0)))) a) (p a (p a (p (p (f (f (p n1 (p n1 n0)))) (f (p a (p a n0)))) b)))) e) 2473131152784211298544841253 (p (p (f (f (p n1 (p n1 n0)))) (f (p a (p a n0)))) (p a (p a (p (p (f (f (p n1 (p n1 n0)))) a) b)))) (d e 2473131152784212397555175173 (p (p (f (f (p n1 (p n1 n0)))) (f (p a (p a n0)))) (p (f (p a (p a n0))) (p (f (p a (p a n0))) b))) e)))))
noncomputable def q7 : NT := (d (d (d (d (d (d e 2473131152784212414844620549 (p (p (f (f (p n1 (p n1 n0)))) (f (p a (p a n0)))) (p (f (p (f (p a (p a n0))) (p a (p a n0)))) b)) e) 2473131152784212895471925733 (p (p (f (f (p n1 (p n1 n0)))) (f (p a (p a n0)))) (p (p (f (f (p n1 (p n1 n0)))) a) (p a (p a b)))) e) 2473131153828419506825580293 (p (p (f (f (p n1 (p n1 n0)))) (p (f (f (p n1 (p n1 n0)))) a)) (p a (p a (p (f (p a (p a n0))) b)))) (d e 2473131153828419508972321253 (p (p (f (f (p n1 (p n1 n0)))) (p (f (f (p n1 (p n1 n0)))) a)) (p (f (p a (p a n0))) (p a (p a b)))) e)) 2473131153828419508972539653 (p (p (f (f (p n1 (p n1 n0)))) (p (f (f (p n1 (p n1 n0)))) a)) (p (f (p a (p a (p a (p a n0))))) b)) (d (d (d e 2473131211530217226421116965 (p (p (f (f (p n1 (p n1 (p n1 (p n1 (p (p (f (f (p n1 (p n1 n0)))) (f (p n2 (p n2 n0)))) n0))))))) a) b) e) 2473159324352159093463249445 (p (p (f (f (p (p (f (f (p n1 (p n1 n0)))) (f (p n2 (p n2 n0)))) (p n1 (p n1 (p n1 (p n1 n0))))))) a) b) e) 2473419274982432215772139557 (p (p (f (p (f (f (p n1 (p n1 n0)))) (p (f (f (p n1 (p n1 n0)))) (p (f (f (p n1 (p n1 n0)))) n0)))) a) b) (d e 19785049222273703163775930117 (p (p (f (f (p n1 (p n1 n0)))) (f (p a (p a n0)))) (p (p (f (f (p n1 (p n1 n0)))) (f (p a (p a n0)))) b)) e))) 154683555535916047407023362309 (p a (p a (p a (p a (p (f (p (p (f (f (p n1 (p n1 n0)))) a) (p (p (f (f (p n1 (p n1 n0)))) a) n0))) b))))) (d (d (d (d e 154684159786705672081815081221 (p a (p a (p (f (p a (p a n0))) (p (f (p (f (p a (p a n0))) (p (p (f (f (p n1 (p n1 n0)))) a) n0))) b)))) e) 154684159786707711547857074181 (p a (p a (p (f (p a (p a n0))) (p (f (p (p (f (f (p n1 (p n1 n0)))) a) (p (f (p a (p a n0))) n0))) b)))) e) 154684159786831665643361464869 (p a (p a (p (f (p a (p a n0))) (p (p (f (f (p n1 (p n1 n0)))) a) (p (p (f (f (p n1 (p n1 n0)))) a) b))))) (d e 154684433519330155091044659749 (p a (p a (p (p (f (f (p n1 (p n1 n0)))) a) (p (f (p a (p a n0))) (p (p (f (f (p n1 (p n1 n0)))) a) b))))) e)) 154684433519330155151040680197 (p a (p a (p (p (f (f (p n1 (p n1 n0)))) a) (p (f (p a (p a (p (p (f (f (p n1 (p n1 n0)))) a) n0)))) b)))) (d (d e 154684433519330163943123351557 (p a (p a (p (p (f (f (p n1 (p n1 n0)))) a) (p (f (p (f (p a (p a n0))) (p (f (p a (p a n0))) n0))) b)))) e) 154684433519330167926457356037 (p a (p a (p (p (f (f (p n1 (p n1 n0)))) a) (p (f (p (p (f (f (p n1 (p n1 n0)))) a) (p a (p a n0)))) b)))) (d e 154684433519330410024299908869 (p a (p a (p (p (f (f (p n1 (p n1 n0)))) a) (p (p (f (f (p n1 (p n1 n0)))) a) (p (f (p a (p a n0))) b))))) e)))) 157159183604310019181646418181 (p (f (p a (p a n0))) (p a (p a (p (f (p (f (p a (p a n0))) (p (p (f (f (p n1 (p n1 n0)))) a) n0))) b)))) (d (d (d (d (d e 157159183604312058647688411141 (p (f (p a (p a n0))) (p a (p a (p (f (p (p (f (f (p n1 (p n1 n0)))) a) (p (f (p a (p a n0))) n0))) b)))) e) 157159183604436012743192801829 (p (f (p a (p a n0))) (p a (p a (p (p (f (f (p n1 (p n1 n0)))) a) (p (p (f (f (p n1 (p n1 n0)))) a) b))))) e) 157159184784489373281302671909 (p (f (p a (p a n0))) (p (f (p a (p a n0))) (p (f (p a (p a n0))) (p (p (f (f (p n1 (p n1 n0)))) a) b)))) (d e 157159184784489373341298692357 (p (f (p a (p a n0))) (p (f (p a (p a n0))) (p (f (p a (p a (p (p (f (f (p n1 (p n1 n0)))) a) n0)))) b))) e)) 157159184784489382133381363717 (p (f (p a (p a n0))) (p (f (p a (p a n0))) (p (f (p (f (p a (p a n0))) (p (f (p a (p a n0))) n0))) b))) (d (d (d e 157159184784489386116715368197 (p (f (p a (p a n0))) (p (f (p a (p a n0))) (p (f (p (p (f (f (p n1 (p n1 n0)))) a) (p a (p a n0)))) b))) e) 157159184784489628214557921029 (p (f (p a (p a n0))) (p (f (p a (p a n0))) (p (p (f (f (p n1 (p n1 n0)))) a) (p (f (p a (p a n0))) b)))) e) 157159185319123413227750093349 (p (f (p a (p a n0))) (p (p (f (f (p n1 (p n1 n0)))) a) (p a (p a (p (p (f (f (p n1 (p n1 n0)))) a) b))))) (d e 157159185319123414326760427269 (p (f (p a (p a n0))) (p (p (f (f (p n1 (p n1 n0)))) a) (p (f (p a (p a n0))) (p (f (p a (p a n0))) b)))) e))) 157159185319123414326875944965 (p (f (p a (p a n0))) (p (p (f (f (p n1 (p n1 n0)))) a) (p (f (p a (p a (p (f (p a (p a n0))) n0)))) b))) (d (d (d (d e 157159185319123414344049872645 (p (f (p a (p a n0))) (p (p (f (f (p n1 (p n1 n0)))) a) (p (f (p (f (p a (p a n0))) (p a (p a n0)))) b))) e) 157159185319123414824677177829 (p (f (p a (p a n0))) (p (p (f (f (p n1 (p n1 n0)))) a) (p (p (f (f (p n1 (p n1 n0)))) a) (p a (p a b))))) e) 157159435402366625317025976581 (p (f (p a (p a (p a (p a n0))))) (p (f (p (f (p a (p a n0))) (p (p (f (f (p n1 (p n1 n0)))) a) n0))) b)) (d e 157159435402368664783067969541 (p (f (p a (p a (p a (p a n0))))) (p (f (p (p (f (f (p n1 (p n1 n0)))) a) (p (f (p a (p a n0))) n0))) b)) e)) 157159435402492618878572360229 (p (f (p a (p a (p a (p a n0))))) (p (p (f (f (p n1 (p n1 n0)))) a) (p (p (f (f (p n1 (p n1 n0)))) a) b))) (d (d e 157159435465904906874774128645 (p (f (p a (p a (p a (p a (p (f (p (f (p a (p a n0))) (p (p (f (f (p n1 (p n1 n0)))) a) n0))) n0)))))) b) e) 157159435465921222603110072325 (p (f (p a (p a (p a (p a (p (f (p (p (f (f (p n1 (p n1 n0)))) a) (p (f (p a (p a n0))) n0))) n0)))))) b) (d e 157159435466912855367145197829 (p (f (p a (p a (p a (p a (p (p (f (f (p n1 (p n1 n0)))) a) (p (p (f (f (p n1 (p n1 n0)))) a) n0))))))) b) e)))))
noncomputable def q8 : NT := (d (d (d (d (d (d e 157159444907215703490416840965 (p (f (p a (p a (p (f (p a (p a n0))) n0)))) (p (f (p a (p a (p (p (f (f (p n1 (p n1 n0)))) a) n0)))) b)) e) 157159444907215712282499512325 (p (f (p a (p a (p (f (p a (p a n0))) n0)))) (p (f (p (f (p a (p a n0))) (p (f (p a (p a n0))) n0))) b)) e) 157159444907215716265833516805 (p (f (p a (p a (p (f (p a (p a n0))) n0)))) (p (f (p (p (f (f (p n1 (p n1 n0)))) a) (p a (p a n0)))) b)) (d e 157159444907215958363676069637 (p (f (p a (p a (p (f (p a (p a n0))) n0)))) (p (p (f (f (p n1 (p n1 n0)))) a) (p (f (p a (p a n0))) b))) e)) 157159444907339739672024158469 (p (f (p a (p a (p (f (p a (p a n0))) (p (f (p a (p a n0))) (p (p (f (f (p n1 (p n1 n0)))) a) n0)))))) b) (d (d (d e 157159444907339740151992322053 (p (f (p a (p a (p (f (p a (p a n0))) (p (f (p a (p a (p (p (f (f (p n1 (p n1 n0)))) a) n0)))) n0))))) b) e) 157159444907339810488653692933 (p (f (p a (p a (p (f (p a (p a n0))) (p (f (p (f (p a (p a n0))) (p (f (p a (p a n0))) n0))) n0))))) b) e) 157159444907339842355325728773 (p (f (p a (p a (p (f (p a (p a n0))) (p (f (p (p (f (f (p n1 (p n1 n0)))) a) (p a (p a n0)))) n0))))) b) (d e 157159444907341779138066151429 (p (f (p a (p a (p (f (p a (p a n0))) (p (p (f (f (p n1 (p n1 n0)))) a) (p (f (p a (p a n0))) n0)))))) b) e))) 157159449184411824678393147941 (p (f (p a (p a (p (p (f (f (p n1 (p n1 n0)))) a) n0)))) (p a (p a (p (p (f (f (p n1 (p n1 n0)))) a) b)))) (d (d (d (d e 157159449184411825777403481861 (p (f (p a (p a (p (p (f (f (p n1 (p n1 n0)))) a) n0)))) (p (f (p a (p a n0))) (p (f (p a (p a n0))) b))) e) 157159449184411825777518999557 (p (f (p a (p a (p (p (f (f (p n1 (p n1 n0)))) a) n0)))) (p (f (p a (p a (p (f (p a (p a n0))) n0)))) b)) e) 157159449184411825794692927237 (p (f (p a (p a (p (p (f (f (p n1 (p n1 n0)))) a) n0)))) (p (f (p (f (p a (p a n0))) (p a (p a n0)))) b)) (d e 157159449184411826275320232421 (p (f (p a (p a (p (p (f (f (p n1 (p n1 n0)))) a) n0)))) (p (p (f (f (p n1 (p n1 n0)))) a) (p a (p a b)))) e)) 157159449184412059243603529989 (p (f (p a (p a (p (p (f (f (p n1 (p n1 n0)))) a) (p a (p a (p (p (f (f (p n1 (p n1 n0)))) a) n0))))))) b) (d (d (d e 157159449184412068035686201349 (p (f (p a (p a (p (p (f (f (p n1 (p n1 n0)))) a) (p (f (p a (p a n0))) (p (f (p a (p a n0))) n0)))))) b) e) 157159449184412068036610342917 (p (f (p a (p a (p (p (f (f (p n1 (p n1 n0)))) a) (p (f (p a (p a (p (f (p a (p a n0))) n0)))) n0))))) b) e) 157159449184412068174001764357 (p (f (p a (p a (p (p (f (f (p n1 (p n1 n0)))) a) (p (f (p (f (p a (p a n0))) (p a (p a n0)))) n0))))) b) (d e 157159449184412072019020205829 (p (f (p a (p a (p (p (f (f (p n1 (p n1 n0)))) a) (p (p (f (f (p n1 (p n1 n0)))) a) (p a (p a n0))))))) b) e)))) 157198117154365771353855685157 (p (f (p (f (p a (p a n0))) (p a (p a n0)))) (p (f (p a (p a n0))) (p (p (f (f (p n1 (p n1 n0)))) a) b))) (d (d (d (d (d e 157198117154365771413851705605 (p (f (p (f (p a (p a n0))) (p a (p a n0)))) (p (f (p a (p a (p (p (f (f (p n1 (p n1 n0)))) a) n0)))) b)) e) 157198117154365780205934376965 (p (f (p (f (p a (p a n0))) (p a (p a n0)))) (p (f (p (f (p a (p a n0))) (p (f (p a (p a n0))) n0))) b)) e) 157198117154365784189268381445 (p (f (p (f (p a (p a n0))) (p a (p a n0)))) (p (f (p (p (f (f (p n1 (p n1 n0)))) a) (p a (p a n0)))) b)) (d e 157198117154366026287110934277 (p (f (p (f (p a (p a n0))) (p a (p a n0)))) (p (p (f (f (p n1 (p n1 n0)))) a) (p (f (p a (p a n0))) b))) e)) 157198117154489807595459023109 (p (f (p (f (p a (p a n0))) (p a (p a (p (f (p a (p a n0))) (p (p (f (f (p n1 (p n1 n0)))) a) n0)))))) b) (d (d (d e 157198117154489808075427186693 (p (f (p (f (p a (p a n0))) (p a (p a (p (f (p a (p a (p (p (f (f (p n1 (p n1 n0)))) a) n0)))) n0))))) b) e) 157198117154489878412088557573 (p (f (p (f (p a (p a n0))) (p a (p a (p (f (p (f (p a (p a n0))) (p (f (p a (p a n0))) n0))) n0))))) b) e) 157198117154489910278760593413 (p (f (p (f (p a (p a n0))) (p a (p a (p (f (p (p (f (f (p n1 (p n1 n0)))) a) (p a (p a n0)))) n0))))) b) (d e 157198117154491847061501016069 (p (f (p (f (p a (p a n0))) (p a (p a (p (p (f (f (p n1 (p n1 n0)))) a) (p (f (p a (p a n0))) n0)))))) b) e))) 157198117172929937462615929381 (p (f (p (f (p a (p a n0))) (p (f (p a (p a n0))) n0))) (p a (p a (p (p (f (f (p n1 (p n1 n0)))) a) b)))) (d (d (d (d e 157198117172929938561626263301 (p (f (p (f (p a (p a n0))) (p (f (p a (p a n0))) n0))) (p (f (p a (p a n0))) (p (f (p a (p a n0))) b))) e) 157198117172929938561741780997 (p (f (p (f (p a (p a n0))) (p (f (p a (p a n0))) n0))) (p (f (p a (p a (p (f (p a (p a n0))) n0)))) b)) e) 157198117172929938578915708677 (p (f (p (f (p a (p a n0))) (p (f (p a (p a n0))) n0))) (p (f (p (f (p a (p a n0))) (p a (p a n0)))) b)) (d e 157198117172929939059543013861 (p (f (p (f (p a (p a n0))) (p (f (p a (p a n0))) n0))) (p (p (f (f (p n1 (p n1 n0)))) a) (p a (p a b)))) e)) 157198117172930172027826311429 (p (f (p (f (p a (p a n0))) (p (f (p a (p a n0))) (p a (p a (p (p (f (f (p n1 (p n1 n0)))) a) n0)))))) b) (d (d e 157198117172930180819908982789 (p (f (p (f (p a (p a n0))) (p (f (p a (p a n0))) (p (f (p a (p a n0))) (p (f (p a (p a n0))) n0))))) b) e) 157198117172930180820833124357 (p (f (p (f (p a (p a n0))) (p (f (p a (p a n0))) (p (f (p a (p a (p (f (p a (p a n0))) n0)))) n0)))) b) (d e 157198117172930180958224545797 (p (f (p (f (p a (p a n0))) (p (f (p a (p a n0))) (p (f (p (f (p a (p a n0))) (p a (p a n0)))) n0)))) b) e)))))
noncomputable def q9 : NT := (d (d (d (d (d (d e 157198117181283837235938709253 (p (f (p (f (p a (p a n0))) (p (p (f (f (p n1 (p n1 n0)))) a) n0))) (p a (p a (p (f (p a (p a n0))) b)))) e) 157198117181283837238085450213 (p (f (p (f (p a (p a n0))) (p (p (f (f (p n1 (p n1 n0)))) a) n0))) (p (f (p a (p a n0))) (p a (p a b)))) e) 157198117181283837238085668613 (p (f (p (f (p a (p a n0))) (p (p (f (f (p n1 (p n1 n0)))) a) n0))) (p (f (p a (p a (p a (p a n0))))) b)) (d e 157198117181283837694072223749 (p (f (p (f (p a (p a n0))) (p (p (f (f (p n1 (p n1 n0)))) a) (p a (p a (p (f (p a (p a n0))) n0)))))) b) e)) 157198117181283837711246151429 (p (f (p (f (p a (p a n0))) (p (p (f (f (p n1 (p n1 n0)))) a) (p (f (p a (p a n0))) (p a (p a n0)))))) b) (d (d (d e 157198117181283837711247898629 (p (f (p (f (p a (p a n0))) (p (p (f (f (p n1 (p n1 n0)))) a) (p (f (p a (p a (p a (p a n0))))) n0)))) b) e) 157198121088834442066324328709 (p (f (p (f (p a (p a (p a (p a n0))))) (p (f (p a (p a n0))) (p (p (f (f (p n1 (p n1 n0)))) a) n0)))) b) e) 157198121088834442546292492293 (p (f (p (f (p a (p a (p a (p a n0))))) (p (f (p a (p a (p (p (f (f (p n1 (p n1 n0)))) a) n0)))) n0))) b) (d e 157198121088834512882953863173 (p (f (p (f (p a (p a (p a (p a n0))))) (p (f (p (f (p a (p a n0))) (p (f (p a (p a n0))) n0))) n0))) b) e))) 157198121088834544749625899013 (p (f (p (f (p a (p a (p a (p a n0))))) (p (f (p (p (f (f (p n1 (p n1 n0)))) a) (p a (p a n0)))) n0))) b) (d (d (d (d e 157198121088836481532366321669 (p (f (p (f (p a (p a (p a (p a n0))))) (p (p (f (f (p n1 (p n1 n0)))) a) (p (f (p a (p a n0))) n0)))) b) e) 157198121237347770936406282501 (p (f (p (f (p a (p a (p (f (p a (p a n0))) n0)))) (p a (p a (p (p (f (f (p n1 (p n1 n0)))) a) n0))))) b) e) 157198121237347779728488953861 (p (f (p (f (p a (p a (p (f (p a (p a n0))) n0)))) (p (f (p a (p a n0))) (p (f (p a (p a n0))) n0)))) b) (d e 157198121237347779729413095429 (p (f (p (f (p a (p a (p (f (p a (p a n0))) n0)))) (p (f (p a (p a (p (f (p a (p a n0))) n0)))) n0))) b) e)) 157198121237347779866804516869 (p (f (p (f (p a (p a (p (f (p a (p a n0))) n0)))) (p (f (p (f (p a (p a n0))) (p a (p a n0)))) n0))) b) (d (d e 157198121237347783711822958341 (p (f (p (f (p a (p a (p (f (p a (p a n0))) n0)))) (p (p (f (f (p n1 (p n1 n0)))) a) (p a (p a n0))))) b) e) 157198121304178969122988521477 (p (f (p (f (p a (p a (p (p (f (f (p n1 (p n1 n0)))) a) n0)))) (p a (p a (p (f (p a (p a n0))) n0))))) b) (d e 157198121304178969140162449157 (p (f (p (f (p a (p a (p (p (f (f (p n1 (p n1 n0)))) a) n0)))) (p (f (p a (p a n0))) (p a (p a n0))))) b) e)))) 157198121304178969140164196357 (p (f (p (f (p a (p a (p (p (f (f (p n1 (p n1 n0)))) a) n0)))) (p (f (p a (p a (p a (p a n0))))) n0))) b) (d (d (d (d (d e 157198725491209490747709952261 (p (f (p (f (p (f (p a (p a n0))) (p a (p a n0)))) (p a (p a (p (p (f (f (p n1 (p n1 n0)))) a) n0))))) b) e) 157198725491209499539792623621 (p (f (p (f (p (f (p a (p a n0))) (p a (p a n0)))) (p (f (p a (p a n0))) (p (f (p a (p a n0))) n0)))) b) e) 157198725491209499540716765189 (p (f (p (f (p (f (p a (p a n0))) (p a (p a n0)))) (p (f (p a (p a (p (f (p a (p a n0))) n0)))) n0))) b) (d e 157198725491209499678108186629 (p (f (p (f (p (f (p a (p a n0))) (p a (p a n0)))) (p (f (p (f (p a (p a n0))) (p a (p a n0)))) n0))) b) e)) 157198725491209503523126628101 (p (f (p (f (p (f (p a (p a n0))) (p a (p a n0)))) (p (p (f (f (p n1 (p n1 n0)))) a) (p a (p a n0))))) b) (d (d (d e 157198725491499564635242002437 (p (f (p (f (p (f (p a (p a n0))) (p (f (p a (p a n0))) n0))) (p a (p a (p (f (p a (p a n0))) n0))))) b) e) 157198725491499564652415930117 (p (f (p (f (p (f (p a (p a n0))) (p (f (p a (p a n0))) n0))) (p (f (p a (p a n0))) (p a (p a n0))))) b) e) 157198725491499564652417677317 (p (f (p (f (p (f (p a (p a n0))) (p (f (p a (p a n0))) n0))) (p (f (p a (p a (p a (p a n0))))) n0))) b) (d e 157198725491630094319202062085 (p (f (p (f (p (f (p a (p a n0))) (p (p (f (f (p n1 (p n1 n0)))) a) n0))) (p a (p a (p a (p a n0)))))) b) e))) 157198999224128017216321779717 (p (f (p (f (p (p (f (f (p n1 (p n1 n0)))) a) (p a (p a n0)))) (p a (p a (p (f (p a (p a n0))) n0))))) b) (d (d (d (d e 157198999224128017233495707397 (p (f (p (f (p (p (f (f (p n1 (p n1 n0)))) a) (p a (p a n0)))) (p (f (p a (p a n0))) (p a (p a n0))))) b) e) 157198999224128017233497454597 (p (f (p (f (p (p (f (f (p n1 (p n1 n0)))) a) (p a (p a n0)))) (p (f (p a (p a (p a (p a n0))))) n0))) b) e) 157198999224128583766885256965 (p (f (p (f (p (p (f (f (p n1 (p n1 n0)))) a) (p (f (p a (p a n0))) n0))) (p a (p a (p a (p a n0)))))) b) (d e 157215636061150902651721675301 (p (f (p (p (f (f (p n1 (p n1 n0)))) a) (p a (p a n0)))) (p a (p a (p (p (f (f (p n1 (p n1 n0)))) a) b)))) e)) 157215636061150903750732009221 (p (f (p (p (f (f (p n1 (p n1 n0)))) a) (p a (p a n0)))) (p (f (p a (p a n0))) (p (f (p a (p a n0))) b))) (d (d e 157215636061150903750847526917 (p (f (p (p (f (f (p n1 (p n1 n0)))) a) (p a (p a n0)))) (p (f (p a (p a (p (f (p a (p a n0))) n0)))) b)) e) 157215636061150903768021454597 (p (f (p (p (f (f (p n1 (p n1 n0)))) a) (p a (p a n0)))) (p (f (p (f (p a (p a n0))) (p a (p a n0)))) b)) (d e 157215636061150904248648759781 (p (f (p (p (f (f (p n1 (p n1 n0)))) a) (p a (p a n0)))) (p (p (f (f (p n1 (p n1 n0)))) a) (p a (p a b)))) e)))))
noncomputable def q10 : NT := (d (d (d (d (d (d e 157215636061151146009014728709 (p (f (p (p (f (f (p n1 (p n1 n0)))) a) (p a (p a (p (f (p a (p a n0))) (p (f (p a (p a n0))) n0)))))) b) e) 157215636061151146009938870277 (p (f (p (p (f (f (p n1 (p n1 n0)))) a) (p a (p a (p (f (p a (p a (p (f (p a (p a n0))) n0)))) n0))))) b) e) 157215636061151146147330291717 (p (f (p (p (f (f (p n1 (p n1 n0)))) a) (p a (p a (p (f (p (f (p a (p a n0))) (p a (p a n0)))) n0))))) b) (d e 157215636061151149992348733189 (p (f (p (p (f (f (p n1 (p n1 n0)))) a) (p a (p a (p (p (f (f (p n1 (p n1 n0)))) a) (p a (p a n0))))))) b) e)) 157215636061187161887663181573 (p (f (p (p (f (f (p n1 (p n1 n0)))) a) (p (f (p a (p a n0))) n0))) (p a (p a (p (f (p a (p a n0))) b)))) (d (d (d e 157215636061187161889809922533 (p (f (p (p (f (f (p n1 (p n1 n0)))) a) (p (f (p a (p a n0))) n0))) (p (f (p a (p a n0))) (p a (p a b)))) e) 157215636061187161889810140933 (p (f (p (p (f (f (p n1 (p n1 n0)))) a) (p (f (p a (p a n0))) n0))) (p (f (p a (p a (p a (p a n0))))) b)) e) 157215636061187162345796696069 (p (f (p (p (f (f (p n1 (p n1 n0)))) a) (p (f (p a (p a n0))) (p a (p a (p (f (p a (p a n0))) n0)))))) b) (d e 157215636061187162362970623749 (p (f (p (p (f (f (p n1 (p n1 n0)))) a) (p (f (p a (p a n0))) (p (f (p a (p a n0))) (p a (p a n0)))))) b) e))) 157215636061187162362972370949 (p (f (p (p (f (f (p n1 (p n1 n0)))) a) (p (f (p a (p a n0))) (p (f (p a (p a (p a (p a n0))))) n0)))) b) (d (d (d (d e 157215636061203478098158189029 (p (f (p (p (f (f (p n1 (p n1 n0)))) a) (p (p (f (f (p n1 (p n1 n0)))) a) n0))) (p a (p a (p a (p a b))))) e) 157215636061203478099052973829 (p (f (p (p (f (f (p n1 (p n1 n0)))) a) (p (p (f (f (p n1 (p n1 n0)))) a) (p a (p a (p a (p a n0))))))) b) e) 158280393630631145384070410789 (p (p (f (f (p n1 (p n1 n0)))) a) (p a (p a (p (f (p a (p a n0))) (p (p (f (f (p n1 (p n1 n0)))) a) b))))) (d e 158280393630631145444066431237 (p (p (f (f (p n1 (p n1 n0)))) a) (p a (p a (p (f (p a (p a (p (p (f (f (p n1 (p n1 n0)))) a) n0)))) b)))) e)) 158280393630631154236149102597 (p (p (f (f (p n1 (p n1 n0)))) a) (p a (p a (p (f (p (f (p a (p a n0))) (p (f (p a (p a n0))) n0))) b)))) (d (d e 158280393630631158219483107077 (p (p (f (f (p n1 (p n1 n0)))) a) (p a (p a (p (f (p (p (f (f (p n1 (p n1 n0)))) a) (p a (p a n0)))) b)))) e) 158280393630631400317325659909 (p (p (f (f (p n1 (p n1 n0)))) a) (p a (p a (p (p (f (f (p n1 (p n1 n0)))) a) (p (f (p a (p a n0))) b))))) (d e 158280393632936190938116321829 (p (p (f (f (p n1 (p n1 n0)))) a) (p (f (p a (p a n0))) (p a (p a (p (p (f (f (p n1 (p n1 n0)))) a) b))))) e)))) 158280393632936192037126655749 (p (p (f (f (p n1 (p n1 n0)))) a) (p (f (p a (p a n0))) (p (f (p a (p a n0))) (p (f (p a (p a n0))) b)))) (d (d (d (d (d e 158280393632936192037242173445 (p (p (f (f (p n1 (p n1 n0)))) a) (p (f (p a (p a n0))) (p (f (p a (p a (p (f (p a (p a n0))) n0)))) b))) e) 158280393632936192054416101125 (p (p (f (f (p n1 (p n1 n0)))) a) (p (f (p a (p a n0))) (p (f (p (f (p a (p a n0))) (p a (p a n0)))) b))) e) 158280393632936192535043406309 (p (p (f (f (p n1 (p n1 n0)))) a) (p (f (p a (p a n0))) (p (p (f (f (p n1 (p n1 n0)))) a) (p a (p a b))))) (d e 158280393633980399146397060869 (p (p (f (f (p n1 (p n1 n0)))) a) (p (p (f (f (p n1 (p n1 n0)))) a) (p a (p a (p (f (p a (p a n0))) b))))) e)) 158280393633980399148543801829 (p (p (f (f (p n1 (p n1 n0)))) a) (p (p (f (f (p n1 (p n1 n0)))) a) (p (f (p a (p a n0))) (p a (p a b))))) (d (d (d e 158280393633980399148544020229 (p (p (f (f (p n1 (p n1 n0)))) a) (p (p (f (f (p n1 (p n1 n0)))) a) (p (f (p a (p a (p a (p a n0))))) b))) e) 158280393781554351739192709381 (p (p (f (f (p n1 (p n1 n0)))) (f (p (p (f (f (p n1 (p n1 n0)))) a) (p (p (f (f (p n1 (p n1 n0)))) a) n0)))) b) e) 158280397537917015014489489957 (p (p (f (f (p n1 (p n1 (p n1 (p n1 (p (f (p n2 (p n2 n0))) (p (p (f (f (p n1 (p n1 n0)))) n1) n0)))))))) a) b) (d e 158280397537917018854234791973 (p (p (f (f (p n1 (p n1 (p n1 (p n1 (p (f (p n2 (p n2 (p (p (f (f (p n1 (p n1 n0)))) n2) n0)))) n0))))))) a) b) e))) 158280397537918148826804092965 (p (p (f (f (p n1 (p n1 (p n1 (p n1 (p (f (p (f (p n3 (p n3 n0))) (p (f (p n3 (p n3 n0))) n0))) n0))))))) a) b) (d (d (d (d e 158280397537918408226914410533 (p (p (f (f (p n1 (p n1 (p n1 (p n1 (p (f (p (p (f (f (p n1 (p n1 n0)))) n2) (p n2 (p n2 n0)))) n0))))))) a) b) e) 158280397537933902485650120741 (p (p (f (f (p n1 (p n1 (p n1 (p n1 (p (p (f (f (p n1 (p n1 n0)))) n1) (p (f (p n2 (p n2 n0))) n0)))))))) a) b) e) 158280397907918216609193034277 (p (p (f (f (p n1 (p n1 (p (f (p n2 (p n2 n0))) (p n1 (p n1 (p (p (f (f (p n1 (p n1 n0)))) n1) n0)))))))) a) b) (d e 158280397907918393031546085413 (p (p (f (f (p n1 (p n1 (p (f (p n2 (p n2 n0))) (p (f (p n2 (p n2 n0))) (p (f (p n2 (p n2 n0))) n0))))))) a) b) e)) 158280397907918393038937620517 (p (p (f (f (p n1 (p n1 (p (f (p n2 (p n2 n0))) (p (f (p n2 (p n2 (p (f (p n3 (p n3 n0))) n0)))) n0)))))) a) b) (d (d e 158280397907918395246037934117 (p (p (f (f (p n1 (p n1 (p (f (p n2 (p n2 n0))) (p (f (p (f (p n3 (p n3 n0))) (p n2 (p n2 n0)))) n0)))))) a) b) e) 158280397907918426014903759397 (p (p (f (f (p n1 (p n1 (p (f (p n2 (p n2 n0))) (p (p (f (f (p n1 (p n1 n0)))) n1) (p n1 (p n1 n0)))))))) a) b) (d e 158280397977089507544256978981 (p (p (f (f (p n1 (p n1 (p (p (f (f (p n1 (p n1 n0)))) n1) (p n1 (p n1 (p (f (p n2 (p n2 n0))) n0)))))))) a) b) e)))))
noncomputable def q11 : NT := (d (d (d (d (d (d e 158280397977089507888860995621 (p (p (f (f (p n1 (p n1 (p (p (f (f (p n1 (p n1 n0)))) n1) (p (f (p n2 (p n2 (p n2 (p n2 n0))))) n0)))))) a) b) e) 158281913432839948514910568997 (p (p (f (f (p (f (p n2 (p n2 n0))) (p n1 (p n1 (p n1 (p n1 (p (p (f (f (p n1 (p n1 n0)))) n1) n0)))))))) a) b) e) 158281913432840124937263620133 (p (p (f (f (p (f (p n2 (p n2 n0))) (p n1 (p n1 (p (f (p n2 (p n2 n0))) (p (f (p n2 (p n2 n0))) n0))))))) a) b) (d e 158281913432840124944655155237 (p (p (f (f (p (f (p n2 (p n2 n0))) (p n1 (p n1 (p (f (p n2 (p n2 (p (f (p n3 (p n3 n0))) n0)))) n0)))))) a) b) e)) 158281913432840127151755468837 (p (p (f (f (p (f (p n2 (p n2 n0))) (p n1 (p n1 (p (f (p (f (p n3 (p n3 n0))) (p n2 (p n2 n0)))) n0)))))) a) b) (d (d (d e 158281913432840157920621294117 (p (p (f (f (p (f (p n2 (p n2 n0))) (p n1 (p n1 (p (p (f (f (p n1 (p n1 n0)))) n1) (p n1 (p n1 n0)))))))) a) b) e) 158281913433562783534128275493 (p (p (f (f (p (f (p n2 (p n2 n0))) (p (f (p n2 (p n2 n0))) (p n1 (p n1 (p (f (p n2 (p n2 n0))) n0))))))) a) b) e) 158281913433562783878718747173 (p (p (f (f (p (f (p n2 (p n2 n0))) (p (f (p n2 (p n2 n0))) (p (f (p n2 (p n2 n0))) (p n1 (p n1 n0))))))) a) b) (d e 158281913433562783878732292133 (p (p (f (f (p (f (p n2 (p n2 n0))) (p (f (p n2 (p n2 n0))) (p (f (p n2 (p n2 (p n2 (p n2 n0))))) n0))))) a) b) e))) 158281913433697883711751385637 (p (p (f (f (p (f (p n2 (p n2 n0))) (p (p (f (f (p n1 (p n1 n0)))) n1) (p n1 (p n1 (p n1 (p n1 n0)))))))) a) b) (d (d (d (d e 158281913492411312585953804837 (p (p (f (f (p (f (p n2 (p n2 (p n2 (p n2 n0))))) (p n1 (p n1 (p (p (f (f (p n1 (p n1 n0)))) n1) n0)))))) a) b) e) 158281913492411489008306855973 (p (p (f (f (p (f (p n2 (p n2 (p n2 (p n2 n0))))) (p (f (p n2 (p n2 n0))) (p (f (p n2 (p n2 n0))) n0))))) a) b) e) 158281913492411489015698391077 (p (p (f (f (p (f (p n2 (p n2 (p n2 (p n2 n0))))) (p (f (p n2 (p n2 (p (f (p n3 (p n3 n0))) n0)))) n0)))) a) b) (d e 158281913492411491222798704677 (p (p (f (f (p (f (p n2 (p n2 (p n2 (p n2 n0))))) (p (f (p (f (p n3 (p n3 n0))) (p n2 (p n2 n0)))) n0)))) a) b) e)) 158281913492411521991664529957 (p (p (f (f (p (f (p n2 (p n2 (p n2 (p n2 n0))))) (p (p (f (f (p n1 (p n1 n0)))) n1) (p n1 (p n1 n0)))))) a) b) (d (d e 158281913497055586611960193061 (p (p (f (f (p (f (p n2 (p n2 (p (f (p n3 (p n3 n0))) n0)))) (p n1 (p n1 (p (f (p n2 (p n2 n0))) n0)))))) a) b) e) 158281913497055586956550664741 (p (p (f (f (p (f (p n2 (p n2 (p (f (p n3 (p n3 n0))) n0)))) (p (f (p n2 (p n2 n0))) (p n1 (p n1 n0)))))) a) b) (d e 158281913497055586956564209701 (p (p (f (f (p (f (p n2 (p n2 (p (f (p n3 (p n3 n0))) n0)))) (p (f (p n2 (p n2 (p n2 (p n2 n0))))) n0)))) a) b) e)))) 158281913498118120028659053093 (p (p (f (f (p (f (p n2 (p n2 (p (p (f (f (p n1 (p n1 n0)))) n2) n0)))) (p n1 (p n1 (p n1 (p n1 n0))))))) a) b) (d (d (d (d (d e 158281932455902918418648244261 (p (p (f (f (p (f (p (f (p n3 (p n3 n0))) (p n2 (p n2 n0)))) (p n1 (p n1 (p (f (p n2 (p n2 n0))) n0)))))) a) b) e) 158281932455902918763238715941 (p (p (f (f (p (f (p (f (p n3 (p n3 n0))) (p n2 (p n2 n0)))) (p (f (p n2 (p n2 n0))) (p n1 (p n1 n0)))))) a) b) e) 158281932455902918763252260901 (p (p (f (f (p (f (p (f (p n3 (p n3 n0))) (p n2 (p n2 n0)))) (p (f (p n2 (p n2 (p n2 (p n2 n0))))) n0)))) a) b) (d e 158281932455911989266370851365 (p (p (f (f (p (f (p (f (p n3 (p n3 n0))) (p (f (p n3 (p n3 n0))) n0))) (p n1 (p n1 (p n1 (p n1 n0))))))) a) b) e)) 158281936807923670488037782053 (p (p (f (f (p (f (p (p (f (f (p n1 (p n1 n0)))) n2) (p n2 (p n2 n0)))) (p n1 (p n1 (p n1 (p n1 n0))))))) a) b) (d (d (d e 158282196758447827597948330021 (p (p (f (f (p (p (f (f (p n1 (p n1 n0)))) n1) (p n1 (p n1 (p n1 (p n1 (p (f (p n2 (p n2 n0))) n0)))))))) a) b) e) 158282196758447827942538801701 (p (p (f (f (p (p (f (f (p n1 (p n1 n0)))) n1) (p n1 (p n1 (p (f (p n2 (p n2 n0))) (p n1 (p n1 n0)))))))) a) b) e) 158282196758447827942552346661 (p (p (f (f (p (p (f (f (p n1 (p n1 n0)))) n1) (p n1 (p n1 (p (f (p n2 (p n2 (p n2 (p n2 n0))))) n0)))))) a) b) (d e 158282196758449239385110802981 (p (p (f (f (p (p (f (f (p n1 (p n1 n0)))) n1) (p (f (p n2 (p n2 n0))) (p n1 (p n1 (p n1 (p n1 n0)))))))) a) b) e))) 158298833597867141374454563365 (p (p (f (p (f (f (p n1 (p n1 n0)))) (f (p (f (p n2 (p n2 n0))) (p (p (f (f (p n1 (p n1 n0)))) n1) n0))))) a) b) (d (d (d (d e 158298833597884028845615194149 (p (p (f (p (f (f (p n1 (p n1 n0)))) (f (p (p (f (f (p n1 (p n1 n0)))) n1) (p (f (p n2 (p n2 n0))) n0))))) a) b) e) 1237475468154643280194785047077 (p a (p a (p (p (f (f (p n1 (p n1 n0)))) a) (p (p (f (f (p n1 (p n1 n0)))) (p (f (f (p n1 (p n1 n0)))) a)) b)))) e) 1257273478275917025716849144357 (p (f (p a (p a n0))) (p (f (p a (p a n0))) (p (p (f (f (p n1 (p n1 n0)))) (p (f (f (p n1 (p n1 n0)))) a)) b))) (d e 1257273482552987318597417946885 (p (f (p a (p a n0))) (p (p (f (f (p n1 (p n1 n0)))) a) (p (p (f (f (p n1 (p n1 n0)))) (f (p a (p a n0)))) b))) e)) 1257275559257727666909794333221 (p (f (p a (p a (p (f (p a (p a n0))) n0)))) (p (p (f (f (p n1 (p n1 n0)))) (p (f (f (p n1 (p n1 n0)))) a)) b)) (d (d e 1257275559258734233107615420677 (p (f (p a (p a (p (f (p a (p a n0))) (p (p (f (f (p n1 (p n1 n0)))) (p (f (f (p n1 (p n1 n0)))) a)) n0))))) b) e) 1257275593475294610202562383621 (p (f (p a (p a (p (p (f (f (p n1 (p n1 n0)))) a) n0)))) (p (p (f (f (p n1 (p n1 n0)))) (f (p a (p a n0)))) b)) (d e 1257275593475296576152165840901 (p (f (p a (p a (p (p (f (f (p n1 (p n1 n0)))) a) (p (p (f (f (p n1 (p n1 n0)))) (f (p a (p a n0)))) n0))))) b) e)))))
noncomputable def q12 : NT := (d (d (d (d (d (d e 1257584937235934776495094337797 (p (f (p (f (p a (p a n0))) (p a (p a (p (p (f (f (p n1 (p n1 n0)))) (p (f (f (p n1 (p n1 n0)))) a)) n0))))) b) e) 1257584937383439512476344635141 (p (f (p (f (p a (p a n0))) (p (f (p a (p a n0))) n0))) (p (p (f (f (p n1 (p n1 n0)))) (f (p a (p a n0)))) b)) e) 1257584937383441478425948092421 (p (f (p (f (p a (p a n0))) (p (f (p a (p a n0))) (p (p (f (f (p n1 (p n1 n0)))) (f (p a (p a n0)))) n0)))) b) (d e 1257584968710691852262016782597 (p (f (p (f (p a (p a (p a (p a n0))))) (p (p (f (f (p n1 (p n1 n0)))) (p (f (f (p n1 (p n1 n0)))) a)) n0))) b) e)) 1257584969898782269694587860997 (p (f (p (f (p a (p a (p (f (p a (p a n0))) n0)))) (p (p (f (f (p n1 (p n1 n0)))) (f (p a (p a n0)))) n0))) b) (d (d (d e 1257589803929676028185017219077 (p (f (p (f (p (f (p a (p a n0))) (p a (p a n0)))) (p (p (f (f (p n1 (p n1 n0)))) (f (p a (p a n0)))) n0))) b) e) 1257725088489207233989190602501 (p (f (p (p (f (f (p n1 (p n1 n0)))) a) (p a (p a n0)))) (p (p (f (f (p n1 (p n1 n0)))) (f (p a (p a n0)))) b)) e) 1257725088489209199938794059781 (p (f (p (p (f (f (p n1 (p n1 n0)))) a) (p a (p a (p (p (f (f (p n1 (p n1 n0)))) (f (p a (p a n0)))) n0))))) b) (d e 1257725088507653965287482953989 (p (f (p (p (f (f (p n1 (p n1 n0)))) (f (p a (p a n0)))) (p a (p a (p (p (f (f (p n1 (p n1 n0)))) a) n0))))) b) e))) 1257725088507653974079565625349 (p (f (p (p (f (f (p n1 (p n1 n0)))) (f (p a (p a n0)))) (p (f (p a (p a n0))) (p (f (p a (p a n0))) n0)))) b) (d (d (d (d e 1257725088507653974080489766917 (p (f (p (p (f (f (p n1 (p n1 n0)))) (f (p a (p a n0)))) (p (f (p a (p a (p (f (p a (p a n0))) n0)))) n0))) b) e) 1257725088507653974217881188357 (p (f (p (p (f (f (p n1 (p n1 n0)))) (f (p a (p a n0)))) (p (f (p (f (p a (p a n0))) (p a (p a n0)))) n0))) b) e) 1257725088507653978062899629829 (p (f (p (p (f (f (p n1 (p n1 n0)))) (f (p a (p a n0)))) (p (p (f (f (p n1 (p n1 n0)))) a) (p a (p a n0))))) b) (d e 1257725088516007630953728866309 (p (f (p (p (f (f (p n1 (p n1 n0)))) (p (f (f (p n1 (p n1 n0)))) a)) (p a (p a (p (f (p a (p a n0))) n0))))) b) e)) 1257725088516007630970902793989 (p (f (p (p (f (f (p n1 (p n1 n0)))) (p (f (f (p n1 (p n1 n0)))) a)) (p (f (p a (p a n0))) (p a (p a n0))))) b) (d (d (d e 1257725088516007630970904541189 (p (f (p (p (f (f (p n1 (p n1 n0)))) (p (f (f (p n1 (p n1 n0)))) a)) (p (f (p a (p a (p a (p a n0))))) n0))) b) e) 1266243149045051202538991055397 (p (p (f (f (p n1 (p n1 n0)))) a) (p a (p a (p (p (f (f (p n1 (p n1 n0)))) (p (f (f (p n1 (p n1 n0)))) a)) b)))) e) 1266243149063489540280347774725 (p (p (f (f (p n1 (p n1 n0)))) a) (p (f (p a (p a n0))) (p (p (f (f (p n1 (p n1 n0)))) (f (p a (p a n0)))) b))) (d e 1266243150225516747548371251749 (p (p (f (f (p n1 (p n1 n0)))) (f (p a (p a n0)))) (p (f (p a (p a n0))) (p (p (f (f (p n1 (p n1 n0)))) a) b))) e)))) 1266243150225516747608367272197 (p (p (f (f (p n1 (p n1 n0)))) (f (p a (p a n0)))) (p (f (p a (p a (p (p (f (f (p n1 (p n1 n0)))) a) n0)))) b)) (d (d (d (d (d e 1266243150225516756400449943557 (p (p (f (f (p n1 (p n1 n0)))) (f (p a (p a n0)))) (p (f (p (f (p a (p a n0))) (p (f (p a (p a n0))) n0))) b)) e) 1266243150225516760383783948037 (p (p (f (f (p n1 (p n1 n0)))) (f (p a (p a n0)))) (p (f (p (p (f (f (p n1 (p n1 n0)))) a) (p a (p a n0)))) b)) e) 1266243150225517002481626500869 (p (p (f (f (p n1 (p n1 n0)))) (f (p a (p a n0)))) (p (p (f (f (p n1 (p n1 n0)))) a) (p (f (p a (p a n0))) b))) (d e 1266243150760150787494818673189 (p (p (f (f (p n1 (p n1 n0)))) (p (f (f (p n1 (p n1 n0)))) a)) (p a (p a (p (p (f (f (p n1 (p n1 n0)))) a) b)))) e)) 1266243150760150788593829007109 (p (p (f (f (p n1 (p n1 n0)))) (p (f (f (p n1 (p n1 n0)))) a)) (p (f (p a (p a n0))) (p (f (p a (p a n0))) b))) (d (d (d e 1266243150760150788593944524805 (p (p (f (f (p n1 (p n1 n0)))) (p (f (f (p n1 (p n1 n0)))) a)) (p (f (p a (p a (p (f (p a (p a n0))) n0)))) b)) e) 1266243150760150788611118452485 (p (p (f (f (p n1 (p n1 n0)))) (p (f (f (p n1 (p n1 n0)))) a)) (p (f (p (f (p a (p a n0))) (p a (p a n0)))) b)) e) 1266243150760150789091745757669 (p (p (f (f (p n1 (p n1 n0)))) (p (f (f (p n1 (p n1 n0)))) a)) (p (p (f (f (p n1 (p n1 n0)))) a) (p a (p a b)))) (d e 1266243180303471219935664701989 (p (p (f (f (p n1 (p n1 (p n1 (p n1 (p (p (f (f (p n1 (p n1 n0)))) (p (f (f (p n1 (p n1 n0)))) n1)) n0))))))) a) b) e))) 1266243183263347408119314227237 (p (p (f (f (p n1 (p n1 (p (f (p n2 (p n2 n0))) (p (p (f (f (p n1 (p n1 n0)))) (f (p n2 (p n2 n0)))) n0)))))) a) b) (d (d (d (d e 1266255307462721263365054504997 (p (p (f (f (p (f (p n2 (p n2 n0))) (p n1 (p n1 (p (p (f (f (p n1 (p n1 n0)))) (f (p n2 (p n2 n0)))) n0)))))) a) b) e) 1266255307939292175933400391717 (p (p (f (f (p (f (p n2 (p n2 (p n2 (p n2 n0))))) (p (p (f (f (p n1 (p n1 n0)))) (f (p n2 (p n2 n0)))) n0)))) a) b) e) 1266257574068305455853268082725 (p (p (f (f (p (p (f (f (p n1 (p n1 n0)))) (f (p n2 (p n2 n0)))) (p n1 (p n1 (p (f (p n2 (p n2 n0))) n0)))))) a) b) (d e 1266257574068305456197858554405 (p (p (f (f (p (p (f (f (p n1 (p n1 n0)))) (f (p n2 (p n2 n0)))) (p (f (p n2 (p n2 n0))) (p n1 (p n1 n0)))))) a) b) e)) 1266257574068305456197872099365 (p (p (f (f (p (p (f (f (p n1 (p n1 n0)))) (f (p n2 (p n2 n0)))) (p (f (p n2 (p n2 (p n2 (p n2 n0))))) n0)))) a) b) (d (d e 1266257574068440556030891192869 (p (p (f (f (p (p (f (f (p n1 (p n1 n0)))) (p (f (f (p n1 (p n1 n0)))) n1)) (p n1 (p n1 (p n1 (p n1 n0))))))) a) b) e) 10061800708061231824503201232901 (p (f (p (p (f (f (p n1 (p n1 n0)))) (f (p a (p a n0)))) (p (p (f (f (p n1 (p n1 n0)))) (f (p a (p a n0)))) n0))) b) (d e 10129945201804136019853397783077 (p (p (f (f (p n1 (p n1 n0)))) (f (p a (p a n0)))) (p (p (f (f (p n1 (p n1 n0)))) (p (f (f (p n1 (p n1 n0)))) a)) b)) e)))))
noncomputable def q13 : NT := (d (d (d (d (d (d e 79198289810794348312503794503941 (p a (p a (p (f (p a (p a n0))) (p (f (p (p (f (f (p n1 (p n1 n0)))) a) (p (p (f (f (p n1 (p n1 n0)))) a) n0))) b)))) e) 79198429961897043938880128520453 (p a (p a (p (p (f (f (p n1 (p n1 n0)))) a) (p (f (p (f (p a (p a n0))) (p (p (f (f (p n1 (p n1 n0)))) a) n0))) b)))) e) 79198429961897045978346170513413 (p a (p a (p (p (f (f (p n1 (p n1 n0)))) a) (p (f (p (p (f (f (p n1 (p n1 n0)))) a) (p (f (p a (p a n0))) n0))) b)))) (d e 79198429961897169932441674904101 (p a (p a (p (p (f (f (p n1 (p n1 n0)))) a) (p (p (f (f (p n1 (p n1 n0)))) a) (p (p (f (f (p n1 (p n1 n0)))) a) b))))) e)) 80465502005407774027617439027461 (p (f (p a (p a n0))) (p a (p a (p (f (p (p (f (f (p n1 (p n1 n0)))) a) (p (p (f (f (p n1 (p n1 n0)))) a) n0))) b)))) (d (d (d e 80465502609658563652292230746373 (p (f (p a (p a n0))) (p (f (p a (p a n0))) (p (f (p (f (p a (p a n0))) (p (p (f (f (p n1 (p n1 n0)))) a) n0))) b))) e) 80465502609658565691758272739333 (p (f (p a (p a n0))) (p (f (p a (p a n0))) (p (f (p (p (f (f (p n1 (p n1 n0)))) a) (p (f (p a (p a n0))) n0))) b))) e) 80465502609658689645853777130021 (p (f (p a (p a n0))) (p (f (p a (p a n0))) (p (p (f (f (p n1 (p n1 n0)))) a) (p (p (f (f (p n1 (p n1 n0)))) a) b)))) (d e 80465502883391188135301460324901 (p (f (p a (p a n0))) (p (p (f (f (p n1 (p n1 n0)))) a) (p (f (p a (p a n0))) (p (p (f (f (p n1 (p n1 n0)))) a) b)))) e))) 80465502883391188135361456345349 (p (f (p a (p a n0))) (p (p (f (f (p n1 (p n1 n0)))) a) (p (f (p a (p a (p (p (f (f (p n1 (p n1 n0)))) a) n0)))) b))) (d (d (d (d e 80465502883391188144153539016709 (p (f (p a (p a n0))) (p (p (f (f (p n1 (p n1 n0)))) a) (p (f (p (f (p a (p a n0))) (p (f (p a (p a n0))) n0))) b))) e) 80465502883391188148136873021189 (p (f (p a (p a n0))) (p (p (f (f (p n1 (p n1 n0)))) a) (p (f (p (p (f (f (p n1 (p n1 n0)))) a) (p a (p a n0)))) b))) e) 80465502883391188390234715574021 (p (f (p a (p a n0))) (p (p (f (f (p n1 (p n1 n0)))) a) (p (p (f (f (p n1 (p n1 n0)))) a) (p (f (p a (p a n0))) b)))) (d e 80465630926012756368931772928261 (p (f (p a (p a (p a (p a n0))))) (p (f (p (p (f (f (p n1 (p n1 n0)))) a) (p (p (f (f (p n1 (p n1 n0)))) a) n0))) b)) e)) 80465630958551665972800137234437 (p (f (p a (p a (p a (p a (p (f (p (p (f (f (p n1 (p n1 n0)))) a) (p (p (f (f (p n1 (p n1 n0)))) a) n0))) n0)))))) b) (d (d e 80465635792494444688640722833669 (p (f (p a (p a (p (f (p a (p a n0))) n0)))) (p (f (p (f (p a (p a n0))) (p (p (f (f (p n1 (p n1 n0)))) a) n0))) b)) e) 80465635792494446728106764826629 (p (f (p a (p a (p (f (p a (p a n0))) n0)))) (p (f (p (p (f (f (p n1 (p n1 n0)))) a) (p (f (p a (p a n0))) n0))) b)) (d e 80465635792494570682202269217317 (p (f (p a (p a (p (f (p a (p a n0))) n0)))) (p (p (f (f (p n1 (p n1 n0)))) a) (p (p (f (f (p n1 (p n1 n0)))) a) b))) e)))) 80465635792557982970198470985733 (p (f (p a (p a (p (f (p a (p a n0))) (p (f (p (f (p a (p a n0))) (p (p (f (f (p n1 (p n1 n0)))) a) n0))) n0))))) b) (d (d (d (d (d e 80465635792557999285926806929413 (p (f (p a (p a (p (f (p a (p a n0))) (p (f (p (p (f (f (p n1 (p n1 n0)))) a) (p (f (p a (p a n0))) n0))) n0))))) b) e) 80465635792558990918690842054917 (p (f (p a (p a (p (f (p a (p a n0))) (p (p (f (f (p n1 (p n1 n0)))) a) (p (p (f (f (p n1 (p n1 n0)))) a) n0)))))) b) e) 80465637982418854798030704276005 (p (f (p a (p a (p (p (f (f (p n1 (p n1 n0)))) a) n0)))) (p (f (p a (p a n0))) (p (p (f (f (p n1 (p n1 n0)))) a) b))) (d e 80465637982418854798090700296453 (p (f (p a (p a (p (p (f (f (p n1 (p n1 n0)))) a) n0)))) (p (f (p a (p a (p (p (f (f (p n1 (p n1 n0)))) a) n0)))) b)) e)) 80465637982418854806882782967813 (p (f (p a (p a (p (p (f (f (p n1 (p n1 n0)))) a) n0)))) (p (f (p (f (p a (p a n0))) (p (f (p a (p a n0))) n0))) b)) (d (d (d e 80465637982418854810866116972293 (p (f (p a (p a (p (p (f (f (p n1 (p n1 n0)))) a) n0)))) (p (f (p (p (f (f (p n1 (p n1 n0)))) a) (p a (p a n0)))) b)) e) 80465637982418855052963959525125 (p (f (p a (p a (p (p (f (f (p n1 (p n1 n0)))) a) n0)))) (p (p (f (f (p n1 (p n1 n0)))) a) (p (f (p a (p a n0))) b))) e) 80465637982418978834272307613957 (p (f (p a (p a (p (p (f (f (p n1 (p n1 n0)))) a) (p (f (p a (p a n0))) (p (p (f (f (p n1 (p n1 n0)))) a) n0)))))) b) (d e 80465637982418978834752275777541 (p (f (p a (p a (p (p (f (f (p n1 (p n1 n0)))) a) (p (f (p a (p a (p (p (f (f (p n1 (p n1 n0)))) a) n0)))) n0))))) b) e))) 80465637982418978905088937148421 (p (f (p a (p a (p (p (f (f (p n1 (p n1 n0)))) a) (p (f (p (f (p a (p a n0))) (p (f (p a (p a n0))) n0))) n0))))) b) (d (d (d (d e 80465637982418978936955609184261 (p (f (p a (p a (p (p (f (f (p n1 (p n1 n0)))) a) (p (f (p (p (f (f (p n1 (p n1 n0)))) a) (p a (p a n0)))) n0))))) b) e) 80465637982418980873738349606917 (p (f (p a (p a (p (p (f (f (p n1 (p n1 n0)))) a) (p (p (f (f (p n1 (p n1 n0)))) a) (p (f (p a (p a n0))) n0)))))) b) e) 80485435983035279465439373529349 (p (f (p (f (p a (p a n0))) (p a (p a n0)))) (p (f (p (f (p a (p a n0))) (p (p (f (f (p n1 (p n1 n0)))) a) n0))) b)) (d e 80485435983035281504905415522309 (p (f (p (f (p a (p a n0))) (p a (p a n0)))) (p (f (p (p (f (f (p n1 (p n1 n0)))) a) (p (f (p a (p a n0))) n0))) b)) e)) 80485435983035405459000919912997 (p (f (p (f (p a (p a n0))) (p a (p a n0)))) (p (p (f (f (p n1 (p n1 n0)))) a) (p (p (f (f (p n1 (p n1 n0)))) a) b))) (d (d e 80485435983098817746997121681413 (p (f (p (f (p a (p a n0))) (p a (p a (p (f (p (f (p a (p a n0))) (p (p (f (f (p n1 (p n1 n0)))) a) n0))) n0))))) b) e) 80485435983098834062725457625093 (p (f (p (f (p a (p a n0))) (p a (p a (p (f (p (p (f (f (p n1 (p n1 n0)))) a) (p (f (p a (p a n0))) n0))) n0))))) b) (d e 80485435983099825695489492750597 (p (f (p (f (p a (p a n0))) (p a (p a (p (p (f (f (p n1 (p n1 n0)))) a) (p (p (f (f (p n1 (p n1 n0)))) a) n0)))))) b) e)))))
noncomputable def q14 : NT := (d (d (d (d (d (d e 80485435992540128543612764393733 (p (f (p (f (p a (p a n0))) (p (f (p a (p a n0))) n0))) (p (f (p a (p a (p (p (f (f (p n1 (p n1 n0)))) a) n0)))) b)) e) 80485435992540128552404847065093 (p (f (p (f (p a (p a n0))) (p (f (p a (p a n0))) n0))) (p (f (p (f (p a (p a n0))) (p (f (p a (p a n0))) n0))) b)) e) 80485435992540128556388181069573 (p (f (p (f (p a (p a n0))) (p (f (p a (p a n0))) n0))) (p (f (p (p (f (f (p n1 (p n1 n0)))) a) (p a (p a n0)))) b)) (d e 80485435992540128798486023622405 (p (f (p (f (p a (p a n0))) (p (f (p a (p a n0))) n0))) (p (p (f (f (p n1 (p n1 n0)))) a) (p (f (p a (p a n0))) b))) e)) 80485435992540252579794371711237 (p (f (p (f (p a (p a n0))) (p (f (p a (p a n0))) (p (f (p a (p a n0))) (p (p (f (f (p n1 (p n1 n0)))) a) n0))))) b) (d (d (d e 80485435992540252580274339874821 (p (f (p (f (p a (p a n0))) (p (f (p a (p a n0))) (p (f (p a (p a (p (p (f (f (p n1 (p n1 n0)))) a) n0)))) n0)))) b) e) 80485435992540252650611001245701 (p (f (p (f (p a (p a n0))) (p (f (p a (p a n0))) (p (f (p (f (p a (p a n0))) (p (f (p a (p a n0))) n0))) n0)))) b) e) 80485435992540252682477673281541 (p (f (p (f (p a (p a n0))) (p (f (p a (p a n0))) (p (f (p (p (f (f (p n1 (p n1 n0)))) a) (p a (p a n0)))) n0)))) b) (d e 80485435992540254619260413704197 (p (f (p (f (p a (p a n0))) (p (f (p a (p a n0))) (p (p (f (f (p n1 (p n1 n0)))) a) (p (f (p a (p a n0))) n0))))) b) e))) 80485435996817324664800740700709 (p (f (p (f (p a (p a n0))) (p (p (f (f (p n1 (p n1 n0)))) a) n0))) (p a (p a (p (p (f (f (p n1 (p n1 n0)))) a) b)))) (d (d (d (d e 80485435996817324665899751034629 (p (f (p (f (p a (p a n0))) (p (p (f (f (p n1 (p n1 n0)))) a) n0))) (p (f (p a (p a n0))) (p (f (p a (p a n0))) b))) e) 80485435996817324665899866552325 (p (f (p (f (p a (p a n0))) (p (p (f (f (p n1 (p n1 n0)))) a) n0))) (p (f (p a (p a (p (f (p a (p a n0))) n0)))) b)) e) 80485435996817324665917040480005 (p (f (p (f (p a (p a n0))) (p (p (f (f (p n1 (p n1 n0)))) a) n0))) (p (f (p (f (p a (p a n0))) (p a (p a n0)))) b)) (d e 80485435996817324666397667785189 (p (f (p (f (p a (p a n0))) (p (p (f (f (p n1 (p n1 n0)))) a) n0))) (p (p (f (f (p n1 (p n1 n0)))) a) (p a (p a b)))) e)) 80485435996817324899365951082757 (p (f (p (f (p a (p a n0))) (p (p (f (f (p n1 (p n1 n0)))) a) (p a (p a (p (p (f (f (p n1 (p n1 n0)))) a) n0)))))) b) (d (d e 80485435996817324908158033754117 (p (f (p (f (p a (p a n0))) (p (p (f (f (p n1 (p n1 n0)))) a) (p (f (p a (p a n0))) (p (f (p a (p a n0))) n0))))) b) e) 80485435996817324908158957895685 (p (f (p (f (p a (p a n0))) (p (p (f (f (p n1 (p n1 n0)))) a) (p (f (p a (p a (p (f (p a (p a n0))) n0)))) n0)))) b) (d e 80485435996817324908296349317125 (p (f (p (f (p a (p a n0))) (p (p (f (f (p n1 (p n1 n0)))) a) (p (f (p (f (p a (p a n0))) (p a (p a n0)))) n0)))) b) e)))) 80485435996817324912141367758597 (p (f (p (f (p a (p a n0))) (p (p (f (f (p n1 (p n1 n0)))) a) (p (p (f (f (p n1 (p n1 n0)))) a) (p a (p a n0)))))) b) (d (d (d (d (d e 80485437997483270596080158148613 (p (f (p (f (p a (p a (p a (p a n0))))) (p (f (p (f (p a (p a n0))) (p (p (f (f (p n1 (p n1 n0)))) a) n0))) n0))) b) e) 80485437997483286911808494092293 (p (f (p (f (p a (p a (p a (p a n0))))) (p (f (p (p (f (f (p n1 (p n1 n0)))) a) (p (f (p a (p a n0))) n0))) n0))) b) e) 80485437997484278544572529217797 (p (f (p (f (p a (p a (p a (p a n0))))) (p (p (f (f (p n1 (p n1 n0)))) a) (p (p (f (f (p n1 (p n1 n0)))) a) n0)))) b) (d e 80485438073522063220987316900101 (p (f (p (f (p a (p a (p (f (p a (p a n0))) n0)))) (p (f (p a (p a n0))) (p (p (f (f (p n1 (p n1 n0)))) a) n0)))) b) e)) 80485438073522063221467285063685 (p (f (p (f (p a (p a (p (f (p a (p a n0))) n0)))) (p (f (p a (p a (p (p (f (f (p n1 (p n1 n0)))) a) n0)))) n0))) b) (d (d (d e 80485438073522063291803946434565 (p (f (p (f (p a (p a (p (f (p a (p a n0))) n0)))) (p (f (p (f (p a (p a n0))) (p (f (p a (p a n0))) n0))) n0))) b) e) 80485438073522063323670618470405 (p (f (p (f (p a (p a (p (f (p a (p a n0))) n0)))) (p (f (p (p (f (f (p n1 (p n1 n0)))) a) (p a (p a n0)))) n0))) b) e) 80485438073522065260453358893061 (p (f (p (f (p a (p a (p (f (p a (p a n0))) n0)))) (p (p (f (f (p n1 (p n1 n0)))) a) (p (f (p a (p a n0))) n0)))) b) (d e 80485438107739632190971095519493 (p (f (p (f (p a (p a (p (p (f (f (p n1 (p n1 n0)))) a) n0)))) (p a (p a (p (p (f (f (p n1 (p n1 n0)))) a) n0))))) b) e))) 80485438107739632199763178190853 (p (f (p (f (p a (p a (p (p (f (f (p n1 (p n1 n0)))) a) n0)))) (p (f (p a (p a n0))) (p (f (p a (p a n0))) n0)))) b) (d (d (d (d e 80485438107739632199764102332421 (p (f (p (f (p a (p a (p (p (f (f (p n1 (p n1 n0)))) a) n0)))) (p (f (p a (p a (p (f (p a (p a n0))) n0)))) n0))) b) e) 80485438107739632199901493753861 (p (f (p (f (p a (p a (p (p (f (f (p n1 (p n1 n0)))) a) n0)))) (p (f (p (f (p a (p a n0))) (p a (p a n0)))) n0))) b) e) 80485438107739632203746512195333 (p (f (p (f (p a (p a (p (p (f (f (p n1 (p n1 n0)))) a) n0)))) (p (p (f (f (p n1 (p n1 n0)))) a) (p a (p a n0))))) b) (d e 80485747451499263764374795817221 (p (f (p (f (p (f (p a (p a n0))) (p a (p a n0)))) (p (f (p a (p a n0))) (p (p (f (f (p n1 (p n1 n0)))) a) n0)))) b) e)) 80485747451499263764854763980805 (p (f (p (f (p (f (p a (p a n0))) (p a (p a n0)))) (p (f (p a (p a (p (p (f (f (p n1 (p n1 n0)))) a) n0)))) n0))) b) (d (d e 80485747451499263835191425351685 (p (f (p (f (p (f (p a (p a n0))) (p a (p a n0)))) (p (f (p (f (p a (p a n0))) (p (f (p a (p a n0))) n0))) n0))) b) e) 80485747451499263867058097387525 (p (f (p (f (p (f (p a (p a n0))) (p a (p a n0)))) (p (f (p (p (f (f (p n1 (p n1 n0)))) a) (p a (p a n0)))) n0))) b) (d e 80485747451499265803840837810181 (p (f (p (f (p (f (p a (p a n0))) (p a (p a n0)))) (p (p (f (f (p n1 (p n1 n0)))) a) (p (f (p a (p a n0))) n0)))) b) e)))))
noncomputable def q15 : NT := (d (d (d (d (d (d e 80485747451647777102036960442373 (p (f (p (f (p (f (p a (p a n0))) (p (f (p a (p a n0))) n0))) (p (f (p a (p a n0))) (p (f (p a (p a n0))) n0)))) b) e) 80485747451647777102037884583941 (p (f (p (f (p (f (p a (p a n0))) (p (f (p a (p a n0))) n0))) (p (f (p a (p a (p (f (p a (p a n0))) n0)))) n0))) b) e) 80485747451647777102175276005381 (p (f (p (f (p (f (p a (p a n0))) (p (f (p a (p a n0))) n0))) (p (f (p (f (p a (p a n0))) (p a (p a n0)))) n0))) b) (d e 80485747451647777106020294446853 (p (f (p (f (p (f (p a (p a n0))) (p (f (p a (p a n0))) n0))) (p (p (f (f (p n1 (p n1 n0)))) a) (p a (p a n0))))) b) e)) 80485747451714608291431460009989 (p (f (p (f (p (f (p a (p a n0))) (p (p (f (f (p n1 (p n1 n0)))) a) n0))) (p a (p a (p (f (p a (p a n0))) n0))))) b) (d (d (d e 80485747451714608291448633937669 (p (f (p (f (p (f (p a (p a n0))) (p (p (f (f (p n1 (p n1 n0)))) a) n0))) (p (f (p a (p a n0))) (p a (p a n0))))) b) e) 80485747451714608291448635684869 (p (f (p (f (p (f (p a (p a n0))) (p (p (f (f (p n1 (p n1 n0)))) a) n0))) (p (f (p a (p a (p a (p a n0))))) n0))) b) e) 80485887602753544814757723738373 (p (f (p (f (p (p (f (f (p n1 (p n1 n0)))) a) (p a (p a n0)))) (p a (p a (p (p (f (f (p n1 (p n1 n0)))) a) n0))))) b) (d e 80485887602753544823549806409733 (p (f (p (f (p (p (f (f (p n1 (p n1 n0)))) a) (p a (p a n0)))) (p (f (p a (p a n0))) (p (f (p a (p a n0))) n0)))) b) e))) 80485887602753544823550730551301 (p (f (p (f (p (p (f (f (p n1 (p n1 n0)))) a) (p a (p a n0)))) (p (f (p a (p a (p (f (p a (p a n0))) n0)))) n0))) b) (d (d (d (d e 80485887602753544823688121972741 (p (f (p (f (p (p (f (f (p n1 (p n1 n0)))) a) (p a (p a n0)))) (p (f (p (f (p a (p a n0))) (p a (p a n0)))) n0))) b) e) 80485887602753544827533140414213 (p (f (p (f (p (p (f (f (p n1 (p n1 n0)))) a) (p a (p a n0)))) (p (p (f (f (p n1 (p n1 n0)))) a) (p a (p a n0))))) b) e) 80485887602753834888645255788549 (p (f (p (f (p (p (f (f (p n1 (p n1 n0)))) a) (p (f (p a (p a n0))) n0))) (p a (p a (p (f (p a (p a n0))) n0))))) b) (d e 80485887602753834888662429716229 (p (f (p (f (p (p (f (f (p n1 (p n1 n0)))) a) (p (f (p a (p a n0))) n0))) (p (f (p a (p a n0))) (p a (p a n0))))) b) e)) 80485887602753834888662431463429 (p (f (p (f (p (p (f (f (p n1 (p n1 n0)))) a) (p (f (p a (p a n0))) n0))) (p (f (p a (p a (p a (p a n0))))) n0))) b) (d (d e 80485887602753965418329215848197 (p (f (p (f (p (p (f (f (p n1 (p n1 n0)))) a) (p (p (f (f (p n1 (p n1 n0)))) a) n0))) (p a (p a (p a (p a n0)))))) b) e) 80494405663309262720374910284325 (p (f (p (p (f (f (p n1 (p n1 n0)))) a) (p a (p a n0)))) (p (f (p a (p a n0))) (p (p (f (f (p n1 (p n1 n0)))) a) b))) (d e 80494405663309262720434906304773 (p (f (p (p (f (f (p n1 (p n1 n0)))) a) (p a (p a n0)))) (p (f (p a (p a (p (p (f (f (p n1 (p n1 n0)))) a) n0)))) b)) e)))) 80494405663309262729226988976133 (p (f (p (p (f (f (p n1 (p n1 n0)))) a) (p a (p a n0)))) (p (f (p (f (p a (p a n0))) (p (f (p a (p a n0))) n0))) b)) (d (d (d (d (d e 80494405663309262733210322980613 (p (f (p (p (f (f (p n1 (p n1 n0)))) a) (p a (p a n0)))) (p (f (p (p (f (f (p n1 (p n1 n0)))) a) (p a (p a n0)))) b)) e) 80494405663309262975308165533445 (p (f (p (p (f (f (p n1 (p n1 n0)))) a) (p a (p a n0)))) (p (p (f (f (p n1 (p n1 n0)))) a) (p (f (p a (p a n0))) b))) e) 80494405663309386756616513622277 (p (f (p (p (f (f (p n1 (p n1 n0)))) a) (p a (p a (p (f (p a (p a n0))) (p (p (f (f (p n1 (p n1 n0)))) a) n0)))))) b) (d e 80494405663309386757096481785861 (p (f (p (p (f (f (p n1 (p n1 n0)))) a) (p a (p a (p (f (p a (p a (p (p (f (f (p n1 (p n1 n0)))) a) n0)))) n0))))) b) e)) 80494405663309386827433143156741 (p (f (p (p (f (f (p n1 (p n1 n0)))) a) (p a (p a (p (f (p (f (p a (p a n0))) (p (f (p a (p a n0))) n0))) n0))))) b) (d (d (d e 80494405663309386859299815192581 (p (f (p (p (f (f (p n1 (p n1 n0)))) a) (p a (p a (p (f (p (p (f (f (p n1 (p n1 n0)))) a) (p a (p a n0)))) n0))))) b) e) 80494405663309388796082555615237 (p (f (p (p (f (f (p n1 (p n1 n0)))) a) (p a (p a (p (p (f (f (p n1 (p n1 n0)))) a) (p (f (p a (p a n0))) n0)))))) b) e) 80494405663327826886483670528549 (p (f (p (p (f (f (p n1 (p n1 n0)))) a) (p (f (p a (p a n0))) n0))) (p a (p a (p (p (f (f (p n1 (p n1 n0)))) a) b)))) (d e 80494405663327826887582680862469 (p (f (p (p (f (f (p n1 (p n1 n0)))) a) (p (f (p a (p a n0))) n0))) (p (f (p a (p a n0))) (p (f (p a (p a n0))) b))) e))) 80494405663327826887582796380165 (p (f (p (p (f (f (p n1 (p n1 n0)))) a) (p (f (p a (p a n0))) n0))) (p (f (p a (p a (p (f (p a (p a n0))) n0)))) b)) (d (d (d (d e 80494405663327826887599970307845 (p (f (p (p (f (f (p n1 (p n1 n0)))) a) (p (f (p a (p a n0))) n0))) (p (f (p (f (p a (p a n0))) (p a (p a n0)))) b)) e) 80494405663327826888080597613029 (p (f (p (p (f (f (p n1 (p n1 n0)))) a) (p (f (p a (p a n0))) n0))) (p (p (f (f (p n1 (p n1 n0)))) a) (p a (p a b)))) e) 80494405663327827121048880910597 (p (f (p (p (f (f (p n1 (p n1 n0)))) a) (p (f (p a (p a n0))) (p a (p a (p (p (f (f (p n1 (p n1 n0)))) a) n0)))))) b) (d e 80494405663327827129840963581957 (p (f (p (p (f (f (p n1 (p n1 n0)))) a) (p (f (p a (p a n0))) (p (f (p a (p a n0))) (p (f (p a (p a n0))) n0))))) b) e)) 80494405663327827129841887723525 (p (f (p (p (f (f (p n1 (p n1 n0)))) a) (p (f (p a (p a n0))) (p (f (p a (p a (p (f (p a (p a n0))) n0)))) n0)))) b) (d (d e 80494405663327827129979279144965 (p (f (p (p (f (f (p n1 (p n1 n0)))) a) (p (f (p a (p a n0))) (p (f (p (f (p a (p a n0))) (p a (p a n0)))) n0)))) b) e) 80494405663327827133824297586437 (p (f (p (p (f (f (p n1 (p n1 n0)))) a) (p (f (p a (p a n0))) (p (p (f (f (p n1 (p n1 n0)))) a) (p a (p a n0)))))) b) (d e 80494405663336180786256993308421 (p (f (p (p (f (f (p n1 (p n1 n0)))) a) (p (p (f (f (p n1 (p n1 n0)))) a) n0))) (p a (p a (p (f (p a (p a n0))) b)))) e)))))
noncomputable def q16 : NT := (d (d (d (d (d (d e 80494405663336180786259140267781 (p (f (p (p (f (f (p n1 (p n1 n0)))) a) (p (p (f (f (p n1 (p n1 n0)))) a) n0))) (p (f (p a (p a (p a (p a n0))))) b)) e) 80494405663336180786715126822917 (p (f (p (p (f (f (p n1 (p n1 n0)))) a) (p (p (f (f (p n1 (p n1 n0)))) a) (p a (p a (p (f (p a (p a n0))) n0)))))) b) e) 80494405663336180786732300750597 (p (f (p (p (f (f (p n1 (p n1 n0)))) a) (p (p (f (f (p n1 (p n1 n0)))) a) (p (f (p a (p a n0))) (p a (p a n0)))))) b) (d e 80494405663336180786732302497797 (p (f (p (p (f (f (p n1 (p n1 n0)))) a) (p (p (f (f (p n1 (p n1 n0)))) a) (p (f (p a (p a (p a (p a n0))))) n0)))) b) e)) 81039561538883150968909313052933 (p (p (f (f (p n1 (p n1 n0)))) a) (p a (p a (p (f (p (f (p a (p a n0))) (p (p (f (f (p n1 (p n1 n0)))) a) n0))) b)))) (d (d (d e 81039561538883153008375355045893 (p (p (f (f (p n1 (p n1 n0)))) a) (p a (p a (p (f (p (p (f (f (p n1 (p n1 n0)))) a) (p (f (p a (p a n0))) n0))) b)))) e) 81039561538883276962470859436581 (p (p (f (f (p n1 (p n1 n0)))) a) (p a (p a (p (p (f (f (p n1 (p n1 n0)))) a) (p (p (f (f (p n1 (p n1 n0)))) a) b))))) e) 81039561540063330323008969306661 (p (p (f (f (p n1 (p n1 n0)))) a) (p (f (p a (p a n0))) (p (f (p a (p a n0))) (p (p (f (f (p n1 (p n1 n0)))) a) b)))) (d e 81039561540063330323068965327109 (p (p (f (f (p n1 (p n1 n0)))) a) (p (f (p a (p a n0))) (p (f (p a (p a (p (p (f (f (p n1 (p n1 n0)))) a) n0)))) b))) e))) 81039561540063330331861047998469 (p (p (f (f (p n1 (p n1 n0)))) a) (p (f (p a (p a n0))) (p (f (p (f (p a (p a n0))) (p (f (p a (p a n0))) n0))) b))) (d (d (d (d e 81039561540063330335844382002949 (p (p (f (f (p n1 (p n1 n0)))) a) (p (f (p a (p a n0))) (p (f (p (p (f (f (p n1 (p n1 n0)))) a) (p a (p a n0)))) b))) e) 81039561540063330577942224555781 (p (p (f (f (p n1 (p n1 n0)))) a) (p (f (p a (p a n0))) (p (p (f (f (p n1 (p n1 n0)))) a) (p (f (p a (p a n0))) b)))) e) 81039561540597964362955416728101 (p (p (f (f (p n1 (p n1 n0)))) a) (p (p (f (f (p n1 (p n1 n0)))) a) (p a (p a (p (p (f (f (p n1 (p n1 n0)))) a) b))))) (d e 81039561540597964364054427062021 (p (p (f (f (p n1 (p n1 n0)))) a) (p (p (f (f (p n1 (p n1 n0)))) a) (p (f (p a (p a n0))) (p (f (p a (p a n0))) b)))) e)) 81039561540597964364054542579717 (p (p (f (f (p n1 (p n1 n0)))) a) (p (p (f (f (p n1 (p n1 n0)))) a) (p (f (p a (p a (p (f (p a (p a n0))) n0)))) b))) (d (d (d e 81039561540597964364071716507397 (p (p (f (f (p n1 (p n1 n0)))) a) (p (p (f (f (p n1 (p n1 n0)))) a) (p (f (p (f (p a (p a n0))) (p a (p a n0)))) b))) e) 81039561540597964364552343812581 (p (p (f (f (p n1 (p n1 n0)))) a) (p (p (f (f (p n1 (p n1 n0)))) a) (p (p (f (f (p n1 (p n1 n0)))) a) (p a (p a b))))) e) 81039563539414092199387027742757 (p (p (f (f (p n1 (p n1 (p n1 (p n1 (p (f (p (f (p n3 (p n3 n0))) (p (p (f (f (p n1 (p n1 n0)))) n2) n0))) n0))))))) a) b) (d e 81039563539414225012180719075365 (p (p (f (f (p n1 (p n1 (p n1 (p n1 (p (f (p (p (f (f (p n1 (p n1 n0)))) n2) (p (f (p n3 (p n3 n0))) n0))) n0))))))) a) b) e)))) 81039563539422158072660914635301 (p (p (f (f (p n1 (p n1 (p n1 (p n1 (p (p (f (f (p n1 (p n1 n0)))) n1) (p (p (f (f (p n1 (p n1 n0)))) n1) n0)))))))) a) b) (d (d (d (d (d e 81039563728854217232159648547365 (p (p (f (f (p n1 (p n1 (p (f (p n2 (p n2 n0))) (p (f (p n2 (p n2 n0))) (p (p (f (f (p n1 (p n1 n0)))) n1) n0))))))) a) b) e) 81039563728854217235999393849381 (p (p (f (f (p n1 (p n1 (p (f (p n2 (p n2 n0))) (p (f (p n2 (p n2 (p (p (f (f (p n1 (p n1 n0)))) n2) n0)))) n0)))))) a) b) e) 81039563728854218365971963150373 (p (p (f (f (p n1 (p n1 (p (f (p n2 (p n2 n0))) (p (f (p (f (p n3 (p n3 n0))) (p (f (p n3 (p n3 n0))) n0))) n0)))))) a) b) (d e 81039563728854218625372073467941 (p (p (f (f (p n1 (p n1 (p (f (p n2 (p n2 n0))) (p (f (p (p (f (f (p n1 (p n1 n0)))) n2) (p n2 (p n2 n0)))) n0)))))) a) b) e)) 81039563728854234119630809178149 (p (p (f (f (p n1 (p n1 (p (f (p n2 (p n2 n0))) (p (p (f (f (p n1 (p n1 n0)))) n1) (p (f (p n2 (p n2 n0))) n0))))))) a) b) (d (d (d e 81039563764269827862667626054181 (p (p (f (f (p n1 (p n1 (p (p (f (f (p n1 (p n1 n0)))) n1) (p n1 (p n1 (p (p (f (f (p n1 (p n1 n0)))) n1) n0)))))))) a) b) e) 81039563764269828039089979105317 (p (p (f (f (p n1 (p n1 (p (p (f (f (p n1 (p n1 n0)))) n1) (p (f (p n2 (p n2 n0))) (p (f (p n2 (p n2 n0))) n0))))))) a) b) e) 81039563764269828039097370640421 (p (p (f (f (p n1 (p n1 (p (p (f (f (p n1 (p n1 n0)))) n1) (p (f (p n2 (p n2 (p (f (p n3 (p n3 n0))) n0)))) n0)))))) a) b) (d e 81039563764269828041304470954021 (p (p (f (f (p n1 (p n1 (p (p (f (f (p n1 (p n1 n0)))) n1) (p (f (p (f (p n3 (p n3 n0))) (p n2 (p n2 n0)))) n0)))))) a) b) e))) 81039563764269828072073336779301 (p (p (f (f (p n1 (p n1 (p (p (f (f (p n1 (p n1 n0)))) n1) (p (p (f (f (p n1 (p n1 n0)))) n1) (p n1 (p n1 n0)))))))) a) b) (d (d (d (d e 81040339677614143967887026324005 (p (p (f (f (p (f (p n2 (p n2 n0))) (p n1 (p n1 (p (f (p n2 (p n2 n0))) (p (p (f (f (p n1 (p n1 n0)))) n1) n0))))))) a) b) e) 81040339677614143971726771626021 (p (p (f (f (p (f (p n2 (p n2 n0))) (p n1 (p n1 (p (f (p n2 (p n2 (p (p (f (f (p n1 (p n1 n0)))) n2) n0)))) n0)))))) a) b) e) 81040339677614145101699340927013 (p (p (f (f (p (f (p n2 (p n2 n0))) (p n1 (p n1 (p (f (p (f (p n3 (p n3 n0))) (p (f (p n3 (p n3 n0))) n0))) n0)))))) a) b) (d e 81040339677614145361099451244581 (p (p (f (f (p (f (p n2 (p n2 n0))) (p n1 (p n1 (p (f (p (p (f (f (p n1 (p n1 n0)))) n2) (p n2 (p n2 n0)))) n0)))))) a) b) e)) 81040339677614160855358186954789 (p (p (f (f (p (f (p n2 (p n2 n0))) (p n1 (p n1 (p (p (f (f (p n1 (p n1 n0)))) n1) (p (f (p n2 (p n2 n0))) n0))))))) a) b) (d (d e 81040339677984145169481729868325 (p (p (f (f (p (f (p n2 (p n2 n0))) (p (f (p n2 (p n2 n0))) (p n1 (p n1 (p (p (f (f (p n1 (p n1 n0)))) n1) n0))))))) a) b) e) 81040339677984145345904082919461 (p (p (f (f (p (f (p n2 (p n2 n0))) (p (f (p n2 (p n2 n0))) (p (f (p n2 (p n2 n0))) (p (f (p n2 (p n2 n0))) n0)))))) a) b) (d e 81040339677984145345911474454565 (p (p (f (f (p (f (p n2 (p n2 n0))) (p (f (p n2 (p n2 n0))) (p (f (p n2 (p n2 (p (f (p n3 (p n3 n0))) n0)))) n0))))) a) b) e)))))
noncomputable def q17 : NT := (d (d (d (d (d (d e 81040339677984145378887440593445 (p (p (f (f (p (f (p n2 (p n2 n0))) (p (f (p n2 (p n2 n0))) (p (p (f (f (p n1 (p n1 n0)))) n1) (p n1 (p n1 n0))))))) a) b) e) 81040339678053316460416793813029 (p (p (f (f (p (f (p n2 (p n2 n0))) (p (p (f (f (p n1 (p n1 n0)))) n1) (p n1 (p n1 (p (f (p n2 (p n2 n0))) n0))))))) a) b) e) 81040339678053316460761384284709 (p (p (f (f (p (f (p n2 (p n2 n0))) (p (p (f (f (p n1 (p n1 n0)))) n1) (p (f (p n2 (p n2 n0))) (p n1 (p n1 n0))))))) a) b) (d e 81040339678053316460761397829669 (p (p (f (f (p (f (p n2 (p n2 n0))) (p (p (f (f (p n1 (p n1 n0)))) n1) (p (f (p n2 (p n2 (p n2 (p n2 n0))))) n0))))) a) b) e)) 81040339708114682372261163074085 (p (p (f (f (p (f (p n2 (p n2 (p n2 (p n2 n0))))) (p (f (p n2 (p n2 n0))) (p (p (f (f (p n1 (p n1 n0)))) n1) n0))))) a) b) (d (d (d e 81040339708114682376100908376101 (p (p (f (f (p (f (p n2 (p n2 (p n2 (p n2 n0))))) (p (f (p n2 (p n2 (p (p (f (f (p n1 (p n1 n0)))) n2) n0)))) n0)))) a) b) e) 81040339708114683506073477677093 (p (p (f (f (p (f (p n2 (p n2 (p n2 (p n2 n0))))) (p (f (p (f (p n3 (p n3 n0))) (p (f (p n3 (p n3 n0))) n0))) n0)))) a) b) e) 81040339708114683765473587994661 (p (p (f (f (p (f (p n2 (p n2 (p n2 (p n2 n0))))) (p (f (p (p (f (f (p n1 (p n1 n0)))) n2) (p n2 (p n2 n0)))) n0)))) a) b) (d e 81040339708114699259732323704869 (p (p (f (f (p (f (p n2 (p n2 (p n2 (p n2 n0))))) (p (p (f (f (p n1 (p n1 n0)))) n1) (p (f (p n2 (p n2 n0))) n0))))) a) b) e))) 81040339710492460345331671663141 (p (p (f (f (p (f (p n2 (p n2 (p (f (p n3 (p n3 n0))) n0)))) (p n1 (p n1 (p (p (f (f (p n1 (p n1 n0)))) n1) n0)))))) a) b) (d (d (d (d e 81040339710492460521754024714277 (p (p (f (f (p (f (p n2 (p n2 (p (f (p n3 (p n3 n0))) n0)))) (p (f (p n2 (p n2 n0))) (p (f (p n2 (p n2 n0))) n0))))) a) b) e) 81040339710492460521761416249381 (p (p (f (f (p (f (p n2 (p n2 (p (f (p n3 (p n3 n0))) n0)))) (p (f (p n2 (p n2 (p (f (p n3 (p n3 n0))) n0)))) n0)))) a) b) e) 81040339710492460523968516562981 (p (p (f (f (p (f (p n2 (p n2 (p (f (p n3 (p n3 n0))) n0)))) (p (f (p (f (p n3 (p n3 n0))) (p n2 (p n2 n0)))) n0)))) a) b) (d e 81040339710492460554737382388261 (p (p (f (f (p (f (p n2 (p n2 (p (f (p n3 (p n3 n0))) n0)))) (p (p (f (f (p n1 (p n1 n0)))) n1) (p n1 (p n1 n0)))))) a) b) e)) 81040339711036477454673519550501 (p (p (f (f (p (f (p n2 (p n2 (p (p (f (f (p n1 (p n1 n0)))) n2) n0)))) (p n1 (p n1 (p (f (p n2 (p n2 n0))) n0)))))) a) b) (d (d e 81040339711036477455018110022181 (p (p (f (f (p (f (p n2 (p n2 (p (p (f (f (p n1 (p n1 n0)))) n2) n0)))) (p (f (p n2 (p n2 n0))) (p n1 (p n1 n0)))))) a) b) e) 81040339711036477455018123567141 (p (p (f (f (p (f (p n2 (p n2 (p (p (f (f (p n1 (p n1 n0)))) n2) n0)))) (p (f (p n2 (p n2 (p n2 (p n2 n0))))) n0)))) a) b) (d e 81040349417422294230355953877541 (p (p (f (f (p (f (p (f (p n3 (p n3 n0))) (p n2 (p n2 n0)))) (p n1 (p n1 (p (p (f (f (p n1 (p n1 n0)))) n1) n0)))))) a) b) e)))) 81040349417422294406778306928677 (p (p (f (f (p (f (p (f (p n3 (p n3 n0))) (p n2 (p n2 n0)))) (p (f (p n2 (p n2 n0))) (p (f (p n2 (p n2 n0))) n0))))) a) b) (d (d (d (d (d e 81040349417422294406785698463781 (p (p (f (f (p (f (p (f (p n3 (p n3 n0))) (p n2 (p n2 n0)))) (p (f (p n2 (p n2 (p (f (p n3 (p n3 n0))) n0)))) n0)))) a) b) e) 81040349417422294408992798777381 (p (p (f (f (p (f (p (f (p n3 (p n3 n0))) (p n2 (p n2 n0)))) (p (f (p (f (p n3 (p n3 n0))) (p n2 (p n2 n0)))) n0)))) a) b) e) 81040349417422294439761664602661 (p (p (f (f (p (f (p (f (p n3 (p n3 n0))) (p n2 (p n2 n0)))) (p (p (f (f (p n1 (p n1 n0)))) n1) (p n1 (p n1 n0)))))) a) b) (d e 81040349417426938504381960265765 (p (p (f (f (p (f (p (f (p n3 (p n3 n0))) (p (f (p n3 (p n3 n0))) n0))) (p n1 (p n1 (p (f (p n2 (p n2 n0))) n0)))))) a) b) e)) 81040349417426938504726550737445 (p (p (f (f (p (f (p (f (p n3 (p n3 n0))) (p (f (p n3 (p n3 n0))) n0))) (p (f (p n2 (p n2 n0))) (p n1 (p n1 n0)))))) a) b) (d (d (d e 81040349417426938504726564282405 (p (p (f (f (p (f (p (f (p n3 (p n3 n0))) (p (f (p n3 (p n3 n0))) n0))) (p (f (p n2 (p n2 (p n2 (p n2 n0))))) n0)))) a) b) e) 81040349417428001037798659125797 (p (p (f (f (p (f (p (f (p n3 (p n3 n0))) (p (p (f (f (p n1 (p n1 n0)))) n2) n0))) (p n1 (p n1 (p n1 (p n1 n0))))))) a) b) e) 81040351645656919289875428778021 (p (p (f (f (p (f (p (p (f (f (p n1 (p n1 n0)))) n2) (p n2 (p n2 n0)))) (p n1 (p n1 (p (f (p n2 (p n2 n0))) n0)))))) a) b) (d e 81040351645656919290220019249701 (p (p (f (f (p (f (p (p (f (f (p n1 (p n1 n0)))) n2) (p n2 (p n2 n0)))) (p (f (p n2 (p n2 n0))) (p n1 (p n1 n0)))))) a) b) e))) 81040351645656919290220032794661 (p (p (f (f (p (f (p (p (f (f (p n1 (p n1 n0)))) n2) (p n2 (p n2 n0)))) (p (f (p n2 (p n2 (p n2 (p n2 n0))))) n0)))) a) b) (d (d (d (d e 81040351645656928360723151385125 (p (p (f (f (p (f (p (p (f (f (p n1 (p n1 n0)))) n2) (p (f (p n3 (p n3 n0))) n0))) (p n1 (p n1 (p n1 (p n1 n0))))))) a) b) e) 81040484740325287730157597786661 (p (p (f (f (p (p (f (f (p n1 (p n1 n0)))) n1) (p n1 (p n1 (p n1 (p n1 (p (p (f (f (p n1 (p n1 n0)))) n1) n0)))))))) a) b) e) 81040484740325287906579950837797 (p (p (f (f (p (p (f (f (p n1 (p n1 n0)))) n1) (p n1 (p n1 (p (f (p n2 (p n2 n0))) (p (f (p n2 (p n2 n0))) n0))))))) a) b) (d e 81040484740325287906587342372901 (p (p (f (f (p (p (f (f (p n1 (p n1 n0)))) n1) (p n1 (p n1 (p (f (p n2 (p n2 (p (f (p n3 (p n3 n0))) n0)))) n0)))))) a) b) e)) 81040484740325287908794442686501 (p (p (f (f (p (p (f (f (p n1 (p n1 n0)))) n1) (p n1 (p n1 (p (f (p (f (p n3 (p n3 n0))) (p n2 (p n2 n0)))) n0)))))) a) b) (d (d e 81040484740325287939563308511781 (p (p (f (f (p (p (f (f (p n1 (p n1 n0)))) n1) (p n1 (p n1 (p (p (f (f (p n1 (p n1 n0)))) n1) (p n1 (p n1 n0)))))))) a) b) e) 81040484740326010565176815493157 (p (p (f (f (p (p (f (f (p n1 (p n1 n0)))) n1) (p (f (p n2 (p n2 n0))) (p n1 (p n1 (p (f (p n2 (p n2 n0))) n0))))))) a) b) (d e 81040484740326010565521405964837 (p (p (f (f (p (p (f (f (p n1 (p n1 n0)))) n1) (p (f (p n2 (p n2 n0))) (p (f (p n2 (p n2 n0))) (p n1 (p n1 n0))))))) a) b) e)))))
noncomputable def q18 : NT := (d (d (d (d (d (d e 81040484740326145665354438603301 (p (p (f (f (p (p (f (f (p n1 (p n1 n0)))) n1) (p (p (f (f (p n1 (p n1 n0)))) n1) (p n1 (p n1 (p n1 (p n1 n0)))))))) a) b) e) 81049002802116622768963032220197 (p (p (f (p (f (f (p n1 (p n1 n0)))) (f (p (p (f (f (p n1 (p n1 n0)))) n1) (p (p (f (f (p n1 (p n1 n0)))) n1) n0))))) a) b) e) 643724023067129507121878110368293 (p (f (p a (p a n0))) (p (p (f (f (p n1 (p n1 n0)))) a) (p (p (f (f (p n1 (p n1 n0)))) (p (f (f (p n1 (p n1 n0)))) a)) b))) (d e 643725103859350840423712061977125 (p (f (p a (p a (p (p (f (f (p n1 (p n1 n0)))) a) n0)))) (p (p (f (f (p n1 (p n1 n0)))) (p (f (f (p n1 (p n1 n0)))) a)) b)) e)) 643725103859351846989909883064581 (p (f (p a (p a (p (p (f (f (p n1 (p n1 n0)))) a) (p (p (f (f (p n1 (p n1 n0)))) (p (f (f (p n1 (p n1 n0)))) a)) n0))))) b) (d (d (d e 643883487940321030387888574755365 (p (f (p (f (p a (p a n0))) (p (f (p a (p a n0))) n0))) (p (p (f (f (p n1 (p n1 n0)))) (p (f (f (p n1 (p n1 n0)))) a)) b)) e) 643883487940322036954086395842821 (p (f (p (f (p a (p a n0))) (p (f (p a (p a n0))) (p (p (f (f (p n1 (p n1 n0)))) (p (f (f (p n1 (p n1 n0)))) a)) n0)))) b) e) 643883487974538597331181342805765 (p (f (p (f (p a (p a n0))) (p (p (f (f (p n1 (p n1 n0)))) a) n0))) (p (p (f (f (p n1 (p n1 n0)))) (f (p a (p a n0)))) b)) (d e 643883487974538599297130946263045 (p (f (p (f (p a (p a n0))) (p (p (f (f (p n1 (p n1 n0)))) a) (p (p (f (f (p n1 (p n1 n0)))) (f (p a (p a n0)))) n0)))) b) e))) 643883504588176522083629957353733 (p (f (p (f (p a (p a (p (f (p a (p a n0))) n0)))) (p (p (f (f (p n1 (p n1 n0)))) (p (f (f (p n1 (p n1 n0)))) a)) n0))) b) (d (d (d (d e 643883504861917057629972101756933 (p (f (p (f (p a (p a (p (p (f (f (p n1 (p n1 n0)))) a) n0)))) (p (p (f (f (p n1 (p n1 n0)))) (f (p a (p a n0)))) n0))) b) e) 643885979611994126430729788690693 (p (f (p (f (p (f (p a (p a n0))) (p a (p a n0)))) (p (p (f (f (p n1 (p n1 n0)))) (p (f (f (p n1 (p n1 n0)))) a)) n0))) b) e) 643885979613182216848162359769093 (p (f (p (f (p (f (p a (p a n0))) (p (f (p a (p a n0))) n0))) (p (p (f (f (p n1 (p n1 n0)))) (f (p a (p a n0)))) n0))) b) (d e 643887100822028358620265127507973 (p (f (p (f (p (p (f (f (p n1 (p n1 n0)))) a) (p a (p a n0)))) (p (p (f (f (p n1 (p n1 n0)))) (f (p a (p a n0)))) n0))) b) e)) 643955245306474103802465710043685 (p (f (p (p (f (f (p n1 (p n1 n0)))) a) (p a (p a n0)))) (p (p (f (f (p n1 (p n1 n0)))) (p (f (f (p n1 (p n1 n0)))) a)) b)) (d (d e 643955245306475110368663531131141 (p (f (p (p (f (f (p n1 (p n1 n0)))) a) (p a (p a (p (p (f (f (p n1 (p n1 n0)))) (p (f (f (p n1 (p n1 n0)))) a)) n0))))) b) e) 643955245306622615104644781428485 (p (f (p (p (f (f (p n1 (p n1 n0)))) a) (p (f (p a (p a n0))) n0))) (p (p (f (f (p n1 (p n1 n0)))) (f (p a (p a n0)))) b)) (d e 643955245306622617070594384885765 (p (f (p (p (f (f (p n1 (p n1 n0)))) a) (p (f (p a (p a n0))) (p (p (f (f (p n1 (p n1 n0)))) (f (p a (p a n0)))) n0)))) b) e)))) 643955245315918834728738572701957 (p (f (p (p (f (f (p n1 (p n1 n0)))) (f (p a (p a n0)))) (p (f (p a (p a n0))) (p (p (f (f (p n1 (p n1 n0)))) a) n0)))) b) (d (d (d (d (d e 643955245315918834729218540865541 (p (f (p (p (f (f (p n1 (p n1 n0)))) (f (p a (p a n0)))) (p (f (p a (p a (p (p (f (f (p n1 (p n1 n0)))) a) n0)))) n0))) b) e) 643955245315918834799555202236421 (p (f (p (p (f (f (p n1 (p n1 n0)))) (f (p a (p a n0)))) (p (f (p (f (p a (p a n0))) (p (f (p a (p a n0))) n0))) n0))) b) e) 643955245315918834831421874272261 (p (f (p (p (f (f (p n1 (p n1 n0)))) (f (p a (p a n0)))) (p (f (p (p (f (f (p n1 (p n1 n0)))) a) (p a (p a n0)))) n0))) b) (d e 643955245315918836768204614694917 (p (f (p (p (f (f (p n1 (p n1 n0)))) (f (p a (p a n0)))) (p (p (f (f (p n1 (p n1 n0)))) a) (p (f (p a (p a n0))) n0)))) b) e)) 643955245320195907048310152073477 (p (f (p (p (f (f (p n1 (p n1 n0)))) (p (f (f (p n1 (p n1 n0)))) a)) (p a (p a (p (p (f (f (p n1 (p n1 n0)))) a) n0))))) b) (d (d (d e 643955245320195907057102234744837 (p (f (p (p (f (f (p n1 (p n1 n0)))) (p (f (f (p n1 (p n1 n0)))) a)) (p (f (p a (p a n0))) (p (f (p a (p a n0))) n0)))) b) e) 643955245320195907057103158886405 (p (f (p (p (f (f (p n1 (p n1 n0)))) (p (f (f (p n1 (p n1 n0)))) a)) (p (f (p a (p a (p (f (p a (p a n0))) n0)))) n0))) b) e) 643955245320195907057240550307845 (p (f (p (p (f (f (p n1 (p n1 n0)))) (p (f (f (p n1 (p n1 n0)))) a)) (p (f (p (f (p a (p a n0))) (p a (p a n0)))) n0))) b) (d e 643955245320195907061085568749317 (p (f (p (p (f (f (p n1 (p n1 n0)))) (p (f (f (p n1 (p n1 n0)))) a)) (p (p (f (f (p n1 (p n1 n0)))) a) (p a (p a n0))))) b) e))) 648316492320506644623538182222373 (p (p (f (f (p n1 (p n1 n0)))) a) (p (f (p a (p a n0))) (p (p (f (f (p n1 (p n1 n0)))) (p (f (f (p n1 (p n1 n0)))) a)) b))) (d (d (d (d e 648316492324783714916418751024901 (p (p (f (f (p n1 (p n1 n0)))) a) (p (p (f (f (p n1 (p n1 n0)))) a) (p (p (f (f (p n1 (p n1 n0)))) (f (p a (p a n0)))) b))) e) 648316492915464579277031343624453 (p (p (f (f (p n1 (p n1 n0)))) (f (p a (p a n0)))) (p (f (p (f (p a (p a n0))) (p (p (f (f (p n1 (p n1 n0)))) a) n0))) b)) e) 648316492915464581316497385617413 (p (p (f (f (p n1 (p n1 n0)))) (f (p a (p a n0)))) (p (f (p (p (f (f (p n1 (p n1 n0)))) a) (p (f (p a (p a n0))) n0))) b)) (d e 648316492915464705270592890008101 (p (p (f (f (p n1 (p n1 n0)))) (f (p a (p a n0)))) (p (p (f (f (p n1 (p n1 n0)))) a) (p (p (f (f (p n1 (p n1 n0)))) a) b))) e)) 648316493189197203760040573202981 (p (p (f (f (p n1 (p n1 n0)))) (p (f (f (p n1 (p n1 n0)))) a)) (p (f (p a (p a n0))) (p (p (f (f (p n1 (p n1 n0)))) a) b))) (d (d e 648316493189197203760100569223429 (p (p (f (f (p n1 (p n1 n0)))) (p (f (f (p n1 (p n1 n0)))) a)) (p (f (p a (p a (p (p (f (f (p n1 (p n1 n0)))) a) n0)))) b)) e) 648316493189197203768892651894789 (p (p (f (f (p n1 (p n1 n0)))) (p (f (f (p n1 (p n1 n0)))) a)) (p (f (p (f (p a (p a n0))) (p (f (p a (p a n0))) n0))) b)) (d e 648316493189197203772875985899269 (p (p (f (f (p n1 (p n1 n0)))) (p (f (f (p n1 (p n1 n0)))) a)) (p (f (p (p (f (f (p n1 (p n1 n0)))) a) (p a (p a n0)))) b)) e)))))
noncomputable def q19 : NT := (d (d (d (d (d (d e 648316509830833872957096937161253 (p (p (f (f (p n1 (p n1 (p (f (p n2 (p n2 n0))) (p (p (f (f (p n1 (p n1 n0)))) (p (f (f (p n1 (p n1 n0)))) n1)) n0)))))) a) b) e) 648316510114158624576586778386469 (p (p (f (f (p n1 (p n1 (p (p (f (f (p n1 (p n1 n0)))) n1) (p (p (f (f (p n1 (p n1 n0)))) (f (p n2 (p n2 n0)))) n0)))))) a) b) e) 648322717420913286842915959374373 (p (p (f (f (p (f (p n2 (p n2 n0))) (p n1 (p n1 (p (p (f (f (p n1 (p n1 n0)))) (p (f (f (p n1 (p n1 n0)))) n1)) n0)))))) a) b) (d e 648322717423873163031099608899621 (p (p (f (f (p (f (p n2 (p n2 n0))) (p (f (p n2 (p n2 n0))) (p (p (f (f (p n1 (p n1 n0)))) (f (p n2 (p n2 n0)))) n0))))) a) b) e)) 648322717664917594077909053375013 (p (p (f (f (p (f (p n2 (p n2 (p n2 (p n2 n0))))) (p (p (f (f (p n1 (p n1 n0)))) (p (f (f (p n1 (p n1 n0)))) n1)) n0)))) a) b) (d (d (d e 648322717683939684437899143258149 (p (p (f (f (p (f (p n2 (p n2 (p (f (p n3 (p n3 n0))) n0)))) (p (p (f (f (p n1 (p n1 n0)))) (f (p n2 (p n2 n0)))) n0)))) a) b) e) 648322795339378355518093400973349 (p (p (f (f (p (f (p (f (p n3 (p n3 n0))) (p n2 (p n2 n0)))) (p (p (f (f (p n1 (p n1 n0)))) (f (p n2 (p n2 n0)))) n0)))) a) b) e) 648323877922602303516506552246309 (p (p (f (f (p (p (f (f (p n1 (p n1 n0)))) n1) (p n1 (p n1 (p (p (f (f (p n1 (p n1 n0)))) (f (p n2 (p n2 n0)))) n0)))))) a) b) (d e 648323877922972393396881311171109 (p (p (f (f (p (p (f (f (p n1 (p n1 n0)))) (f (p n2 (p n2 n0)))) (p n1 (p n1 (p (p (f (f (p n1 (p n1 n0)))) n1) n0)))))) a) b) e))) 648323877922972393573303664222245 (p (p (f (f (p (p (f (f (p n1 (p n1 n0)))) (f (p n2 (p n2 n0)))) (p (f (p n2 (p n2 n0))) (p (f (p n2 (p n2 n0))) n0))))) a) b) (d (d (d (d e 648323877922972393573311055757349 (p (p (f (f (p (p (f (f (p n1 (p n1 n0)))) (f (p n2 (p n2 n0)))) (p (f (p n2 (p n2 (p (f (p n3 (p n3 n0))) n0)))) n0)))) a) b) e) 648323877922972393575518156070949 (p (p (f (f (p (p (f (f (p n1 (p n1 n0)))) (f (p n2 (p n2 n0)))) (p (f (p (f (p n3 (p n3 n0))) (p n2 (p n2 n0)))) n0)))) a) b) e) 648323877922972393606287021896229 (p (p (f (f (p (p (f (f (p n1 (p n1 n0)))) (f (p n2 (p n2 n0)))) (p (p (f (f (p n1 (p n1 n0)))) n1) (p n1 (p n1 n0)))))) a) b) (d e 648323877923041564687816375115813 (p (p (f (f (p (p (f (f (p n1 (p n1 n0)))) (p (f (f (p n1 (p n1 n0)))) n1)) (p n1 (p n1 (p (f (p n2 (p n2 n0))) n0)))))) a) b) e)) 648323877923041564688160965587493 (p (p (f (f (p (p (f (f (p n1 (p n1 n0)))) (p (f (f (p n1 (p n1 n0)))) n1)) (p (f (p n2 (p n2 n0))) (p n1 (p n1 n0)))))) a) b) (d (d e 648323877923041564688160979132453 (p (p (f (f (p (p (f (f (p n1 (p n1 n0)))) (p (f (f (p n1 (p n1 n0)))) n1)) (p (f (p n2 (p n2 (p n2 (p n2 n0))))) n0)))) a) b) e) 5151641962527350694145640003768581 (p (f (p (p (f (f (p n1 (p n1 n0)))) (f (p a (p a n0)))) (p (p (f (f (p n1 (p n1 n0)))) (p (f (f (p n1 (p n1 n0)))) a)) n0))) b) (d e 5151641962561567256488684554188805 (p (f (p (p (f (f (p n1 (p n1 n0)))) (p (f (f (p n1 (p n1 n0)))) a)) (p (p (f (f (p n1 (p n1 n0)))) (f (p a (p a n0)))) n0))) b) e)))) 5186531945513577632119791013392933 (p (p (f (f (p n1 (p n1 n0)))) (p (f (f (p n1 (p n1 n0)))) a)) (p (p (f (f (p n1 (p n1 n0)))) (p (f (f (p n1 (p n1 n0)))) a)) b)) (d (d (d (d (d e 5186591023383779148850296259321893 (p (p (f (f (p (p (f (f (p n1 (p n1 n0)))) (f (p n2 (p n2 n0)))) (p (p (f (f (p n1 (p n1 n0)))) (f (p n2 (p n2 n0)))) n0)))) a) b) e) 40549596140491287540913240275390725 (p a (p a (p (p (f (f (p n1 (p n1 n0)))) a) (p (f (p (p (f (f (p n1 (p n1 n0)))) a) (p (p (f (f (p n1 (p n1 n0)))) a) n0))) b)))) e) 41198337336145185634180236615061765 (p (f (p a (p a n0))) (p (f (p a (p a n0))) (p (f (p (p (f (f (p n1 (p n1 n0)))) a) (p (p (f (f (p n1 (p n1 n0)))) a) n0))) b))) (d e 41198337476296288329806612949078277 (p (f (p a (p a n0))) (p (p (f (f (p n1 (p n1 n0)))) a) (p (f (p (f (p a (p a n0))) (p (p (f (f (p n1 (p n1 n0)))) a) n0))) b))) e)) 41198337476296288331846078991071237 (p (f (p a (p a n0))) (p (p (f (f (p n1 (p n1 n0)))) a) (p (f (p (p (f (f (p n1 (p n1 n0)))) a) (p (f (p a (p a n0))) n0))) b))) (d (d (d e 41198337476296288455800174495461925 (p (f (p a (p a n0))) (p (p (f (f (p n1 (p n1 n0)))) a) (p (p (f (f (p n1 (p n1 n0)))) a) (p (p (f (f (p n1 (p n1 n0)))) a) b)))) e) 41198405525757156724790664563757317 (p (f (p a (p a (p (f (p a (p a n0))) n0)))) (p (f (p (p (f (f (p n1 (p n1 n0)))) a) (p (p (f (f (p n1 (p n1 n0)))) a) n0))) b)) e) 41198405525789695634394532928063493 (p (f (p a (p a (p (f (p a (p a n0))) (p (f (p (p (f (f (p n1 (p n1 n0)))) a) (p (p (f (f (p n1 (p n1 n0)))) a) n0))) n0))))) b) (d e 41198406646998453661123985852043525 (p (f (p a (p a (p (p (f (f (p n1 (p n1 n0)))) a) n0)))) (p (f (p (f (p a (p a n0))) (p (p (f (f (p n1 (p n1 n0)))) a) n0))) b)) e))) 41198406646998453663163451894036485 (p (f (p a (p a (p (p (f (f (p n1 (p n1 n0)))) a) n0)))) (p (f (p (p (f (f (p n1 (p n1 n0)))) a) (p (f (p a (p a n0))) n0))) b)) (d (d (d (d e 41198406646998453787117547398427173 (p (f (p a (p a (p (p (f (f (p n1 (p n1 n0)))) a) n0)))) (p (p (f (f (p n1 (p n1 n0)))) a) (p (p (f (f (p n1 (p n1 n0)))) a) b))) e) 41198406646998517199405543600195589 (p (f (p a (p a (p (p (f (f (p n1 (p n1 n0)))) a) (p (f (p (f (p a (p a n0))) (p (p (f (f (p n1 (p n1 n0)))) a) n0))) n0))))) b) e) 41198406646998517215721271936139269 (p (f (p a (p a (p (p (f (f (p n1 (p n1 n0)))) a) (p (f (p (p (f (f (p n1 (p n1 n0)))) a) (p (f (p a (p a n0))) n0))) n0))))) b) (d e 41198406646998518207354035971264773 (p (f (p a (p a (p (p (f (f (p n1 (p n1 n0)))) a) (p (p (f (f (p n1 (p n1 n0)))) a) (p (p (f (f (p n1 (p n1 n0)))) a) n0)))))) b) e)) 41208543223314064130511573719945477 (p (f (p (f (p a (p a n0))) (p a (p a n0)))) (p (f (p (p (f (f (p n1 (p n1 n0)))) a) (p (p (f (f (p n1 (p n1 n0)))) a) n0))) b)) (d (d e 41208543223346603040115442084251653 (p (f (p (f (p a (p a n0))) (p a (p a (p (f (p (p (f (f (p n1 (p n1 n0)))) a) (p (p (f (f (p n1 (p n1 n0)))) a) n0))) n0))))) b) e) 41208543228180545818831282669850885 (p (f (p (f (p a (p a n0))) (p (f (p a (p a n0))) n0))) (p (f (p (f (p a (p a n0))) (p (p (f (f (p n1 (p n1 n0)))) a) n0))) b)) (d e 41208543228180545820870748711843845 (p (f (p (f (p a (p a n0))) (p (f (p a (p a n0))) n0))) (p (f (p (p (f (f (p n1 (p n1 n0)))) a) (p (f (p a (p a n0))) n0))) b)) e)))))
noncomputable def q20 : NT := (d (d (d (d (d (d e 41208543228180609357112840418002949 (p (f (p (f (p a (p a n0))) (p (f (p a (p a n0))) (p (f (p (f (p a (p a n0))) (p (p (f (f (p n1 (p n1 n0)))) a) n0))) n0)))) b) e) 41208543228180609373428568753946629 (p (f (p (f (p a (p a n0))) (p (f (p a (p a n0))) (p (f (p (p (f (f (p n1 (p n1 n0)))) a) (p (f (p a (p a n0))) n0))) n0)))) b) e) 41208543228180610365061332789072133 (p (f (p (f (p a (p a n0))) (p (f (p a (p a n0))) (p (p (f (f (p n1 (p n1 n0)))) a) (p (p (f (f (p n1 (p n1 n0)))) a) n0))))) b) (d e 41208543230370470228940672651293221 (p (f (p (f (p a (p a n0))) (p (p (f (f (p n1 (p n1 n0)))) a) n0))) (p (f (p a (p a n0))) (p (p (f (f (p n1 (p n1 n0)))) a) b))) e)) 41208543230370470228940732647313669 (p (f (p (f (p a (p a n0))) (p (p (f (f (p n1 (p n1 n0)))) a) n0))) (p (f (p a (p a (p (p (f (f (p n1 (p n1 n0)))) a) n0)))) b)) (d (d (d e 41208543230370470228949524729985029 (p (f (p (f (p a (p a n0))) (p (p (f (f (p n1 (p n1 n0)))) a) n0))) (p (f (p (f (p a (p a n0))) (p (f (p a (p a n0))) n0))) b)) e) 41208543230370470228953508063989509 (p (f (p (f (p a (p a n0))) (p (p (f (f (p n1 (p n1 n0)))) a) n0))) (p (f (p (p (f (f (p n1 (p n1 n0)))) a) (p a (p a n0)))) b)) e) 41208543230370470229195605906542341 (p (f (p (f (p a (p a n0))) (p (p (f (f (p n1 (p n1 n0)))) a) n0))) (p (p (f (f (p n1 (p n1 n0)))) a) (p (f (p a (p a n0))) b))) (d e 41208543230370470352976914254631173 (p (f (p (f (p a (p a n0))) (p (p (f (f (p n1 (p n1 n0)))) a) (p (f (p a (p a n0))) (p (p (f (f (p n1 (p n1 n0)))) a) n0))))) b) e))) 41208543230370470352977394222794757 (p (f (p (f (p a (p a n0))) (p (p (f (f (p n1 (p n1 n0)))) a) (p (f (p a (p a (p (p (f (f (p n1 (p n1 n0)))) a) n0)))) n0)))) b) (d (d (d (d e 41208543230370470353047730884165637 (p (f (p (f (p a (p a n0))) (p (p (f (f (p n1 (p n1 n0)))) a) (p (f (p (f (p a (p a n0))) (p (f (p a (p a n0))) n0))) n0)))) b) e) 41208543230370470353079597556201477 (p (f (p (f (p a (p a n0))) (p (p (f (f (p n1 (p n1 n0)))) a) (p (f (p (p (f (f (p n1 (p n1 n0)))) a) (p a (p a n0)))) n0)))) b) e) 41208543230370470355016380296624133 (p (f (p (f (p a (p a n0))) (p (p (f (f (p n1 (p n1 n0)))) a) (p (p (f (f (p n1 (p n1 n0)))) a) (p (f (p a (p a n0))) n0))))) b) (d e 41208544254711442898845956755458053 (p (f (p (f (p a (p a (p a (p a n0))))) (p (f (p (p (f (f (p n1 (p n1 n0)))) a) (p (p (f (f (p n1 (p n1 n0)))) a) n0))) n0))) b) e)) 41208544293643296405403628354701317 (p (f (p (f (p a (p a (p (f (p a (p a n0))) n0)))) (p (f (p (f (p a (p a n0))) (p (p (f (f (p n1 (p n1 n0)))) a) n0))) n0))) b) (d (d (d e 41208544293643296421719356690644997 (p (f (p (f (p a (p a (p (f (p a (p a n0))) n0)))) (p (f (p (p (f (f (p n1 (p n1 n0)))) a) (p (f (p a (p a n0))) n0))) n0))) b) e) 41208544293643297413352120725770501 (p (f (p (f (p a (p a (p (f (p a (p a n0))) n0)))) (p (p (f (f (p n1 (p n1 n0)))) a) (p (p (f (f (p n1 (p n1 n0)))) a) n0)))) b) e) 41208544311162691686278748206240005 (p (f (p (f (p a (p a (p (p (f (f (p n1 (p n1 n0)))) a) n0)))) (p (f (p a (p a n0))) (p (p (f (f (p n1 (p n1 n0)))) a) n0)))) b) (d e 41208544311162691686279228174403589 (p (f (p (f (p a (p a (p (p (f (f (p n1 (p n1 n0)))) a) n0)))) (p (f (p a (p a (p (p (f (f (p n1 (p n1 n0)))) a) n0)))) n0))) b) e)))) 41208544311162691686349564835774469 (p (f (p (f (p a (p a (p (p (f (f (p n1 (p n1 n0)))) a) n0)))) (p (f (p (f (p a (p a n0))) (p (f (p a (p a n0))) n0))) n0))) b) (d (d (d (d (d e 41208544311162691686381431507810309 (p (f (p (f (p a (p a (p (p (f (f (p n1 (p n1 n0)))) a) n0)))) (p (f (p (p (f (f (p n1 (p n1 n0)))) a) (p a (p a n0)))) n0))) b) e) 41208544311162691688318214248232965 (p (f (p (f (p a (p a (p (p (f (f (p n1 (p n1 n0)))) a) n0)))) (p (p (f (f (p n1 (p n1 n0)))) a) (p (f (p a (p a n0))) n0)))) b) e) 41208702695167623083618017560266757 (p (f (p (f (p (f (p a (p a n0))) (p a (p a n0)))) (p (f (p (f (p a (p a n0))) (p (p (f (f (p n1 (p n1 n0)))) a) n0))) n0))) b) (d e 41208702695167623099933745896210437 (p (f (p (f (p (f (p a (p a n0))) (p a (p a n0)))) (p (f (p (p (f (f (p n1 (p n1 n0)))) a) (p (f (p a (p a n0))) n0))) n0))) b) e)) 41208702695167624091566509931335941 (p (f (p (f (p (f (p a (p a n0))) (p a (p a n0)))) (p (p (f (f (p n1 (p n1 n0)))) a) (p (p (f (f (p n1 (p n1 n0)))) a) n0)))) b) (d (d (d e 41208702695243661876242924719018245 (p (f (p (f (p (f (p a (p a n0))) (p (f (p a (p a n0))) n0))) (p (f (p a (p a n0))) (p (p (f (f (p n1 (p n1 n0)))) a) n0)))) b) e) 41208702695243661876243404687181829 (p (f (p (f (p (f (p a (p a n0))) (p (f (p a (p a n0))) n0))) (p (f (p a (p a (p (p (f (f (p n1 (p n1 n0)))) a) n0)))) n0))) b) e) 41208702695243661876313741348552709 (p (f (p (f (p (f (p a (p a n0))) (p (f (p a (p a n0))) n0))) (p (f (p (f (p a (p a n0))) (p (f (p a (p a n0))) n0))) n0))) b) (d e 41208702695243661876345608020588549 (p (f (p (f (p (f (p a (p a n0))) (p (f (p a (p a n0))) n0))) (p (f (p (p (f (f (p n1 (p n1 n0)))) a) (p a (p a n0)))) n0))) b) e))) 41208702695243661878282390761011205 (p (f (p (f (p (f (p a (p a n0))) (p (f (p a (p a n0))) n0))) (p (p (f (f (p n1 (p n1 n0)))) a) (p (f (p a (p a n0))) n0)))) b) (d (d (d (d e 41208702695277879445212908497637637 (p (f (p (f (p (f (p a (p a n0))) (p (p (f (f (p n1 (p n1 n0)))) a) n0))) (p a (p a (p (p (f (f (p n1 (p n1 n0)))) a) n0))))) b) e) 41208702695277879445221700580308997 (p (f (p (f (p (f (p a (p a n0))) (p (p (f (f (p n1 (p n1 n0)))) a) n0))) (p (f (p a (p a n0))) (p (f (p a (p a n0))) n0)))) b) e) 41208702695277879445221701504450565 (p (f (p (f (p (f (p a (p a n0))) (p (p (f (f (p n1 (p n1 n0)))) a) n0))) (p (f (p a (p a (p (f (p a (p a n0))) n0)))) n0))) b) (d e 41208702695277879445221838895872005 (p (f (p (f (p (f (p a (p a n0))) (p (p (f (f (p n1 (p n1 n0)))) a) n0))) (p (f (p (f (p a (p a n0))) (p a (p a n0)))) n0))) b) e)) 41208702695277879445225683914313477 (p (f (p (f (p (f (p a (p a n0))) (p (p (f (f (p n1 (p n1 n0)))) a) n0))) (p (p (f (f (p n1 (p n1 n0)))) a) (p a (p a n0))))) b) (d (d e 41208774452609814949657501854306565 (p (f (p (f (p (p (f (f (p n1 (p n1 n0)))) a) (p a (p a n0)))) (p (f (p a (p a n0))) (p (p (f (f (p n1 (p n1 n0)))) a) n0)))) b) e) 41208774452609814949657981822470149 (p (f (p (f (p (p (f (f (p n1 (p n1 n0)))) a) (p a (p a n0)))) (p (f (p a (p a (p (p (f (f (p n1 (p n1 n0)))) a) n0)))) n0))) b) (d e 41208774452609814949728318483841029 (p (f (p (f (p (p (f (f (p n1 (p n1 n0)))) a) (p a (p a n0)))) (p (f (p (f (p a (p a n0))) (p (f (p a (p a n0))) n0))) n0))) b) e)))))
noncomputable def q21 : NT := (d (d (d (d (d (d e 41208774452609814951696967896299525 (p (f (p (f (p (p (f (f (p n1 (p n1 n0)))) a) (p a (p a n0)))) (p (p (f (f (p n1 (p n1 n0)))) a) (p (f (p a (p a n0))) n0)))) b) e) 41208774452609963462986371936260357 (p (f (p (f (p (p (f (f (p n1 (p n1 n0)))) a) (p (f (p a (p a n0))) n0))) (p a (p a (p (p (f (f (p n1 (p n1 n0)))) a) n0))))) b) e) 41208774452609963462995164018931717 (p (f (p (f (p (p (f (f (p n1 (p n1 n0)))) a) (p (f (p a (p a n0))) n0))) (p (f (p a (p a n0))) (p (f (p a (p a n0))) n0)))) b) (d e 41208774452609963462995164943073285 (p (f (p (f (p (p (f (f (p n1 (p n1 n0)))) a) (p (f (p a (p a n0))) n0))) (p (f (p a (p a (p (f (p a (p a n0))) n0)))) n0))) b) e)) 41208774452609963462995302334494725 (p (f (p (f (p (p (f (f (p n1 (p n1 n0)))) a) (p (f (p a (p a n0))) n0))) (p (f (p (f (p a (p a n0))) (p a (p a n0)))) n0))) b) (d (d (d e 41208774452609963462999147352936197 (p (f (p (f (p (p (f (f (p n1 (p n1 n0)))) a) (p (f (p a (p a n0))) n0))) (p (p (f (f (p n1 (p n1 n0)))) a) (p a (p a n0))))) b) e) 41208774452610030294184558518499333 (p (f (p (f (p (p (f (f (p n1 (p n1 n0)))) a) (p (p (f (f (p n1 (p n1 n0)))) a) n0))) (p a (p a (p (f (p a (p a n0))) n0))))) b) e) 41208774452610030294184575692427013 (p (f (p (f (p (p (f (f (p n1 (p n1 n0)))) a) (p (p (f (f (p n1 (p n1 n0)))) a) n0))) (p (f (p a (p a n0))) (p a (p a n0))))) b) (d e 41208774452610030294184575694174213 (p (f (p (f (p (p (f (f (p n1 (p n1 n0)))) a) (p (p (f (f (p n1 (p n1 n0)))) a) n0))) (p (f (p a (p a (p a (p a n0))))) n0))) b) e))) 41213135699614342517364219328303365 (p (f (p (p (f (f (p n1 (p n1 n0)))) a) (p a (p a n0)))) (p (f (p (f (p a (p a n0))) (p (p (f (f (p n1 (p n1 n0)))) a) n0))) b)) (d (d (d (d e 41213135699614342519403685370296325 (p (f (p (p (f (f (p n1 (p n1 n0)))) a) (p a (p a n0)))) (p (f (p (p (f (f (p n1 (p n1 n0)))) a) (p (f (p a (p a n0))) n0))) b)) e) 41213135699614342643357780874687013 (p (f (p (p (f (f (p n1 (p n1 n0)))) a) (p a (p a n0)))) (p (p (f (f (p n1 (p n1 n0)))) a) (p (p (f (f (p n1 (p n1 n0)))) a) b))) e) 41213135699614406055645777076455429 (p (f (p (p (f (f (p n1 (p n1 n0)))) a) (p a (p a (p (f (p (f (p a (p a n0))) (p (p (f (f (p n1 (p n1 n0)))) a) n0))) n0))))) b) (d e 41213135699614406071961505412399109 (p (f (p (p (f (f (p n1 (p n1 n0)))) a) (p a (p a (p (f (p (p (f (f (p n1 (p n1 n0)))) a) (p (f (p a (p a n0))) n0))) n0))))) b) e)) 41213135699614407063594269447524613 (p (f (p (p (f (f (p n1 (p n1 n0)))) a) (p a (p a (p (p (f (f (p n1 (p n1 n0)))) a) (p (p (f (f (p n1 (p n1 n0)))) a) n0)))))) b) (d (d e 41213135699623847366442332723147301 (p (f (p (p (f (f (p n1 (p n1 n0)))) a) (p (f (p a (p a n0))) n0))) (p (f (p a (p a n0))) (p (p (f (f (p n1 (p n1 n0)))) a) b))) e) 41213135699623847366442392719167749 (p (f (p (p (f (f (p n1 (p n1 n0)))) a) (p (f (p a (p a n0))) n0))) (p (f (p a (p a (p (p (f (f (p n1 (p n1 n0)))) a) n0)))) b)) (d e 41213135699623847366451184801839109 (p (f (p (p (f (f (p n1 (p n1 n0)))) a) (p (f (p a (p a n0))) n0))) (p (f (p (f (p a (p a n0))) (p (f (p a (p a n0))) n0))) b)) e)))) 41213135699623847366455168135843589 (p (f (p (p (f (f (p n1 (p n1 n0)))) a) (p (f (p a (p a n0))) n0))) (p (f (p (p (f (f (p n1 (p n1 n0)))) a) (p a (p a n0)))) b)) (d (d (d (d (d e 41213135699623847366697265978396421 (p (f (p (p (f (f (p n1 (p n1 n0)))) a) (p (f (p a (p a n0))) n0))) (p (p (f (f (p n1 (p n1 n0)))) a) (p (f (p a (p a n0))) b))) e) 41213135699623847490478574326485253 (p (f (p (p (f (f (p n1 (p n1 n0)))) a) (p (f (p a (p a n0))) (p (f (p a (p a n0))) (p (p (f (f (p n1 (p n1 n0)))) a) n0))))) b) e) 41213135699623847490479054294648837 (p (f (p (p (f (f (p n1 (p n1 n0)))) a) (p (f (p a (p a n0))) (p (f (p a (p a (p (p (f (f (p n1 (p n1 n0)))) a) n0)))) n0)))) b) (d e 41213135699623847490549390956019717 (p (f (p (p (f (f (p n1 (p n1 n0)))) a) (p (f (p a (p a n0))) (p (f (p (f (p a (p a n0))) (p (f (p a (p a n0))) n0))) n0)))) b) e)) 41213135699623847490581257628055557 (p (f (p (p (f (f (p n1 (p n1 n0)))) a) (p (f (p a (p a n0))) (p (f (p (p (f (f (p n1 (p n1 n0)))) a) (p a (p a n0)))) n0)))) b) (d (d (d e 41213135699623847492518040368478213 (p (f (p (p (f (f (p n1 (p n1 n0)))) a) (p (f (p a (p a n0))) (p (p (f (f (p n1 (p n1 n0)))) a) (p (f (p a (p a n0))) n0))))) b) e) 41213135699628124562563580695474725 (p (f (p (p (f (f (p n1 (p n1 n0)))) a) (p (p (f (f (p n1 (p n1 n0)))) a) n0))) (p a (p a (p (p (f (f (p n1 (p n1 n0)))) a) b)))) e) 41213135699628124562564679705808645 (p (f (p (p (f (f (p n1 (p n1 n0)))) a) (p (p (f (f (p n1 (p n1 n0)))) a) n0))) (p (f (p a (p a n0))) (p (f (p a (p a n0))) b))) (d e 41213135699628124562564679821326341 (p (f (p (p (f (f (p n1 (p n1 n0)))) a) (p (p (f (f (p n1 (p n1 n0)))) a) n0))) (p (f (p a (p a (p (f (p a (p a n0))) n0)))) b)) e))) 41213135699628124562564696995254021 (p (f (p (p (f (f (p n1 (p n1 n0)))) a) (p (p (f (f (p n1 (p n1 n0)))) a) n0))) (p (f (p (f (p a (p a n0))) (p a (p a n0)))) b)) (d (d (d (d e 41213135699628124562565177622559205 (p (f (p (p (f (f (p n1 (p n1 n0)))) a) (p (p (f (f (p n1 (p n1 n0)))) a) n0))) (p (p (f (f (p n1 (p n1 n0)))) a) (p a (p a b)))) e) 41213135699628124562798145905856773 (p (f (p (p (f (f (p n1 (p n1 n0)))) a) (p (p (f (f (p n1 (p n1 n0)))) a) (p a (p a (p (p (f (f (p n1 (p n1 n0)))) a) n0)))))) b) e) 41213135699628124562806937988528133 (p (f (p (p (f (f (p n1 (p n1 n0)))) a) (p (p (f (f (p n1 (p n1 n0)))) a) (p (f (p a (p a n0))) (p (f (p a (p a n0))) n0))))) b) (d e 41213135699628124562806938912669701 (p (f (p (p (f (f (p n1 (p n1 n0)))) a) (p (p (f (f (p n1 (p n1 n0)))) a) (p (f (p a (p a (p (f (p a (p a n0))) n0)))) n0)))) b) e)) 41213135699628124562807076304091141 (p (f (p (p (f (f (p n1 (p n1 n0)))) a) (p (p (f (f (p n1 (p n1 n0)))) a) (p (f (p (f (p a (p a n0))) (p a (p a n0)))) n0)))) b) (d (d e 41213135699628124562810921322532613 (p (f (p (p (f (f (p n1 (p n1 n0)))) a) (p (p (f (f (p n1 (p n1 n0)))) a) (p (p (f (f (p n1 (p n1 n0)))) a) (p a (p a n0)))))) b) e) 41492255507908174340288182756020485 (p (p (f (f (p n1 (p n1 n0)))) a) (p a (p a (p (f (p (p (f (f (p n1 (p n1 n0)))) a) (p (p (f (f (p n1 (p n1 n0)))) a) n0))) b)))) (d e 41492255508512425129912857547739397 (p (p (f (f (p n1 (p n1 n0)))) a) (p (f (p a (p a n0))) (p (f (p (f (p a (p a n0))) (p (p (f (f (p n1 (p n1 n0)))) a) n0))) b))) e)))))
noncomputable def q22 : NT := (d (d (d (d (d (d e 41492255508512425255906419094123045 (p (p (f (f (p n1 (p n1 n0)))) a) (p (f (p a (p a n0))) (p (p (f (f (p n1 (p n1 n0)))) a) (p (p (f (f (p n1 (p n1 n0)))) a) b)))) e) 41492255508786157754395866777317925 (p (p (f (f (p n1 (p n1 n0)))) a) (p (p (f (f (p n1 (p n1 n0)))) a) (p (f (p a (p a n0))) (p (p (f (f (p n1 (p n1 n0)))) a) b)))) e) 41492255508786157754395926773338373 (p (p (f (f (p n1 (p n1 n0)))) a) (p (p (f (f (p n1 (p n1 n0)))) a) (p (f (p a (p a (p (p (f (f (p n1 (p n1 n0)))) a) n0)))) b))) (d e 41492255508786157754404718856009733 (p (p (f (f (p n1 (p n1 n0)))) a) (p (p (f (f (p n1 (p n1 n0)))) a) (p (f (p (f (p a (p a n0))) (p (f (p a (p a n0))) n0))) b))) e)) 41492255508786157754408702190014213 (p (p (f (f (p n1 (p n1 n0)))) a) (p (p (f (f (p n1 (p n1 n0)))) a) (p (f (p (p (f (f (p n1 (p n1 n0)))) a) (p a (p a n0)))) b))) (d (d (d e 41492255508786157754650800032567045 (p (p (f (f (p n1 (p n1 n0)))) a) (p (p (f (f (p n1 (p n1 n0)))) a) (p (p (f (f (p n1 (p n1 n0)))) a) (p (f (p a (p a n0))) b)))) e) 41492256532180083206236591498731557 (p (p (f (f (p n1 (p n1 (p n1 (p n1 (p (f (p (p (f (f (p n1 (p n1 n0)))) n2) (p (p (f (f (p n1 (p n1 n0)))) n2) n0))) n0))))))) a) b) e) 41492256629173359803377708465135653 (p (p (f (f (p n1 (p n1 (p (f (p n2 (p n2 n0))) (p (f (p (f (p n3 (p n3 n0))) (p (p (f (f (p n1 (p n1 n0)))) n2) n0))) n0)))))) a) b) (d e 41492256629173359936190502156468261 (p (p (f (f (p n1 (p n1 (p (f (p n2 (p n2 n0))) (p (f (p (p (f (f (p n1 (p n1 n0)))) n2) (p (f (p n3 (p n3 n0))) n0))) n0)))))) a) b) e))) 41492256629173367869250982352028197 (p (p (f (f (p n1 (p n1 (p (f (p n2 (p n2 n0))) (p (p (f (f (p n1 (p n1 n0)))) n1) (p (p (f (f (p n1 (p n1 n0)))) n1) n0))))))) a) b) (d (d (d (d e 41492256647306151956014077354738213 (p (p (f (f (p n1 (p n1 (p (p (f (f (p n1 (p n1 n0)))) n1) (p (f (p n2 (p n2 n0))) (p (p (f (f (p n1 (p n1 n0)))) n1) n0))))))) a) b) e) 41492256647306151956017917100040229 (p (p (f (f (p n1 (p n1 (p (p (f (f (p n1 (p n1 n0)))) n1) (p (f (p n2 (p n2 (p (p (f (f (p n1 (p n1 n0)))) n2) n0)))) n0)))))) a) b) e) 41492256647306151957147889669341221 (p (p (f (f (p n1 (p n1 (p (p (f (f (p n1 (p n1 n0)))) n1) (p (f (p (f (p n3 (p n3 n0))) (p (f (p n3 (p n3 n0))) n0))) n0)))))) a) b) (d e 41492256647306151957407289779658789 (p (p (f (f (p n1 (p n1 (p (p (f (f (p n1 (p n1 n0)))) n1) (p (f (p (p (f (f (p n1 (p n1 n0)))) n2) (p n2 (p n2 n0)))) n0)))))) a) b) e)) 41492256647306151972901548515368997 (p (p (f (f (p n1 (p n1 (p (p (f (f (p n1 (p n1 n0)))) n1) (p (p (f (f (p n1 (p n1 n0)))) n1) (p (f (p n2 (p n2 n0))) n0))))))) a) b) (d (d e 41492653914938442292070125886775333 (p (p (f (f (p (f (p n2 (p n2 n0))) (p n1 (p n1 (p (f (p (f (p n3 (p n3 n0))) (p (p (f (f (p n1 (p n1 n0)))) n2) n0))) n0)))))) a) b) e) 41492653914938442424882919578107941 (p (p (f (f (p (f (p n2 (p n2 n0))) (p n1 (p n1 (p (f (p (p (f (f (p n1 (p n1 n0)))) n2) (p (f (p n3 (p n3 n0))) n0))) n0)))))) a) b) (d e 41492653914938450357943399773667877 (p (p (f (f (p (f (p n2 (p n2 n0))) (p n1 (p n1 (p (p (f (f (p n1 (p n1 n0)))) n1) (p (p (f (f (p n1 (p n1 n0)))) n1) n0))))))) a) b) e)))) 41492653915127882417102898507579941 (p (p (f (f (p (f (p n2 (p n2 n0))) (p (f (p n2 (p n2 n0))) (p (f (p n2 (p n2 n0))) (p (p (f (f (p n1 (p n1 n0)))) n1) n0)))))) a) b) (d (d (d (d (d e 41492653915127882417106738252881957 (p (p (f (f (p (f (p n2 (p n2 n0))) (p (f (p n2 (p n2 n0))) (p (f (p n2 (p n2 (p (p (f (f (p n1 (p n1 n0)))) n2) n0)))) n0))))) a) b) e) 41492653915127882418236710822182949 (p (p (f (f (p (f (p n2 (p n2 n0))) (p (f (p n2 (p n2 n0))) (p (f (p (f (p n3 (p n3 n0))) (p (f (p n3 (p n3 n0))) n0))) n0))))) a) b) e) 41492653915127882418496110932500517 (p (p (f (f (p (f (p n2 (p n2 n0))) (p (f (p n2 (p n2 n0))) (p (f (p (p (f (f (p n1 (p n1 n0)))) n2) (p n2 (p n2 n0)))) n0))))) a) b) (d e 41492653915127882433990369668210725 (p (p (f (f (p (f (p n2 (p n2 n0))) (p (f (p n2 (p n2 n0))) (p (p (f (f (p n1 (p n1 n0)))) n1) (p (f (p n2 (p n2 n0))) n0)))))) a) b) e)) 41492653915163298027733406485086757 (p (p (f (f (p (f (p n2 (p n2 n0))) (p (p (f (f (p n1 (p n1 n0)))) n1) (p n1 (p n1 (p (p (f (f (p n1 (p n1 n0)))) n1) n0))))))) a) b) (d (d (d e 41492653915163298027909828838137893 (p (p (f (f (p (f (p n2 (p n2 n0))) (p (p (f (f (p n1 (p n1 n0)))) n1) (p (f (p n2 (p n2 n0))) (p (f (p n2 (p n2 n0))) n0)))))) a) b) e) 41492653915163298027909836229672997 (p (p (f (f (p (f (p n2 (p n2 n0))) (p (p (f (f (p n1 (p n1 n0)))) n1) (p (f (p n2 (p n2 (p (f (p n3 (p n3 n0))) n0)))) n0))))) a) b) e) 41492653915163298027912043329986597 (p (p (f (f (p (f (p n2 (p n2 n0))) (p (p (f (f (p n1 (p n1 n0)))) n1) (p (f (p (f (p n3 (p n3 n0))) (p n2 (p n2 n0)))) n0))))) a) b) (d e 41492653915163298027942812195811877 (p (p (f (f (p (f (p n2 (p n2 n0))) (p (p (f (f (p n1 (p n1 n0)))) n1) (p (p (f (f (p n1 (p n1 n0)))) n1) (p n1 (p n1 n0))))))) a) b) e))) 41492653930554717955109683902816293 (p (p (f (f (p (f (p n2 (p n2 (p n2 (p n2 n0))))) (p (f (p (f (p n3 (p n3 n0))) (p (p (f (f (p n1 (p n1 n0)))) n2) n0))) n0)))) a) b) (d (d (d (d e 41492653930554718087922477594148901 (p (p (f (f (p (f (p n2 (p n2 (p n2 (p n2 n0))))) (p (f (p (p (f (f (p n1 (p n1 n0)))) n2) (p (f (p n3 (p n3 n0))) n0))) n0)))) a) b) e) 41492653930554726020982957789708837 (p (p (f (f (p (f (p n2 (p n2 (p n2 (p n2 n0))))) (p (p (f (f (p n1 (p n1 n0)))) n1) (p (p (f (f (p n1 (p n1 n0)))) n1) n0))))) a) b) e) 41492653931772139787138068706525733 (p (p (f (f (p (f (p n2 (p n2 (p (f (p n3 (p n3 n0))) n0)))) (p (f (p n2 (p n2 n0))) (p (p (f (f (p n1 (p n1 n0)))) n1) n0))))) a) b) (d e 41492653931772139787141908451827749 (p (p (f (f (p (f (p n2 (p n2 (p (f (p n3 (p n3 n0))) n0)))) (p (f (p n2 (p n2 (p (p (f (f (p n1 (p n1 n0)))) n2) n0)))) n0)))) a) b) e)) 41492653931772139788271881021128741 (p (p (f (f (p (f (p n2 (p n2 (p (f (p n3 (p n3 n0))) n0)))) (p (f (p (f (p n3 (p n3 n0))) (p (f (p n3 (p n3 n0))) n0))) n0)))) a) b) (d (d e 41492653931772139788531281131446309 (p (p (f (f (p (f (p n2 (p n2 (p (f (p n3 (p n3 n0))) n0)))) (p (f (p (p (f (f (p n1 (p n1 n0)))) n2) (p n2 (p n2 n0)))) n0)))) a) b) e) 41492653931772139804025539867156517 (p (p (f (f (p (f (p n2 (p n2 (p (f (p n3 (p n3 n0))) n0)))) (p (p (f (f (p n1 (p n1 n0)))) n1) (p (f (p n2 (p n2 n0))) n0))))) a) b) (d e 41492653932050676456792850062672421 (p (p (f (f (p (f (p n2 (p n2 (p (p (f (f (p n1 (p n1 n0)))) n2) n0)))) (p n1 (p n1 (p (p (f (f (p n1 (p n1 n0)))) n1) n0)))))) a) b) e)))))
noncomputable def q23 : NT := (d (d (d (d (d (d e 41492653932050676456969279807258661 (p (p (f (f (p (f (p n2 (p n2 (p (p (f (f (p n1 (p n1 n0)))) n2) n0)))) (p (f (p n2 (p n2 (p (f (p n3 (p n3 n0))) n0)))) n0)))) a) b) e) 41492653932050676456971486907572261 (p (p (f (f (p (f (p n2 (p n2 (p (p (f (f (p n1 (p n1 n0)))) n2) n0)))) (p (f (p (f (p n3 (p n3 n0))) (p n2 (p n2 n0)))) n0)))) a) b) e) 41492653932050676457002255773397541 (p (p (f (f (p (f (p n2 (p n2 (p (p (f (f (p n1 (p n1 n0)))) n2) n0)))) (p (p (f (f (p n1 (p n1 n0)))) n1) (p n1 (p n1 n0)))))) a) b) (d e 41492658901720214736270501200298533 (p (p (f (f (p (f (p (f (p n3 (p n3 n0))) (p n2 (p n2 n0)))) (p (f (p n2 (p n2 n0))) (p (p (f (f (p n1 (p n1 n0)))) n1) n0))))) a) b) e)) 41492658901720214736274340945600549 (p (p (f (f (p (f (p (f (p n3 (p n3 n0))) (p n2 (p n2 n0)))) (p (f (p n2 (p n2 (p (p (f (f (p n1 (p n1 n0)))) n2) n0)))) n0)))) a) b) (d (d (d e 41492658901720214737404313514901541 (p (p (f (f (p (f (p (f (p n3 (p n3 n0))) (p n2 (p n2 n0)))) (p (f (p (f (p n3 (p n3 n0))) (p (f (p n3 (p n3 n0))) n0))) n0)))) a) b) e) 41492658901720214737663713625219109 (p (p (f (f (p (f (p (f (p n3 (p n3 n0))) (p n2 (p n2 n0)))) (p (f (p (p (f (f (p n1 (p n1 n0)))) n2) (p n2 (p n2 n0)))) n0)))) a) b) e) 41492658901720214753157972360929317 (p (p (f (f (p (f (p (f (p n3 (p n3 n0))) (p n2 (p n2 n0)))) (p (p (f (f (p n1 (p n1 n0)))) n1) (p (f (p n2 (p n2 n0))) n0))))) a) b) (d e 41492658901722592514243571708887589 (p (p (f (f (p (f (p (f (p n3 (p n3 n0))) (p (f (p n3 (p n3 n0))) n0))) (p n1 (p n1 (p (p (f (f (p n1 (p n1 n0)))) n1) n0)))))) a) b) e))) 41492658901722592514419994061938725 (p (p (f (f (p (f (p (f (p n3 (p n3 n0))) (p (f (p n3 (p n3 n0))) n0))) (p (f (p n2 (p n2 n0))) (p (f (p n2 (p n2 n0))) n0))))) a) b) (d (d (d (d e 41492658901722592514420001453473829 (p (p (f (f (p (f (p (f (p n3 (p n3 n0))) (p (f (p n3 (p n3 n0))) n0))) (p (f (p n2 (p n2 (p (f (p n3 (p n3 n0))) n0)))) n0)))) a) b) e) 41492658901722592514422208553787429 (p (p (f (f (p (f (p (f (p n3 (p n3 n0))) (p (f (p n3 (p n3 n0))) n0))) (p (f (p (f (p n3 (p n3 n0))) (p n2 (p n2 n0)))) n0)))) a) b) e) 41492658901722592514452977419612709 (p (p (f (f (p (f (p (f (p n3 (p n3 n0))) (p (f (p n3 (p n3 n0))) n0))) (p (p (f (f (p n1 (p n1 n0)))) n1) (p n1 (p n1 n0)))))) a) b) (d e 41492658901723136531352913556774949 (p (p (f (f (p (f (p (f (p n3 (p n3 n0))) (p (p (f (f (p n1 (p n1 n0)))) n2) n0))) (p n1 (p n1 (p (f (p n2 (p n2 n0))) n0)))))) a) b) e)) 41492658901723136531353258147246629 (p (p (f (f (p (f (p (f (p n3 (p n3 n0))) (p (p (f (f (p n1 (p n1 n0)))) n2) n0))) (p (f (p n2 (p n2 n0))) (p n1 (p n1 n0)))))) a) b) (d (d e 41492658901723136531353258160791589 (p (p (f (f (p (f (p (f (p n3 (p n3 n0))) (p (p (f (f (p n1 (p n1 n0)))) n2) n0))) (p (f (p n2 (p n2 (p n2 (p n2 n0))))) n0)))) a) b) e) 41492660042576342676416227587162661 (p (p (f (f (p (f (p (p (f (f (p n1 (p n1 n0)))) n2) (p n2 (p n2 n0)))) (p n1 (p n1 (p (p (f (f (p n1 (p n1 n0)))) n1) n0)))))) a) b) (d e 41492660042576342676592649940213797 (p (p (f (f (p (f (p (p (f (f (p n1 (p n1 n0)))) n2) (p n2 (p n2 n0)))) (p (f (p n2 (p n2 n0))) (p (f (p n2 (p n2 n0))) n0))))) a) b) e)))) 41492660042576342676592657331748901 (p (p (f (f (p (f (p (p (f (f (p n1 (p n1 n0)))) n2) (p n2 (p n2 n0)))) (p (f (p n2 (p n2 (p (f (p n3 (p n3 n0))) n0)))) n0)))) a) b) (d (d (d (d (d e 41492660042576342676594864432062501 (p (p (f (f (p (f (p (p (f (f (p n1 (p n1 n0)))) n2) (p n2 (p n2 n0)))) (p (f (p (f (p n3 (p n3 n0))) (p n2 (p n2 n0)))) n0)))) a) b) e) 41492660042576342676625633297887781 (p (p (f (f (p (f (p (p (f (f (p n1 (p n1 n0)))) n2) (p n2 (p n2 n0)))) (p (p (f (f (p n1 (p n1 n0)))) n1) (p n1 (p n1 n0)))))) a) b) e) 41492660042576347320690253593550885 (p (p (f (f (p (f (p (p (f (f (p n1 (p n1 n0)))) n2) (p (f (p n3 (p n3 n0))) n0))) (p n1 (p n1 (p (f (p n2 (p n2 n0))) n0)))))) a) b) (d e 41492660042576347320690598184022565 (p (p (f (f (p (f (p (p (f (f (p n1 (p n1 n0)))) n2) (p (f (p n3 (p n3 n0))) n0))) (p (f (p n2 (p n2 n0))) (p n1 (p n1 n0)))))) a) b) e)) 41492660042576347320690598197567525 (p (p (f (f (p (f (p (p (f (f (p n1 (p n1 n0)))) n2) (p (f (p n3 (p n3 n0))) n0))) (p (f (p n2 (p n2 (p n2 (p n2 n0))))) n0)))) a) b) (d (d (d e 41492660042576348383223670292410917 (p (p (f (f (p (f (p (p (f (f (p n1 (p n1 n0)))) n2) (p (p (f (f (p n1 (p n1 n0)))) n2) n0))) (p n1 (p n1 (p n1 (p n1 n0))))))) a) b) e) 41492728187046547408168942881767973 (p (p (f (f (p (p (f (f (p n1 (p n1 n0)))) n1) (p n1 (p n1 (p (f (p n2 (p n2 n0))) (p (p (f (f (p n1 (p n1 n0)))) n1) n0))))))) a) b) e) 41492728187046547408172782627069989 (p (p (f (f (p (p (f (f (p n1 (p n1 n0)))) n1) (p n1 (p n1 (p (f (p n2 (p n2 (p (p (f (f (p n1 (p n1 n0)))) n2) n0)))) n0)))))) a) b) (d e 41492728187046547409302755196370981 (p (p (f (f (p (p (f (f (p n1 (p n1 n0)))) n1) (p n1 (p n1 (p (f (p (f (p n3 (p n3 n0))) (p (f (p n3 (p n3 n0))) n0))) n0)))))) a) b) e))) 41492728187046547409562155306688549 (p (p (f (f (p (p (f (f (p n1 (p n1 n0)))) n1) (p n1 (p n1 (p (f (p (p (f (f (p n1 (p n1 n0)))) n2) (p n2 (p n2 n0)))) n0)))))) a) b) (d (d (d (d e 41492728187046547425056414042398757 (p (p (f (f (p (p (f (f (p n1 (p n1 n0)))) n1) (p n1 (p n1 (p (p (f (f (p n1 (p n1 n0)))) n1) (p (f (p n2 (p n2 n0))) n0))))))) a) b) e) 41492728187046917409370537585312293 (p (p (f (f (p (p (f (f (p n1 (p n1 n0)))) n1) (p (f (p n2 (p n2 n0))) (p n1 (p n1 (p (p (f (f (p n1 (p n1 n0)))) n1) n0))))))) a) b) e) 41492728187046917409546959938363429 (p (p (f (f (p (p (f (f (p n1 (p n1 n0)))) n1) (p (f (p n2 (p n2 n0))) (p (f (p n2 (p n2 n0))) (p (f (p n2 (p n2 n0))) n0)))))) a) b) (d e 41492728187046917409546967329898533 (p (p (f (f (p (p (f (f (p n1 (p n1 n0)))) n1) (p (f (p n2 (p n2 n0))) (p (f (p n2 (p n2 (p (f (p n3 (p n3 n0))) n0)))) n0))))) a) b) e)) 41492728187046917409549174430212133 (p (p (f (f (p (p (f (f (p n1 (p n1 n0)))) n1) (p (f (p n2 (p n2 n0))) (p (f (p (f (p n3 (p n3 n0))) (p n2 (p n2 n0)))) n0))))) a) b) (d (d e 41492728187046917409579943296037413 (p (p (f (f (p (p (f (f (p n1 (p n1 n0)))) n1) (p (f (p n2 (p n2 n0))) (p (p (f (f (p n1 (p n1 n0)))) n1) (p n1 (p n1 n0))))))) a) b) e) 41492728187046986580661472649256997 (p (p (f (f (p (p (f (f (p n1 (p n1 n0)))) n1) (p (p (f (f (p n1 (p n1 n0)))) n1) (p n1 (p n1 (p (f (p n2 (p n2 n0))) n0))))))) a) b) (d e 41492728187046986580661817239728677 (p (p (f (f (p (p (f (f (p n1 (p n1 n0)))) n1) (p (p (f (f (p n1 (p n1 n0)))) n1) (p (f (p n2 (p n2 n0))) (p n1 (p n1 n0))))))) a) b) e)))))
noncomputable def q24 : NT := (d (d (d (d (d (d e 329668345842963761833564847638114853 (p (f (p (f (p a (p a n0))) (p (p (f (f (p n1 (p n1 n0)))) a) n0))) (p (p (f (f (p n1 (p n1 n0)))) (p (f (f (p n1 (p n1 n0)))) a)) b)) e) 329668345842963762840131045459202309 (p (f (p (f (p a (p a n0))) (p (p (f (f (p n1 (p n1 n0)))) a) (p (p (f (f (p n1 (p n1 n0)))) (p (f (f (p n1 (p n1 n0)))) a)) n0)))) b) e) 329668354489301533506545717072072965 (p (f (p (f (p a (p a (p (p (f (f (p n1 (p n1 n0)))) a) n0)))) (p (p (f (f (p n1 (p n1 n0)))) (p (f (f (p n1 (p n1 n0)))) a)) n0))) b) (d e 329669621561949295026259129174298885 (p (f (p (f (p (f (p a (p a n0))) (p (f (p a (p a n0))) n0))) (p (p (f (f (p n1 (p n1 n0)))) (p (f (f (p n1 (p n1 n0)))) a)) n0))) b) e)) 329669621562223035561805471318702085 (p (f (p (f (p (f (p a (p a n0))) (p (p (f (f (p n1 (p n1 n0)))) a) n0))) (p (p (f (f (p n1 (p n1 n0)))) (f (p a (p a n0)))) n0))) b) (d (d (d e 329670195620878519613575746256605445 (p (f (p (f (p (p (f (f (p n1 (p n1 n0)))) a) (p a (p a n0)))) (p (p (f (f (p n1 (p n1 n0)))) (p (f (f (p n1 (p n1 n0)))) a)) n0))) b) e) 329670195620879707703993178827683845 (p (f (p (f (p (p (f (f (p n1 (p n1 n0)))) a) (p (f (p a (p a n0))) n0))) (p (p (f (f (p n1 (p n1 n0)))) (f (p a (p a n0)))) n0))) b) e) 329705085596990778933578128212947493 (p (f (p (p (f (f (p n1 (p n1 n0)))) a) (p (f (p a (p a n0))) n0))) (p (p (f (f (p n1 (p n1 n0)))) (p (f (f (p n1 (p n1 n0)))) a)) b)) (d e 329705085596990779940144326034034949 (p (f (p (p (f (f (p n1 (p n1 n0)))) a) (p (f (p a (p a n0))) (p (p (f (f (p n1 (p n1 n0)))) (p (f (f (p n1 (p n1 n0)))) a)) n0)))) b) e))) 329705085597024996500521420980997893 (p (f (p (p (f (f (p n1 (p n1 n0)))) a) (p (p (f (f (p n1 (p n1 n0)))) a) n0))) (p (p (f (f (p n1 (p n1 n0)))) (f (p a (p a n0)))) b)) (d (d (d (d e 329705085597024996502487370584455173 (p (f (p (p (f (f (p n1 (p n1 n0)))) a) (p (p (f (f (p n1 (p n1 n0)))) a) (p (p (f (f (p n1 (p n1 n0)))) (f (p a (p a n0)))) n0)))) b) e) 329705085601750443417372271325251589 (p (f (p (p (f (f (p n1 (p n1 n0)))) (f (p a (p a n0)))) (p (f (p (f (p a (p a n0))) (p (p (f (f (p n1 (p n1 n0)))) a) n0))) n0))) b) e) 329705085601750443433687999661195269 (p (f (p (p (f (f (p n1 (p n1 n0)))) (f (p a (p a n0)))) (p (f (p (p (f (f (p n1 (p n1 n0)))) a) (p (f (p a (p a n0))) n0))) n0))) b) (d e 329705085601750444425320763696320773 (p (f (p (p (f (f (p n1 (p n1 n0)))) (f (p a (p a n0)))) (p (p (f (f (p n1 (p n1 n0)))) a) (p (p (f (f (p n1 (p n1 n0)))) a) n0)))) b) e)) 329705085603940304413236345161879813 (p (f (p (p (f (f (p n1 (p n1 n0)))) (p (f (f (p n1 (p n1 n0)))) a)) (p (f (p a (p a n0))) (p (p (f (f (p n1 (p n1 n0)))) a) n0)))) b) (d (d (d e 329705085603940304413236825130043397 (p (f (p (p (f (f (p n1 (p n1 n0)))) (p (f (f (p n1 (p n1 n0)))) a)) (p (f (p a (p a (p (p (f (f (p n1 (p n1 n0)))) a) n0)))) n0))) b) e) 329705085603940304413307161791414277 (p (f (p (p (f (f (p n1 (p n1 n0)))) (p (f (f (p n1 (p n1 n0)))) a)) (p (f (p (f (p a (p a n0))) (p (f (p a (p a n0))) n0))) n0))) b) e) 329705085603940304413339028463450117 (p (f (p (p (f (f (p n1 (p n1 n0)))) (p (f (f (p n1 (p n1 n0)))) a)) (p (f (p (p (f (f (p n1 (p n1 n0)))) a) (p a (p a n0)))) n0))) b) (d e 329705085603940304415275811203872773 (p (f (p (p (f (f (p n1 (p n1 n0)))) (p (f (f (p n1 (p n1 n0)))) a)) (p (p (f (f (p n1 (p n1 n0)))) a) (p (f (p a (p a n0))) n0)))) b) e)))) 331938044070289262037206400646312485 (p (p (f (f (p n1 (p n1 n0)))) a) (p (p (f (f (p n1 (p n1 n0)))) a) (p (p (f (f (p n1 (p n1 n0)))) (p (f (f (p n1 (p n1 n0)))) a)) b))) (d (d (d (d (d e 331938044372717865634046662408638725 (p (p (f (f (p n1 (p n1 n0)))) (f (p a (p a n0)))) (p (f (p (p (f (f (p n1 (p n1 n0)))) a) (p (p (f (f (p n1 (p n1 n0)))) a) n0))) b)) e) 331938044512868968329673038742655237 (p (p (f (f (p n1 (p n1 n0)))) (p (f (f (p n1 (p n1 n0)))) a)) (p (f (p (f (p a (p a n0))) (p (p (f (f (p n1 (p n1 n0)))) a) n0))) b)) e) 331938044512868968331712504784648197 (p (p (f (f (p n1 (p n1 n0)))) (p (f (f (p n1 (p n1 n0)))) a)) (p (f (p (p (f (f (p n1 (p n1 n0)))) a) (p (f (p a (p a n0))) n0))) b)) (d e 331938044512868968455666600289038885 (p (p (f (f (p n1 (p n1 n0)))) (p (f (f (p n1 (p n1 n0)))) a)) (p (p (f (f (p n1 (p n1 n0)))) a) (p (p (f (f (p n1 (p n1 n0)))) a) b))) e)) 331938053178449215783212438586688037 (p (p (f (f (p n1 (p n1 (p (p (f (f (p n1 (p n1 n0)))) n1) (p (p (f (f (p n1 (p n1 n0)))) (p (f (f (p n1 (p n1 n0)))) n1)) n0)))))) a) b) (d (d (d e 331941231321023059471923007809421861 (p (p (f (f (p (f (p n2 (p n2 n0))) (p (f (p n2 (p n2 n0))) (p (p (f (f (p n1 (p n1 n0)))) (p (f (f (p n1 (p n1 n0)))) n1)) n0))))) a) b) e) 331941231321306384223542497650647077 (p (p (f (f (p (f (p n2 (p n2 n0))) (p (p (f (f (p n1 (p n1 n0)))) n1) (p (p (f (f (p n1 (p n1 n0)))) (f (p n2 (p n2 n0)))) n0))))) a) b) e) 331941231454177118432204369400988197 (p (p (f (f (p (f (p n2 (p n2 (p (f (p n3 (p n3 n0))) n0)))) (p (p (f (f (p n1 (p n1 n0)))) (p (f (f (p n1 (p n1 n0)))) n1)) n0)))) a) b) (d e 331941231456405411656018046271332389 (p (p (f (f (p (f (p n2 (p n2 (p (p (f (f (p n1 (p n1 n0)))) n2) n0)))) (p (p (f (f (p n1 (p n1 n0)))) (f (p n2 (p n2 n0)))) n0)))) a) b) e))) 331941271213761718025263829351170597 (p (p (f (f (p (f (p (f (p n3 (p n3 n0))) (p n2 (p n2 n0)))) (p (p (f (f (p n1 (p n1 n0)))) (p (f (f (p n1 (p n1 n0)))) n1)) n0)))) a) b) (d (d (d (d e 331941271213780740115623819441053733 (p (p (f (f (p (f (p (f (p n3 (p n3 n0))) (p (f (p n3 (p n3 n0))) n0))) (p (p (f (f (p n1 (p n1 n0)))) (f (p n2 (p n2 n0)))) n0)))) a) b) e) 331941280340610741413005066467254309 (p (p (f (f (p (f (p (p (f (f (p n1 (p n1 n0)))) n2) (p n2 (p n2 n0)))) (p (p (f (f (p n1 (p n1 n0)))) (f (p n2 (p n2 n0)))) n0)))) a) b) e) 331941825496372379400451362802926117 (p (p (f (f (p (p (f (f (p n1 (p n1 n0)))) n1) (p n1 (p n1 (p (p (f (f (p n1 (p n1 n0)))) (p (f (f (p n1 (p n1 n0)))) n1)) n0)))))) a) b) (d e 331941825496375339276639546452451365 (p (p (f (f (p (p (f (f (p n1 (p n1 n0)))) n1) (p (f (p n2 (p n2 n0))) (p (p (f (f (p n1 (p n1 n0)))) (f (p n2 (p n2 n0)))) n0))))) a) b) e)) 331941825496561865509531484134605349 (p (p (f (f (p (p (f (f (p n1 (p n1 n0)))) (f (p n2 (p n2 n0)))) (p (f (p n2 (p n2 n0))) (p (p (f (f (p n1 (p n1 n0)))) n1) n0))))) a) b) (d (d e 331941825496561865509535323879907365 (p (p (f (f (p (p (f (f (p n1 (p n1 n0)))) (f (p n2 (p n2 n0)))) (p (f (p n2 (p n2 (p (p (f (f (p n1 (p n1 n0)))) n2) n0)))) n0)))) a) b) e) 331941825496561865510665296449208357 (p (p (f (f (p (p (f (f (p n1 (p n1 n0)))) (f (p n2 (p n2 n0)))) (p (f (p (f (p n3 (p n3 n0))) (p (f (p n3 (p n3 n0))) n0))) n0)))) a) b) (d e 331941825496561865510924696559525925 (p (p (f (f (p (p (f (f (p n1 (p n1 n0)))) (f (p n2 (p n2 n0)))) (p (f (p (p (f (f (p n1 (p n1 n0)))) n2) (p n2 (p n2 n0)))) n0)))) a) b) e)))))
noncomputable def q25 : NT := (d (d (d (d (d (d e 331941825496597281120161992112112165 (p (p (f (f (p (p (f (f (p n1 (p n1 n0)))) (p (f (f (p n1 (p n1 n0)))) n1)) (p n1 (p n1 (p (p (f (f (p n1 (p n1 n0)))) n1) n0)))))) a) b) e) 331941825496597281120338414465163301 (p (p (f (f (p (p (f (f (p n1 (p n1 n0)))) (p (f (f (p n1 (p n1 n0)))) n1)) (p (f (p n2 (p n2 n0))) (p (f (p n2 (p n2 n0))) n0))))) a) b) e) 331941825496597281120338421856698405 (p (p (f (f (p (p (f (f (p n1 (p n1 n0)))) (p (f (f (p n1 (p n1 n0)))) n1)) (p (f (p n2 (p n2 (p (f (p n3 (p n3 n0))) n0)))) n0)))) a) b) (d e 331941825496597281120340628957012005 (p (p (f (f (p (p (f (f (p n1 (p n1 n0)))) (p (f (f (p n1 (p n1 n0)))) n1)) (p (f (p (f (p n3 (p n3 n0))) (p n2 (p n2 n0)))) n0)))) a) b) e)) 331941825496597281120371397822837285 (p (p (f (f (p (p (f (f (p n1 (p n1 n0)))) (p (f (f (p n1 (p n1 n0)))) n1)) (p (p (f (f (p n1 (p n1 n0)))) n1) (p n1 (p n1 n0)))))) a) b) (d (d (d e 2637640684831522435322206492717191429 (p (f (p (p (f (f (p n1 (p n1 n0)))) (p (f (f (p n1 (p n1 n0)))) a)) (p (p (f (f (p n1 (p n1 n0)))) (p (f (f (p n1 (p n1 n0)))) a)) n0))) b) e) 2655534603972494924211351692825625125 (p (p (f (f (p (p (f (f (p n1 (p n1 n0)))) (f (p n2 (p n2 n0)))) (p (p (f (f (p n1 (p n1 n0)))) (p (f (f (p n1 (p n1 n0)))) n1)) n0)))) a) b) e) 2655534603972778248962971182666850341 (p (p (f (f (p (p (f (f (p n1 (p n1 n0)))) (p (f (f (p n1 (p n1 n0)))) n1)) (p (p (f (f (p n1 (p n1 n0)))) (f (p n2 (p n2 n0)))) n0)))) a) b) (d e 21093548787863699625905192444400996613 (p (f (p a (p a n0))) (p (p (f (f (p n1 (p n1 n0)))) a) (p (f (p (p (f (f (p n1 (p n1 n0)))) a) (p (p (f (f (p n1 (p n1 n0)))) a) n0))) b))) e))) 21093584203263208275539687370719203589 (p (f (p a (p a (p (p (f (f (p n1 (p n1 n0)))) a) n0)))) (p (f (p (p (f (f (p n1 (p n1 n0)))) a) (p (p (f (f (p n1 (p n1 n0)))) a) n0))) b)) (d (d (d (d e 21093584203263240814449291239083509765 (p (f (p a (p a (p (p (f (f (p n1 (p n1 n0)))) a) (p (f (p (p (f (f (p n1 (p n1 n0)))) a) (p (p (f (f (p n1 (p n1 n0)))) a) n0))) n0))))) b) e) 21098774132828439460285823341436571909 (p (f (p (f (p a (p a n0))) (p (f (p a (p a n0))) n0))) (p (f (p (p (f (f (p n1 (p n1 n0)))) a) (p (p (f (f (p n1 (p n1 n0)))) a) n0))) b)) e) 21098774132828471999195427209800878085 (p (f (p (f (p a (p a n0))) (p (f (p a (p a n0))) (p (f (p (p (f (f (p n1 (p n1 n0)))) a) (p (p (f (f (p n1 (p n1 n0)))) a) n0))) n0)))) b) (d e 21098774133949680757222156662724858117 (p (f (p (f (p a (p a n0))) (p (p (f (f (p n1 (p n1 n0)))) a) n0))) (p (f (p (f (p a (p a n0))) (p (p (f (f (p n1 (p n1 n0)))) a) n0))) b)) e)) 21098774133949680757224196128766851077 (p (f (p (f (p a (p a n0))) (p (p (f (f (p n1 (p n1 n0)))) a) n0))) (p (f (p (p (f (f (p n1 (p n1 n0)))) a) (p (f (p a (p a n0))) n0))) b)) (d (d e 21098774133949680757348150224271241765 (p (f (p (f (p a (p a n0))) (p (p (f (f (p n1 (p n1 n0)))) a) n0))) (p (p (f (f (p n1 (p n1 n0)))) a) (p (p (f (f (p n1 (p n1 n0)))) a) b))) e) 21098774133949680820760438220473010181 (p (f (p (f (p a (p a n0))) (p (p (f (f (p n1 (p n1 n0)))) a) (p (f (p (f (p a (p a n0))) (p (p (f (f (p n1 (p n1 n0)))) a) n0))) n0)))) b) (d e 21098774133949680820776753948808953861 (p (f (p (f (p a (p a n0))) (p (p (f (f (p n1 (p n1 n0)))) a) (p (f (p (p (f (f (p n1 (p n1 n0)))) a) (p (f (p a (p a n0))) n0))) n0)))) b) e)))) 21098774133949680821768386712844079365 (p (f (p (f (p a (p a n0))) (p (p (f (f (p n1 (p n1 n0)))) a) (p (p (f (f (p n1 (p n1 n0)))) a) (p (p (f (f (p n1 (p n1 n0)))) a) n0))))) b) (d (d (d (d (d e 21098774678345367767920310633390442501 (p (f (p (f (p a (p a (p (f (p a (p a n0))) n0)))) (p (f (p (p (f (f (p n1 (p n1 n0)))) a) (p (p (f (f (p n1 (p n1 n0)))) a) n0))) n0))) b) e) 21098774687315298143410977203696732165 (p (f (p (f (p a (p a (p (p (f (f (p n1 (p n1 n0)))) a) n0)))) (p (f (p (f (p a (p a n0))) (p (p (f (f (p n1 (p n1 n0)))) a) n0))) n0))) b) e) 21098774687315298143427292932032675845 (p (f (p (f (p a (p a (p (p (f (f (p n1 (p n1 n0)))) a) n0)))) (p (f (p (p (f (f (p n1 (p n1 n0)))) a) (p (f (p a (p a n0))) n0))) n0))) b) (d e 21098774687315298144418925696067801349 (p (f (p (f (p a (p a (p (p (f (f (p n1 (p n1 n0)))) a) n0)))) (p (p (f (f (p n1 (p n1 n0)))) a) (p (p (f (f (p n1 (p n1 n0)))) a) n0)))) b) e)) 21098855779925823027166077906639947781 (p (f (p (f (p (f (p a (p a n0))) (p a (p a n0)))) (p (f (p (p (f (f (p n1 (p n1 n0)))) a) (p (p (f (f (p n1 (p n1 n0)))) a) n0))) n0))) b) (d (d (d e 21098855779964754880672635578239191045 (p (f (p (f (p (f (p a (p a n0))) (p (f (p a (p a n0))) n0))) (p (f (p (f (p a (p a n0))) (p (p (f (f (p n1 (p n1 n0)))) a) n0))) n0))) b) e) 21098855779964754880688951306575134725 (p (f (p (f (p (f (p a (p a n0))) (p (f (p a (p a n0))) n0))) (p (f (p (p (f (f (p n1 (p n1 n0)))) a) (p (f (p a (p a n0))) n0))) n0))) b) e) 21098855779964754881680584070610260229 (p (f (p (f (p (f (p a (p a n0))) (p (f (p a (p a n0))) n0))) (p (p (f (f (p n1 (p n1 n0)))) a) (p (p (f (f (p n1 (p n1 n0)))) a) n0)))) b) (d e 21098855779982274275953510698090729733 (p (f (p (f (p (f (p a (p a n0))) (p (p (f (f (p n1 (p n1 n0)))) a) n0))) (p (f (p a (p a n0))) (p (p (f (f (p n1 (p n1 n0)))) a) n0)))) b) e))) 21098855779982274275953511178058893317 (p (f (p (f (p (f (p a (p a n0))) (p (p (f (f (p n1 (p n1 n0)))) a) n0))) (p (f (p a (p a (p (p (f (f (p n1 (p n1 n0)))) a) n0)))) n0))) b) (d (d (d (d e 21098855779982274275953581514720264197 (p (f (p (f (p (f (p a (p a n0))) (p (p (f (f (p n1 (p n1 n0)))) a) n0))) (p (f (p (f (p a (p a n0))) (p (f (p a (p a n0))) n0))) n0))) b) e) 21098855779982274275953613381392300037 (p (f (p (f (p (f (p a (p a n0))) (p (p (f (f (p n1 (p n1 n0)))) a) n0))) (p (f (p (p (f (f (p n1 (p n1 n0)))) a) (p a (p a n0)))) n0))) b) e) 21098855779982274275955550164132722693 (p (f (p (f (p (f (p a (p a n0))) (p (p (f (f (p n1 (p n1 n0)))) a) n0))) (p (p (f (f (p n1 (p n1 n0)))) a) (p (f (p a (p a n0))) n0)))) b) (d e 21098892519736225254260899071506810885 (p (f (p (f (p (p (f (f (p n1 (p n1 n0)))) a) (p a (p a n0)))) (p (f (p (f (p a (p a n0))) (p (p (f (f (p n1 (p n1 n0)))) a) n0))) n0))) b) e)) 21098892519736225254277214799842754565 (p (f (p (f (p (p (f (f (p n1 (p n1 n0)))) a) (p a (p a n0)))) (p (f (p (p (f (f (p n1 (p n1 n0)))) a) (p (f (p a (p a n0))) n0))) n0))) b) (d (d e 21098892519736225255268847563877880069 (p (f (p (f (p (p (f (f (p n1 (p n1 n0)))) a) (p a (p a n0)))) (p (p (f (f (p n1 (p n1 n0)))) a) (p (p (f (f (p n1 (p n1 n0)))) a) n0)))) b) e) 21098892519736301293053523978665562373 (p (f (p (f (p (p (f (f (p n1 (p n1 n0)))) a) (p (f (p a (p a n0))) n0))) (p (f (p a (p a n0))) (p (p (f (f (p n1 (p n1 n0)))) a) n0)))) b) (d e 21098892519736301293053524458633725957 (p (f (p (f (p (p (f (f (p n1 (p n1 n0)))) a) (p (f (p a (p a n0))) n0))) (p (f (p a (p a (p (p (f (f (p n1 (p n1 n0)))) a) n0)))) n0))) b) e)))))
noncomputable def q26 : NT := (d (d (d (d (d (d e 21098892519736301293053626661967132677 (p (f (p (f (p (p (f (f (p n1 (p n1 n0)))) a) (p (f (p a (p a n0))) n0))) (p (f (p (p (f (f (p n1 (p n1 n0)))) a) (p a (p a n0)))) n0))) b) e) 21098892519736301293055563444707555333 (p (f (p (f (p (p (f (f (p n1 (p n1 n0)))) a) (p (f (p a (p a n0))) n0))) (p (p (f (f (p n1 (p n1 n0)))) a) (p (f (p a (p a n0))) n0)))) b) e) 21098892519736335510622493962444181765 (p (f (p (f (p (p (f (f (p n1 (p n1 n0)))) a) (p (p (f (f (p n1 (p n1 n0)))) a) n0))) (p a (p a (p (p (f (f (p n1 (p n1 n0)))) a) n0))))) b) (d e 21098892519736335510622502754526853125 (p (f (p (f (p (p (f (f (p n1 (p n1 n0)))) a) (p (p (f (f (p n1 (p n1 n0)))) a) n0))) (p (f (p a (p a n0))) (p (f (p a (p a n0))) n0)))) b) e)) 21098892519736335510622502755450994693 (p (f (p (f (p (p (f (f (p n1 (p n1 n0)))) a) (p (p (f (f (p n1 (p n1 n0)))) a) n0))) (p (f (p a (p a (p (f (p a (p a n0))) n0)))) n0))) b) (d (d (d e 21098892519736335510622502892842416133 (p (f (p (f (p (p (f (f (p n1 (p n1 n0)))) a) (p (p (f (f (p n1 (p n1 n0)))) a) n0))) (p (f (p (f (p a (p a n0))) (p a (p a n0)))) n0))) b) e) 21098892519736335510622506737860857605 (p (f (p (f (p (p (f (f (p n1 (p n1 n0)))) a) (p (p (f (f (p n1 (p n1 n0)))) a) n0))) (p (p (f (f (p n1 (p n1 n0)))) a) (p a (p a n0))))) b) e) 21101125478202543369934686910564241669 (p (f (p (p (f (f (p n1 (p n1 n0)))) a) (p a (p a n0)))) (p (f (p (p (f (f (p n1 (p n1 n0)))) a) (p (p (f (f (p n1 (p n1 n0)))) a) n0))) b)) (d e 21101125478202575908844290778928547845 (p (f (p (p (f (f (p n1 (p n1 n0)))) a) (p a (p a (p (f (p (p (f (f (p n1 (p n1 n0)))) a) (p (p (f (f (p n1 (p n1 n0)))) a) n0))) n0))))) b) e))) 21101125478207409851623006619514147077 (p (f (p (p (f (f (p n1 (p n1 n0)))) a) (p (f (p a (p a n0))) n0))) (p (f (p (f (p a (p a n0))) (p (p (f (f (p n1 (p n1 n0)))) a) n0))) b)) (d (d (d (d e 21101125478207409851625046085556140037 (p (f (p (p (f (f (p n1 (p n1 n0)))) a) (p (f (p a (p a n0))) n0))) (p (f (p (p (f (f (p n1 (p n1 n0)))) a) (p (f (p a (p a n0))) n0))) b)) e) 21101125478207409851749000181060530725 (p (f (p (p (f (f (p n1 (p n1 n0)))) a) (p (f (p a (p a n0))) n0))) (p (p (f (f (p n1 (p n1 n0)))) a) (p (p (f (f (p n1 (p n1 n0)))) a) b))) e) 21101125478207409915161288177262299141 (p (f (p (p (f (f (p n1 (p n1 n0)))) a) (p (f (p a (p a n0))) (p (f (p (f (p a (p a n0))) (p (p (f (f (p n1 (p n1 n0)))) a) n0))) n0)))) b) (d e 21101125478207409915177603905598242821 (p (f (p (p (f (f (p n1 (p n1 n0)))) a) (p (f (p a (p a n0))) (p (f (p (p (f (f (p n1 (p n1 n0)))) a) (p (f (p a (p a n0))) n0))) n0)))) b) e)) 21101125478207409916169236669633368325 (p (f (p (p (f (f (p n1 (p n1 n0)))) a) (p (f (p a (p a n0))) (p (p (f (f (p n1 (p n1 n0)))) a) (p (p (f (f (p n1 (p n1 n0)))) a) n0))))) b) (d (d e 21101125478209599776033116009495589413 (p (f (p (p (f (f (p n1 (p n1 n0)))) a) (p (p (f (f (p n1 (p n1 n0)))) a) n0))) (p (f (p a (p a n0))) (p (p (f (f (p n1 (p n1 n0)))) a) b))) e) 21101125478209599776033116069491609861 (p (f (p (p (f (f (p n1 (p n1 n0)))) a) (p (p (f (f (p n1 (p n1 n0)))) a) n0))) (p (f (p a (p a (p (p (f (f (p n1 (p n1 n0)))) a) n0)))) b)) (d e 21101125478209599776033124861574281221 (p (f (p (p (f (f (p n1 (p n1 n0)))) a) (p (p (f (f (p n1 (p n1 n0)))) a) n0))) (p (f (p (f (p a (p a n0))) (p (f (p a (p a n0))) n0))) b)) e)))) 21101125478209599776033128844908285701 (p (f (p (p (f (f (p n1 (p n1 n0)))) a) (p (p (f (f (p n1 (p n1 n0)))) a) n0))) (p (f (p (p (f (f (p n1 (p n1 n0)))) a) (p a (p a n0)))) b)) (d (d (d (d (d e 21101125478209599776033370942750838533 (p (f (p (p (f (f (p n1 (p n1 n0)))) a) (p (p (f (f (p n1 (p n1 n0)))) a) n0))) (p (p (f (f (p n1 (p n1 n0)))) a) (p (f (p a (p a n0))) b))) e) 21101125478209599776157152251098927365 (p (f (p (p (f (f (p n1 (p n1 n0)))) a) (p (p (f (f (p n1 (p n1 n0)))) a) (p (f (p a (p a n0))) (p (p (f (f (p n1 (p n1 n0)))) a) n0))))) b) e) 21101125478209599776157152731067090949 (p (f (p (p (f (f (p n1 (p n1 n0)))) a) (p (p (f (f (p n1 (p n1 n0)))) a) (p (f (p a (p a (p (p (f (f (p n1 (p n1 n0)))) a) n0)))) n0)))) b) (d e 21101125478209599776157223067728461829 (p (f (p (p (f (f (p n1 (p n1 n0)))) a) (p (p (f (f (p n1 (p n1 n0)))) a) (p (f (p (f (p a (p a n0))) (p (f (p a (p a n0))) n0))) n0)))) b) e)) 21101125478209599776157254934400497669 (p (f (p (p (f (f (p n1 (p n1 n0)))) a) (p (p (f (f (p n1 (p n1 n0)))) a) (p (f (p (p (f (f (p n1 (p n1 n0)))) a) (p a (p a n0)))) n0)))) b) (d (d (d e 21101125478209599776159191717140920325 (p (f (p (p (f (f (p n1 (p n1 n0)))) a) (p (p (f (f (p n1 (p n1 n0)))) a) (p (p (f (f (p n1 (p n1 n0)))) a) (p (f (p a (p a n0))) n0))))) b) e) 21244034820358361667559589678915490053 (p (p (f (f (p n1 (p n1 n0)))) a) (p (f (p a (p a n0))) (p (f (p (p (f (f (p n1 (p n1 n0)))) a) (p (p (f (f (p n1 (p n1 n0)))) a) n0))) b))) e) 21244034820498512770255216055249506565 (p (p (f (f (p n1 (p n1 n0)))) a) (p (p (f (f (p n1 (p n1 n0)))) a) (p (f (p (f (p a (p a n0))) (p (p (f (f (p n1 (p n1 n0)))) a) n0))) b))) (d e 21244034820498512770257255521291499525 (p (p (f (f (p n1 (p n1 n0)))) a) (p (p (f (f (p n1 (p n1 n0)))) a) (p (f (p (p (f (f (p n1 (p n1 n0)))) a) (p (f (p a (p a n0))) n0))) b))) e))) 21244034820498512770381209616795890213 (p (p (f (f (p n1 (p n1 n0)))) a) (p (p (f (f (p n1 (p n1 n0)))) a) (p (p (f (f (p n1 (p n1 n0)))) a) (p (p (f (f (p n1 (p n1 n0)))) a) b)))) (d (d (d (d e 21244035394136760287329537167443894309 (p (p (f (f (p n1 (p n1 (p (f (p n2 (p n2 n0))) (p (f (p (p (f (f (p n1 (p n1 n0)))) n2) (p (p (f (f (p n1 (p n1 n0)))) n2) n0))) n0)))))) a) b) e) 21244035403420749802059719574034849829 (p (p (f (f (p n1 (p n1 (p (p (f (f (p n1 (p n1 n0)))) n1) (p (f (p (f (p n3 (p n3 n0))) (p (p (f (f (p n1 (p n1 n0)))) n2) n0))) n0)))))) a) b) e) 21244035403420749802192532367726182437 (p (p (f (f (p n1 (p n1 (p (p (f (f (p n1 (p n1 n0)))) n1) (p (f (p (p (f (f (p n1 (p n1 n0)))) n2) (p (f (p n3 (p n3 n0))) n0))) n0)))))) a) b) (d e 21244035403420749810125592847921742373 (p (p (f (f (p n1 (p n1 (p (p (f (f (p n1 (p n1 n0)))) n1) (p (p (f (f (p n1 (p n1 n0)))) n1) (p (p (f (f (p n1 (p n1 n0)))) n1) n0))))))) a) b) e)) 21244238804448482521540054887323410469 (p (p (f (f (p (f (p n2 (p n2 n0))) (p n1 (p n1 (p (f (p (p (f (f (p n1 (p n1 n0)))) n2) (p (p (f (f (p n1 (p n1 n0)))) n2) n0))) n0)))))) a) b) (d (d e 21244238804545475798137196004289814565 (p (p (f (f (p (f (p n2 (p n2 n0))) (p (f (p n2 (p n2 n0))) (p (f (p (f (p n3 (p n3 n0))) (p (p (f (f (p n1 (p n1 n0)))) n2) n0))) n0))))) a) b) e) 21244238804545475798270008797981147173 (p (p (f (f (p (f (p n2 (p n2 n0))) (p (f (p n2 (p n2 n0))) (p (f (p (p (f (f (p n1 (p n1 n0)))) n2) (p (f (p n3 (p n3 n0))) n0))) n0))))) a) b) (d e 21244238804545475806203069278176707109 (p (p (f (f (p (f (p n2 (p n2 n0))) (p (f (p n2 (p n2 n0))) (p (p (f (f (p n1 (p n1 n0)))) n1) (p (p (f (f (p n1 (p n1 n0)))) n1) n0)))))) a) b) e)))))
noncomputable def q27 : NT := (d (d (d (d (d (d e 21244238804563608590289836212924719141 (p (p (f (f (p (f (p n2 (p n2 n0))) (p (p (f (f (p n1 (p n1 n0)))) n1) (p (f (p n2 (p n2 (p (p (f (f (p n1 (p n1 n0)))) n2) n0)))) n0))))) a) b) e) 21244238804563608590290966185494020133 (p (p (f (f (p (f (p n2 (p n2 n0))) (p (p (f (f (p n1 (p n1 n0)))) n1) (p (f (p (f (p n3 (p n3 n0))) (p (f (p n3 (p n3 n0))) n0))) n0))))) a) b) e) 21244238804563608590291225585604337701 (p (p (f (f (p (f (p n2 (p n2 n0))) (p (p (f (f (p n1 (p n1 n0)))) n1) (p (f (p (p (f (f (p n1 (p n1 n0)))) n2) (p n2 (p n2 n0)))) n0))))) a) b) (d e 21244238804563608590306719844340047909 (p (p (f (f (p (f (p n2 (p n2 n0))) (p (p (f (f (p n1 (p n1 n0)))) n1) (p (p (f (f (p n1 (p n1 n0)))) n1) (p (f (p n2 (p n2 n0))) n0)))))) a) b) e)) 21244238812444015661016308591536381989 (p (p (f (f (p (f (p n2 (p n2 (p n2 (p n2 n0))))) (p (f (p (p (f (f (p n1 (p n1 n0)))) n2) (p (p (f (f (p n1 (p n1 n0)))) n2) n0))) n0)))) a) b) (d (d (d e 21244238813067335571595203146150060069 (p (p (f (f (p (f (p n2 (p n2 (p (f (p n3 (p n3 n0))) n0)))) (p (f (p (f (p n3 (p n3 n0))) (p (p (f (f (p n1 (p n1 n0)))) n2) n0))) n0)))) a) b) e) 21244238813067335571728015939841392677 (p (p (f (f (p (f (p n2 (p n2 (p (f (p n3 (p n3 n0))) n0)))) (p (f (p (p (f (f (p n1 (p n1 n0)))) n2) (p (f (p n3 (p n3 n0))) n0))) n0)))) a) b) e) 21244238813067335579661076420036952613 (p (p (f (f (p (f (p n2 (p n2 (p (f (p n3 (p n3 n0))) n0)))) (p (p (f (f (p n1 (p n1 n0)))) n1) (p (p (f (f (p n1 (p n1 n0)))) n1) n0))))) a) b) (d e 21244238813209946345968267484903277093 (p (p (f (f (p (f (p n2 (p n2 (p (p (f (f (p n1 (p n1 n0)))) n2) n0)))) (p (f (p n2 (p n2 n0))) (p (p (f (f (p n1 (p n1 n0)))) n1) n0))))) a) b) e))) 21244238813209946345968271324648579109 (p (p (f (f (p (f (p n2 (p n2 (p (p (f (f (p n1 (p n1 n0)))) n2) n0)))) (p (f (p n2 (p n2 (p (p (f (f (p n1 (p n1 n0)))) n2) n0)))) n0)))) a) b) (d (d (d (d e 21244238813209946345969401297217880101 (p (p (f (f (p (f (p n2 (p n2 (p (p (f (f (p n1 (p n1 n0)))) n2) n0)))) (p (f (p (f (p n3 (p n3 n0))) (p (f (p n3 (p n3 n0))) n0))) n0)))) a) b) e) 21244238813209946345969660697328197669 (p (p (f (f (p (f (p n2 (p n2 (p (p (f (f (p n1 (p n1 n0)))) n2) n0)))) (p (f (p (p (f (f (p n1 (p n1 n0)))) n2) (p n2 (p n2 n0)))) n0)))) a) b) e) 21244238813209946345985154956063907877 (p (p (f (f (p (f (p n2 (p n2 (p (p (f (f (p n1 (p n1 n0)))) n2) n0)))) (p (p (f (f (p n1 (p n1 n0)))) n1) (p (f (p n2 (p n2 n0))) n0))))) a) b) (d e 21244241357680749945551008582961733669 (p (p (f (f (p (f (p (f (p n3 (p n3 n0))) (p n2 (p n2 n0)))) (p (f (p (f (p n3 (p n3 n0))) (p (p (f (f (p n1 (p n1 n0)))) n2) n0))) n0)))) a) b) e)) 21244241357680749945683821376653066277 (p (p (f (f (p (f (p (f (p n3 (p n3 n0))) (p n2 (p n2 n0)))) (p (f (p (p (f (f (p n1 (p n1 n0)))) n2) (p (f (p n3 (p n3 n0))) n0))) n0)))) a) b) (d (d e 21244241357680749953616881856848626213 (p (p (f (f (p (f (p (f (p n3 (p n3 n0))) (p n2 (p n2 n0)))) (p (p (f (f (p n1 (p n1 n0)))) n1) (p (p (f (f (p n1 (p n1 n0)))) n1) n0))))) a) b) e) 21244241357681967367383036967765443109 (p (p (f (f (p (f (p (f (p n3 (p n3 n0))) (p (f (p n3 (p n3 n0))) n0))) (p (f (p n2 (p n2 n0))) (p (p (f (f (p n1 (p n1 n0)))) n1) n0))))) a) b) (d e 21244241357681967367383040807510745125 (p (p (f (f (p (f (p (f (p n3 (p n3 n0))) (p (f (p n3 (p n3 n0))) n0))) (p (f (p n2 (p n2 (p (p (f (f (p n1 (p n1 n0)))) n2) n0)))) n0)))) a) b) e)))) 21244241357681967367384170780080046117 (p (p (f (f (p (f (p (f (p n3 (p n3 n0))) (p (f (p n3 (p n3 n0))) n0))) (p (f (p (f (p n3 (p n3 n0))) (p (f (p n3 (p n3 n0))) n0))) n0)))) a) b) (d (d (d (d (d e 21244241357681967367384430180190363685 (p (p (f (f (p (f (p (f (p n3 (p n3 n0))) (p (f (p n3 (p n3 n0))) n0))) (p (f (p (p (f (f (p n1 (p n1 n0)))) n2) (p n2 (p n2 n0)))) n0)))) a) b) e) 21244241357681967367399924438926073893 (p (p (f (f (p (f (p (f (p n3 (p n3 n0))) (p (f (p n3 (p n3 n0))) n0))) (p (p (f (f (p n1 (p n1 n0)))) n1) (p (f (p n2 (p n2 n0))) n0))))) a) b) e) 21244241357682245904052691749121589797 (p (p (f (f (p (f (p (f (p n3 (p n3 n0))) (p (p (f (f (p n1 (p n1 n0)))) n2) n0))) (p n1 (p n1 (p (p (f (f (p n1 (p n1 n0)))) n1) n0)))))) a) b) (d e 21244241357682245904052868171474640933 (p (p (f (f (p (f (p (f (p n3 (p n3 n0))) (p (p (f (f (p n1 (p n1 n0)))) n2) n0))) (p (f (p n2 (p n2 n0))) (p (f (p n2 (p n2 n0))) n0))))) a) b) e)) 21244241357682245904052868178866176037 (p (p (f (f (p (f (p (f (p n3 (p n3 n0))) (p (p (f (f (p n1 (p n1 n0)))) n2) n0))) (p (f (p n2 (p n2 (p (f (p n3 (p n3 n0))) n0)))) n0)))) a) b) (d (d (d e 21244241357682245904052870385966489637 (p (p (f (f (p (f (p (f (p n3 (p n3 n0))) (p (p (f (f (p n1 (p n1 n0)))) n2) n0))) (p (f (p (f (p n3 (p n3 n0))) (p n2 (p n2 n0)))) n0)))) a) b) e) 21244241357682245904052901154832314917 (p (p (f (f (p (f (p (f (p n3 (p n3 n0))) (p (p (f (f (p n1 (p n1 n0)))) n2) n0))) (p (p (f (f (p n1 (p n1 n0)))) n1) (p n1 (p n1 n0)))))) a) b) e) 21244241941799087450415436777442279973 (p (p (f (f (p (f (p (p (f (f (p n1 (p n1 n0)))) n2) (p n2 (p n2 n0)))) (p (f (p n2 (p n2 n0))) (p (p (f (f (p n1 (p n1 n0)))) n1) n0))))) a) b) (d e 21244241941799087450415440617187581989 (p (p (f (f (p (f (p (p (f (f (p n1 (p n1 n0)))) n2) (p n2 (p n2 n0)))) (p (f (p n2 (p n2 (p (p (f (f (p n1 (p n1 n0)))) n2) n0)))) n0)))) a) b) e))) 21244241941799087450416570589756882981 (p (p (f (f (p (f (p (p (f (f (p n1 (p n1 n0)))) n2) (p n2 (p n2 n0)))) (p (f (p (f (p n3 (p n3 n0))) (p (f (p n3 (p n3 n0))) n0))) n0)))) a) b) (d (d (d (d e 21244241941799087450416829989867200549 (p (p (f (f (p (f (p (p (f (f (p n1 (p n1 n0)))) n2) (p n2 (p n2 n0)))) (p (f (p (p (f (f (p n1 (p n1 n0)))) n2) (p n2 (p n2 n0)))) n0)))) a) b) e) 21244241941799087450432324248602910757 (p (p (f (f (p (f (p (p (f (f (p n1 (p n1 n0)))) n2) (p n2 (p n2 n0)))) (p (p (f (f (p n1 (p n1 n0)))) n1) (p (f (p n2 (p n2 n0))) n0))))) a) b) e) 21244241941799089828193409847950869029 (p (p (f (f (p (f (p (p (f (f (p n1 (p n1 n0)))) n2) (p (f (p n3 (p n3 n0))) n0))) (p n1 (p n1 (p (p (f (f (p n1 (p n1 n0)))) n1) n0)))))) a) b) (d e 21244241941799089828193586270303920165 (p (p (f (f (p (f (p (p (f (f (p n1 (p n1 n0)))) n2) (p (f (p n3 (p n3 n0))) n0))) (p (f (p n2 (p n2 n0))) (p (f (p n2 (p n2 n0))) n0))))) a) b) e)) 21244241941799089828193586277695455269 (p (p (f (f (p (f (p (p (f (f (p n1 (p n1 n0)))) n2) (p (f (p n3 (p n3 n0))) n0))) (p (f (p n2 (p n2 (p (f (p n3 (p n3 n0))) n0)))) n0)))) a) b) (d (d e 21244241941799089828193588484795768869 (p (p (f (f (p (f (p (p (f (f (p n1 (p n1 n0)))) n2) (p (f (p n3 (p n3 n0))) n0))) (p (f (p (f (p n3 (p n3 n0))) (p n2 (p n2 n0)))) n0)))) a) b) e) 21244241941799089828193619253661594149 (p (p (f (f (p (f (p (p (f (f (p n1 (p n1 n0)))) n2) (p (f (p n3 (p n3 n0))) n0))) (p (p (f (f (p n1 (p n1 n0)))) n1) (p n1 (p n1 n0)))))) a) b) (d e 21244241941799090372210519189798756389 (p (p (f (f (p (f (p (p (f (f (p n1 (p n1 n0)))) n2) (p (p (f (f (p n1 (p n1 n0)))) n2) n0))) (p n1 (p n1 (p (f (p n2 (p n2 n0))) n0)))))) a) b) e)))))
noncomputable def q28 : NT := (d (d (d (d (d (d e 21244241941799090372210519534402773029 (p (p (f (f (p (f (p (p (f (f (p n1 (p n1 n0)))) n2) (p (p (f (f (p n1 (p n1 n0)))) n2) n0))) (p (f (p n2 (p n2 (p n2 (p n2 n0))))) n0)))) a) b) e) 21244276831767832273563010723874086949 (p (p (f (f (p (p (f (f (p n1 (p n1 n0)))) n1) (p n1 (p n1 (p (f (p (f (p n3 (p n3 n0))) (p (p (f (f (p n1 (p n1 n0)))) n2) n0))) n0)))))) a) b) e) 21244276831767832273695823517565419557 (p (p (f (f (p (p (f (f (p n1 (p n1 n0)))) n1) (p n1 (p n1 (p (f (p (p (f (f (p n1 (p n1 n0)))) n2) (p (f (p n3 (p n3 n0))) n0))) n0)))))) a) b) (d e 21244276831767832281628883997760979493 (p (p (f (f (p (p (f (f (p n1 (p n1 n0)))) n1) (p n1 (p n1 (p (p (f (f (p n1 (p n1 n0)))) n1) (p (p (f (f (p n1 (p n1 n0)))) n1) n0))))))) a) b) e)) 21244276831768021713688043496494891557 (p (p (f (f (p (p (f (f (p n1 (p n1 n0)))) n1) (p (f (p n2 (p n2 n0))) (p (f (p n2 (p n2 n0))) (p (p (f (f (p n1 (p n1 n0)))) n1) n0)))))) a) b) (d (d (d e 21244276831768021713688047336240193573 (p (p (f (f (p (p (f (f (p n1 (p n1 n0)))) n1) (p (f (p n2 (p n2 n0))) (p (f (p n2 (p n2 (p (p (f (f (p n1 (p n1 n0)))) n2) n0)))) n0))))) a) b) e) 21244276831768021713689177308809494565 (p (p (f (f (p (p (f (f (p n1 (p n1 n0)))) n1) (p (f (p n2 (p n2 n0))) (p (f (p (f (p n3 (p n3 n0))) (p (f (p n3 (p n3 n0))) n0))) n0))))) a) b) e) 21244276831768021713689436708919812133 (p (p (f (f (p (p (f (f (p n1 (p n1 n0)))) n1) (p (f (p n2 (p n2 n0))) (p (f (p (p (f (f (p n1 (p n1 n0)))) n2) (p n2 (p n2 n0)))) n0))))) a) b) (d e 21244276831768021713704930967655522341 (p (p (f (f (p (p (f (f (p n1 (p n1 n0)))) n1) (p (f (p n2 (p n2 n0))) (p (p (f (f (p n1 (p n1 n0)))) n1) (p (f (p n2 (p n2 n0))) n0)))))) a) b) e))) 21244276831768057129298674004472398373 (p (p (f (f (p (p (f (f (p n1 (p n1 n0)))) n1) (p (p (f (f (p n1 (p n1 n0)))) n1) (p n1 (p n1 (p (p (f (f (p n1 (p n1 n0)))) n1) n0))))))) a) b) (d (d (d (d e 21244276831768057129298850426825449509 (p (p (f (f (p (p (f (f (p n1 (p n1 n0)))) n1) (p (p (f (f (p n1 (p n1 n0)))) n1) (p (f (p n2 (p n2 n0))) (p (f (p n2 (p n2 n0))) n0)))))) a) b) e) 21244276831768057129298850434216984613 (p (p (f (f (p (p (f (f (p n1 (p n1 n0)))) n1) (p (p (f (f (p n1 (p n1 n0)))) n1) (p (f (p n2 (p n2 (p (f (p n3 (p n3 n0))) n0)))) n0))))) a) b) e) 21244276831768057129298852641317298213 (p (p (f (f (p (p (f (f (p n1 (p n1 n0)))) n1) (p (p (f (f (p n1 (p n1 n0)))) n1) (p (f (p (f (p n3 (p n3 n0))) (p n2 (p n2 n0)))) n0))))) a) b) (d e 21244276831768057129298883410183123493 (p (p (f (f (p (p (f (f (p n1 (p n1 n0)))) n1) (p (p (f (f (p n1 (p n1 n0)))) n1) (p (p (f (f (p n1 (p n1 n0)))) n1) (p n1 (p n1 n0))))))) a) b) e)) 168790846239858194207644401316147990789 (p (f (p (f (p (f (p a (p a n0))) (p (p (f (f (p n1 (p n1 n0)))) a) n0))) (p (p (f (f (p n1 (p n1 n0)))) (p (f (f (p n1 (p n1 n0)))) a)) n0))) b) (d (d (d e 168791140157890410344444507560746651909 (p (f (p (f (p (p (f (f (p n1 (p n1 n0)))) a) (p (f (p a (p a n0))) n0))) (p (p (f (f (p n1 (p n1 n0)))) (p (f (f (p n1 (p n1 n0)))) a)) n0))) b) e) 168791140157890684084980053902891055109 (p (f (p (f (p (p (f (f (p n1 (p n1 n0)))) a) (p (p (f (f (p n1 (p n1 n0)))) a) n0))) (p (p (f (f (p n1 (p n1 n0)))) (f (p a (p a n0)))) n0))) b) e) 168809003825676798208266967542392484389 (p (f (p (p (f (f (p n1 (p n1 n0)))) a) (p (p (f (f (p n1 (p n1 n0)))) a) n0))) (p (p (f (f (p n1 (p n1 n0)))) (p (f (f (p n1 (p n1 n0)))) a)) b)) (d e 168809003825676798209273533740213571845 (p (f (p (p (f (f (p n1 (p n1 n0)))) a) (p (p (f (f (p n1 (p n1 n0)))) a) (p (p (f (f (p n1 (p n1 n0)))) (p (f (f (p n1 (p n1 n0)))) a)) n0)))) b) e)))) 168809003828096227038048255834312181765 (p (f (p (p (f (f (p n1 (p n1 n0)))) (f (p a (p a n0)))) (p (f (p (p (f (f (p n1 (p n1 n0)))) a) (p (p (f (f (p n1 (p n1 n0)))) a) n0))) n0))) b) (d (d (d (d (d e 168809003829217435859613266844984313861 (p (f (p (p (f (f (p n1 (p n1 n0)))) (p (f (f (p n1 (p n1 n0)))) a)) (p (f (p (f (p a (p a n0))) (p (p (f (f (p n1 (p n1 n0)))) a) n0))) n0))) b) e) 168809003829217435859629582573320257541 (p (f (p (p (f (f (p n1 (p n1 n0)))) (p (f (f (p n1 (p n1 n0)))) a)) (p (f (p (p (f (f (p n1 (p n1 n0)))) a) (p (f (p a (p a n0))) n0))) n0))) b) e) 168809003829217435860621215337355383045 (p (f (p (p (f (f (p n1 (p n1 n0)))) (p (f (f (p n1 (p n1 n0)))) a)) (p (p (f (f (p n1 (p n1 n0)))) a) (p (p (f (f (p n1 (p n1 n0)))) a) n0)))) b) (d e 169952278790588911785836802450712400133 (p (p (f (f (p n1 (p n1 n0)))) (p (f (f (p n1 (p n1 n0)))) a)) (p (f (p (p (f (f (p n1 (p n1 n0)))) a) (p (p (f (f (p n1 (p n1 n0)))) a) n0))) b)) e)) 169953910436508868722453758805184119333 (p (p (f (f (p (f (p n2 (p n2 n0))) (p (p (f (f (p n1 (p n1 n0)))) n1) (p (p (f (f (p n1 (p n1 n0)))) (p (f (f (p n1 (p n1 n0)))) n1)) n0))))) a) b) (d (d (d e 169953910505679570767881239698974999077 (p (p (f (f (p (f (p n2 (p n2 (p (p (f (f (p n1 (p n1 n0)))) n2) n0)))) (p (p (f (f (p n1 (p n1 n0)))) (p (f (f (p n1 (p n1 n0)))) n1)) n0)))) a) b) e) 169953930861455738939199395561872327205 (p (p (f (f (p (f (p (f (p n3 (p n3 n0))) (p (f (p n3 (p n3 n0))) n0))) (p (p (f (f (p n1 (p n1 n0)))) (p (f (f (p n1 (p n1 n0)))) n1)) n0)))) a) b) e) 169953930861457967232423209238742671397 (p (p (f (f (p (f (p (f (p n3 (p n3 n0))) (p (p (f (f (p n1 (p n1 n0)))) n2) n0))) (p (p (f (f (p n1 (p n1 n0)))) (f (p n2 (p n2 n0)))) n0)))) a) b) (d e 169953935534392699603458594039287022117 (p (p (f (f (p (f (p (p (f (f (p n1 (p n1 n0)))) n2) (p n2 (p n2 n0)))) (p (p (f (f (p n1 (p n1 n0)))) (p (f (f (p n1 (p n1 n0)))) n1)) n0)))) a) b) e))) 169953935534392718625548954029376905253 (p (p (f (f (p (f (p (p (f (f (p n1 (p n1 n0)))) n2) (p (f (p n3 (p n3 n0))) n0))) (p (p (f (f (p n1 (p n1 n0)))) (f (p n2 (p n2 n0)))) n0)))) a) b) (d (d (d (d e 169954214654144173709639447791707914789 (p (p (f (f (p (p (f (f (p n1 (p n1 n0)))) n1) (p (f (p n2 (p n2 n0))) (p (p (f (f (p n1 (p n1 n0)))) (p (f (f (p n1 (p n1 n0)))) n1)) n0))))) a) b) e) 169954214654144457034391067281549140005 (p (p (f (f (p (p (f (f (p n1 (p n1 n0)))) n1) (p (p (f (f (p n1 (p n1 n0)))) n1) (p (p (f (f (p n1 (p n1 n0)))) (f (p n2 (p n2 n0)))) n0))))) a) b) e) 169954214654239675141460631845326823461 (p (p (f (f (p (p (f (f (p n1 (p n1 n0)))) (f (p n2 (p n2 n0)))) (p (f (p (f (p n3 (p n3 n0))) (p (p (f (f (p n1 (p n1 n0)))) n2) n0))) n0)))) a) b) (d e 169954214654239675141593444639018156069 (p (p (f (f (p (p (f (f (p n1 (p n1 n0)))) (f (p n2 (p n2 n0)))) (p (f (p (p (f (f (p n1 (p n1 n0)))) n2) (p (f (p n3 (p n3 n0))) n0))) n0)))) a) b) e)) 169954214654239675149526505119213716005 (p (p (f (f (p (p (f (f (p n1 (p n1 n0)))) (f (p n2 (p n2 n0)))) (p (p (f (f (p n1 (p n1 n0)))) n1) (p (p (f (f (p n1 (p n1 n0)))) n1) n0))))) a) b) (d (d e 169954214654257807933613268214216426021 (p (p (f (f (p (p (f (f (p n1 (p n1 n0)))) (p (f (f (p n1 (p n1 n0)))) n1)) (p (f (p n2 (p n2 n0))) (p (p (f (f (p n1 (p n1 n0)))) n1) n0))))) a) b) e) 169954214654257807933613272053961728037 (p (p (f (f (p (p (f (f (p n1 (p n1 n0)))) (p (f (f (p n1 (p n1 n0)))) n1)) (p (f (p n2 (p n2 (p (p (f (f (p n1 (p n1 n0)))) n2) n0)))) n0)))) a) b) (d e 169954214654257807933614402026531029029 (p (p (f (f (p (p (f (f (p n1 (p n1 n0)))) (p (f (f (p n1 (p n1 n0)))) n1)) (p (f (p (f (p n3 (p n3 n0))) (p (f (p n3 (p n3 n0))) n0))) n0)))) a) b) e)))))
noncomputable def q29 : NT := (d (d (d (d (d (d e 169954214654257807933630155685377056805 (p (p (f (f (p (p (f (f (p n1 (p n1 n0)))) (p (f (f (p n1 (p n1 n0)))) n1)) (p (p (f (f (p n1 (p n1 n0)))) n1) (p (f (p n2 (p n2 n0))) n0))))) a) b) e) 1359633717234062463469041245533480190501 (p (p (f (f (p (p (f (f (p n1 (p n1 n0)))) (p (f (f (p n1 (p n1 n0)))) n1)) (p (p (f (f (p n1 (p n1 n0)))) (p (f (f (p n1 (p n1 n0)))) n1)) n0)))) a) b) e) 10802572356582236547698788417929600274693 (p (f (p (f (p a (p a n0))) (p (p (f (f (p n1 (p n1 n0)))) a) n0))) (p (f (p (p (f (f (p n1 (p n1 n0)))) a) (p (p (f (f (p n1 (p n1 n0)))) a) n0))) b)) (d e 10802572356582236580237698021797964580869 (p (f (p (f (p a (p a n0))) (p (p (f (f (p n1 (p n1 n0)))) a) (p (f (p (p (f (f (p n1 (p n1 n0)))) a) (p (p (f (f (p n1 (p n1 n0)))) a) n0))) n0)))) b) e)) 10802572639905432649434773981208510236677 (p (f (p (f (p a (p a (p (p (f (f (p n1 (p n1 n0)))) a) n0)))) (p (f (p (p (f (f (p n1 (p n1 n0)))) a) (p (p (f (f (p n1 (p n1 n0)))) a) n0))) n0))) b) (d (d (d e 10802614159341954498912743068974249183237 (p (f (p (f (p (f (p a (p a n0))) (p (f (p a (p a n0))) n0))) (p (f (p (p (f (f (p n1 (p n1 n0)))) a) (p (p (f (f (p n1 (p n1 n0)))) a) n0))) n0))) b) e) 10802614159350924429288233735544555472901 (p (f (p (f (p (f (p a (p a n0))) (p (p (f (f (p n1 (p n1 n0)))) a) n0))) (p (f (p (f (p a (p a n0))) (p (p (f (f (p n1 (p n1 n0)))) a) n0))) n0))) b) e) 10802614159350924429288250051272891416581 (p (f (p (f (p (f (p a (p a n0))) (p (p (f (f (p n1 (p n1 n0)))) a) n0))) (p (f (p (p (f (f (p n1 (p n1 n0)))) a) (p (f (p a (p a n0))) n0))) n0))) b) (d e 10802614159350924429289241684036926542085 (p (f (p (f (p (f (p a (p a n0))) (p (p (f (f (p n1 (p n1 n0)))) a) n0))) (p (p (f (f (p n1 (p n1 n0)))) a) (p (p (f (f (p n1 (p n1 n0)))) a) n0)))) b) e))) 10802632970104947330189933977527270541317 (p (f (p (f (p (p (f (f (p n1 (p n1 n0)))) a) (p a (p a n0)))) (p (f (p (p (f (f (p n1 (p n1 n0)))) a) (p (p (f (f (p n1 (p n1 n0)))) a) n0))) n0))) b) (d (d (d (d e 10802632970104986262043440535198869784581 (p (f (p (f (p (p (f (f (p n1 (p n1 n0)))) a) (p (f (p a (p a n0))) n0))) (p (f (p (f (p a (p a n0))) (p (p (f (f (p n1 (p n1 n0)))) a) n0))) n0))) b) e) 10802632970104986262043456850927205728261 (p (f (p (f (p (p (f (f (p n1 (p n1 n0)))) a) (p (f (p a (p a n0))) n0))) (p (f (p (p (f (f (p n1 (p n1 n0)))) a) (p (f (p a (p a n0))) n0))) n0))) b) e) 10802632970104986262044448483691240853765 (p (f (p (f (p (p (f (f (p n1 (p n1 n0)))) a) (p (f (p a (p a n0))) n0))) (p (p (f (f (p n1 (p n1 n0)))) a) (p (p (f (f (p n1 (p n1 n0)))) a) n0)))) b) (d e 10802632970105003781438721410318721323269 (p (f (p (f (p (p (f (f (p n1 (p n1 n0)))) a) (p (p (f (f (p n1 (p n1 n0)))) a) n0))) (p (f (p a (p a n0))) (p (p (f (f (p n1 (p n1 n0)))) a) n0)))) b) e)) 10802632970105003781438721410798689486853 (p (f (p (f (p (p (f (f (p n1 (p n1 n0)))) a) (p (p (f (f (p n1 (p n1 n0)))) a) n0))) (p (f (p a (p a (p (p (f (f (p n1 (p n1 n0)))) a) n0)))) n0))) b) (d (d e 10802632970105003781438721481135350857733 (p (f (p (f (p (p (f (f (p n1 (p n1 n0)))) a) (p (p (f (f (p n1 (p n1 n0)))) a) n0))) (p (f (p (f (p a (p a n0))) (p (f (p a (p a n0))) n0))) n0))) b) e) 10802632970105003781438721513002022893573 (p (f (p (f (p (p (f (f (p n1 (p n1 n0)))) a) (p (p (f (f (p n1 (p n1 n0)))) a) n0))) (p (f (p (p (f (f (p n1 (p n1 n0)))) a) (p a (p a n0)))) n0))) b) (d e 10802632970105003781438723449784763316229 (p (f (p (f (p (p (f (f (p n1 (p n1 n0)))) a) (p (p (f (f (p n1 (p n1 n0)))) a) n0))) (p (p (f (f (p n1 (p n1 n0)))) a) (p (f (p a (p a n0))) n0)))) b) e)))) 10803776244842193844032023595805716222213 (p (f (p (p (f (f (p n1 (p n1 n0)))) a) (p (f (p a (p a n0))) n0))) (p (f (p (p (f (f (p n1 (p n1 n0)))) a) (p (p (f (f (p n1 (p n1 n0)))) a) n0))) b)) (d (d (d (d (d e 10803776244842193876570933199674080528389 (p (f (p (p (f (f (p n1 (p n1 n0)))) a) (p (f (p a (p a n0))) (p (f (p (p (f (f (p n1 (p n1 n0)))) a) (p (p (f (f (p n1 (p n1 n0)))) a) n0))) n0)))) b) e) 10803776244843315085328959929127004508421 (p (f (p (p (f (f (p n1 (p n1 n0)))) a) (p (p (f (f (p n1 (p n1 n0)))) a) n0))) (p (f (p (f (p a (p a n0))) (p (p (f (f (p n1 (p n1 n0)))) a) n0))) b)) e) 10803776244843315085328961968593046501381 (p (f (p (p (f (f (p n1 (p n1 n0)))) a) (p (p (f (f (p n1 (p n1 n0)))) a) n0))) (p (f (p (p (f (f (p n1 (p n1 n0)))) a) (p (f (p a (p a n0))) n0))) b)) (d e 10803776244843315085329085922688550892069 (p (f (p (p (f (f (p n1 (p n1 n0)))) a) (p (p (f (f (p n1 (p n1 n0)))) a) n0))) (p (p (f (f (p n1 (p n1 n0)))) a) (p (p (f (f (p n1 (p n1 n0)))) a) b))) e)) 10803776244843315085392498210684752660485 (p (f (p (p (f (f (p n1 (p n1 n0)))) a) (p (p (f (f (p n1 (p n1 n0)))) a) (p (f (p (f (p a (p a n0))) (p (p (f (f (p n1 (p n1 n0)))) a) n0))) n0)))) b) (d (d (d e 10803776244843315085392514526413088604165 (p (f (p (p (f (f (p n1 (p n1 n0)))) a) (p (p (f (f (p n1 (p n1 n0)))) a) (p (f (p (p (f (f (p n1 (p n1 n0)))) a) (p (f (p a (p a n0))) n0))) n0)))) b) e) 10803776244843315085393506159177123729669 (p (f (p (p (f (f (p n1 (p n1 n0)))) a) (p (p (f (f (p n1 (p n1 n0)))) a) (p (p (f (f (p n1 (p n1 n0)))) a) (p (p (f (f (p n1 (p n1 n0)))) a) n0))))) b) e) 10876945828095238538371714826902220280069 (p (p (f (f (p n1 (p n1 n0)))) a) (p (p (f (f (p n1 (p n1 n0)))) a) (p (f (p (p (f (f (p n1 (p n1 n0)))) a) (p (p (f (f (p n1 (p n1 n0)))) a) n0))) b))) (d e 10876946126551423898722576572339137552421 (p (p (f (f (p n1 (p n1 (p (p (f (f (p n1 (p n1 n0)))) n1) (p (f (p (p (f (f (p n1 (p n1 n0)))) n2) (p (p (f (f (p n1 (p n1 n0)))) n2) n0))) n0)))))) a) b) e))) 10877050267927283608714244504629679497253 (p (p (f (f (p (f (p n2 (p n2 n0))) (p (f (p n2 (p n2 n0))) (p (f (p (p (f (f (p n1 (p n1 n0)))) n2) (p (p (f (f (p n1 (p n1 n0)))) n2) n0))) n0))))) a) b) (d (d (d (d e 10877050267936567598228974687036270452773 (p (p (f (f (p (f (p n2 (p n2 n0))) (p (p (f (f (p n1 (p n1 n0)))) n1) (p (f (p (f (p n3 (p n3 n0))) (p (p (f (f (p n1 (p n1 n0)))) n2) n0))) n0))))) a) b) e) 10877050267936567598229107499829961785381 (p (p (f (f (p (f (p n2 (p n2 n0))) (p (p (f (f (p n1 (p n1 n0)))) n1) (p (f (p (p (f (f (p n1 (p n1 n0)))) n2) (p (f (p n3 (p n3 n0))) n0))) n0))))) a) b) e) 10877050267936567598237040560310157345317 (p (p (f (f (p (f (p n2 (p n2 n0))) (p (p (f (f (p n1 (p n1 n0)))) n1) (p (p (f (f (p n1 (p n1 n0)))) n1) (p (p (f (f (p n1 (p n1 n0)))) n1) n0)))))) a) b) (d e 10877050272290475812724744161262125195301 (p (p (f (f (p (f (p n2 (p n2 (p (f (p n3 (p n3 n0))) n0)))) (p (f (p (p (f (f (p n1 (p n1 n0)))) n2) (p (p (f (f (p n1 (p n1 n0)))) n2) n0))) n0)))) a) b) e)) 10877050272363492529136333464238886756389 (p (p (f (f (p (f (p n2 (p n2 (p (p (f (f (p n1 (p n1 n0)))) n2) n0)))) (p (f (p (f (p n3 (p n3 n0))) (p (p (f (f (p n1 (p n1 n0)))) n2) n0))) n0)))) a) b) (d (d e 10877050272363492529136466277032578088997 (p (p (f (f (p (f (p n2 (p n2 (p (p (f (f (p n1 (p n1 n0)))) n2) n0)))) (p (f (p (p (f (f (p n1 (p n1 n0)))) n2) (p (f (p n3 (p n3 n0))) n0))) n0)))) a) b) e) 10877050272363492529144399337512773648933 (p (p (f (f (p (f (p n2 (p n2 (p (p (f (f (p n1 (p n1 n0)))) n2) n0)))) (p (p (f (f (p n1 (p n1 n0)))) n1) (p (p (f (f (p n1 (p n1 n0)))) n1) n0))))) a) b) (d e 10877051575132543972190116544909702078501 (p (p (f (f (p (f (p (f (p n3 (p n3 n0))) (p n2 (p n2 n0)))) (p (f (p (p (f (f (p n1 (p n1 n0)))) n2) (p (p (f (f (p n1 (p n1 n0)))) n2) n0))) n0)))) a) b) e)))))
noncomputable def q30 : NT := (d (d (d (d (d (d e 10877051575133167292100828252258007089189 (p (p (f (f (p (f (p (f (p n3 (p n3 n0))) (p (f (p n3 (p n3 n0))) n0))) (p (f (p (p (f (f (p n1 (p n1 n0)))) n2) (p (f (p n3 (p n3 n0))) n0))) n0)))) a) b) e) 10877051575133167292108761312738202649125 (p (p (f (f (p (f (p (f (p n3 (p n3 n0))) (p (f (p n3 (p n3 n0))) n0))) (p (p (f (f (p n1 (p n1 n0)))) n1) (p (p (f (f (p n1 (p n1 n0)))) n1) n0))))) a) b) e) 10877051575133309902875068503803068973605 (p (p (f (f (p (f (p (f (p n3 (p n3 n0))) (p (p (f (f (p n1 (p n1 n0)))) n2) n0))) (p (f (p n2 (p n2 n0))) (p (p (f (f (p n1 (p n1 n0)))) n1) n0))))) a) b) (d e 10877051575133309902875068507642814275621 (p (p (f (f (p (f (p (f (p n3 (p n3 n0))) (p (p (f (f (p n1 (p n1 n0)))) n2) n0))) (p (f (p n2 (p n2 (p (p (f (f (p n1 (p n1 n0)))) n2) n0)))) n0)))) a) b) e)) 10877051575133309902875069637615383576613 (p (p (f (f (p (f (p (f (p n3 (p n3 n0))) (p (p (f (f (p n1 (p n1 n0)))) n2) n0))) (p (f (p (f (p n3 (p n3 n0))) (p (f (p n3 (p n3 n0))) n0))) n0)))) a) b) (d (d (d e 10877051575133309902875069897015493894181 (p (p (f (f (p (f (p (f (p n3 (p n3 n0))) (p (p (f (f (p n1 (p n1 n0)))) n2) n0))) (p (f (p (p (f (f (p n1 (p n1 n0)))) n2) (p n2 (p n2 n0)))) n0)))) a) b) e) 10877051575133309902875085391274229604389 (p (p (f (f (p (f (p (f (p n3 (p n3 n0))) (p (p (f (f (p n1 (p n1 n0)))) n2) n0))) (p (p (f (f (p n1 (p n1 n0)))) n1) (p (f (p n2 (p n2 n0))) n0))))) a) b) e) 10877051874201132774613284142018856230949 (p (p (f (f (p (f (p (p (f (f (p n1 (p n1 n0)))) n2) (p n2 (p n2 n0)))) (p (f (p (f (p n3 (p n3 n0))) (p (p (f (f (p n1 (p n1 n0)))) n2) n0))) n0)))) a) b) (d e 10877051874201132774613416954812547563557 (p (p (f (f (p (f (p (p (f (f (p n1 (p n1 n0)))) n2) (p n2 (p n2 n0)))) (p (f (p (p (f (f (p n1 (p n1 n0)))) n2) (p (f (p n3 (p n3 n0))) n0))) n0)))) a) b) e))) 10877051874201132774621350015292743123493 (p (p (f (f (p (f (p (p (f (f (p n1 (p n1 n0)))) n2) (p n2 (p n2 n0)))) (p (p (f (f (p n1 (p n1 n0)))) n1) (p (p (f (f (p n1 (p n1 n0)))) n1) n0))))) a) b) (d (d (d (d e 10877051874201133992035116170403659940389 (p (p (f (f (p (f (p (p (f (f (p n1 (p n1 n0)))) n2) (p (f (p n3 (p n3 n0))) n0))) (p (f (p n2 (p n2 n0))) (p (p (f (f (p n1 (p n1 n0)))) n1) n0))))) a) b) e) 10877051874201133992035116174243405242405 (p (p (f (f (p (f (p (p (f (f (p n1 (p n1 n0)))) n2) (p (f (p n3 (p n3 n0))) n0))) (p (f (p n2 (p n2 (p (p (f (f (p n1 (p n1 n0)))) n2) n0)))) n0)))) a) b) e) 10877051874201133992035117304215974543397 (p (p (f (f (p (f (p (p (f (f (p n1 (p n1 n0)))) n2) (p (f (p n3 (p n3 n0))) n0))) (p (f (p (f (p n3 (p n3 n0))) (p (f (p n3 (p n3 n0))) n0))) n0)))) a) b) (d e 10877051874201133992035117563616084860965 (p (p (f (f (p (f (p (p (f (f (p n1 (p n1 n0)))) n2) (p (f (p n3 (p n3 n0))) n0))) (p (f (p (p (f (f (p n1 (p n1 n0)))) n2) (p n2 (p n2 n0)))) n0)))) a) b) e)) 10877051874201133992035133057874820571173 (p (p (f (f (p (f (p (p (f (f (p n1 (p n1 n0)))) n2) (p (f (p n3 (p n3 n0))) n0))) (p (p (f (f (p n1 (p n1 n0)))) n1) (p (f (p n2 (p n2 n0))) n0))))) a) b) (d (d e 10877051874201134270571785825185016087077 (p (p (f (f (p (f (p (p (f (f (p n1 (p n1 n0)))) n2) (p (p (f (f (p n1 (p n1 n0)))) n2) n0))) (p n1 (p n1 (p (p (f (f (p n1 (p n1 n0)))) n1) n0)))))) a) b) e) 10877051874201134270571786001607369138213 (p (p (f (f (p (f (p (p (f (f (p n1 (p n1 n0)))) n2) (p (p (f (f (p n1 (p n1 n0)))) n2) n0))) (p (f (p n2 (p n2 n0))) (p (f (p n2 (p n2 n0))) n0))))) a) b) (d e 10877051874201134270571786001614760673317 (p (p (f (f (p (f (p (p (f (f (p n1 (p n1 n0)))) n2) (p (p (f (f (p n1 (p n1 n0)))) n2) n0))) (p (f (p n2 (p n2 (p (f (p n3 (p n3 n0))) n0)))) n0)))) a) b) e)))) 10877051874201134270571786003821860986917 (p (p (f (f (p (f (p (p (f (f (p n1 (p n1 n0)))) n2) (p (p (f (f (p n1 (p n1 n0)))) n2) n0))) (p (f (p (f (p n3 (p n3 n0))) (p n2 (p n2 n0)))) n0)))) a) b) (d (d (d (d (d e 10877051874201134270571786034590726812197 (p (p (f (f (p (f (p (p (f (f (p n1 (p n1 n0)))) n2) (p (p (f (f (p n1 (p n1 n0)))) n2) n0))) (p (p (f (f (p n1 (p n1 n0)))) n1) (p n1 (p n1 n0)))))) a) b) e) 10877069737865130124132261641056826957861 (p (p (f (f (p (p (f (f (p n1 (p n1 n0)))) n1) (p n1 (p n1 (p (f (p (p (f (f (p n1 (p n1 n0)))) n2) (p (p (f (f (p n1 (p n1 n0)))) n2) n0))) n0)))))) a) b) e) 10877069737865227117408858782173793361957 (p (p (f (f (p (p (f (f (p n1 (p n1 n0)))) n1) (p (f (p n2 (p n2 n0))) (p (f (p (f (p n3 (p n3 n0))) (p (p (f (f (p n1 (p n1 n0)))) n2) n0))) n0))))) a) b) (d e 10877069737865227117408991594967484694565 (p (p (f (f (p (p (f (f (p n1 (p n1 n0)))) n1) (p (f (p n2 (p n2 n0))) (p (f (p (p (f (f (p n1 (p n1 n0)))) n2) (p (f (p n3 (p n3 n0))) n0))) n0))))) a) b) e)) 10877069737865227117416924655447680254501 (p (p (f (f (p (p (f (f (p n1 (p n1 n0)))) n1) (p (f (p n2 (p n2 n0))) (p (p (f (f (p n1 (p n1 n0)))) n1) (p (p (f (f (p n1 (p n1 n0)))) n1) n0)))))) a) b) (d (d (d e 10877069737865245250201011418542682964517 (p (p (f (f (p (p (f (f (p n1 (p n1 n0)))) n1) (p (p (f (f (p n1 (p n1 n0)))) n1) (p (f (p n2 (p n2 n0))) (p (p (f (f (p n1 (p n1 n0)))) n1) n0)))))) a) b) e) 10877069737865245250201011422382428266533 (p (p (f (f (p (p (f (f (p n1 (p n1 n0)))) n1) (p (p (f (f (p n1 (p n1 n0)))) n1) (p (f (p n2 (p n2 (p (p (f (f (p n1 (p n1 n0)))) n2) n0)))) n0))))) a) b) e) 10877069737865245250201012552354997567525 (p (p (f (f (p (p (f (f (p n1 (p n1 n0)))) n1) (p (p (f (f (p n1 (p n1 n0)))) n1) (p (f (p (f (p n3 (p n3 n0))) (p (f (p n3 (p n3 n0))) n0))) n0))))) a) b) (d e 10877069737865245250201012811755107885093 (p (p (f (f (p (p (f (f (p n1 (p n1 n0)))) n1) (p (p (f (f (p n1 (p n1 n0)))) n1) (p (f (p (p (f (f (p n1 (p n1 n0)))) n2) (p n2 (p n2 n0)))) n0))))) a) b) e))) 10877069737865245250201028306013843595301 (p (p (f (f (p (p (f (f (p n1 (p n1 n0)))) n1) (p (p (f (f (p n1 (p n1 n0)))) n1) (p (p (f (f (p n1 (p n1 n0)))) n1) (p (f (p n2 (p n2 n0))) n0)))))) a) b) (d (d (d (d e 86421063760840030251509787598281192739077 (p (f (p (f (p (p (f (f (p n1 (p n1 n0)))) a) (p (p (f (f (p n1 (p n1 n0)))) a) n0))) (p (p (f (f (p n1 (p n1 n0)))) (p (f (f (p n1 (p n1 n0)))) a)) n0))) b) e) 86430209960559327160130346277547752065029 (p (f (p (p (f (f (p n1 (p n1 n0)))) (p (f (f (p n1 (p n1 n0)))) a)) (p (f (p (p (f (f (p n1 (p n1 n0)))) a) (p (p (f (f (p n1 (p n1 n0)))) a) n0))) n0))) b) e) 87016412601066479223000683130244300571173 (p (p (f (f (p (f (p (f (p n3 (p n3 n0))) (p (p (f (f (p n1 (p n1 n0)))) n2) n0))) (p (p (f (f (p n1 (p n1 n0)))) (p (f (f (p n1 (p n1 n0)))) n1)) n0)))) a) b) (d e 87016414993609071936281064463049028305445 (p (p (f (f (p (f (p (p (f (f (p n1 (p n1 n0)))) n2) (p (f (p n3 (p n3 n0))) n0))) (p (p (f (f (p n1 (p n1 n0)))) (p (f (f (p n1 (p n1 n0)))) n1)) n0)))) a) b) e)) 87016414993609074164574288276725898649637 (p (p (f (f (p (f (p (p (f (f (p n1 (p n1 n0)))) n2) (p (p (f (f (p n1 (p n1 n0)))) n2) n0))) (p (p (f (f (p n1 (p n1 n0)))) (f (p n2 (p n2 n0)))) n0)))) a) b) (d (d e 87016557902921962001608226448161212498469 (p (p (f (f (p (p (f (f (p n1 (p n1 n0)))) n1) (p (p (f (f (p n1 (p n1 n0)))) n1) (p (p (f (f (p n1 (p n1 n0)))) (p (f (f (p n1 (p n1 n0)))) n1)) n0))))) a) b) e) 87016557902970713672495843655240628052005 (p (p (f (f (p (p (f (f (p n1 (p n1 n0)))) (f (p n2 (p n2 n0)))) (p (f (p (p (f (f (p n1 (p n1 n0)))) n2) (p (p (f (f (p n1 (p n1 n0)))) n2) n0))) n0)))) a) b) (d e 87016557902979997662010573837647219007525 (p (p (f (f (p (p (f (f (p n1 (p n1 n0)))) (p (f (f (p n1 (p n1 n0)))) n1)) (p (f (p (f (p n3 (p n3 n0))) (p (p (f (f (p n1 (p n1 n0)))) n2) n0))) n0)))) a) b) e)))))
noncomputable def q31 : NT := (d (d (d (d (d (d e 87016557902979997662018639710921105900069 (p (p (f (f (p (p (f (f (p n1 (p n1 n0)))) (p (f (f (p n1 (p n1 n0)))) n1)) (p (p (f (f (p n1 (p n1 n0)))) n1) (p (p (f (f (p n1 (p n1 n0)))) n1) n0))))) a) b) e) 5530938449587673307795584026251728185493509 (p (f (p (f (p (f (p a (p a n0))) (p (p (f (f (p n1 (p n1 n0)))) a) n0))) (p (f (p (p (f (f (p n1 (p n1 n0)))) a) (p (p (f (f (p n1 (p n1 n0)))) a) n0))) n0))) b) e) 5530948080693752966166249907674737113073669 (p (f (p (f (p (p (f (f (p n1 (p n1 n0)))) a) (p (f (p a (p a n0))) n0))) (p (f (p (p (f (f (p n1 (p n1 n0)))) a) (p (p (f (f (p n1 (p n1 n0)))) a) n0))) n0))) b) (d e 5530948080693761936096625398341307419363333 (p (f (p (f (p (p (f (f (p n1 (p n1 n0)))) a) (p (p (f (f (p n1 (p n1 n0)))) a) n0))) (p (f (p (f (p a (p a n0))) (p (p (f (f (p n1 (p n1 n0)))) a) n0))) n0))) b) e)) 5530948080693761936096625414657035755307013 (p (f (p (f (p (p (f (f (p n1 (p n1 n0)))) a) (p (p (f (f (p n1 (p n1 n0)))) a) n0))) (p (f (p (p (f (f (p n1 (p n1 n0)))) a) (p (f (p a (p a n0))) n0))) n0))) b) (d (d (d e 5530948080693761936096626406289799790432517 (p (f (p (f (p (p (f (f (p n1 (p n1 n0)))) a) (p (p (f (f (p n1 (p n1 n0)))) a) n0))) (p (p (f (f (p n1 (p n1 n0)))) a) (p (p (f (f (p n1 (p n1 n0)))) a) n0)))) b) e) 5531533437359777323688428527919640781230341 (p (f (p (p (f (f (p n1 (p n1 n0)))) a) (p (p (f (f (p n1 (p n1 n0)))) a) n0))) (p (f (p (p (f (f (p n1 (p n1 n0)))) a) (p (p (f (f (p n1 (p n1 n0)))) a) n0))) b)) e) 5531533437359777323720967437523509145536517 (p (f (p (p (f (f (p n1 (p n1 n0)))) a) (p (p (f (f (p n1 (p n1 n0)))) a) (p (f (p (p (f (f (p n1 (p n1 n0)))) a) (p (p (f (f (p n1 (p n1 n0)))) a) n0))) n0)))) b) (d e 5569049737183522610293303039913003766259749 (p (p (f (f (p (f (p n2 (p n2 n0))) (p (p (f (f (p n1 (p n1 n0)))) n1) (p (f (p (p (f (f (p n1 (p n1 n0)))) n2) (p (p (f (f (p n1 (p n1 n0)))) n2) n0))) n0))))) a) b) e))) 5569049739450108174917870733840743313711141 (p (p (f (f (p (f (p n2 (p n2 (p (p (f (f (p n1 (p n1 n0)))) n2) n0)))) (p (f (p (p (f (f (p n1 (p n1 n0)))) n2) (p (p (f (f (p n1 (p n1 n0)))) n2) n0))) n0)))) a) b) (d (d (d (d e 5569050406468181653555624065156162961809445 (p (p (f (f (p (f (p (f (p n3 (p n3 n0))) (p (f (p n3 (p n3 n0))) n0))) (p (f (p (p (f (f (p n1 (p n1 n0)))) n2) (p (p (f (f (p n1 (p n1 n0)))) n2) n0))) n0)))) a) b) e) 5569050406468254670272035654459139723370533 (p (p (f (f (p (f (p (f (p n3 (p n3 n0))) (p (p (f (f (p n1 (p n1 n0)))) n2) n0))) (p (f (p (f (p n3 (p n3 n0))) (p (p (f (f (p n1 (p n1 n0)))) n2) n0))) n0)))) a) b) e) 5569050406468254670272035787271933414703141 (p (p (f (f (p (f (p (f (p n3 (p n3 n0))) (p (p (f (f (p n1 (p n1 n0)))) n2) n0))) (p (f (p (p (f (f (p n1 (p n1 n0)))) n2) (p (f (p n3 (p n3 n0))) n0))) n0)))) a) b) (d e 5569050406468254670272043720332413610263077 (p (p (f (f (p (f (p (f (p n3 (p n3 n0))) (p (p (f (f (p n1 (p n1 n0)))) n2) n0))) (p (p (f (f (p n1 (p n1 n0)))) n1) (p (p (f (f (p n1 (p n1 n0)))) n1) n0))))) a) b) e)) 5569050559590979980602069480864087684685861 (p (p (f (f (p (f (p (p (f (f (p n1 (p n1 n0)))) n2) (p n2 (p n2 n0)))) (p (f (p (p (f (f (p n1 (p n1 n0)))) n2) (p (p (f (f (p n1 (p n1 n0)))) n2) n0))) n0)))) a) b) (d (d e 5569050559590980603921980059758642298363941 (p (p (f (f (p (f (p (p (f (f (p n1 (p n1 n0)))) n2) (p (f (p n3 (p n3 n0))) n0))) (p (f (p (f (p n3 (p n3 n0))) (p (p (f (f (p n1 (p n1 n0)))) n2) n0))) n0)))) a) b) e) 5569050559590980603921980192571435989696549 (p (p (f (f (p (f (p (p (f (f (p n1 (p n1 n0)))) n2) (p (f (p n3 (p n3 n0))) n0))) (p (f (p (p (f (f (p n1 (p n1 n0)))) n2) (p (f (p n3 (p n3 n0))) n0))) n0)))) a) b) (d e 5569050559590980603921988125631916185256485 (p (p (f (f (p (f (p (p (f (f (p n1 (p n1 n0)))) n2) (p (f (p n3 (p n3 n0))) n0))) (p (p (f (f (p n1 (p n1 n0)))) n1) (p (p (f (f (p n1 (p n1 n0)))) n1) n0))))) a) b) e)))) 5569050559590980746532754432822981051580965 (p (p (f (f (p (f (p (p (f (f (p n1 (p n1 n0)))) n2) (p (p (f (f (p n1 (p n1 n0)))) n2) n0))) (p (f (p n2 (p n2 n0))) (p (p (f (f (p n1 (p n1 n0)))) n1) n0))))) a) b) (d (d (d (d (d e 5569050559590980746532754432826820796882981 (p (p (f (f (p (f (p (p (f (f (p n1 (p n1 n0)))) n2) (p (p (f (f (p n1 (p n1 n0)))) n2) n0))) (p (f (p n2 (p n2 (p (p (f (f (p n1 (p n1 n0)))) n2) n0)))) n0)))) a) b) e) 5569050559590980746532754433956793366183973 (p (p (f (f (p (f (p (p (f (f (p n1 (p n1 n0)))) n2) (p (p (f (f (p n1 (p n1 n0)))) n2) n0))) (p (f (p (f (p n3 (p n3 n0))) (p (f (p n3 (p n3 n0))) n0))) n0)))) a) b) e) 5569050559590980746532754434216193476501541 (p (p (f (f (p (f (p (p (f (f (p n1 (p n1 n0)))) n2) (p (p (f (f (p n1 (p n1 n0)))) n2) n0))) (p (f (p (p (f (f (p n1 (p n1 n0)))) n2) (p n2 (p n2 n0)))) n0)))) a) b) (d e 5569050559590980746532754449710452212211749 (p (p (f (f (p (f (p (p (f (f (p n1 (p n1 n0)))) n2) (p (p (f (f (p n1 (p n1 n0)))) n2) n0))) (p (p (f (f (p n1 (p n1 n0)))) n1) (p (f (p n2 (p n2 n0))) n0))))) a) b) e)) 5569059705786996284113403696623415495761957 (p (p (f (f (p (p (f (f (p n1 (p n1 n0)))) n1) (p (f (p n2 (p n2 n0))) (p (f (p (p (f (f (p n1 (p n1 n0)))) n2) (p (p (f (f (p n1 (p n1 n0)))) n2) n0))) n0))))) a) b) (d (d (d e 5569059705787005568102918426805822086717477 (p (p (f (f (p (p (f (f (p n1 (p n1 n0)))) n1) (p (p (f (f (p n1 (p n1 n0)))) n1) (p (f (p (f (p n3 (p n3 n0))) (p (p (f (f (p n1 (p n1 n0)))) n2) n0))) n0))))) a) b) e) 5569059705787005568102918559618615778050085 (p (p (f (f (p (p (f (f (p n1 (p n1 n0)))) n1) (p (p (f (f (p n1 (p n1 n0)))) n1) (p (f (p (p (f (f (p n1 (p n1 n0)))) n2) (p (f (p n3 (p n3 n0))) n0))) n0))))) a) b) e) 5569059705787005568102926492679095973610021 (p (p (f (f (p (p (f (f (p n1 (p n1 n0)))) n1) (p (p (f (f (p n1 (p n1 n0)))) n1) (p (p (f (f (p n1 (p n1 n0)))) n1) (p (p (f (f (p n1 (p n1 n0)))) n1) n0)))))) a) b) (d e 44552404476727845972262035597683668161430053 (p (p (f (f (p (f (p (p (f (f (p n1 (p n1 n0)))) n2) (p (p (f (f (p n1 (p n1 n0)))) n2) n0))) (p (p (f (f (p n1 (p n1 n0)))) (p (f (f (p n1 (p n1 n0)))) n1)) n0)))) a) b) e))) 44552477646325758802949481805025809426292773 (p (p (f (f (p (p (f (f (p n1 (p n1 n0)))) (p (f (f (p n1 (p n1 n0)))) n1)) (p (f (p (p (f (f (p n1 (p n1 n0)))) n2) (p (p (f (f (p n1 (p n1 n0)))) n2) n0))) n0)))) a) b) (d (d (d (d e 2831845417315206111281472212304402314497394693 (p (f (p (f (p (p (f (f (p n1 (p n1 n0)))) a) (p (p (f (f (p n1 (p n1 n0)))) a) n0))) (p (f (p (p (f (f (p n1 (p n1 n0)))) a) (p (p (f (f (p n1 (p n1 n0)))) a) n0))) n0))) b) e) 2851353808111746391179282323083229971660152869 (p (p (f (f (p (f (p (f (p n3 (p n3 n0))) (p (p (f (f (p n1 (p n1 n0)))) n2) n0))) (p (f (p (p (f (f (p n1 (p n1 n0)))) n2) (p (p (f (f (p n1 (p n1 n0)))) n2) n0))) n0)))) a) b) e) 2851353886510582069208053858596575290056777765 (p (p (f (f (p (f (p (p (f (f (p n1 (p n1 n0)))) n2) (p (f (p n3 (p n3 n0))) n0))) (p (f (p (p (f (f (p n1 (p n1 n0)))) n2) (p (p (f (f (p n1 (p n1 n0)))) n2) n0))) n0)))) a) b) (d e 2851353886510582142224770270185878266818338853 (p (p (f (f (p (f (p (p (f (f (p n1 (p n1 n0)))) n2) (p (p (f (f (p n1 (p n1 n0)))) n2) n0))) (p (f (p (f (p n3 (p n3 n0))) (p (p (f (f (p n1 (p n1 n0)))) n2) n0))) n0)))) a) b) e)) 2851353886510582142224770270318691060509671461 (p (p (f (f (p (f (p (p (f (f (p n1 (p n1 n0)))) n2) (p (p (f (f (p n1 (p n1 n0)))) n2) n0))) (p (f (p (p (f (f (p n1 (p n1 n0)))) n2) (p (f (p n3 (p n3 n0))) n0))) n0)))) a) b) (d (d e 2851353886510582142224770278251751540705231397 (p (p (f (f (p (f (p (p (f (f (p n1 (p n1 n0)))) n2) (p (p (f (f (p n1 (p n1 n0)))) n2) n0))) (p (p (f (f (p n1 (p n1 n0)))) n1) (p (p (f (f (p n1 (p n1 n0)))) n1) n0))))) a) b) e) 2851358569362946850868694302524731341693788197 (p (p (f (f (p (p (f (f (p n1 (p n1 n0)))) n1) (p (p (f (f (p n1 (p n1 n0)))) n1) (p (f (p (p (f (f (p n1 (p n1 n0)))) n2) (p (p (f (f (p n1 (p n1 n0)))) n2) n0))) n0))))) a) b) (d e 1459893189893418056819082378403169823044283932709 (p (p (f (f (p (f (p (p (f (f (p n1 (p n1 n0)))) n2) (p (p (f (f (p n1 (p n1 n0)))) n2) n0))) (p (f (p (p (f (f (p n1 (p n1 n0)))) n2) (p (p (f (f (p n1 (p n1 n0)))) n2) n0))) n0)))) a) b) e)))))
noncomputable def all : NT := (d (d (d (d (d q0 1179418218119269511717 (p (p (f (p (f (f (p n1 (p n1 n0)))) (f (p n1 (p n1 (p n1 (p n1 n0))))))) a) b) q1) 599515704754698575924997 (p (f (p a (p a (p (f (p a (p a n0))) n0)))) (p (f (p a (p a (p a (p a n0))))) b)) (d q2 4796117663709595115966213 (p (f (p a (p a n0))) (p a (p a (p (p (f (f (p n1 (p n1 n0)))) (f (p a (p a n0)))) b)))) q3)) 306952022270247315070416901 (p (f (p a (p a (p a (p a n0))))) (p (f (p (f (p a (p a n0))) (p (f (p a (p a n0))) n0))) b)) (d (d q4 307027572603379259415623685 (p (f (p (f (p a (p a n0))) (p (f (p a (p a n0))) (p (f (p a (p a (p a (p a n0))))) n0)))) b) q5) 309141401441244177325981733 (p (p (f (f (p n1 (p n1 (p n1 (p n1 (p (f (p n2 (p n2 (p (f (p n3 (p n3 n0))) n0)))) n0))))))) a) b) (d q6 2473131152784212397670692869 (p (p (f (f (p n1 (p n1 n0)))) (f (p a (p a n0)))) (p (f (p a (p a (p (f (p a (p a n0))) n0)))) b)) q7))) 157159444907215703430420820517 (p (f (p a (p a (p (f (p a (p a n0))) n0)))) (p (f (p a (p a n0))) (p (p (f (f (p n1 (p n1 n0)))) a) b))) (d (d (d q8 157198117172930184803242987269 (p (f (p (f (p a (p a n0))) (p (f (p a (p a n0))) (p (p (f (f (p n1 (p n1 n0)))) a) (p a (p a n0)))))) b) q9) 157215636061151137216932057349 (p (f (p (p (f (f (p n1 (p n1 n0)))) a) (p a (p a (p a (p a (p (p (f (f (p n1 (p n1 n0)))) a) n0))))))) b) (d q10 158280397977089507888847450661 (p (p (f (f (p n1 (p n1 (p (p (f (f (p n1 (p n1 n0)))) n1) (p (f (p n2 (p n2 n0))) (p n1 (p n1 n0)))))))) a) b) q11)) 1257584937234928210297273250341 (p (f (p (f (p a (p a n0))) (p a (p a n0)))) (p (p (f (f (p n1 (p n1 n0)))) (p (f (f (p n1 (p n1 n0)))) a)) b)) (d (d q12 10129945206081206312733966585605 (p (p (f (f (p n1 (p n1 n0)))) (p (f (f (p n1 (p n1 n0)))) a)) (p (p (f (f (p n1 (p n1 n0)))) (f (p a (p a n0)))) b)) q13) 80485435992540128543552768373285 (p (f (p (f (p a (p a n0))) (p (f (p a (p a n0))) n0))) (p (f (p a (p a n0))) (p (p (f (f (p n1 (p n1 n0)))) a) b))) (d q14 80485747451647777093244877771013 (p (f (p (f (p (f (p a (p a n0))) (p (f (p a (p a n0))) n0))) (p a (p a (p (p (f (f (p n1 (p n1 n0)))) a) n0))))) b) q15)))) 80494405663336180786259140049381 (p (f (p (p (f (f (p n1 (p n1 n0)))) a) (p (p (f (f (p n1 (p n1 n0)))) a) n0))) (p (f (p a (p a n0))) (p a (p a b)))) (d (d (d (d q16 81040339677984145348118574768165 (p (p (f (f (p (f (p n2 (p n2 n0))) (p (f (p n2 (p n2 n0))) (p (f (p (f (p n3 (p n3 n0))) (p n2 (p n2 n0)))) n0))))) a) b) q17) 81040484740326010565521419509797 (p (p (f (f (p (p (f (f (p n1 (p n1 n0)))) n1) (p (f (p n2 (p n2 n0))) (p (f (p n2 (p n2 (p n2 (p n2 n0))))) n0))))) a) b) (d q18 648316493189197204014973828452101 (p (p (f (f (p n1 (p n1 n0)))) (p (f (f (p n1 (p n1 n0)))) a)) (p (p (f (f (p n1 (p n1 n0)))) a) (p (f (p a (p a n0))) b))) q19)) 41208543228180545944824844216234533 (p (f (p (f (p a (p a n0))) (p (f (p a (p a n0))) n0))) (p (p (f (f (p n1 (p n1 n0)))) a) (p (p (f (f (p n1 (p n1 n0)))) a) b))) (d (d q20 41208774452609814949760185155876869 (p (f (p (f (p (p (f (f (p n1 (p n1 n0)))) a) (p a (p a n0)))) (p (f (p (p (f (f (p n1 (p n1 n0)))) a) (p a (p a n0)))) n0))) b) q21) 41492255508512425131952323589732357 (p (p (f (f (p n1 (p n1 n0)))) a) (p (f (p a (p a n0))) (p (f (p (p (f (f (p n1 (p n1 n0)))) a) (p (f (p a (p a n0))) n0))) b))) (d q22 41492653932050676456969272415723557 (p (p (f (f (p (f (p n2 (p n2 (p (p (f (f (p n1 (p n1 n0)))) n2) n0)))) (p (f (p n2 (p n2 n0))) (p (f (p n2 (p n2 n0))) n0))))) a) b) q23))) 41492728187046986580661817253273637 (p (p (f (f (p (p (f (f (p n1 (p n1 n0)))) n1) (p (p (f (f (p n1 (p n1 n0)))) n1) (p (f (p n2 (p n2 (p n2 (p n2 n0))))) n0))))) a) b) (d (d (d q24 331941825496561865526418955295236133 (p (p (f (f (p (p (f (f (p n1 (p n1 n0)))) (f (p n2 (p n2 n0)))) (p (p (f (f (p n1 (p n1 n0)))) n1) (p (f (p n2 (p n2 n0))) n0))))) a) b) q25) 21098892519736301293053594795295096837 (p (f (p (f (p (p (f (f (p n1 (p n1 n0)))) a) (p (f (p a (p a n0))) n0))) (p (f (p (f (p a (p a n0))) (p (f (p a (p a n0))) n0))) n0))) b) (d q26 21244238804563608590289832373179417125 (p (p (f (f (p (f (p n2 (p n2 n0))) (p (p (f (f (p n1 (p n1 n0)))) n1) (p (f (p n2 (p n2 n0))) (p (p (f (f (p n1 (p n1 n0)))) n1) n0)))))) a) b) q27)) 21244241941799090372210519534389228069 (p (p (f (f (p (f (p (p (f (f (p n1 (p n1 n0)))) n2) (p (p (f (f (p n1 (p n1 n0)))) n2) n0))) (p (f (p n2 (p n2 n0))) (p n1 (p n1 n0)))))) a) b) (d (d q28 169954214654257807933614661426641346597 (p (p (f (f (p (p (f (f (p n1 (p n1 n0)))) (p (f (f (p n1 (p n1 n0)))) n1)) (p (f (p (p (f (f (p n1 (p n1 n0)))) n2) (p n2 (p n2 n0)))) n0)))) a) b) q29) 10877051575133167292100695439464315756581 (p (p (f (f (p (f (p (f (p n3 (p n3 n0))) (p (f (p n3 (p n3 n0))) n0))) (p (f (p (f (p n3 (p n3 n0))) (p (p (f (f (p n1 (p n1 n0)))) n2) n0))) n0)))) a) b) (d q30 87016557902979997662010706650440910340133 (p (p (f (f (p (p (f (f (p n1 (p n1 n0)))) (p (f (f (p n1 (p n1 n0)))) n1)) (p (f (p (p (f (f (p n1 (p n1 n0)))) n2) (p (f (p n3 (p n3 n0))) n0))) n0)))) a) b) q31)))))
end NT
end Tm
end Sf
/-! SfM12: (λ. 0 0) (3 2 A): its terms stay low. -/
namespace Sf
namespace Tm
def code : Tm → Nat → Nat
  | nm k, c => c * 8 + k
  | lt x, c => c * 8 + (if x then 5 else 4)
  | fn b, c => code b (c * 8 + 6)
  | ap f a, c => code a (code f (c * 8 + 7))
def same : Tm → Tm → Bool
  | nm k, nm l => k == l
  | lt x, lt y => x == y
  | fn b, fn c => same b c
  | ap f a, ap g c => same f g && same a c
  | _, _ => false
theorem same_eq : ∀ {t u : Tm}, same t u = true → t = u
  | nm k, nm l, h => by rw [eq_of_beq h]
  | lt x, lt y, h => by
    have h : (x == y) = true := h
    rw [eq_of_beq h]
  | fn b, fn c, h => by rw [same_eq (t := b) (u := c) h]
  | ap f a, ap g c, h => by
    have h : (same f g && same a c) = true := h
    simp only [Bool.and_eq_true] at h
    rw [same_eq h.1, same_eq h.2]
  | nm _, lt _, h => by cases h
  | nm _, fn _, h => by cases h
  | nm _, ap _ _, h => by cases h
  | lt _, nm _, h => by cases h
  | lt _, fn _, h => by cases h
  | lt _, ap _ _, h => by cases h
  | fn _, nm _, h => by cases h
  | fn _, lt _, h => by cases h
  | fn _, ap _ _, h => by cases h
  | ap _ _, nm _, h => by cases h
  | ap _ _, lt _, h => by cases h
  | ap _ _, fn _, h => by cases h
def NT.has : NT → Nat → Tm → Bool
  | .e, _, _ => false
  | .d l k t r, c, u => if Nat.blt c k then l.has c u else if Nat.blt k c then r.has c u else same t u
def NT.every : NT → (Tm → Bool) → Bool
  | .e, _ => true
  | .d l _ t r, p => p t && (l.every p && r.every p)
theorem NT.has_every {p : Tm → Bool} {c : Nat} {u : Tm} : ∀ {n : NT}, n.has c u = true → n.every p = true → p u = true
  | .e, h, _ => by cases h
  | .d l k t r, h, g => by
    have g : (p t && (l.every p && r.every p)) = true := g
    simp only [Bool.and_eq_true] at g
    have h : (if Nat.blt c k = true then l.has c u else if Nat.blt k c = true then r.has c u else same t u) = true := h
    split at h
    · exact NT.has_every h g.2.1
    · split at h
      · exact NT.has_every h g.2.2
      · rw [← same_eq h]
        exact g.1
def countB : Tm → Nat
  | lt true => 1
  | fn b => b.countB
  | ap f a => f.countB + a.countB
  | _ => 0
/-- B is not called -/
def noHead : Tm → Bool
  | fn b => b.noHead
  | ap f a => f.noHead && a.noHead && !(same f (lt true))
  | _ => true
noncomputable def inS (t : Tm) : Bool := NT.all.has (t.code 1) t
noncomputable def goodS (t : Tm) : Bool := t.redNodes.all (fun n => inS (t.step n)) && Nat.ble t.height 24 && Nat.ble t.size 60 && t.closedN 0 && t.noHead && Nat.beq t.countB 1
theorem all_good : NT.all.every goodS = true := by decide +kernel
end Tm
end Sf
/-! SfM13: the class of (λ. 0 0) (3 2 A). -/
namespace Sf
namespace Tm
theorem goodS_of {t : Tm} (h : inS t = true) : (∀ n, t.redAt n = true → inS (t.step n) = true) ∧ t.height ≤ 24 ∧ t.size ≤ 60 ∧ t.closedN 0 = true ∧ t.noHead = true ∧ t.countB = 1 := by
  have g : goodS t = true := NT.has_every h all_good
  unfold goodS at g
  simp only [Bool.and_eq_true, List.all_eq_true] at g
  obtain ⟨⟨⟨⟨⟨g1, g2⟩, g3⟩, g4⟩, g5⟩, g6⟩ := g
  exact ⟨fun n hn => g1 n (mem_redNodes.mpr hn), Nat.le_of_ble_eq_true g2, Nat.le_of_ble_eq_true g3, g4, g5, Nat.eq_of_beq_eq_true g6⟩
/-- x in the place of B -/
def subB : Tm → Tm → Tm
  | nm k, _ => nm k
  | lt c, x => if c then x else lt c
  | fn b, x => fn (b.subB x)
  | ap f a, x => ap (f.subB x) (a.subB x)
theorem subB_none : ∀ (t x : Tm), t.countB = 0 → t.subB x = t
  | nm _, _, _ => rfl
  | lt true, _, h => by cases h
  | lt false, _, _ => rfl
  | fn b, x, h => by
    show fn (b.subB x) = _
    rw [subB_none b x h]
  | ap f a, x, h => by
    have h : f.countB + a.countB = 0 := h
    show ap (f.subB x) (a.subB x) = _
    rw [subB_none f x (by omega), subB_none a x (by omega)]
theorem subB_lift : ∀ (t x : Tm) (m c : Nat), x.closedN 0 = true → (t.subB x).lift m c = (t.lift m c).subB x
  | nm k, x, m, c, h => by
    show (nm k).lift m c = _
    simp only [lift]
    split <;> rfl
  | lt true, x, m, c, h => closed_lift0 h m c
  | lt false, x, m, c, h => rfl
  | fn b, x, m, c, h => by
    show fn ((b.subB x).lift m (c + 1)) = fn ((b.lift m (c + 1)).subB x)
    rw [subB_lift b x m (c + 1) h]
  | ap f a, x, m, c, h => by
    show ap ((f.subB x).lift m c) ((a.subB x).lift m c) = ap ((f.lift m c).subB x) ((a.lift m c).subB x)
    rw [subB_lift f x m c h, subB_lift a x m c h]
theorem subB_put : ∀ (t u x : Tm) (d : Nat), x.closedN 0 = true → (t.subB x).put (u.subB x) d = (t.put u d).subB x
  | nm k, u, x, d, h => by
    show (nm k).put (u.subB x) d = _
    simp only [put]
    by_cases c : k = d
    · rw [if_pos c, if_pos c, subB_lift u x d 0 h]
    · rw [if_neg c, if_neg c]
      split <;> rfl
  | lt true, u, x, d, h => closed_put0 h _ d
  | lt false, u, x, d, h => rfl
  | fn b, u, x, d, h => by
    show fn ((b.subB x).put (u.subB x) (d + 1)) = fn ((b.put u (d + 1)).subB x)
    rw [subB_put b u x (d + 1) h]
  | ap f a, u, x, d, h => by
    show ap ((f.subB x).put (u.subB x) d) ((a.subB x).put (u.subB x) d) = ap ((f.put u d).subB x) ((a.put u d).subB x)
    rw [subB_put f u x d h, subB_put a u x d h]
theorem subB_step : ∀ (c x : Tm) (n : Nat), x.closedN 0 = true → c.noHead = true → c.countB ≤ 1 → (c.subB x).redAt n = true →
    (∃ m, c.redAt m = true ∧ (c.subB x).step n = (c.step m).subB x) ∨ (c.countB = 1 ∧ ∃ m, x.redAt m = true ∧ (c.subB x).step n = c.subB (x.step m))
  | nm k, x, 0, hx, hh, hc, h => by cases h
  | nm k, x, n + 1, hx, hh, hc, h => by cases h
  | lt true, x, n, hx, hh, hc, h => .inr ⟨rfl, n, h, rfl⟩
  | lt false, x, 0, hx, hh, hc, h => by cases h
  | lt false, x, n + 1, hx, hh, hc, h => by cases h
  | fn b, x, 0, hx, hh, hc, h => by cases h
  | fn b, x, n + 1, hx, hh, hc, h => by
    rcases subB_step b x n hx hh hc h with ⟨m, h1, h2⟩ | ⟨h0, m, h1, h2⟩
    · refine .inl ⟨m + 1, h1, ?_⟩
      show fn ((b.subB x).step n) = fn ((b.step m).subB x)
      rw [h2]
    · refine .inr ⟨h0, m, h1, ?_⟩
      show fn ((b.subB x).step n) = fn (b.subB (x.step m))
      rw [h2]
  | ap f a, x, 0, hx, hh, hc, h => by
    have hh : (f.noHead && a.noHead && !(same f (lt true))) = true := hh
    simp only [Bool.and_eq_true] at hh
    cases f with
    | nm k => cases h
    | lt y =>
      cases y with
      | true => exact absurd hh.2 (by decide)
      | false => cases h
    | ap _ _ => cases h
    | fn b =>
      refine .inl ⟨0, rfl, ?_⟩
      show (b.subB x).put (a.subB x) 0 = (b.put a 0).subB x
      exact subB_put b a x 0 hx
  | ap f a, x, n + 1, hx, hh, hc, h => by
    have hh : (f.noHead && a.noHead && !(same f (lt true))) = true := hh
    simp only [Bool.and_eq_true] at hh
    have hc : f.countB + a.countB ≤ 1 := hc
    have h : (if n < (f.subB x).size then (f.subB x).redAt n else (a.subB x).redAt (n - (f.subB x).size)) = true := h
    have eS : ((ap f a).subB x).step (n + 1) = if n < (f.subB x).size then ap ((f.subB x).step n) (a.subB x) else ap (f.subB x) ((a.subB x).step (n - (f.subB x).size)) := rfl
    rw [eS]
    by_cases c : n < (f.subB x).size
    · rw [if_pos c] at h ⊢
      rcases subB_step f x n hx hh.1.1 (by omega) h with ⟨m, h1, h2⟩ | ⟨h0, m, h1, h2⟩
      · have hl := redAt_lt h1
        refine .inl ⟨m + 1, by rw [ap_red, if_pos hl]; exact h1, ?_⟩
        rw [ap_step, if_pos hl, h2]
        rfl
      · refine .inr ⟨?_, m, h1, ?_⟩
        · show f.countB + a.countB = 1
          omega
        · show _ = ap (f.subB (x.step m)) (a.subB (x.step m))
          rw [h2, subB_none a x (by omega), subB_none a (x.step m) (by omega)]
    · rw [if_neg c] at h ⊢
      rcases subB_step a x _ hx hh.1.2 (by omega) h with ⟨m, h1, h2⟩ | ⟨h0, m, h1, h2⟩
      · have hl : ¬ f.size + m < f.size := by omega
        refine .inl ⟨f.size + m + 1, by rw [ap_red, if_neg hl, Nat.add_sub_cancel_left]; exact h1, ?_⟩
        rw [ap_step, if_neg hl, Nat.add_sub_cancel_left, h2]
        rfl
      · refine .inr ⟨?_, m, h1, ?_⟩
        · show f.countB + a.countB = 1
          omega
        · show _ = ap (f.subB (x.step m)) (a.subB (x.step m))
          rw [h2, subB_none f x (by omega), subB_none f (x.step m) (by omega)]
theorem subB_small : ∀ (c x : Tm), (c.subB x).height ≤ c.height + x.height ∧ (c.subB x).size ≤ c.size + c.countB * x.size
  | nm k, x => by simp only [subB, height, size, countB]; omega
  | lt true, x => by
    show x.height ≤ _ ∧ x.size ≤ 1 + 1 * x.size
    simp only [height]; omega
  | lt false, x => by
    show 1 ≤ 1 + _ ∧ 1 ≤ 1 + _
    omega
  | fn b, x => by
    have := subB_small b x
    simp only [subB, height, size, countB]; omega
  | ap f a, x => by
    have := subB_small f x
    have := subB_small a x
    simp only [subB, height, size, countB, Nat.add_mul]; omega
def Wx (t : Tm) : Prop := (∃ x, inS (ap x tB) = true ∧ t = ap tPair x) ∨ (∃ c x, inS c = true ∧ inS (ap x tB) = true ∧ t = c.subB x)
theorem inS_arg {x : Tm} (h : inS (ap x tB) = true) : x.closedN 0 = true ∧ x.countB = 0 ∧ x.height ≤ 24 ∧ x.size ≤ 60 ∧ ∀ n, x.redAt n = true → inS (ap (x.step n) tB) = true := by
  obtain ⟨h1, h2, h3, h4, h5, h6⟩ := goodS_of h
  have h4 : (x.closedN 0 && true) = true := h4
  have h6 : x.countB + 1 = 1 := h6
  simp only [height, size] at h2 h3
  refine ⟨by simpa using h4, by omega, by omega, by omega, fun n hn => ?_⟩
  have hl := redAt_lt hn
  have g := h1 (n + 1) (by rw [ap_red, if_pos hl]; exact hn)
  rw [ap_step, if_pos hl] at g
  exact g
theorem Wx.step {t : Tm} {n : Nat} (h : Wx t) (hn : t.redAt n = true) : Wx (t.step n) := by
  rcases h with ⟨x, hx, rfl⟩ | ⟨c, x, hc, hx, rfl⟩
  · obtain ⟨x1, x2, x3, x4, x5⟩ := inS_arg hx
    cases n with
    | zero =>
      refine .inr ⟨ap x tB, x, hx, hx, ?_⟩
      show ap (x.lift 0 0) (x.lift 0 0) = ap (x.subB x) x
      rw [closed_lift0 x1, subB_none x x x2]
    | succ n =>
      rw [ap_red] at hn
      have c : ¬ n < tPair.size := fun c => by
        rw [if_pos c, pair_red] at hn
        cases hn
      rw [if_neg c] at hn
      rw [ap_step, if_neg c]
      exact .inl ⟨_, x5 _ hn, rfl⟩
  · obtain ⟨x1, x2, x3, x4, x5⟩ := inS_arg hx
    obtain ⟨c1, c2, c3, c4, c5, c6⟩ := goodS_of hc
    rcases subB_step c x n x1 c5 (by omega) hn with ⟨m, h1, h2⟩ | ⟨_, m, h1, h2⟩
    · exact .inr ⟨_, x, c1 m h1, hx, h2⟩
    · exact .inr ⟨c, _, hc, x5 m h1, h2⟩
theorem Wx.small {t : Tm} (h : Wx t) : Small t := by
  rcases h with ⟨x, hx, rfl⟩ | ⟨c, x, hc, hx, rfl⟩
  · obtain ⟨x1, x2, x3, x4, x5⟩ := inS_arg hx
    refine ⟨?_, ?_⟩
    · simp only [size]; omega
    · simp only [height]; omega
  · obtain ⟨x1, x2, x3, x4, x5⟩ := inS_arg hx
    obtain ⟨c1, c2, c3, c4, c5, c6⟩ := goodS_of hc
    have := subB_small c x
    rw [c6] at this
    exact ⟨by omega, by omega⟩
abbrev tX : Tm := ap (ap tThree tTwo) tA
theorem inS_X : inS (ap tX tB) = true := by decide +kernel
theorem wx_good {w : Nat} {t : Tm} {ws : List Nat} (h : Wx t) (hw : w ≤ 120) (ht : ∃ Γ T o, Ty Γ t T w o) (h1 : t.Way ws) (h2 : (t.steps ws).redNodes = []) : Good t ws :=
  sort_term (C := fun w t => Wx t ∧ ∃ Γ T o, Ty Γ t T w o) (fun {w t n} ⟨hx, Γ, T, o, h⟩ hr => by
    obtain ⟨w', l, g⟩ := h.step hr
    exact ⟨w', l, hx.step hr, Γ, T, o, g⟩) (fun {w t} ⟨hx, _⟩ => hx.small) ⟨h, ht⟩ hw h1 h2
end Tm
end Sf
/-! SfM14: each term that the law tries is in one of the classes. -/
namespace Sf
namespace Tm
open Ti (U ar)
abbrev tKO : Tm := ap (ap tK tA) tOmega
abbrev D2 : Ti := ar 2 U U
/-! ### the known ones -/
def aOne : An := .fn U (.nm 0 U)
def aPair : An := .fn D2 (.ap (.nm 0 U) (.nm 0 U))
def aK : An := .fn U (.fn U (.nm 1 U))
def aA : An := .lt false U
def aB : An := .lt true U
def aTwo : An := .fn D2 (.fn U (.ap (.nm 1 U) (.ap (.nm 1 U) (.nm 0 U))))
def aTwo2 : An := .fn (ar 3 D2 (ar 4 U U)) (.fn (ar 4 U U) (.ap (.nm 1 D2) (.ap (.nm 1 D2) (.nm 0 U))))
def aThree : An := .fn (ar 7 D2 (ar 8 U U)) (.fn (ar 8 U U) (.ap (.nm 1 D2) (.ap (.nm 1 D2) (.ap (.nm 1 D2) (.nm 0 U)))))
def aSwap : An := .fn U (.fn U (.fn U (.ap (.ap (.nm 2 U) (.nm 0 U)) (.nm 1 U))))
def aDup : An := .fn (ar 1 U (ar 1 U D2)) (.fn (ar 1 U D2) (.fn D2 (.ap (.ap (.nm 2 U) (.nm 0 U)) (.nm 0 U))))
def aD : An := .fn D2 (.ap aPair (.ap aOne (.nm 0 U)))
def ans : List An := [.ap aOne aA, .ap aPair (.ap aOne aA), .ap (.ap aTwo aOne) aA, .ap (.ap (.ap aTwo2 aTwo) aOne) aB, .ap (.ap (.ap aSwap aK) aA) aB, .ap (.ap aThree aTwo) aA, .ap (.ap aTwo2 aPair) aA,
  .ap aPair (.fn U (.ap aOne (.nm 0 U))), .ap aPair (.ap aPair aOne), .ap (.ap (.ap aDup aK) aA) (.ap aOne aB)]
theorem ans_all : ∀ t ∈ knowns, t = tKO ∨ t = tD ∨ ∃ x ∈ ans, x.tm = t := by decide +kernel
theorem ans_ok : ∀ x ∈ ans, x.ty = U ∧ x.tm.closedN 0 = true ∧ x.w ≤ 45 ∧ x.w ≤ 2 * x.tm.size + 1 ∧ (x.tm.size ≤ 23 → x.tm = tX ∨ x.w ≤ 24) ∧ (x.tm.size ≤ 14 → x.w ≤ 13) := by decide +kernel
theorem ans_ty : ∀ x ∈ ans, x.ok GU = true := by decide +kernel
theorem An.o_zero : ∀ (x : An) (i : Nat), x.tm.stands i = 0 → x.o i = 0
  | .nm n _, i, h => h
  | .lt _ _, i, h => rfl
  | .fn _ b, i, h => An.o_zero b (i + 1) h
  | .ap f a, i, h => by
    have h : f.tm.stands i + a.tm.stands i = 0 := h
    show f.o i + f.ty.spl.1 * a.o i = 0
    rw [An.o_zero f i (by omega), An.o_zero a i (by omega)]
    omega
def O0 : Nat → Nat := fun _ => 0
theorem An.closed {x : An} {Γ : Nat → Ti} (h : x.ok Γ = true) (hc : x.tm.closedN 0 = true) : Ty Γ x.tm x.ty x.w O0 :=
  (x.sound Γ h).sub (Nat.le_refl _) fun i => by rw [An.o_zero x i (closed_stands _ 0 i hc (Nat.zero_le _))]; exact Nat.zero_le _
def HasU (t : Tm) (w : Nat) : Prop := Ty GU t U w O0
theorem drawn_u {t : Tm} (h : Drawn t) (h1 : t ≠ tKO) (h2 : t ≠ tD) : ∃ w, HasU t w ∧ w ≤ 45 ∧ w ≤ 2 * t.size + 1 ∧ (t.size ≤ 23 → t = tX ∨ w ≤ 24) ∧ (t.size ≤ 14 → w ≤ 13) := by
  rcases h with h | h
  · rcases ans_all t h with e | e | ⟨x, hx, rfl⟩
    · exact absurd e h1
    · exact absurd e h2
    · obtain ⟨g1, g2, g3, g4, g5, g6⟩ := ans_ok x hx
      have s := An.closed (ans_ty x hx) g2
      rw [g1] at s
      exact ⟨x.w, s, g3, g4, g5, g6⟩
  · have hi := inn_lt t
    have hz : t.size ≤ 46 := h.sz
    refine ⟨t.inn, (affine_ty t h.aff).sub (Nat.le_refl _) fun i => ?_, by omega, by omega, fun _ => .inr (by omega), fun _ => by omega⟩
    have := h.st i
    rwa [List.count_nil] at this
theorem d_ty : Ty GU tD D2 8 O0 := An.closed (x := aD) (by decide +kernel) (by decide +kernel)
theorem ko_om : Om 0 9 tKO :=
  have hK : Om 0 2 tK := .fn (w := 1) (.fn (w := 0) .nm (by decide) (by decide)) (by decide) (by decide)
  have hA : Om 0 3 (ap tK tA) := .ap (k2 := 0) (w2 := 0) hK .lt (by decide) (by decide)
  .ap hA (.om (k := 0) (w := 5) (by decide)) (by decide) (by decide)
theorem known_om0 : ∀ t ∈ knowns, t.size ≤ 9 → t = ap tOne tA ∨ t = ap tPair (ap tOne tA) := by decide +kernel
theorem drawn_om {t : Tm} (h : Drawn t) (hz : t.size ≤ 9) : ∃ k w, Om k w t ∧ k ≤ 1 ∧ w ≤ 8 := by
  rcases h with h | h
  · have o : Om 0 2 (ap tOne tA) := .ap (k1 := 0) (k2 := 0) (w1 := 1) (w2 := 0) (.fn (w := 0) .nm (by decide) (by decide)) .lt (by decide) (by decide)
    rcases known_om0 t h hz with rfl | rfl
    · exact ⟨0, 2, o, by decide, by decide⟩
    · exact ⟨1, 7, .dup o rfl (by decide) (by decide), by decide, by decide⟩
  · have hi := inn_lt t
    exact ⟨0, t.inn, affine_om t h.aff, by decide, by omega⟩
theorem knowns_closed : ∀ t ∈ knowns, t.closedN 0 = true := by decide +kernel
theorem Drawn.closed {t : Tm} (h : Drawn t) : t.closedN 0 = true := by
  rcases h with h | h
  · exact knowns_closed t h
  · exact closed_of_stands t 0 fun i _ => by
      have := h.st i
      simpa using this
theorem Wide.closed {t : Tm} (h : Wide t) : t.closedN 0 = true := by
  have two : ∀ {t u : Tm}, Drawn t → Drawn u → (ap t u).closedN 0 = true := fun a b => by
    simp only [closedN, Bool.and_eq_true]
    exact ⟨a.closed, b.closed⟩
  cases h with
  | one a => exact a.closed
  | call a b _ => exact two a b
  | fcall a b _ => exact closed_mono _ 0 1 (by decide) (two a b)
  | pair a _ =>
    simp only [closedN, Bool.and_eq_true]
    exact ⟨by decide, a.closed⟩
  | k a _ =>
    simp only [closedN, Bool.and_eq_true]
    exact ⟨by decide, a.closed⟩
  | drop a b _ =>
    simp only [closedN, Bool.and_eq_true]
    exact ⟨closed_mono _ 0 1 (by decide) a.closed, b.closed⟩
/-! ### the classes -/
def Fits (t : Tm) : Prop := (∃ w, Ty GU t U w O0 ∧ w ≤ 53) ∨ (∃ w, Sp1 GU t U w O0 ∧ w ≤ 50) ∨ (∃ k w, Om k w t ∧ t.stands 0 = 0 ∧ k ≤ 2 ∧ w ≤ 50) ∨ ZZ t
theorem Fits.good {t : Tm} {ws : List Nat} (h : Fits t) (hl : ws.length ≤ 12) (h1 : t.Way ws) (h2 : (t.steps ws).redNodes = []) : Good t ws := by
  rcases h with ⟨w, g, hw⟩ | ⟨w, g, hw⟩ | ⟨k, w, g, _, hk, hw⟩ | g
  · exact TyC.good (w := w) ⟨by omega, _, _, _, g⟩ h1 h2
  · exact SpC.good (w := w) ⟨by omega, _, _, _, g⟩ h1 h2
  · have e := Nat.mul_le_mul (Nat.pow_le_pow_right (show 0 < 2 by decide) hk) hl
    exact g.good (by omega) (by omega) h1 h2
  · exact absurd h2 (g.never h1)
theorem Fits.fn_good {t : Tm} {ws : List Nat} (h : Fits t) (hl : ws.length ≤ 12) (h1 : (fn t).Way ws) (h2 : ((fn t).steps ws).redNodes = []) : Good (fn t) ws := by
  have e := cn_GU
  rcases h with ⟨w, g, hw⟩ | ⟨w, g, hw⟩ | ⟨k, w, g, h0, hk, hw⟩ | g
  · rw [← e] at g
    exact TyC.good (w := w + 1) ⟨by omega, GU, U, O0, .fn rfl g (Nat.zero_le _) (fun i => Nat.le_refl _) (Nat.le_refl _)⟩ h1 h2
  · rw [← e] at g
    exact SpC.good (w := w + 2) ⟨by omega, GU, U, O0, .fn rfl g (Nat.zero_le _) (fun i => Nat.le_refl _) (Nat.le_refl _)⟩ h1 h2
  · have e := Nat.mul_le_mul (Nat.pow_le_pow_right (show 0 < 2 by decide) hk) hl
    exact Om.good (w := w + 1) (.fn g (by omega) (Nat.le_refl _)) (by omega) (by omega) h1 h2
  · exact absurd h2 (g.never_fn h1)
theorem ty_ap {t u : Tm} {A B T : Ti} {m w v : Nat} (e : T.spl = (m, A, B)) (hm : 1 ≤ m) (h : Ty GU t T w O0) (g : Ty GU u A v O0) : Ty GU (ap t u) B (w + 1 + m * v) O0 :=
  .ap e hm h g (fun i => by show 0 + m * 0 ≤ 0; omega) (Nat.le_refl _)
theorem ty_fn {t : Tm} {B : Ti} {w : Nat} (h : Ty GU t B w O0) : Ty GU (fn t) (ar 1 U B) (w + 1) O0 := by
  rw [← cn_GU] at h
  have h' : Ty (cn U GU) t B w O0 := h
  exact .fn rfl (by rw [cn_GU] at h'; rw [cn_GU]; exact h') (Nat.zero_le _) (fun i => Nat.le_refl _) (Nat.le_refl _)
theorem ty_fnU {t : Tm} {w : Nat} (h : HasU t w) : HasU (fn t) (w + 1) := by
  have h' : Ty (cn U GU) t U w O0 := by rw [cn_GU]; exact h
  exact .fn (m := 1) rfl h' (Nat.zero_le _) (fun i => Nat.le_refl _) (Nat.le_refl _)
theorem sp_d {t : Tm} {w : Nat} (h : HasU t w) (hw : w ≤ 20) : Fits (ap t tD) :=
  .inr (.inl ⟨2 * w + 2 + 8, .apR rfl h (.reg (o := O0) d_ty (.inr rfl) (fun i => Nat.zero_le _) (Nat.le_refl _)) (fun i => Nat.le_refl _) (Nat.le_refl _), by omega⟩)
theorem size_ko : tKO.size = 15 := rfl
theorem size_d : tD.size = 10 := rfl
theorem call_fits {t u : Tm} (ht : Drawn t) (hu : Drawn u) (hz : t.size + u.size ≤ 24) : Fits (ap t u) := by
  have hc : (ap t u).stands 0 = 0 := by
    simp only [stands]
    rw [closed_stands t 0 0 ht.closed (Nat.le_refl _), closed_stands u 0 0 hu.closed (Nat.le_refl _)]
  by_cases t1 : t = tKO
  · subst t1
    have := size_ko
    obtain ⟨k, w, g, hk, hw⟩ := drawn_om hu (by omega)
    exact .inr (.inr (.inl ⟨0 + k, 9 + 1 + w, .ap ko_om g (Nat.le_refl _) (Nat.le_refl _), hc, by omega, by omega⟩))
  by_cases u1 : u = tKO
  · subst u1
    have := size_ko
    obtain ⟨k, w, g, hk, hw⟩ := drawn_om ht (by omega)
    exact .inr (.inr (.inl ⟨k + 0, w + 1 + 9, .ap g ko_om (Nat.le_refl _) (Nat.le_refl _), hc, by omega, by omega⟩))
  by_cases t2 : t = tD
  · subst t2
    by_cases u2 : u = tD
    · subst u2
      exact .inr (.inr (.inr ⟨_, _, .d (by decide), .d (by decide), rfl⟩))
    · have := size_d
      obtain ⟨w, h, _, _, _, h6⟩ := drawn_u hu u1 u2
      have := h6 (by omega)
      exact .inl ⟨_, ty_ap rfl (by decide) d_ty h, by omega⟩
  obtain ⟨w, h, _, h4, _, h6⟩ := drawn_u ht t1 t2
  by_cases u2 : u = tD
  · subst u2
    have := size_d
    have := h6 (by omega)
    exact sp_d h (by omega)
  obtain ⟨v, g, _, g4, _, _⟩ := drawn_u hu u1 u2
  exact .inl ⟨_, ty_ap (m := 1) rfl (by decide) h g, by omega⟩
theorem drop_fits {t u : Tm} (ht : Drawn t) (hu : Drawn u) (hz : t.size + u.size ≤ 24) : Fits (ap (fn t) u) ∨ ∃ w, TyC w (ap (fn t) u) := by
  have tc := ht.closed
  have t0 : t.stands 0 = 0 := closed_stands t 0 0 tc (Nat.le_refl _)
  have hc : (ap (fn t) u).stands 0 = 0 := by
    simp only [stands]
    rw [closed_stands t 0 1 tc (by omega), closed_stands u 0 0 hu.closed (Nat.le_refl _)]
  by_cases t1 : t = tKO
  · subst t1
    have := size_ko
    obtain ⟨k, w, g, hk, hw⟩ := drawn_om hu (by omega)
    exact .inl (.inr (.inr (.inl ⟨0 + k, 10 + 1 + w, .ap (.fn ko_om (by omega) (Nat.le_refl _)) g (Nat.le_refl _) (Nat.le_refl _), hc, by omega, by omega⟩)))
  by_cases u1 : u = tKO
  · subst u1
    have := size_ko
    obtain ⟨k, w, g, hk, hw⟩ := drawn_om ht (by omega)
    exact .inl (.inr (.inr (.inl ⟨k + 0, w + 1 + 1 + 9, .ap (.fn g (by omega) (Nat.le_refl _)) ko_om (Nat.le_refl _) (Nat.le_refl _), hc, by omega, by omega⟩)))
  by_cases t2 : t = tD
  · subst t2
    by_cases u2 : u = tD
    · subst u2
      have g : Ty GU (An.ap (.fn (ar 1 D2 D2) aD) aD).tm D2 18 O0 := An.closed (x := .ap (.fn (ar 1 D2 D2) aD) aD) (by decide +kernel) (by decide +kernel)
      exact .inr ⟨18, by decide, GU, D2, O0, g⟩
    · have := size_d
      obtain ⟨w, h, _, _, _, h6⟩ := drawn_u hu u1 u2
      have := h6 (by omega)
      exact .inr ⟨_, by omega, GU, D2, O0, ty_ap (m := 1) rfl (by decide) (ty_fn d_ty) h⟩
  obtain ⟨w, h, _, h4, _, h6⟩ := drawn_u ht t1 t2
  by_cases u2 : u = tD
  · subst u2
    have := size_d
    have := h6 (by omega)
    exact .inl (sp_d (ty_fnU h) (by omega))
  obtain ⟨v, g, _, g4, _, _⟩ := drawn_u hu u1 u2
  exact .inl (.inl ⟨_, ty_ap (m := 1) rfl (by decide) (ty_fnU h) g, by omega⟩)
theorem wide_good {t : Tm} {ws : List Nat} (h : Wide t) (hl : ws.length ≤ 12) (h1 : t.Way ws) (h2 : (t.steps ws).redNodes = []) : Good t ws := by
  cases h with
  | one a =>
    by_cases t1 : t = tKO
    · subst t1
      exact ko_om.good (by decide) (by omega) h1 h2
    by_cases t2 : t = tD
    · subst t2
      exact TyC.good (w := 8) ⟨by decide, _, _, _, d_ty⟩ h1 h2
    obtain ⟨w, h, h3, _⟩ := drawn_u a t1 t2
    exact TyC.good (w := w) ⟨by omega, _, _, _, h⟩ h1 h2
  | call a b hz => exact (call_fits a b hz).good hl h1 h2
  | fcall a b hz => exact (call_fits a b hz).fn_good hl h1 h2
  | drop a b hz =>
    rcases drop_fits a b hz with g | ⟨w, g⟩
    · exact g.good hl h1 h2
    · exact g.good h1 h2
  | pair a hz =>
    rename_i u
    by_cases t1 : u = tKO
    · subst t1
      exact Om.good (k := 1) (w := 21) (.dup ko_om (by decide) (by decide) (by decide)) (by decide) (by omega) h1 h2
    by_cases t2 : u = tD
    · subst t2
      have z : ZZ (ap tPair tD) := ⟨_, _, .d (by decide), .d (by decide), rfl⟩
      exact absurd h2 (z.never h1)
    have gP : Ty GU tPair D2 2 O0 := An.closed (x := aPair) (by decide +kernel) (by decide +kernel)
    obtain ⟨w, h, h3, _, h5, _⟩ := drawn_u a t1 t2
    have g := ty_ap (m := 2) rfl (by decide) gP h
    rcases h5 hz with e | e
    · refine wx_good (w := 2 + 1 + 2 * w) (.inl ⟨u, ?_, rfl⟩) (by omega) ⟨_, _, _, g⟩ h1 h2
      rw [e]
      exact inS_X
    · exact TyC.good (w := 2 + 1 + 2 * w) ⟨by omega, _, _, _, g⟩ h1 h2
  | k a hz =>
    rename_i u
    by_cases t1 : u = tKO
    · subst t1
      have hK : Om 0 2 tK := .fn (w := 1) (.fn (w := 0) .nm (by decide) (by decide)) (by decide) (by decide)
      exact Om.good (k := 0) (w := 12) (.ap hK ko_om (by decide) (by decide)) (by decide) (by omega) h1 h2
    by_cases t2 : u = tD
    · subst t2
      have g : Ty GU (An.ap (.fn (ar 1 D2 (ar 1 U D2)) (.fn (ar 1 U D2) (.nm 1 D2))) aD).tm (ar 1 U D2) 11 O0 := An.closed (x := .ap (.fn (ar 1 D2 (ar 1 U D2)) (.fn (ar 1 U D2) (.nm 1 D2))) aD) (by decide +kernel) (by decide +kernel)
      exact TyC.good (w := 11) ⟨by decide, _, _, _, g⟩ h1 h2
    have gK : Ty GU tK U 2 O0 := An.closed (x := aK) (by decide +kernel) (by decide +kernel)
    obtain ⟨w, h, h3, _⟩ := drawn_u a t1 t2
    exact TyC.good (w := 2 + 1 + 1 * w) ⟨by omega, _, _, _, ty_ap (m := 1) rfl (by decide) gK h⟩ h1 h2
theorem wide_main {t : Tm} {ws : List Nat} (h : Wide t) (hw : t.Way60 ws) (hl : ws.length ≤ 12) (hn : (t.steps ws).redNodes = []) : ∃ L, t.NormOf 60 L ∧ t.StdOf ws L ∧ t.Firsts L :=
  (wide_good h hl hw.way hn).main h.closed hw.way (by omega)
end Tm
end Sf
/-! SfW0: the text by places, what a term is in the heap, the cup; short words for the walk. -/
namespace Sf
open PySem PySem.Spec PyProof.Rows L2
open C8 (Cal pe_c)
def topS (i : Nat) : Stmt := PySem.Challenge.pw_sharefold_k65_whole_leftmost_ways_win.main.body.getD i (.Pass ⟨0, 0, 0, 0⟩)
abbrev s_is_whole : Stmt := topS 6
theorem sc_is_whole : FnScope ["value", "low", "high"] ["value", "low", "high"] (defScope s_is_whole) := ⟨rfl, rfl, rfl, by decide +kernel, rfl, by decide +kernel, by decide +kernel⟩
abbrev s_is_tuple_of : Stmt := topS 7
theorem sc_is_tuple_of : FnScope ["value", "low", "high"] ["value", "low", "high"] (defScope s_is_tuple_of) := ⟨rfl, rfl, rfl, by decide +kernel, rfl, by decide +kernel, by decide +kernel⟩
abbrev s_inner : Stmt := topS 12
theorem sc_inner : FnScope ["term"] ["term"] (defScope s_inner) := ⟨rfl, rfl, rfl, by decide +kernel, rfl, by decide +kernel, by decide +kernel⟩
abbrev s_is_leaf : Stmt := topS 13
theorem sc_is_leaf : FnScope ["value", "around"] ["value", "around"] (defScope s_is_leaf) := ⟨rfl, rfl, rfl, by decide +kernel, rfl, by decide +kernel, by decide +kernel⟩
abbrev s_left_of : Stmt := topS 14
theorem sc_left_of : FnScope ["value", "around", "high", "many", "rest"] ["value", "around", "high", "many"] (defScope s_left_of) := ⟨rfl, rfl, rfl, by decide +kernel, rfl, by decide +kernel, by decide +kernel⟩
abbrev s_size : Stmt := topS 15
theorem sc_size : FnScope ["term", "part"] ["term"] (defScope s_size) := ⟨rfl, rfl, rfl, by decide +kernel, rfl, by decide +kernel, by decide +kernel⟩
abbrev s_height : Stmt := topS 16
theorem sc_height : FnScope ["term", "part"] ["term"] (defScope s_height) := ⟨rfl, rfl, rfl, by decide +kernel, rfl, by decide +kernel, by decide +kernel⟩
abbrev s_parts : Stmt := topS 17
theorem sc_parts : FnScope ["term", "found", "part"] ["term"] (defScope s_parts) := ⟨rfl, rfl, rfl, by decide +kernel, rfl, by decide +kernel, by decide +kernel⟩
abbrev s_put_at : Stmt := topS 18
theorem sc_put_at : FnScope ["term", "node", "part", "many"] ["term", "node", "part"] (defScope s_put_at) := ⟨rfl, rfl, rfl, by decide +kernel, rfl, by decide +kernel, by decide +kernel⟩
abbrev s_fits_term : Stmt := topS 19
theorem sc_fits_term : FnScope ["value"] ["value"] (defScope s_fits_term) := ⟨rfl, rfl, rfl, by decide +kernel, rfl, by decide +kernel, by decide +kernel⟩
abbrev s_need_term : Stmt := topS 20
theorem sc_need_term : FnScope ["value"] ["value"] (defScope s_need_term) := ⟨rfl, rfl, rfl, by decide +kernel, rfl, by decide +kernel, by decide +kernel⟩
abbrev s_need_small : Stmt := topS 21
theorem sc_need_small : FnScope ["term"] ["term"] (defScope s_need_small) := ⟨rfl, rfl, rfl, by decide +kernel, rfl, by decide +kernel, by decide +kernel⟩
abbrev s_lifted : Stmt := topS 23
theorem sc_lifted : FnScope ["term", "many", "cut"] ["term", "many", "cut"] (defScope s_lifted) := ⟨rfl, rfl, rfl, by decide +kernel, rfl, by decide +kernel, by decide +kernel⟩
abbrev s_put_for : Stmt := topS 24
theorem sc_put_for : FnScope ["body", "argument", "depth"] ["body", "argument", "depth"] (defScope s_put_for) := ⟨rfl, rfl, rfl, by decide +kernel, rfl, by decide +kernel, by decide +kernel⟩
abbrev s_stands : Stmt := topS 25
theorem sc_stands : FnScope ["term", "depth"] ["term", "depth"] (defScope s_stands) := ⟨rfl, rfl, rfl, by decide +kernel, rfl, by decide +kernel, by decide +kernel⟩
abbrev s_size_behind : Stmt := topS 26
theorem sc_size_behind : FnScope ["redex", "body", "argument"] ["redex"] (defScope s_size_behind) := ⟨rfl, rfl, rfl, by decide +kernel, rfl, by decide +kernel, by decide +kernel⟩
abbrev s_contracted : Stmt := topS 27
theorem sc_contracted : FnScope ["redex"] ["redex"] (defScope s_contracted) := ⟨rfl, rfl, rfl, by decide +kernel, rfl, by decide +kernel, by decide +kernel⟩
abbrev s_is_call_of_fun : Stmt := topS 29
theorem sc_is_call_of_fun : FnScope ["term"] ["term"] (defScope s_is_call_of_fun) := ⟨rfl, rfl, rfl, by decide +kernel, rfl, by decide +kernel, by decide +kernel⟩
abbrev s_redex_nodes : Stmt := topS 30
theorem sc_redex_nodes : FnScope ["term", "at", "part"] ["term"] (defScope s_redex_nodes) := ⟨rfl, rfl, rfl, by decide +kernel, rfl, by decide +kernel, by decide +kernel⟩
abbrev s_stepped : Stmt := topS 31
theorem sc_stepped : FnScope ["term", "node", "redex", "found"] ["term", "node"] (defScope s_stepped) := ⟨rfl, rfl, rfl, by decide +kernel, rfl, by decide +kernel, by decide +kernel⟩
abbrev s_body_origins : Stmt := topS 32
theorem sc_body_origins : FnScope ["body", "depth", "node", "argument", "found", "part", "here"] ["body", "depth", "node", "argument"] (defScope s_body_origins) := ⟨rfl, rfl, rfl, by decide +kernel, rfl, by decide +kernel, by decide +kernel⟩
abbrev s_step_origins : Stmt := topS 33
theorem sc_step_origins : FnScope ["term", "node", "redex", "end", "begin", "body"] ["term", "node"] (defScope s_step_origins) := ⟨rfl, rfl, rfl, by decide +kernel, rfl, by decide +kernel, by decide +kernel⟩
abbrev s_along : Stmt := topS 36
theorem sc_along : FnScope ["term", "way", "found", "node", "here"] ["term", "way"] (defScope s_along) := ⟨rfl, rfl, rfl, by decide +kernel, rfl, by decide +kernel, by decide +kernel⟩
abbrev s_need_way : Stmt := topS 37
theorem sc_need_way : FnScope ["term", "way", "found"] ["term", "way"] (defScope s_need_way) := ⟨rfl, rfl, rfl, by decide +kernel, rfl, by decide +kernel, by decide +kernel⟩
abbrev s_left_in : Stmt := topS 39
theorem sc_left_in : FnScope ["term", "node", "lot", "others", "own", "at", "origin"] ["term", "node", "lot"] (defScope s_left_in) := ⟨rfl, rfl, rfl, by decide +kernel, rfl, by decide +kernel, by decide +kernel⟩
abbrev s_left_through : Stmt := topS 40
theorem sc_left_through : FnScope ["term", "way", "lot", "node"] ["term", "way", "lot"] (defScope s_left_through) := ⟨rfl, rfl, rfl, by decide +kernel, rfl, by decide +kernel, by decide +kernel⟩
abbrev s_developed_way : Stmt := topS 42
theorem sc_developed_way : FnScope ["term", "lot", "way", "node"] ["term", "lot"] (defScope s_developed_way) := ⟨rfl, rfl, rfl, by decide +kernel, rfl, by decide +kernel, by decide +kernel⟩
abbrev s_development_in : Stmt := topS 43
theorem sc_development_in : FnScope ["term", "lot"] ["term", "lot"] (defScope s_development_in) := ⟨rfl, rfl, rfl, by decide +kernel, rfl, by decide +kernel, by decide +kernel⟩
abbrev s_developed_in : Stmt := topS 44
theorem sc_developed_in : FnScope ["term", "lot"] ["term", "lot"] (defScope s_developed_in) := ⟨rfl, rfl, rfl, by decide +kernel, rfl, by decide +kernel, by decide +kernel⟩
abbrev s_left_developed : Stmt := topS 45
theorem sc_left_developed : FnScope ["term", "lot", "other"] ["term", "lot", "other"] (defScope s_left_developed) := ⟨rfl, rfl, rfl, by decide +kernel, rfl, by decide +kernel, by decide +kernel⟩
abbrev s_need_short : Stmt := topS 46
theorem sc_need_short : FnScope ["way"] ["way"] (defScope s_need_short) := ⟨rfl, rfl, rfl, by decide +kernel, rfl, by decide +kernel, by decide +kernel⟩
abbrev s_row_of : Stmt := topS 48
theorem sc_row_of : FnScope ["way", "node"] ["way"] (defScope s_row_of) := ⟨rfl, rfl, rfl, by decide +kernel, rfl, by decide +kernel, by decide +kernel⟩
abbrev s_need_short_row : Stmt := topS 49
theorem sc_need_short_row : FnScope ["row", "lot"] ["row"] (defScope s_need_short_row) := ⟨rfl, rfl, rfl, by decide +kernel, rfl, by decide +kernel, by decide +kernel⟩
abbrev s_row_behind : Stmt := topS 50
theorem sc_row_behind : FnScope ["term", "row", "lot", "found", "own"] ["term", "row", "lot"] (defScope s_row_behind) := ⟨rfl, rfl, rfl, by decide +kernel, rfl, by decide +kernel, by decide +kernel⟩
abbrev s_way_of : Stmt := topS 51
theorem sc_way_of : FnScope ["term", "row", "way", "lot"] ["term", "row"] (defScope s_way_of) := ⟨rfl, rfl, rfl, by decide +kernel, rfl, by decide +kernel, by decide +kernel⟩
abbrev s_tail_in : Stmt := topS 52
theorem sc_tail_in : FnScope ["term", "way", "lot", "row", "left"] ["term", "way", "lot"] (defScope s_tail_in) := ⟨rfl, rfl, rfl, by decide +kernel, rfl, by decide +kernel, by decide +kernel⟩
abbrev s_lesser_left : Stmt := topS 54
theorem sc_lesser_left : FnScope ["terms", "way", "earlier", "later", "node", "lot", "place"] ["terms", "way", "earlier", "later"] (defScope s_lesser_left) := ⟨rfl, rfl, rfl, by decide +kernel, rfl, by decide +kernel, by decide +kernel⟩
abbrev s_unsorted_in : Stmt := topS 55
theorem sc_unsorted_in : FnScope ["terms", "way", "later", "earlier", "node"] ["terms", "way"] (defScope s_unsorted_in) := ⟨rfl, rfl, rfl, by decide +kernel, rfl, by decide +kernel, by decide +kernel⟩
abbrev s_is_done : Stmt := topS 56
theorem sc_is_done : FnScope ["terms", "way", "lot", "here", "node"] ["terms", "way", "lot"] (defScope s_is_done) := ⟨rfl, rfl, rfl, by decide +kernel, rfl, by decide +kernel, by decide +kernel⟩
abbrev s_done_first : Stmt := topS 57
theorem sc_done_first : FnScope ["terms", "way", "node"] ["terms", "way"] (defScope s_done_first) := ⟨rfl, rfl, rfl, by decide +kernel, rfl, by decide +kernel, by decide +kernel⟩
abbrev s_terms_of : Stmt := topS 58
theorem sc_terms_of : FnScope ["term", "way", "found", "node"] ["term", "way"] (defScope s_terms_of) := ⟨rfl, rfl, rfl, by decide +kernel, rfl, by decide +kernel, by decide +kernel⟩
abbrev s_sorted_way : Stmt := topS 59
theorem sc_sorted_way : FnScope ["term", "way", "found", "node"] ["term", "way"] (defScope s_sorted_way) := ⟨rfl, rfl, rfl, by decide +kernel, rfl, by decide +kernel, by decide +kernel⟩
abbrev s_is_standard : Stmt := topS 60
theorem sc_is_standard : FnScope ["term", "way"] ["term", "way"] (defScope s_is_standard) := ⟨rfl, rfl, rfl, by decide +kernel, rfl, by decide +kernel, by decide +kernel⟩
abbrev s_standard_way : Stmt := topS 61
theorem sc_standard_way : FnScope ["term", "way"] ["term", "way"] (defScope s_standard_way) := ⟨rfl, rfl, rfl, by decide +kernel, rfl, by decide +kernel, by decide +kernel⟩
abbrev s_law_cup : Stmt := topS 63
theorem sc_law_cup : FnScope ["_law_script", "_law_cell"] ["_law_script"] (defScope s_law_cup) := ⟨rfl, rfl, rfl, by decide +kernel, rfl, by decide +kernel, by decide +kernel⟩
abbrev s_law_roll : Stmt := topS 64
theorem sc_law_roll : FnScope ["_law_cup_here", "_law_many", "_law_found", "_law_deep"] ["_law_cup_here", "_law_many"] (defScope s_law_roll) := ⟨rfl, rfl, rfl, by decide +kernel, rfl, by decide +kernel, by decide +kernel⟩
abbrev s_law_some : Stmt := topS 65
theorem sc_law_some : FnScope ["_law_cup_here", "_law_things"] ["_law_cup_here", "_law_things"] (defScope s_law_some) := ⟨rfl, rfl, rfl, by decide +kernel, rfl, by decide +kernel, by decide +kernel⟩
abbrev s_law_inner : Stmt := topS 66
theorem sc_law_inner : FnScope ["_law_term", "_law_part"] ["_law_term"] (defScope s_law_inner) := ⟨rfl, rfl, rfl, by decide +kernel, rfl, by decide +kernel, by decide +kernel⟩
abbrev s_law_parts : Stmt := topS 67
theorem sc_law_parts : FnScope ["_law_term", "_law_found", "_law_part"] ["_law_term"] (defScope s_law_parts) := ⟨rfl, rfl, rfl, by decide +kernel, rfl, by decide +kernel, by decide +kernel⟩
abbrev s_law_lift : Stmt := topS 68
theorem sc_law_lift : FnScope ["_law_term", "_law_many", "_law_cut"] ["_law_term", "_law_many", "_law_cut"] (defScope s_law_lift) := ⟨rfl, rfl, rfl, by decide +kernel, rfl, by decide +kernel, by decide +kernel⟩
abbrev s_law_put : Stmt := topS 69
theorem sc_law_put : FnScope ["_law_body", "_law_argument", "_law_deep"] ["_law_body", "_law_argument", "_law_deep"] (defScope s_law_put) := ⟨rfl, rfl, rfl, by decide +kernel, rfl, by decide +kernel, by decide +kernel⟩
abbrev s_law_redexes : Stmt := topS 70
theorem sc_law_redexes : FnScope ["_law_term", "_law_at", "_law_part"] ["_law_term"] (defScope s_law_redexes) := ⟨rfl, rfl, rfl, by decide +kernel, rfl, by decide +kernel, by decide +kernel⟩
abbrev s_law_step : Stmt := topS 71
theorem sc_law_step : FnScope ["_law_term", "_law_node", "_law_many"] ["_law_term", "_law_node"] (defScope s_law_step) := ⟨rfl, rfl, rfl, by decide +kernel, rfl, by decide +kernel, by decide +kernel⟩
abbrev s_law_normal : Stmt := topS 72
theorem sc_law_normal : FnScope ["_law_term", "_law_most", "_law_way"] ["_law_term", "_law_most"] (defScope s_law_normal) := ⟨rfl, rfl, rfl, by decide +kernel, rfl, by decide +kernel, by decide +kernel⟩
abbrev s_law_call : Stmt := topS 73
theorem sc_law_call : FnScope ["_law_first", "_law_others", "_law_other"] ["_law_first", "_law_others"] (defScope s_law_call) := ⟨rfl, rfl, rfl, by decide +kernel, rfl, by decide +kernel, by decide +kernel⟩
abbrev s_law_names : Stmt := topS 74
theorem sc_law_names : FnScope ["_law_many", "_law_names_here", "_law_found", "_law_turn", "_law_name"] ["_law_many", "_law_names_here"] (defScope s_law_names) := ⟨rfl, rfl, rfl, by decide +kernel, rfl, by decide +kernel, by decide +kernel⟩
abbrev s_law_number : Stmt := topS 75
theorem sc_law_number : FnScope ["_law_many", "_law_found", "_law_turn"] ["_law_many"] (defScope s_law_number) := ⟨rfl, rfl, rfl, by decide +kernel, rfl, by decide +kernel, by decide +kernel⟩
abbrev s_law_known : Stmt := topS 76
theorem sc_law_known : FnScope ["_law_cup_here", "_law_a", "_law_b", "_law_one", "_law_k", "_law_pair", "_law_twice", "_law_swap", "_law_some_here"] ["_law_cup_here"] (defScope s_law_known) := ⟨rfl, rfl, rfl, by decide +kernel, rfl, by decide +kernel, by decide +kernel⟩
abbrev s_law_affine : Stmt := topS 77
theorem sc_law_affine : FnScope ["_law_cup_here", "_law_names_here", "_law_deep", "_law_cut", "_law_function", "_law_name"] ["_law_cup_here", "_law_names_here", "_law_deep"] (defScope s_law_affine) := ⟨rfl, rfl, rfl, by decide +kernel, rfl, by decide +kernel, by decide +kernel⟩
abbrev s_law_drawn : Stmt := topS 78
theorem sc_law_drawn : FnScope ["_law_cup_here"] ["_law_cup_here"] (defScope s_law_drawn) := ⟨rfl, rfl, rfl, by decide +kernel, rfl, by decide +kernel, by decide +kernel⟩
abbrev s_law_busy : Stmt := topS 79
theorem sc_law_busy : FnScope ["_law_cup_here", "_law_turn", "_law_found"] ["_law_cup_here"] (defScope s_law_busy) := ⟨rfl, rfl, rfl, by decide +kernel, rfl, by decide +kernel, by decide +kernel⟩
abbrev s_law_wide : Stmt := topS 80
theorem sc_law_wide : FnScope ["_law_cup_here", "_law_one", "_law_other", "_law_some_here"] ["_law_cup_here"] (defScope s_law_wide) := ⟨rfl, rfl, rfl, by decide +kernel, rfl, by decide +kernel, by decide +kernel⟩
abbrev s_law_omega : Stmt := topS 81
theorem sc_law_omega : FnScope ["_law_pair"] [] (defScope s_law_omega) := ⟨rfl, rfl, rfl, by decide +kernel, rfl, by decide +kernel, by decide +kernel⟩
abbrev s_law_to_normal : Stmt := topS 82
theorem sc_law_to_normal : FnScope ["_law_cup_here", "_law_term", "_law_way", "_law_turn", "_law_nodes", "_law_node"] ["_law_cup_here", "_law_term"] (defScope s_law_to_normal) := ⟨rfl, rfl, rfl, by decide +kernel, rfl, by decide +kernel, by decide +kernel⟩
abbrev s_law : Stmt := topS 83
theorem sc_law : FnScope ["_law_script", "_law_cup_here", "_law_turn", "_law_term", "_law_way", "_law_due", "_law_a", "_law_omega_here", "_law_never", "_law_turns", "_law_inner_here"] ["_law_script"] (defScope s_law) := ⟨rfl, rfl, rfl, by decide +kernel, rfl, by decide +kernel, by decide +kernel⟩

/-! ### heaps -/
theorem same_upd {H : Hp} {p : Addr} {o : HO} (h : H p = none) : Same H (upd H p o) := fun b x e => by
  rw [upd_ne (ne_of_none e h)]
  exact e
/-- all tuples stand -/
def Tups (H H' : Hp) : Prop := ∀ a xs, H a = some (.tup xs) → H' a = some (.tup xs)
theorem Same.tups {H H' : Hp} (s : Same H H') : Tups H H' := fun a _ e => s a _ e
theorem Tups.refl (H : Hp) : Tups H H := fun _ _ e => e
theorem Tups.trans {H H1 H2 : Hp} (a : Tups H H1) (b : Tups H1 H2) : Tups H H2 := fun c xs e => b c xs (a c xs e)
theorem tups_upd {H : Hp} {p : Addr} {o : HO} (h : H p = none) : Tups H (upd H p o) := Same.tups (same_upd h)
def letS (c : Bool) : Str := if c then "B" else "A"
/-- the value v is the term t -/
def TmAt (H : Hp) : V → Tm → Prop
  | v, .nm n => ∃ a, v = .ref a ∧ H a = some (.tup [.str "name", .int (n : Int)])
  | v, .lt c => ∃ a, v = .ref a ∧ H a = some (.tup [.str "letter", .str (letS c)])
  | v, .fn b => ∃ a vb, v = .ref a ∧ H a = some (.tup [.str "fun", vb]) ∧ TmAt H vb b
  | v, .ap f g => ∃ a vf vg, v = .ref a ∧ H a = some (.tup [.str "call", vf, vg]) ∧ TmAt H vf f ∧ TmAt H vg g
theorem TmAt.mono {H H' : Hp} (s : Tups H H') : ∀ {t : Tm} {v : V}, TmAt H v t → TmAt H' v t
  | .nm n, v, ⟨a, e, h⟩ => ⟨a, e, s _ _ h⟩
  | .lt c, v, ⟨a, e, h⟩ => ⟨a, e, s _ _ h⟩
  | .fn b, v, ⟨a, vb, e, h, hb⟩ => ⟨a, vb, e, s _ _ h, TmAt.mono s hb⟩
  | .ap f g, v, ⟨a, vf, vg, e, h, hf, hg⟩ => ⟨a, vf, vg, e, s _ _ h, TmAt.mono s hf, TmAt.mono s hg⟩
def tagOf : Tm → Str
  | .nm _ => "name"
  | .lt _ => "letter"
  | .fn _ => "fun"
  | .ap _ _ => "call"
/-- a term's tuple: its tag ahead -/
theorem TmAt.tup {H : Hp} {v : V} {t : Tm} (h : TmAt H v t) : ∃ a xs, v = .ref a ∧ H a = some (.tup (.str (tagOf t) :: xs)) := by
  cases t with
  | nm n => obtain ⟨a, e, h⟩ := h; exact ⟨a, _, e, h⟩
  | lt n => obtain ⟨a, e, h⟩ := h; exact ⟨a, _, e, h⟩
  | fn b => obtain ⟨a, _, e, h, _⟩ := h; exact ⟨a, _, e, h⟩
  | ap f g => obtain ⟨a, _, _, e, h, _⟩ := h; exact ⟨a, _, e, h⟩
def TmsAt (H : Hp) : List V → List Tm → Prop
  | [], [] => True
  | v :: vs, t :: ts => TmAt H v t ∧ TmsAt H vs ts
  | _, _ => False
theorem TmsAt.mono {H H' : Hp} (s : Tups H H') : ∀ {ts : List Tm} {vs : List V}, TmsAt H vs ts → TmsAt H' vs ts
  | [], [], _ => trivial
  | _ :: _, _ :: _, ⟨h, r⟩ => ⟨h.mono s, TmsAt.mono s r⟩
  | [], _ :: _, h => h.elim
  | _ :: _, [], h => h.elim
theorem TmsAt.length {H : Hp} : ∀ {ts : List Tm} {vs : List V}, TmsAt H vs ts → vs.length = ts.length
  | [], [], _ => rfl
  | _ :: _, _ :: _, ⟨_, r⟩ => congrArg (· + 1) (TmsAt.length r)
  | [], _ :: _, h => h.elim
  | _ :: _, [], h => h.elim
theorem TmsAt.get {H : Hp} : ∀ {ts : List Tm} {vs : List V} {i : Nat} {v : V}, TmsAt H vs ts → vs[i]? = some v → ∃ t, ts[i]? = some t ∧ TmAt H v t
  | [], [], _, _, _, e => by simp at e
  | t :: _, _ :: _, 0, v, ⟨h, _⟩, e => ⟨t, rfl, by cases Option.some.inj e; exact h⟩
  | _ :: ts, _ :: vs, i + 1, v, ⟨_, r⟩, e => by
    obtain ⟨t, h1, h2⟩ := TmsAt.get (i := i) r (by simpa using e)
    exact ⟨t, by simpa using h1, h2⟩
  | [], _ :: _, _, _, h, _ => h.elim
  | _ :: _, [], _, _, h, _ => h.elim
theorem TmsAt.get' {H : Hp} : ∀ {ts : List Tm} {vs : List V} {i : Nat} {t : Tm}, TmsAt H vs ts → ts[i]? = some t → ∃ v, vs[i]? = some v ∧ TmAt H v t
  | [], [], _, _, _, e => by simp at e
  | t :: _, v :: _, 0, _, ⟨h, _⟩, e => ⟨v, rfl, by cases Option.some.inj e; exact h⟩
  | _ :: ts, _ :: vs, i + 1, t, ⟨_, r⟩, e => by
    obtain ⟨v, h1, h2⟩ := TmsAt.get' (i := i) r (by simpa using e)
    exact ⟨v, by simpa using h1, h2⟩
  | [], _ :: _, _, _, h, _ => h.elim
  | _ :: _, [], _, _, h, _ => h.elim
theorem TmsAt.append {H : Hp} : ∀ {ts us : List Tm} {vs ws : List V}, TmsAt H vs ts → TmsAt H ws us → TmsAt H (vs ++ ws) (ts ++ us)
  | [], _, [], _, _, r => r
  | _ :: _, _, _ :: _, _, ⟨h, q⟩, r => ⟨h, TmsAt.append q r⟩
  | [], _, _ :: _, _, h, _ => h.elim
  | _ :: _, _, [], _, h, _ => h.elim

/-! ### tests whose answer is known -/
theorem ifT {b : Bool} {A B : Prop} (h : b = true) (a : A) : if b = true then A else B := by
  rw [if_pos h]; exact a
theorem ifF {b : Bool} {A B : Prop} (h : b = false) (x : B) : if b = true then A else B := by
  rw [if_neg (by rw [h]; exact Bool.false_ne_true)]; exact x
theorem le_line {n : Nat} (h : n ≤ 1000000) : n ≤ sizeLine := Nat.le_trans h (by decide)
theorem ln1 {a : V} : [a].length ≤ sizeLine := le_line (show 1 ≤ 1000000 by decide)
theorem ln2 {a b : V} : [a, b].length ≤ sizeLine := le_line (show 2 ≤ 1000000 by decide)
theorem ln3 {a b c : V} : [a, b, c].length ≤ sizeLine := le_line (show 3 ≤ 1000000 by decide)
theorem lt_line {n : Nat} (h : n ≤ 1000000) : n < sizeLine := Nat.lt_of_le_of_lt h (by decide)

/-! ### rules within a comprehension's block: the written part by its name -/
theorem op_inK {X : Cx} {K : PySem.W.Frag} (h : X.K = K) : OpR X (compareOp .In) (rIn K false) := by subst h; exact op_in_seq
theorem ix_tupK {X : Cx} {K : PySem.W.Frag} (h : X.K = K) : IxR X (rIxT K) := by subst h; exact ix_tup
theorem call_isiK' {X : Cx} {K : PySem.W.Frag} (h : X.K = K) : CallR X (.builtin "isinstance") (rIsi K) := by subst h; exact call_isi
theorem call_len_K {X : Cx} {K : PySem.W.Frag} (h : X.K = K) : CallR X (.builtin "len") (fun xs H Q => ∃ p vs, xs = [.ref p] ∧ (SqL K H p vs ∨ SqT K H p vs) ∧ Q (.int vs.length) H) := by subst h; exact call_len_seq
/-! ### defs -/
section
variable {P : Program} {w : World} {K : PySem.W.Frag} {mg : Str → Option Value} {base : Heap}
/-- a def of the text as it stands behind the top, by its name -/
structure DefB (K : PySem.W.Frag) (mg : Str → Option Value) (x : Str) (st : Stmt) (ps : List Str) : Prop where
  ex : ∃ (f : Addr) (fd : FuncData), Fun K x x st f fd ∧ mg x = some (.ref f) ∧ Binds K fd ps []
/-- the rule for a def: its promise by its body -/
theorem DefB.cal {x : Str} {st : Stmt} {N ps : List Str} {k : Nat} {sp : Sp} (D : DefB K mg x st ps) (S : FnScope N ps (defScope st)) (len : ∀ vs H Q E, sp vs H Q E → vs.length = ps.length)
    (hbody : ∀ (f : Addr) (cdv : Value) (A : Around) (outer : List Env) (s : Shared) (H : Hp) (vs : List V) (Q : VK) (E : XK), Room k (A.deeper (envOfC x (defScope st) s.heap.objs.size f cdv)) → sp vs H Q E →
      ∃ t, PSs (cxOf CX0 P w K mg base N x (defScope st) f cdv A outer s H E).nox (defBody st) t ∧ t { nx := fun _ H' => Q .non H', rt := Q } (start N vs) H) : Cal P w K mg base (k + 1) x sp [] := by
  obtain ⟨f, fd, F, m, b⟩ := D.ex
  exact ⟨f, fd, ps, [], F.ok S len (fun cdv A outer s H vs Q E hr h => hbody f cdv A outer s H vs Q E hr h), m, F.kp, b, .nil⟩
theorem DefB.none {x : Str} {st : Stmt} {ps : List Str} {k : Nat} {sp : Sp} (D : DefB K mg x st ps) (no : ∀ vs H Q E, ¬ sp vs H Q E) : Cal P w K mg base k x sp [] := by
  obtain ⟨f, fd, F, m, b⟩ := D.ex
  exact ⟨f, fd, ps, [], ⟨fun vs H Q E h => absurd h (no vs H Q E), fun A outer s H args us vs Q E _ _ _ _ h => absurd h (no vs H Q E)⟩, m, F.kp, b, .nil⟩
/-- a call without arguments -/
theorem pe_c0 {X : Cx} {k j : Nat} {x : Str} {sp : Sp} {dvs : List V} {p pos : Pos} (c : Cal X.prog X.w X.K X.mg X.base k x sp dvs) (hr : Room j X.A) (hk : k ≤ j) (hg : Gl X x)
    (hdb : (x == ("__debug__" : Str)) = false := by decide) : PE X (.Call (.Name x p) [] [] pos) (tCall sp dvs C8.E0 tNil) := by
  obtain ⟨f, fd, ps, ds, F, hm, kp, b, d⟩ := c.ex
  exact pe_call0 F (hr.mono hk) hg hm kp b d pass0 hdb
theorem calMono {x : Str} {j k : Nat} {sp : Sp} {dvs : List V} (c : Cal P w K mg base j x sp dvs) (h : j ≤ k) : Cal P w K mg base k x sp dvs := by
  obtain ⟨f, fd, ps, ds, F, m, kp, b, d⟩ := c.ex
  exact ⟨f, fd, ps, ds, F.mono h, m, kp, b, d⟩
end
end Sf
/-! SfW1: values, terms: the program's small defs. -/
namespace Sf
open PySem PySem.Spec PyProof.Rows L2
open C8 (Cal pe_c)
section
variable {P : Program} {w : World} {K : PySem.W.Frag} {mg : Str → Option Value} {base : Heap}

/-! ### inner -/
def spInner : Sp := fun vs H Q _ => ∃ v t, vs = [v] ∧ TmAt H v t ∧ ∀ H' p ws, Same H H' → H' p = some (.tup ws) → TmsAt H' ws t.inner → Q (.ref p) H'
theorem cal_inner (D : DefB K mg "inner" s_inner ["term"]) : Cal P w K mg base 1 "inner" spInner [] := by
  refine D.cal sc_inner (fun vs H Q E h => ?_) (fun f cdv A outer s H vs Q E hr h => ?_)
  · obtain ⟨v, t, rfl, _⟩ := h
    rfl
  obtain ⟨v, t, rfl, ht, q⟩ := h
  refine ⟨_, (pss_cons (ps_if (pt_cmpR op_eq (pe_ix ix_tup (pv 0) pe_int (fun _ _ => rfl)) pe_str (nomark _))
  (pss_one (ps_ret (pe_tup (pa_cons (pe_ix ix_tup (pv 0) pe_int (fun _ _ => rfl)) pa_nil))))
  pss_nil)
  (pss_one (ps_ret (pe_ifExp (pt_cmpR op_eq (pe_ix ix_tup (pv 0) pe_int (fun _ _ => rfl)) pe_str (nomark _)) (pe_tup (pa_cons (pe_ix ix_tup (pv 0) pe_int (fun _ _ => rfl)) (pa_cons (pe_ix ix_tup (pv 0) pe_int (fun _ _ => rfl)) pa_nil))) (pe_tup pa_nil))))), ?_⟩
  cases t with
  | nm n =>
    obtain ⟨a, rfl, e⟩ := ht
    have hS : SqT K H a [.str "name", .int (n : Int)] := .inl (.inl e)
    refine ⟨_, rfl, a, _, 0, _, rfl, rfl, hS, atI_nat (j := 0) rfl, rfl, _, rfl, ifF (by decide +kernel) ?_⟩
    refine ⟨_, rfl, a, _, 0, _, rfl, rfl, hS, atI_nat (j := 0) rfl, rfl, _, rfl, ifF (by decide +kernel) ?_⟩
    exact ⟨Nat.zero_le _, fun p np => q _ p [] (same_upd np) upd_same trivial⟩
  | lt c =>
    obtain ⟨a, rfl, e⟩ := ht
    have hS : SqT K H a [.str "letter", .str (letS c)] := .inl (.inl e)
    refine ⟨_, rfl, a, _, 0, _, rfl, rfl, hS, atI_nat (j := 0) rfl, rfl, _, rfl, ifF (by decide +kernel) ?_⟩
    refine ⟨_, rfl, a, _, 0, _, rfl, rfl, hS, atI_nat (j := 0) rfl, rfl, _, rfl, ifF (by decide +kernel) ?_⟩
    exact ⟨Nat.zero_le _, fun p np => q _ p [] (same_upd np) upd_same trivial⟩
  | fn b =>
    obtain ⟨a, vb, rfl, e, hb⟩ := ht
    have hS : SqT K H a [.str "fun", vb] := .inl (.inl e)
    refine ⟨_, rfl, a, _, 0, _, rfl, rfl, hS, atI_nat (j := 0) rfl, rfl, _, rfl, ifT (by decide +kernel) ?_⟩
    refine ⟨_, rfl, a, _, 1, _, rfl, rfl, hS, atI_nat (j := 1) rfl, ?_⟩
    exact ⟨ln1, fun p np => q _ p [vb] (same_upd np) upd_same ⟨hb.mono (tups_upd np), trivial⟩⟩
  | ap f g =>
    obtain ⟨a, vf, vg, rfl, e, hf, hg⟩ := ht
    have hS : SqT K H a [.str "call", vf, vg] := .inl (.inl e)
    refine ⟨_, rfl, a, _, 0, _, rfl, rfl, hS, atI_nat (j := 0) rfl, rfl, _, rfl, ifF (by decide +kernel) ?_⟩
    refine ⟨_, rfl, a, _, 0, _, rfl, rfl, hS, atI_nat (j := 0) rfl, rfl, _, rfl, ifT (by decide +kernel) ?_⟩
    refine ⟨_, rfl, a, _, 1, _, rfl, rfl, hS, atI_nat (j := 1) rfl, _, rfl, a, _, 2, _, rfl, rfl, hS, atI_nat (j := 2) rfl, ?_⟩
    exact ⟨ln2, fun p np => q _ p [vf, vg] (same_upd np) upd_same ⟨hf.mono (tups_upd np), hg.mono (tups_upd np), trivial⟩⟩

/-! ### size -/
def spSize (n : Nat) : Sp := fun vs H Q _ => ∃ v t, vs = [v] ∧ TmAt H v t ∧ t.height ≤ n ∧ ∀ H', Same H H' → Q (.int (t.size : Int)) H'
theorem inner_sum (t : Tm) : (1 : Int) + ((t.inner).map (fun u => (u.size : Int))).sum = (t.size : Int) := by
  cases t <;> simp [Tm.inner, Tm.size] <;> omega
theorem inner_height {t u : Tm} (h : u ∈ t.inner) : u.height + 1 ≤ t.height := by
  cases t with
  | nm _ => cases h
  | lt _ => cases h
  | fn b =>
    simp only [Tm.inner, List.mem_singleton] at h
    subst h
    simp only [Tm.height]; omega
  | ap f g =>
    simp only [Tm.inner, List.mem_cons, List.not_mem_nil, or_false] at h
    rcases h with rfl | rfl <;> simp only [Tm.height] <;> omega
theorem cal_size (D : DefB K mg "size" s_size ["term"]) (c_inner : Cal P w K mg base 1 "inner" spInner []) (m_sum : mg "sum" = none) : ∀ n : Nat, Cal P w K mg base (n + 1) "size" (spSize n) []
  | 0 => D.none fun vs H Q E h => by
    obtain ⟨v, t, _, _, h, _⟩ := h
    have := t.height_pos
    omega
  | n + 1 => by
    have c_size := cal_size D c_inner m_sum n
    refine D.cal sc_size (fun vs H Q E h => ?_) (fun f cdv A outer s H vs Q E hr h => ?_)
    · obtain ⟨v, t, rfl, _⟩ := h
      rfl
    obtain ⟨v, t, rfl, ht, hh, q⟩ := h
    refine ⟨_, (pss_one (ps_ret (pe_op op_add pe_int (pe_callB (cr_sum rfl) (by rfl) m_sum (by decide +kernel) (pa_cons (pe_lc (own := [("part", 1)]) (g := gName 1) (tt := tYes) rfl sc_size.nd (pi_tup (C8.pe_c c_inner hr (by omega) (by rfl) (pa_cons (pv 0) pa_nil))) (blkOk_by (own := [("part", 1)]) (N := ["term", "part"]) (sc := defScope s_size) (by decide +kernel)) (fun _ _ _ _ _ => (pg_name (i := 1) sc_size.nd rfl (.inl rfl))) (fun _ _ _ _ _ => pts_nil) (fun _ _ _ _ _ => (C8.pe_c c_size hr (by omega) (by rfl) (pa_cons (pv 1) pa_nil)))) pa_nil))))), ?_⟩
    refine ⟨v, rfl, v, t, rfl, ht, fun H1 p ws s1 ep hw => ?_⟩
    have hP : SqT K H1 p ws := .inl (.inl ep)
    refine ⟨p, rfl, ⟨_, hP⟩, fun D nD => ?_⟩
    have hl := hw.length
    have pD : p ≠ D := ne_of_none ep nD
    refine lc_it walk_tup (fun i H2 => Same H1 H2 ∧ H2 D = some (.lst (((t.inner.take i).map fun u => V.int (u.size : Int))))) ⟨same_upd nD, upd_same⟩ (fun i H2 _ h => .inl (.inl (h.1 _ _ ep))) (fun i x H2 H3 hi h y => ?_) (fun H2 h => ?_)
    · obtain ⟨s2, eD⟩ := h
      obtain ⟨rfl, ex⟩ := y
      obtain ⟨u, hu, hx⟩ := hw.get ex
      refine ⟨rfl, _, rfl, _, u, rfl, hx.mono (Same.tups s2), ?_, fun H4 s4 => ?_⟩
      · have := inner_height (List.mem_of_getElem? hu)
        omega
      refine ⟨_, s4 _ _ eD, ?_, ?_, ?_⟩
      · rw [List.length_map, List.length_take]
        have : t.inner.length ≤ 2 := by cases t <;> simp [Tm.inner]
        exact lt_line (by omega)
      · exact (fun b o e => by
          have nb : b ≠ D := ne_of_none e nD
          rw [upd_ne nb]
          exact s4 _ _ (s2 _ _ e))
      · rw [upd_same, List.take_add_one, hu, List.map_append]
        rfl
    · obtain ⟨s2, eD⟩ := h
      rw [hl, List.take_length] at eD
      refine ⟨D, (t.inner.map fun u => (u.size : Int)), rfl, .inl (.inl (by rw [eD, List.map_map]; rfl)), _, _, rfl, rfl, ?_⟩
      show Q (.int (1 + (t.inner.map fun u => (u.size : Int)).sum)) H2
      rw [inner_sum]
      exact q _ (s1.trans s2)

/-! ### is_whole, is_tuple_of -/
def spWhole : Sp := fun vs H Q _ => ∃ i l h : Int, vs = [.int i, .int l, .int h] ∧ Q (.bl (decide (l ≤ i) && decide (i ≤ h))) H
theorem cal_is_whole (D : DefB K mg "is_whole" s_is_whole ["value", "low", "high"]) (m_isinstance : mg "isinstance" = none) (m_int : mg "int" = none) (m_bool : mg "bool" = none) : Cal P w K mg base 1 "is_whole" spWhole [] := by
  refine D.cal sc_is_whole (fun vs H Q E h => ?_) (fun f cdv A outer s H vs Q E hr h => ?_)
  · obtain ⟨i, l, h, rfl, _⟩ := h
    rfl
  obtain ⟨i, l, h, rfl, q⟩ := h
  refine ⟨_, (pss_one (ps_ret (pe_and (pe_callB call_isi (by rfl) m_isinstance (by decide +kernel) (pa_cons (pv 0) (pa_cons (pe_bltn (v := .ty "int") (by rfl) m_int (by decide +kernel) rfl) pa_nil))) (pe_and (pe_not (pe_callB call_isi (by rfl) m_isinstance (by decide +kernel) (pa_cons (pv 0) (pa_cons (pe_bltn (v := .ty "bool") (by rfl) m_bool (by decide +kernel) rfl) pa_nil)))) (pe_one (pe_chain op_le op_le (pv 1) (pv 0) (pv 2))))))), ?_⟩
  refine ⟨_, rfl, .int i, .ty "int", _, _, true, rfl, .ty "int", .base (.int i), kit_ty (by decide +kernel), true, rfl, iteT ?_⟩
  refine ⟨_, rfl, .int i, .ty "bool", _, _, false, rfl, .ty "bool", .base (.int i), kit_ty (by decide +kernel), false, rfl, true, rfl, iteT ?_⟩
  refine ⟨_, rfl, _, rfl, _, _, rfl, rfl, _, rfl, ?_⟩
  refine ite2 (fun c => ?_) (fun c => ?_)
  · refine ⟨_, rfl, _, _, rfl, rfl, ?_⟩
    have e : (decide (l ≤ i) && decide (i ≤ h)) = decide (i ≤ h) := by rw [c, Bool.true_and]
    rw [e] at q
    exact q
  · have e : (decide (l ≤ i) && decide (i ≤ h)) = false := by rw [Bool.eq_false_iff.mpr c, Bool.false_and]
    rw [e] at q
    exact q
def spTupOf : Sp := fun vs H Q _ => ∃ a xs, ∃ l h : Int, vs = [.ref a, .int l, .int h] ∧ H a = some (.tup xs) ∧ Q (.bl (decide (l ≤ (xs.length : Int)) && decide ((xs.length : Int) ≤ h))) H
theorem cal_is_tuple_of (D : DefB K mg "is_tuple_of" s_is_tuple_of ["value", "low", "high"]) (m_isinstance : mg "isinstance" = none) (m_tuple : mg "tuple" = none) (m_len : mg "len" = none) : Cal P w K mg base 1 "is_tuple_of" spTupOf [] := by
  refine D.cal sc_is_tuple_of (fun vs H Q E h => ?_) (fun f cdv A outer s H vs Q E hr h => ?_)
  · obtain ⟨a, xs, l, h, rfl, _⟩ := h
    rfl
  obtain ⟨a, xs, l, h, rfl, e, q⟩ := h
  refine ⟨_, (pss_one (ps_ret (pe_and (pe_callB call_isi (by rfl) m_isinstance (by decide +kernel) (pa_cons (pv 0) (pa_cons (pe_bltn (v := .ty "tuple") (by rfl) m_tuple (by decide +kernel) rfl) pa_nil))) (pe_one (pe_chain op_le op_le (pv 1) (pe_callB call_len_seq (by rfl) m_len PySem.boot_len (pa_cons (pv 0) pa_nil)) (pv 2)))))), ?_⟩
  refine ⟨_, rfl, .ref a, .ty "tuple", _, _, true, rfl, .ty "tuple", .base (.tup e), kit_ty (by decide +kernel), true, rfl, iteT ?_⟩
  refine ⟨_, rfl, _, rfl, a, xs, rfl, .inr (.inl (.inl e)), _, _, rfl, rfl, _, rfl, ?_⟩
  refine ite2 (fun c => ?_) (fun c => ?_)
  · refine ⟨_, rfl, _, _, rfl, rfl, ?_⟩
    have e : (decide (l ≤ (xs.length : Int)) && decide ((xs.length : Int) ≤ h)) = decide ((xs.length : Int) ≤ h) := by rw [c, Bool.true_and]
    rw [e] at q
    exact q
  · have e : (decide (l ≤ (xs.length : Int)) && decide ((xs.length : Int) ≤ h)) = false := by rw [Bool.eq_false_iff.mpr c, Bool.false_and]
    rw [e] at q
    exact q

/-! ### height -/
def spHeight (n : Nat) : Sp := fun vs H Q _ => ∃ v t, vs = [v] ∧ TmAt H v t ∧ t.height ≤ n ∧ ∀ H', Same H H' → Q (.int (t.height : Int)) H'
theorem inner_max {t : Tm} {m : Int} (h1 : m ∈ (0 : Int) :: (t.inner).map (fun u => (u.height : Int))) (h2 : ∀ y, y ∈ (0 : Int) :: (t.inner).map (fun u => (u.height : Int)) → y ≤ m) : (1 : Int) + m = (t.height : Int) := by
  cases t with
  | nm _ => simp [Tm.inner] at h1; simp [Tm.height, h1]
  | lt _ => simp [Tm.inner] at h1; simp [Tm.height, h1]
  | fn b =>
    simp [Tm.inner] at h1 h2
    simp only [Tm.height]
    omega
  | ap f g =>
    simp [Tm.inner] at h1 h2
    simp only [Tm.height]
    omega
theorem cal_height (D : DefB K mg "height" s_height ["term"]) (c_inner : Cal P w K mg base 1 "inner" spInner []) (m_max : mg "max" = none) : ∀ n : Nat, Cal P w K mg base (n + 1) "height" (spHeight n) []
  | 0 => D.none fun vs H Q E h => by
    obtain ⟨v, t, _, _, h, _⟩ := h
    have := t.height_pos
    omega
  | n + 1 => by
    have c_height := cal_height D c_inner m_max n
    refine D.cal sc_height (fun vs H Q E h => ?_) (fun f cdv A outer s H vs Q E hr h => ?_)
    · obtain ⟨v, t, rfl, _⟩ := h
      rfl
    obtain ⟨v, t, rfl, ht, hh, q⟩ := h
    refine ⟨_, (pss_one (ps_ret (pe_op op_add pe_int (pe_callB (cr_max rfl) (by rfl) m_max (by decide +kernel) (pa_cons (pe_op op_cat (pe_lst (pa_cons pe_int pa_nil)) (pe_lc (own := [("part", 1)]) (g := gName 1) (tt := tYes) rfl sc_height.nd (pi_tup (C8.pe_c c_inner hr (by omega) (by rfl) (pa_cons (pv 0) pa_nil))) (blkOk_by (own := [("part", 1)]) (N := ["term", "part"]) (sc := defScope s_height) (by decide +kernel)) (fun _ _ _ _ _ => (pg_name (i := 1) sc_height.nd rfl (.inl rfl))) (fun _ _ _ _ _ => pts_nil) (fun _ _ _ _ _ => (C8.pe_c c_height hr (by omega) (by rfl) (pa_cons (pv 1) pa_nil))))) pa_nil))))), ?_⟩
    refine ⟨ln1, fun p0 np0 => ?_⟩
    have s0 : Same H (upd H p0 (.lst [.int 0])) := same_upd np0
    refine ⟨v, rfl, v, t, rfl, ht.mono (Same.tups s0), fun H1 p ws s1 ep hw => ?_⟩
    have hP : SqT K H1 p ws := .inl (.inl ep)
    refine ⟨p, rfl, ⟨_, hP⟩, fun D nD => ?_⟩
    have hl := hw.length
    refine lc_it walk_tup (fun i H2 => Same H1 H2 ∧ H2 D = some (.lst (((t.inner.take i).map fun u => V.int (u.height : Int))))) ⟨same_upd nD, upd_same⟩ (fun i H2 _ h => .inl (.inl (h.1 _ _ ep))) (fun i x H2 H3 hi h y => ?_) (fun H2 h => ?_)
    · obtain ⟨s2, eD⟩ := h
      obtain ⟨rfl, ex⟩ := y
      obtain ⟨u, hu, hx⟩ := hw.get ex
      refine ⟨rfl, _, rfl, _, u, rfl, hx.mono (Same.tups s2), ?_, fun H4 s4 => ?_⟩
      · have := inner_height (List.mem_of_getElem? hu)
        omega
      refine ⟨_, s4 _ _ eD, ?_, ?_, ?_⟩
      · rw [List.length_map, List.length_take]
        have : t.inner.length ≤ 2 := by cases t <;> simp [Tm.inner]
        exact lt_line (by omega)
      · exact (fun b o e => by
          have nb : b ≠ D := ne_of_none e nD
          rw [upd_ne nb]
          exact s4 _ _ (s2 _ _ e))
      · rw [upd_same, List.take_add_one, hu, List.map_append]
        rfl
    · obtain ⟨s2, eD⟩ := h
      rw [hl, List.take_length] at eD
      have e0 : H2 p0 = some (.lst [.int 0]) := s2 _ _ (s1 _ _ upd_same)
      refine ⟨p0, D, [.int 0], _, rfl, rfl, e0, eD, ?_, fun p2 np2 => ?_⟩
      · rw [List.length_map]
        have : t.inner.length ≤ 2 := by cases t <;> simp [Tm.inner]
        exact le_line (by simp only [List.length_singleton]; omega)
      refine ⟨p2, (0 : Int) :: (t.inner.map fun u => (u.height : Int)), rfl, .inl (.inl (by rw [upd_same, List.map_cons, List.map_map]; rfl)), by simp, fun m h1 h2 => ?_⟩
      refine ⟨_, _, rfl, rfl, ?_⟩
      show Q (.int (1 + m)) _
      rw [inner_max h1 h2]
      exact q _ (s0.trans (s1.trans (s2.trans (same_upd np2))))

/-! ### parts -/
def spParts (n : Nat) : Sp := fun vs H Q _ => ∃ v t, vs = [v] ∧ TmAt H v t ∧ t.height ≤ n ∧ t.size ≤ 1000000 ∧ ∀ H' p ws, Same H H' → H' p = some (.lst ws) → TmsAt H' ws t.parts → Q (.ref p) H'
/-- the parts so far -/
def partsTo (t : Tm) (i : Nat) : List Tm := t :: (t.inner.take i).flatMap Tm.parts
theorem partsTo_all (t : Tm) : partsTo t t.inner.length = t.parts := by
  cases t <;> simp [partsTo, Tm.inner, Tm.parts]
theorem partsTo_succ {t u : Tm} {i : Nat} (h : t.inner[i]? = some u) : partsTo t (i + 1) = partsTo t i ++ u.parts := by
  unfold partsTo
  rw [List.take_add_one, h, List.flatMap_append]
  simp
theorem partsTo_le {t u : Tm} {i : Nat} (h : t.inner[i]? = some u) : (partsTo t i).length + u.size ≤ t.size := by
  cases t with
  | nm _ => simp [Tm.inner] at h
  | lt _ => simp [Tm.inner] at h
  | fn b =>
    cases i with
    | zero => simp [Tm.inner] at h; subst h; simp [partsTo, Tm.size]
    | succ i => simp [Tm.inner] at h
  | ap f g =>
    match i, h with
    | 0, h => simp [Tm.inner] at h; subst h; simp only [partsTo, Tm.size, List.take_zero, List.flatMap_nil, List.length_singleton]; omega
    | 1, h => simp [Tm.inner] at h; subst h; simp [partsTo, Tm.size, Tm.inner, Tm.parts_length]; omega
    | i + 2, h => simp [Tm.inner] at h
theorem inner_size {t u : Tm} (h : u ∈ t.inner) : u.size + 1 ≤ t.size := by
  cases t with
  | nm _ => cases h
  | lt _ => cases h
  | fn b =>
    simp only [Tm.inner, List.mem_singleton] at h
    subst h
    simp only [Tm.size]; omega
  | ap f g =>
    simp only [Tm.inner, List.mem_cons, List.not_mem_nil, or_false] at h
    rcases h with rfl | rfl <;> simp only [Tm.size] <;> omega
theorem cal_parts (D : DefB K mg "parts" s_parts ["term"]) (c_inner : Cal P w K mg base 1 "inner" spInner []) : ∀ n : Nat, Cal P w K mg base (n + 1) "parts" (spParts n) []
  | 0 => D.none fun vs H Q E h => by
    obtain ⟨v, t, _, _, h, _⟩ := h
    have := t.height_pos
    omega
  | n + 1 => by
    have c_parts := cal_parts D c_inner n
    refine D.cal sc_parts (fun vs H Q E h => ?_) (fun f cdv A outer s H vs Q E hr h => ?_)
    · obtain ⟨v, t, rfl, _⟩ := h
      rfl
    obtain ⟨v, t, rfl, ht, hh, hz, q⟩ := h
    refine ⟨_, (pss_cons (ps_set (i := 1) sc_parts.nd rfl (.inl rfl) (pe_lst (pa_cons (pv 0) pa_nil)))
  (pss_cons (ps_for PassesOwn.never rfl (pi_tup (C8.pe_c c_inner hr (by omega) (by rfl) (pa_cons (pv 0) pa_nil))) (pg_name (i := 2) sc_parts.nd rfl (.inl rfl))
  (pss_one (ps_set (i := 1) sc_parts.nd rfl (.inl rfl) (pe_op op_cat (pv 1) (C8.pe_c c_parts hr (by omega) (by rfl) (pa_cons (pv 2) pa_nil))))))
  (pss_one (ps_ret (pv 1))))), ?_⟩
    refine ⟨v, rfl, ln1, fun p0 np0 => ?_⟩
    have s0 : Same H (upd H p0 (.lst [v])) := same_upd np0
    refine ⟨v, rfl, v, t, rfl, ht.mono (Same.tups s0), fun H1 p ws s1 ep hw => ?_⟩
    refine ⟨p, rfl, ⟨_, .inl (.inl ep)⟩, ?_⟩
    have hl := hw.length
    refine for_it walk_tup (fun i σ H2 => ∃ r us y, σ = [some v, some (.ref r), y] ∧ Same H1 H2 ∧ H2 r = some (.lst us) ∧ TmsAt H2 us (partsTo t i))
      ⟨p0, [v], none, rfl, Same.refl _, s1 _ _ upd_same, ⟨ht.mono (Same.tups (s0.trans s1)), trivial⟩⟩ (fun i σ H2 _ h => by obtain ⟨_, _, _, _, s2, _⟩ := h; exact .inl (.inl (s2 _ _ ep))) (fun i x σ H2 H3 hi h y => ?_) (fun σ H2 h => ?_)
    · obtain ⟨r, us, y2, rfl, s2, er, hu⟩ := h
      obtain ⟨rfl, ex⟩ := y
      obtain ⟨u, iu, hx⟩ := hw.get ex
      have hle := partsTo_le iu
      have hm := List.mem_of_getElem? iu
      refine ⟨_, rfl, _, rfl, x, u, rfl, hx.mono (Same.tups s2), ?_, ?_, fun H4 p4 ws4 s4 ep4 hw4 => ?_⟩
      · have := inner_height hm
        omega
      · have := inner_size hm
        omega
      refine ⟨r, p4, us, ws4, rfl, rfl, s4 _ _ er, ep4, ?_, fun p5 np5 => ?_⟩
      · rw [hu.length, hw4.length, Tm.parts_length]
        exact le_line (by omega)
      refine ⟨p5, us ++ ws4, some x, rfl, s2.trans (s4.trans (same_upd np5)), upd_same, ?_⟩
      rw [partsTo_succ iu]
      exact (hu.mono (Same.tups (s4.trans (same_upd np5)))).append (hw4.mono (tups_upd np5))
    · obtain ⟨r, us, y2, rfl, s2, er, hu⟩ := h
      rw [hl, partsTo_all] at hu
      exact ⟨_, rfl, q _ r us (s0.trans (s1.trans s2)) er hu⟩
end
end Sf
/-! SfW2: what is a term; a term with another one in its place. -/
namespace Sf
open PySem PySem.Spec PyProof.Rows L2
open C8 (Cal pe_c)
section
variable {P : Program} {w : World} {K : PySem.W.Frag} {mg : Str → Option Value} {base : Heap}
abbrev letters : Str := "ABCDEFGHIJKLMNOPQRSTUVWXYZ"
/-! ### is_leaf, left_of -/
def spLeaf : Sp := fun vs H Q _ => ∃ v t, ∃ d : Nat, vs = [v, .int (d : Int)] ∧ TmAt H v t ∧ t.closedN d = true ∧ t.inner = [] ∧ Q (.bl true) H
theorem cal_is_leaf (D : DefB K mg "is_leaf" s_is_leaf ["value", "around"]) (c_is_whole : Cal P w K mg base 1 "is_whole" spWhole []) (m_isinstance : mg "isinstance" = none) (m_str : mg "str" = none) (m_len : mg "len" = none) {tk : Tok} (m_LETTERS : mg "LETTERS" = some (.str letters tk)) :
    Cal P w K mg base 2 "is_leaf" spLeaf [] := by
  refine D.cal sc_is_leaf (fun vs H Q E h => ?_) (fun f cdv A outer s H vs Q E hr h => ?_)
  · obtain ⟨v, t, d, rfl, _⟩ := h
    rfl
  obtain ⟨v, t, d, rfl, ht, hc, hi, q⟩ := h
  refine ⟨_, (pss_cons (ps_if (pt_cmpR op_eq (pe_ix ix_tup (pv 0) pe_int (fun _ _ => rfl)) pe_str (nomark _))
  (pss_one (ps_ret (C8.pe_c c_is_whole hr (by omega) (by rfl) (pa_cons (pe_ix ix_tup (pv 0) pe_int (fun _ _ => rfl)) (pa_cons pe_int (pa_cons (pe_op op_sub (pv 1) pe_int) pa_nil))))))
  pss_nil)
  (pss_one (ps_ret (pe_and (pe_cmpR op_eq (pe_ix ix_tup (pv 0) pe_int (fun _ _ => rfl)) pe_str (nomark _)) (pe_and (pe_callB call_isi (by rfl) m_isinstance (by decide +kernel) (pa_cons (pe_ix ix_tup (pv 0) pe_int (fun _ _ => rfl)) (pa_cons (pe_bltn (v := .ty "str") (by rfl) m_str (by decide +kernel) rfl) pa_nil))) (pe_and (pe_cmpR op_eq (pe_callB call_len_str (by rfl) m_len PySem.boot_len (pa_cons (pe_ix ix_tup (pv 0) pe_int (fun _ _ => rfl)) pa_nil)) pe_int (nomark _)) (pe_one (pe_cmpR op_in_str (pe_ix ix_tup (pv 0) pe_int (fun _ _ => rfl)) (pe_glob (v := .str letters) (by rfl) m_LETTERS ⟨_, rfl⟩) (by rfl))))))))), ?_⟩
  cases t with
  | nm n =>
    obtain ⟨a, rfl, e⟩ := ht
    have hS : SqT K H a [.str "name", .int (n : Int)] := .inl (.inl e)
    refine ⟨_, rfl, a, _, 0, _, rfl, rfl, hS, atI_nat (j := 0) rfl, rfl, _, rfl, ifT (by decide +kernel) ?_⟩
    have hn : n < d := of_decide_eq_true hc
    refine ⟨_, rfl, a, _, 1, _, rfl, rfl, hS, atI_nat (j := 1) rfl, _, rfl, _, _, rfl, rfl, _, _, _, rfl, ?_⟩
    rw [decide_eq_true (show (0 : Int) ≤ (n : Int) by omega), decide_eq_true (show (n : Int) ≤ (d : Int) - 1 by omega)]
    exact q
  | lt c =>
    obtain ⟨a, rfl, e⟩ := ht
    have hS : SqT K H a [.str "letter", .str (letS c)] := .inl (.inl e)
    refine ⟨_, rfl, a, _, 0, _, rfl, rfl, hS, atI_nat (j := 0) rfl, rfl, _, rfl, ifF (by decide +kernel) ?_⟩
    refine ⟨_, rfl, a, _, 0, _, rfl, rfl, hS, atI_nat (j := 0) rfl, rfl, _, rfl, ifT (by decide +kernel) ?_⟩
    refine ⟨_, rfl, a, _, 1, _, rfl, rfl, hS, atI_nat (j := 1) rfl, .str (letS c), .ty "str", _, _, true, rfl, .ty "str", .base (.str _), kit_ty (by decide +kernel), _, rfl, iteT ?_⟩
    refine ⟨_, rfl, a, _, 1, _, rfl, rfl, hS, atI_nat (j := 1) rfl, _, rfl, by cases c <;> decide +kernel, rfl, _, rfl, ifT (by cases c <;> decide +kernel) ?_⟩
    refine ⟨_, rfl, a, _, 1, _, rfl, rfl, hS, atI_nat (j := 1) rfl, _, _, rfl, rfl, ?_⟩
    have e1 : (!(Builtin.Str.occurrences letters (letS c) 0 letters.length 1).isEmpty) = true := by cases c <;> decide +kernel
    rw [e1]
    exact q
  | fn b => cases hi
  | ap f g => cases hi
/-- how many nodes are left of so many -/
def spLeft (n : Nat) : Sp := fun vs H Q _ => ∃ v t, ∃ d h m : Nat, vs = [v, .int (d : Int), .int (h : Int), .int (m : Int)] ∧ TmAt H v t ∧ t.closedN d = true ∧ t.height ≤ h ∧ t.height ≤ n ∧ t.size ≤ m ∧ Q (.int ((m : Int) - (t.size : Int))) H
theorem cal_left_of (D : DefB K mg "left_of" s_left_of ["value", "around", "high", "many"]) (c_is_leaf : Cal P w K mg base 2 "is_leaf" spLeaf []) (c_is_tuple_of : Cal P w K mg base 1 "is_tuple_of" spTupOf []) (m_isinstance : mg "isinstance" = none) (m_str : mg "str" = none) (m_len : mg "len" = none) :
    ∀ n : Nat, Cal P w K mg base (n + 2) "left_of" (spLeft n) []
  | 0 => D.none fun vs H Q E h => by
    obtain ⟨v, t, d, h, m, _, _, _, _, h, _⟩ := h
    have := t.height_pos
    omega
  | n + 1 => by
    have c_left_of := cal_left_of D c_is_leaf c_is_tuple_of m_isinstance m_str m_len n
    refine D.cal sc_left_of (fun vs H Q E h => ?_) (fun f cdv A outer s H vs Q E hr h => ?_)
    · obtain ⟨v, t, d, h, m, rfl, _⟩ := h
      rfl
    obtain ⟨v, t, d, hi, m, rfl, ht, hc, hh, hn, hm, q⟩ := h
    have hhp := t.height_pos
    have hsp := t.size_pos
    have dh : decide (V.int (hi : Int) = V.int 0) = false := decide_eq_false (fun e => by have := V.int.inj e; omega)
    have dm : decide (V.int (m : Int) = V.int 0) = false := decide_eq_false (fun e => by have := V.int.inj e; omega)
    refine ⟨_, (pss_cons (ps_if (PW.pt (pw_or (pt_cmpR op_eq (pv 2) pe_int (nomark _)) (pw_or (pt_cmpR op_eq (pv 3) pe_int (nomark _)) (pw_or (pt_not (pt_val (C8.pe_c c_is_tuple_of hr (by omega) (by rfl) (pa_cons (pv 0) (pa_cons pe_int (pa_cons pe_int pa_nil)))))) (pw_or1 (pt_not (pt_val (pe_callB call_isi (by rfl) m_isinstance (by decide +kernel) (pa_cons (pe_ix ix_tup (pv 0) pe_int (fun _ _ => rfl)) (pa_cons (pe_bltn (v := .ty "str") (by rfl) m_str (by decide +kernel) rfl) pa_nil))))))))))
  (pss_one (ps_ret (pe_un un_neg pe_int)))
  pss_nil)
  (pss_cons (ps_if (PW.pt (pw_and (pt_cmpR op_eq (pe_ix ix_tup (pv 0) pe_int (fun _ _ => rfl)) pe_str (nomark _)) (pw_and1 (pt_cmpR op_eq (pe_callB call_len_seq (by rfl) m_len PySem.boot_len (pa_cons (pv 0) pa_nil)) pe_int (nomark _)))))
  (pss_cons (ps_set (i := 4) sc_left_of.nd rfl (.inl rfl) (C8.pe_c c_left_of hr (by omega) (by rfl) (pa_cons (pe_ix ix_tup (pv 0) pe_int (fun _ _ => rfl)) (pa_cons (pv 1) (pa_cons (pe_op op_sub (pv 2) pe_int) (pa_cons (pe_op op_sub (pv 3) pe_int) pa_nil))))))
  (pss_one (ps_ret (pe_ifExp (pt_cmpR op_ge (pv 4) pe_int (nomark _)) (C8.pe_c c_left_of hr (by omega) (by rfl) (pa_cons (pe_ix ix_tup (pv 0) pe_int (fun _ _ => rfl)) (pa_cons (pv 1) (pa_cons (pe_op op_sub (pv 2) pe_int) (pa_cons (pv 4) pa_nil))))) (pe_un un_neg pe_int)))))
  pss_nil)
  (pss_cons (ps_if (pt_cmpR op_ne (pe_callB call_len_seq (by rfl) m_len PySem.boot_len (pa_cons (pv 0) pa_nil)) pe_int (nomark _))
  (pss_one (ps_ret (pe_un un_neg pe_int)))
  pss_nil)
  (pss_cons (ps_if (pt_cmpR op_eq (pe_ix ix_tup (pv 0) pe_int (fun _ _ => rfl)) pe_str (nomark _))
  (pss_one (ps_ret (C8.pe_c c_left_of hr (by omega) (by rfl) (pa_cons (pe_ix ix_tup (pv 0) pe_int (fun _ _ => rfl)) (pa_cons (pe_op op_add (pv 1) pe_int) (pa_cons (pe_op op_sub (pv 2) pe_int) (pa_cons (pe_op op_sub (pv 3) pe_int) pa_nil)))))))
  pss_nil)
  (pss_one (ps_ret (pe_ifExp (pt_val (C8.pe_c c_is_leaf hr (by omega) (by rfl) (pa_cons (pv 0) (pa_cons (pv 1) pa_nil)))) (pe_op op_sub (pv 3) pe_int) (pe_un un_neg pe_int)))))))), ?_⟩
    refine ⟨_, rfl, rfl, _, rfl, ifF dh ?_⟩
    refine ⟨_, rfl, rfl, _, rfl, ifF dm ?_⟩
    cases t with
    | nm k =>
      obtain ⟨a, rfl, e⟩ := id ht
      have hS : SqT K H a [.str "name", .int (k : Int)] := .inl (.inl e)
      refine ⟨_, rfl, a, _, 2, 3, rfl, e, _, rfl, ifF rfl ?_⟩
      refine ⟨_, rfl, a, _, 0, _, rfl, rfl, hS, atI_nat (j := 0) rfl, _, _, _, _, true, rfl, .ty "str", .base (.str _), kit_ty (by decide +kernel), _, rfl, ifF (by decide +kernel) ?_⟩
      refine ⟨_, rfl, a, _, 0, _, rfl, rfl, hS, atI_nat (j := 0) rfl, rfl, _, rfl, ifF (by decide +kernel) ?_⟩
      refine ⟨_, rfl, a, _, rfl, .inr hS, rfl, _, rfl, ifF rfl ?_⟩
      refine ⟨_, rfl, a, _, 0, _, rfl, rfl, hS, atI_nat (j := 0) rfl, rfl, _, rfl, ifF (by decide +kernel) ?_⟩
      refine ⟨_, rfl, _, rfl, _, .nm k, d, rfl, ht, hc, rfl, _, rfl, iteT ?_⟩
      exact ⟨_, rfl, _, _, rfl, rfl, q⟩
    | lt k =>
      obtain ⟨a, rfl, e⟩ := id ht
      have hS : SqT K H a [.str "letter", .str (letS k)] := .inl (.inl e)
      refine ⟨_, rfl, a, _, 2, 3, rfl, e, _, rfl, ifF rfl ?_⟩
      refine ⟨_, rfl, a, _, 0, _, rfl, rfl, hS, atI_nat (j := 0) rfl, _, _, _, _, true, rfl, .ty "str", .base (.str _), kit_ty (by decide +kernel), _, rfl, ifF (by decide +kernel) ?_⟩
      refine ⟨_, rfl, a, _, 0, _, rfl, rfl, hS, atI_nat (j := 0) rfl, rfl, _, rfl, ifF (by decide +kernel) ?_⟩
      refine ⟨_, rfl, a, _, rfl, .inr hS, rfl, _, rfl, ifF rfl ?_⟩
      refine ⟨_, rfl, a, _, 0, _, rfl, rfl, hS, atI_nat (j := 0) rfl, rfl, _, rfl, ifF (by decide +kernel) ?_⟩
      refine ⟨_, rfl, _, rfl, _, .lt k, d, rfl, ht, hc, rfl, _, rfl, iteT ?_⟩
      exact ⟨_, rfl, _, _, rfl, rfl, q⟩
    | fn b =>
      obtain ⟨a, vb, rfl, e, hb⟩ := id ht
      have hS : SqT K H a [.str "fun", vb] := .inl (.inl e)
      simp only [Tm.height, Tm.size] at hh hn hm q
      refine ⟨_, rfl, a, _, 2, 3, rfl, e, _, rfl, ifF rfl ?_⟩
      refine ⟨_, rfl, a, _, 0, _, rfl, rfl, hS, atI_nat (j := 0) rfl, _, _, _, _, true, rfl, .ty "str", .base (.str _), kit_ty (by decide +kernel), _, rfl, ifF (by decide +kernel) ?_⟩
      refine ⟨_, rfl, a, _, 0, _, rfl, rfl, hS, atI_nat (j := 0) rfl, rfl, _, rfl, ifF (by decide +kernel) ?_⟩
      refine ⟨_, rfl, a, _, rfl, .inr hS, rfl, _, rfl, ifF rfl ?_⟩
      refine ⟨_, rfl, a, _, 0, _, rfl, rfl, hS, atI_nat (j := 0) rfl, rfl, _, rfl, ifT (by decide +kernel) ?_⟩
      refine ⟨_, rfl, a, _, 1, _, rfl, rfl, hS, atI_nat (j := 1) rfl, _, rfl, _, _, rfl, rfl, _, rfl, _, _, rfl, rfl, _, rfl, _, _, rfl, rfl, ?_⟩
      refine ⟨vb, b, d + 1, hi - 1, m - 1, ?_, hb, hc, by omega, by omega, by omega, ?_⟩
      · rw [show ((hi - 1 : Nat) : Int) = (hi : Int) - 1 by omega, show ((m - 1 : Nat) : Int) = (m : Int) - 1 by omega]
        rfl
      · rw [show ((m - 1 : Nat) : Int) - (b.size : Int) = (m : Int) - ((1 + b.size : Nat) : Int) by omega]
        exact q
    | ap f g =>
      obtain ⟨a, vf, vg, rfl, e, hf, hg⟩ := id ht
      have hS : SqT K H a [.str "call", vf, vg] := .inl (.inl e)
      simp only [Tm.height, Tm.size] at hh hn hm q
      have hc2 : f.closedN d = true ∧ g.closedN d = true := by
        have z : (f.closedN d && g.closedN d) = true := hc
        rwa [Bool.and_eq_true] at z
      refine ⟨_, rfl, a, _, 2, 3, rfl, e, _, rfl, ifF rfl ?_⟩
      refine ⟨_, rfl, a, _, 0, _, rfl, rfl, hS, atI_nat (j := 0) rfl, _, _, _, _, true, rfl, .ty "str", .base (.str _), kit_ty (by decide +kernel), _, rfl, ifF (by decide +kernel) ?_⟩
      refine ⟨_, rfl, a, _, 0, _, rfl, rfl, hS, atI_nat (j := 0) rfl, rfl, _, rfl, ifT (by decide +kernel) ?_⟩
      refine ⟨_, rfl, a, _, rfl, .inr hS, rfl, _, rfl, ifT rfl ?_⟩
      refine ⟨_, rfl, a, _, 1, _, rfl, rfl, hS, atI_nat (j := 1) rfl, _, rfl, _, rfl, _, _, rfl, rfl, _, rfl, _, _, rfl, rfl, ?_⟩
      refine ⟨vf, f, d, hi - 1, m - 1, ?_, hf, hc2.1, by omega, by omega, by omega, ?_⟩
      · rw [show ((hi - 1 : Nat) : Int) = (hi : Int) - 1 by omega, show ((m - 1 : Nat) : Int) = (m : Int) - 1 by omega]
        rfl
      refine ⟨_, rfl, _, _, rfl, rfl, _, rfl, ifT (decide_eq_true (by omega)) ?_⟩
      refine ⟨_, rfl, a, _, 2, _, rfl, rfl, hS, atI_nat (j := 2) rfl, _, rfl, _, rfl, _, _, rfl, rfl, _, rfl, ?_⟩
      refine ⟨vg, g, d, hi - 1, m - 1 - f.size, ?_, hg, hc2.2, by omega, by omega, by omega, ?_⟩
      · rw [show ((hi - 1 : Nat) : Int) = (hi : Int) - 1 by omega, show ((m - 1 - f.size : Nat) : Int) = ((m - 1 : Nat) : Int) - (f.size : Int) by omega]
        rfl
      · rw [show ((m - 1 - f.size : Nat) : Int) - (g.size : Int) = (m : Int) - ((1 + (f.size + g.size) : Nat) : Int) by omega]
        exact q
end
end Sf
/-! SfW3: putting, counting. -/
namespace Sf
open PySem PySem.Spec PyProof.Rows L2
open C8 (Cal pe_c)
section
variable {P : Program} {w : World} {K : PySem.W.Frag} {mg : Str → Option Value} {base : Heap}
/-- a new term is handed back -/
def GivesTm (H : Hp) (Q : VK) (t : Tm) : Prop := ∀ H' v', Same H H' → TmAt H' v' t → Q v' H'
theorem TmAt.nm_new {H : Hp} {p : Addr} {n : Nat} : TmAt (upd H p (.tup [.str "name", .int (n : Int)])) (.ref p) (.nm n) := ⟨p, rfl, upd_same⟩
theorem TmAt.fn_new {H : Hp} {p : Addr} {vb : V} {b : Tm} (np : H p = none) (h : TmAt H vb b) : TmAt (upd H p (.tup [.str "fun", vb])) (.ref p) (.fn b) := ⟨p, vb, rfl, upd_same, h.mono (tups_upd np)⟩
theorem TmAt.ap_new {H : Hp} {p : Addr} {vf vg : V} {f g : Tm} (np : H p = none) (hf : TmAt H vf f) (hg : TmAt H vg g) : TmAt (upd H p (.tup [.str "call", vf, vg])) (.ref p) (.ap f g) := ⟨p, vf, vg, rfl, upd_same, hf.mono (tups_upd np), hg.mono (tups_upd np)⟩
/-! ### lifted, put_for, stands -/
def spLifted (n : Nat) : Sp := fun vs H Q _ => ∃ v t, ∃ m c : Nat, vs = [v, .int (m : Int), .int (c : Int)] ∧ TmAt H v t ∧ t.height ≤ n ∧ GivesTm H Q (t.lift m c)
theorem cal_lifted (D : DefB K mg "lifted" s_lifted ["term", "many", "cut"]) : ∀ n : Nat, Cal P w K mg base (n + 1) "lifted" (spLifted n) []
  | 0 => D.none fun vs H Q E h => by
    obtain ⟨v, t, m, c, _, _, h, _⟩ := h
    have := t.height_pos
    omega
  | n + 1 => by
    have c_lifted := cal_lifted D n
    refine D.cal sc_lifted (fun vs H Q E h => ?_) (fun f cdv A outer s H vs Q E hr h => ?_)
    · obtain ⟨v, t, m, c, rfl, _⟩ := h
      rfl
    obtain ⟨v, t, m, c, rfl, ht, hh, q⟩ := h
    refine ⟨_, (pss_cons (ps_if (pt_cmpR op_eq (pe_ix ix_tup (pv 0) pe_int (fun _ _ => rfl)) pe_str (nomark _))
  (pss_one (ps_ret (pe_ifExp (pt_cmpR op_ge (pe_ix ix_tup (pv 0) pe_int (fun _ _ => rfl)) (pv 2) (nomark _)) (pe_tup (pa_cons pe_str (pa_cons (pe_op op_add (pe_ix ix_tup (pv 0) pe_int (fun _ _ => rfl)) (pv 1)) pa_nil))) (pv 0))))
  pss_nil)
  (pss_cons (ps_if (pt_cmpR op_eq (pe_ix ix_tup (pv 0) pe_int (fun _ _ => rfl)) pe_str (nomark _))
  (pss_one (ps_ret (pe_tup (pa_cons pe_str (pa_cons (C8.pe_c c_lifted hr (by omega) (by rfl) (pa_cons (pe_ix ix_tup (pv 0) pe_int (fun _ _ => rfl)) (pa_cons (pv 1) (pa_cons (pe_op op_add (pv 2) pe_int) pa_nil)))) pa_nil)))))
  pss_nil)
  (pss_cons (ps_if (pt_cmpR op_eq (pe_ix ix_tup (pv 0) pe_int (fun _ _ => rfl)) pe_str (nomark _))
  (pss_one (ps_ret (pe_tup (pa_cons pe_str (pa_cons (C8.pe_c c_lifted hr (by omega) (by rfl) (pa_cons (pe_ix ix_tup (pv 0) pe_int (fun _ _ => rfl)) (pa_cons (pv 1) (pa_cons (pv 2) pa_nil)))) (pa_cons (C8.pe_c c_lifted hr (by omega) (by rfl) (pa_cons (pe_ix ix_tup (pv 0) pe_int (fun _ _ => rfl)) (pa_cons (pv 1) (pa_cons (pv 2) pa_nil)))) pa_nil))))))
  pss_nil)
  (pss_one (ps_ret (pv 0)))))), ?_⟩
    cases t with
    | nm k =>
      obtain ⟨a, rfl, e⟩ := id ht
      have hS : SqT K H a [.str "name", .int (k : Int)] := .inl (.inl e)
      refine ⟨_, rfl, a, _, 0, _, rfl, rfl, hS, atI_nat (j := 0) rfl, rfl, _, rfl, ifT (by decide +kernel) ?_⟩
      refine ⟨_, rfl, a, _, 1, _, rfl, rfl, hS, atI_nat (j := 1) rfl, _, rfl, _, _, rfl, rfl, _, rfl, ?_⟩
      refine ite2 (fun h => ?_) (fun h => ?_)
      · have hk : c ≤ k := by have := of_decide_eq_true h; omega
        refine ⟨_, rfl, a, _, 1, _, rfl, rfl, hS, atI_nat (j := 1) rfl, _, rfl, _, _, rfl, rfl, ln2, fun p np => ?_⟩
        refine q _ _ (same_upd np) ?_
        show TmAt _ _ (if c ≤ k then Tm.nm (k + m) else Tm.nm k)
        rw [if_pos hk]
        exact TmAt.nm_new
      · have hk : ¬ c ≤ k := by have := of_decide_eq_false (Bool.eq_false_iff.mpr h); omega
        refine ⟨_, rfl, q _ _ (Same.refl _) ?_⟩
        show TmAt _ _ (if c ≤ k then Tm.nm (k + m) else Tm.nm k)
        rw [if_neg hk]
        exact ht
    | lt k =>
      obtain ⟨a, rfl, e⟩ := id ht
      have hS : SqT K H a [.str "letter", .str (letS k)] := .inl (.inl e)
      refine ⟨_, rfl, a, _, 0, _, rfl, rfl, hS, atI_nat (j := 0) rfl, rfl, _, rfl, ifF (by decide +kernel) ?_⟩
      refine ⟨_, rfl, a, _, 0, _, rfl, rfl, hS, atI_nat (j := 0) rfl, rfl, _, rfl, ifF (by decide +kernel) ?_⟩
      refine ⟨_, rfl, a, _, 0, _, rfl, rfl, hS, atI_nat (j := 0) rfl, rfl, _, rfl, ifF (by decide +kernel) ?_⟩
      exact ⟨_, rfl, q _ _ (Same.refl _) ht⟩
    | fn b =>
      obtain ⟨a, vb, rfl, e, hb⟩ := id ht
      have hS : SqT K H a [.str "fun", vb] := .inl (.inl e)
      simp only [Tm.height] at hh
      refine ⟨_, rfl, a, _, 0, _, rfl, rfl, hS, atI_nat (j := 0) rfl, rfl, _, rfl, ifF (by decide +kernel) ?_⟩
      refine ⟨_, rfl, a, _, 0, _, rfl, rfl, hS, atI_nat (j := 0) rfl, rfl, _, rfl, ifT (by decide +kernel) ?_⟩
      refine ⟨_, rfl, a, _, 1, _, rfl, rfl, hS, atI_nat (j := 1) rfl, _, rfl, _, rfl, _, _, rfl, rfl, ?_⟩
      refine ⟨vb, b, m, c + 1, rfl, hb, by omega, fun H1 v1 s1 h1 => ?_⟩
      refine ⟨ln2, fun p np => q _ _ (s1.trans (same_upd np)) (TmAt.fn_new np h1)⟩
    | ap f g =>
      obtain ⟨a, vf, vg, rfl, e, hf, hg⟩ := id ht
      have hS : SqT K H a [.str "call", vf, vg] := .inl (.inl e)
      simp only [Tm.height] at hh
      refine ⟨_, rfl, a, _, 0, _, rfl, rfl, hS, atI_nat (j := 0) rfl, rfl, _, rfl, ifF (by decide +kernel) ?_⟩
      refine ⟨_, rfl, a, _, 0, _, rfl, rfl, hS, atI_nat (j := 0) rfl, rfl, _, rfl, ifF (by decide +kernel) ?_⟩
      refine ⟨_, rfl, a, _, 0, _, rfl, rfl, hS, atI_nat (j := 0) rfl, rfl, _, rfl, ifT (by decide +kernel) ?_⟩
      refine ⟨_, rfl, a, _, 1, _, rfl, rfl, hS, atI_nat (j := 1) rfl, _, rfl, _, rfl, ?_⟩
      refine ⟨vf, f, m, c, rfl, hf, by omega, fun H1 v1 s1 h1 => ?_⟩
      have hS1 : SqT K H1 a [.str "call", vf, vg] := .inl (.inl (s1 _ _ e))
      refine ⟨_, rfl, a, _, 2, _, rfl, rfl, hS1, atI_nat (j := 2) rfl, _, rfl, _, rfl, ?_⟩
      refine ⟨vg, g, m, c, rfl, hg.mono (Same.tups s1), by omega, fun H2 v2 s2 h2 => ?_⟩
      exact ⟨ln3, fun p np => q _ _ (s1.trans (s2.trans (same_upd np))) (TmAt.ap_new np (h1.mono (Same.tups s2)) h2)⟩
def spPutFor (n : Nat) : Sp := fun vs H Q _ => ∃ v t vu u, ∃ d : Nat, vs = [v, vu, .int (d : Int)] ∧ TmAt H v t ∧ TmAt H vu u ∧ t.height ≤ n ∧ u.height ≤ 65 ∧ GivesTm H Q (t.put u d)
theorem cal_put_for (D : DefB K mg "put_for" s_put_for ["body", "argument", "depth"]) (c_lifted : Cal P w K mg base 66 "lifted" (spLifted 65) []) : ∀ n : Nat, Cal P w K mg base (n + 66) "put_for" (spPutFor n) []
  | 0 => D.none fun vs H Q E h => by
    obtain ⟨v, t, vu, u, d, _, _, _, h, _⟩ := h
    have := t.height_pos
    omega
  | n + 1 => by
    have c_put_for := cal_put_for D c_lifted n
    refine D.cal sc_put_for (fun vs H Q E h => ?_) (fun f cdv A outer s H vs Q E hr h => ?_)
    · obtain ⟨v, t, vu, u, d, rfl, _⟩ := h
      rfl
    obtain ⟨v, t, vu, u, d, rfl, ht, hu, hh, hhu, q⟩ := h
    refine ⟨_, (pss_cons (ps_if (pt_cmpR op_eq (pe_ix ix_tup (pv 0) pe_int (fun _ _ => rfl)) pe_str (nomark _))
  (pss_cons (ps_if (pt_cmpR op_eq (pe_ix ix_tup (pv 0) pe_int (fun _ _ => rfl)) (pv 2) (nomark _))
  (pss_one (ps_ret (C8.pe_c c_lifted hr (by omega) (by rfl) (pa_cons (pv 1) (pa_cons (pv 2) (pa_cons pe_int pa_nil))))))
  pss_nil)
  (pss_one (ps_ret (pe_ifExp (pt_cmpR op_gt (pe_ix ix_tup (pv 0) pe_int (fun _ _ => rfl)) (pv 2) (nomark _)) (pe_tup (pa_cons pe_str (pa_cons (pe_op op_sub (pe_ix ix_tup (pv 0) pe_int (fun _ _ => rfl)) pe_int) pa_nil))) (pv 0)))))
  pss_nil)
  (pss_cons (ps_if (pt_cmpR op_eq (pe_ix ix_tup (pv 0) pe_int (fun _ _ => rfl)) pe_str (nomark _))
  (pss_one (ps_ret (pe_tup (pa_cons pe_str (pa_cons (C8.pe_c c_put_for hr (by omega) (by rfl) (pa_cons (pe_ix ix_tup (pv 0) pe_int (fun _ _ => rfl)) (pa_cons (pv 1) (pa_cons (pe_op op_add (pv 2) pe_int) pa_nil)))) pa_nil)))))
  pss_nil)
  (pss_cons (ps_if (pt_cmpR op_eq (pe_ix ix_tup (pv 0) pe_int (fun _ _ => rfl)) pe_str (nomark _))
  (pss_one (ps_ret (pe_tup (pa_cons pe_str (pa_cons (C8.pe_c c_put_for hr (by omega) (by rfl) (pa_cons (pe_ix ix_tup (pv 0) pe_int (fun _ _ => rfl)) (pa_cons (pv 1) (pa_cons (pv 2) pa_nil)))) (pa_cons (C8.pe_c c_put_for hr (by omega) (by rfl) (pa_cons (pe_ix ix_tup (pv 0) pe_int (fun _ _ => rfl)) (pa_cons (pv 1) (pa_cons (pv 2) pa_nil)))) pa_nil))))))
  pss_nil)
  (pss_one (ps_ret (pv 0)))))), ?_⟩
    cases t with
    | nm k =>
      obtain ⟨a, rfl, e⟩ := id ht
      have hS : SqT K H a [.str "name", .int (k : Int)] := .inl (.inl e)
      have qq : GivesTm H Q (if k = d then u.lift d 0 else if d < k then .nm (k - 1) else .nm k) := q
      refine ⟨_, rfl, a, _, 0, _, rfl, rfl, hS, atI_nat (j := 0) rfl, rfl, _, rfl, ifT (by decide +kernel) ?_⟩
      refine ⟨_, rfl, a, _, 1, _, rfl, rfl, hS, atI_nat (j := 1) rfl, _, rfl, rfl, _, rfl, ?_⟩
      refine ite2 (fun h => ?_) (fun h => ?_)
      · have hk : k = d := by have := V.int.inj (of_decide_eq_true h); omega
        rw [if_pos hk] at qq
        exact ⟨_, rfl, _, rfl, vu, u, d, 0, rfl, hu, hhu, qq⟩
      · have hk : ¬ k = d := fun e => by
          have := of_decide_eq_false (Bool.eq_false_iff.mpr h)
          exact this (by rw [e])
        rw [if_neg hk] at qq
        refine ⟨_, rfl, a, _, 1, _, rfl, rfl, hS, atI_nat (j := 1) rfl, _, rfl, _, _, rfl, rfl, _, rfl, ?_⟩
        refine ite2 (fun h => ?_) (fun h => ?_)
        · have hk2 : d < k := by have := of_decide_eq_true h; omega
          rw [if_pos hk2] at qq
          refine ⟨_, rfl, a, _, 1, _, rfl, rfl, hS, atI_nat (j := 1) rfl, _, _, rfl, rfl, ln2, fun p np => ?_⟩
          refine qq _ _ (same_upd np) ?_
          have e1 : (k : Int) - 1 = ((k - 1 : Nat) : Int) := by omega
          show TmAt (upd H p (.tup [.str "name", .int ((k : Int) - 1)])) _ _
          rw [e1]
          exact TmAt.nm_new
        · have hk2 : ¬ d < k := by have := of_decide_eq_false (Bool.eq_false_iff.mpr h); omega
          rw [if_neg hk2] at qq
          exact ⟨_, rfl, qq _ _ (Same.refl _) ht⟩
    | lt k =>
      obtain ⟨a, rfl, e⟩ := id ht
      have hS : SqT K H a [.str "letter", .str (letS k)] := .inl (.inl e)
      refine ⟨_, rfl, a, _, 0, _, rfl, rfl, hS, atI_nat (j := 0) rfl, rfl, _, rfl, ifF (by decide +kernel) ?_⟩
      refine ⟨_, rfl, a, _, 0, _, rfl, rfl, hS, atI_nat (j := 0) rfl, rfl, _, rfl, ifF (by decide +kernel) ?_⟩
      refine ⟨_, rfl, a, _, 0, _, rfl, rfl, hS, atI_nat (j := 0) rfl, rfl, _, rfl, ifF (by decide +kernel) ?_⟩
      exact ⟨_, rfl, q _ _ (Same.refl _) ht⟩
    | fn b =>
      obtain ⟨a, vb, rfl, e, hb⟩ := id ht
      have hS : SqT K H a [.str "fun", vb] := .inl (.inl e)
      simp only [Tm.height] at hh
      refine ⟨_, rfl, a, _, 0, _, rfl, rfl, hS, atI_nat (j := 0) rfl, rfl, _, rfl, ifF (by decide +kernel) ?_⟩
      refine ⟨_, rfl, a, _, 0, _, rfl, rfl, hS, atI_nat (j := 0) rfl, rfl, _, rfl, ifT (by decide +kernel) ?_⟩
      refine ⟨_, rfl, a, _, 1, _, rfl, rfl, hS, atI_nat (j := 1) rfl, _, rfl, _, rfl, _, _, rfl, rfl, ?_⟩
      refine ⟨vb, b, vu, u, d + 1, rfl, hb, hu, by omega, hhu, fun H1 v1 s1 h1 => ?_⟩
      refine ⟨ln2, fun p np => q _ _ (s1.trans (same_upd np)) (TmAt.fn_new np h1)⟩
    | ap f g =>
      obtain ⟨a, vf, vg, rfl, e, hf, hg⟩ := id ht
      have hS : SqT K H a [.str "call", vf, vg] := .inl (.inl e)
      simp only [Tm.height] at hh
      refine ⟨_, rfl, a, _, 0, _, rfl, rfl, hS, atI_nat (j := 0) rfl, rfl, _, rfl, ifF (by decide +kernel) ?_⟩
      refine ⟨_, rfl, a, _, 0, _, rfl, rfl, hS, atI_nat (j := 0) rfl, rfl, _, rfl, ifF (by decide +kernel) ?_⟩
      refine ⟨_, rfl, a, _, 0, _, rfl, rfl, hS, atI_nat (j := 0) rfl, rfl, _, rfl, ifT (by decide +kernel) ?_⟩
      refine ⟨_, rfl, a, _, 1, _, rfl, rfl, hS, atI_nat (j := 1) rfl, _, rfl, _, rfl, ?_⟩
      refine ⟨vf, f, vu, u, d, rfl, hf, hu, by omega, hhu, fun H1 v1 s1 h1 => ?_⟩
      have hS1 : SqT K H1 a [.str "call", vf, vg] := .inl (.inl (s1 _ _ e))
      refine ⟨_, rfl, a, _, 2, _, rfl, rfl, hS1, atI_nat (j := 2) rfl, _, rfl, _, rfl, ?_⟩
      refine ⟨vg, g, vu, u, d, rfl, hg.mono (Same.tups s1), hu.mono (Same.tups s1), by omega, hhu, fun H2 v2 s2 h2 => ?_⟩
      exact ⟨ln3, fun p np => q _ _ (s1.trans (s2.trans (same_upd np))) (TmAt.ap_new np (h1.mono (Same.tups s2)) h2)⟩
def spStands (n : Nat) : Sp := fun vs H Q _ => ∃ v t, ∃ d : Nat, vs = [v, .int (d : Int)] ∧ TmAt H v t ∧ t.height ≤ n ∧ Q (.int (t.stands d : Int)) H
theorem cal_stands (D : DefB K mg "stands" s_stands ["term", "depth"]) : ∀ n : Nat, Cal P w K mg base (n + 1) "stands" (spStands n) []
  | 0 => D.none fun vs H Q E h => by
    obtain ⟨v, t, d, _, _, h, _⟩ := h
    have := t.height_pos
    omega
  | n + 1 => by
    have c_stands := cal_stands D n
    refine D.cal sc_stands (fun vs H Q E h => ?_) (fun f cdv A outer s H vs Q E hr h => ?_)
    · obtain ⟨v, t, d, rfl, _⟩ := h
      rfl
    obtain ⟨v, t, d, rfl, ht, hh, q⟩ := h
    refine ⟨_, (pss_cons (ps_if (pt_cmpR op_eq (pe_ix ix_tup (pv 0) pe_int (fun _ _ => rfl)) pe_str (nomark _))
  (pss_one (ps_ret (pe_ifExp (pt_cmpR op_eq (pe_ix ix_tup (pv 0) pe_int (fun _ _ => rfl)) (pv 1) (nomark _)) pe_int pe_int)))
  pss_nil)
  (pss_cons (ps_if (pt_cmpR op_eq (pe_ix ix_tup (pv 0) pe_int (fun _ _ => rfl)) pe_str (nomark _))
  (pss_one (ps_ret (C8.pe_c c_stands hr (by omega) (by rfl) (pa_cons (pe_ix ix_tup (pv 0) pe_int (fun _ _ => rfl)) (pa_cons (pe_op op_add (pv 1) pe_int) pa_nil)))))
  pss_nil)
  (pss_one (ps_ret (pe_ifExp (pt_cmpR op_eq (pe_ix ix_tup (pv 0) pe_int (fun _ _ => rfl)) pe_str (nomark _)) (pe_op op_add (C8.pe_c c_stands hr (by omega) (by rfl) (pa_cons (pe_ix ix_tup (pv 0) pe_int (fun _ _ => rfl)) (pa_cons (pv 1) pa_nil))) (C8.pe_c c_stands hr (by omega) (by rfl) (pa_cons (pe_ix ix_tup (pv 0) pe_int (fun _ _ => rfl)) (pa_cons (pv 1) pa_nil)))) pe_int))))), ?_⟩
    cases t with
    | nm k =>
      obtain ⟨a, rfl, e⟩ := id ht
      have hS : SqT K H a [.str "name", .int (k : Int)] := .inl (.inl e)
      have qq : Q (.int ((if k = d then 1 else 0 : Nat) : Int)) H := q
      refine ⟨_, rfl, a, _, 0, _, rfl, rfl, hS, atI_nat (j := 0) rfl, rfl, _, rfl, ifT (by decide +kernel) ?_⟩
      refine ⟨_, rfl, a, _, 1, _, rfl, rfl, hS, atI_nat (j := 1) rfl, _, rfl, rfl, _, rfl, ?_⟩
      refine ite2 (fun h => ?_) (fun h => ?_)
      · have hk : k = d := by have := V.int.inj (of_decide_eq_true h); omega
        rw [if_pos hk] at qq
        exact qq
      · have hk : ¬ k = d := fun e => by
          have := of_decide_eq_false (Bool.eq_false_iff.mpr h)
          exact this (by rw [e])
        rw [if_neg hk] at qq
        exact qq
    | lt k =>
      obtain ⟨a, rfl, e⟩ := id ht
      have hS : SqT K H a [.str "letter", .str (letS k)] := .inl (.inl e)
      refine ⟨_, rfl, a, _, 0, _, rfl, rfl, hS, atI_nat (j := 0) rfl, rfl, _, rfl, ifF (by decide +kernel) ?_⟩
      refine ⟨_, rfl, a, _, 0, _, rfl, rfl, hS, atI_nat (j := 0) rfl, rfl, _, rfl, ifF (by decide +kernel) ?_⟩
      refine ⟨_, rfl, a, _, 0, _, rfl, rfl, hS, atI_nat (j := 0) rfl, rfl, _, rfl, ifF (by decide +kernel) ?_⟩
      exact q
    | fn b =>
      obtain ⟨a, vb, rfl, e, hb⟩ := id ht
      have hS : SqT K H a [.str "fun", vb] := .inl (.inl e)
      simp only [Tm.height] at hh
      refine ⟨_, rfl, a, _, 0, _, rfl, rfl, hS, atI_nat (j := 0) rfl, rfl, _, rfl, ifF (by decide +kernel) ?_⟩
      refine ⟨_, rfl, a, _, 0, _, rfl, rfl, hS, atI_nat (j := 0) rfl, rfl, _, rfl, ifT (by decide +kernel) ?_⟩
      refine ⟨_, rfl, a, _, 1, _, rfl, rfl, hS, atI_nat (j := 1) rfl, _, rfl, _, _, rfl, rfl, ?_⟩
      exact ⟨vb, b, d + 1, rfl, hb, by omega, q⟩
    | ap f g =>
      obtain ⟨a, vf, vg, rfl, e, hf, hg⟩ := id ht
      have hS : SqT K H a [.str "call", vf, vg] := .inl (.inl e)
      simp only [Tm.height] at hh
      refine ⟨_, rfl, a, _, 0, _, rfl, rfl, hS, atI_nat (j := 0) rfl, rfl, _, rfl, ifF (by decide +kernel) ?_⟩
      refine ⟨_, rfl, a, _, 0, _, rfl, rfl, hS, atI_nat (j := 0) rfl, rfl, _, rfl, ifF (by decide +kernel) ?_⟩
      refine ⟨_, rfl, a, _, 0, _, rfl, rfl, hS, atI_nat (j := 0) rfl, rfl, _, rfl, ifT (by decide +kernel) ?_⟩
      refine ⟨_, rfl, a, _, 1, _, rfl, rfl, hS, atI_nat (j := 1) rfl, _, rfl, ?_⟩
      refine ⟨vf, f, d, rfl, hf, by omega, ?_⟩
      refine ⟨_, rfl, a, _, 2, _, rfl, rfl, hS, atI_nat (j := 2) rfl, _, rfl, ?_⟩
      exact ⟨vg, g, d, rfl, hg, by omega, _, _, rfl, rfl, q⟩
/-! ### size_behind, contracted -/
def spRedex (R : Hp → VK → Tm → Tm → Prop) : Sp := fun vs H Q _ => ∃ v b a, vs = [v] ∧ TmAt H v (.ap (.fn b) a) ∧ b.height ≤ 65 ∧ a.height ≤ 65 ∧ b.size ≤ 1000000 ∧ R H Q b a
abbrev spSizeBehind : Sp := spRedex fun H Q b a => ∀ H', Same H H' → Q (.int ((Tm.ap (.fn b) a).sizeBehind : Int)) H'
abbrev spContracted : Sp := spRedex fun H Q b a => GivesTm H Q (b.put a 0)
theorem cal_size_behind (D : DefB K mg "size_behind" s_size_behind ["redex"]) (c_size : Cal P w K mg base 66 "size" (spSize 65) []) (c_stands : Cal P w K mg base 66 "stands" (spStands 65) []) : Cal P w K mg base 67 "size_behind" spSizeBehind [] := by
  refine D.cal sc_size_behind (fun vs H Q E h => ?_) (fun f cdv A outer s H vs Q E hr h => ?_)
  · obtain ⟨v, b, a, rfl, _⟩ := h
    rfl
  obtain ⟨v, b, a, rfl, ⟨p, vf, va, rfl, e, ⟨pf, vb, rfl, ef, hb⟩, ha⟩, hhb, hha, hzb, q⟩ := h
  have hS : SqT K H p [.str "call", .ref pf, va] := .inl (.inl e)
  have hF : SqT K H pf [.str "fun", vb] := .inl (.inl ef)
  refine ⟨_, (pss_cons (ps_par (i := 1) (j := 2) (by rfl) sc_size_behind.nd rfl rfl (by decide) rfl rfl (pa_cons (pe_ix ix_tup (pe_ix ix_tup (pv 0) pe_int (fun _ _ => rfl)) pe_int (fun _ _ => rfl)) (pa_cons (pe_ix ix_tup (pv 0) pe_int (fun _ _ => rfl)) pa_nil)) (by rfl))
  (pss_one (ps_ret (pe_op op_add (C8.pe_c c_size hr (by omega) (by rfl) (pa_cons (pv 1) pa_nil)) (pe_op op_mul (C8.pe_c c_stands hr (by omega) (by rfl) (pa_cons (pv 1) (pa_cons pe_int pa_nil))) (pe_op op_sub (C8.pe_c c_size hr (by omega) (by rfl) (pa_cons (pv 2) pa_nil)) pe_int)))))), ?_⟩
  refine ⟨_, rfl, p, _, 1, _, rfl, rfl, hS, atI_nat (j := 1) rfl, pf, _, 1, _, rfl, rfl, hF, atI_nat (j := 1) rfl, _, rfl, p, _, 2, _, rfl, rfl, hS, atI_nat (j := 2) rfl, _, _, rfl, ?_⟩
  refine ⟨_, rfl, vb, b, rfl, hb, hhb, fun H1 s1 => ?_⟩
  refine ⟨_, rfl, vb, b, 0, rfl, hb.mono (Same.tups s1), hhb, ?_⟩
  refine ⟨_, rfl, va, a, rfl, ha.mono (Same.tups s1), hha, fun H2 s2 => ?_⟩
  refine ⟨_, _, rfl, rfl, _, _, rfl, rfl, .inl ⟨?_, ?_⟩, _, _, rfl, rfl, ?_⟩
  · have := b.stands_le 0
    omega
  · have := b.stands_le 0
    omega
  · have hp := a.size_pos
    have e1 : ((b.size : Nat) : Int) + ((b.stands 0 : Nat) : Int) * (((a.size : Nat) : Int) - 1) = (((Tm.ap (.fn b) a).sizeBehind : Nat) : Int) := by
      show _ = ((b.size + b.stands 0 * (a.size - 1) : Nat) : Int)
      rw [Int.natCast_add, Int.natCast_mul, show ((a.size - 1 : Nat) : Int) = ((a.size : Nat) : Int) - 1 by omega]
    show Q (.int (((b.size : Nat) : Int) + ((b.stands 0 : Nat) : Int) * (((a.size : Nat) : Int) - 1))) H2
    rw [e1]
    exact q _ (s1.trans s2)
theorem cal_contracted (D : DefB K mg "contracted" s_contracted ["redex"]) (c_put_for : Cal P w K mg base 131 "put_for" (spPutFor 65) []) : Cal P w K mg base 132 "contracted" spContracted [] := by
  refine D.cal sc_contracted (fun vs H Q E h => ?_) (fun f cdv A outer s H vs Q E hr h => ?_)
  · obtain ⟨v, b, a, rfl, _⟩ := h
    rfl
  obtain ⟨v, b, a, rfl, ⟨p, vf, va, rfl, e, ⟨pf, vb, rfl, ef, hb⟩, ha⟩, hhb, hha, hzb, q⟩ := h
  have hS : SqT K H p [.str "call", .ref pf, va] := .inl (.inl e)
  have hF : SqT K H pf [.str "fun", vb] := .inl (.inl ef)
  refine ⟨_, (pss_one (ps_ret (C8.pe_c c_put_for hr (by omega) (by rfl) (pa_cons (pe_ix ix_tup (pe_ix ix_tup (pv 0) pe_int (fun _ _ => rfl)) pe_int (fun _ _ => rfl)) (pa_cons (pe_ix ix_tup (pv 0) pe_int (fun _ _ => rfl)) (pa_cons pe_int pa_nil)))))), ?_⟩
  refine ⟨_, rfl, p, _, 1, _, rfl, rfl, hS, atI_nat (j := 1) rfl, pf, _, 1, _, rfl, rfl, hF, atI_nat (j := 1) rfl, _, rfl, p, _, 2, _, rfl, rfl, hS, atI_nat (j := 2) rfl, ?_⟩
  exact ⟨vb, b, va, a, 0, rfl, hb, ha, hhb, hha, q⟩
end
end Sf
/-! SfW4: steps. -/
namespace Sf
open PySem PySem.Spec PyProof.Rows L2
open C8 (Cal pe_c)
/-- numbers as values -/
def wv (l : List Nat) : List V := l.map fun (n : Nat) => V.int (n : Int)
theorem wv_length (l : List Nat) : (wv l).length = l.length := List.length_map _
theorem wv_append (l m : List Nat) : wv (l ++ m) = wv l ++ wv m := List.map_append
theorem wv_get {l : List Nat} {i n : Nat} (h : l[i]? = some n) : (wv l)[i]? = some (.int (n : Int)) := by
  unfold wv
  rw [List.getElem?_map, h]
  rfl
theorem wv_get' {l : List Nat} {i : Nat} {v : V} (h : (wv l)[i]? = some v) : ∃ n, l[i]? = some n ∧ v = .int (n : Int) := by
  unfold wv at h
  rw [List.getElem?_map] at h
  cases q : l[i]? with
  | none => rw [q] at h; cases h
  | some n => rw [q] at h; exact ⟨n, rfl, (Option.some.inj h).symm⟩
theorem rgV_nat (a n : Nat) : rgV (a : Int) ((a + n : Nat) : Int) = wv (List.range' a n) := by
  unfold rgV wv
  rw [show (((a + n : Nat) : Int) - (a : Int)).toNat = n by omega, List.range'_eq_map_range, List.map_map]
  exact List.map_congr_left fun i _ => by
    show V.int ((a : Int) + (i : Int)) = V.int ((a + i : Nat) : Int)
    rw [Int.natCast_add]
theorem rgV_zero (n : Nat) : rgV 0 (n : Int) = wv (List.range n) := by
  have h := rgV_nat 0 n
  rw [Nat.zero_add, ← List.range_eq_range'] at h
  exact h
open Tm (Small)
section
variable {P : Program} {w : World} {K : PySem.W.Frag} {mg : Str → Option Value} {base : Heap}
/-! ### put_at -/
def spPutAt (n : Nat) : Sp := fun vs H Q _ => ∃ v t vp p, ∃ k : Nat, vs = [v, .int (k : Int), vp] ∧ TmAt H v t ∧ TmAt H vp p ∧ t.height ≤ n ∧ t.height ≤ 65 ∧ k < t.size ∧ GivesTm H Q (t.putAt k p)
theorem cal_put_at (D : DefB K mg "put_at" s_put_at ["term", "node", "part"]) (c_size : Cal P w K mg base 66 "size" (spSize 65) []) : ∀ n : Nat, Cal P w K mg base (n + 66) "put_at" (spPutAt n) []
  | 0 => D.none fun vs H Q E h => by
    obtain ⟨v, t, vp, p, k, _, _, _, h, _⟩ := h
    have := t.height_pos
    omega
  | n + 1 => by
    have c_put_at := cal_put_at D c_size n
    refine D.cal sc_put_at (fun vs H Q E h => ?_) (fun f cdv A outer s H vs Q E hr h => ?_)
    · obtain ⟨v, t, vp, p, k, rfl, _⟩ := h
      rfl
    obtain ⟨v, t, vp, p, k, rfl, ht, hp, hh, h65, hk, q⟩ := h
    refine ⟨_, (pss_cons (ps_if (pt_cmpR op_eq (pv 1) pe_int (nomark _))
  (pss_one (ps_ret (pv 2)))
  pss_nil)
  (pss_cons (ps_if (pt_cmpR op_eq (pe_ix ix_tup (pv 0) pe_int (fun _ _ => rfl)) pe_str (nomark _))
  (pss_one (ps_ret (pe_tup (pa_cons pe_str (pa_cons (C8.pe_c c_put_at hr (by omega) (by rfl) (pa_cons (pe_ix ix_tup (pv 0) pe_int (fun _ _ => rfl)) (pa_cons (pe_op op_sub (pv 1) pe_int) (pa_cons (pv 2) pa_nil)))) pa_nil)))))
  pss_nil)
  (pss_cons (ps_set (i := 3) sc_put_at.nd rfl (.inl rfl) (C8.pe_c c_size hr (by omega) (by rfl) (pa_cons (pe_ix ix_tup (pv 0) pe_int (fun _ _ => rfl)) pa_nil)))
  (pss_cons (ps_if (pt_cmpR op_le (pv 1) (pv 3) (nomark _))
  (pss_one (ps_ret (pe_tup (pa_cons pe_str (pa_cons (C8.pe_c c_put_at hr (by omega) (by rfl) (pa_cons (pe_ix ix_tup (pv 0) pe_int (fun _ _ => rfl)) (pa_cons (pe_op op_sub (pv 1) pe_int) (pa_cons (pv 2) pa_nil)))) (pa_cons (pe_ix ix_tup (pv 0) pe_int (fun _ _ => rfl)) pa_nil))))))
  pss_nil)
  (pss_one (ps_ret (pe_tup (pa_cons pe_str (pa_cons (pe_ix ix_tup (pv 0) pe_int (fun _ _ => rfl)) (pa_cons (C8.pe_c c_put_at hr (by omega) (by rfl) (pa_cons (pe_ix ix_tup (pv 0) pe_int (fun _ _ => rfl)) (pa_cons (pe_op op_sub (pe_op op_sub (pv 1) pe_int) (pv 3)) (pa_cons (pv 2) pa_nil)))) pa_nil)))))))))), ?_⟩
    refine ⟨_, rfl, rfl, _, rfl, ite2 (fun h => ?_) (fun h => ?_)⟩
    · have e0 : k = 0 := by have := V.int.inj (of_decide_eq_true h); omega
      subst e0
      have e1 : t.putAt 0 p = p := by cases t <;> rfl
      rw [e1] at q
      exact ⟨_, rfl, q _ _ (Same.refl _) hp⟩
    · obtain ⟨j, rfl⟩ : ∃ j, k = j + 1 := ⟨k - 1, by
        have := of_decide_eq_false (Bool.eq_false_iff.mpr h)
        have h0 : k ≠ 0 := fun e => this (by rw [e]; rfl)
        omega⟩
      have ej : ((j + 1 : Nat) : Int) - 1 = (j : Int) := by omega
      cases t with
      | nm _ => simp [Tm.size] at hk
      | lt _ => simp [Tm.size] at hk
      | fn b =>
        obtain ⟨a, vb, rfl, e, hb⟩ := id ht
        have hS : SqT K H a [.str "fun", vb] := .inl (.inl e)
        simp only [Tm.height, Tm.size] at hh h65 hk
        refine ⟨_, rfl, a, _, 0, _, rfl, rfl, hS, atI_nat (j := 0) rfl, rfl, _, rfl, ifT (by decide +kernel) ?_⟩
        refine ⟨_, rfl, a, _, 1, _, rfl, rfl, hS, atI_nat (j := 1) rfl, _, rfl, _, _, rfl, rfl, _, rfl, ?_⟩
        refine ⟨vb, b, vp, p, j, ?_, hb, hp, by omega, by omega, by omega, fun H1 v1 s1 h1 => ?_⟩
        · show [vb, V.int (((j + 1 : Nat) : Int) - 1), vp] = _
          rw [ej]
        · exact ⟨ln2, fun p1 np => q _ _ (s1.trans (same_upd np)) (TmAt.fn_new np h1)⟩
      | ap f g =>
        obtain ⟨a, vf, vg, rfl, e, hf, hg⟩ := id ht
        have hS : SqT K H a [.str "call", vf, vg] := .inl (.inl e)
        simp only [Tm.height, Tm.size] at hh h65 hk
        have qq : GivesTm H Q (if j < f.size then Tm.ap (f.putAt j p) g else Tm.ap f (g.putAt (j - f.size) p)) := q
        refine ⟨_, rfl, a, _, 0, _, rfl, rfl, hS, atI_nat (j := 0) rfl, rfl, _, rfl, ifF (by decide +kernel) ?_⟩
        refine ⟨_, rfl, a, _, 1, _, rfl, rfl, hS, atI_nat (j := 1) rfl, vf, f, rfl, hf, by omega, fun H1 s1 => ?_⟩
        have hS1 : SqT K H1 a [.str "call", vf, vg] := .inl (.inl (s1 _ _ e))
        refine ⟨_, rfl, _, rfl, _, _, rfl, rfl, _, rfl, ite2 (fun h => ?_) (fun h => ?_)⟩
        · have hj : j < f.size := by have := of_decide_eq_true h; omega
          rw [if_pos hj] at qq
          refine ⟨_, rfl, a, _, 1, _, rfl, rfl, hS1, atI_nat (j := 1) rfl, _, rfl, _, _, rfl, rfl, _, rfl, ?_⟩
          refine ⟨vf, f, vp, p, j, ?_, hf.mono (Same.tups s1), hp.mono (Same.tups s1), by omega, by omega, hj, fun H2 v2 s2 h2 => ?_⟩
          · show [vf, V.int (((j + 1 : Nat) : Int) - 1), vp] = _
            rw [ej]
          · have hS2 : SqT K H2 a [.str "call", vf, vg] := .inl (.inl (s2 _ _ (s1 _ _ e)))
            refine ⟨_, rfl, a, _, 2, _, rfl, rfl, hS2, atI_nat (j := 2) rfl, ln3, fun p1 np => ?_⟩
            exact qq _ _ (s1.trans (s2.trans (same_upd np))) (TmAt.ap_new np h2 (hg.mono (Same.tups (s1.trans s2))))
        · have hj : ¬ j < f.size := by have := of_decide_eq_false (Bool.eq_false_iff.mpr h); omega
          rw [if_neg hj] at qq
          refine ⟨_, rfl, a, _, 1, _, rfl, rfl, hS1, atI_nat (j := 1) rfl, ?_⟩
          refine ⟨_, rfl, a, _, 2, _, rfl, rfl, hS1, atI_nat (j := 2) rfl, _, rfl, _, _, rfl, rfl, _, rfl, _, _, rfl, rfl, _, rfl, ?_⟩
          refine ⟨vg, g, vp, p, j - f.size, ?_, hg.mono (Same.tups s1), hp.mono (Same.tups s1), by omega, by omega, by omega, fun H2 v2 s2 h2 => ?_⟩
          · show [vg, V.int (((j + 1 : Nat) : Int) - 1 - (f.size : Int)), vp] = _
            rw [show ((j + 1 : Nat) : Int) - 1 - (f.size : Int) = ((j - f.size : Nat) : Int) by omega]
          · exact ⟨ln3, fun p1 np => qq _ _ (s1.trans (s2.trans (same_upd np))) (TmAt.ap_new np (hf.mono (Same.tups (s1.trans s2))) h2)⟩
/-! ### fits_term, need_term, need_small -/
def spFits (v0 : V) : Sp := fun vs H Q _ => ∃ v t, vs = [v] ∧ TmAt H v t ∧ t.closedN 0 = true ∧ Small t ∧ Q v0 H
theorem cal_fits_term (D : DefB K mg "fits_term" s_fits_term ["value"]) (c_left_of : Cal P w K mg base 67 "left_of" (spLeft 65) []) {t1 t2 : Tok} (m_NODES : mg "NODES" = some (.int 600 t1)) (m_HEIGHT : mg "HEIGHT" = some (.int 60 t2)) : Cal P w K mg base 68 "fits_term" (spFits (.bl true)) [] := by
  refine D.cal sc_fits_term (fun vs H Q E h => ?_) (fun f cdv A outer s H vs Q E hr h => ?_)
  · obtain ⟨v, t, rfl, _⟩ := h
    rfl
  obtain ⟨v, t, rfl, ht, hc, ⟨hz, hh⟩, q⟩ := h
  refine ⟨_, (pss_one (ps_ret (pe_cmpR op_ge (C8.pe_c c_left_of hr (by omega) (by rfl) (pa_cons (pv 0) (pa_cons pe_int (pa_cons (pe_glob (v := .int 60) (by rfl) m_HEIGHT ⟨_, rfl⟩) (pa_cons (pe_glob (v := .int 600) (by rfl) m_NODES ⟨_, rfl⟩) pa_nil))))) pe_int (nomark _)))), ?_⟩
  refine ⟨_, rfl, v, t, 0, 60, 600, rfl, ht, hc, hh, by omega, hz, _, _, rfl, rfl, ?_⟩
  have e1 : decide ((0 : Int) ≤ ((600 : Nat) : Int) - (t.size : Int)) = true := decide_eq_true (by omega)
  show Q (.bl (decide ((0 : Int) ≤ ((600 : Nat) : Int) - (t.size : Int)))) H
  rw [e1]
  exact q
theorem cal_need_term (D : DefB K mg "need_term" s_need_term ["value"]) (c_fits_term : Cal P w K mg base 68 "fits_term" (spFits (.bl true)) []) : Cal P w K mg base 69 "need_term" (spFits .non) [] := by
  refine D.cal sc_need_term (fun vs H Q E h => ?_) (fun f cdv A outer s H vs Q E hr h => ?_)
  · obtain ⟨v, t, rfl, _⟩ := h
    rfl
  obtain ⟨v, t, rfl, ht, hc, hs, q⟩ := h
  refine ⟨_, (pss_one (ps_if (pt_not (pt_val (C8.pe_c c_fits_term hr (by omega) (by rfl) (pa_cons (pv 0) pa_nil))))
  (pss_one ps_never)
  pss_nil)), ?_⟩
  exact ⟨_, rfl, v, t, rfl, ht, hc, hs, _, rfl, ifF rfl q⟩
def spNeedSmall : Sp := fun vs H Q _ => ∃ v t, vs = [v] ∧ TmAt H v t ∧ Small t ∧ ∀ H', Same H H' → Q .non H'
theorem cal_need_small (D : DefB K mg "need_small" s_need_small ["term"]) (c_size : Cal P w K mg base 66 "size" (spSize 65) []) (c_height : Cal P w K mg base 66 "height" (spHeight 65) []) {t1 t2 : Tok} (m_NODES : mg "NODES" = some (.int 600 t1)) (m_HEIGHT : mg "HEIGHT" = some (.int 60 t2)) :
    Cal P w K mg base 67 "need_small" spNeedSmall [] := by
  refine D.cal sc_need_small (fun vs H Q E h => ?_) (fun f cdv A outer s H vs Q E hr h => ?_)
  · obtain ⟨v, t, rfl, _⟩ := h
    rfl
  obtain ⟨v, t, rfl, ht, ⟨hz, hh⟩, q⟩ := h
  refine ⟨_, (pss_cons (ps_if (pt_cmpR op_gt (C8.pe_c c_size hr (by omega) (by rfl) (pa_cons (pv 0) pa_nil)) (pe_glob (v := .int 600) (by rfl) m_NODES ⟨_, rfl⟩) (nomark _))
  (pss_one ps_never)
  pss_nil)
  (pss_one (ps_if (pt_cmpR op_gt (C8.pe_c c_height hr (by omega) (by rfl) (pa_cons (pv 0) pa_nil)) (pe_glob (v := .int 60) (by rfl) m_HEIGHT ⟨_, rfl⟩) (nomark _))
  (pss_one ps_never)
  pss_nil))), ?_⟩
  refine ⟨_, rfl, v, t, rfl, ht, by omega, fun H1 s1 => ?_⟩
  refine ⟨_, _, rfl, rfl, _, rfl, ifF (decide_eq_false (by omega)) ?_⟩
  refine ⟨_, rfl, v, t, rfl, ht.mono (Same.tups s1), by omega, fun H2 s2 => ?_⟩
  exact ⟨_, _, rfl, rfl, _, rfl, ifF (decide_eq_false (by omega)) (q _ (s1.trans s2))⟩
/-! ### redexes -/
def spIsRed : Sp := fun vs H Q _ => ∃ v t, vs = [v] ∧ TmAt H v t ∧ Q (.bl t.isRed) H
theorem cal_is_call_of_fun (D : DefB K mg "is_call_of_fun" s_is_call_of_fun ["term"]) : Cal P w K mg base 1 "is_call_of_fun" spIsRed [] := by
  refine D.cal sc_is_call_of_fun (fun vs H Q E h => ?_) (fun f cdv A outer s H vs Q E hr h => ?_)
  · obtain ⟨v, t, rfl, _⟩ := h
    rfl
  obtain ⟨v, t, rfl, ht, q⟩ := h
  refine ⟨_, (pss_one (ps_ret (pe_and (pe_cmpR op_eq (pe_ix ix_tup (pv 0) pe_int (fun _ _ => rfl)) pe_str (nomark _)) (pe_one (pe_cmpR op_eq (pe_ix ix_tup (pe_ix ix_tup (pv 0) pe_int (fun _ _ => rfl)) pe_int (fun _ _ => rfl)) pe_str (nomark _)))))), ?_⟩
  obtain ⟨a, xs, rfl, e⟩ := ht.tup
  have hS : SqT K H a (.str (tagOf t) :: xs) := .inl (.inl e)
  refine ⟨_, rfl, a, _, 0, _, rfl, rfl, hS, atI_nat (j := 0) rfl, rfl, _, rfl, ?_⟩
  cases t with
  | nm _ => exact ifF (show decide (V.str "name" = V.str "call") = false by decide +kernel) q
  | lt _ => exact ifF (show decide (V.str "letter" = V.str "call") = false by decide +kernel) q
  | fn _ => exact ifF (show decide (V.str "fun" = V.str "call") = false by decide +kernel) q
  | ap f g =>
    refine ifT (show decide (V.str "call" = V.str "call") = true by decide +kernel) ?_
    obtain ⟨a', vf, vg, ea, e', hf, hg⟩ := ht
    cases ea
    obtain ⟨b, ys, rfl, e2⟩ := hf.tup
    have hS2 : SqT K H a [.str "call", .ref b, vg] := .inl (.inl e')
    have hS3 : SqT K H b (.str (tagOf f) :: ys) := .inl (.inl e2)
    refine ⟨_, rfl, a, _, 1, _, rfl, rfl, hS2, atI_nat (j := 1) rfl, b, _, 0, _, rfl, rfl, hS3, atI_nat (j := 0) rfl, rfl, ?_⟩
    have e3 : decide (V.str (tagOf f) = V.str "fun") = (Tm.ap f g).isRed := by cases f <;> first | rfl | decide +kernel
    rw [e3]
    exact q
def spRedNodes : Sp := fun vs H Q _ => ∃ v t, vs = [v] ∧ TmAt H v t ∧ t.height ≤ 65 ∧ t.size ≤ 1000000 ∧ ∀ H' p, Same H H' → H' p = some (.lst (wv t.redNodes)) → Q (.ref p) H'
theorem cal_redex_nodes (D : DefB K mg "redex_nodes" s_redex_nodes ["term"]) (c_parts : Cal P w K mg base 66 "parts" (spParts 65) []) (c_is_call_of_fun : Cal P w K mg base 1 "is_call_of_fun" spIsRed []) (m_enumerate : mg "enumerate" = none) : Cal P w K mg base 67 "redex_nodes" spRedNodes [] := by
  refine D.cal sc_redex_nodes (fun vs H Q E h => ?_) (fun f cdv A outer s H vs Q E hr h => ?_)
  · obtain ⟨v, t, rfl, _⟩ := h
    rfl
  obtain ⟨v, t, rfl, ht, hh, hz, q⟩ := h
  refine ⟨_, (pss_one (ps_ret (pe_lc (own := [("at", 1), ("part", 2)]) (g := gTup K 2 (gCons (gName 1) (gCons (gName 2) gNil))) rfl sc_redex_nodes.nd (pi_enum (by rfl) m_enumerate (pa_cons (C8.pe_c c_parts hr (by omega) (by rfl) (pa_cons (pv 0) pa_nil)) pa_nil)) (blkOk_by (own := [("at", 1), ("part", 2)]) (N := ["term", "at", "part"]) (sc := defScope s_redex_nodes) (by decide +kernel)) (fun _ _ _ _ _ => (pg_tup rfl (pgs_cons (pg_name (i := 1) sc_redex_nodes.nd rfl (.inl rfl)) (pgs_cons (pg_name (i := 2) sc_redex_nodes.nd rfl (.inl rfl)) pgs_nil)))) (fun _ _ _ _ _ => (pts_one (pt_val (C8.pe_c c_is_call_of_fun hr (by omega) (by rfl) (pa_cons (pv 2) pa_nil))))) (fun _ _ _ _ _ => (pv 1))))), ?_⟩
  refine ⟨_, rfl, v, t, rfl, ht, hh, hz, fun H1 p ws s1 ep hw => ?_⟩
  refine ⟨p, ws, rfl, .inl (.inl ep), fun D nD => ?_⟩
  have pD : p ≠ D := ne_of_none ep nD
  refine lc_it walk_enum (fun i H2 => Same H1 H2 ∧ H2 D = some (.lst (wv (idxFrom Tm.isRed 0 (t.parts.take i))))) ⟨same_upd nD, upd_same⟩ (fun i H2 _ h => .inl (.inl (h.1 _ _ ep))) (fun i x H2 H3 hi h y => ?_) (fun H2 h => ?_)
  · obtain ⟨s2, eD⟩ := h
    obtain ⟨T, y1, y2, rfl, nT, rfl, e1, e2⟩ := y
    cases Option.some.inj e1
    obtain ⟨u, hu, hx⟩ := hw.get e2
    have sT : Same H2 (upd H2 T (.tup [.int (i : Nat), y2])) := same_upd nT
    refine ⟨T, _, rfl, .inl (.inl upd_same), rfl, _, _, rfl, _, _, rfl, rfl, ?_⟩
    refine ⟨rfl, _, rfl, y2, u, rfl, hx.mono (Same.tups (s2.trans sT)), _, rfl, ?_⟩
    have et := idxFrom_take Tm.isRed t.parts i u hu
    have ll := Tm.idxFrom_le Tm.isRed 0 (t.parts.take i)
    have lt : (t.parts.take i).length ≤ t.size := by rw [List.length_take, Tm.parts_length]; omega
    have eD' : upd H2 T (.tup [.int (i : Nat), y2]) D = some (.lst (wv (idxFrom Tm.isRed 0 (t.parts.take i)))) := sT _ _ eD
    refine ite2 (fun c => ?_) (fun c => ?_)
    · rw [if_pos c] at et
      refine ⟨_, rfl, _, eD', ?_, ?_, ?_⟩
      · rw [wv_length]
        exact lt_line (by omega)
      · exact (fun b o e => by
          have nb : b ≠ D := ne_of_none e nD
          rw [upd_ne nb]
          exact sT _ _ (s2 _ _ e))
      · rw [upd_same, et, wv_append]
        rfl
    · rw [if_neg c] at et
      refine ⟨s2.trans sT, ?_⟩
      rw [et]
      exact eD'
  · obtain ⟨s2, eD⟩ := h
    rw [hw.length, List.take_length] at eD
    exact q _ D (s1.trans s2) eD
end
end Sf
/-! SfW5: steps, origins, what is left of a lot. -/
namespace Sf
open PySem PySem.Spec PyProof.Rows L2
open C8 (Cal pe_c)
open Tm (Small)
def dw (l : List Nat) : List PyData := l.map fun (n : Nat) => PyData.int (n : Int)
theorem dw_all {K : PySem.W.Frag} {H : Hp} : ∀ l : List Nat, DpAll K H (wv l) (dw l)
  | [] => .nil
  | n :: l => .cons (.int (n : Int)) (dw_all l)
theorem dw_eqv : ∀ l m : List Nat, PyData.eqvAll (dw l) (dw m) = decide (l = m)
  | [], [] => rfl
  | n :: l, [] => rfl
  | [], n :: l => rfl
  | a :: l, b :: m => by
    have ih := dw_eqv l m
    show (PyData.eqv (.int (a : Int)) (.int (b : Int)) && PyData.eqvAll (dw l) (dw m)) = _
    rw [ih]
    show (((a : Int) == (b : Int)) && decide (l = m)) = _
    by_cases h : a = b
    · subst h
      simp
    · have h2 : ¬ (a : Int) = (b : Int) := by omega
      simp [h, h2]
theorem dw_depth : ∀ l : List Nat, PyData.depthAll (dw l) = 0
  | [] => rfl
  | n :: l => by
    show max 0 (PyData.depthAll (dw l)) = 0
    rw [dw_depth l] <;> rfl
theorem dw_lay : ∀ l : List Nat, PyData.canLayAll0 (dw l) = true
  | [] => rfl
  | n :: l => by
    show (true && PyData.canLayAll0 (dw l)) = true
    rw [dw_lay l] <;> rfl
theorem dw_shapedL (l : List Nat) : SeqAt.shaped (.list (dw l)) = true := by
  unfold SeqAt.shaped
  rw [show PyData.canLay0 (.list (dw l)) = PyData.canLayAll0 (dw l) by simp only [PyData.canLay0], dw_lay, show PyData.depth (.list (dw l)) = PyData.depthAll (dw l) + 1 by simp only [PyData.depth], dw_depth]
  rfl
theorem dw_shapedT (l : List Nat) : SeqAt.shaped (.tuple (dw l)) = true := by
  unfold SeqAt.shaped
  rw [show PyData.canLay0 (.tuple (dw l)) = PyData.canLayAll0 (dw l) by simp only [PyData.canLay0], dw_lay, show PyData.depth (.tuple (dw l)) = PyData.depthAll (dw l) + 1 by simp only [PyData.depth], dw_depth]
  rfl
/-- == of two lists of numbers -/
theorem eqL {K : PySem.W.Frag} {H : Hp} {Q : VK} {a b : Addr} {l m : List Nat} (ha : SqL K H a (wv l)) (hb : SqL K H b (wv m)) (q : Q (.bl (decide (l = m))) H) : rEqD K (.ref a) (.ref b) H Q := by
  refine ⟨_, _, .lst ha (dw_all l), .lst hb (dw_all m), dw_shapedL l, dw_shapedL m, ?_⟩
  rw [show PyData.eqv (.list (dw l)) (.list (dw m)) = PyData.eqvAll (dw l) (dw m) by simp only [PyData.eqv], dw_eqv]
  exact q
theorem neL {K : PySem.W.Frag} {H : Hp} {Q : VK} {a b : Addr} {l m : List Nat} (ha : SqL K H a (wv l)) (hb : SqL K H b (wv m)) (q : Q (.bl (!decide (l = m))) H) : rNeD K (.ref a) (.ref b) H Q := by
  refine ⟨_, _, .lst ha (dw_all l), .lst hb (dw_all m), dw_shapedL l, dw_shapedL m, ?_⟩
  rw [show PyData.eqv (.list (dw l)) (.list (dw m)) = PyData.eqvAll (dw l) (dw m) by simp only [PyData.eqv], dw_eqv]
  exact q
theorem eqT {K : PySem.W.Frag} {H : Hp} {Q : VK} {a b : Addr} {l m : List Nat} (ha : SqT K H a (wv l)) (hb : SqT K H b (wv m)) (q : Q (.bl (decide (l = m))) H) : rEqD K (.ref a) (.ref b) H Q := by
  refine ⟨_, _, .tup ha (dw_all l), .tup hb (dw_all m), dw_shapedT l, dw_shapedT m, ?_⟩
  rw [show PyData.eqv (.tuple (dw l)) (.tuple (dw m)) = PyData.eqvAll (dw l) (dw m) by simp only [PyData.eqv], dw_eqv]
  exact q
theorem neT {K : PySem.W.Frag} {H : Hp} {Q : VK} {a b : Addr} {l m : List Nat} (ha : SqT K H a (wv l)) (hb : SqT K H b (wv m)) (q : Q (.bl (!decide (l = m))) H) : rNeD K (.ref a) (.ref b) H Q := by
  refine ⟨_, _, .tup ha (dw_all l), .tup hb (dw_all m), dw_shapedT l, dw_shapedT m, ?_⟩
  rw [show PyData.eqv (.tuple (dw l)) (.tuple (dw m)) = PyData.eqvAll (dw l) (dw m) by simp only [PyData.eqv], dw_eqv]
  exact q
theorem wv_flat (l : List Nat) : (wv l).all flatV = true := by
  unfold wv
  rw [List.all_map]
  exact List.all_eq_true.mpr fun _ _ => rfl
theorem wv_in (n : Nat) : ∀ l : List Nat, inV (.int (n : Int)) (wv l) = l.contains n
  | [] => rfl
  | m :: l => by
    have ih := wv_in n l
    unfold inV at ih ⊢
    show (((m : Int) == (n : Int)) || ((wv l).any fun y => eqV y (.int (n : Int)))) = _
    rw [ih, List.contains_cons]
    by_cases h : m = n
    · subst h
      simp
    · have h2 : ¬ (m : Int) = (n : Int) := by omega
      have h3 : ¬ n = m := fun e => h e.symm
      have e2 : ((m : Int) == (n : Int)) = false := beq_eq_false_iff_ne.mpr h2
      have e3 : (n == m) = false := beq_eq_false_iff_ne.mpr h3
      rw [e2, e3]
/-- n in lot -/
theorem inT {K : PySem.W.Frag} {H : Hp} {Q : VK} {p : Addr} {l : List Nat} {n : Nat} (h : SqL K H p (wv l) ∨ SqT K H p (wv l)) (q : Q (.bl (l.contains n)) H) : rIn K false (.int (n : Int)) (.ref p) H Q := by
  refine ⟨p, wv l, rfl, h, rfl, wv_flat l, ?_⟩
  show Q (.bl (inV (.int (n : Int)) (wv l))) H
  rw [wv_in]
  exact q
/-- both ways lead to R -/
theorem ite_both {c A B R : Prop} [Decidable c] (hb : R → B) (ha : c → R → A) (r : R) : if c then A else B := by
  by_cases h : c
  · rw [if_pos h]; exact ha h r
  · rw [if_neg h]; exact hb r
theorem tag_fn {t : Tm} : decide (V.str (tagOf t) = V.str "fun") = t.isFn := by
  cases t with
  | nm _ => exact (show decide (V.str "name" = V.str "fun") = false by decide +kernel)
  | lt _ => exact (show decide (V.str "letter" = V.str "fun") = false by decide +kernel)
  | fn _ => exact (show decide (V.str "fun" = V.str "fun") = true by decide +kernel)
  | ap _ _ => exact (show decide (V.str "call" = V.str "fun") = false by decide +kernel)
/-- depth + 1 if it is a fun, else depth -/
theorem dep_val {t : Tm} {σ : L2.St} {H : Hp} {Q : VK} {d i : Nat} (hs : σ[i]? = some (some (.int (d : Int)))) (q : Q (.int ((if t.isFn then d + 1 else d : Nat) : Int)) H) :
    if decide (V.str (tagOf t) = V.str "fun") = true then tOp (rI0 fun i j => V.int (i + j)) (tVar i) (tC (V.int 1)) σ H Q else tVar i σ H Q := by
  rw [tag_fn]
  cases h : t.isFn with
  | true =>
    rw [h] at q
    refine iteT ⟨_, hs, _, _, rfl, rfl, ?_⟩
    have e : ((if true = true then d + 1 else d : Nat) : Int) = (d : Int) + 1 := by simp
    rw [e] at q
    exact q
  | false =>
    rw [h] at q
    exact iteF ⟨_, hs, q⟩
section
variable {P : Program} {w : World} {K : PySem.W.Frag} {mg : Str → Option Value} {base : Heap}
/-! ### stepped -/
def spStepped : Sp := fun vs H Q _ => ∃ v t, ∃ n : Nat, vs = [v, .int (n : Int)] ∧ TmAt H v t ∧ t.redAt n = true ∧ t.height ≤ 65 ∧ t.size ≤ 1000000 ∧ Small (t.step n) ∧ GivesTm H Q (t.step n)
theorem cal_stepped (D : DefB K mg "stepped" s_stepped ["term", "node"]) (c_parts : Cal P w K mg base 66 "parts" (spParts 65) []) (c_size : Cal P w K mg base 66 "size" (spSize 65) []) (c_size_behind : Cal P w K mg base 67 "size_behind" spSizeBehind [])
    (c_put_at : Cal P w K mg base 131 "put_at" (spPutAt 65) []) (c_contracted : Cal P w K mg base 132 "contracted" spContracted []) (c_need_small : Cal P w K mg base 67 "need_small" spNeedSmall []) {t1 : Tok} (m_NODES : mg "NODES" = some (.int 600 t1)) : Cal P w K mg base 133 "stepped" spStepped [] := by
  refine D.cal sc_stepped (fun vs H Q E h => ?_) (fun f cdv A outer s H vs Q E hr h => ?_)
  · obtain ⟨v, t, n, rfl, _⟩ := h
    rfl
  obtain ⟨v, t, n, rfl, ht, hn, hh, hz, hs, q⟩ := h
  refine ⟨_, (pss_cons (ps_set (i := 2) sc_stepped.nd rfl (.inl rfl) (pe_ix ix_list (C8.pe_c c_parts hr (by omega) (by rfl) (pa_cons (pv 0) pa_nil)) (pv 1) (fun _ _ => rfl)))
  (pss_cons (ps_if (pt_cmpR op_gt (pe_op op_add (pe_op op_sub (C8.pe_c c_size hr (by omega) (by rfl) (pa_cons (pv 0) pa_nil)) (C8.pe_c c_size hr (by omega) (by rfl) (pa_cons (pv 2) pa_nil))) (C8.pe_c c_size_behind hr (by omega) (by rfl) (pa_cons (pv 2) pa_nil))) (pe_glob (v := .int 600) (by rfl) m_NODES ⟨_, rfl⟩) (nomark _))
  (pss_one ps_never)
  pss_nil)
  (pss_cons (ps_set (i := 3) sc_stepped.nd rfl (.inl rfl) (C8.pe_c c_put_at hr (by omega) (by rfl) (pa_cons (pv 0) (pa_cons (pv 1) (pa_cons (C8.pe_c c_contracted hr (by omega) (by rfl) (pa_cons (pv 2) pa_nil)) pa_nil)))))
  (pss_cons (ps_expr (C8.pe_c c_need_small hr (by omega) (by rfl) (pa_cons (pv 3) pa_nil)))
  (pss_one (ps_ret (pv 3))))))), ?_⟩
  obtain ⟨b, a, ep⟩ := Tm.redAt_part hn
  obtain ⟨hpp, hpz⟩ := Tm.height_part t n _ ep
  simp only [Tm.height, Tm.size] at hpp hpz
  refine ⟨_, rfl, v, t, rfl, ht, hh, hz, fun H1 p ws s1 e1 hw => ?_⟩
  obtain ⟨vr, er, hr1⟩ := hw.get' ep
  refine ⟨_, rfl, p, ws, _, vr, rfl, rfl, .inl (.inl e1), atI_nat er, ?_⟩
  refine ⟨_, rfl, v, t, rfl, ht.mono (Same.tups s1), hh, fun H2 s2 => ?_⟩
  refine ⟨_, rfl, vr, _, rfl, hr1.mono (Same.tups s2), by simp only [Tm.height]; omega, fun H3 s3 => ?_⟩
  refine ⟨_, _, rfl, rfl, _, rfl, vr, b, a, rfl, hr1.mono (Same.tups (s2.trans s3)), by omega, by omega, by omega, fun H4 s4 => ?_⟩
  have ez := Tm.size_step ep
  refine ⟨_, _, rfl, rfl, _, _, rfl, rfl, _, rfl, ifF (decide_eq_false ?_) ?_⟩
  · have := hs.1
    have := (Tm.height_part t n _ ep).2
    omega
  refine ⟨_, rfl, _, rfl, _, rfl, vr, b, a, rfl, hr1.mono (Same.tups (s2.trans (s3.trans s4))), by omega, by omega, by omega, fun H5 v5 s5 h5 => ?_⟩
  refine ⟨v, t, v5, b.put a 0, n, rfl, ht.mono (Same.tups (s1.trans (s2.trans (s3.trans (s4.trans s5))))), h5, hh, hh, Tm.redAt_lt hn, fun H6 v6 s6 h6 => ?_⟩
  have e6 : t.putAt n (b.put a 0) = t.step n := (Tm.step_putAt t n _ ep).symm
  rw [e6] at h6
  refine ⟨_, rfl, v6, _, rfl, h6, hs, fun H7 s7 => ?_⟩
  exact ⟨_, rfl, q _ _ (s1.trans (s2.trans (s3.trans (s4.trans (s5.trans (s6.trans s7)))))) (h6.mono (Same.tups s7))⟩
/-! ### body_origins, step_origins -/
/-- a list of numbers is handed back -/
def GivesL (H : Hp) (Q : VK) (l : List Nat) : Prop := ∀ H' p, Same H H' → H' p = some (.lst (wv l)) → Q (.ref p) H'
def GivesT (H : Hp) (Q : VK) (l : List Nat) : Prop := ∀ H' p, Same H H' → H' p = some (.tup (wv l)) → Q (.ref p) H'
def spBo (n : Nat) : Sp := fun vs H Q _ => ∃ v t r arg, ∃ d p : Nat, vs = [v, .int (d : Int), .int (p : Int), .ref r] ∧ TmAt H v t ∧ H r = some (.lst (wv arg)) ∧ t.height ≤ n ∧ t.height ≤ 65 ∧ t.size * (arg.length + 1) ≤ 900000 ∧ GivesL H Q (t.bo d p arg)
theorem cal_body_origins (D : DefB K mg "body_origins" s_body_origins ["body", "depth", "node", "argument"]) (c_inner : Cal P w K mg base 1 "inner" spInner []) (c_size : Cal P w K mg base 66 "size" (spSize 65) []) : ∀ n : Nat, Cal P w K mg base (n + 66) "body_origins" (spBo n) []
  | 0 => D.none fun vs H Q E h => by
    obtain ⟨v, t, r, arg, d, p, _, _, _, h, _⟩ := h
    have := t.height_pos
    omega
  | n + 1 => by
    have c_body_origins := cal_body_origins D c_inner c_size n
    refine D.cal sc_body_origins (fun vs H Q E h => ?_) (fun f cdv A outer s H vs Q E hr h => ?_)
    · obtain ⟨v, t, r, arg, d, p, rfl, _⟩ := h
      rfl
    obtain ⟨v, t, r, arg, d, p, rfl, ht, er, hh, h65, hz, q⟩ := h
    refine ⟨_, (pss_cons (ps_if (PW.pt (pw_and (pt_cmpR op_eq (pe_ix ix_tup (pv 0) pe_int (fun _ _ => rfl)) pe_str (nomark _)) (pw_and1 (pt_cmpR op_eq (pe_ix ix_tup (pv 0) pe_int (fun _ _ => rfl)) (pv 1) (nomark _)))))
  (pss_one (ps_ret (pv 3)))
  pss_nil)
  (pss_cons (ps_set (i := 4) sc_body_origins.nd rfl (.inl rfl) (pe_lst (pa_cons (pv 2) pa_nil)))
  (pss_cons (ps_for PassesOwn.never rfl (pi_tup (C8.pe_c c_inner hr (by omega) (by rfl) (pa_cons (pv 0) pa_nil))) (pg_name (i := 5) sc_body_origins.nd rfl (.inl rfl))
  (pss_cons (ps_set (i := 6) sc_body_origins.nd rfl (.inl rfl) (C8.pe_c c_body_origins hr (by omega) (by rfl) (pa_cons (pv 5) (pa_cons (pe_ifExp (pt_cmpR op_eq (pe_ix ix_tup (pv 0) pe_int (fun _ _ => rfl)) pe_str (nomark _)) (pe_op op_add (pv 1) pe_int) (pv 1)) (pa_cons (pe_op op_add (pv 2) pe_int) (pa_cons (pv 3) pa_nil))))))
  (pss_one (ps_par (i := 4) (j := 2) (by rfl) sc_body_origins.nd rfl rfl (by decide) rfl rfl (pa_cons (pe_op op_cat (pv 4) (pv 6)) (pa_cons (pe_op op_add (pv 2) (C8.pe_c c_size hr (by omega) (by rfl) (pa_cons (pv 5) pa_nil))) pa_nil)) (by rfl)))))
  (pss_one (ps_ret (pv 4)))))), ?_⟩
    obtain ⟨a, xs, rfl, e⟩ := ht.tup
    have hS : SqT K H a (.str (tagOf t) :: xs) := .inl (.inl e)
    refine ⟨_, rfl, a, _, 0, _, rfl, rfl, hS, atI_nat (j := 0) rfl, rfl, _, rfl, ?_⟩
    by_cases hne : t = .nm d
    · subst hne
      obtain ⟨a', ea, e'⟩ := ht
      cases ea
      have hS2 : SqT K H a [.str "name", .int (d : Int)] := .inl (.inl e')
      refine ifT (show decide (V.str "name" = V.str "name") = true by decide +kernel) ?_
      refine ⟨_, rfl, a, _, 1, _, rfl, rfl, hS2, atI_nat (j := 1) rfl, _, rfl, rfl, _, rfl, ifT (decide_eq_true rfl) ?_⟩
      have e1 : (Tm.nm d).bo d p arg = arg := by
        show (if d = d then arg else [p]) = arg
        rw [if_pos rfl]
      rw [e1] at q
      exact ⟨_, rfl, q _ _ (Same.refl _) er⟩
    · refine ite_both (fun rest => iteF rest) (fun c rest => ?_) ?_
      · cases t with
        | lt _ => exact absurd c (show ¬ decide (V.str "letter" = V.str "name") = true by decide +kernel)
        | fn _ => exact absurd c (show ¬ decide (V.str "fun" = V.str "name") = true by decide +kernel)
        | ap _ _ => exact absurd c (show ¬ decide (V.str "call" = V.str "name") = true by decide +kernel)
        | nm k =>
          obtain ⟨a', ea, e'⟩ := ht
          cases ea
          have hS2 : SqT K H a [.str "name", .int (k : Int)] := .inl (.inl e')
          have hk : ¬ k = d := fun e => hne (by rw [e])
          exact ⟨_, rfl, a, _, 1, _, rfl, rfl, hS2, atI_nat (j := 1) rfl, _, rfl, rfl, _, rfl, ifF (decide_eq_false fun e => hk (by have := V.int.inj e; omega)) rest⟩
      have eq := Tm.bo_eq (arg := arg) (p := p) hne
      have hnh := t.height_pos
      refine ⟨_, rfl, ln1, fun p0 np0 => ?_⟩
      have s0 : Same H (upd H p0 (.lst [.int (p : Int)])) := same_upd np0
      refine ⟨_, rfl, _, t, rfl, ht.mono (Same.tups s0), fun H1 pi ws s1 ei hw => ?_⟩
      refine ⟨pi, rfl, ⟨_, .inl (.inl ei)⟩, ?_⟩
      have hl := hw.length
      refine for_it walk_tup (fun i σ H2 => ∃ rf y5 y6, σ = [some (.ref a), some (.int (d : Int)), some (.int ((p + Tm.sizes (t.inner.take i) : Nat) : Int)), some (.ref r), some (.ref rf), y5, y6] ∧ Same H1 H2 ∧ H2 rf = some (.lst (wv (p :: Tm.boIn (t.inner.take i) (if t.isFn then d + 1 else d) p arg))))
        ⟨p0, none, none, rfl, Same.refl _, s1 _ _ upd_same⟩ (fun i σ H2 _ h => by obtain ⟨_, _, _, _, s2, _⟩ := h; exact .inl (.inl (s2 _ _ ei))) (fun i x σ H2 H3 hi h y => ?_) (fun σ H2 h => ?_)
      · obtain ⟨rf, y5, y6, rfl, s2, ef⟩ := h
        obtain ⟨rfl, ex⟩ := y
        obtain ⟨u, iu, hx⟩ := hw.get ex
        have hm := List.mem_of_getElem? iu
        have hih := inner_height hm
        have his := inner_size hm
        have hsz := Tm.sizes_take t (i + 1)
        have sH2 : Same H H3 := s0.trans (s1.trans s2)
        have et : t.inner.take (i + 1) = t.inner.take i ++ [u] := by rw [List.take_add_one, iu]; rfl
        -- here = body_origins(..)
        have hS3 : SqT K H3 a (.str (tagOf t) :: xs) := .inl (.inl (sH2 _ _ e))
        refine ⟨_, rfl, _, rfl, a, _, 0, _, rfl, rfl, hS3, atI_nat (j := 0) rfl, rfl, _, rfl, dep_val rfl ?_⟩
        refine ⟨_, rfl, _, _, rfl, rfl, _, rfl, ?_⟩
        have hmul : u.size * (arg.length + 1) ≤ 900000 := Nat.le_trans (Nat.mul_le_mul_right _ (by omega)) hz
        refine ⟨x, u, r, arg, (if t.isFn then d + 1 else d), p + Tm.sizes (t.inner.take i) + 1, rfl, hx.mono (Same.tups s2), sH2 _ _ er, by omega, by omega, hmul, fun H4 p4 s4 e4 => ?_⟩
        have hlen := Tm.boIn_le (t.inner.take (i + 1)) (if t.isFn then d + 1 else d) p arg
        have hmul2 : Tm.sizes (t.inner.take (i + 1)) * (arg.length + 1) ≤ 900000 := Nat.le_trans (Nat.mul_le_mul_right _ (by omega)) hz
        rw [et, Tm.boIn_snoc] at hlen
        rw [et] at hmul2
        refine ⟨_, rfl, _, rfl, rf, p4, _, _, rfl, rfl, s4 _ _ ef, e4, ?_, fun p5 np5 => ?_⟩
        · rw [wv_length, wv_length, List.length_cons]
          rw [List.length_append] at hlen
          exact le_line (by omega)
        have s5 : Same H4 (upd H4 p5 (.lst (wv (p :: Tm.boIn (t.inner.take i) (if t.isFn then d + 1 else d) p arg) ++ wv (u.bo (if t.isFn then d + 1 else d) (p + Tm.sizes (t.inner.take i) + 1) arg)))) := same_upd np5
        refine ⟨_, rfl, _, rfl, x, u, rfl, hx.mono (Same.tups (s2.trans (s4.trans s5))), by omega, fun H6 s6 => ?_⟩
        refine ⟨_, _, rfl, rfl, _, _, rfl, p5, some x, some (.ref p4), ?_, s2.trans (s4.trans (s5.trans s6)), ?_⟩
        · have e9 : ((p + Tm.sizes (t.inner.take i) : Nat) : Int) + (u.size : Int) = ((p + (Tm.sizes (t.inner.take i) + u.size) : Nat) : Int) := by omega
          rw [et, Tm.sizes_snoc, ← e9]
          rfl
        · rw [s6 _ _ upd_same, et, Tm.boIn_snoc, ← wv_append]
          rfl
      · obtain ⟨rf, y5, y6, rfl, s2, ef⟩ := h
        rw [hl, List.take_length] at ef
        rw [eq] at q
        exact ⟨_, rfl, q _ rf (s0.trans (s1.trans s2)) ef⟩

def spOrigins : Sp := fun vs H Q _ => ∃ v t, ∃ n : Nat, vs = [v, .int (n : Int)] ∧ TmAt H v t ∧ t.redAt n = true ∧ t.height ≤ 65 ∧ t.size ≤ 900 ∧ GivesL H Q (t.origins n)
theorem cal_step_origins (D : DefB K mg "step_origins" s_step_origins ["term", "node"]) (c_parts : Cal P w K mg base 66 "parts" (spParts 65) []) (c_size : Cal P w K mg base 66 "size" (spSize 65) []) (c_body_origins : Cal P w K mg base 131 "body_origins" (spBo 65) []) (m_list : mg "list" = none) (m_range : mg "range" = none) :
    Cal P w K mg base 132 "step_origins" spOrigins [] := by
  refine D.cal sc_step_origins (fun vs H Q E h => ?_) (fun f cdv A outer s H vs Q E hr h => ?_)
  · obtain ⟨v, t, n, rfl, _⟩ := h
    rfl
  obtain ⟨v, t, n, rfl, ht, hn, hh, hz, q⟩ := h
  refine ⟨_, (pss_cons (ps_set (i := 2) sc_step_origins.nd rfl (.inl rfl) (pe_ix ix_list (C8.pe_c c_parts hr (by omega) (by rfl) (pa_cons (pv 0) pa_nil)) (pv 1) (fun _ _ => rfl)))
  (pss_cons (ps_par (i := 3) (j := 4) (by rfl) sc_step_origins.nd rfl rfl (by decide) rfl rfl (pa_cons (pe_op op_add (pv 1) (C8.pe_c c_size hr (by omega) (by rfl) (pa_cons (pv 2) pa_nil))) (pa_cons (pe_op op_add (pe_op op_add (pv 1) pe_int) (C8.pe_c c_size hr (by omega) (by rfl) (pa_cons (pe_ix ix_tup (pv 2) pe_int (fun _ _ => rfl)) pa_nil))) pa_nil)) (by rfl))
  (pss_cons (ps_set (i := 5) sc_step_origins.nd rfl (.inl rfl) (C8.pe_c c_body_origins hr (by omega) (by rfl) (pa_cons (pe_ix ix_tup (pe_ix ix_tup (pv 2) pe_int (fun _ _ => rfl)) pe_int (fun _ _ => rfl)) (pa_cons pe_int (pa_cons (pe_op op_add (pv 1) pe_int) (pa_cons (pe_listRg rfl (by rfl) m_list (prg_2 (by rfl) m_range (pv 4) (pv 3))) pa_nil))))))
  (pss_one (ps_ret (pe_op op_cat (pe_op op_cat (pe_listRg rfl (by rfl) m_list (prg_1 (by rfl) m_range (pv 1))) (pv 5)) (pe_listRg rfl (by rfl) m_list (prg_2 (by rfl) m_range (pv 3) (C8.pe_c c_size hr (by omega) (by rfl) (pa_cons (pv 0) pa_nil)))))))))), ?_⟩
  obtain ⟨b, a, ep⟩ := Tm.redAt_part hn
  obtain ⟨hpp, hpz⟩ := Tm.height_part t n _ ep
  simp only [Tm.height, Tm.size] at hpp hpz
  have hlt := Tm.redAt_lt hn
  have eo : t.origins n = List.range n ++ b.bo 0 (n + 2) (List.range' (n + 2 + b.size) a.size) ++ List.range' (n + 2 + b.size + a.size) (t.size - (n + 2 + b.size + a.size)) := by
    unfold Tm.origins
    rw [ep]
  have hend : n + (1 + (1 + b.size + a.size)) ≤ t.size := Tm.part_end t n _ ep
  refine ⟨_, rfl, v, t, rfl, ht, hh, by omega, fun H1 p ws s1 e1 hw => ?_⟩
  obtain ⟨vr, er, hr1⟩ := hw.get' ep
  obtain ⟨pr, vf, va, evr, epr, hfb, hva⟩ := id hr1
  obtain ⟨pf, vb, evf, epf, hvb⟩ := id hfb
  subst evr
  subst evf
  refine ⟨_, rfl, p, ws, _, _, rfl, rfl, .inl (.inl e1), atI_nat er, ?_⟩
  -- end, begin
  refine ⟨_, rfl, _, rfl, _, _, rfl, hr1, by simp only [Tm.height]; omega, fun H2 s2 => ?_⟩
  have hS2 : SqT K H2 pr [.str "call", .ref pf, va] := .inl (.inl (s2 _ _ epr))
  refine ⟨_, _, rfl, rfl, _, rfl, _, _, rfl, rfl, _, rfl, pr, _, 1, _, rfl, rfl, hS2, atI_nat (j := 1) rfl, .ref pf, .fn b, rfl, hfb.mono (Same.tups s2), by simp only [Tm.height]; omega, fun H3 s3 => ?_⟩
  refine ⟨_, _, rfl, rfl, _, _, rfl, ?_⟩
  -- body
  have s23 : Same H1 H3 := s2.trans s3
  have hS3 : SqT K H3 pr [.str "call", .ref pf, va] := .inl (.inl (s23 _ _ epr))
  have hF3 : SqT K H3 pf [.str "fun", vb] := .inl (.inl (s23 _ _ epf))
  refine ⟨_, rfl, pr, _, 1, _, rfl, rfl, hS3, atI_nat (j := 1) rfl, pf, _, 1, _, rfl, rfl, hF3, atI_nat (j := 1) rfl, ?_⟩
  refine ⟨_, rfl, _, _, rfl, rfl, _, rfl, _, rfl, _, _, rfl, rfl, .of_le (by omega) (by simp only [Tm.size]; omega) (by simp only [Tm.size]; omega) (by omega), fun p4 np4 => ?_⟩
  have e4 : rgV ((n : Int) + 1 + ((Tm.fn b).size : Int)) ((n : Int) + ((Tm.ap (.fn b) a).size : Int)) = wv (List.range' (n + 2 + b.size) a.size) := by
    have h := rgV_nat (n + 2 + b.size) a.size
    rw [← h]
    congr 1 <;> simp only [Tm.size] <;> omega
  have s4 : Same H3 (upd H3 p4 (.lst (rgV ((n : Int) + 1 + ((Tm.fn b).size : Int)) ((n : Int) + ((Tm.ap (.fn b) a).size : Int))))) := same_upd np4
  refine ⟨vb, b, p4, List.range' (n + 2 + b.size) a.size, 0, n + 2, rfl, hvb.mono (Same.tups (s23.trans s4)), ?_, by omega, by omega, ?_, fun H5 p5 s5 e5 => ?_⟩
  · rw [upd_same]
    exact congrArg (fun z => some (HO.lst z)) e4
  · rw [List.length_range']
    have h1 : b.size * (a.size + 1) ≤ 900 * 900 := Nat.mul_le_mul (by omega) (by omega)
    omega
  -- the three lists
  refine ⟨_, rfl, _, rfl, .of_le (by omega) (by omega) (by omega) (by omega), fun p6 np6 => ?_⟩
  have s6 : Same H5 (upd H5 p6 (.lst (rgV 0 (n : Int)))) := same_upd np6
  have hbl := Tm.bo_le b 0 (n + 2) (List.range' (n + 2 + b.size) a.size)
  rw [List.length_range'] at hbl
  have hbm : b.size * (a.size + 1) ≤ 900 * 900 := Nat.mul_le_mul (by omega) (by omega)
  refine ⟨_, rfl, p6, p5, _, _, rfl, rfl, upd_same, s6 _ _ e5, ?_, fun p7 np7 => ?_⟩
  · rw [rgV_zero, wv_length, wv_length, List.length_range]
    exact le_line (by omega)
  generalize hH7 : upd (upd H5 p6 (.lst (rgV 0 (n : Int)))) p7 (.lst (rgV 0 (n : Int) ++ wv (b.bo 0 (n + 2) (List.range' (n + 2 + b.size) a.size)))) = H7
  have s7 : Same (upd H5 p6 (.lst (rgV 0 (n : Int)))) H7 := by rw [← hH7]; exact same_upd np7
  have e7 : H7 p7 = some (.lst (wv (List.range n ++ b.bo 0 (n + 2) (List.range' (n + 2 + b.size) a.size)))) := by rw [← hH7, upd_same, rgV_zero, wv_append]
  have sA : Same H H7 := s1.trans (s23.trans (s4.trans (s5.trans (s6.trans s7))))
  refine ⟨_, rfl, _, rfl, v, t, rfl, ht.mono (Same.tups sA), hh, fun H8 s8 => ?_⟩
  refine ⟨_, _, rfl, rfl, .of_le (by omega) (by omega) (by simp only [Tm.size]; omega) (by omega), fun p9 np9 => ?_⟩
  have e9 : rgV ((n : Int) + ((Tm.ap (.fn b) a).size : Int)) (t.size : Int) = wv (List.range' (n + 2 + b.size + a.size) (t.size - (n + 2 + b.size + a.size))) := by
    have h := rgV_nat (n + 2 + b.size + a.size) (t.size - (n + 2 + b.size + a.size))
    rw [← h]
    congr 1 <;> first | omega | (simp only [Tm.size]; omega)
  have s9 : Same H8 (upd H8 p9 (.lst (rgV ((n : Int) + ((Tm.ap (.fn b) a).size : Int)) (t.size : Int)))) := same_upd np9
  refine ⟨p7, p9, _, _, rfl, rfl, s9 _ _ (s8 _ _ e7), upd_same, ?_, fun p10 np10 => ?_⟩
  · rw [e9, wv_length, wv_length, List.length_append, List.length_range, List.length_range']
    exact le_line (by omega)
  · refine q _ p10 (sA.trans (s8.trans (s9.trans (same_upd np10)))) ?_
    rw [upd_same, e9, eo]
    simp only [wv_append]
end
end Sf
/-! SfW6: what is left of a lot; ways; developments. -/
namespace Sf
open PySem PySem.Spec PyProof.Rows L2
open C8 (Cal pe_c)
open Tm (Small)
section
variable {P : Program} {w : World} {K : PySem.W.Frag} {mg : Str → Option Value} {base : Heap}
/-! ### left_in -/
theorem filter_take {p : Nat → Bool} {l : List Nat} {i n : Nat} (h : l[i]? = some n) : (l.take (i + 1)).filter p = if p n then (l.take i).filter p ++ [n] else (l.take i).filter p := by
  rw [List.take_add_one, h, List.filter_append]
  show _ ++ [n].filter p = _
  cases q : p n <;> simp [q]
def spLeftIn : Sp := fun vs H Q _ => ∃ v t, ∃ n : Nat, ∃ r lot, vs = [v, .int (n : Int), .ref r] ∧ TmAt H v t ∧ H r = some (.tup (wv lot)) ∧ t.redAt n = true ∧ t.height ≤ 65 ∧ t.size ≤ 900 ∧ lot.length ≤ 900000 ∧ GivesT H Q (t.leftIn n lot)
theorem cal_left_in (D : DefB K mg "left_in" s_left_in ["term", "node", "lot"]) (c_step_origins : Cal P w K mg base 132 "step_origins" spOrigins []) (m_enumerate : mg "enumerate" = none) (m_tuple : mg "tuple" = none) : Cal P w K mg base 133 "left_in" spLeftIn [] := by
  refine D.cal sc_left_in (fun vs H Q E h => ?_) (fun f cdv A outer s H vs Q E hr h => ?_)
  · obtain ⟨v, t, n, r, lot, rfl, _⟩ := h
    rfl
  obtain ⟨v, t, n, r, lot, rfl, ht, er, hn, hh, hz, hl, q⟩ := h
  refine ⟨_, (pss_cons (ps_set (i := 3) sc_left_in.nd rfl (.inr rfl) (pe_lc (own := [("own", 4)]) (g := gName 4) rfl sc_left_in.nd (pi_tup (pv 2)) (blkOk_by (own := [("own", 4)]) (N := ["term", "node", "lot", "others", "own", "at", "origin"]) (sc := defScope s_left_in) (by decide +kernel)) (fun _ _ _ _ _ => (pg_name (i := 4) sc_left_in.nd rfl (.inl rfl))) (fun _ _ _ _ _ => (pts_one (pt_cmpR op_ne (pv 4) (pv 1) (nomark _)))) (fun _ _ _ _ _ => (pv 4))))
  (pss_cons (ps_if (pt_cmpR (op_eqD hr.units) (pv 3) (pe_lst pa_nil) (nomark _))
  (pss_one (ps_ret (pe_tup pa_nil)))
  pss_nil)
  (pss_one (ps_ret (pe_callTy call_tuple_of (by rfl) m_tuple (by decide +kernel) (pa_cons (pe_lc (own := [("at", 5), ("origin", 6)]) (g := gTup K 2 (gCons (gName 5) (gCons (gName 6) gNil))) rfl sc_left_in.nd (pi_enum (by rfl) m_enumerate (pa_cons (C8.pe_c c_step_origins hr (by omega) (by rfl) (pa_cons (pv 0) (pa_cons (pv 1) pa_nil))) pa_nil)) (blkOk_by (own := [("at", 5), ("origin", 6)]) (N := ["term", "node", "lot", "others", "own", "at", "origin"]) (sc := defScope s_left_in) (by decide +kernel)) (fun _ _ _ _ _ => (pg_tup rfl (pgs_cons (pg_name (i := 5) sc_left_in.nd rfl (.inl rfl)) (pgs_cons (pg_name (i := 6) sc_left_in.nd rfl (.inl rfl)) pgs_nil)))) (fun _ _ _ _ _ => (pts_one (pt_cmpR (op_inK (K := K) rfl) (pv 6) (pv 3) (by rfl)))) (fun _ _ _ _ _ => (pv 5))) pa_nil)))))), ?_⟩
  -- others
  refine ⟨_, rfl, r, rfl, ⟨_, .inl (.inl er)⟩, fun D nD => ?_⟩
  refine lc_it walk_tup (fun i H2 => Same H H2 ∧ H2 D = some (.lst (wv ((lot.take i).filter (fun o => !decide (o = n)))))) ⟨same_upd nD, upd_same⟩ (fun i H2 _ h => .inl (.inl (h.1 _ _ er))) (fun i x H2 H3 hi h y => ?_) (fun H2 h => ?_)
  · obtain ⟨s2, eD⟩ := h
    obtain ⟨rfl, ex⟩ := y
    obtain ⟨m, em, rfl⟩ := wv_get' ex
    have et := filter_take (p := fun o => !decide (o = n)) em
    have hfl := List.length_filter_le (fun o => !decide (o = n)) (lot.take i)
    have htl : (lot.take i).length ≤ lot.length := by rw [List.length_take]; omega
    have eb : (!decide (V.int (m : Int) = V.int (n : Int))) = !decide (m = n) := by
      by_cases h : m = n
      · subst h; simp
      · have h2 : ¬ V.int (m : Int) = V.int (n : Int) := fun e => h (by have := V.int.inj e; omega)
        simp [h, h2]
    refine ⟨rfl, _, rfl, _, rfl, rfl, _, rfl, ?_⟩
    rw [eb]
    refine ite2 (fun c => ?_) (fun c => ?_)
    · rw [if_pos c] at et
      refine ⟨_, rfl, _, eD, ?_, ?_, ?_⟩
      · rw [wv_length]
        exact lt_line (by omega)
      · exact (fun b o e => by
          have nb : b ≠ D := ne_of_none e nD
          rw [upd_ne nb]
          exact s2 _ _ e)
      · rw [upd_same, et, wv_append]
        rfl
    · rw [if_neg c] at et
      refine ⟨s2, ?_⟩
      rw [et]
      exact eD
  · obtain ⟨s2, eD⟩ := h
    rw [wv_length, List.take_length] at eD
    -- others == []
    refine ⟨_, rfl, Nat.zero_le _, fun p1 np1 => ?_⟩
    have s3 : Same H2 (upd H2 p1 (.lst [])) := same_upd np1
    have sA : Same H (upd H2 p1 (.lst [])) := s2.trans s3
    refine eqL (m := []) (.inl (.inl (s3 _ _ eD))) (.inl (.inl upd_same)) ⟨_, rfl, ite2 (fun c => ?_) (fun c => ?_)⟩
    · have c' := of_decide_eq_true c
      have e0 : t.leftIn n lot = [] := by
        unfold Tm.leftIn
        rw [if_pos c']
      rw [e0] at q
      exact ⟨Nat.zero_le _, fun p np => q _ p (sA.trans (same_upd np)) upd_same⟩
    · have c' := of_decide_eq_false (Bool.eq_false_iff.mpr c)
      have e0 : t.leftIn n lot = idxFrom (fun o => (lot.filter fun o => !decide (o = n)).contains o) 0 (t.origins n) := by
        unfold Tm.leftIn
        rw [if_neg c']
      rw [e0] at q
      have hol := Tm.origins_le (t := t) (n := n) hz
      refine ⟨_, rfl, _, rfl, v, t, n, rfl, ht.mono (Same.tups sA), hn, hh, hz, fun H4 p4 s4 e4 => ?_⟩
      refine ⟨p4, _, rfl, .inl (.inl e4), fun D2 nD2 => ?_⟩
      have eD4 : H4 D = some (.lst (wv (lot.filter (fun o => !decide (o = n))))) := s4 _ _ (s3 _ _ eD)
      refine lc_it walk_enum (fun i H5 => Same H4 H5 ∧ H5 D2 = some (.lst (wv (idxFrom (fun o => (lot.filter fun o => !decide (o = n)).contains o) 0 ((t.origins n).take i))))) ⟨same_upd nD2, upd_same⟩ (fun i H5 _ h => .inl (.inl (h.1 _ _ e4))) (fun i x H5 H6 hi h y => ?_) (fun H5 h => ?_)
      · obtain ⟨s5, eD2⟩ := h
        obtain ⟨T, y1, y2, rfl, nT, rfl, e1, e2⟩ := y
        cases Option.some.inj e1
        obtain ⟨o, eo, rfl⟩ := wv_get' e2
        have sT : Same H5 (upd H5 T (.tup [.int (i : Nat), .int (o : Int)])) := same_upd nT
        have et := idxFrom_take (fun o => (lot.filter fun o => !decide (o = n)).contains o) _ i o eo
        have ll := Tm.idxFrom_le (fun o => (lot.filter fun o => !decide (o = n)).contains o) 0 ((t.origins n).take i)
        have lt : ((t.origins n).take i).length ≤ (t.origins n).length := by rw [List.length_take]; omega
        have eD2' := sT _ _ eD2
        refine ⟨T, _, rfl, .inl (.inl upd_same), rfl, _, _, rfl, _, _, rfl, rfl, ?_⟩
        refine ⟨rfl, _, rfl, _, rfl, inT (.inl (.inl (.inl (sT _ _ (s5 _ _ eD4))))) ⟨_, rfl, ?_⟩⟩
        refine ite2 (fun c => ?_) (fun c => ?_)
        · rw [if_pos c] at et
          refine ⟨_, rfl, _, eD2', ?_, ?_, ?_⟩
          · rw [wv_length]
            exact lt_line (by omega)
          · exact (fun b o e => by
              have nb : b ≠ D2 := ne_of_none e nD2
              rw [upd_ne nb]
              exact sT _ _ (s5 _ _ e))
          · rw [upd_same, et, wv_append]
            rfl
        · rw [if_neg c] at et
          refine ⟨s5.trans sT, ?_⟩
          rw [et]
          exact eD2'
      · obtain ⟨s5, eD2⟩ := h
        rw [wv_length, List.take_length] at eD2
        refine ⟨D2, _, rfl, .inl ⟨.inl (.inl eD2), fun p np => ?_⟩⟩
        exact q _ p (sA.trans (s4.trans (s5.trans (same_upd np)))) upd_same
/-! ### left_through -/
def spLeftThrough : Sp := fun vs H Q _ => ∃ v t rw_ ws rl lot, vs = [v, .ref rw_, .ref rl] ∧ TmAt H v t ∧ H rw_ = some (.tup (wv ws)) ∧ H rl = some (.tup (wv lot)) ∧ Small t ∧ t.WaySm ws ∧ lot.length ≤ 820000 ∧
  ∀ H' p l v', Same H H' → H' p = some (.tup [.ref l, v']) → H' l = some (.tup (wv (t.leftThrough ws lot))) → TmAt H' v' (t.steps ws) → Q (.ref p) H'
theorem cal_left_through (D : DefB K mg "left_through" s_left_through ["term", "way", "lot"]) (c_left_in : Cal P w K mg base 133 "left_in" spLeftIn []) (c_stepped : Cal P w K mg base 133 "stepped" spStepped []) : Cal P w K mg base 134 "left_through" spLeftThrough [] := by
  refine D.cal sc_left_through (fun vs H Q E h => ?_) (fun f cdv A outer s H vs Q E hr h => ?_)
  · obtain ⟨v, t, rw_, ws, rl, lot, rfl, _⟩ := h
    rfl
  obtain ⟨v, t, rw_, ws, rl, lot, rfl, ht, ew, el, hs, hw, hl, q⟩ := h
  refine ⟨_, (pss_cons (ps_for PassesOwn.never rfl (pi_tup (pv 1)) (pg_name (i := 3) sc_left_through.nd rfl (.inl rfl))
  (pss_one (ps_par (i := 2) (j := 0) (by rfl) sc_left_through.nd rfl rfl (by decide) rfl rfl (pa_cons (C8.pe_c c_left_in hr (by omega) (by rfl) (pa_cons (pv 0) (pa_cons (pv 3) (pa_cons (pv 2) pa_nil)))) (pa_cons (C8.pe_c c_stepped hr (by omega) (by rfl) (pa_cons (pv 0) (pa_cons (pv 3) pa_nil))) pa_nil)) (by rfl))))
  (pss_one (ps_ret (pe_tup (pa_cons (pv 2) (pa_cons (pv 0) pa_nil)))))), ?_⟩
  refine ⟨_, rfl, rw_, rfl, ⟨_, .inl (.inl ew)⟩, ?_⟩
  refine for_it walk_tup (fun i σ H2 => ∃ v2 r2 y, σ = [some v2, some (.ref rw_), some (.ref r2), y] ∧ Same H H2 ∧ TmAt H2 v2 (t.steps (ws.take i)) ∧ H2 r2 = some (.tup (wv (t.leftThrough (ws.take i) lot))))
    ⟨v, rl, none, rfl, Same.refl _, ht, el⟩ (fun i σ H2 _ h => by obtain ⟨_, _, _, _, s2, _⟩ := h; exact .inl (.inl (s2 _ _ ew))) (fun i x σ H2 H3 hi h y => ?_) (fun σ H2 h => ?_)
  · obtain ⟨v2, r2, y2, rfl, s2, h2, e2⟩ := h
    obtain ⟨rfl, ex⟩ := y
    obtain ⟨n, en, rfl⟩ := wv_get' ex
    have et : ws.take (i + 1) = ws.take i ++ [n] := by rw [List.take_add_one, en]; rfl
    have ed : ws = ws.take i ++ (n :: ws.drop (i + 1)) := by
      obtain ⟨hi, e⟩ := List.getElem?_eq_some_iff.mp en
      rw [← e, ← List.drop_eq_getElem_cons, List.take_append_drop]
    have hw' := hw
    rw [ed] at hw'
    have hsi : Small (t.steps (ws.take i)) := Tm.WaySm.small hs hw'.left
    obtain ⟨g1, g2, g3⟩ := hw'.right
    have hli := Tm.leftThrough_le (lot := lot) hs hw'.left hl
    refine ⟨_, rfl, _, rfl, _, rfl, v2, _, n, r2, _, rfl, h2, e2, g1, Nat.le_trans hsi.2 (by decide), Nat.le_trans hsi.1 (by decide), by omega, fun H4 p4 s4 e4 => ?_⟩
    refine ⟨_, rfl, _, rfl, v2, _, n, rfl, h2.mono (Same.tups s4), g1, Nat.le_trans hsi.2 (by decide), Nat.le_trans hsi.1 (by decide), g2, fun H5 v5 s5 h5 => ?_⟩
    refine ⟨_, _, rfl, v5, p4, some (.int (n : Int)), rfl, s2.trans (s4.trans s5), ?_, ?_⟩
    · rw [et, Tm.steps_append]
      exact h5
    · rw [et, Tm.leftThrough_append]
      exact s5 _ _ e4
  · obtain ⟨v2, r2, y2, rfl, s2, h2, e2⟩ := h
    rw [wv_length, List.take_length] at h2 e2
    exact ⟨_, rfl, _, rfl, ln2, fun p np => q _ p r2 v2 (s2.trans (same_upd np)) upd_same ((same_upd np) _ _ e2) (h2.mono (tups_upd np))⟩
end
end Sf
/-! SfW7: ways, developments. -/
namespace Sf
open PySem PySem.Spec PyProof.Rows L2
open C8 (Cal pe_c)
open Tm (Small)
theorem take_cut {ws : List Nat} {i n : Nat} (en : ws[i]? = some n) : ws.take (i + 1) = ws.take i ++ [n] ∧ ws = ws.take i ++ (n :: ws.drop (i + 1)) := by
  refine ⟨by rw [List.take_add_one, en]; rfl, ?_⟩
  obtain ⟨hi, e⟩ := List.getElem?_eq_some_iff.mp en
  rw [← e, ← List.drop_eq_getElem_cons, List.take_append_drop]
theorem atI_last' {xs : List V} {v : V} (h : xs[xs.length - 1]? = some v) : atI xs (-1) = some v := by
  by_cases hx : xs = []
  · subst hx; simp at h
  · obtain ⟨ys, z, rfl⟩ : ∃ ys z, xs = ys ++ [z] := ⟨xs.dropLast, xs.getLast hx, (List.dropLast_concat_getLast hx).symm⟩
    have e : z = v := by simpa using h
    rw [← e]
    exact atI_last ys z
section
variable {P : Program} {w : World} {K : PySem.W.Frag} {mg : Str → Option Value} {base : Heap}
/-! ### along, need_way -/
/-- a list of terms is handed back -/
def GivesTms (H : Hp) (Q : VK) (ts : List Tm) : Prop := ∀ H' p ws, Same H H' → H' p = some (.lst ws) → TmsAt H' ws ts → Q (.ref p) H'
def spAlong : Sp := fun vs H Q _ => ∃ v t r ws, vs = [v, .ref r] ∧ TmAt H v t ∧ H r = some (.tup (wv ws)) ∧ Small t ∧ t.WaySm ws ∧ ws.length ≤ 900000 ∧ GivesTms H Q (t.trail ws)
theorem cal_along (D : DefB K mg "along" s_along ["term", "way"]) (c_is_whole : Cal P w K mg base 1 "is_whole" spWhole []) (c_size : Cal P w K mg base 66 "size" (spSize 65) []) (c_parts : Cal P w K mg base 66 "parts" (spParts 65) []) (c_is_call_of_fun : Cal P w K mg base 1 "is_call_of_fun" spIsRed [])
    (c_stepped : Cal P w K mg base 133 "stepped" spStepped []) : Cal P w K mg base 134 "along" spAlong [] := by
  refine D.cal sc_along (fun vs H Q E h => ?_) (fun f cdv A outer s H vs Q E hr h => ?_)
  · obtain ⟨v, t, r, ws, rfl, _⟩ := h
    rfl
  obtain ⟨v, t, r, ws, rfl, ht, er, hs, hw, hl, q⟩ := h
  refine ⟨_, (pss_cons (ps_set (i := 2) sc_along.nd rfl (.inl rfl) (pe_lst (pa_cons (pv 0) pa_nil)))
  (pss_cons (ps_for PassesOwn.never rfl (pi_tup (pv 1)) (pg_name (i := 3) sc_along.nd rfl (.inl rfl))
  (pss_cons (ps_set (i := 4) sc_along.nd rfl (.inl rfl) (pe_ix ix_list (pv 2) (pe_un un_neg pe_int) (fun _ _ => rfl)))
  (pss_cons (ps_if (PW.pt (pw_or (pt_not (pt_val (C8.pe_c c_is_whole hr (by omega) (by rfl) (pa_cons (pv 3) (pa_cons pe_int (pa_cons (pe_op op_sub (C8.pe_c c_size hr (by omega) (by rfl) (pa_cons (pv 4) pa_nil)) pe_int) pa_nil)))))) (pw_or1 (pt_not (pt_val (C8.pe_c c_is_call_of_fun hr (by omega) (by rfl) (pa_cons (pe_ix ix_list (C8.pe_c c_parts hr (by omega) (by rfl) (pa_cons (pv 4) pa_nil)) (pv 3) (fun _ _ => rfl)) pa_nil)))))))
  (pss_one (ps_ret pe_non))
  pss_nil)
  (pss_one (ps_set (i := 2) sc_along.nd rfl (.inl rfl) (pe_op op_cat (pv 2) (pe_lst (pa_cons (C8.pe_c c_stepped hr (by omega) (by rfl) (pa_cons (pv 4) (pa_cons (pv 3) pa_nil))) pa_nil))))))))
  (pss_one (ps_ret (pv 2))))), ?_⟩
  refine ⟨_, rfl, ln1, fun p0 np0 => ?_⟩
  have s0 : Same H (upd H p0 (.lst [v])) := same_upd np0
  refine ⟨_, rfl, r, rfl, ⟨_, .inl (.inl (s0 _ _ er))⟩, ?_⟩
  refine for_it walk_tup (fun i σ H2 => ∃ pf us y3 y4, σ = [some v, some (.ref r), some (.ref pf), y3, y4] ∧ Same H H2 ∧ H2 pf = some (.lst us) ∧ TmsAt H2 us (t.trail (ws.take i)))
    ⟨p0, [v], none, none, rfl, s0, upd_same, ⟨ht.mono (Same.tups s0), trivial⟩⟩ (fun i σ H2 _ h => by obtain ⟨_, _, _, _, _, s2, _⟩ := h; exact .inl (.inl (s2 _ _ er))) (fun i x σ H2 H3 hi h y => ?_) (fun σ H2 h => ?_)
  · obtain ⟨pf, us, y3, y4, rfl, s2, ef, hu⟩ := h
    obtain ⟨rfl, ex⟩ := y
    obtain ⟨n, en, rfl⟩ := wv_get' ex
    obtain ⟨et, ed⟩ := take_cut en
    have hw' := hw
    rw [ed] at hw'
    have hsi : Small (t.steps (ws.take i)) := Tm.WaySm.small hs hw'.left
    obtain ⟨g1, g2, g3⟩ := hw'.right
    have ht0 : (t.trail (ws.take i))[(ws.take i).length]? = some (t.steps (ws.take i)) := by
      have := Tm.trail_get t (ws.take i) []
      rwa [List.append_nil] at this
    obtain ⟨vc, ec, hc⟩ := hu.get' ht0
    have hul : us.length = (ws.take i).length + 1 := by rw [hu.length, Tm.trail_length]
    have hlt := Tm.redAt_lt g1
    obtain ⟨b, a, ep⟩ := Tm.redAt_part g1
    have htl : (ws.take i).length ≤ ws.length := by rw [List.length_take]; omega
    -- here = found[-1]
    refine ⟨_, rfl, _, rfl, pf, us, -1, vc, rfl, rfl, .inl (.inl ef), atI_last' (by rw [hul]; exact ec), ?_⟩
    refine ⟨_, rfl, _, rfl, vc, _, rfl, hc, Nat.le_trans hsi.2 (by decide), fun H4 s4 => ?_⟩
    refine ⟨_, _, rfl, rfl, n, 0, _, rfl, _, rfl, ?_⟩
    have e1 : (decide ((0 : Int) ≤ (n : Int)) && decide ((n : Int) ≤ ((t.steps (ws.take i)).size : Int) - 1)) = true := by
      rw [decide_eq_true (by omega), decide_eq_true (by omega)] <;> rfl
    refine ifF (by rw [e1]; rfl) ?_
    refine ⟨_, rfl, vc, _, rfl, hc.mono (Same.tups s4), Nat.le_trans hsi.2 (by decide), Nat.le_trans hsi.1 (by decide), fun H5 p5 ws5 s5 e5 hw5 => ?_⟩
    obtain ⟨vp, evp, hvp⟩ := hw5.get' ep
    refine ⟨_, rfl, p5, ws5, _, vp, rfl, rfl, .inl (.inl e5), atI_nat evp, vp, _, rfl, hvp, _, rfl, ifF rfl ?_⟩
    have s25 : Same H3 H5 := s4.trans s5
    refine ⟨_, rfl, _, rfl, _, rfl, vc, _, n, rfl, hc.mono (Same.tups s25), g1, Nat.le_trans hsi.2 (by decide), Nat.le_trans hsi.1 (by decide), g2, fun H6 v6 s6 h6 => ?_⟩
    refine ⟨ln1, fun p7 np7 => ?_⟩
    have s7 : Same H6 (upd H6 p7 (.lst [v6])) := same_upd np7
    refine ⟨pf, p7, us, [v6], rfl, rfl, s7 _ _ (s6 _ _ (s25 _ _ ef)), upd_same, ?_, fun p8 np8 => ?_⟩
    · rw [hul]
      exact le_line (by simp only [List.length_singleton]; omega)
    have s8 : Same _ (upd (upd H6 p7 (.lst [v6])) p8 (.lst (us ++ [v6]))) := same_upd np8
    have sB : Same H3 _ := s25.trans (s6.trans (s7.trans s8))
    refine ⟨p8, us ++ [v6], some (.int (n : Int)), some vc, rfl, s2.trans sB, upd_same, ?_⟩
    rw [et, Tm.trail_snoc]
    exact (hu.mono (Same.tups sB)).append ⟨h6.mono (Same.tups (s7.trans s8)), trivial⟩
  · obtain ⟨pf, us, y3, y4, rfl, s2, ef, hu⟩ := h
    rw [wv_length, List.take_length] at hu
    exact ⟨_, rfl, q _ pf us s2 ef hu⟩
def spNeedWay : Sp := fun vs H Q _ => ∃ v t r ws, vs = [v, .ref r] ∧ TmAt H v t ∧ H r = some (.tup (wv ws)) ∧ Small t ∧ t.closedN 0 = true ∧ t.WaySm ws ∧ ws.length ≤ 200 ∧ GivesTms H Q (t.trail ws)
theorem cal_need_way (D : DefB K mg "need_way" s_need_way ["term", "way"]) (c_need_term : Cal P w K mg base 69 "need_term" (spFits .non) []) (c_is_tuple_of : Cal P w K mg base 1 "is_tuple_of" spTupOf []) (c_along : Cal P w K mg base 134 "along" spAlong []) {t1 : Tok} (m_STEPS : mg "STEPS" = some (.int 200 t1)) :
    Cal P w K mg base 135 "need_way" spNeedWay [] := by
  refine D.cal sc_need_way (fun vs H Q E h => ?_) (fun f cdv A outer s H vs Q E hr h => ?_)
  · obtain ⟨v, t, r, ws, rfl, _⟩ := h
    rfl
  obtain ⟨v, t, r, ws, rfl, ht, er, hs, hc, hw, hl, q⟩ := h
  refine ⟨_, (pss_cons (ps_expr (C8.pe_c c_need_term hr (by omega) (by rfl) (pa_cons (pv 0) pa_nil)))
  (pss_cons (ps_if (pt_not (pt_val (C8.pe_c c_is_tuple_of hr (by omega) (by rfl) (pa_cons (pv 1) (pa_cons pe_int (pa_cons (pe_glob (v := .int 200) (by rfl) m_STEPS ⟨_, rfl⟩) pa_nil))))))
  (pss_one ps_never)
  pss_nil)
  (pss_cons (ps_set (i := 2) sc_need_way.nd rfl (.inl rfl) (C8.pe_c c_along hr (by omega) (by rfl) (pa_cons (pv 0) (pa_cons (pv 1) pa_nil))))
  (pss_cons (ps_if (pt_cmpR op_isN (pv 2) pe_non (nomark _))
  (pss_one ps_never)
  pss_nil)
  (pss_one (ps_ret (pv 2))))))), ?_⟩
  refine ⟨_, rfl, v, t, rfl, ht, hc, hs, ?_⟩
  have e1 : (decide ((0 : Int) ≤ ((wv ws).length : Int)) && decide (((wv ws).length : Int) ≤ 200)) = true := by
    rw [wv_length, decide_eq_true (by omega), decide_eq_true (by omega)] <;> rfl
  refine ⟨_, rfl, r, _, 0, 200, rfl, er, _, rfl, ifF (by rw [e1]; rfl) ?_⟩
  refine ⟨_, rfl, _, rfl, v, t, r, ws, rfl, ht, er, hs, hw, by omega, fun H1 p us s1 ep hu => ?_⟩
  refine ⟨_, rfl, rfl, _, rfl, ifF rfl ?_⟩
  exact ⟨_, rfl, q _ p us s1 ep hu⟩
/-! ### developments -/
def spDeveloped (R : Hp → VK → Tm → List Nat → Prop) : Sp := fun vs H Q _ => ∃ v t r lot, vs = [v, .ref r] ∧ TmAt H v t ∧ H r = some (.tup (wv lot)) ∧ Small t ∧ t.DevOK lot ∧ lot.length ≤ 900000 ∧ R H Q t lot
abbrev spDevWay : Sp := spDeveloped fun H Q t lot => ∀ H' p l v', Same H H' → H' p = some (.tup [.ref l, v']) → H' l = some (.tup (wv lot.reverse)) → TmAt H' v' (t.steps lot.reverse) → Q (.ref p) H'
abbrev spDevIn : Sp := spDeveloped fun H Q t lot => GivesT H Q lot.reverse
abbrev spDevdIn : Sp := spDeveloped fun H Q t lot => GivesTm H Q (t.steps lot.reverse)
theorem cal_developed_way (D : DefB K mg "developed_way" s_developed_way ["term", "lot"]) (c_left_in : Cal P w K mg base 133 "left_in" spLeftIn []) (c_stepped : Cal P w K mg base 133 "stepped" spStepped []) : Cal P w K mg base 134 "developed_way" spDevWay [] := by
  refine D.cal sc_developed_way (fun vs H Q E h => ?_) (fun f cdv A outer s H vs Q E hr h => ?_)
  · obtain ⟨v, t, r, lot, rfl, _⟩ := h
    rfl
  obtain ⟨v, t, r, lot, rfl, ht, er, hs, ⟨ha, hw⟩, hl, q⟩ := h
  refine ⟨_, (pss_cons (ps_set (i := 2) sc_developed_way.nd rfl (.inl rfl) (pe_tup pa_nil))
  (pss_cons (ps_while PassesOwn.never (pt_cmpR (op_neD hr.units) (pv 1) (pe_tup pa_nil) (nomark _))
  (pss_cons (ps_set (i := 3) sc_developed_way.nd rfl (.inl rfl) (pe_ix ix_tup (pv 1) (pe_un un_neg pe_int) (fun _ _ => rfl)))
  (pss_one (ps_par3 (i := 1) (j := 0) (l := 2) (by rfl) sc_developed_way.nd rfl rfl rfl (by decide) (by decide) (by decide) rfl rfl rfl (pa_cons (C8.pe_c c_left_in hr (by omega) (by rfl) (pa_cons (pv 0) (pa_cons (pv 3) (pa_cons (pv 1) pa_nil)))) (pa_cons (C8.pe_c c_stepped hr (by omega) (by rfl) (pa_cons (pv 0) (pa_cons (pv 3) pa_nil))) (pa_cons (pe_op op_catA (pv 2) (pe_tup (pa_cons (pv 3) pa_nil))) pa_nil))) (by rfl)))))
  (pss_one (ps_ret (pe_tup (pa_cons (pv 2) (pa_cons (pv 0) pa_nil))))))), ?_⟩
  refine ⟨Nat.zero_le _, fun p0 np0 => ?_⟩
  have s0 : Same H (upd H p0 (.tup [])) := same_upd np0
  refine ⟨fun m σ H2 => ∃ (v2 : V) (r2 r3 : Addr) (y : Option V) (l k : List Nat), σ = [some v2, some (.ref r2), some (.ref r3), y] ∧ Same H H2 ∧ lot = l ++ k ∧ TmAt H2 v2 (t.steps k.reverse) ∧ H2 r2 = some (.tup (wv l)) ∧ H2 r3 = some (.tup (wv k.reverse)) ∧ m = l.length,
    ⟨lot.length, v, r, p0, none, lot, [], rfl, s0, (List.append_nil _).symm, ht.mono (Same.tups s0), s0 _ _ er, upd_same, rfl⟩, fun m σ H2 h => ?_⟩
  obtain ⟨v2, r2, r3, y, l, k, rfl, s2, el, h2, e2, e3, rfl⟩ := h
  refine ⟨_, rfl, Nat.zero_le _, fun p4 np4 => ?_⟩
  have s4 : Same H2 (upd H2 p4 (.tup [])) := same_upd np4
  refine neT (m := []) (.inl (.inl (s4 _ _ e2))) (.inl (.inl upd_same)) ⟨_, rfl, ?_⟩
  by_cases hl0 : l = []
  · subst hl0
    refine ifF (by simp) ?_
    rw [List.nil_append] at el
    subst el
    exact ⟨_, rfl, _, rfl, ln2, fun p np => q _ p r3 v2 (s2.trans (s4.trans (same_upd np))) upd_same ((same_upd np) _ _ (s4 _ _ e3)) (h2.mono (Same.tups (s4.trans (same_upd np))))⟩
  · refine ifT (by simp [hl0]) ?_
    obtain ⟨l', n, rfl⟩ : ∃ l' n, l = l' ++ [n] := ⟨l.dropLast, l.getLast hl0, (List.dropLast_concat_getLast hl0).symm⟩
    have er' : lot.reverse = k.reverse ++ (n :: l'.reverse) := by rw [el]; simp
    rw [er'] at hw
    have hsi : Small (t.steps k.reverse) := Tm.WaySm.small hs hw.left
    obtain ⟨g1, g2, g3⟩ := hw.right
    have hal : (l' ++ [n]).Pairwise (· < ·) := by rw [el] at ha; exact (List.pairwise_append.mp ha).1
    have eli := Tm.leftIn_last g1 hal
    have hll : lot.length = l'.length + 1 + k.length := by rw [el]; simp; omega
    refine ⟨fun σ' H' => ∃ (v2 : V) (r2 r3 : Addr) (y : Option V) (l k : List Nat), σ' = [some v2, some (.ref r2), some (.ref r3), y] ∧ Same H H' ∧ lot = l ++ k ∧ TmAt H' v2 (t.steps k.reverse) ∧ H' r2 = some (.tup (wv l)) ∧ H' r3 = some (.tup (wv k.reverse)) ∧ l.length < (l' ++ [n]).length, fun σ' H' h => ?_, ?_⟩
    · obtain ⟨v2, r2, r3, y, l, k, h1, h2, h3, h4, h5, h6, h7⟩ := h
      exact ⟨l.length, h7, v2, r2, r3, y, l, k, h1, h2, h3, h4, h5, h6, rfl⟩
    -- node = lot[-1]
    have e2' := s4 _ _ e2
    refine ⟨_, rfl, _, rfl, r2, _, -1, .int (n : Int), rfl, rfl, .inl (.inl e2'), atI_last' (by rw [wv_append, List.length_append]; simp [wv]), ?_⟩
    refine ⟨_, rfl, _, rfl, _, rfl, v2, _, n, r2, _, rfl, h2.mono (Same.tups s4), e2', g1, Nat.le_trans hsi.2 (by decide), Nat.le_trans hsi.1 (by decide), by rw [List.length_append, List.length_singleton]; omega, fun H5 p5 s5 e5 => ?_⟩
    rw [eli] at e5
    refine ⟨_, rfl, _, rfl, v2, _, n, rfl, h2.mono (Same.tups (s4.trans s5)), g1, Nat.le_trans hsi.2 (by decide), Nat.le_trans hsi.1 (by decide), g2, fun H6 v6 s6 h6 => ?_⟩
    refine ⟨_, rfl, _, rfl, ln1, fun p7 np7 => ?_⟩
    have s7 : Same H6 (upd H6 p7 (.tup [.int (n : Int)])) := same_upd np7
    have s47 : Same H2 _ := s4.trans (s5.trans (s6.trans s7))
    refine ⟨r3, p7, wv k.reverse, [.int (n : Int)], rfl, rfl, .inl (.inl (s47 _ _ e3)), .inl (.inl upd_same), ?_, fun e0 => ?_, fun e0 e1 => (by cases e1), fun e0 e1 p8 np8 => ?_⟩
    · rw [wv_length, List.length_reverse]
      exact le_line (by simp only [List.length_singleton]; omega)
    · have k0 : k = [] := by
        have := congrArg List.length e0
        rw [wv_length, List.length_reverse] at this
        exact List.eq_nil_of_length_eq_zero this
      subst k0
      refine ⟨_, _, _, rfl, v6, p5, p7, some (.int (n : Int)), l', [n], rfl, s2.trans s47, by rw [el]; simp, h6.mono (Same.tups s7), s7 _ _ (s6 _ _ e5), ?_, by simp⟩
      rw [upd_same]
      rfl
    · have s8 : Same _ (upd (upd H6 p7 (.tup [.int (n : Int)])) p8 (.tup (wv k.reverse ++ [.int (n : Int)]))) := same_upd np8
      refine ⟨_, _, _, rfl, v6, p5, p8, some (.int (n : Int)), l', n :: k, rfl, s2.trans (s47.trans s8), by rw [el]; simp, ?_, s8 _ _ (s7 _ _ (s6 _ _ e5)), ?_, by simp⟩
      · rw [List.reverse_cons, Tm.steps_append]
        exact h6.mono (Same.tups (s7.trans s8))
      · rw [upd_same, List.reverse_cons, wv_append]
        rfl
theorem cal_development_in (D : DefB K mg "development_in" s_development_in ["term", "lot"]) (c_developed_way : Cal P w K mg base 134 "developed_way" spDevWay []) : Cal P w K mg base 135 "development_in" spDevIn [] := by
  refine D.cal sc_development_in (fun vs H Q E h => ?_) (fun f cdv A outer s H vs Q E hr h => ?_)
  · obtain ⟨v, t, r, lot, rfl, _⟩ := h
    rfl
  obtain ⟨v, t, r, lot, rfl, ht, er, hs, hd, hl, q⟩ := h
  refine ⟨_, (pss_one (ps_ret (pe_ix ix_tup (C8.pe_c c_developed_way hr (by omega) (by rfl) (pa_cons (pv 0) (pa_cons (pv 1) pa_nil))) pe_int (fun _ _ => rfl)))), ?_⟩
  refine ⟨_, rfl, _, rfl, v, t, r, lot, rfl, ht, er, hs, hd, hl, fun H1 p l v' s1 ep el hv => ?_⟩
  exact ⟨p, _, 0, _, rfl, rfl, .inl (.inl ep), atI_nat (j := 0) rfl, q _ l s1 el⟩
theorem cal_developed_in (D : DefB K mg "developed_in" s_developed_in ["term", "lot"]) (c_developed_way : Cal P w K mg base 134 "developed_way" spDevWay []) : Cal P w K mg base 135 "developed_in" spDevdIn [] := by
  refine D.cal sc_developed_in (fun vs H Q E h => ?_) (fun f cdv A outer s H vs Q E hr h => ?_)
  · obtain ⟨v, t, r, lot, rfl, _⟩ := h
    rfl
  obtain ⟨v, t, r, lot, rfl, ht, er, hs, hd, hl, q⟩ := h
  refine ⟨_, (pss_one (ps_ret (pe_ix ix_tup (C8.pe_c c_developed_way hr (by omega) (by rfl) (pa_cons (pv 0) (pa_cons (pv 1) pa_nil))) pe_int (fun _ _ => rfl)))), ?_⟩
  refine ⟨_, rfl, _, rfl, v, t, r, lot, rfl, ht, er, hs, hd, hl, fun H1 p l v' s1 ep el hv => ?_⟩
  exact ⟨p, _, 1, _, rfl, rfl, .inl (.inl ep), atI_nat (j := 1) rfl, q _ _ s1 hv⟩
def spLeftDev : Sp := fun vs H Q _ => ∃ v t r lot ro other, vs = [v, .ref r, .ref ro] ∧ TmAt H v t ∧ H r = some (.tup (wv lot)) ∧ H ro = some (.tup (wv other)) ∧ Small t ∧ t.DevOK lot ∧ lot.length ≤ 900000 ∧ other.length ≤ 820000 ∧ GivesT H Q (t.leftThrough lot.reverse other)
theorem cal_left_developed (D : DefB K mg "left_developed" s_left_developed ["term", "lot", "other"]) (c_development_in : Cal P w K mg base 135 "development_in" spDevIn []) (c_left_through : Cal P w K mg base 134 "left_through" spLeftThrough []) : Cal P w K mg base 136 "left_developed" spLeftDev [] := by
  refine D.cal sc_left_developed (fun vs H Q E h => ?_) (fun f cdv A outer s H vs Q E hr h => ?_)
  · obtain ⟨v, t, r, lot, ro, other, rfl, _⟩ := h
    rfl
  obtain ⟨v, t, r, lot, ro, other, rfl, ht, er, eo, hs, hd, hl, ho, q⟩ := h
  refine ⟨_, (pss_one (ps_ret (pe_ix ix_tup (C8.pe_c c_left_through hr (by omega) (by rfl) (pa_cons (pv 0) (pa_cons (C8.pe_c c_development_in hr (by omega) (by rfl) (pa_cons (pv 0) (pa_cons (pv 1) pa_nil))) (pa_cons (pv 2) pa_nil)))) pe_int (fun _ _ => rfl)))), ?_⟩
  refine ⟨_, rfl, _, rfl, _, rfl, v, t, r, lot, rfl, ht, er, hs, hd, hl, fun H1 p s1 ep => ?_⟩
  refine ⟨_, rfl, v, t, p, _, ro, other, rfl, ht.mono (Same.tups s1), ep, s1 _ _ eo, hs, hd.2, ho, fun H2 p2 l v' s2 e2 el hv => ?_⟩
  exact ⟨p2, _, 0, _, rfl, rfl, .inl (.inl e2), atI_nat (j := 0) rfl, q _ l (s1.trans s2) el⟩
def spNeedShort : Sp := fun vs H Q _ => ∃ r ws, vs = [.ref r] ∧ H r = some (.tup (wv ws)) ∧ ws.length ≤ 200 ∧ Q .non H
theorem cal_need_short (D : DefB K mg "need_short" s_need_short ["way"]) (m_len : mg "len" = none) {t1 : Tok} (m_STEPS : mg "STEPS" = some (.int 200 t1)) : Cal P w K mg base 1 "need_short" spNeedShort [] := by
  refine D.cal sc_need_short (fun vs H Q E h => ?_) (fun f cdv A outer s H vs Q E hr h => ?_)
  · obtain ⟨r, ws, rfl, _⟩ := h
    rfl
  obtain ⟨r, ws, rfl, er, hl, q⟩ := h
  refine ⟨_, (pss_one (ps_if (pt_cmpR op_gt (pe_callB call_len_seq (by rfl) m_len PySem.boot_len (pa_cons (pv 0) pa_nil)) (pe_glob (v := .int 200) (by rfl) m_STEPS ⟨_, rfl⟩) (nomark _))
  (pss_one ps_never)
  pss_nil)), ?_⟩
  refine ⟨_, rfl, r, _, rfl, .inr (.inl (.inl er)), _, _, rfl, rfl, _, rfl, ifF (decide_eq_false ?_) q⟩
  rw [wv_length]
  omega
end
end Sf
/-! SfW8: rows of lots. -/
namespace Sf
open PySem PySem.Spec PyProof.Rows L2
open C8 (Cal pe_c)
open Tm (Small)
/-- lots one behind the other -/
def LotsAt (H : Hp) : List V → List (List Nat) → Prop
  | [], [] => True
  | v :: vs, l :: ls => (∃ a, v = .ref a ∧ H a = some (.tup (wv l))) ∧ LotsAt H vs ls
  | _, _ => False
theorem LotsAt.mono {H H' : Hp} (s : Tups H H') : ∀ {ls : List (List Nat)} {vs : List V}, LotsAt H vs ls → LotsAt H' vs ls
  | [], [], _ => trivial
  | _ :: _, _ :: _, ⟨⟨a, e, h⟩, r⟩ => ⟨⟨a, e, s _ _ h⟩, LotsAt.mono s r⟩
  | [], _ :: _, h => h.elim
  | _ :: _, [], h => h.elim
theorem LotsAt.length {H : Hp} : ∀ {ls : List (List Nat)} {vs : List V}, LotsAt H vs ls → vs.length = ls.length
  | [], [], _ => rfl
  | _ :: _, _ :: _, ⟨_, r⟩ => congrArg (· + 1) (LotsAt.length r)
  | [], _ :: _, h => h.elim
  | _ :: _, [], h => h.elim
theorem LotsAt.get {H : Hp} : ∀ {ls : List (List Nat)} {vs : List V} {i : Nat} {v : V}, LotsAt H vs ls → vs[i]? = some v → ∃ l a, ls[i]? = some l ∧ v = .ref a ∧ H a = some (.tup (wv l))
  | [], [], _, _, _, e => by simp at e
  | l :: _, _ :: _, 0, v, ⟨⟨a, ea, h⟩, _⟩, e => ⟨l, a, rfl, by cases Option.some.inj e; exact ea, h⟩
  | _ :: ls, _ :: vs, i + 1, v, ⟨_, r⟩, e => by
    obtain ⟨l, a, h1, h2, h3⟩ := LotsAt.get (i := i) r (by simpa using e)
    exact ⟨l, a, by simpa using h1, h2, h3⟩
  | [], _ :: _, _, _, h, _ => h.elim
  | _ :: _, [], _, _, h, _ => h.elim
theorem LotsAt.append {H : Hp} : ∀ {ts us : List (List Nat)} {vs ws : List V}, LotsAt H vs ts → LotsAt H ws us → LotsAt H (vs ++ ws) (ts ++ us)
  | [], _, [], _, _, r => r
  | _ :: _, _, _ :: _, _, ⟨h, q⟩, r => ⟨h, LotsAt.append q r⟩
  | [], _, _ :: _, _, h, _ => h.elim
  | _ :: _, _, [], _, h, _ => h.elim
theorem cutL {α : Type} {ws : List α} {i : Nat} {n : α} (en : ws[i]? = some n) : ws.take (i + 1) = ws.take i ++ [n] ∧ ws = ws.take i ++ (n :: ws.drop (i + 1)) := by
  refine ⟨by rw [List.take_add_one, en]; rfl, ?_⟩
  obtain ⟨hi, e⟩ := List.getElem?_eq_some_iff.mp en
  rw [← e, ← List.drop_eq_getElem_cons, List.take_append_drop]
/-- t + u of tuples of numbers -/
theorem catT {K : PySem.W.Frag} {H : Hp} {Q : VK} {a b : Addr} {l m : List Nat} (ha : H a = some (.tup (wv l))) (hb : H b = some (.tup (wv m))) (hl : l.length + m.length ≤ 1000000) (q : GivesT H Q (l ++ m)) : rCatA K (.ref a) (.ref b) H Q := by
  refine ⟨a, b, wv l, wv m, rfl, rfl, .inl (.inl ha), .inl (.inl hb), ?_, fun e0 => ?_, fun e0 e1 => ?_, fun e0 e1 p np => ?_⟩
  · rw [wv_length, wv_length]
    exact le_line hl
  · have k0 : l = [] := by
      have := congrArg List.length e0
      rw [wv_length] at this
      exact List.eq_nil_of_length_eq_zero this
    subst k0
    exact q _ b (Same.refl _) hb
  · have k0 : m = [] := by
      have := congrArg List.length e1
      rw [wv_length] at this
      exact List.eq_nil_of_length_eq_zero this
    subst k0
    rw [List.append_nil] at q
    exact q _ a (Same.refl _) ha
  · refine q _ p (same_upd np) ?_
    rw [upd_same, wv_append]
section
variable {P : Program} {w : World} {K : PySem.W.Frag} {mg : Str → Option Value} {base : Heap}
/-! ### row_of, need_short_row -/
def GivesRow (H : Hp) (Q : VK) (row : List (List Nat)) : Prop := ∀ H' p us, Same H H' → H' p = some (.lst us) → LotsAt H' us row → Q (.ref p) H'
def spRowOf : Sp := fun vs H Q _ => ∃ r ws, vs = [.ref r] ∧ H r = some (.tup (wv ws)) ∧ ws.length ≤ 900000 ∧ GivesRow H Q (Tm.rowOf ws)
theorem cal_row_of (D : DefB K mg "row_of" s_row_of ["way"]) : Cal P w K mg base 1 "row_of" spRowOf [] := by
  refine D.cal sc_row_of (fun vs H Q E h => ?_) (fun f cdv A outer s H vs Q E hr h => ?_)
  · obtain ⟨r, ws, rfl, _⟩ := h
    rfl
  obtain ⟨r, ws, rfl, er, hl, q⟩ := h
  refine ⟨_, (pss_one (ps_ret (pe_lc (own := [("node", 1)]) (g := gName 1) (tt := tYes) rfl sc_row_of.nd (pi_tup (pv 0)) (blkOk_by (own := [("node", 1)]) (N := ["way", "node"]) (sc := defScope s_row_of) (by decide +kernel)) (fun _ _ _ _ _ => (pg_name (i := 1) sc_row_of.nd rfl (.inl rfl))) (fun _ _ _ _ _ => pts_nil) (fun _ _ _ _ _ => (pe_tup (pa_cons (pv 1) pa_nil)))))), ?_⟩
  refine ⟨_, rfl, r, rfl, ⟨_, .inl (.inl er)⟩, fun D nD => ?_⟩
  refine lc_it walk_tup (fun i H2 => Same H H2 ∧ ∃ us, H2 D = some (.lst us) ∧ LotsAt H2 us (Tm.rowOf (ws.take i))) ⟨same_upd nD, [], upd_same, trivial⟩ (fun i H2 _ h => .inl (.inl (h.1 _ _ er))) (fun i x H2 H3 hi h y => ?_) (fun H2 h => ?_)
  · obtain ⟨s2, us, eD, hu⟩ := h
    obtain ⟨rfl, ex⟩ := y
    obtain ⟨n, en, rfl⟩ := wv_get' ex
    obtain ⟨et, ed⟩ := take_cut en
    have htl : (ws.take i).length ≤ ws.length := by rw [List.length_take]; omega
    have hul : us.length = (ws.take i).length := by rw [hu.length]; exact List.length_map _
    refine ⟨rfl, _, rfl, ln1, fun p np => ?_⟩
    have sp : Same H3 (upd H3 p (.tup [.int (n : Int)])) := same_upd np
    refine ⟨us, sp _ _ eD, lt_line (by omega), ?_, us ++ [.ref p], upd_same, ?_⟩
    · exact (fun b o e => by
        have nb : b ≠ D := ne_of_none e nD
        rw [upd_ne nb]
        exact sp _ _ (s2 _ _ e))
    · have tp : Tups H3 (upd (upd H3 p (.tup [.int (n : Int)])) D (.lst (us ++ [.ref p]))) := fun a xs e => by
        have nb : a ≠ D := fun e2 => by rw [e2, eD] at e; cases e
        rw [upd_ne nb]
        exact sp _ _ e
      have pD : p ≠ D := fun e2 => by rw [e2, eD] at np; cases np
      rw [et, Tm.rowOf, List.map_append]
      exact (hu.mono tp).append ⟨⟨p, rfl, by rw [upd_ne pD, upd_same]; rfl⟩, trivial⟩
  · obtain ⟨s2, us, eD, hu⟩ := h
    rw [wv_length, List.take_length] at hu
    exact q _ D us s2 eD hu
def spNeedRow : Sp := fun vs H Q _ => ∃ r us row, vs = [.ref r] ∧ H r = some (.lst us) ∧ LotsAt H us row ∧ Tm.rowSum row ≤ 200 ∧ row.length ≤ 900000 ∧ ∀ H', Same H H' → Q .non H'
theorem cal_need_short_row (D : DefB K mg "need_short_row" s_need_short_row ["row"]) (m_len : mg "len" = none) (m_sum : mg "sum" = none) {t1 : Tok} (m_STEPS : mg "STEPS" = some (.int 200 t1)) : Cal P w K mg base 1 "need_short_row" spNeedRow [] := by
  refine D.cal sc_need_short_row (fun vs H Q E h => ?_) (fun f cdv A outer s H vs Q E hr h => ?_)
  · obtain ⟨r, us, row, rfl, _⟩ := h
    rfl
  obtain ⟨r, us, row, rfl, er, hu, hs, hl, q⟩ := h
  refine ⟨_, (pss_one (ps_if (pt_cmpR op_gt (pe_callB (cr_sum rfl) (by rfl) m_sum (by decide +kernel) (pa_cons (pe_lc (own := [("lot", 1)]) (g := gName 1) (tt := tYes) rfl sc_need_short_row.nd (pi_list (pv 0)) (blkOk_by (own := [("lot", 1)]) (N := ["row", "lot"]) (sc := defScope s_need_short_row) (by decide +kernel)) (fun _ _ _ _ _ => (pg_name (i := 1) sc_need_short_row.nd rfl (.inl rfl))) (fun _ _ _ _ _ => pts_nil) (fun _ _ _ _ _ => (pe_callB (call_len_K (K := K) rfl) (by rfl) m_len PySem.boot_len (pa_cons (pv 1) pa_nil)))) pa_nil)) (pe_glob (v := .int 200) (by rfl) m_STEPS ⟨_, rfl⟩) (nomark _))
  (pss_one ps_never)
  pss_nil)), ?_⟩
  have hul := hu.length
  refine ⟨_, rfl, r, rfl, ⟨_, .inl (.inl er)⟩, fun D nD => ?_⟩
  refine lc_it walk_list (fun i H2 => Same H H2 ∧ H2 D = some (.lst ((row.take i).map fun l => V.int (l.length : Int)))) ⟨same_upd nD, upd_same⟩ (fun i H2 _ h => .inl (.inl (h.1 _ _ er))) (fun i x H2 H3 hi h y => ?_) (fun H2 h => ?_)
  · obtain ⟨s2, eD⟩ := h
    obtain ⟨rfl, ex⟩ := y
    obtain ⟨l, a, el, rfl, ea⟩ := hu.get ex
    obtain ⟨et, ed⟩ := cutL el
    refine ⟨rfl, _, rfl, a, _, rfl, .inr (.inl (.inl (s2 _ _ ea))), _, eD, ?_, ?_, ?_⟩
    · rw [List.length_map, List.length_take]
      exact lt_line (by omega)
    · exact (fun b o e => by
        have nb : b ≠ D := ne_of_none e nD
        rw [upd_ne nb]
        exact s2 _ _ e)
    · rw [upd_same, et, List.map_append, wv_length]
      rfl
  · obtain ⟨s2, eD⟩ := h
    rw [hul, List.take_length] at eD
    refine ⟨D, row.map fun l => (l.length : Int), rfl, .inl (.inl (by rw [eD, List.map_map]; rfl)), _, _, rfl, rfl, _, rfl, ifF (decide_eq_false ?_) (q _ s2)⟩
    have e : (row.map fun l => (l.length : Int)).sum = (Tm.rowSum row : Int) := by
      unfold Tm.rowSum
      clear hu hs hl eD hul
      induction row with
      | nil => rfl
      | cons l r ih => simp only [List.map_cons, List.sum_cons, ih, Int.natCast_add]
    rw [e]
    omega
/-! ### row_behind, way_of, tail_in -/
def spRowBehind : Sp := fun vs H Q _ => ∃ v t r us row rl lot, vs = [v, .ref r, .ref rl] ∧ TmAt H v t ∧ H r = some (.lst us) ∧ LotsAt H us row ∧ H rl = some (.tup (wv lot)) ∧ Small t ∧ t.RowOK row lot ∧ lot.length ≤ 820000 ∧ (∀ l ∈ row, l.length ≤ 820000) ∧
  row.length ≤ 800000 ∧ Tm.rowSum (t.rowBehind row lot).1 ≤ 200 ∧ ∀ H' p pl l us', Same H H' → H' p = some (.tup [.ref pl, .ref l]) → H' pl = some (.lst us') → LotsAt H' us' (t.rowBehind row lot).1 → H' l = some (.tup (wv (t.rowBehind row lot).2)) → Q (.ref p) H'
theorem rowBehind_len (t : Tm) (row : List (List Nat)) (lot : List Nat) : (t.rowBehind row lot).1.length = row.length := by
  induction row generalizing t lot with
  | nil => rfl
  | cons l r ih => exact congrArg (· + 1) (ih _ _)
theorem cal_row_behind (D : DefB K mg "row_behind" s_row_behind ["term", "row", "lot"]) (c_left_developed : Cal P w K mg base 136 "left_developed" spLeftDev []) (c_need_short_row : Cal P w K mg base 1 "need_short_row" spNeedRow []) (c_developed_in : Cal P w K mg base 135 "developed_in" spDevdIn []) :
    Cal P w K mg base 137 "row_behind" spRowBehind [] := by
  refine D.cal sc_row_behind (fun vs H Q E h => ?_) (fun f cdv A outer s H vs Q E hr h => ?_)
  · obtain ⟨v, t, r, us, row, rl, lot, rfl, _⟩ := h
    rfl
  obtain ⟨v, t, r, us, row, rl, lot, rfl, ht, er, hu, el, hs, ho, hl, hm, hrl, hsum, q⟩ := h
  refine ⟨_, (pss_cons (ps_set (i := 3) sc_row_behind.nd rfl (.inl rfl) (pe_lst pa_nil))
  (pss_cons (ps_for PassesOwn.never rfl (pi_list (pv 1)) (pg_name (i := 4) sc_row_behind.nd rfl (.inl rfl))
  (pss_cons (ps_set (i := 3) sc_row_behind.nd rfl (.inl rfl) (pe_op op_cat (pv 3) (pe_lst (pa_cons (C8.pe_c c_left_developed hr (by omega) (by rfl) (pa_cons (pv 0) (pa_cons (pv 2) (pa_cons (pv 4) pa_nil)))) pa_nil))))
  (pss_cons (ps_expr (C8.pe_c c_need_short_row hr (by omega) (by rfl) (pa_cons (pv 3) pa_nil)))
  (pss_one (ps_par (i := 2) (j := 0) (by rfl) sc_row_behind.nd rfl rfl (by decide) rfl rfl (pa_cons (C8.pe_c c_left_developed hr (by omega) (by rfl) (pa_cons (pv 0) (pa_cons (pv 4) (pa_cons (pv 2) pa_nil)))) (pa_cons (C8.pe_c c_developed_in hr (by omega) (by rfl) (pa_cons (pv 0) (pa_cons (pv 4) pa_nil))) pa_nil)) (by rfl))))))
  (pss_one (ps_ret (pe_tup (pa_cons (pv 3) (pa_cons (pv 2) pa_nil))))))), ?_⟩
  have hul := hu.length
  refine ⟨Nat.zero_le _, fun p0 np0 => ?_⟩
  have s0 : Same H (upd H p0 (.lst [])) := same_upd np0
  refine ⟨_, rfl, r, rfl, ⟨_, .inl (.inl (s0 _ _ er))⟩, ?_⟩
  refine for_it walk_list (fun i σ H2 => ∃ v2 r2 pf us2 y, σ = [some v2, some (.ref r), some (.ref r2), some (.ref pf), y] ∧ Same H H2 ∧ TmAt H2 v2 (t.rowEnd (row.take i)) ∧ H2 r2 = some (.tup (wv (t.rowBehind (row.take i) lot).2)) ∧ H2 pf = some (.lst us2) ∧ LotsAt H2 us2 (t.rowBehind (row.take i) lot).1)
    ⟨v, rl, p0, [], none, rfl, s0, ht.mono (Same.tups s0), s0 _ _ el, upd_same, trivial⟩ (fun i σ H2 _ h => by obtain ⟨_, _, _, _, _, _, s2, _⟩ := h; exact .inl (.inl (s2 _ _ er))) (fun i x σ H2 H3 hi h y => ?_) (fun σ H2 h => ?_)
  · obtain ⟨v2, r2, pf, us2, y4, rfl, s2, h2, e2, ef, hu2⟩ := h
    obtain ⟨rfl, ex⟩ := y
    obtain ⟨own, a, eo, rfl, ea⟩ := hu.get ex
    obtain ⟨et, ed⟩ := cutL eo
    have ho' := ho
    rw [ed] at ho'
    obtain ⟨hsi, hli⟩ := Tm.RowOK.small hs hl ho'
    obtain ⟨d1, d2, _⟩ := ho'.right
    have hown := hm own (List.mem_of_getElem? eo)
    have htl : (row.take i).length ≤ row.length := by rw [List.length_take]; omega
    have hu2l : us2.length = (row.take i).length := by rw [hu2.length, rowBehind_len]
    have eb := Tm.rowBehind_append t (row.take i) [own] lot
    rw [← et] at eb
    have ea' := s2 _ _ ea
    -- found = found + [left_developed(term, lot, own)]
    refine ⟨_, rfl, _, rfl, _, rfl, _, rfl, v2, _, r2, _, a, own, rfl, h2, e2, ea', hsi, d1, by omega, hown, fun H4 p4 s4 e4 => ?_⟩
    refine ⟨ln1, fun p5 np5 => ?_⟩
    have s5 : Same H4 (upd H4 p5 (.lst [.ref p4])) := same_upd np5
    refine ⟨pf, p5, us2, [.ref p4], rfl, rfl, s5 _ _ (s4 _ _ ef), upd_same, ?_, fun p6 np6 => ?_⟩
    · exact le_line (by simp only [List.length_singleton]; omega)
    have s6 : Same _ (upd (upd H4 p5 (.lst [.ref p4])) p6 (.lst (us2 ++ [.ref p4]))) := same_upd np6
    have sA : Same H3 _ := s4.trans (s5.trans s6)
    -- need_short_row(found)
    have hf6 : LotsAt (upd (upd H4 p5 (.lst [.ref p4])) p6 (.lst (us2 ++ [.ref p4]))) (us2 ++ [.ref p4]) (t.rowBehind (row.take (i + 1)) lot).1 := by
      rw [eb]
      exact (hu2.mono (Same.tups sA)).append ⟨⟨p4, rfl, s6 _ _ (s5 _ _ e4)⟩, trivial⟩
    refine ⟨_, rfl, p6, us2 ++ [.ref p4], _, rfl, upd_same, hf6, ?_, ?_, fun H7 s7 => ?_⟩
    · have ee := Tm.rowBehind_append t (row.take (i + 1)) (row.drop (i + 1)) lot
      rw [List.take_append_drop] at ee
      rw [ee, Tm.rowSum_append] at hsum
      omega
    · rw [rowBehind_len, List.length_take]
      omega
    -- lot, term = ..
    have s37 : Same H3 H7 := sA.trans s7
    refine ⟨_, rfl, _, rfl, _, rfl, v2, _, a, own, r2, _, rfl, h2.mono (Same.tups s37), s37 _ _ ea', s37 _ _ e2, hsi, d2, by omega, hli, fun H8 p8 s8 e8 => ?_⟩
    refine ⟨_, rfl, _, rfl, v2, _, a, own, rfl, h2.mono (Same.tups (s37.trans s8)), s8 _ _ (s37 _ _ ea'), hsi, d2, by omega, fun H9 v9 s9 h9 => ?_⟩
    have s39 : Same H3 H9 := s37.trans (s8.trans s9)
    refine ⟨_, _, rfl, v9, p8, p6, us2 ++ [.ref p4], some (.ref a), rfl, s2.trans s39, ?_, ?_, s9 _ _ (s8 _ _ (s7 _ _ upd_same)), hf6.mono (Same.tups (s7.trans (s8.trans s9)))⟩
    · rw [et, Tm.rowEnd_append]
      exact h9
    · rw [eb]
      exact s9 _ _ e8
  · obtain ⟨v2, r2, pf, us2, y4, rfl, s2, h2, e2, ef, hu2⟩ := h
    rw [hul, List.take_length] at e2 hu2
    exact ⟨_, rfl, _, rfl, ln2, fun p np => q _ p pf r2 us2 (s2.trans (same_upd np)) upd_same ((same_upd np) _ _ ef) (hu2.mono (tups_upd np)) ((same_upd np) _ _ e2)⟩
def spWayOf : Sp := fun vs H Q _ => ∃ v t r us row, vs = [v, .ref r] ∧ TmAt H v t ∧ H r = some (.lst us) ∧ LotsAt H us row ∧ Small t ∧ t.WayOfOK row ∧ Tm.rowSum row ≤ 800000 ∧ GivesT H Q (t.wayOf row)
theorem cal_way_of (D : DefB K mg "way_of" s_way_of ["term", "row"]) (c_development_in : Cal P w K mg base 135 "development_in" spDevIn []) (c_developed_in : Cal P w K mg base 135 "developed_in" spDevdIn []) : Cal P w K mg base 136 "way_of" spWayOf [] := by
  refine D.cal sc_way_of (fun vs H Q E h => ?_) (fun f cdv A outer s H vs Q E hr h => ?_)
  · obtain ⟨v, t, r, us, row, rfl, _⟩ := h
    rfl
  obtain ⟨v, t, r, us, row, rfl, ht, er, hu, hs, ho, hsum, q⟩ := h
  refine ⟨_, (pss_cons (ps_set (i := 2) sc_way_of.nd rfl (.inl rfl) (pe_tup pa_nil))
  (pss_cons (ps_for PassesOwn.never rfl (pi_list (pv 1)) (pg_name (i := 3) sc_way_of.nd rfl (.inl rfl))
  (pss_one (ps_par (i := 2) (j := 0) (by rfl) sc_way_of.nd rfl rfl (by decide) rfl rfl (pa_cons (pe_op op_catA (pv 2) (C8.pe_c c_development_in hr (by omega) (by rfl) (pa_cons (pv 0) (pa_cons (pv 3) pa_nil)))) (pa_cons (C8.pe_c c_developed_in hr (by omega) (by rfl) (pa_cons (pv 0) (pa_cons (pv 3) pa_nil))) pa_nil)) (by rfl))))
  (pss_one (ps_ret (pv 2))))), ?_⟩
  have hul := hu.length
  refine ⟨Nat.zero_le _, fun p0 np0 => ?_⟩
  have s0 : Same H (upd H p0 (.tup [])) := same_upd np0
  refine ⟨_, rfl, r, rfl, ⟨_, .inl (.inl (s0 _ _ er))⟩, ?_⟩
  refine for_it walk_list (fun i σ H2 => ∃ v2 pw y, σ = [some v2, some (.ref r), some (.ref pw), y] ∧ Same H H2 ∧ TmAt H2 v2 (t.rowEnd (row.take i)) ∧ H2 pw = some (.tup (wv (t.wayOf (row.take i)))))
    ⟨v, p0, none, rfl, s0, ht.mono (Same.tups s0), upd_same⟩ (fun i σ H2 _ h => by obtain ⟨_, _, _, _, s2, _⟩ := h; exact .inl (.inl (s2 _ _ er))) (fun i x σ H2 H3 hi h y => ?_) (fun σ H2 h => ?_)
  · obtain ⟨v2, pw, y4, rfl, s2, h2, e2⟩ := h
    obtain ⟨rfl, ex⟩ := y
    obtain ⟨lot, a, eo, rfl, ea⟩ := hu.get ex
    obtain ⟨et, ed⟩ := cutL eo
    have ho' := ho
    rw [ed] at ho'
    have hsi := Tm.WayOfOK.small hs ho'
    obtain ⟨d1, _⟩ := ho'.right
    have hsum' := hsum
    rw [ed, Tm.rowSum_append] at hsum'
    have hls : lot.length ≤ Tm.rowSum (lot :: row.drop (i + 1)) := by simp [Tm.rowSum]
    have ea' := s2 _ _ ea
    have ew : t.wayOf (row.take (i + 1)) = t.wayOf (row.take i) ++ lot.reverse := by
      rw [et, Tm.wayOf_append]
      show _ ++ (lot.reverse ++ []) = _
      rw [List.append_nil]
    refine ⟨_, rfl, _, rfl, _, rfl, v2, _, a, lot, rfl, h2, ea', hsi, d1, by omega, fun H4 p4 s4 e4 => ?_⟩
    refine catT (s4 _ _ e2) e4 ?_ fun H5 p5 s5 e5 => ?_
    · rw [Tm.wayOf_length, List.length_reverse]
      omega
    have s35 : Same H3 H5 := s4.trans s5
    refine ⟨_, rfl, _, rfl, v2, _, a, lot, rfl, h2.mono (Same.tups s35), s35 _ _ ea', hsi, d1, by omega, fun H6 v6 s6 h6 => ?_⟩
    refine ⟨_, _, rfl, v6, p5, some (.ref a), rfl, s2.trans (s35.trans s6), ?_, ?_⟩
    · rw [et, Tm.rowEnd_append]
      exact h6
    · rw [ew]
      exact s6 _ _ e5
  · obtain ⟨v2, pw, y4, rfl, s2, h2, e2⟩ := h
    rw [hul, List.take_length] at e2
    exact ⟨_, rfl, q _ pw s2 e2⟩
def spTailIn : Sp := fun vs H Q _ => ∃ v t r ws rl lot, vs = [v, .ref r, .ref rl] ∧ TmAt H v t ∧ H r = some (.tup (wv ws)) ∧ H rl = some (.tup (wv lot)) ∧ Small t ∧ ws ≠ [] ∧ ws.length ≤ 200 ∧ lot.length ≤ 600 ∧ t.DevOK lot ∧ t.RowOK (Tm.rowOf ws) lot ∧
  Tm.rowSum (t.rowBehind (Tm.rowOf ws) lot).1 ≤ 200 ∧ (t.steps lot.reverse).WayOfOK (t.rowBehind (Tm.rowOf ws) lot).1 ∧
  ∀ H' p l v', Same H H' → H' p = some (.tup [.ref l, v']) → H' l = some (.tup (wv ((t.steps lot.reverse).wayOf (t.rowBehind (Tm.rowOf ws) lot).1))) → Q (.ref p) H'
theorem cal_tail_in (D : DefB K mg "tail_in" s_tail_in ["term", "way", "lot"]) (c_row_behind : Cal P w K mg base 137 "row_behind" spRowBehind []) (c_row_of : Cal P w K mg base 1 "row_of" spRowOf []) (c_way_of : Cal P w K mg base 136 "way_of" spWayOf []) (c_developed_in : Cal P w K mg base 135 "developed_in" spDevdIn []) :
    Cal P w K mg base 138 "tail_in" spTailIn [] := by
  refine D.cal sc_tail_in (fun vs H Q E h => ?_) (fun f cdv A outer s H vs Q E hr h => ?_)
  · obtain ⟨v, t, r, ws, rl, lot, rfl, _⟩ := h
    rfl
  obtain ⟨v, t, r, ws, rl, lot, rfl, ht, er, el, hs, hne, hwl, hll, hd, ho, hsum, hwo, q⟩ := h
  refine ⟨_, (pss_cons (ps_if (pt_cmpR (op_eqD hr.units) (pv 1) (pe_tup pa_nil) (nomark _))
  (pss_one (ps_ret (pe_tup (pa_cons (pe_tup pa_nil) (pa_cons (pv 2) pa_nil)))))
  pss_nil)
  (pss_cons (ps_asg (C8.pe_c c_row_behind hr (by omega) (by rfl) (pa_cons (pv 0) (pa_cons (C8.pe_c c_row_of hr (by omega) (by rfl) (pa_cons (pv 1) pa_nil)) (pa_cons (pv 2) pa_nil)))) (pg_tup rfl (pgs_cons (pg_name (i := 3) sc_tail_in.nd rfl (.inl rfl)) (pgs_cons (pg_name (i := 4) sc_tail_in.nd rfl (.inl rfl)) pgs_nil))))
  (pss_one (ps_ret (pe_tup (pa_cons (C8.pe_c c_way_of hr (by omega) (by rfl) (pa_cons (C8.pe_c c_developed_in hr (by omega) (by rfl) (pa_cons (pv 0) (pa_cons (pv 2) pa_nil))) (pa_cons (pv 3) pa_nil))) (pa_cons (pv 4) pa_nil))))))), ?_⟩
  refine ⟨_, rfl, Nat.zero_le _, fun p0 np0 => ?_⟩
  have s0 : Same H (upd H p0 (.tup [])) := same_upd np0
  refine eqT (m := []) (.inl (.inl (s0 _ _ er))) (.inl (.inl upd_same)) ⟨_, rfl, ifF (decide_eq_false hne) ?_⟩
  refine ⟨_, rfl, _, rfl, r, ws, rfl, s0 _ _ er, by omega, fun H1 p1 us s1 e1 hu => ?_⟩
  have s01 : Same H H1 := s0.trans s1
  refine ⟨_, rfl, v, t, p1, us, _, rl, lot, rfl, ht.mono (Same.tups s01), e1, hu, s01 _ _ el, hs, ho, by omega, fun l hl => ?_, ?_, hsum, fun H2 p2 pl l us' s2 e2 epl hu' el2 => ?_⟩
  · unfold Tm.rowOf at hl
    obtain ⟨n, _, rfl⟩ := List.mem_map.mp hl
    exact Nat.le_trans (Nat.le_refl 1) (by decide)
  · unfold Tm.rowOf
    rw [List.length_map]
    omega
  refine ⟨p2, _, rfl, .inl (.inl e2), rfl, _, _, rfl, _, _, rfl, rfl, ?_⟩
  have s02 : Same H H2 := s01.trans s2
  refine ⟨_, rfl, _, rfl, v, t, rl, lot, rfl, ht.mono (Same.tups s02), s02 _ _ el, hs, hd, by omega, fun H3 v3 s3 h3 => ?_⟩
  refine ⟨_, rfl, v3, _, pl, us', _, rfl, h3, s3 _ _ epl, hu'.mono (Same.tups s3), Tm.WaySm.small hs hd.2, hwo, by omega, fun H4 p4 s4 e4 => ?_⟩
  refine ⟨_, rfl, ln2, fun p5 np5 => q _ p5 p4 _ (s02.trans (s3.trans (s4.trans (same_upd np5)))) upd_same ((same_upd np5) _ _ e4)⟩
end
end Sf
/-! SfZip: zip of a list and a tuple in a for. -/
namespace Sf
open PySem PySem.Spec PyProof.Rows L2
/-- a list at a, a tuple at b, the items in new pairs -/
def ItzM (K : PySem.W.Frag) (a b : Addr) : It :=
  ⟨fun i H => ∃ (xs ys : List V), SqL K H a xs ∧ SqT K H b ys ∧ i < min xs.length ys.length,
    fun i H v H' => YPair (fun _ => none) (fun _ => none) i H v H' ∨ ∃ T x y, v = .ref T ∧ H T = none ∧ H' = upd H T (.tup [x, y]) ∧ (∀ us, SqL K H a us → us[i]? = some x) ∧ (∀ us, SqT K H b us → us[i]? = some y),
    fun i H => ∃ (xs ys : List V), SqL K H a xs ∧ SqT K H b ys ∧ i = min xs.length ys.length⟩
theorem walk_zipM {K : PySem.W.Frag} {a b : Addr} {xs ys : List V} {n : Nat} (hn : n = min xs.length ys.length) : Walk (ItzM K a b) n (fun H => SqL K H a xs ∧ SqT K H b ys) (YPair (fun i => xs[i]?) (fun i => ys[i]?)) :=
  ⟨fun i H hi h => ⟨xs, ys, h.1, h.2, hn ▸ hi⟩, fun H h => ⟨xs, ys, h.1, h.2, hn⟩, fun i H v H' hi h y => by
    rcases y with ⟨_, _, _, _, _, _, e, _⟩ | ⟨T, x, z, e1, e2, e3, e4, e5⟩
    · cases e
    · exact ⟨T, x, z, e1, e2, e3, e4 xs h.1, e5 ys h.2⟩⟩
section
variable {P : Program} {w : World} {K : PySem.W.Frag}
/-- the state of such a zip at a turn -/
def StM (z TI TO i1 i2 a b : Addr) (i : Nat) (h : Heap) : Prop := IsZip h z TI TO .none ∧ IsTupOf2 h TI (.ref i1) (.ref i2) ∧ (∃ u v, IsTupOf2 h TO u v) ∧ h.IsListIter i1 a i ∧ h.IsTupleIter i2 b i
theorem mem5 {c z TI TO i1 i2 : Addr} (h : c ∈ [z, TI, TO, i1, i2]) : c = z ∨ c = TI ∨ c = TO ∨ c = i1 ∨ c = i2 := by simpa using h
theorem turn_zipM {elts : List Expr} {kk : Nat} {tpos : Pos} {a b z TI TO i1 i2 : Addr} (S : ZipSep2 z TI TO i1 i2 [i1, a] [i2, b]) :
    Turn P w K (.Tuple elts kk tpos) (ItzM K a b) [z, TI, TO, i1, i2] z (StM z TI TO i1 i2 a b) := by
  have na : a ≠ i1 ∨ a = i1 := by by_cases h : a = i1 <;> simp [h]
  refine ⟨by simp, fun i h st c hc => ?_, fun i h h' st k => ?_, ?_, ?_, fun A i s Q E st h => wpAny_pyIter_zip st.1 h⟩
  · obtain ⟨g1, g2, ⟨u, v, g3⟩, ⟨o1, g4, _, d4⟩, ⟨o2, g5, _, d5⟩⟩ := st
    rcases mem5 hc with q | q | q | q | q
    · subst q; exact ⟨_, g1, fun _ z => nomatch z⟩
    · subst q; exact ⟨_, g2, fun _ z => nomatch z⟩
    · subst q; exact ⟨_, g3, fun _ z => nomatch z⟩
    · subst q; exact ⟨o1, g4, fun _ z => by rw [d4] at z; cases z⟩
    · subst q; exact ⟨o2, g5, fun _ z => by rw [d5] at z; cases z⟩
  · obtain ⟨g1, g2, ⟨u, v, g3⟩, ⟨o1, g4, r4⟩, ⟨o2, g5, r5⟩⟩ := st
    exact ⟨k z (by simp) _ g1, k TI (by simp) _ g2, ⟨u, v, k TO (by simp) _ g3⟩, ⟨o1, k i1 (by simp) _ g4, r4⟩, ⟨o2, k i2 (by simp) _ g5, r5⟩⟩
  · intro X hP hw hK hc i pins s σ H E I hf st hg
    subst hP hw hK
    obtain ⟨g1, g2, g3, g4, g5⟩ := st
    obtain ⟨xs, ys, hqx, hqy, hi⟩ := hg
    obtain ⟨us, rv, pl, _⟩ := I.list hqx
    obtain ⟨ws, rw_, pt, _⟩ := I.tuple hqy
    have lu := rv.length
    have lw := rw_.length
    have hh : X.A.handled = none := I.ok.hd hc
    have ni1 : a ≠ i1 := fun e => by
      obtain ⟨o, e1, c1, _⟩ := g4
      obtain ⟨o2, n2, e2, c2, _⟩ := pl
      rw [e] at e2
      rw [e2] at e1
      cases e1
      rw [c2] at c1
      exact absurd (Value.type.inj c1) (by decide)
    have ni2 : b ≠ i2 := fun e => by
      obtain ⟨o, e1, c1, _⟩ := g5
      obtain ⟨o2, e2, c2, _⟩ := pt
      rw [e] at e2
      rw [e2] at e1
      cases e1
      rw [c2] at c1
      exact absurd (Value.type.inj c1) (by decide)
    have G := GoesN.zip2 (prog := X.prog) (w := X.w) (A := X.A) (elts := elts) (x1 := kk) (pos := tpos) S (Draws.list (A := X.A.in1) hh i1 a ni1 us.toArray) (Draws.tuple (A := X.A.in1) hh i2 b ni2 ws.toArray)
    have hin : i < min us.toArray.size ws.toArray.size := by simp only [List.size_toArray]; omega
    refine G.goes i s (fun u s2 => ∃ x H', Inv X pins σ H' s2 ∧ RelV x u ∧ (ItzM X.K a b).yld i H x H' ∧ StM z TI TO i1 i2 a b (i + 1) s2.heap ∧ ∀ c ∈ [z, TI, TO, i1, i2], H' c = none) E hin ⟨g1, g2, g3, ⟨g4, pl.isList⟩, ⟨g5, pt⟩⟩ fun v h' tk hY st' hk htk => ?_
    obtain ⟨T, u1, u2, rfl, hT, e1, e2, hTup⟩ := hY
    obtain ⟨q1, q2, q3, ⟨q4, _⟩, ⟨q5, _⟩⟩ := st'
    have e1' : us[i]? = some u1 := by simpa using e1
    have e2' : ws[i]? = some u2 := by simpa using e2
    have hix : i < xs.length := by omega
    have hiy : i < ys.length := by omega
    obtain ⟨x1, ex, rx⟩ : ∃ x1, xs[i]? = some x1 ∧ RelV x1 u1 := by
      obtain ⟨u, hu, ru⟩ := rv.get (List.getElem?_eq_getElem hix)
      rw [e1'] at hu
      cases Option.some.inj hu
      exact ⟨_, List.getElem?_eq_getElem hix, ru⟩
    obtain ⟨y1, ey, ry⟩ : ∃ y1, ys[i]? = some y1 ∧ RelV y1 u2 := by
      obtain ⟨u, hu, ru⟩ := rw_.get (List.getElem?_eq_getElem hiy)
      rw [e2'] at hu
      cases Option.some.inj hu
      exact ⟨_, List.getElem?_eq_getElem hiy, ru⟩
    have new : ObjOk X.prog X.w (upd H T (.tup [x1, y1])) h' T (.tup [x1, y1]) := ⟨ln2, [u1, u2], .cons rx (.cons ry .nil), hTup⟩
    refine ⟨.ref T, upd H T (.tup [x1, y1]), I.turnedNew (t' := tk) (ch := [z, TI, TO, i1, i2]) (fun c o hc q => hk c o (fun m => hc ?_) q) hf hT new, rfl, .inr ⟨T, x1, y1, rfl, I.hok.fresh hT, rfl, fun l hl => by rw [I.list_inj hl hqx]; exact ex, fun l hl => by rw [I.tuple_inj hl hqy]; exact ey⟩, ⟨q1, q2, q3, q4, q5⟩, fun c hc => ?_⟩
    · simp only [List.mem_cons, List.not_mem_nil, or_false] at m ⊢
      rcases m with m | m | m | m <;> simp [m]
    · have hlt : c < s.heap.objs.size := by
        obtain ⟨u, v, g3⟩ := g3
        obtain ⟨o1, g4, _⟩ := g4
        obtain ⟨o2, g5, _⟩ := g5
        rcases mem5 hc with q | q | q | q | q <;> subst q <;> exact Heap.lt_size (by assumption)
      rw [upd_ne (Nat.ne_of_lt (Nat.lt_of_lt_of_le hlt hT))]
      exact (hf c hc).1
  · intro X hP hw hK hc i pins s σ H E I hf st hg
    subst hP hw hK
    obtain ⟨g1, g2, g3, g4, g5⟩ := st
    obtain ⟨xs, ys, hqx, hqy, hi⟩ := hg
    obtain ⟨us, rv, pl, _⟩ := I.list hqx
    obtain ⟨ws, rw_, pt, _⟩ := I.tuple hqy
    have lu := rv.length
    have lw := rw_.length
    have hh : X.A.handled = none := I.ok.hd hc
    have ni1 : a ≠ i1 := fun e => by
      obtain ⟨o, e1, c1, _⟩ := g4
      obtain ⟨o2, n2, e2, c2, _⟩ := pl
      rw [e] at e2
      rw [e2] at e1
      cases e1
      rw [c2] at c1
      exact absurd (Value.type.inj c1) (by decide)
    have ni2 : b ≠ i2 := fun e => by
      obtain ⟨o, e1, c1, _⟩ := g5
      obtain ⟨o2, e2, c2, _⟩ := pt
      rw [e] at e2
      rw [e2] at e1
      cases e1
      rw [c2] at c1
      exact absurd (Value.type.inj c1) (by decide)
    have G := GoesN.zip2 (prog := X.prog) (w := X.w) (A := X.A) (elts := elts) (x1 := kk) (pos := tpos) S (Draws.list (A := X.A.in1) hh i1 a ni1 us.toArray) (Draws.tuple (A := X.A.in1) hh i2 b ni2 ws.toArray)
    have hin : i = min us.toArray.size ws.toArray.size := by simp only [List.size_toArray]; omega
    subst hin
    refine G.stops s (fun s1 => Inv X pins σ H s1) E ⟨g1, g2, g3, ⟨g4, pl.isList⟩, ⟨g5, pt⟩⟩ fun h' tk hk htk => ?_
    refine I.turnedL (t' := tk) (ch := [z, TI, TO, i1, i2]) (fun c o hc q => hk c o (fun m => hc ?_) q) hf
    simp only [List.mem_cons, List.not_mem_nil, or_false] at m ⊢
    rcases m with m | m | m | m <;> simp [m]
def iZipM (K : PySem.W.Frag) (ta : TA) : TI := fun σ H R => ta σ H fun vs H1 => ∃ a b xs ys, vs = [.ref a, .ref b] ∧ SqL K H1 a xs ∧ SqT K H1 b ys ∧ R (ItzM K a b) H1
theorem pi_zipM {X : Cx} {e e2 : Expr} {ta : TA} {p pos tpos : Pos} {elts : List Expr} {kk : Nat} (hg : Gl X "zip") (hm : X.mg "zip" = none) (ha : PA X [e, e2] ta)
    (hs : starEach [e, e2] X.env = (false, eval e X.env) :: starEach [e2] X.env := by rfl) (hpl : (backTo pos (starEach [e2] X.env)).any (·.1) = false := by rfl) : PI X (.Tuple elts kk tpos) (.Call (.Name "zip" p) [e, e2] [] pos) (iZipM X.K ta) := by
  refine ⟨fun pins s σ H R I h => Call_ (ld_blt I hg hm PyProof.Rows.boot_zip (PyProof.Rows.callWith_type1 (thn (ha.run pos pins s σ H _ I h) fun us s1 ⟨vs, H1, I1, r1, q1⟩ => ?_) hs hpl))⟩
  obtain ⟨a, b, xs, ys, rfl, hqx, hqy, q⟩ := q1
  obtain ⟨u1, u2, rfl, r2, r3⟩ := vals2 r1
  cases r2
  cases r3
  obtain ⟨its, rv, pl, _⟩ := I1.list hqx
  obtain ⟨its2, rv2, pt, _⟩ := I1.tuple hqy
  have la : a < s1.heap.objs.size := pl.lt
  have lb : b < s1.heap.objs.size := pt.lt
  refine zip_begins2 (begins_list a its.toArray) (begins_tuple b its2.toArray) pl.isList pt fun h' k1 k2 k3 k4 k5 hsz hk => wpAny_pyIter_zip k1 ?_
  have I2 : Inv X pins σ H1 { s1 with heap := h' } := I1.kept (t' := s1.toks) hk
  refine ⟨s1.heap.objs.size + 4, [s1.heap.objs.size + 4, s1.heap.objs.size + 2, s1.heap.objs.size + 3, s1.heap.objs.size, s1.heap.objs.size + 1], _, ItzM X.K a b, H1, rfl, I2,
    turn_zipM (zip_sep2 (fp1 := [a]) (fp2 := [b]) (fun c hc => by rw [List.mem_singleton] at hc; rw [hc]; exact la) (fun c hc => by rw [List.mem_singleton] at hc; rw [hc]; exact lb)), ⟨k1, k2, ⟨_, _, k3⟩, ⟨_, k4, rfl, rfl⟩, ⟨_, k5, rfl, rfl⟩⟩, fun c hc => ?_, q⟩
  have hle : s1.heap.objs.size ≤ c := by
    rcases mem5 hc with e | e | e | e | e <;> rw [e] <;> first | exact Nat.le_add_right _ _ | exact Nat.le_refl _
  exact I1.fpOk hle (I1.hok.fresh hle)
end
end Sf
/-! SfW9: standard ways. -/
namespace Sf
open PySem PySem.Spec PyProof.Rows L2
open C8 (Cal pe_c)
open Tm (Small)
theorem trail_at {t : Tm} {ws : List Nat} {i : Nat} (hi : i ≤ ws.length) : (t.trail ws)[i]? = some (t.steps (ws.take i)) := by
  have h := Tm.trail_get t (ws.take i) (ws.drop i)
  rw [List.take_append_drop, List.length_take, Nat.min_eq_left hi] at h
  exact h
theorem redNodes_le (t : Tm) : t.redNodes.length ≤ t.size := by
  have := Tm.idxFrom_le Tm.isRed 0 t.parts
  rw [Tm.parts_length] at this
  exact this
section
variable {P : Program} {w : World} {K : PySem.W.Frag} {mg : Str → Option Value} {base : Heap}
/-- what a way and the terms along it are -/
def WayAt (H : Hp) (t : Tm) (ws : List Nat) (us : List V) (rt rw_ : Addr) : Prop := H rt = some (.lst us) ∧ TmsAt H us (t.trail ws) ∧ H rw_ = some (.tup (wv ws)) ∧ Small t ∧ t.WaySm ws
theorem WayAt.mono {H H' : Hp} {t : Tm} {ws : List Nat} {us : List V} {rt rw_ : Addr} (h : WayAt H t ws us rt rw_) (s : Same H H') : WayAt H' t ws us rt rw_ :=
  ⟨s _ _ h.1, h.2.1.mono (Same.tups s), s _ _ h.2.2.1, h.2.2.2.1, h.2.2.2.2⟩
/-! ### lesser_left, unsorted_in -/
def spLesser : Sp := fun vs H Q _ => ∃ rt rw_ us t ws, ∃ i j : Nat, vs = [.ref rt, .ref rw_, .int (i : Int), .int (j : Int)] ∧ WayAt H t ws us rt rw_ ∧ t.Firsts ws ∧ i < j ∧ j < ws.length ∧ ws.length ≤ 900000 ∧ ∀ H', Same H H' → Q .non H'
theorem cal_lesser_left (D : DefB K mg "lesser_left" s_lesser_left ["terms", "way", "earlier", "later"]) (c_redex_nodes : Cal P w K mg base 67 "redex_nodes" spRedNodes []) (c_left_in : Cal P w K mg base 133 "left_in" spLeftIn []) (m_range : mg "range" = none) : Cal P w K mg base 134 "lesser_left" spLesser [] := by
  refine D.cal sc_lesser_left (fun vs H Q E h => ?_) (fun f cdv A outer s H vs Q E hr h => ?_)
  · obtain ⟨rt, rw_, us, t, ws, i, j, rfl, _⟩ := h
    rfl
  obtain ⟨rt, rw_, us, t, ws, i, j, rfl, hW, hF, hij, hj, hl, q⟩ := h
  refine ⟨_, (pss_cons (ps_for PassesOwn.never rfl (pi_list (C8.pe_c c_redex_nodes hr (by omega) (by rfl) (pa_cons (pe_ix ix_list (pv 0) (pv 2) (fun _ _ => rfl)) pa_nil))) (pg_name (i := 4) sc_lesser_left.nd rfl (.inl rfl))
  (pss_cons (ps_set (i := 5) sc_lesser_left.nd rfl (.inl rfl) (pe_tup (pa_cons (pv 4) pa_nil)))
  (pss_cons (ps_for PassesOwn.never rfl (pi_range2 (by rfl) m_range (pa_cons (pv 2) (pa_cons (pv 3) pa_nil))) (pg_name (i := 6) sc_lesser_left.nd rfl (.inl rfl))
  (pss_one (ps_set (i := 5) sc_lesser_left.nd rfl (.inl rfl) (C8.pe_c c_left_in hr (by omega) (by rfl) (pa_cons (pe_ix ix_list (pv 0) (pv 6) (fun _ _ => rfl)) (pa_cons (pe_ix ix_tup (pv 1) (pv 6) (fun _ _ => rfl)) (pa_cons (pv 5) pa_nil)))))))
  (pss_one (ps_if (PW.pt (pw_and (pt_cmpR op_lt (pv 4) (pe_ix ix_tup (pv 1) (pv 2) (fun _ _ => rfl)) (nomark _)) (pw_and1 (pt_cmpR op_in_seq (pe_ix ix_tup (pv 1) (pv 3) (fun _ _ => rfl)) (pv 5) (by rfl)))))
  (pss_one (ps_ret (pv 4)))
  pss_nil)))))
  (pss_one (ps_ret pe_non))), ?_⟩
  obtain ⟨et, hu, ew, hs, hw⟩ := id hW
  obtain ⟨vi, evi, hvi⟩ := hu.get' (trail_at (t := t) (ws := ws) (i := i) (by omega))
  have cut : ∀ k, k < ws.length → ∃ n, ws[k]? = some n ∧ Small (t.steps (ws.take k)) ∧ (t.steps (ws.take k)).redAt n = true ∧ (∀ r ∈ (t.steps (ws.take k)).redNodes, n ≤ r) := fun k hk => by
    have en := List.getElem?_eq_getElem hk
    obtain ⟨e1, ed⟩ := take_cut en
    have hw' := hw
    have hF' := hF
    rw [ed] at hw' hF'
    obtain ⟨g1, g2, g3⟩ := hw'.right
    exact ⟨_, en, Tm.WaySm.small hs hw'.left, g1, (hF'.right).1⟩
  obtain ⟨ni, eni, hsi, _, hmin⟩ := cut i (by omega)
  have hrl := redNodes_le (t.steps (ws.take i))
  refine ⟨_, rfl, _, rfl, rt, us, (i : Int), vi, rfl, rfl, .inl (.inl et), atI_nat evi, vi, _, rfl, hvi, Nat.le_trans hsi.2 (by decide), Nat.le_trans hsi.1 (by decide), fun H1 p s1 ep => ?_⟩
  refine ⟨p, rfl, ⟨_, .inl (.inl ep)⟩, ?_⟩
  refine for_it walk_list (fun k σ H2 => ∃ y4 y5 y6, σ = [some (.ref rt), some (.ref rw_), some (.int (i : Int)), some (.int (j : Int)), y4, y5, y6] ∧ Same H1 H2) ⟨none, none, none, rfl, Same.refl _⟩ (fun k σ H2 _ h => by obtain ⟨_, _, _, _, s2⟩ := h; exact .inl (.inl (s2 _ _ ep))) (fun k x σ H2 H3 hk h y => ?_) (fun σ H2 h => ?_)
  · obtain ⟨y4, y5, y6, rfl, s2⟩ := h
    obtain ⟨rfl, ex⟩ := y
    obtain ⟨r, er, rfl⟩ := wv_get' ex
    have s12 : Same H H3 := s1.trans s2
    refine ⟨_, rfl, ln1, fun p1 np1 => ?_⟩
    have s3 : Same H3 (upd H3 p1 (.tup [.int (r : Int)])) := same_upd np1
    refine ⟨_, rfl, _, rfl, (i : Int), (j : Int), rfl, ⟨by omega, by omega, by omega, by omega⟩, ?_⟩
    have hn : ((j : Int) - (i : Int)).toNat = j - i := by omega
    rw [hn]
    refine for_it walk_range (fun m σ H4 => ∃ rl lot y6, σ = [some (.ref rt), some (.ref rw_), some (.int (i : Int)), some (.int (j : Int)), some (.int (r : Int)), some (.ref rl), y6] ∧ Same (upd H3 p1 (.tup [.int (r : Int)])) H4 ∧ H4 rl = some (.tup (wv lot)) ∧ lot.length ≤ 820000)
      ⟨p1, [r], y6, rfl, Same.refl _, by rw [upd_same]; rfl, by simp⟩ (fun _ _ _ _ _ => trivial) (fun m x σ H4 H5 hm h y => ?_) (fun σ H4 h => ?_)
    · obtain ⟨rl, lot, y6, rfl, s4, el, hll⟩ := h
      obtain ⟨rfl, rfl⟩ := y
      obtain ⟨nk, enk, hsk, hrk, _⟩ := cut (i + m) (by omega)
      obtain ⟨vk, evk, hvk⟩ := hu.get' (trail_at (t := t) (ws := ws) (i := i + m) (by omega))
      have s15 : Same H H5 := s12.trans (s3.trans s4)
      have W5 := hW.mono s15
      have eim : (i : Int) + (m : Nat) = ((i + m : Nat) : Int) := by omega
      refine ⟨_, rfl, _, rfl, rt, us, _, vk, rfl, rfl, .inl (.inl W5.1), by rw [eim]; exact atI_nat evk, ?_⟩
      refine ⟨_, rfl, _, rfl, rw_, _, _, .int (nk : Int), rfl, rfl, .inl (.inl W5.2.2.1), by rw [eim]; exact atI_nat (wv_get enk), ?_⟩
      refine ⟨_, rfl, vk, _, nk, rl, lot, rfl, hvk.mono (Same.tups s15), el, hrk, Nat.le_trans hsk.2 (by decide), Nat.le_trans hsk.1 (by decide), by omega, fun H6 p6 s6 e6 => ?_⟩
      exact ⟨p6, _, _, rfl, s4.trans s6, e6, Tm.leftIn_le (Nat.le_trans hsk.1 (by decide))⟩
    · obtain ⟨rl, lot, y6, rfl, s4, el, hll⟩ := h
      have s15 : Same H H4 := s12.trans (s3.trans s4)
      have W5 := hW.mono s15
      refine ⟨_, rfl, _, rfl, _, rfl, rw_, _, _, .int (ni : Int), rfl, rfl, .inl (.inl W5.2.2.1), atI_nat (wv_get eni), _, _, rfl, rfl, _, rfl, ifF (decide_eq_false ?_) ?_⟩
      · have := hmin r (List.mem_of_getElem? er)
        omega
      · exact ⟨_, _, _, rfl, s2.trans (s3.trans s4)⟩
  · obtain ⟨y4, y5, y6, rfl, s2⟩ := h
    exact q _ (s1.trans s2)
def spUnsorted : Sp := fun vs H Q _ => ∃ rt rw_ us t ws, vs = [.ref rt, .ref rw_] ∧ WayAt H t ws us rt rw_ ∧ t.Firsts ws ∧ ws.length ≤ 900000 ∧ ∀ H', Same H H' → Q .non H'
theorem cal_unsorted_in (D : DefB K mg "unsorted_in" s_unsorted_in ["terms", "way"]) (c_lesser_left : Cal P w K mg base 134 "lesser_left" spLesser []) (m_range : mg "range" = none) (m_len : mg "len" = none) : Cal P w K mg base 135 "unsorted_in" spUnsorted [] := by
  refine D.cal sc_unsorted_in (fun vs H Q E h => ?_) (fun f cdv A outer s H vs Q E hr h => ?_)
  · obtain ⟨rt, rw_, us, t, ws, rfl, _⟩ := h
    rfl
  obtain ⟨rt, rw_, us, t, ws, rfl, hW, hF, hl, q⟩ := h
  refine ⟨_, (pss_cons (ps_for PassesOwn.never rfl (pi_range1 (by rfl) m_range (pa_cons (pe_callB call_len_seq (by rfl) m_len PySem.boot_len (pa_cons (pv 1) pa_nil)) pa_nil)) (pg_name (i := 2) sc_unsorted_in.nd rfl (.inl rfl))
  (pss_one (ps_for PassesOwn.never rfl (pi_range1 (by rfl) m_range (pa_cons (pv 2) pa_nil)) (pg_name (i := 3) sc_unsorted_in.nd rfl (.inl rfl))
  (pss_cons (ps_set (i := 4) sc_unsorted_in.nd rfl (.inl rfl) (C8.pe_c c_lesser_left hr (by omega) (by rfl) (pa_cons (pv 0) (pa_cons (pv 1) (pa_cons (pv 3) (pa_cons (pv 2) pa_nil))))))
  (pss_one (ps_if (pt_cmpR op_notN (pv 4) pe_non (nomark _))
  (pss_one (ps_ret (pe_tup (pa_cons (pv 3) (pa_cons (pv 2) (pa_cons (pv 4) pa_nil))))))
  pss_nil))))))
  (pss_one (ps_ret pe_non))), ?_⟩
  refine ⟨_, rfl, rw_, _, rfl, .inr (.inl (.inl hW.2.2.1)), _, rfl, by rw [wv_length]; omega, by rw [wv_length]; omega, ?_⟩
  rw [wv_length]
  refine for_it walk_range (fun j σ H2 => ∃ y2 y3 y4, σ = [some (.ref rt), some (.ref rw_), y2, y3, y4] ∧ Same H H2) ⟨none, none, none, rfl, Same.refl _⟩ (fun _ _ _ _ _ => trivial) (fun j x σ H2 H3 hj h y => ?_) (fun σ H2 h => ?_)
  · obtain ⟨y2, y3, y4, rfl, s2⟩ := h
    obtain ⟨rfl, rfl⟩ := y
    refine ⟨_, rfl, _, rfl, by omega, by omega, ?_⟩
    have hn : ((0 : Int) + (j : Nat)).toNat = j := by omega
    rw [hn]
    refine for_it walk_range (fun i σ H4 => ∃ y3 y4, σ = [some (.ref rt), some (.ref rw_), some (.int ((0 : Int) + (j : Nat))), y3, y4] ∧ Same H H4) ⟨_, _, rfl, s2⟩ (fun _ _ _ _ _ => trivial) (fun i x σ H4 H5 hi h y => ?_) (fun σ H4 h => ?_)
    · obtain ⟨y3, y4, rfl, s4⟩ := h
      obtain ⟨rfl, rfl⟩ := y
      refine ⟨_, rfl, _, rfl, _, rfl, _, rfl, rt, rw_, us, t, ws, i, j, by simp, hW.mono s4, hF, hi, hj, hl, fun H6 s6 => ?_⟩
      exact ⟨_, rfl, rfl, _, rfl, ifF rfl ⟨_, _, rfl, s4.trans s6⟩⟩
    · obtain ⟨y3, y4, rfl, s4⟩ := h
      exact ⟨_, _, _, rfl, s4⟩
  · obtain ⟨y2, y3, y4, rfl, s2⟩ := h
    exact q _ s2
/-! ### is_done, done_first, terms_of -/
def spIsDone : Sp := fun vs H Q _ => ∃ rt rw_ rl us t ws lot, vs = [.ref rt, .ref rw_, .ref rl] ∧ WayAt H t ws us rt rw_ ∧ H rl = some (.tup (wv lot)) ∧ lot.length ≤ 820000 ∧ ∀ H', Same H H' → Q (.bl (t.isDone ws lot)) H'
theorem cal_is_done (D : DefB K mg "is_done" s_is_done ["terms", "way", "lot"]) (c_left_in : Cal P w K mg base 133 "left_in" spLeftIn []) (m_zip : mg "zip" = none) : Cal P w K mg base 134 "is_done" spIsDone [] := by
  refine D.cal sc_is_done (fun vs H Q E h => ?_) (fun f cdv A outer s H vs Q E hr h => ?_)
  · obtain ⟨rt, rw_, rl, us, t, ws, lot, rfl, _⟩ := h
    rfl
  obtain ⟨rt, rw_, rl, us, t, ws, lot, rfl, hW, el, hl, q⟩ := h
  refine ⟨_, (pss_cons (ps_for PassesOwn.never rfl (pi_zipM (by rfl) m_zip (pa_cons (pv 0) (pa_cons (pv 1) pa_nil))) (pg_tup rfl (pgs_cons (pg_name (i := 3) sc_is_done.nd rfl (.inl rfl)) (pgs_cons (pg_name (i := 4) sc_is_done.nd rfl (.inl rfl)) pgs_nil)))
  (pss_cons (ps_if (pt_cmpR op_in_seq (pv 4) (pv 2) (by rfl))
  (pss_one (ps_ret pe_bl))
  pss_nil)
  (pss_one (ps_set (i := 2) sc_is_done.nd rfl (.inl rfl) (C8.pe_c c_left_in hr (by omega) (by rfl) (pa_cons (pv 3) (pa_cons (pv 4) (pa_cons (pv 2) pa_nil))))))))
  (pss_one (ps_ret pe_bl))), ?_⟩
  obtain ⟨et, hu, ew, hs, hw⟩ := id hW
  have hul : us.length = ws.length + 1 := by rw [hu.length, Tm.trail_length]
  refine ⟨_, rfl, _, rfl, rt, rw_, us, wv ws, rfl, .inl (.inl et), .inl (.inl ew), ?_⟩
  refine for_it (walk_zipM (xs := us) (ys := wv ws) (n := ws.length) (by rw [hul, wv_length]; omega)) (fun i σ H2 => ∃ r2 lot2 y3 y4, σ = [some (.ref rt), some (.ref rw_), some (.ref r2), y3, y4] ∧ Same H H2 ∧ H2 r2 = some (.tup (wv lot2)) ∧ lot2.length ≤ 820000 ∧ t.isDone ws lot = (t.steps (ws.take i)).isDone (ws.drop i) lot2)
    ⟨rl, lot, none, none, rfl, Same.refl _, el, hl, rfl⟩ (fun i σ H2 _ h => by obtain ⟨_, _, _, _, _, s2, _⟩ := h; exact ⟨.inl (.inl (s2 _ _ et)), .inl (.inl (s2 _ _ ew))⟩) (fun i x σ H2 H3 hi h y => ?_) (fun σ H2 h => ?_)
  · obtain ⟨r2, lot2, y3, y4, rfl, s2, e2, hl2, ed2⟩ := h
    obtain ⟨T, y1, y2, rfl, nT, rfl, e1, e3⟩ := y
    obtain ⟨n, en, rfl⟩ := wv_get' e3
    obtain ⟨e4, ed⟩ := take_cut en
    have hw' := hw
    rw [ed] at hw'
    have hsi : Small (t.steps (ws.take i)) := Tm.WaySm.small hs hw'.left
    obtain ⟨g1, g2, g3⟩ := hw'.right
    obtain ⟨u, hut, hx⟩ := hu.get e1
    rw [trail_at (by omega)] at hut
    cases Option.some.inj hut
    have sT : Same H2 (upd H2 T (.tup [y1, .int (n : Int)])) := same_upd nT
    have edr : ws.drop i = n :: ws.drop (i + 1) := by
      obtain ⟨hi', e⟩ := List.getElem?_eq_some_iff.mp en
      rw [← e]
      exact List.drop_eq_getElem_cons hi'
    rw [edr] at ed2
    have ed3 : (t.steps (ws.take i)).isDone (n :: ws.drop (i + 1)) lot2 = if lot2.contains n then true else ((t.steps (ws.take i)).step n).isDone (ws.drop (i + 1)) ((t.steps (ws.take i)).leftIn n lot2) := rfl
    rw [ed3] at ed2
    refine ⟨T, _, rfl, .inl (.inl upd_same), rfl, _, _, rfl, _, _, rfl, rfl, ?_⟩
    refine ⟨_, rfl, _, rfl, inT (.inr (.inl (.inl (sT _ _ e2)))) ⟨_, rfl, ite2 (fun c => ?_) (fun c => ?_)⟩⟩
    · rw [if_pos c] at ed2
      have := q _ (s2.trans sT)
      rw [ed2] at this
      exact this
    · rw [if_neg c] at ed2
      refine ⟨_, rfl, _, rfl, _, rfl, y1, _, n, r2, lot2, rfl, hx.mono (Same.tups (s2.trans sT)), sT _ _ e2, g1, Nat.le_trans hsi.2 (by decide), Nat.le_trans hsi.1 (by decide), by omega, fun H5 p5 s5 e5 => ?_⟩
      refine ⟨p5, _, _, _, rfl, s2.trans (sT.trans s5), e5, Tm.leftIn_le (Nat.le_trans hsi.1 (by decide)), ?_⟩
      rw [e4, Tm.steps_append]
      exact ed2
  · obtain ⟨r2, lot2, y3, y4, rfl, s2, e2, hl2, ed2⟩ := h
    rw [List.drop_length] at ed2
    have := q _ s2
    rw [ed2] at this
    exact this
def spDoneFirst : Sp := fun vs H Q _ => ∃ rt rw_ us t ws, ∃ r : Nat, vs = [.ref rt, .ref rw_] ∧ WayAt H t ws us rt rw_ ∧ t.doneFirst ws = some r ∧ ∀ H', Same H H' → Q (.int (r : Int)) H'
theorem find_cut {p : Nat → Bool} {l : List Nat} {i n : Nat} (h : l[i]? = some n) (hb : (l.take i).find? p = none) : l.find? p = if p n then some n else (l.drop (i + 1)).find? p := by
  obtain ⟨_, ed⟩ := take_cut h
  rw [ed, List.find?_append, hb, List.find?_cons]
  simp only [Option.none_or]
  rw [← ed]
  cases p n <;> simp
theorem cal_done_first (D : DefB K mg "done_first" s_done_first ["terms", "way"]) (c_redex_nodes : Cal P w K mg base 67 "redex_nodes" spRedNodes []) (c_is_done : Cal P w K mg base 134 "is_done" spIsDone []) : Cal P w K mg base 135 "done_first" spDoneFirst [] := by
  refine D.cal sc_done_first (fun vs H Q E h => ?_) (fun f cdv A outer s H vs Q E hr h => ?_)
  · obtain ⟨rt, rw_, us, t, ws, r, rfl, _⟩ := h
    rfl
  obtain ⟨rt, rw_, us, t, ws, r, rfl, hW, hd, q⟩ := h
  refine ⟨_, (pss_cons (ps_for PassesOwn.never rfl (pi_list (C8.pe_c c_redex_nodes hr (by omega) (by rfl) (pa_cons (pe_ix ix_list (pv 0) pe_int (fun _ _ => rfl)) pa_nil))) (pg_name (i := 2) sc_done_first.nd rfl (.inl rfl))
  (pss_one (ps_if (pt_val (C8.pe_c c_is_done hr (by omega) (by rfl) (pa_cons (pv 0) (pa_cons (pv 1) (pa_cons (pe_tup (pa_cons (pv 2) pa_nil)) pa_nil)))))
  (pss_one (ps_ret (pv 2)))
  pss_nil)))
  (pss_one (ps_ret pe_non))), ?_⟩
  obtain ⟨et, hu, ew, hs, hw⟩ := id hW
  obtain ⟨v0, ev0, hv0⟩ := hu.get' (trail_at (t := t) (ws := ws) (i := 0) (Nat.zero_le _))
  refine ⟨_, rfl, rt, us, 0, v0, rfl, rfl, .inl (.inl et), atI_nat (j := 0) ev0, v0, t, rfl, hv0, Nat.le_trans hs.2 (by decide), Nat.le_trans hs.1 (by decide), fun H1 p s1 ep => ?_⟩
  refine ⟨p, rfl, ⟨_, .inl (.inl ep)⟩, ?_⟩
  refine for_it walk_list (fun k σ H2 => ∃ y2, σ = [some (.ref rt), some (.ref rw_), y2] ∧ Same H1 H2 ∧ (t.redNodes.take k).find? (fun r => t.isDone ws [r]) = none) ⟨none, rfl, Same.refl _, rfl⟩ (fun k σ H2 _ h => by obtain ⟨_, _, s2, _⟩ := h; exact .inl (.inl (s2 _ _ ep))) (fun k x σ H2 H3 hk h y => ?_) (fun σ H2 h => ?_)
  · obtain ⟨y2, rfl, s2, hf⟩ := h
    obtain ⟨rfl, ex⟩ := y
    obtain ⟨n, en, rfl⟩ := wv_get' ex
    have efc := find_cut en hf
    have hd' : t.redNodes.find? (fun r => t.isDone ws [r]) = some r := hd
    rw [hd'] at efc
    refine ⟨_, rfl, _, rfl, _, rfl, ln1, fun p1 np1 => ?_⟩
    have s3 : Same H3 (upd H3 p1 (.tup [.int (n : Int)])) := same_upd np1
    refine ⟨rt, rw_, p1, us, t, ws, [n], rfl, hW.mono (s1.trans (s2.trans s3)), by rw [upd_same]; rfl, by simp, fun H4 s4 => ?_⟩
    refine ⟨_, rfl, ite2 (fun c => ?_) (fun c => ?_)⟩
    · rw [if_pos c] at efc
      cases Option.some.inj efc
      exact ⟨_, rfl, q _ (s1.trans (s2.trans (s3.trans s4)))⟩
    · refine ⟨_, rfl, s2.trans (s3.trans s4), ?_⟩
      rw [(take_cut en).1, List.find?_append, hf]
      simp [Bool.eq_false_iff.mpr c]
  · obtain ⟨y2, rfl, s2, hf⟩ := h
    rw [wv_length, List.take_length] at hf
    have hd' : t.redNodes.find? (fun r => t.isDone ws [r]) = some r := hd
    rw [hf] at hd'
    cases hd'
def spTermsOf : Sp := fun vs H Q _ => ∃ v t r ws, vs = [v, .ref r] ∧ TmAt H v t ∧ H r = some (.tup (wv ws)) ∧ Small t ∧ t.WaySm ws ∧ ws.length ≤ 900000 ∧ GivesTms H Q (t.trail ws)
theorem cal_terms_of (D : DefB K mg "terms_of" s_terms_of ["term", "way"]) (c_stepped : Cal P w K mg base 133 "stepped" spStepped []) : Cal P w K mg base 134 "terms_of" spTermsOf [] := by
  refine D.cal sc_terms_of (fun vs H Q E h => ?_) (fun f cdv A outer s H vs Q E hr h => ?_)
  · obtain ⟨v, t, r, ws, rfl, _⟩ := h
    rfl
  obtain ⟨v, t, r, ws, rfl, ht, er, hs, hw, hl, q⟩ := h
  refine ⟨_, (pss_cons (ps_set (i := 2) sc_terms_of.nd rfl (.inl rfl) (pe_lst (pa_cons (pv 0) pa_nil)))
  (pss_cons (ps_for PassesOwn.never rfl (pi_tup (pv 1)) (pg_name (i := 3) sc_terms_of.nd rfl (.inl rfl))
  (pss_one (ps_set (i := 2) sc_terms_of.nd rfl (.inl rfl) (pe_op op_cat (pv 2) (pe_lst (pa_cons (C8.pe_c c_stepped hr (by omega) (by rfl) (pa_cons (pe_ix ix_list (pv 2) (pe_un un_neg pe_int) (fun _ _ => rfl)) (pa_cons (pv 3) pa_nil))) pa_nil))))))
  (pss_one (ps_ret (pv 2))))), ?_⟩
  refine ⟨_, rfl, ln1, fun p0 np0 => ?_⟩
  have s0 : Same H (upd H p0 (.lst [v])) := same_upd np0
  refine ⟨_, rfl, r, rfl, ⟨_, .inl (.inl (s0 _ _ er))⟩, ?_⟩
  refine for_it walk_tup (fun i σ H2 => ∃ pf us y3, σ = [some v, some (.ref r), some (.ref pf), y3] ∧ Same H H2 ∧ H2 pf = some (.lst us) ∧ TmsAt H2 us (t.trail (ws.take i)))
    ⟨p0, [v], none, rfl, s0, upd_same, ⟨ht.mono (Same.tups s0), trivial⟩⟩ (fun i σ H2 _ h => by obtain ⟨_, _, _, _, s2, _⟩ := h; exact .inl (.inl (s2 _ _ er))) (fun i x σ H2 H3 hi h y => ?_) (fun σ H2 h => ?_)
  · obtain ⟨pf, us, y3, rfl, s2, ef, hu⟩ := h
    obtain ⟨rfl, ex⟩ := y
    obtain ⟨n, en, rfl⟩ := wv_get' ex
    obtain ⟨et, ed⟩ := take_cut en
    have hw' := hw
    rw [ed] at hw'
    have hsi : Small (t.steps (ws.take i)) := Tm.WaySm.small hs hw'.left
    obtain ⟨g1, g2, g3⟩ := hw'.right
    have ht0 : (t.trail (ws.take i))[(ws.take i).length]? = some (t.steps (ws.take i)) := by
      have := Tm.trail_get t (ws.take i) []
      rwa [List.append_nil] at this
    obtain ⟨vc, ec, hc⟩ := hu.get' ht0
    have hul : us.length = (ws.take i).length + 1 := by rw [hu.length, Tm.trail_length]
    have htl : (ws.take i).length ≤ ws.length := by rw [List.length_take]; omega
    refine ⟨_, rfl, _, rfl, _, rfl, pf, us, -1, vc, rfl, rfl, .inl (.inl ef), atI_last' (by rw [hul]; exact ec), ?_⟩
    refine ⟨_, rfl, vc, _, n, rfl, hc, g1, Nat.le_trans hsi.2 (by decide), Nat.le_trans hsi.1 (by decide), g2, fun H6 v6 s6 h6 => ?_⟩
    refine ⟨ln1, fun p7 np7 => ?_⟩
    have s7 : Same H6 (upd H6 p7 (.lst [v6])) := same_upd np7
    refine ⟨pf, p7, us, [v6], rfl, rfl, s7 _ _ (s6 _ _ ef), upd_same, ?_, fun p8 np8 => ?_⟩
    · rw [hul]
      exact le_line (by simp only [List.length_singleton]; omega)
    have s8 : Same _ (upd (upd H6 p7 (.lst [v6])) p8 (.lst (us ++ [v6]))) := same_upd np8
    have sB : Same H3 _ := s6.trans (s7.trans s8)
    refine ⟨p8, us ++ [v6], some (.int (n : Int)), rfl, s2.trans sB, upd_same, ?_⟩
    rw [et, Tm.trail_snoc]
    exact (hu.mono (Same.tups sB)).append ⟨h6.mono (Same.tups (s7.trans s8)), trivial⟩
  · obtain ⟨pf, us, y3, rfl, s2, ef, hu⟩ := h
    rw [wv_length, List.take_length] at hu
    exact ⟨_, rfl, q _ pf us s2 ef hu⟩
/-! ### sorted_way, is_standard, standard_way -/
def spSorted : Sp := fun vs H Q _ => ∃ v t r ws L, vs = [v, .ref r] ∧ TmAt H v t ∧ H r = some (.tup (wv ws)) ∧ t.Sorts ws L ∧ L.length ≤ 200 ∧ GivesT H Q L
theorem cal_sorted_way (D : DefB K mg "sorted_way" s_sorted_way ["term", "way"]) (c_done_first : Cal P w K mg base 135 "done_first" spDoneFirst []) (c_terms_of : Cal P w K mg base 134 "terms_of" spTermsOf []) (c_need_short : Cal P w K mg base 1 "need_short" spNeedShort [])
    (c_tail_in : Cal P w K mg base 138 "tail_in" spTailIn []) (c_stepped : Cal P w K mg base 133 "stepped" spStepped []) : Cal P w K mg base 139 "sorted_way" spSorted [] := by
  refine D.cal sc_sorted_way (fun vs H Q E h => ?_) (fun f cdv A outer s H vs Q E hr h => ?_)
  · obtain ⟨v, t, r, ws, L, rfl, _⟩ := h
    rfl
  obtain ⟨v, t, r, ws, L, rfl, ht, er, hS, hl, q⟩ := h
  refine ⟨_, (pss_cons (ps_set (i := 2) sc_sorted_way.nd rfl (.inl rfl) (pe_tup pa_nil))
  (pss_cons (ps_while PassesOwn.never (pt_cmpR (op_neD hr.units) (pv 1) (pe_tup pa_nil) (nomark _))
  (pss_cons (ps_set (i := 3) sc_sorted_way.nd rfl (.inl rfl) (C8.pe_c c_done_first hr (by omega) (by rfl) (pa_cons (C8.pe_c c_terms_of hr (by omega) (by rfl) (pa_cons (pv 0) (pa_cons (pv 1) pa_nil))) (pa_cons (pv 1) pa_nil))))
  (pss_cons (ps_set (i := 2) sc_sorted_way.nd rfl (.inl rfl) (pe_op op_catA (pv 2) (pe_tup (pa_cons (pv 3) pa_nil))))
  (pss_cons (ps_expr (C8.pe_c c_need_short hr (by omega) (by rfl) (pa_cons (pv 2) pa_nil)))
  (pss_one (ps_par (i := 1) (j := 0) (by rfl) sc_sorted_way.nd rfl rfl (by decide) rfl rfl (pa_cons (pe_ix ix_tup (C8.pe_c c_tail_in hr (by omega) (by rfl) (pa_cons (pv 0) (pa_cons (pv 1) (pa_cons (pe_tup (pa_cons (pv 3) pa_nil)) pa_nil)))) pe_int (fun _ _ => rfl)) (pa_cons (C8.pe_c c_stepped hr (by omega) (by rfl) (pa_cons (pv 0) (pa_cons (pv 3) pa_nil))) pa_nil)) (by rfl)))))))
  (pss_one (ps_ret (pv 2))))), ?_⟩
  refine ⟨Nat.zero_le _, fun p0 np0 => ?_⟩
  have s0 : Same H (upd H p0 (.tup [])) := same_upd np0
  refine ⟨fun m σ H2 => ∃ (v2 : V) (r2 r3 : Addr) (y : Option V) (t2 : Tm) (ws2 F L2 : List Nat), σ = [some v2, some (.ref r2), some (.ref r3), y] ∧ Same H H2 ∧ L = F ++ L2 ∧ TmAt H2 v2 t2 ∧ H2 r2 = some (.tup (wv ws2)) ∧ H2 r3 = some (.tup (wv F)) ∧ t2.Sorts ws2 L2 ∧ m = L2.length,
    ⟨L.length, v, r, p0, none, t, ws, [], L, rfl, s0, rfl, ht.mono (Same.tups s0), s0 _ _ er, upd_same, hS, rfl⟩, fun m σ H2 h => ?_⟩
  obtain ⟨v2, r2, r3, y, t2, ws2, F, L2, rfl, s2, eL, h2, e2, e3, hS2, rfl⟩ := h
  refine ⟨_, rfl, Nat.zero_le _, fun p4 np4 => ?_⟩
  have s4 : Same H2 (upd H2 p4 (.tup [])) := same_upd np4
  refine neT (m := []) (.inl (.inl (s4 _ _ e2))) (.inl (.inl upd_same)) ⟨_, rfl, ?_⟩
  cases L2 with
  | nil =>
    have ew : ws2 = [] := hS2
    rw [List.append_nil] at eL
    subst eL
    refine ifF (by rw [ew]; simp) ?_
    exact ⟨_, rfl, q _ r3 (s2.trans s4) (s4 _ _ e3)⟩
  | cons n L2 =>
    obtain ⟨hne, hs, hw, hwl, hdf, hrn, hsn, hro, hsum, hwo, hS3⟩ := hS2
    refine ifT (by simp [hne]) ?_
    have hFl : F.length + (L2.length + 1) ≤ 200 := by
      have := congrArg List.length eL
      rw [List.length_append, List.length_cons] at this
      omega
    refine ⟨fun σ' H' => ∃ (v2 : V) (r2 r3 : Addr) (y : Option V) (t2 : Tm) (ws2 F L3 : List Nat), σ' = [some v2, some (.ref r2), some (.ref r3), y] ∧ Same H H' ∧ L = F ++ L3 ∧ TmAt H' v2 t2 ∧ H' r2 = some (.tup (wv ws2)) ∧ H' r3 = some (.tup (wv F)) ∧ t2.Sorts ws2 L3 ∧ L3.length < (n :: L2).length, fun σ' H' h => ?_, ?_⟩
    · obtain ⟨v2, r2, r3, y, t2, ws2, F, L3, h1, h2, h3, h4, h5, h6, h7, h8⟩ := h
      exact ⟨L3.length, h8, v2, r2, r3, y, t2, ws2, F, L3, h1, h2, h3, h4, h5, h6, h7, rfl⟩
    -- node = done_first(terms_of(term, way), way)
    refine ⟨_, rfl, _, rfl, v2, t2, r2, ws2, rfl, h2.mono (Same.tups s4), s4 _ _ e2, hs, hw, by omega, fun H5 p5 us s5 e5 hu => ?_⟩
    refine ⟨_, rfl, p5, r2, us, t2, ws2, n, rfl, ⟨e5, hu, s5 _ _ (s4 _ _ e2), hs, hw⟩, hdf, fun H6 s6 => ?_⟩
    have s46 : Same H2 H6 := s4.trans (s5.trans s6)
    -- found = found + (node,)
    refine ⟨_, rfl, _, rfl, ln1, fun p7 np7 => ?_⟩
    have s7 : Same H6 (upd H6 p7 (.tup [.int (n : Int)])) := same_upd np7
    refine catT (m := [n]) (s7 _ _ (s46 _ _ e3)) (by rw [upd_same]; rfl) (by simp only [List.length_singleton]; omega) fun H8 p8 s8 e8 => ?_
    have s48 : Same H2 H8 := s46.trans (s7.trans s8)
    refine ⟨_, rfl, p8, F ++ [n], rfl, e8, by rw [List.length_append, List.length_singleton]; omega, ?_⟩
    -- way, term = ..
    refine ⟨_, rfl, _, rfl, _, rfl, ln1, fun p9 np9 => ?_⟩
    have s9 : Same H8 (upd H8 p9 (.tup [.int (n : Int)])) := same_upd np9
    have s49 : Same H2 _ := s48.trans s9
    refine ⟨v2, t2, r2, ws2, p9, [n], rfl, h2.mono (Same.tups s49), s49 _ _ e2, by rw [upd_same]; rfl, hs, hne, hwl, by simp, ⟨List.pairwise_singleton _ _, hrn, hsn, trivial⟩, hro, hsum, hwo, fun H10 p10 l v' s10 e10 el10 => ?_⟩
    refine ⟨p10, _, 0, _, rfl, rfl, .inl (.inl e10), atI_nat (j := 0) rfl, ?_⟩
    refine ⟨_, rfl, _, rfl, v2, t2, n, rfl, h2.mono (Same.tups (s49.trans s10)), hrn, Nat.le_trans hs.2 (by decide), Nat.le_trans hs.1 (by decide), hsn, fun H11 v11 s11 h11 => ?_⟩
    exact ⟨_, _, rfl, v11, l, p8, some (.int (n : Int)), t2.step n, t2.tailOf ws2 n, F ++ [n], L2, rfl, s2.trans (s49.trans (s10.trans s11)), by rw [eL]; simp, h11, s11 _ _ el10, s11 _ _ (s10 _ _ (s9 _ _ e8)), hS3, by simp⟩
def spIsStd : Sp := fun vs H Q _ => ∃ v t r ws, vs = [v, .ref r] ∧ TmAt H v t ∧ H r = some (.tup (wv ws)) ∧ Small t ∧ t.closedN 0 = true ∧ t.WaySm ws ∧ ws.length ≤ 200 ∧ t.Firsts ws ∧ ∀ H', Same H H' → Q (.bl true) H'
theorem cal_is_standard (D : DefB K mg "is_standard" s_is_standard ["term", "way"]) (c_unsorted_in : Cal P w K mg base 135 "unsorted_in" spUnsorted []) (c_need_way : Cal P w K mg base 135 "need_way" spNeedWay []) : Cal P w K mg base 136 "is_standard" spIsStd [] := by
  refine D.cal sc_is_standard (fun vs H Q E h => ?_) (fun f cdv A outer s H vs Q E hr h => ?_)
  · obtain ⟨v, t, r, ws, rfl, _⟩ := h
    rfl
  obtain ⟨v, t, r, ws, rfl, ht, er, hs, hc, hw, hl, hF, q⟩ := h
  refine ⟨_, (pss_one (ps_ret (pe_cmpR op_isN (C8.pe_c c_unsorted_in hr (by omega) (by rfl) (pa_cons (C8.pe_c c_need_way hr (by omega) (by rfl) (pa_cons (pv 0) (pa_cons (pv 1) pa_nil))) (pa_cons (pv 1) pa_nil))) pe_non (nomark _)))), ?_⟩
  refine ⟨_, rfl, _, rfl, v, t, r, ws, rfl, ht, er, hs, hc, hw, hl, fun H1 p us s1 ep hu => ?_⟩
  refine ⟨_, rfl, p, r, us, t, ws, rfl, ⟨ep, hu, s1 _ _ er, hs, hw⟩, hF, by omega, fun H2 s2 => ?_⟩
  exact ⟨rfl, q _ (s1.trans s2)⟩
def spStdWay : Sp := fun vs H Q _ => ∃ v t r ws L, vs = [v, .ref r] ∧ TmAt H v t ∧ H r = some (.tup (wv ws)) ∧ Small t ∧ t.closedN 0 = true ∧ t.WaySm ws ∧ ws.length ≤ 200 ∧ t.Sorts ws L ∧ L.length ≤ 200 ∧ GivesT H Q L
theorem cal_standard_way (D : DefB K mg "standard_way" s_standard_way ["term", "way"]) (c_need_way : Cal P w K mg base 135 "need_way" spNeedWay []) (c_sorted_way : Cal P w K mg base 139 "sorted_way" spSorted []) : Cal P w K mg base 140 "standard_way" spStdWay [] := by
  refine D.cal sc_standard_way (fun vs H Q E h => ?_) (fun f cdv A outer s H vs Q E hr h => ?_)
  · obtain ⟨v, t, r, ws, L, rfl, _⟩ := h
    rfl
  obtain ⟨v, t, r, ws, L, rfl, ht, er, hs, hc, hw, hl, hS, hL, q⟩ := h
  refine ⟨_, (pss_cons (ps_expr (C8.pe_c c_need_way hr (by omega) (by rfl) (pa_cons (pv 0) (pa_cons (pv 1) pa_nil))))
  (pss_one (ps_ret (C8.pe_c c_sorted_way hr (by omega) (by rfl) (pa_cons (pv 0) (pa_cons (pv 1) pa_nil)))))), ?_⟩
  refine ⟨_, rfl, _, rfl, v, t, r, ws, rfl, ht, er, hs, hc, hw, hl, fun H1 p us s1 ep hu => ?_⟩
  exact ⟨_, rfl, _, rfl, v, t, r, ws, L, rfl, ht.mono (Same.tups s1), s1 _ _ er, hS, hL, fun H2 p2 s2 e2 => q _ p2 (s1.trans s2) e2⟩
end
end Sf
/-! SfL1: the law's own defs: the cup, what is rolled; parts, lifts, puts, steps. -/
namespace Sf
open PySem PySem.Spec PyProof.Rows L2
open C8 (Cal pe_c)
open Tm (Small)
/-- the cup: two numbers -/
def CupAt (H : Hp) (c : Addr) : Prop := ∃ a b : Int, H c = some (.lst [.int a, .int b]) ∧ 0 ≤ a ∧ 0 ≤ b ∧ b < 4294967296
/-- all but the cup stands -/
def SameC (c : Addr) (H H' : Hp) : Prop := ∀ b o, b ≠ c → H b = some o → H' b = some o
theorem SameC.refl {c : Addr} {H : Hp} : SameC c H H := fun _ _ _ h => h
theorem Same.cup {c : Addr} {H H' : Hp} (s : Same H H') : SameC c H H' := fun b o _ h => s b o h
theorem SameC.trans {c : Addr} {H H1 H2 : Hp} (a : SameC c H H1) (b : SameC c H1 H2) : SameC c H H2 := fun d o hd h => b d o hd (a d o hd h)
theorem CupAt.mono {H H' : Hp} {c : Addr} (h : CupAt H c) (s : Same H H') : CupAt H' c := by
  obtain ⟨a, b, e, r⟩ := h
  exact ⟨a, b, s _ _ e, r⟩
theorem SameC.tups {c : Addr} {H H' : Hp} (s : SameC c H H') (h : CupAt H c) : Tups H H' := fun a xs e => by
  refine s a _ (fun q => ?_) e
  obtain ⟨x, y, e2, _⟩ := h
  rw [q, e2] at e
  cases e
/-- what is fresh is not the cup -/
theorem CupAt.ne {H : Hp} {c p : Addr} (h : CupAt H c) (np : H p = none) : p ≠ c := fun q => by
  obtain ⟨x, y, e2, _⟩ := h
  rw [q, e2] at np
  cases np
section
variable {P : Program} {w : World} {K : PySem.W.Frag} {mg : Str → Option Value} {base : Heap}
/-! ### the cup -/
def spCup (K : PySem.W.Frag) : Sp := fun vs H Q _ => ∃ (a : Addr) (ns : List Int), vs = [.ref a] ∧ SqL K H a (ns.map V.int) ∧ ns.length ≤ 1000 ∧ ∀ H' p, Same H H' → CupAt H' p → Q (.ref p) H'
theorem cal_law_cup (D : DefB K mg "_law_cup" s_law_cup ["_law_script"]) (m_abs : mg "abs" = none) (m_list : mg "list" = none) (m_int : mg "int" = none) : Cal P w K mg base 1 "_law_cup" (spCup K) [] := by
  refine D.cal sc_law_cup (fun vs H Q E h => ?_) (fun f cdv A outer s H vs Q E hr h => ?_)
  · obtain ⟨a, ns, rfl, _⟩ := h
    rfl
  obtain ⟨a, ns, rfl, hS, hl, q⟩ := h
  refine ⟨_, (pss_cons (ps_set (i := 1) sc_law_cup.nd rfl (.inl rfl) (pe_callB call_abs (by rfl) m_abs (by decide +kernel) (pa_cons (pe_ix ix_list (pe_op op_cat (pe_callTy call_list_of (by rfl) m_list (by decide +kernel) (pa_cons (pv 0) pa_nil)) (pe_lst (pa_cons pe_int pa_nil))) pe_int (fun _ _ => rfl)) pa_nil)))
  (pss_one (ps_ret (pe_lst (pa_cons (pe_ifExp (pt_cmpR op_ge (pv 1) (pe_op op_pow pe_int pe_int) (nomark _)) (pe_op op_fdiv (pv 1) pe_int) pe_int) (pa_cons (pe_op op_add (pe_op op_mod (pe_callTy call_int1 (by rfl) m_int (by decide +kernel) (pa_cons (pe_op op_add (pe_op op_mul (pv 1) pe_int) pe_int) pa_nil)) pe_int) pe_int) pa_nil)))))), ?_⟩
  refine ⟨_, rfl, a, _, rfl, .inl hS, fun p1 np1 => ?_⟩
  have s1 : Same H (upd H p1 (.lst (ns.map V.int))) := same_upd np1
  refine ⟨ln1, fun p2 np2 => ?_⟩
  have s2 : Same _ (upd (upd H p1 (.lst (ns.map V.int))) p2 (.lst [.int 0])) := same_upd np2
  refine ⟨p1, p2, ns.map V.int, [.int 0], rfl, rfl, s2 _ _ upd_same, upd_same, by rw [List.length_map]; exact le_line (by simp only [List.length_singleton]; omega), fun p3 np3 => ?_⟩
  have s3 : Same _ (upd (upd (upd H p1 (.lst (ns.map V.int))) p2 (.lst [.int 0])) p3 (.lst (ns.map V.int ++ [.int 0]))) := same_upd np3
  obtain ⟨x, hx⟩ : ∃ x : Int, (ns.map V.int ++ [.int 0])[0]? = some (.int x) := by
    cases ns with
    | nil => exact ⟨0, rfl⟩
    | cons n r => exact ⟨n, rfl⟩
  refine ⟨p3, _, 0, _, rfl, rfl, .inl (.inl upd_same), atI_nat (j := 0) hx, x, rfl, ?_⟩
  have hb : ∃ y : Int, 0 ≤ y ∧ (if x < 0 then -x else x) = y := ⟨_, by split <;> omega, rfl⟩
  obtain ⟨y, hy, ey⟩ := hb
  rw [ey]
  refine ⟨_, rfl, 10, 18, rfl, rfl, ⟨by decide, by decide, by decide⟩, _, _, rfl, rfl, _, rfl, ?_⟩
  have hz2 : 0 ≤ (y * 283 + 2687) % 2077503151 + 173 ∧ (y * 283 + 2687) % 2077503151 + 173 < 4294967296 := by
    have h1 := Int.emod_nonneg (y * 283 + 2687) (show (2077503151 : Int) ≠ 0 by decide)
    have h2 := Int.emod_lt_of_pos (y * 283 + 2687) (show (0 : Int) < 2077503151 by decide)
    omega
  have sA := s1.trans (s2.trans s3)
  refine ite2 (fun c => ?_) (fun c => ?_)
  · refine ⟨_, rfl, _, _, rfl, rfl, ⟨by decide, by decide⟩, ?_⟩
    refine ⟨_, rfl, _, _, rfl, rfl, .inr ⟨by decide, by decide⟩, _, _, rfl, rfl, .inl ⟨_, rfl, _, _, rfl, rfl, (show (0 : Int) < 2077503151 by decide), _, _, rfl, rfl, ln2, fun p np => ?_⟩⟩
    exact q _ p (sA.trans (same_upd np)) ⟨y / 73, _, upd_same, Int.ediv_nonneg hy (by decide), hz2⟩
  · refine ⟨_, rfl, _, _, rfl, rfl, .inr ⟨by decide, by decide⟩, _, _, rfl, rfl, .inl ⟨_, rfl, _, _, rfl, rfl, (show (0 : Int) < 2077503151 by decide), _, _, rfl, rfl, ln2, fun p np => ?_⟩⟩
    exact q _ p (sA.trans (same_upd np)) ⟨0, _, upd_same, by decide, hz2⟩
def spRoll : Sp := fun vs H Q _ => ∃ c, ∃ m : Nat, vs = [.ref c, .int (m : Int)] ∧ CupAt H c ∧ 1 ≤ m ∧ m < 1000000 ∧ ∀ H' (r : Nat), SameC c H H' → CupAt H' c → r < m → Q (.int (r : Int)) H'
theorem cal_law_roll (D : DefB K mg "_law_roll" s_law_roll ["_law_cup_here", "_law_many"]) (m_int : mg "int" = none) : Cal P w K mg base 1 "_law_roll" spRoll [] := by
  refine D.cal sc_law_roll (fun vs H Q E h => ?_) (fun f cdv A outer s H vs Q E hr h => ?_)
  · obtain ⟨c, m, rfl, _⟩ := h
    rfl
  obtain ⟨c, m, rfl, ⟨a, b, e, ha, hb, hb2⟩, h1, h2, q⟩ := h
  refine ⟨_, (pss_cons (ps_if (pt_cmpR op_gt (pe_ix ix_list (pv 0) pe_int (fun _ _ => rfl)) pe_int (nomark _))
  (pss_cons (ps_set (i := 2) sc_law_roll.nd rfl (.inl rfl) (pe_op op_mod (pe_callTy call_int1 (by rfl) m_int (by decide +kernel) (pa_cons (pe_ix ix_list (pv 0) pe_int (fun _ _ => rfl)) pa_nil)) (pv 1)))
  (pss_cons (ps_asg (pe_op op_fdiv (pe_ix ix_list (pv 0) pe_int (fun _ _ => rfl)) (pv 1)) (pg_sub (pv 0) pe_int set_list))
  (pss_one (ps_ret (pv 2)))))
  pss_nil)
  (pss_cons (ps_asg (pe_op op_mod (pe_callTy call_int1 (by rfl) m_int (by decide +kernel) (pa_cons (pe_op op_add (pe_op op_mul (pe_ix ix_list (pv 0) pe_int (fun _ _ => rfl)) pe_int) pe_int) pa_nil)) pe_int) (pg_sub (pv 0) pe_int set_list))
  (pss_cons (ps_set (i := 3) sc_law_roll.nd rfl (.inl rfl) (pe_op op_mod (pe_callTy call_int1 (by rfl) m_int (by decide +kernel) (pa_cons (pe_op op_mul (pe_ix ix_list (pv 0) pe_int (fun _ _ => rfl)) (pe_op op_add (pe_ix ix_list (pv 0) pe_int (fun _ _ => rfl)) pe_int)) pa_nil)) pe_int))
  (pss_one (ps_ret (pe_op op_mod (pe_callTy call_int1 (by rfl) m_int (by decide +kernel) (pa_cons (pe_op op_fdiv (pv 3) pe_int) pa_nil)) (pv 1))))))), ?_⟩
  have hS : SqL K H c [.int a, .int b] := .inl (.inl e)
  have hr : ∀ x : Int, 0 ≤ x % (m : Int) ∧ x % (m : Int) < m := fun x => ⟨Int.emod_nonneg _ (by omega), Int.emod_lt_of_pos _ (by omega)⟩
  have hm : (0 : Int) < (m : Int) := by omega
  refine ⟨_, rfl, c, _, 0, _, rfl, rfl, hS, atI_nat (j := 0) rfl, _, _, rfl, rfl, _, rfl, ite2 (fun g => ?_) (fun g => ?_)⟩
  · have sc : SameC c H (upd H c (.lst [.int (a / (m : Int)), .int b])) := fun d o hd h => by rw [upd_ne hd]; exact h
    refine ⟨_, rfl, c, _, 0, _, rfl, rfl, hS, atI_nat (j := 0) rfl, .inl ⟨_, rfl, _, rfl, _, _, rfl, rfl, hm, ?_⟩⟩
    refine ⟨_, rfl, c, _, 0, _, rfl, rfl, hS, atI_nat (j := 0) rfl, _, rfl, _, _, rfl, rfl, ⟨hm, by omega⟩, ?_⟩
    refine ⟨_, rfl, c, _, 0, 0, rfl, rfl, e, rfl, ?_⟩
    obtain ⟨r, er⟩ : ∃ r : Nat, a % (m : Int) = (r : Int) := ⟨_, (Int.toNat_of_nonneg (hr a).1).symm⟩
    have qq := q _ r sc ⟨_, _, upd_same, Int.ediv_nonneg ha (by omega), hb, hb2⟩ (by have := (hr a).2; omega)
    rw [← er] at qq
    exact ⟨_, rfl, qq⟩
  · have hb3 : 0 ≤ (b * 31063 + 8009) % 2147483543 ∧ (b * 31063 + 8009) % 2147483543 < 2147483543 := ⟨Int.emod_nonneg _ (by decide), Int.emod_lt_of_pos _ (by decide)⟩
    have sc : SameC c H (upd H c (.lst [.int a, .int ((b * 31063 + 8009) % 2147483543)])) := fun d o hd h => by rw [upd_ne hd]; exact h
    refine ⟨_, rfl, c, _, 1, _, rfl, rfl, hS, atI_nat (j := 1) rfl, _, _, rfl, rfl, .inl ⟨by omega, by omega⟩, _, _, rfl, rfl, .inl ⟨_, rfl, _, _, rfl, rfl, (show (0 : Int) < 2147483543 by decide), ?_⟩⟩
    refine ⟨_, rfl, c, _, 1, 1, rfl, rfl, e, rfl, ?_⟩
    have hS2 : SqL K (upd H c (.lst [.int a, .int ((b * 31063 + 8009) % 2147483543)])) c [.int a, .int ((b * 31063 + 8009) % 2147483543)] := .inl (.inl upd_same)
    have qq := fun r => q _ r sc ⟨_, _, upd_same, ha, hb3.1, by omega⟩
    refine ⟨_, rfl, c, _, 1, _, rfl, rfl, hS2, atI_nat (j := 1) rfl, _, rfl, c, _, 1, _, rfl, rfl, hS2, atI_nat (j := 1) rfl, _, _, rfl, rfl, _, _, rfl, rfl, .inl ⟨by omega, by omega⟩, .inl ⟨_, rfl, _, _, rfl, rfl, (show (0 : Int) < 2147483587 by decide), ?_⟩⟩
    obtain ⟨r, er⟩ : ∃ r : Nat, ((b * 31063 + 8009) % 2147483543) * (((b * 31063 + 8009) % 2147483543) + 239) % 2147483587 / 827 % (m : Int) = (r : Int) := ⟨_, (Int.toNat_of_nonneg (hr _).1).symm⟩
    have q3 := qq r (by have := (hr (((b * 31063 + 8009) % 2147483543) * (((b * 31063 + 8009) % 2147483543) + 239) % 2147483587 / 827)).2; omega)
    rw [← er] at q3
    exact ⟨_, rfl, _, _, rfl, rfl, ⟨by decide, by decide⟩, .inl ⟨_, rfl, _, rfl, _, _, rfl, rfl, hm, q3⟩⟩
/-- one of some things is handed back -/
def spSome : Sp := fun vs H Q _ => ∃ c p xs, vs = [.ref c, .ref p] ∧ CupAt H c ∧ p ≠ c ∧ H p = some (.lst xs) ∧ xs ≠ [] ∧ xs.length < 1000000 ∧ ∀ H' (i : Nat) x, SameC c H H' → CupAt H' c → xs[i]? = some x → Q x H'
theorem cal_law_some (D : DefB K mg "_law_some" s_law_some ["_law_cup_here", "_law_things"]) (c_law_roll : Cal P w K mg base 1 "_law_roll" spRoll []) (m_len : mg "len" = none) : Cal P w K mg base 2 "_law_some" spSome [] := by
  refine D.cal sc_law_some (fun vs H Q E h => ?_) (fun f cdv A outer s H vs Q E hr h => ?_)
  · obtain ⟨c, p, xs, rfl, _⟩ := h
    rfl
  obtain ⟨c, p, xs, rfl, hc, hne, ep, hx, hl, q⟩ := h
  refine ⟨_, (pss_one (ps_ret (pe_ix ix_list (pv 1) (C8.pe_c c_law_roll hr (by omega) (by rfl) (pa_cons (pv 0) (pa_cons (pe_callB call_len_seq (by rfl) m_len PySem.boot_len (pa_cons (pv 1) pa_nil)) pa_nil))) (fun _ _ => rfl)))), ?_⟩
  have hpos := List.length_pos_iff.mpr hx
  refine ⟨_, rfl, _, rfl, _, rfl, p, xs, rfl, .inl (.inl (.inl ep)), c, xs.length, rfl, hc, hpos, hl, fun H1 r s1 hc1 hr => ?_⟩
  exact ⟨p, xs, _, xs[r], rfl, rfl, .inl (.inl (s1 _ _ hne ep)), atI_nat (List.getElem?_eq_getElem hr), q _ r _ s1 hc1 (List.getElem?_eq_getElem hr)⟩
end
end Sf
/-! SfL2: the law's own parts, lifts, puts, redexes, steps. -/
namespace Sf
open PySem PySem.Spec PyProof.Rows L2
open C8 (Cal pe_c)
open Tm (Small)
theorem cut1' {x : V} {r : List V} : ¬ (HT.sIx (x :: r).length 0 (some 1) = 0 ∧ HT.sIx (x :: r).length (x :: r).length none = (x :: r).length) ∧ cutV (x :: r) (some 1) none = r := by
  have e1 : HT.sIx (x :: r).length 0 (some 1) = 1 := by
    rw [show HT.sIx (x :: r).length 0 (some 1) = min 1 (x :: r).length from HT.sIx_nat _ 0 1, List.length_cons]
    omega
  refine ⟨fun h => by rw [e1] at h; omega, ?_⟩
  unfold cutV
  rw [e1, HT.sIx_none]
  show List.take ((r.length + 1) - 1) r = r
  rw [Nat.add_sub_cancel]
  exact List.take_length
/-- the items of a term's tuple behind its tag, and which of them are terms -/
theorem TmAt.rest {H : Hp} {v : V} {t : Tm} (h : TmAt H v t) : ∃ a xs, v = .ref a ∧ H a = some (.tup (.str (tagOf t) :: xs)) ∧ ((TmsAt H xs t.inner ∧ t.inner ≠ []) ∨ (t.inner = [] ∧ ((∃ n : Int, xs = [.int n]) ∨ ∃ z, xs = [.str z]))) := by
  cases t with
  | nm n => obtain ⟨a, e, h⟩ := h; exact ⟨a, _, e, h, .inr ⟨rfl, .inl ⟨_, rfl⟩⟩⟩
  | lt n => obtain ⟨a, e, h⟩ := h; exact ⟨a, _, e, h, .inr ⟨rfl, .inr ⟨_, rfl⟩⟩⟩
  | fn b => obtain ⟨a, vb, e, h, hb⟩ := h; exact ⟨a, _, e, h, .inl ⟨⟨hb, trivial⟩, by simp [Tm.inner]⟩⟩
  | ap f g => obtain ⟨a, vf, vg, e, h, hf, hg⟩ := h; exact ⟨a, _, e, h, .inl ⟨⟨hf, hg, trivial⟩, by simp [Tm.inner]⟩⟩
section
variable {P : Program} {w : World} {K : PySem.W.Frag} {mg : Str → Option Value} {base : Heap}
def spLInner : Sp := fun vs H Q _ => ∃ v t, vs = [v] ∧ TmAt H v t ∧ GivesTms H Q t.inner
theorem cal_law_inner (D : DefB K mg "_law_inner" s_law_inner ["_law_term"]) (m_isinstance : mg "isinstance" = none) (m_tuple : mg "tuple" = none) : Cal P w K mg base 1 "_law_inner" spLInner [] := by
  refine D.cal sc_law_inner (fun vs H Q E h => ?_) (fun f cdv A outer s H vs Q E hr h => ?_)
  · obtain ⟨v, t, rfl, _⟩ := h
    rfl
  obtain ⟨v, t, rfl, ht, q⟩ := h
  refine ⟨_, (pss_one (ps_ret (pe_lc (own := [("_law_part", 1)]) (g := gName 1) rfl sc_law_inner.nd (pi_tup (pe_slice sl_tupA (pv 0) (po_some pe_int) po_none)) (blkOk_by (own := [("_law_part", 1)]) (N := ["_law_term", "_law_part"]) (sc := defScope s_law_inner) (by decide +kernel)) (fun _ _ _ _ _ => (pg_name (i := 1) sc_law_inner.nd rfl (.inl rfl))) (fun _ _ _ _ _ => (pts_one (pt_val (pe_callB (call_isiK' (K := K) rfl) (by rfl) m_isinstance (by decide +kernel) (pa_cons (pv 1) (pa_cons (pe_bltn (v := .ty "tuple") (by rfl) m_tuple (by decide +kernel) rfl) pa_nil)))))) (fun _ _ _ _ _ => (pv 1))))), ?_⟩
  obtain ⟨a, xs, rfl, ea, hx⟩ := ht.rest
  have hS : SqT K H a (.str (tagOf t) :: xs) := .inl (.inl ea)
  obtain ⟨c1, c2⟩ := cut1' (x := .str (tagOf t)) (r := xs)
  refine ⟨_, rfl, 1, rfl, a, _, rfl, hS, fun z => absurd z c1, fun _ p np => ?_⟩
  rw [c2]
  have s1 : Same H (upd H p (.tup xs)) := same_upd np
  refine ⟨p, rfl, ⟨_, .inl (.inl upd_same)⟩, fun D nD => ?_⟩
  rcases hx with ⟨hu, _⟩ | ⟨e0, hu⟩
  · refine lc_it walk_tup (fun i H2 => Same (upd H p (.tup xs)) H2 ∧ ∃ ws, H2 D = some (.lst ws) ∧ ws = xs.take i) ⟨same_upd nD, [], upd_same, rfl⟩ (fun i H2 _ h => .inl (.inl (h.1 _ _ upd_same))) (fun i x H2 H3 hi h y => ?_) (fun H2 h => ?_)
    · obtain ⟨s2, ws, eD, ew⟩ := h
      obtain ⟨rfl, ex⟩ := y
      obtain ⟨u, iu, hxu⟩ := hu.get ex
      obtain ⟨b, ys, rfl, eb⟩ := (hxu.mono (Same.tups (s1.trans s2))).tup
      have hl : xs.length ≤ 2 := by rw [hu.length]; cases t <;> simp [Tm.inner]
      refine ⟨rfl, _, rfl, .ref b, .ty "tuple", _, _, true, rfl, .ty "tuple", .base (.tup eb), kit_ty (by decide +kernel), true, rfl, iteT ?_⟩
      refine ⟨_, rfl, ws, eD, ?_, ?_, _, upd_same, ?_⟩
      · rw [ew, List.length_take]
        exact lt_line (by omega)
      · exact (fun b o e => by
          have nb : b ≠ D := ne_of_none e nD
          rw [upd_ne nb]
          exact s2 _ _ e)
      · rw [ew, (cutL ex).1]
    · obtain ⟨s2, ws, eD, ew⟩ := h
      rw [List.take_length] at ew
      subst ew
      exact q _ D ws (s1.trans s2) eD (hu.mono (Same.tups (s1.trans s2)))
  · have key : ∃ x T, xs = [x] ∧ TyX K (upd H p (.tup xs)) x (.type T) ∧ kitB T "tuple" = some false ∧ ∀ H2, TyX K H2 x (.type T) := by
      rcases hu with ⟨n, rfl⟩ | ⟨z, rfl⟩
      · exact ⟨_, "int", rfl, .base (.int n), by decide +kernel, fun _ => .base (.int n)⟩
      · exact ⟨_, "str", rfl, .base (.str z), by decide +kernel, fun _ => .base (.str z)⟩
    obtain ⟨x, T, rfl, _, hk, hty⟩ := key
    refine lc_it walk_tup (fun i H2 => Same (upd H p (.tup [x])) H2 ∧ H2 D = some (.lst [])) ⟨same_upd nD, upd_same⟩ (fun i H2 _ h => .inl (.inl (h.1 _ _ upd_same))) (fun i x' H2 H3 hi h y => ?_) (fun H2 h => ?_)
    · obtain ⟨s2, eD⟩ := h
      obtain ⟨rfl, ex⟩ := y
      have e0 : i = 0 := by simp at hi; omega
      subst e0
      cases Option.some.inj ex
      exact ⟨rfl, _, rfl, x, .ty "tuple", _, _, false, rfl, .ty "tuple", hty _, kit_ty hk, false, rfl, iteF ⟨s2, eD⟩⟩
    · obtain ⟨s2, eD⟩ := h
      rw [e0] at q
      exact q _ D [] (s1.trans s2) eD trivial
theorem cal_law_parts (D : DefB K mg "_law_parts" s_law_parts ["_law_term"]) (c_law_inner : Cal P w K mg base 1 "_law_inner" spLInner []) : ∀ n : Nat, Cal P w K mg base (n + 1) "_law_parts" (spParts n) []
  | 0 => D.none fun vs H Q E h => by
    obtain ⟨v, t, _, _, h, _⟩ := h
    have := t.height_pos
    omega
  | n + 1 => by
    have c_law_parts := cal_law_parts D c_law_inner n
    refine D.cal sc_law_parts (fun vs H Q E h => ?_) (fun f cdv A outer s H vs Q E hr h => ?_)
    · obtain ⟨v, t, rfl, _⟩ := h
      rfl
    obtain ⟨v, t, rfl, ht, hh, hz, q⟩ := h
    refine ⟨_, (pss_cons (ps_set (i := 1) sc_law_parts.nd rfl (.inl rfl) (pe_lst (pa_cons (pv 0) pa_nil)))
  (pss_cons (ps_for PassesOwn.never rfl (pi_list (C8.pe_c c_law_inner hr (by omega) (by rfl) (pa_cons (pv 0) pa_nil))) (pg_name (i := 2) sc_law_parts.nd rfl (.inl rfl))
  (pss_one (ps_set (i := 1) sc_law_parts.nd rfl (.inl rfl) (pe_op op_cat (pv 1) (C8.pe_c c_law_parts hr (by omega) (by rfl) (pa_cons (pv 2) pa_nil))))))
  (pss_one (ps_ret (pv 1))))), ?_⟩
    refine ⟨v, rfl, ln1, fun p0 np0 => ?_⟩
    have s0 : Same H (upd H p0 (.lst [v])) := same_upd np0
    refine ⟨v, rfl, v, t, rfl, ht.mono (Same.tups s0), fun H1 p ws s1 ep hw => ?_⟩
    refine ⟨p, rfl, ⟨_, .inl (.inl ep)⟩, ?_⟩
    have hl := hw.length
    refine for_it walk_list (fun i σ H2 => ∃ r us y, σ = [some v, some (.ref r), y] ∧ Same H1 H2 ∧ H2 r = some (.lst us) ∧ TmsAt H2 us (partsTo t i))
      ⟨p0, [v], none, rfl, Same.refl _, s1 _ _ upd_same, ⟨ht.mono (Same.tups (s0.trans s1)), trivial⟩⟩ (fun i σ H2 _ h => by obtain ⟨_, _, _, _, s2, _⟩ := h; exact .inl (.inl (s2 _ _ ep))) (fun i x σ H2 H3 hi h y => ?_) (fun σ H2 h => ?_)
    · obtain ⟨r, us, y2, rfl, s2, er, hu⟩ := h
      obtain ⟨rfl, ex⟩ := y
      obtain ⟨u, iu, hx⟩ := hw.get ex
      have hle := partsTo_le iu
      have hm := List.mem_of_getElem? iu
      refine ⟨_, rfl, _, rfl, x, u, rfl, hx.mono (Same.tups s2), ?_, ?_, fun H4 p4 ws4 s4 ep4 hw4 => ?_⟩
      · have := inner_height hm
        omega
      · have := inner_size hm
        omega
      refine ⟨r, p4, us, ws4, rfl, rfl, s4 _ _ er, ep4, ?_, fun p5 np5 => ?_⟩
      · rw [hu.length, hw4.length, Tm.parts_length]
        exact le_line (by omega)
      refine ⟨p5, us ++ ws4, some x, rfl, s2.trans (s4.trans (same_upd np5)), upd_same, ?_⟩
      rw [partsTo_succ iu]
      exact (hu.mono (Same.tups (s4.trans (same_upd np5)))).append (hw4.mono (tups_upd np5))
    · obtain ⟨r, us, y2, rfl, s2, er, hu⟩ := h
      rw [hl, partsTo_all] at hu
      exact ⟨_, rfl, q _ r us (s0.trans (s1.trans s2)) er hu⟩
theorem cal_law_lift (D : DefB K mg "_law_lift" s_law_lift ["_law_term", "_law_many", "_law_cut"]) : ∀ n : Nat, Cal P w K mg base (n + 1) "_law_lift" (spLifted n) []
  | 0 => D.none fun vs H Q E h => by
    obtain ⟨v, t, m, c, _, _, h, _⟩ := h
    have := t.height_pos
    omega
  | n + 1 => by
    have c_law_lift := cal_law_lift D n
    refine D.cal sc_law_lift (fun vs H Q E h => ?_) (fun f cdv A outer s H vs Q E hr h => ?_)
    · obtain ⟨v, t, m, c, rfl, _⟩ := h
      rfl
    obtain ⟨v, t, m, c, rfl, ht, hh, q⟩ := h
    refine ⟨_, (pss_cons (ps_if (pt_cmpR op_eq (pe_ix ix_tup (pv 0) pe_int (fun _ _ => rfl)) pe_str (nomark _))
  (pss_one (ps_ret (pe_tup (pa_cons pe_str (pa_cons (pe_ifExp (pt_cmpR op_ge (pe_ix ix_tup (pv 0) pe_int (fun _ _ => rfl)) (pv 2) (nomark _)) (pe_op op_add (pe_ix ix_tup (pv 0) pe_int (fun _ _ => rfl)) (pv 1)) (pe_ix ix_tup (pv 0) pe_int (fun _ _ => rfl))) pa_nil)))))
  pss_nil)
  (pss_cons (ps_if (pt_cmpR op_eq (pe_ix ix_tup (pv 0) pe_int (fun _ _ => rfl)) pe_str (nomark _))
  (pss_one (ps_ret (pv 0)))
  pss_nil)
  (pss_cons (ps_if (pt_cmpR op_eq (pe_ix ix_tup (pv 0) pe_int (fun _ _ => rfl)) pe_str (nomark _))
  (pss_one (ps_ret (pe_tup (pa_cons pe_str (pa_cons (C8.pe_c c_law_lift hr (by omega) (by rfl) (pa_cons (pe_ix ix_tup (pv 0) pe_int (fun _ _ => rfl)) (pa_cons (pv 1) (pa_cons (pe_op op_add (pv 2) pe_int) pa_nil)))) pa_nil)))))
  pss_nil)
  (pss_one (ps_ret (pe_tup (pa_cons pe_str (pa_cons (C8.pe_c c_law_lift hr (by omega) (by rfl) (pa_cons (pe_ix ix_tup (pv 0) pe_int (fun _ _ => rfl)) (pa_cons (pv 1) (pa_cons (pv 2) pa_nil)))) (pa_cons (C8.pe_c c_law_lift hr (by omega) (by rfl) (pa_cons (pe_ix ix_tup (pv 0) pe_int (fun _ _ => rfl)) (pa_cons (pv 1) (pa_cons (pv 2) pa_nil)))) pa_nil))))))))), ?_⟩
    cases t with
    | nm k =>
      obtain ⟨a, rfl, e⟩ := id ht
      have hS : SqT K H a [.str "name", .int (k : Int)] := .inl (.inl e)
      have qq : GivesTm H Q (if c ≤ k then .nm (k + m) else .nm k) := q
      refine ⟨_, rfl, a, _, 0, _, rfl, rfl, hS, atI_nat (j := 0) rfl, rfl, _, rfl, ifT (by decide +kernel) ?_⟩
      refine ⟨_, rfl, a, _, 1, _, rfl, rfl, hS, atI_nat (j := 1) rfl, _, rfl, _, _, rfl, rfl, _, rfl, ?_⟩
      refine ite2 (fun h => ?_) (fun h => ?_)
      · have hk : c ≤ k := by have := of_decide_eq_true h; omega
        rw [if_pos hk] at qq
        exact ⟨_, rfl, a, _, 1, _, rfl, rfl, hS, atI_nat (j := 1) rfl, _, rfl, _, _, rfl, rfl, ln2, fun p np => qq _ _ (same_upd np) TmAt.nm_new⟩
      · have hk : ¬ c ≤ k := by have := of_decide_eq_false (Bool.eq_false_iff.mpr h); omega
        rw [if_neg hk] at qq
        exact ⟨_, rfl, a, _, 1, _, rfl, rfl, hS, atI_nat (j := 1) rfl, ln2, fun p np => qq _ _ (same_upd np) TmAt.nm_new⟩
    | lt k =>
      obtain ⟨a, rfl, e⟩ := id ht
      have hS : SqT K H a [.str "letter", .str (letS k)] := .inl (.inl e)
      refine ⟨_, rfl, a, _, 0, _, rfl, rfl, hS, atI_nat (j := 0) rfl, rfl, _, rfl, ifF (by decide +kernel) ?_⟩
      refine ⟨_, rfl, a, _, 0, _, rfl, rfl, hS, atI_nat (j := 0) rfl, rfl, _, rfl, ifT (by decide +kernel) ?_⟩
      exact ⟨_, rfl, q _ _ (Same.refl _) ht⟩
    | fn b =>
      obtain ⟨a, vb, rfl, e, hb⟩ := id ht
      have hS : SqT K H a [.str "fun", vb] := .inl (.inl e)
      simp only [Tm.height] at hh
      refine ⟨_, rfl, a, _, 0, _, rfl, rfl, hS, atI_nat (j := 0) rfl, rfl, _, rfl, ifF (by decide +kernel) ?_⟩
      refine ⟨_, rfl, a, _, 0, _, rfl, rfl, hS, atI_nat (j := 0) rfl, rfl, _, rfl, ifF (by decide +kernel) ?_⟩
      refine ⟨_, rfl, a, _, 0, _, rfl, rfl, hS, atI_nat (j := 0) rfl, rfl, _, rfl, ifT (by decide +kernel) ?_⟩
      refine ⟨_, rfl, a, _, 1, _, rfl, rfl, hS, atI_nat (j := 1) rfl, _, rfl, _, rfl, _, _, rfl, rfl, ?_⟩
      refine ⟨vb, b, m, c + 1, rfl, hb, by omega, fun H1 v1 s1 h1 => ?_⟩
      refine ⟨ln2, fun p np => q _ _ (s1.trans (same_upd np)) (TmAt.fn_new np h1)⟩
    | ap f g =>
      obtain ⟨a, vf, vg, rfl, e, hf, hg⟩ := id ht
      have hS : SqT K H a [.str "call", vf, vg] := .inl (.inl e)
      simp only [Tm.height] at hh
      refine ⟨_, rfl, a, _, 0, _, rfl, rfl, hS, atI_nat (j := 0) rfl, rfl, _, rfl, ifF (by decide +kernel) ?_⟩
      refine ⟨_, rfl, a, _, 0, _, rfl, rfl, hS, atI_nat (j := 0) rfl, rfl, _, rfl, ifF (by decide +kernel) ?_⟩
      refine ⟨_, rfl, a, _, 0, _, rfl, rfl, hS, atI_nat (j := 0) rfl, rfl, _, rfl, ifF (by decide +kernel) ?_⟩
      refine ⟨_, rfl, a, _, 1, _, rfl, rfl, hS, atI_nat (j := 1) rfl, _, rfl, _, rfl, ?_⟩
      refine ⟨vf, f, m, c, rfl, hf, by omega, fun H1 v1 s1 h1 => ?_⟩
      have hS1 : SqT K H1 a [.str "call", vf, vg] := .inl (.inl (s1 _ _ e))
      refine ⟨_, rfl, a, _, 2, _, rfl, rfl, hS1, atI_nat (j := 2) rfl, _, rfl, _, rfl, ?_⟩
      refine ⟨vg, g, m, c, rfl, hg.mono (Same.tups s1), by omega, fun H2 v2 s2 h2 => ?_⟩
      exact ⟨ln3, fun p np => q _ _ (s1.trans (s2.trans (same_upd np))) (TmAt.ap_new np (h1.mono (Same.tups s2)) h2)⟩
theorem cal_law_put (D : DefB K mg "_law_put" s_law_put ["_law_body", "_law_argument", "_law_deep"]) (c_law_lift : Cal P w K mg base 66 "_law_lift" (spLifted 65) []) : ∀ n : Nat, Cal P w K mg base (n + 66) "_law_put" (spPutFor n) []
  | 0 => D.none fun vs H Q E h => by
    obtain ⟨v, t, vu, u, d, _, _, _, h, _⟩ := h
    have := t.height_pos
    omega
  | n + 1 => by
    have c_law_put := cal_law_put D c_law_lift n
    refine D.cal sc_law_put (fun vs H Q E h => ?_) (fun f cdv A outer s H vs Q E hr h => ?_)
    · obtain ⟨v, t, vu, u, d, rfl, _⟩ := h
      rfl
    obtain ⟨v, t, vu, u, d, rfl, ht, hu, hh, hhu, q⟩ := h
    refine ⟨_, (pss_cons (ps_if (pt_cmpR op_eq (pe_ix ix_tup (pv 0) pe_int (fun _ _ => rfl)) pe_str (nomark _))
  (pss_cons (ps_if (pt_cmpR op_eq (pe_ix ix_tup (pv 0) pe_int (fun _ _ => rfl)) (pv 2) (nomark _))
  (pss_one (ps_ret (C8.pe_c c_law_lift hr (by omega) (by rfl) (pa_cons (pv 1) (pa_cons (pv 2) (pa_cons pe_int pa_nil))))))
  pss_nil)
  (pss_one (ps_ret (pe_tup (pa_cons pe_str (pa_cons (pe_ifExp (pt_cmpR op_gt (pe_ix ix_tup (pv 0) pe_int (fun _ _ => rfl)) (pv 2) (nomark _)) (pe_op op_sub (pe_ix ix_tup (pv 0) pe_int (fun _ _ => rfl)) pe_int) (pe_ix ix_tup (pv 0) pe_int (fun _ _ => rfl))) pa_nil))))))
  pss_nil)
  (pss_cons (ps_if (pt_cmpR op_eq (pe_ix ix_tup (pv 0) pe_int (fun _ _ => rfl)) pe_str (nomark _))
  (pss_one (ps_ret (pv 0)))
  pss_nil)
  (pss_cons (ps_if (pt_cmpR op_eq (pe_ix ix_tup (pv 0) pe_int (fun _ _ => rfl)) pe_str (nomark _))
  (pss_one (ps_ret (pe_tup (pa_cons pe_str (pa_cons (C8.pe_c c_law_put hr (by omega) (by rfl) (pa_cons (pe_ix ix_tup (pv 0) pe_int (fun _ _ => rfl)) (pa_cons (pv 1) (pa_cons (pe_op op_add (pv 2) pe_int) pa_nil)))) pa_nil)))))
  pss_nil)
  (pss_one (ps_ret (pe_tup (pa_cons pe_str (pa_cons (C8.pe_c c_law_put hr (by omega) (by rfl) (pa_cons (pe_ix ix_tup (pv 0) pe_int (fun _ _ => rfl)) (pa_cons (pv 1) (pa_cons (pv 2) pa_nil)))) (pa_cons (C8.pe_c c_law_put hr (by omega) (by rfl) (pa_cons (pe_ix ix_tup (pv 0) pe_int (fun _ _ => rfl)) (pa_cons (pv 1) (pa_cons (pv 2) pa_nil)))) pa_nil))))))))), ?_⟩
    cases t with
    | nm k =>
      obtain ⟨a, rfl, e⟩ := id ht
      have hS : SqT K H a [.str "name", .int (k : Int)] := .inl (.inl e)
      have qq : GivesTm H Q (if k = d then u.lift d 0 else if d < k then .nm (k - 1) else .nm k) := q
      refine ⟨_, rfl, a, _, 0, _, rfl, rfl, hS, atI_nat (j := 0) rfl, rfl, _, rfl, ifT (by decide +kernel) ?_⟩
      refine ⟨_, rfl, a, _, 1, _, rfl, rfl, hS, atI_nat (j := 1) rfl, _, rfl, rfl, _, rfl, ?_⟩
      refine ite2 (fun h => ?_) (fun h => ?_)
      · have hk : k = d := by have := V.int.inj (of_decide_eq_true h); omega
        rw [if_pos hk] at qq
        exact ⟨_, rfl, _, rfl, vu, u, d, 0, rfl, hu, hhu, qq⟩
      · have hk : ¬ k = d := fun e => by
          have := of_decide_eq_false (Bool.eq_false_iff.mpr h)
          exact this (by rw [e])
        rw [if_neg hk] at qq
        refine ⟨_, rfl, a, _, 1, _, rfl, rfl, hS, atI_nat (j := 1) rfl, _, rfl, _, _, rfl, rfl, _, rfl, ?_⟩
        refine ite2 (fun h => ?_) (fun h => ?_)
        · have hk2 : d < k := by have := of_decide_eq_true h; omega
          rw [if_pos hk2] at qq
          refine ⟨_, rfl, a, _, 1, _, rfl, rfl, hS, atI_nat (j := 1) rfl, _, _, rfl, rfl, ln2, fun p np => ?_⟩
          refine qq _ _ (same_upd np) ?_
          have e1 : (k : Int) - 1 = ((k - 1 : Nat) : Int) := by omega
          show TmAt (upd H p (.tup [.str "name", .int ((k : Int) - 1)])) _ _
          rw [e1]
          exact TmAt.nm_new
        · have hk2 : ¬ d < k := by have := of_decide_eq_false (Bool.eq_false_iff.mpr h); omega
          rw [if_neg hk2] at qq
          exact ⟨_, rfl, a, _, 1, _, rfl, rfl, hS, atI_nat (j := 1) rfl, ln2, fun p np => qq _ _ (same_upd np) TmAt.nm_new⟩
    | lt k =>
      obtain ⟨a, rfl, e⟩ := id ht
      have hS : SqT K H a [.str "letter", .str (letS k)] := .inl (.inl e)
      refine ⟨_, rfl, a, _, 0, _, rfl, rfl, hS, atI_nat (j := 0) rfl, rfl, _, rfl, ifF (by decide +kernel) ?_⟩
      refine ⟨_, rfl, a, _, 0, _, rfl, rfl, hS, atI_nat (j := 0) rfl, rfl, _, rfl, ifT (by decide +kernel) ?_⟩
      exact ⟨_, rfl, q _ _ (Same.refl _) ht⟩
    | fn b =>
      obtain ⟨a, vb, rfl, e, hb⟩ := id ht
      have hS : SqT K H a [.str "fun", vb] := .inl (.inl e)
      simp only [Tm.height] at hh
      refine ⟨_, rfl, a, _, 0, _, rfl, rfl, hS, atI_nat (j := 0) rfl, rfl, _, rfl, ifF (by decide +kernel) ?_⟩
      refine ⟨_, rfl, a, _, 0, _, rfl, rfl, hS, atI_nat (j := 0) rfl, rfl, _, rfl, ifF (by decide +kernel) ?_⟩
      refine ⟨_, rfl, a, _, 0, _, rfl, rfl, hS, atI_nat (j := 0) rfl, rfl, _, rfl, ifT (by decide +kernel) ?_⟩
      refine ⟨_, rfl, a, _, 1, _, rfl, rfl, hS, atI_nat (j := 1) rfl, _, rfl, _, rfl, _, _, rfl, rfl, ?_⟩
      refine ⟨vb, b, vu, u, d + 1, rfl, hb, hu, by omega, hhu, fun H1 v1 s1 h1 => ?_⟩
      refine ⟨ln2, fun p np => q _ _ (s1.trans (same_upd np)) (TmAt.fn_new np h1)⟩
    | ap f g =>
      obtain ⟨a, vf, vg, rfl, e, hf, hg⟩ := id ht
      have hS : SqT K H a [.str "call", vf, vg] := .inl (.inl e)
      simp only [Tm.height] at hh
      refine ⟨_, rfl, a, _, 0, _, rfl, rfl, hS, atI_nat (j := 0) rfl, rfl, _, rfl, ifF (by decide +kernel) ?_⟩
      refine ⟨_, rfl, a, _, 0, _, rfl, rfl, hS, atI_nat (j := 0) rfl, rfl, _, rfl, ifF (by decide +kernel) ?_⟩
      refine ⟨_, rfl, a, _, 0, _, rfl, rfl, hS, atI_nat (j := 0) rfl, rfl, _, rfl, ifF (by decide +kernel) ?_⟩
      refine ⟨_, rfl, a, _, 1, _, rfl, rfl, hS, atI_nat (j := 1) rfl, _, rfl, _, rfl, ?_⟩
      refine ⟨vf, f, vu, u, d, rfl, hf, hu, by omega, hhu, fun H1 v1 s1 h1 => ?_⟩
      have hS1 : SqT K H1 a [.str "call", vf, vg] := .inl (.inl (s1 _ _ e))
      refine ⟨_, rfl, a, _, 2, _, rfl, rfl, hS1, atI_nat (j := 2) rfl, _, rfl, _, rfl, ?_⟩
      refine ⟨vg, g, vu, u, d, rfl, hg.mono (Same.tups s1), hu.mono (Same.tups s1), by omega, hhu, fun H2 v2 s2 h2 => ?_⟩
      exact ⟨ln3, fun p np => q _ _ (s1.trans (s2.trans (same_upd np))) (TmAt.ap_new np (h1.mono (Same.tups s2)) h2)⟩
/-- a fresh list is handed back -/
def GivesLN (H : Hp) (Q : VK) (l : List Nat) : Prop := ∀ H' p, Same H H' → H' p = some (.lst (wv l)) → H p = none → Q (.ref p) H'
theorem none_of {H H' : Hp} {p : Addr} (s : Same H H') (n : H' p = none) : H p = none := by
  cases e : H p with
  | none => rfl
  | some o => rw [s _ _ e] at n; cases n
def spLRedexes : Sp := fun vs H Q _ => ∃ v t, vs = [v] ∧ TmAt H v t ∧ t.height ≤ 130 ∧ t.size ≤ 900000 ∧ GivesLN H Q t.redNodes
theorem cal_law_redexes (D : DefB K mg "_law_redexes" s_law_redexes ["_law_term"]) (c_law_parts : Cal P w K mg base 131 "_law_parts" (spParts 130) []) (m_enumerate : mg "enumerate" = none) : Cal P w K mg base 132 "_law_redexes" spLRedexes [] := by
  refine D.cal sc_law_redexes (fun vs H Q E h => ?_) (fun f cdv A outer s H vs Q E hr h => ?_)
  · obtain ⟨v, t, rfl, _⟩ := h
    rfl
  obtain ⟨v, t, rfl, ht, hh, hz, q⟩ := h
  refine ⟨_, (pss_one (ps_ret (pe_lc (own := [("_law_at", 1), ("_law_part", 2)]) (g := gTup K 2 (gCons (gName 1) (gCons (gName 2) gNil))) rfl sc_law_redexes.nd (pi_enum (by rfl) m_enumerate (pa_cons (C8.pe_c c_law_parts hr (by omega) (by rfl) (pa_cons (pv 0) pa_nil)) pa_nil)) (blkOk_by (own := [("_law_at", 1), ("_law_part", 2)]) (N := ["_law_term", "_law_at", "_law_part"]) (sc := defScope s_law_redexes) (by decide +kernel)) (fun _ _ _ _ _ => (pg_tup rfl (pgs_cons (pg_name (i := 1) sc_law_redexes.nd rfl (.inl rfl)) (pgs_cons (pg_name (i := 2) sc_law_redexes.nd rfl (.inl rfl)) pgs_nil)))) (fun _ _ _ _ _ => (pts_one (PW.pt (pw_and (pt_cmpR op_eq (pe_ix (ix_tupK (K := K) rfl) (pv 2) pe_int (fun _ _ => rfl)) pe_str (nomark _)) (pw_and1 (pt_cmpR op_eq (pe_ix (ix_tupK (K := K) rfl) (pe_ix (ix_tupK (K := K) rfl) (pv 2) pe_int (fun _ _ => rfl)) pe_int (fun _ _ => rfl)) pe_str (nomark _))))))) (fun _ _ _ _ _ => (pv 1))))), ?_⟩
  refine ⟨_, rfl, v, t, rfl, ht, hh, by omega, fun H1 p ws s1 ep hw => ?_⟩
  refine ⟨p, ws, rfl, .inl (.inl ep), fun D nD => ?_⟩
  refine lc_it walk_enum (fun i H2 => Same H1 H2 ∧ H2 D = some (.lst (wv (idxFrom Tm.isRed 0 (t.parts.take i))))) ⟨same_upd nD, upd_same⟩ (fun i H2 _ h => .inl (.inl (h.1 _ _ ep))) (fun i x H2 H3 hi h y => ?_) (fun H2 h => ?_)
  · obtain ⟨s2, eD⟩ := h
    obtain ⟨T, y1, y2, rfl, nT, rfl, e1, e2⟩ := y
    cases Option.some.inj e1
    obtain ⟨u, hu, hx⟩ := hw.get e2
    have sT : Same H2 (upd H2 T (.tup [.int (i : Nat), y2])) := same_upd nT
    refine ⟨T, _, rfl, .inl (.inl upd_same), rfl, _, _, rfl, _, _, rfl, rfl, rfl, ?_⟩
    have et := idxFrom_take Tm.isRed t.parts i u hu
    have ll := Tm.idxFrom_le Tm.isRed 0 (t.parts.take i)
    have lt : (t.parts.take i).length ≤ t.size := by rw [List.length_take, Tm.parts_length]; omega
    have eD' : upd H2 T (.tup [.int (i : Nat), y2]) D = some (.lst (wv (idxFrom Tm.isRed 0 (t.parts.take i)))) := sT _ _ eD
    have hx' := hx.mono (Same.tups (s2.trans sT))
    obtain ⟨a, xs, rfl, ea⟩ := hx'.tup
    have hS : SqT K (upd H2 T (.tup [.int (i : Nat), .ref a])) a (.str (tagOf u) :: xs) := .inl (.inl ea)
    refine ⟨_, rfl, a, _, 0, _, rfl, rfl, hS, atI_nat (j := 0) rfl, rfl, _, rfl, ?_⟩
    have no : u.isRed = false → Same H1 (upd H2 T (.tup [.int (i : Nat), .ref a])) ∧ upd H2 T (.tup [.int (i : Nat), .ref a]) D = some (.lst (wv (idxFrom Tm.isRed 0 (t.parts.take (i + 1))))) := fun z => by
      rw [et, z, if_neg Bool.false_ne_true]
      exact ⟨s2.trans sT, eD'⟩
    cases u with
    | nm _ => exact ifF (show decide (V.str "name" = V.str "call") = false by decide +kernel) (iteF (no rfl))
    | lt _ => exact ifF (show decide (V.str "letter" = V.str "call") = false by decide +kernel) (iteF (no rfl))
    | fn _ => exact ifF (show decide (V.str "fun" = V.str "call") = false by decide +kernel) (iteF (no rfl))
    | ap f g =>
      refine ifT (show decide (V.str "call" = V.str "call") = true by decide +kernel) ?_
      obtain ⟨a', vf, vg, ea', e', hf, hg⟩ := hx'
      cases ea'
      obtain ⟨b, ys, rfl, eb⟩ := hf.tup
      have hS2 : SqT K (upd H2 T (.tup [.int (i : Nat), .ref a])) a [.str "call", .ref b, vg] := .inl (.inl e')
      have hS3 : SqT K (upd H2 T (.tup [.int (i : Nat), .ref a])) b (.str (tagOf f) :: ys) := .inl (.inl eb)
      refine ⟨_, rfl, a, _, 1, _, rfl, rfl, hS2, atI_nat (j := 1) rfl, b, _, 0, _, rfl, rfl, hS3, atI_nat (j := 0) rfl, rfl, _, rfl, ?_⟩
      rw [tag_fn]
      have ez : (Tm.ap f g).isRed = f.isFn := rfl
      rw [ez] at et no
      cases hb : f.isFn with
      | false => exact iteF (no hb)
      | true =>
        rw [hb, if_pos rfl] at et
        refine iteT ⟨_, rfl, _, eD', ?_, ?_, ?_⟩
        · rw [wv_length]
          exact lt_line (by omega)
        · exact (fun b o e => by
            have nb : b ≠ D := ne_of_none e nD
            rw [upd_ne nb]
            exact sT _ _ (s2 _ _ e))
        · rw [upd_same, et, wv_append]
          rfl
  · obtain ⟨s2, eD⟩ := h
    rw [hw.length, List.take_length] at eD
    exact q _ D (s1.trans s2) eD (none_of s1 nD)
def spLStep (n : Nat) : Sp := fun vs H Q _ => ∃ v t, ∃ k : Nat, vs = [v, .int (k : Int)] ∧ TmAt H v t ∧ t.redAt k = true ∧ t.height ≤ n ∧ t.height ≤ 65 ∧ t.size ≤ 900000 ∧ GivesTm H Q (t.step k)
theorem cal_law_step (D : DefB K mg "_law_step" s_law_step ["_law_term", "_law_node"]) (c_law_put : Cal P w K mg base 131 "_law_put" (spPutFor 65) []) (c_law_parts : Cal P w K mg base 131 "_law_parts" (spParts 130) []) (m_len : mg "len" = none) : ∀ n : Nat, Cal P w K mg base (n + 131) "_law_step" (spLStep n) []
  | 0 => D.none fun vs H Q E h => by
    obtain ⟨v, t, k, _, _, _, h, _⟩ := h
    have := t.height_pos
    omega
  | n + 1 => by
    have c_law_step := cal_law_step D c_law_put c_law_parts m_len n
    refine D.cal sc_law_step (fun vs H Q E h => ?_) (fun f cdv A outer s H vs Q E hr h => ?_)
    · obtain ⟨v, t, k, rfl, _⟩ := h
      rfl
    obtain ⟨v, t, k, rfl, ht, hr0, hh, h65, hz, q⟩ := h
    refine ⟨_, (pss_cons (ps_if (pt_cmpR op_eq (pv 1) pe_int (nomark _))
  (pss_one (ps_ret (C8.pe_c c_law_put hr (by omega) (by rfl) (pa_cons (pe_ix ix_tup (pe_ix ix_tup (pv 0) pe_int (fun _ _ => rfl)) pe_int (fun _ _ => rfl)) (pa_cons (pe_ix ix_tup (pv 0) pe_int (fun _ _ => rfl)) (pa_cons pe_int pa_nil))))))
  pss_nil)
  (pss_cons (ps_if (pt_cmpR op_eq (pe_ix ix_tup (pv 0) pe_int (fun _ _ => rfl)) pe_str (nomark _))
  (pss_one (ps_ret (pe_tup (pa_cons pe_str (pa_cons (C8.pe_c c_law_step hr (by omega) (by rfl) (pa_cons (pe_ix ix_tup (pv 0) pe_int (fun _ _ => rfl)) (pa_cons (pe_op op_sub (pv 1) pe_int) pa_nil))) pa_nil)))))
  pss_nil)
  (pss_cons (ps_set (i := 2) sc_law_step.nd rfl (.inl rfl) (pe_callB call_len_seq (by rfl) m_len PySem.boot_len (pa_cons (C8.pe_c c_law_parts hr (by omega) (by rfl) (pa_cons (pe_ix ix_tup (pv 0) pe_int (fun _ _ => rfl)) pa_nil)) pa_nil)))
  (pss_cons (ps_if (pt_cmpR op_le (pv 1) (pv 2) (nomark _))
  (pss_one (ps_ret (pe_tup (pa_cons pe_str (pa_cons (C8.pe_c c_law_step hr (by omega) (by rfl) (pa_cons (pe_ix ix_tup (pv 0) pe_int (fun _ _ => rfl)) (pa_cons (pe_op op_sub (pv 1) pe_int) pa_nil))) (pa_cons (pe_ix ix_tup (pv 0) pe_int (fun _ _ => rfl)) pa_nil))))))
  pss_nil)
  (pss_one (ps_ret (pe_tup (pa_cons pe_str (pa_cons (pe_ix ix_tup (pv 0) pe_int (fun _ _ => rfl)) (pa_cons (C8.pe_c c_law_step hr (by omega) (by rfl) (pa_cons (pe_ix ix_tup (pv 0) pe_int (fun _ _ => rfl)) (pa_cons (pe_op op_sub (pe_op op_sub (pv 1) pe_int) (pv 2)) pa_nil))) pa_nil)))))))))), ?_⟩
    refine ⟨_, rfl, rfl, _, rfl, ite2 (fun h => ?_) (fun h => ?_)⟩
    · have e0 : k = 0 := by have := V.int.inj (of_decide_eq_true h); omega
      subst e0
      cases t with
      | nm _ => cases hr0
      | lt _ => cases hr0
      | fn _ => cases hr0
      | ap f a =>
        cases f with
        | nm _ => cases hr0
        | lt _ => cases hr0
        | ap _ _ => cases hr0
        | fn b =>
          obtain ⟨p, vf, va, rfl, e, ⟨pf, vb, rfl, ef, hb⟩, ha⟩ := ht
          have hS : SqT K H p [.str "call", .ref pf, va] := .inl (.inl e)
          have hF : SqT K H pf [.str "fun", vb] := .inl (.inl ef)
          simp only [Tm.height] at h65
          refine ⟨_, rfl, p, _, 1, _, rfl, rfl, hS, atI_nat (j := 1) rfl, pf, _, 1, _, rfl, rfl, hF, atI_nat (j := 1) rfl, _, rfl, p, _, 2, _, rfl, rfl, hS, atI_nat (j := 2) rfl, ?_⟩
          exact ⟨vb, b, va, a, 0, rfl, hb, ha, by omega, by omega, q⟩
    · obtain ⟨j, rfl⟩ : ∃ j, k = j + 1 := ⟨k - 1, by
        have := of_decide_eq_false (Bool.eq_false_iff.mpr h)
        have h0 : k ≠ 0 := fun e => this (by rw [e]; rfl)
        omega⟩
      have ej : ((j + 1 : Nat) : Int) - 1 = (j : Int) := by omega
      cases t with
      | nm _ => cases hr0
      | lt _ => cases hr0
      | fn b =>
        obtain ⟨a, vb, rfl, e, hb⟩ := id ht
        have hS : SqT K H a [.str "fun", vb] := .inl (.inl e)
        simp only [Tm.height, Tm.size] at hh h65 hz
        refine ⟨_, rfl, a, _, 0, _, rfl, rfl, hS, atI_nat (j := 0) rfl, rfl, _, rfl, ifT (by decide +kernel) ?_⟩
        refine ⟨_, rfl, a, _, 1, _, rfl, rfl, hS, atI_nat (j := 1) rfl, _, rfl, _, _, rfl, rfl, ?_⟩
        refine ⟨vb, b, j, ?_, hb, hr0, by omega, by omega, by omega, fun H1 v1 s1 h1 => ?_⟩
        · show [vb, V.int (((j + 1 : Nat) : Int) - 1)] = _
          rw [ej]
        · exact ⟨ln2, fun p1 np => q _ _ (s1.trans (same_upd np)) (TmAt.fn_new np h1)⟩
      | ap f g =>
        obtain ⟨a, vf, vg, rfl, e, hf, hg⟩ := id ht
        have hS : SqT K H a [.str "call", vf, vg] := .inl (.inl e)
        simp only [Tm.height, Tm.size] at hh h65 hz
        have qq : GivesTm H Q (if j < f.size then Tm.ap (f.step j) g else Tm.ap f (g.step (j - f.size))) := q
        have hr1 : (if j < f.size then f.redAt j else g.redAt (j - f.size)) = true := hr0
        refine ⟨_, rfl, a, _, 0, _, rfl, rfl, hS, atI_nat (j := 0) rfl, rfl, _, rfl, ifF (by decide +kernel) ?_⟩
        refine ⟨_, rfl, a, _, 1, _, rfl, rfl, hS, atI_nat (j := 1) rfl, vf, f, rfl, hf, by omega, by omega, fun H1 p1 ws s1 e1 hw => ?_⟩
        have hlen : ws.length = f.size := by rw [hw.length, Tm.parts_length]
        have hS1 : SqT K H1 a [.str "call", vf, vg] := .inl (.inl (s1 _ _ e))
        refine ⟨p1, ws, rfl, .inl (.inl (.inl e1)), ?_⟩
        rw [hlen]
        refine ⟨_, rfl, _, rfl, _, _, rfl, rfl, _, rfl, ite2 (fun h => ?_) (fun h => ?_)⟩
        · have hj : j < f.size := by have := of_decide_eq_true h; omega
          rw [if_pos hj] at qq hr1
          refine ⟨_, rfl, a, _, 1, _, rfl, rfl, hS1, atI_nat (j := 1) rfl, _, rfl, _, _, rfl, rfl, ?_⟩
          refine ⟨vf, f, j, ?_, hf.mono (Same.tups s1), hr1, by omega, by omega, by omega, fun H2 v2 s2 h2 => ?_⟩
          · show [vf, V.int (((j + 1 : Nat) : Int) - 1)] = _
            rw [ej]
          · have hS2 : SqT K H2 a [.str "call", vf, vg] := .inl (.inl (s2 _ _ (s1 _ _ e)))
            refine ⟨_, rfl, a, _, 2, _, rfl, rfl, hS2, atI_nat (j := 2) rfl, ln3, fun p1 np => ?_⟩
            exact qq _ _ (s1.trans (s2.trans (same_upd np))) (TmAt.ap_new np h2 (hg.mono (Same.tups (s1.trans s2))))
        · have hj : ¬ j < f.size := by have := of_decide_eq_false (Bool.eq_false_iff.mpr h); omega
          rw [if_neg hj] at qq hr1
          refine ⟨_, rfl, a, _, 1, _, rfl, rfl, hS1, atI_nat (j := 1) rfl, ?_⟩
          refine ⟨_, rfl, a, _, 2, _, rfl, rfl, hS1, atI_nat (j := 2) rfl, _, rfl, _, _, rfl, rfl, _, rfl, _, _, rfl, rfl, ?_⟩
          refine ⟨vg, g, j - f.size, ?_, hg.mono (Same.tups s1), hr1, by omega, by omega, by omega, fun H2 v2 s2 h2 => ?_⟩
          · show [vg, V.int (((j + 1 : Nat) : Int) - 1 - (f.size : Int))] = _
            rw [show ((j + 1 : Nat) : Int) - 1 - (f.size : Int) = ((j - f.size : Nat) : Int) by omega]
          · exact ⟨ln3, fun p1 np => qq _ _ (s1.trans (s2.trans (same_upd np))) (TmAt.ap_new np (hf.mono (Same.tups (s1.trans s2))) h2)⟩
end
end Sf
/-! SfL3: the law's terms: calls, names, numbers, those that are known. -/
namespace Sf
open PySem PySem.Spec PyProof.Rows L2
open C8 (Cal pe_c)
open Tm (Small)
/-- this expression gives this term, in whatever heap behind H -/
def EvT (te : TE) (σ : L2.St) (H : Hp) (t : Tm) : Prop := ∀ H1 Q, Same H H1 → GivesTm H1 Q t → te σ H1 Q
def EvTs (ta : TA) (σ : L2.St) (H : Hp) (ts : List Tm) : Prop := ∀ (H1 : Hp) (Q : List V → Hp → Prop), Same H H1 → (∀ H' vs, Same H1 H' → TmsAt H' vs ts → Q vs H') → ta σ H1 Q
theorem EvT.mono {te : TE} {σ : L2.St} {H H' : Hp} {t : Tm} (h : EvT te σ H t) (s : Same H H') : EvT te σ H' t := fun H1 Q s1 q => h H1 Q (s.trans s1) q
theorem ev_var {σ : L2.St} {H : Hp} {t : Tm} {v : V} {i : Nat} (h : σ[i]? = some (some v)) (ht : TmAt H v t) : EvT (tVar i) σ H t := fun H1 Q s1 q => ⟨v, h, q _ _ (Same.refl _) (ht.mono (Same.tups s1))⟩
theorem evs_nil {σ : L2.St} {H : Hp} : EvTs tNil σ H [] := fun H1 Q s1 q => q _ _ (Same.refl _) trivial
theorem evs_cons {te : TE} {ta : TA} {σ : L2.St} {H : Hp} {t : Tm} {ts : List Tm} (h : EvT te σ H t) (hs : EvTs ta σ H ts) : EvTs (tCons te ta) σ H (t :: ts) := fun H1 Q s1 q =>
  h H1 _ s1 fun H2 v s2 hv => hs H2 _ (s1.trans s2) fun H3 vs s3 hvs => q H3 _ (s2.trans s3) ⟨hv.mono (Same.tups s3), hvs⟩
theorem ev_nm {σ : L2.St} {H : Hp} {n : Nat} : EvT (tTup (tCons (tC (.str "name")) (tCons (tC (.int (n : Int))) tNil))) σ H (.nm n) := fun H1 Q s1 q =>
  ⟨ln2, fun p np => q _ _ (same_upd np) TmAt.nm_new⟩
theorem ev_lt {σ : L2.St} {H : Hp} {c : Bool} : EvT (tTup (tCons (tC (.str "letter")) (tCons (tC (.str (letS c))) tNil))) σ H (.lt c) := fun H1 Q s1 q =>
  ⟨ln2, fun p np => q _ _ (same_upd np) ⟨p, rfl, upd_same⟩⟩
theorem ev_fn {te : TE} {σ : L2.St} {H : Hp} {b : Tm} (h : EvT te σ H b) : EvT (tTup (tCons (tC (.str "fun")) (tCons te tNil))) σ H (.fn b) := fun H1 Q s1 q =>
  h H1 _ s1 fun H2 v s2 hv => ⟨ln2, fun p np => q _ _ (s2.trans (same_upd np)) (TmAt.fn_new np hv)⟩
theorem ev_ap {te ta : TE} {σ : L2.St} {H : Hp} {f a : Tm} (hf : EvT te σ H f) (ha : EvT ta σ H a) : EvT (tTup (tCons (tC (.str "call")) (tCons te (tCons ta tNil)))) σ H (.ap f a) := fun H1 Q s1 q =>
  hf H1 _ s1 fun H2 v s2 hv => ha H2 _ (s1.trans s2) fun H3 u s3 hu => ⟨ln3, fun p np => q _ _ (s2.trans (s3.trans (same_upd np))) (TmAt.ap_new np (hv.mono (Same.tups s3)) hu)⟩
/-- x = a term, and on -/
theorem seq_set {te : TE} {i : Nat} {b : TS} {D : Ends} {σ : L2.St} {H : Hp} {t : Tm} (h : EvT te σ H t) (k : ∀ H' v, Same H H' → TmAt H' v t → b D (σ.set i (some v)) H') : tSeq (tAsg te (gName i)) b D σ H := h H _ (Same.refl _) k
theorem seq_tup {ta : TA} {g : TG} {b : TS} {D : Ends} {σ : L2.St} {H : Hp} {ts : List Tm} (hs : EvTs ta σ H ts) (hl : ts.length ≤ 1000) (k : ∀ H' vs p, Same H H' → TmsAt H' vs ts → H' p = some (.tup vs) → g (.ref p) σ H' fun σ' H'' => b D σ' H'') : tSeq (tAsg (tTup ta) g) b D σ H :=
  hs H _ (Same.refl _) fun H1 vs s1 hv => ⟨by rw [hv.length]; exact le_line (by omega), fun p np => k _ vs p (s1.trans (same_upd np)) (hv.mono (tups_upd np)) upd_same⟩
/-- x = [terms], and on -/
theorem seq_lst {ta : TA} {j : Nat} {b : TS} {D : Ends} {σ : L2.St} {H : Hp} {ts : List Tm} (hs : EvTs ta σ H ts) (hl : ts.length ≤ 1000) (k : ∀ H' vs p, Same H H' → TmsAt H' vs ts → H' p = some (.lst vs) → b D (σ.set j (some (.ref p))) H') : tSeq (tAsg (tLst ta) (gName j)) b D σ H :=
  hs H _ (Same.refl _) fun H1 vs s1 hv => ⟨by rw [hv.length]; exact le_line (by omega), fun p np => k _ vs p (s1.trans (same_upd np)) (hv.mono (tups_upd np)) upd_same⟩
/-- x = y + [terms], and on -/
theorem seq_cat {ta : TA} {j : Nat} {b : TS} {D : Ends} {σ : L2.St} {H : Hp} {ts us : List Tm} {i : Nat} {r : Addr} {ws : List V} (hi : σ[i]? = some (some (.ref r))) (er : H r = some (.lst ws)) (hw : TmsAt H ws us) (hs : EvTs ta σ H ts) (hl : ts.length ≤ 1000) (hl2 : us.length ≤ 1000)
    (k : ∀ H' vs p, Same H H' → TmsAt H' vs (us ++ ts) → H' p = some (.lst vs) → b D (σ.set j (some (.ref p))) H') : tSeq (tAsg (tOp rCat (tVar i) (tLst ta)) (gName j)) b D σ H :=
  ⟨_, hi, hs H _ (Same.refl _) fun H1 vs s1 hv => ⟨by rw [hv.length]; exact le_line (by omega), fun p np => ⟨r, p, ws, vs, rfl, rfl, (same_upd np) _ _ (s1 _ _ er), upd_same, by rw [hv.length, hw.length]; exact le_line (by omega), fun p2 np2 =>
    k _ _ p2 (s1.trans ((same_upd np).trans (same_upd np2))) ((hw.mono (Same.tups (s1.trans ((same_upd np).trans (same_upd np2))))).append (hv.mono (Same.tups ((same_upd np).trans (same_upd np2))))) upd_same⟩⟩⟩
theorem seq_par3 {ta : TA} {b : TS} {D : Ends} {σ : L2.St} {H : Hp} {t1 t2 t3 : Tm} {i j l : Nat} (hs : EvTs ta σ H [t1, t2, t3]) (k : ∀ H' u v w, Same H H' → TmAt H' u t1 → TmAt H' v t2 → TmAt H' w t3 → b D (((σ.set i (some u)).set j (some v)).set l (some w)) H') : tSeq (tPar3 i j l ta) b D σ H :=
  hs H _ (Same.refl _) fun H1 vs s1 hv => match vs, hv with
    | [u, v, w], ⟨h1, h2, h3, _⟩ => ⟨u, v, w, rfl, k H1 u v w s1 h1 h2 h3⟩
section
variable {P : Program} {w : World} {K : PySem.W.Frag} {mg : Str → Option Value} {base : Heap}
/-! ### calls, names, numbers -/
def spLCall : Sp := fun vs H Q _ => ∃ v t p us ts, vs = [v, .ref p] ∧ TmAt H v t ∧ H p = some (.lst us) ∧ TmsAt H us ts ∧ GivesTm H Q (t.calls ts)
theorem cal_law_call (D : DefB K mg "_law_call" s_law_call ["_law_first", "_law_others"]) : Cal P w K mg base 1 "_law_call" spLCall [] := by
  refine D.cal sc_law_call (fun vs H Q E h => ?_) (fun f cdv A outer s H vs Q E hr h => ?_)
  · obtain ⟨v, t, p, us, ts, rfl, _⟩ := h
    rfl
  obtain ⟨v, t, p, us, ts, rfl, ht, ep, hu, q⟩ := h
  refine ⟨_, (pss_cons (ps_for PassesOwn.never rfl (pi_list (pv 1)) (pg_name (i := 2) sc_law_call.nd rfl (.inl rfl))
  (pss_one (ps_set (i := 0) sc_law_call.nd rfl (.inl rfl) (pe_tup (pa_cons pe_str (pa_cons (pv 0) (pa_cons (pv 2) pa_nil)))))))
  (pss_one (ps_ret (pv 0)))), ?_⟩
  refine ⟨_, rfl, p, rfl, ⟨_, .inl (.inl ep)⟩, ?_⟩
  refine for_it walk_list (fun i σ H2 => ∃ v2 y, σ = [some v2, some (.ref p), y] ∧ Same H H2 ∧ TmAt H2 v2 (t.calls (ts.take i))) ⟨v, none, rfl, Same.refl _, ht⟩ (fun i σ H2 _ h => by obtain ⟨_, _, _, s2, _⟩ := h; exact .inl (.inl (s2 _ _ ep))) (fun i x σ H2 H3 hi h y => ?_) (fun σ H2 h => ?_)
  · obtain ⟨v2, y2, rfl, s2, h2⟩ := h
    obtain ⟨rfl, ex⟩ := y
    obtain ⟨u, eu, hx⟩ := hu.get ex
    refine ⟨_, rfl, _, rfl, ln3, fun p1 np1 => ⟨_, _, rfl, s2.trans (same_upd np1), ?_⟩⟩
    rw [(cutL eu).1, Tm.calls, List.foldl_append]
    exact TmAt.ap_new np1 h2 (hx.mono (Same.tups s2))
  · obtain ⟨v2, y2, rfl, s2, h2⟩ := h
    rw [hu.length, List.take_length] at h2
    exact ⟨_, rfl, q _ _ s2 h2⟩
theorem ev_call {te : TE} {ta : TA} {σ : L2.St} {H : Hp} {f : Tm} {ts : List Tm} {E : XK} (hf : EvT te σ H f) (hs : EvTs ta σ H ts) (hl : ts.length ≤ 1000) : EvT (tCall spLCall [] E (tCons te (tCons (tLst ta) tNil))) σ H (f.calls ts) := fun H1 Q s1 q =>
  hf H1 _ s1 fun H2 v s2 hv => hs H2 _ (s1.trans s2) fun H3 us s3 hu => ⟨by rw [hu.length]; exact le_line (by omega), fun p np =>
    ⟨v, f, p, us, ts, rfl, hv.mono (Same.tups (s3.trans (same_upd np))), upd_same, hu.mono (tups_upd np), fun H' v' s' h' => q _ _ (s2.trans (s3.trans ((same_upd np).trans s'))) h'⟩⟩
theorem fns_succ (n : Nat) (t : Tm) : Tm.fns (n + 1) t = .fn (Tm.fns n t) := rfl
def spLNames : Sp := fun vs H Q _ => ∃ (m n : Nat) (ns : List Nat) (p : Addr), vs = [.int (m : Int), .ref p] ∧ H p = some (.lst (wv (n :: ns))) ∧ ns.length ≤ 1000 ∧ m ≤ 1000 ∧ GivesTm H Q (Tm.namesT m n ns)
theorem cal_law_names (D : DefB K mg "_law_names" s_law_names ["_law_many", "_law_names_here"]) (c_law_call : Cal P w K mg base 1 "_law_call" spLCall []) (m_range : mg "range" = none) : Cal P w K mg base 2 "_law_names" spLNames [] := by
  refine D.cal sc_law_names (fun vs H Q E h => ?_) (fun f cdv A outer s H vs Q E hr h => ?_)
  · obtain ⟨m, n, ns, p, rfl, _⟩ := h
    rfl
  obtain ⟨m, n, ns, p, rfl, ep, hl, hm, q⟩ := h
  refine ⟨_, (pss_cons (ps_set (i := 2) sc_law_names.nd rfl (.inl rfl) (C8.pe_c c_law_call hr (by omega) (by rfl) (pa_cons (pe_tup (pa_cons pe_str (pa_cons (pe_ix ix_list (pv 1) pe_int (fun _ _ => rfl)) pa_nil))) (pa_cons (pe_lc (own := [("_law_name", 4)]) (g := gName 4) (tt := tYes) rfl sc_law_names.nd (pi_list (pe_slice sl_list (pv 1) (po_some pe_int) po_none)) (blkOk_by (own := [("_law_name", 4)]) (N := ["_law_many", "_law_names_here", "_law_found", "_law_turn", "_law_name"]) (sc := defScope s_law_names) (by decide +kernel)) (fun _ _ _ _ _ => (pg_name (i := 4) sc_law_names.nd rfl (.inl rfl))) (fun _ _ _ _ _ => pts_nil) (fun _ _ _ _ _ => (pe_tup (pa_cons pe_str (pa_cons (pv 4) pa_nil))))) pa_nil))))
  (pss_cons (ps_for PassesOwn.never rfl (pi_range1 (by rfl) m_range (pa_cons (pv 0) pa_nil)) (pg_name (i := 3) sc_law_names.nd rfl (.inl rfl))
  (pss_one (ps_set (i := 2) sc_law_names.nd rfl (.inl rfl) (pe_tup (pa_cons pe_str (pa_cons (pv 2) pa_nil))))))
  (pss_one (ps_ret (pv 2))))), ?_⟩
  refine ⟨_, rfl, p, _, 0, .int (n : Int), rfl, rfl, .inl (.inl ep), atI_nat (j := 0) rfl, ln2, fun p1 np1 => ?_⟩
  have s1 : Same H (upd H p1 (.tup [.str "name", .int (n : Int)])) := same_upd np1
  have ec : cutV (wv (n :: ns)) (some 1) none = wv ns := (cut1' (x := .int (n : Int)) (r := wv ns)).2
  refine ⟨_, rfl, 1, rfl, p, _, rfl, .inl (.inl (s1 _ _ ep)), fun p2 np2 => ?_⟩
  rw [ec]
  have s2 : Same _ (upd (upd H p1 (.tup [.str "name", .int (n : Int)])) p2 (.lst (wv ns))) := same_upd np2
  generalize hH2 : upd (upd H p1 (.tup [.str "name", .int (n : Int)])) p2 (.lst (wv ns)) = H2 at s2
  have e2 : H2 p2 = some (.lst (wv ns)) := by rw [← hH2, upd_same]
  have h1 : TmAt H2 (.ref p1) (.nm n) := ⟨p1, rfl, s2 _ _ upd_same⟩
  refine ⟨p2, rfl, ⟨_, .inl (.inl e2)⟩, fun D nD => ?_⟩
  refine lc_it walk_list (fun i H3 => Same H2 H3 ∧ ∃ us, H3 D = some (.lst us) ∧ TmsAt H3 us ((ns.take i).map Tm.nm)) ⟨same_upd nD, [], upd_same, trivial⟩ (fun i H3 _ h => .inl (.inl (h.1 _ _ e2))) (fun i x H3 H4 hi h y => ?_) (fun H3 h => ?_)
  · obtain ⟨s3, us, eD, hu⟩ := h
    obtain ⟨rfl, ex⟩ := y
    obtain ⟨k, ek, rfl⟩ := wv_get' ex
    obtain ⟨et, _⟩ := take_cut ek
    have htl : (ns.take i).length ≤ ns.length := by rw [List.length_take]; omega
    refine ⟨rfl, _, rfl, ln2, fun p5 np5 => ?_⟩
    have s5 : Same H4 (upd H4 p5 (.tup [.str "name", .int (k : Int)])) := same_upd np5
    refine ⟨us, s5 _ _ eD, ?_, ?_, us ++ [.ref p5], upd_same, ?_⟩
    · rw [hu.length, List.length_map]
      exact lt_line (by omega)
    · exact (fun b o e => by
        have nb : b ≠ D := ne_of_none e nD
        rw [upd_ne nb]
        exact s5 _ _ (s3 _ _ e))
    · have tp : Tups H4 (upd (upd H4 p5 (.tup [.str "name", .int (k : Int)])) D (.lst (us ++ [.ref p5]))) := fun a xs e => by
        have nb : a ≠ D := fun e2 => by rw [e2, eD] at e; cases e
        rw [upd_ne nb]
        exact s5 _ _ e
      have pD : p5 ≠ D := fun e2 => by rw [e2, eD] at np5; cases np5
      rw [et, List.map_append]
      exact (hu.mono tp).append ⟨⟨p5, rfl, by rw [upd_ne pD, upd_same]⟩, trivial⟩
  · obtain ⟨s3, us, eD, hu⟩ := h
    rw [wv_length, List.take_length] at hu
    refine ⟨_, _, D, us, _, rfl, h1.mono (Same.tups s3), eD, hu, fun H4 v4 s4 h4 => ?_⟩
    have s04 : Same H H4 := s1.trans (s2.trans (s3.trans s4))
    refine ⟨_, rfl, _, rfl, by omega, by omega, ?_⟩
    have hmn : ((m : Int)).toNat = m := by omega
    rw [hmn]
    refine for_it walk_range (fun i σ H5 => ∃ v5 y3 y4, σ = [some (.int (m : Int)), some (.ref p), some v5, y3, y4] ∧ Same H H5 ∧ TmAt H5 v5 (Tm.fns i ((Tm.nm n).calls (ns.map Tm.nm)))) ⟨_, _, _, rfl, s04, h4⟩ (fun _ _ _ _ _ => trivial) (fun i x σ H5 H6 hi h y => ?_) (fun σ H5 h => ?_)
    · obtain ⟨v5, y3, y4, rfl, s5, h5⟩ := h
      obtain ⟨rfl, rfl⟩ := y
      exact ⟨_, rfl, ln2, fun p7 np7 => ⟨_, _, _, rfl, s5.trans (same_upd np7), TmAt.fn_new np7 h5⟩⟩
    · obtain ⟨v5, y3, y4, rfl, s5, h5⟩ := h
      exact ⟨_, rfl, q _ _ s5 h5⟩
def spLNumber : Sp := fun vs H Q _ => ∃ (m : Nat), vs = [.int (m : Int)] ∧ m ≤ 1000 ∧ GivesTm H Q (Tm.numT m)
theorem cal_law_number (D : DefB K mg "_law_number" s_law_number ["_law_many"]) (m_range : mg "range" = none) : Cal P w K mg base 1 "_law_number" spLNumber [] := by
  refine D.cal sc_law_number (fun vs H Q E h => ?_) (fun f cdv A outer s H vs Q E hr h => ?_)
  · obtain ⟨m, rfl, _⟩ := h
    rfl
  obtain ⟨m, rfl, hm, q⟩ := h
  refine ⟨_, (pss_cons (ps_set (i := 1) sc_law_number.nd rfl (.inl rfl) (pe_tup (pa_cons pe_str (pa_cons pe_int pa_nil))))
  (pss_cons (ps_for PassesOwn.never rfl (pi_range1 (by rfl) m_range (pa_cons (pv 0) pa_nil)) (pg_name (i := 2) sc_law_number.nd rfl (.inl rfl))
  (pss_one (ps_set (i := 1) sc_law_number.nd rfl (.inl rfl) (pe_tup (pa_cons pe_str (pa_cons (pe_tup (pa_cons pe_str (pa_cons pe_int pa_nil))) (pa_cons (pv 1) pa_nil)))))))
  (pss_one (ps_ret (pe_tup (pa_cons pe_str (pa_cons (pe_tup (pa_cons pe_str (pa_cons (pv 1) pa_nil))) pa_nil))))))), ?_⟩
  refine ⟨ln2, fun p0 np0 => ?_⟩
  refine ⟨_, rfl, _, rfl, by omega, by omega, ?_⟩
  have hmn : ((m : Int)).toNat = m := by omega
  rw [hmn]
  refine for_it walk_range (fun i σ H5 => ∃ v5 y2, σ = [some (.int (m : Int)), some v5, y2] ∧ Same H H5 ∧ TmAt H5 v5 (Tm.numBody i)) ⟨_, _, rfl, same_upd np0, ⟨p0, rfl, upd_same⟩⟩ (fun _ _ _ _ _ => trivial) (fun i x σ H5 H6 hi h y => ?_) (fun σ H5 h => ?_)
  · obtain ⟨v5, y2, rfl, s5, h5⟩ := h
    obtain ⟨rfl, rfl⟩ := y
    refine ⟨ln2, fun p6 np6 => ⟨_, rfl, ln3, fun p7 np7 => ⟨_, _, rfl, s5.trans ((same_upd np6).trans (same_upd np7)), ?_⟩⟩⟩
    exact TmAt.ap_new np7 ⟨p6, rfl, upd_same⟩ (h5.mono (tups_upd np6))
  · obtain ⟨v5, y2, rfl, s5, h5⟩ := h
    refine ⟨_, rfl, ln2, fun p6 np6 => ⟨ln2, fun p7 np7 => ?_⟩⟩
    exact q _ _ (s5.trans ((same_upd np6).trans (same_upd np7))) (TmAt.fn_new np7 (TmAt.fn_new np6 h5))
/-- names and numbers that are written -/
theorem ev_names {σ : L2.St} {H : Hp} {m n : Nat} {ns : List Nat} {E : XK} {tl : TA} (hl : ns.length ≤ 1000) (hm : m ≤ 1000) (htl : ∀ (σ : L2.St) (H : Hp) (Q : List V → Hp → Prop), Q (wv (n :: ns)) H → tl σ H Q) : EvT (tCall spLNames [] E (tCons (tC (.int (m : Int))) (tCons (tLst tl) tNil))) σ H (Tm.namesT m n ns) := fun H1 Q s1 q =>
  htl _ _ _ ⟨by rw [wv_length, List.length_cons]; exact le_line (by omega), fun p np => ⟨m, n, ns, p, rfl, upd_same, hl, hm, fun H' v' s' h' => q _ _ ((same_upd np).trans s') h'⟩⟩
theorem ev_number {σ : L2.St} {H : Hp} {m : Nat} {E : XK} (hm : m ≤ 1000) : EvT (tCall spLNumber [] E (tCons (tC (.int (m : Int))) tNil)) σ H (Tm.numT m) := fun H1 Q s1 q => ⟨m, rfl, hm, q⟩
def spLOmega : Sp := fun vs H Q _ => vs = [] ∧ GivesTm H Q Tm.tOmega
theorem cal_law_omega (D : DefB K mg "_law_omega" s_law_omega []) : Cal P w K mg base 1 "_law_omega" spLOmega [] := by
  refine D.cal sc_law_omega (fun vs H Q E h => ?_) (fun f cdv A outer s H vs Q E hr h => ?_)
  · obtain ⟨rfl, _⟩ := h
    rfl
  obtain ⟨rfl, q⟩ := h
  refine ⟨_, (pss_cons (ps_set (i := 0) sc_law_omega.nd rfl (.inl rfl) (pe_tup (pa_cons pe_str (pa_cons (pe_tup (pa_cons pe_str (pa_cons (pe_tup (pa_cons pe_str (pa_cons pe_int pa_nil))) (pa_cons (pe_tup (pa_cons pe_str (pa_cons pe_int pa_nil))) pa_nil)))) pa_nil))))
  (pss_one (ps_ret (pe_tup (pa_cons pe_str (pa_cons (pv 0) (pa_cons (pv 0) pa_nil))))))), ?_⟩
  refine seq_set (ev_fn (ev_ap (ev_nm (n := 0)) (ev_nm (n := 0)))) fun H1 v1 s1 h1 => ?_
  exact (ev_ap (ev_var rfl h1) (ev_var rfl h1)) H1 _ (Same.refl _) fun H2 v2 s2 h2 => q _ _ (s1.trans s2) h2
/-! ### those that are known -/
structure Vars (σ : L2.St) (H : Hp) : Prop where
  a : EvT (tVar 1) σ H Tm.tA
  b : EvT (tVar 2) σ H Tm.tB
  one : EvT (tVar 3) σ H Tm.tOne
  k : EvT (tVar 4) σ H Tm.tK
  pair : EvT (tVar 5) σ H Tm.tPair
  two : EvT (tVar 6) σ H Tm.tTwo
  swap : EvT (tVar 7) σ H Tm.tSwap
theorem vars_of {c : Addr} {H H' : Hp} {va vb v1 vk vp vt vs : V} {y : Option V} (s : Same H H') (ha : TmAt H va Tm.tA) (hb : TmAt H vb Tm.tB) (h1 : TmAt H v1 Tm.tOne) (hk : TmAt H vk Tm.tK) (hp : TmAt H vp Tm.tPair) (ht : TmAt H vt Tm.tTwo) (hs : TmAt H vs Tm.tSwap) :
    Vars [some (.ref c), some va, some vb, some v1, some vk, some vp, some vt, some vs, y] H' :=
  ⟨ev_var rfl (ha.mono (Same.tups s)), ev_var rfl (hb.mono (Same.tups s)), ev_var rfl (h1.mono (Same.tups s)), ev_var rfl (hk.mono (Same.tups s)), ev_var rfl (hp.mono (Same.tups s)), ev_var rfl (ht.mono (Same.tups s)), ev_var rfl (hs.mono (Same.tups s))⟩
def spKnown : Sp := fun vs H Q _ => ∃ c, vs = [.ref c] ∧ CupAt H c ∧ ∀ H' v t, SameC c H H' → CupAt H' c → t ∈ Tm.knowns → TmAt H' v t → Q v H'
set_option maxHeartbeats 4000000 in
theorem cal_law_known (D : DefB K mg "_law_known" s_law_known ["_law_cup_here"]) (c_law_call : Cal P w K mg base 1 "_law_call" spLCall []) (c_law_names : Cal P w K mg base 2 "_law_names" spLNames []) (c_law_number : Cal P w K mg base 1 "_law_number" spLNumber []) (c_law_some : Cal P w K mg base 2 "_law_some" spSome []) :
    Cal P w K mg base 3 "_law_known" spKnown [] := by
  refine D.cal sc_law_known (fun vs H Q E h => ?_) (fun f cdv A outer s H vs Q E hr h => ?_)
  · obtain ⟨c, rfl, _⟩ := h
    rfl
  obtain ⟨c, rfl, hc, q⟩ := h
  refine ⟨_, (pss_cons (ps_asg (pe_tup (pa_cons (pe_tup (pa_cons pe_str (pa_cons pe_str pa_nil))) (pa_cons (pe_tup (pa_cons pe_str (pa_cons pe_str pa_nil))) (pa_cons (C8.pe_c c_law_names hr (by omega) (by rfl) (pa_cons pe_int (pa_cons (pe_lst (pa_cons pe_int pa_nil)) pa_nil))) (pa_cons (C8.pe_c c_law_names hr (by omega) (by rfl) (pa_cons pe_int (pa_cons (pe_lst (pa_cons pe_int pa_nil)) pa_nil))) pa_nil))))) (pg_tup rfl (pgs_cons (pg_name (i := 1) sc_law_known.nd rfl (.inl rfl)) (pgs_cons (pg_name (i := 2) sc_law_known.nd rfl (.inl rfl)) (pgs_cons (pg_name (i := 3) sc_law_known.nd rfl (.inl rfl)) (pgs_cons (pg_name (i := 4) sc_law_known.nd rfl (.inl rfl)) pgs_nil))))))
  (pss_cons (ps_par3 (i := 5) (j := 6) (l := 7) (by rfl) sc_law_known.nd rfl rfl rfl (by decide) (by decide) (by decide) rfl rfl rfl (pa_cons (C8.pe_c c_law_names hr (by omega) (by rfl) (pa_cons pe_int (pa_cons (pe_lst (pa_cons pe_int (pa_cons pe_int pa_nil))) pa_nil))) (pa_cons (C8.pe_c c_law_number hr (by omega) (by rfl) (pa_cons pe_int pa_nil)) (pa_cons (C8.pe_c c_law_names hr (by omega) (by rfl) (pa_cons pe_int (pa_cons (pe_lst (pa_cons pe_int (pa_cons pe_int (pa_cons pe_int pa_nil)))) pa_nil))) pa_nil))) (by rfl))
  (pss_cons (ps_set (i := 8) sc_law_known.nd rfl (.inl rfl) (pe_lst (pa_cons (C8.pe_c c_law_call hr (by omega) (by rfl) (pa_cons (pv 3) (pa_cons (pe_lst (pa_cons (pv 1) pa_nil)) pa_nil))) (pa_cons (C8.pe_c c_law_call hr (by omega) (by rfl) (pa_cons (pv 5) (pa_cons (pe_lst (pa_cons (C8.pe_c c_law_call hr (by omega) (by rfl) (pa_cons (pv 3) (pa_cons (pe_lst (pa_cons (pv 1) pa_nil)) pa_nil))) pa_nil)) pa_nil))) (pa_cons (C8.pe_c c_law_call hr (by omega) (by rfl) (pa_cons (pv 4) (pa_cons (pe_lst (pa_cons (pv 1) (pa_cons (C8.pe_c c_law_call hr (by omega) (by rfl) (pa_cons (pv 5) (pa_cons (pe_lst (pa_cons (pv 5) pa_nil)) pa_nil))) pa_nil))) pa_nil))) (pa_cons (C8.pe_c c_law_call hr (by omega) (by rfl) (pa_cons (pv 6) (pa_cons (pe_lst (pa_cons (pv 3) (pa_cons (pv 1) pa_nil))) pa_nil))) pa_nil))))))
  (pss_cons (ps_set (i := 8) sc_law_known.nd rfl (.inl rfl) (pe_op op_cat (pv 8) (pe_lst (pa_cons (C8.pe_c c_law_call hr (by omega) (by rfl) (pa_cons (pv 6) (pa_cons (pe_lst (pa_cons (pv 6) (pa_cons (pv 3) (pa_cons (pv 2) pa_nil)))) pa_nil))) (pa_cons (C8.pe_c c_law_call hr (by omega) (by rfl) (pa_cons (pv 7) (pa_cons (pe_lst (pa_cons (pv 4) (pa_cons (pv 1) (pa_cons (pv 2) pa_nil)))) pa_nil))) (pa_cons (C8.pe_c c_law_call hr (by omega) (by rfl) (pa_cons (C8.pe_c c_law_number hr (by omega) (by rfl) (pa_cons pe_int pa_nil)) (pa_cons (pe_lst (pa_cons (pv 6) (pa_cons (pv 1) pa_nil))) pa_nil))) (pa_cons (C8.pe_c c_law_call hr (by omega) (by rfl) (pa_cons (pv 6) (pa_cons (pe_lst (pa_cons (pv 5) (pa_cons (pv 1) pa_nil))) pa_nil))) pa_nil)))))))
  (pss_cons (ps_set (i := 8) sc_law_known.nd rfl (.inl rfl) (pe_op op_cat (pv 8) (pe_lst (pa_cons (C8.pe_c c_law_call hr (by omega) (by rfl) (pa_cons (C8.pe_c c_law_names hr (by omega) (by rfl) (pa_cons pe_int (pa_cons (pe_lst (pa_cons pe_int (pa_cons pe_int pa_nil))) pa_nil))) (pa_cons (pe_lst (pa_cons (pe_tup (pa_cons pe_str (pa_cons (C8.pe_c c_law_call hr (by omega) (by rfl) (pa_cons (pv 3) (pa_cons (pe_lst (pa_cons (pe_tup (pa_cons pe_str (pa_cons pe_int pa_nil))) pa_nil)) pa_nil))) pa_nil))) pa_nil)) pa_nil))) (pa_cons (pe_tup (pa_cons pe_str (pa_cons (C8.pe_c c_law_call hr (by omega) (by rfl) (pa_cons (pv 5) (pa_cons (pe_lst (pa_cons (C8.pe_c c_law_call hr (by omega) (by rfl) (pa_cons (pv 3) (pa_cons (pe_lst (pa_cons (pe_tup (pa_cons pe_str (pa_cons pe_int pa_nil))) pa_nil)) pa_nil))) pa_nil)) pa_nil))) pa_nil))) pa_nil)))))
  (pss_cons (ps_set (i := 8) sc_law_known.nd rfl (.inl rfl) (pe_op op_cat (pv 8) (pe_lst (pa_cons (C8.pe_c c_law_call hr (by omega) (by rfl) (pa_cons (pv 5) (pa_cons (pe_lst (pa_cons (C8.pe_c c_law_call hr (by omega) (by rfl) (pa_cons (pv 5) (pa_cons (pe_lst (pa_cons (pv 3) pa_nil)) pa_nil))) pa_nil)) pa_nil))) (pa_cons (C8.pe_c c_law_call hr (by omega) (by rfl) (pa_cons (C8.pe_c c_law_names hr (by omega) (by rfl) (pa_cons pe_int (pa_cons (pe_lst (pa_cons pe_int (pa_cons pe_int (pa_cons pe_int pa_nil)))) pa_nil))) (pa_cons (pe_lst (pa_cons (pv 4) (pa_cons (pv 1) (pa_cons (C8.pe_c c_law_call hr (by omega) (by rfl) (pa_cons (pv 3) (pa_cons (pe_lst (pa_cons (pv 2) pa_nil)) pa_nil))) pa_nil)))) pa_nil))) pa_nil)))))
  (pss_one (ps_ret (C8.pe_c c_law_some hr (by omega) (by rfl) (pa_cons (pv 0) (pa_cons (pv 8) pa_nil))))))))))), ?_⟩
  -- a, b, one, k
  refine seq_tup (evs_cons (ev_lt (c := false)) (evs_cons (ev_lt (c := true)) (evs_cons (ev_names (m := 1) (n := 0) (ns := []) (by decide) (by decide) (fun _ _ _ q => q)) (evs_cons (ev_names (m := 2) (n := 1) (ns := []) (by decide) (by decide) (fun _ _ _ q => q)) evs_nil)))) (by decide) fun H1 vs1 p1 s1 hv1 e1 => ?_
  match vs1, hv1, e1 with
  | [va, vb, v1, vk], ⟨ha, hb, h1, hk, _⟩, e1 =>
  refine ⟨p1, _, rfl, .inl (.inl e1), rfl, _, _, rfl, _, _, rfl, _, _, rfl, _, _, rfl, rfl, ?_⟩
  -- pair, twice, swap
  refine seq_par3 (evs_cons (ev_names (m := 1) (n := 0) (ns := [0]) (by decide) (by decide) (fun _ _ _ q => q)) (evs_cons (ev_number (m := 2) (by decide)) (evs_cons (ev_names (m := 3) (n := 2) (ns := [0, 1]) (by decide) (by decide) (fun _ _ _ q => q)) evs_nil))) fun H2 vp vt vs s2 hp ht hs => ?_
  replace ha := ha.mono (Same.tups s2)
  replace hb := hb.mono (Same.tups s2)
  replace h1 := h1.mono (Same.tups s2)
  replace hk := hk.mono (Same.tups s2)
  have V2 := fun H' y (s : Same H2 H') => vars_of (c := c) (y := y) s ha hb h1 hk hp ht hs
  have X := V2 H2 none (Same.refl _)
  refine seq_lst (evs_cons (ev_call X.one (evs_cons X.a evs_nil) (by simp)) (evs_cons (ev_call X.pair (evs_cons (ev_call X.one (evs_cons X.a evs_nil) (by simp)) evs_nil) (by simp))
    (evs_cons (ev_call X.k (evs_cons X.a (evs_cons (ev_call X.pair (evs_cons X.pair evs_nil) (by simp)) evs_nil)) (by simp)) (evs_cons (ev_call X.two (evs_cons X.one (evs_cons X.a evs_nil)) (by simp)) evs_nil)))) (by simp) fun H3 ws3 p3 s3 hw3 e3 => ?_
  have X := V2 H3 (some (.ref p3)) s3
  refine seq_cat rfl e3 hw3 (evs_cons (ev_call X.two (evs_cons X.two (evs_cons X.one (evs_cons X.b evs_nil))) (by simp)) (evs_cons (ev_call X.swap (evs_cons X.k (evs_cons X.a (evs_cons X.b evs_nil))) (by simp))
    (evs_cons (ev_call (ev_number (m := 3) (by decide)) (evs_cons X.two (evs_cons X.a evs_nil)) (by simp)) (evs_cons (ev_call X.two (evs_cons X.pair (evs_cons X.a evs_nil)) (by simp)) evs_nil)))) (by simp) (by simp) fun H4 ws4 p4 s4 hw4 e4 => ?_
  have X := V2 H4 (some (.ref p4)) (s3.trans s4)
  refine seq_cat rfl e4 hw4 (evs_cons (ev_call (ev_names (m := 1) (n := 0) (ns := [0]) (by decide) (by decide) (fun _ _ _ q => q)) (evs_cons (ev_fn (ev_call X.one (evs_cons (ev_nm (n := 0)) evs_nil) (by simp))) evs_nil) (by simp))
    (evs_cons (ev_fn (ev_call X.pair (evs_cons (ev_call X.one (evs_cons (ev_nm (n := 0)) evs_nil) (by simp)) evs_nil) (by simp))) evs_nil)) (by simp) (by simp) fun H5 ws5 p5 s5 hw5 e5 => ?_
  have X := V2 H5 (some (.ref p5)) (s3.trans (s4.trans s5))
  refine seq_cat rfl e5 hw5 (evs_cons (ev_call X.pair (evs_cons (ev_call X.pair (evs_cons X.one evs_nil) (by simp)) evs_nil) (by simp))
    (evs_cons (ev_call (ev_names (m := 3) (n := 2) (ns := [0, 0]) (by decide) (by decide) (fun _ _ _ q => q)) (evs_cons X.k (evs_cons X.a (evs_cons (ev_call X.one (evs_cons X.b evs_nil) (by simp)) evs_nil))) (by simp)) evs_nil)) (by simp) (by simp) fun H6 ws6 p6 s6 hw6 e6 => ?_
  have sA : Same H H6 := s1.trans (s2.trans (s3.trans (s4.trans (s5.trans s6))))
  have hc6 := hc.mono sA
  have hne : p6 ≠ c := fun e => by
    obtain ⟨x, y, ec, _⟩ := hc6
    rw [e, ec] at e6
    have e7 := hw6.length
    cases Option.some.inj e6
    cases e7
  have hlen := hw6.length
  refine ⟨_, rfl, _, rfl, c, p6, ws6, rfl, hc6, hne, e6, fun e => (by rw [e] at hlen; cases hlen), (by rw [hlen]; exact (by decide : (12 : Nat) < 1000000)), fun H7 i x s7 hc7 ex => ?_⟩
  obtain ⟨t, it, hx⟩ := hw6.get ex
  exact q H7 x t (SameC.trans (Same.cup sA) s7) hc7 (List.mem_of_getElem? it) (hx.mono (SameC.tups s7 hc6))
end
end Sf
/-! SfL4: what the law draws, and its own leftmost way. -/
namespace Sf
open PySem PySem.Spec PyProof.Rows L2
open C8 (Cal pe_c)
open Tm (Small)
section
variable {P : Program} {w : World} {K : PySem.W.Frag} {mg : Str → Option Value} {base : Heap}
/-- a term is handed back, the cup turned -/
def GivesC (c : Addr) (H : Hp) (Q : VK) (S : Tm → Prop) : Prop := ∀ H' v t, SameC c H H' → CupAt H' c → S t → TmAt H' v t → Q v H'
/-! ### affine -/
def spAffine (n : Nat) : Sp := fun vs H Q _ => ∃ c p, ∃ ns : List Nat, ∃ d : Nat, vs = [.ref c, .ref p, .int (d : Int)] ∧ CupAt H c ∧ p ≠ c ∧ H p = some (.lst (wv ns)) ∧ ns.length + d ≤ 900 ∧ d < n ∧ GivesC c H Q (Tm.Aff ns d)
theorem cutV_take (ns : List Nat) (k : Nat) (h : k ≤ ns.length) : cutV (wv ns) none (some (k : Int)) = wv (ns.take k) ∧ cutV (wv ns) (some (k : Int)) none = wv (ns.drop k) := by
  have hl : (wv ns).length = ns.length := wv_length ns
  have e0 : HT.sIx (wv ns).length 0 none = 0 := HT.sIx_none ..
  have e1 : HT.sIx (wv ns).length (wv ns).length none = (wv ns).length := HT.sIx_none ..
  have e2 : HT.sIx (wv ns).length (wv ns).length (some (k : Int)) = k := by
    rw [show HT.sIx (wv ns).length (wv ns).length (some (k : Int)) = min k (wv ns).length from HT.sIx_nat _ _ k, hl]
    omega
  have e3 : HT.sIx (wv ns).length 0 (some (k : Int)) = k := by
    rw [show HT.sIx (wv ns).length 0 (some (k : Int)) = min k (wv ns).length from HT.sIx_nat _ _ k, hl]
    omega
  constructor
  · unfold cutV
    rw [e0, e2, List.drop_zero, Nat.sub_zero]
    unfold wv
    rw [List.map_take]
  · unfold cutV
    rw [e1, e3]
    unfold wv
    rw [← List.map_drop, List.take_of_length_le (by rw [List.length_map, List.length_drop, List.length_map]; omega)]
/-- [0] + [n + 1 for n in a list], by what the list's reading asks -/
theorem wv_succ (ns : List Nat) : wv [0] ++ wv (ns.map (· + 1)) = wv (0 :: ns.map (· + 1)) := rfl
/-- one of the two letters -/
def teLetter : TE := tTup (tCons (tC (.str "letter")) (tCons (tCall spSome [] C8.E0 (tCons (tVar 0) (tCons (tLst (tCons (tC (.str "A")) (tCons (tC (.str "B")) tNil))) tNil))) tNil))
theorem ev_letter {σ : L2.St} {H : Hp} {Q : VK} {c : Addr} {ns : List Nat} {d : Nat} (h0 : σ[0]? = some (some (.ref c))) (hc : CupAt H c) (q : GivesC c H Q (Tm.Aff ns d)) : teLetter σ H Q := by
  refine ⟨_, h0, ln2, fun p np => ⟨c, p, [.str "A", .str "B"], rfl, hc.mono (same_upd np), hc.ne np, upd_same, by simp, (show 2 < 1000000 by decide), fun H1 i x s1 hc1 ex => ⟨ln2, fun p2 np2 => ?_⟩⟩⟩
  obtain ⟨b, rfl⟩ : ∃ b : Bool, x = .str (letS b) := by
    match i, ex with
    | 0, ex => exact ⟨false, (Option.some.inj ex).symm⟩
    | 1, ex => exact ⟨true, (Option.some.inj ex).symm⟩
    | i + 2, ex => simp at ex
  exact q _ _ (.lt b) ((Same.cup (same_upd np)).trans (SameC.trans s1 (Same.cup (same_upd np2)))) (hc1.mono (same_upd np2)) Tm.Aff.letter ⟨p2, rfl, upd_same⟩
def teLeaf (K : PySem.W.Frag) : TE := tIf (tAnd (tTest (tOp (rNeD K) (tVar 1) (tLst tNil))) (tTest (tOp (rI0 fun i j => .bl (decide (j < i))) (tCall spRoll [] C8.E0 (tCons (tVar 0) (tCons (tC (.int 4)) tNil))) (tC (.int 0)))))
  (tTup (tCons (tC (.str "name")) (tCons (tOp (rIxL K) (tVar 1) (tC (.int 0))) tNil))) teLetter
theorem ev_leaf {σ : L2.St} {H : Hp} {Q : VK} {c p : Addr} {ns : List Nat} {d : Nat} (h0 : σ[0]? = some (some (.ref c))) (h1 : σ[1]? = some (some (.ref p))) (hc : CupAt H c) (hne : p ≠ c) (ep : H p = some (.lst (wv ns))) (q : GivesC c H Q (Tm.Aff ns d)) : teLeaf K σ H Q := by
  refine ⟨_, h1, Nat.zero_le _, fun p1 np1 => ?_⟩
  have s1 : Same H (upd H p1 (.lst [])) := same_upd np1
  refine neL (m := []) (.inl (.inl (s1 _ _ ep))) (.inl (.inl upd_same)) ⟨_, rfl, ite2 (fun g => ?_) (fun g => ?_)⟩
  · refine ⟨_, h0, c, 4, rfl, hc.mono s1, by decide, by decide, fun H2 r s2 hc2 hr => ⟨_, _, rfl, rfl, _, rfl, ?_⟩⟩
    have s02 : SameC c H H2 := (Same.cup s1).trans s2
    refine ite2 (fun g2 => ?_) (fun g2 => ?_)
    · cases ns with
      | nil => simp at g
      | cons n r =>
        refine ⟨_, h1, p, _, 0, .int (n : Int), rfl, rfl, .inl (.inl (s02 _ _ hne ep)), atI_nat (j := 0) rfl, ln2, fun p3 np3 => ?_⟩
        exact q _ _ (.nm n) (s02.trans (Same.cup (same_upd np3))) (hc2.mono (same_upd np3)) Tm.Aff.name TmAt.nm_new
    · exact ev_letter h0 hc2 fun H' v t s' hc' ht hv => q H' v t (s02.trans s') hc' ht hv
  · exact ev_letter h0 (hc.mono s1) fun H' v t s' hc' ht hv => q H' v t ((Same.cup s1).trans s') hc' ht hv
/-- [n + 1 for n in the list at a] -/
def teSucc : TE := tOp (rI0 fun i j => .int (i + j)) (tVar 5) (tC (.int 1))
theorem lc_succ {σ : L2.St} {H : Hp} {D : Addr} {Qd : Hp → Prop} {a : Addr} {ns : List Nat} (nD : H D = none) (hσ : σ.length = 6) (ea : H a = some (.lst (wv ns))) (hl : ns.length ≤ 1000) (q : ∀ H', Same H H' → H' D = some (.lst (wv (ns.map (· + 1)))) → Qd H') :
    ∃ W : Nat → Nat → Hp → Prop, (∃ m, W 0 m (upd H D (.lst []))) ∧ ∀ i m H, W i m H →
      ((Itl K a).stop i H ∧ Qd H) ∨ ((Itl K a).go i H ∧ ∃ Nx : Hp → Prop, (∀ H', Nx H' → ∃ m', m' < m ∧ W (i + 1) m' H') ∧ ∀ x H', (Itl K a).yld i H x H' → gName 5 x (wipe σ [5]) H' fun σ2 H2 => wipe σ2 [5] = wipe σ [5] ∧ tYes σ2 H2 fun b H3 =>
        if b = true then teSucc σ2 H3 fun y H4 => ∃ acc, H4 D = some (.lst acc) ∧ acc.length < sizeLine ∧ Nx (upd H4 D (.lst (acc ++ [y]))) else Nx H3) := by
  have w0 : wipe σ [5] = σ.set 5 none := rfl
  refine lc_it walk_list (fun i H2 => Same H H2 ∧ H2 D = some (.lst (wv ((ns.take i).map (· + 1))))) ⟨same_upd nD, upd_same⟩ (fun i H2 _ h => .inl (.inl (h.1 _ _ ea))) (fun i x H2 H3 hi h y => ?_) (fun H2 h => ?_)
  · obtain ⟨s2, eD⟩ := h
    obtain ⟨rfl, ex⟩ := y
    obtain ⟨n, en, rfl⟩ := wv_get' ex
    refine ⟨?_, ?_⟩
    · show ((wipe σ [5]).set 5 (some (.int (n : Int)))).set 5 none = wipe σ [5]
      rw [w0, List.set_set, List.set_set]
    · refine ⟨.int (n : Int), ?_, _, _, rfl, rfl, _, eD, ?_, ?_, ?_⟩
      · rw [w0, List.set_set, List.getElem?_set_self (by omega)]
      · rw [wv_length, List.length_map, List.length_take]
        exact lt_line (by omega)
      · exact (fun b o e => by
          have nb : b ≠ D := ne_of_none e nD
          rw [upd_ne nb]
          exact s2 _ _ e)
      · have e1 : (n : Int) + 1 = ((n + 1 : Nat) : Int) := by omega
        rw [upd_same, (take_cut en).1, List.map_append, wv_append]
        show some (HO.lst (_ ++ [V.int ((n : Int) + 1)])) = _
        rw [e1]
        rfl
  · obtain ⟨s2, eD⟩ := h
    rw [wv_length, List.take_length] at eD
    exact q _ s2 eD
theorem cal_law_affine (D : DefB K mg "_law_affine" s_law_affine ["_law_cup_here", "_law_names_here", "_law_deep"]) (c_law_roll : Cal P w K mg base 1 "_law_roll" spRoll []) (c_law_some : Cal P w K mg base 2 "_law_some" spSome []) (m_len : mg "len" = none) : ∀ n : Nat, Cal P w K mg base (n + 2) "_law_affine" (spAffine n) []
  | 0 => D.none fun vs H Q E h => by
    obtain ⟨c, p, ns, d, _, _, _, _, _, h, _⟩ := h
    omega
  | n + 1 => by
    have c_law_affine := cal_law_affine D c_law_roll c_law_some m_len n
    refine D.cal sc_law_affine (fun vs H Q E h => ?_) (fun f cdv A outer s H vs Q E hr h => ?_)
    · obtain ⟨c, p, ns, d, rfl, _⟩ := h
      rfl
    obtain ⟨c, p, ns, d, rfl, hc, hne, ep, hl, hd, q⟩ := h
    refine ⟨_, (pss_cons (ps_if (PW.pt (pw_or (pt_cmpR op_eq (pv 2) pe_int (nomark _)) (pw_or1 (pt_cmpR op_eq (C8.pe_c c_law_roll hr (by omega) (by rfl) (pa_cons (pv 0) (pa_cons pe_int pa_nil))) pe_int (nomark _)))))
  (pss_one (ps_ret (pe_ifExp (PW.pt (pw_and (pt_cmpR (op_neD hr.units) (pv 1) (pe_lst pa_nil) (nomark _)) (pw_and1 (pt_cmpR op_gt (C8.pe_c c_law_roll hr (by omega) (by rfl) (pa_cons (pv 0) (pa_cons pe_int pa_nil))) pe_int (nomark _))))) (pe_tup (pa_cons pe_str (pa_cons (pe_ix ix_list (pv 1) pe_int (fun _ _ => rfl)) pa_nil))) (pe_tup (pa_cons pe_str (pa_cons (C8.pe_c c_law_some hr (by omega) (by rfl) (pa_cons (pv 0) (pa_cons (pe_lst (pa_cons pe_str (pa_cons pe_str pa_nil))) pa_nil))) pa_nil))))))
  pss_nil)
  (pss_cons (ps_if (pt_cmpR op_lt (C8.pe_c c_law_roll hr (by omega) (by rfl) (pa_cons (pv 0) (pa_cons pe_int pa_nil))) pe_int (nomark _))
  (pss_one (ps_ret (pe_tup (pa_cons pe_str (pa_cons (C8.pe_c c_law_affine hr (by omega) (by rfl) (pa_cons (pv 0) (pa_cons (pe_op op_cat (pe_lst (pa_cons pe_int pa_nil)) (pe_lc (own := [("_law_name", 5)]) (g := gName 5) (tt := tYes) rfl sc_law_affine.nd (pi_list (pv 1)) (blkOk_by (own := [("_law_name", 5)]) (N := ["_law_cup_here", "_law_names_here", "_law_deep", "_law_cut", "_law_function", "_law_name"]) (sc := defScope s_law_affine) (by decide +kernel)) (fun _ _ _ _ _ => (pg_name (i := 5) sc_law_affine.nd rfl (.inl rfl))) (fun _ _ _ _ _ => pts_nil) (fun _ _ _ _ _ => (pe_op op_add (pv 5) pe_int)))) (pa_cons (pe_op op_sub (pv 2) pe_int) pa_nil)))) pa_nil)))))
  pss_nil)
  (pss_cons (ps_set (i := 3) sc_law_affine.nd rfl (.inl rfl) (C8.pe_c c_law_roll hr (by omega) (by rfl) (pa_cons (pv 0) (pa_cons (pe_op op_add (pe_callB call_len_seq (by rfl) m_len PySem.boot_len (pa_cons (pv 1) pa_nil)) pe_int) pa_nil))))
  (pss_cons (ps_set (i := 4) sc_law_affine.nd rfl (.inl rfl) (C8.pe_c c_law_affine hr (by omega) (by rfl) (pa_cons (pv 0) (pa_cons (pe_slice sl_list (pv 1) po_none (po_some (pv 3))) (pa_cons (pe_op op_sub (pv 2) pe_int) pa_nil)))))
  (pss_cons (ps_if (pt_cmpR op_eq (C8.pe_c c_law_roll hr (by omega) (by rfl) (pa_cons (pv 0) (pa_cons pe_int pa_nil))) pe_int (nomark _))
  (pss_one (ps_set (i := 4) sc_law_affine.nd rfl (.inl rfl) (pe_tup (pa_cons pe_str (pa_cons (C8.pe_c c_law_affine hr (by omega) (by rfl) (pa_cons (pv 0) (pa_cons (pe_op op_cat (pe_lst (pa_cons pe_int pa_nil)) (pe_lc (own := [("_law_name", 5)]) (g := gName 5) (tt := tYes) rfl sc_law_affine.nd (pi_list (pe_slice sl_list (pv 1) po_none (po_some (pv 3)))) (blkOk_by (own := [("_law_name", 5)]) (N := ["_law_cup_here", "_law_names_here", "_law_deep", "_law_cut", "_law_function", "_law_name"]) (sc := defScope s_law_affine) (by decide +kernel)) (fun _ _ _ _ _ => (pg_name (i := 5) sc_law_affine.nd rfl (.inl rfl))) (fun _ _ _ _ _ => pts_nil) (fun _ _ _ _ _ => (pe_op op_add (pv 5) pe_int)))) (pa_cons (pe_op op_sub (pv 2) pe_int) pa_nil)))) pa_nil)))))
  pss_nil)
  (pss_one (ps_ret (pe_tup (pa_cons pe_str (pa_cons (pv 4) (pa_cons (C8.pe_c c_law_affine hr (by omega) (by rfl) (pa_cons (pv 0) (pa_cons (pe_slice sl_list (pv 1) (po_some (pv 3)) po_none) (pa_cons (pe_op op_sub (pv 2) pe_int) pa_nil)))) pa_nil))))))))))), ?_⟩
    refine ⟨_, rfl, rfl, _, rfl, ite2 (fun g => ?_) (fun g => ?_)⟩
    · exact iteT (ev_leaf (K := K) (p := p) rfl rfl hc hne ep q)
    refine ⟨_, rfl, c, 5, rfl, hc, by decide, by decide, fun H1 r1 s1 hc1 hr1 => ⟨rfl, _, rfl, ite2 (fun g1 => ?_) (fun g1 => ?_)⟩⟩
    · exact ev_leaf (K := K) (p := p) rfl rfl hc1 hne (s1 _ _ hne ep) fun H' v t s' hc' ht hv => q H' v t (s1.trans s') hc' ht hv
    obtain ⟨e, rfl⟩ : ∃ e, d = e + 1 := ⟨d - 1, by
      have := of_decide_eq_false (Bool.eq_false_iff.mpr g)
      have h0 : d ≠ 0 := fun e => this (by rw [e]; rfl)
      omega⟩
    have ee : ((e + 1 : Nat) : Int) - 1 = (e : Int) := by omega
    have ep1 := s1 _ _ hne ep
    refine ⟨_, rfl, c, 5, rfl, hc1, by decide, by decide, fun H2 r2 s2 hc2 hr2 => ⟨_, _, rfl, rfl, _, rfl, ite2 (fun g2 => ?_) (fun g2 => ?_)⟩⟩
    · -- a function
      have ep2 := s2 _ _ hne ep1
      refine ⟨_, rfl, ln1, fun p3 np3 => ?_⟩
      have s3 : Same H2 (upd H2 p3 (.lst [.int 0])) := same_upd np3
      refine ⟨_, rfl, p, rfl, ⟨_, .inl (.inl (s3 _ _ ep2))⟩, ?_⟩
      intro p4 np4
      refine lc_succ (K := K) np4 ?hs1 (s3 _ _ ep2) (by omega) fun H4 s4 e4 => ?_
      case hs1 => rfl
      have e3 : H4 p3 = some (.lst (wv [0])) := by rw [s4 _ _ upd_same]; rfl
      refine ⟨p3, p4, _, _, rfl, rfl, e3, e4, by rw [wv_length, wv_length, List.length_map]; exact le_line (by simp only [List.length_singleton]; omega), fun p5 np5 => ?_⟩
      have s5 : Same H4 (upd H4 p5 (.lst (wv [0] ++ wv (ns.map (· + 1))))) := same_upd np5
      have s25 : Same H2 _ := s3.trans (s4.trans s5)
      refine ⟨_, rfl, _, _, rfl, rfl, c, p5, 0 :: ns.map (· + 1), e, ?_, hc2.mono s25, (hc2.mono (s3.trans s4)).ne np5, by rw [upd_same, wv_succ], by rw [List.length_cons, List.length_map]; omega, by omega, fun H6 v t s6 hc6 hA hv => ?_⟩
      · show [V.ref c, V.ref p5, V.int (((e + 1 : Nat) : Int) - 1)] = _
        rw [ee]
      · refine ⟨ln2, fun p7 np7 => ?_⟩
        exact q _ _ _ (s1.trans (s2.trans (SameC.trans (Same.cup s25) (s6.trans (Same.cup (same_upd np7)))))) (hc6.mono (same_upd np7)) (Tm.Aff.fn hA) (TmAt.fn_new np7 hv)
    -- a call
    have ep2 := s2 _ _ hne ep1
    refine ⟨_, rfl, _, rfl, p, _, rfl, .inl (.inl (.inl ep2)), _, _, rfl, rfl, c, ns.length + 1, ?_, hc2, by omega, by omega, fun H3 k s3 hc3 hk => ?_⟩
    · show [V.ref c, V.int (((wv ns).length : Int) + 1)] = _
      rw [wv_length]
      rfl
    have hk' : k ≤ ns.length := by omega
    obtain ⟨ct, cd⟩ := cutV_take ns k hk'
    have ep3 := s3 _ _ hne ep2
    -- function = affine(cup, names[:cut], deep - 1)
    refine ⟨_, rfl, _, rfl, _, rfl, (k : Int), rfl, p, _, rfl, .inl (.inl ep3), fun p4 np4 => ?_⟩
    rw [ct]
    have s4 : Same H3 (upd H3 p4 (.lst (wv (ns.take k)))) := same_upd np4
    have hlt : (ns.take k).length ≤ ns.length := by rw [List.length_take]; omega
    refine ⟨_, rfl, _, _, rfl, rfl, c, p4, ns.take k, e, ?_, hc3.mono s4, hc3.ne np4, upd_same, by omega, by omega, fun H5 vf tf s5 hc5 hAf hvf => ?_⟩
    · show [V.ref c, V.ref p4, V.int (((e + 1 : Nat) : Int) - 1)] = _
      rw [ee]
    have s35 : SameC c H3 H5 := SameC.trans (Same.cup s4) s5
    have ep5 := s35 _ _ hne ep3
    -- the argument and the end, whatever the function is
    have fin : ∀ (H6 : Hp) (v6 : V) (t6 : Tm) (σ6 : L2.St), SameC c H5 H6 → CupAt H6 c → TmAt H6 v6 t6 → (∀ a, Tm.Aff (ns.drop k) e a → Tm.Aff ns (e + 1) (.ap t6 a)) → σ6 = [some (.ref c), some (.ref p), some (.int ((e + 1 : Nat) : Int)), some (.int (k : Int)), some v6, none] →
        tTup (tCons (tC (.str "call")) (tCons (tVar 4) (tCons (tCall (spAffine n) [] C8.E0 (tCons (tVar 0) (tCons (tSl (rSlL K) (tVar 1) (tPart (tVar 3)) tNoPart) (tCons (tOp (rI0 fun i j => .int (i - j)) (tVar 2) (tC (.int 1))) tNil)))) tNil))) σ6 H6 Q := fun H6 v6 t6 σ6 s6 hc6 hv6 hmk hσ => by
      subst hσ
      have ep6 := (s35.trans s6) _ _ hne ep3
      refine ⟨_, rfl, _, rfl, _, rfl, _, rfl, (k : Int), rfl, p, _, rfl, .inl (.inl ep6), fun p7 np7 => ?_⟩
      rw [cd]
      have s7 : Same H6 (upd H6 p7 (.lst (wv (ns.drop k)))) := same_upd np7
      have hld : (ns.drop k).length ≤ ns.length := by rw [List.length_drop]; omega
      refine ⟨_, rfl, _, _, rfl, rfl, c, p7, ns.drop k, e, ?_, hc6.mono s7, hc6.ne np7, upd_same, by omega, by omega, fun H8 va ta s8 hc8 hAa hva => ⟨ln3, fun p9 np9 => ?_⟩⟩
      · show [V.ref c, V.ref p7, V.int (((e + 1 : Nat) : Int) - 1)] = _
        rw [ee]
      · have s68 : SameC c H6 H8 := SameC.trans (Same.cup s7) s8
        exact q _ _ _ (s1.trans (s2.trans (s3.trans (s35.trans (s6.trans (s68.trans (Same.cup (same_upd np9)))))))) (hc8.mono (same_upd np9)) (hmk _ hAa) (TmAt.ap_new np9 (hv6.mono (s68.tups hc6)) hva)
    -- if roll(cup, 2) == 0
    refine ⟨_, rfl, c, 2, rfl, hc5, by decide, by decide, fun H6 r6 s6 hc6 hr6 => ⟨rfl, _, rfl, ite2 (fun g6 => ?_) (fun g6 => ?_)⟩⟩
    · have ep6 := (s35.trans s6) _ _ hne ep3
      refine ⟨_, rfl, ln1, fun p7 np7 => ?_⟩
      have s7 : Same H6 (upd H6 p7 (.lst [.int 0])) := same_upd np7
      refine ⟨_, rfl, _, rfl, (k : Int), rfl, p, _, rfl, .inl (.inl (s7 _ _ ep6)), fun p8 np8 => ?_⟩
      rw [ct]
      have s8 : Same _ (upd (upd H6 p7 (.lst [.int 0])) p8 (.lst (wv (ns.take k)))) := same_upd np8
      refine ⟨p8, rfl, ⟨_, .inl (.inl upd_same)⟩, ?_⟩
      intro p9 np9
      refine lc_succ (K := K) np9 ?hs2 upd_same (by omega) fun H9 s9 e9 => ?_
      case hs2 => rfl
      have e7 : H9 p7 = some (.lst (wv [0])) := by rw [s9 _ _ (s8 _ _ upd_same)]; rfl
      refine ⟨p7, p9, _, _, rfl, rfl, e7, e9, by rw [wv_length, wv_length, List.length_map]; exact le_line (by simp only [List.length_singleton]; omega), fun p10 np10 => ?_⟩
      have s10 : Same H9 (upd H9 p10 (.lst (wv [0] ++ wv ((ns.take k).map (· + 1))))) := same_upd np10
      have s6A : Same H6 _ := s7.trans (s8.trans (s9.trans s10))
      refine ⟨_, rfl, _, _, rfl, rfl, c, p10, 0 :: (ns.take k).map (· + 1), e, ?_, hc6.mono s6A, (hc6.mono (s7.trans (s8.trans s9))).ne np10, by rw [upd_same, wv_succ], by rw [List.length_cons, List.length_map]; omega, by omega, fun H11 v t s11 hc11 hA hv => ⟨ln2, fun p12 np12 => ?_⟩⟩
      · show [V.ref c, V.ref p10, V.int (((e + 1 : Nat) : Int) - 1)] = _
        rw [ee]
      · exact fin _ _ _ _ (s6.trans (SameC.trans (Same.cup s6A) (s11.trans (Same.cup (same_upd np12))))) (hc11.mono (same_upd np12)) (TmAt.fn_new np12 hv) (fun a ha => Tm.Aff.callFn hA ha) rfl
    · exact fin _ _ _ _ s6 hc6 (hvf.mono (s6.tups hc5)) (fun a ha => Tm.Aff.call hAf ha) rfl
end
end Sf
/-! SfL5: what the law draws and tries; its leftmost way; a way of its own to a normal form. -/
namespace Sf
open PySem PySem.Spec PyProof.Rows L2
open C8 (Cal pe_c)
open Tm (Small)
namespace Tm
theorem knowns_small : ∀ t ∈ knowns, t.height ≤ 10 ∧ t.size ≤ 46 := by decide
theorem Drawn.small {t : Tm} (h : Drawn t) : t.height ≤ 10 ∧ t.size ≤ 46 := by
  rcases h with h | h
  · exact knowns_small t h
  · exact ⟨Nat.le_trans h.ht (by decide), Nat.le_trans h.sz (by decide)⟩
theorem Wide.small {t : Tm} (h : Wide t) : t.height ≤ 20 ∧ t.size ≤ 46 := by
  cases h with
  | one a => have := a.small; omega
  | call a b hz => have := a.small; have := b.small; simp only [height, size]; omega
  | fcall a b hz => have := a.small; have := b.small; simp only [height, size]; omega
  | pair a hz => have := a.small; simp only [height, size]; omega
  | k a hz => have := a.small; simp only [height, size]; omega
  | drop a b hz => have := a.small; have := b.small; simp only [height, size]; omega
end Tm
section
variable {P : Program} {w : World} {K : PySem.W.Frag} {mg : Str → Option Value} {base : Heap}
def spDrawn : Sp := fun vs H Q _ => ∃ c, vs = [.ref c] ∧ CupAt H c ∧ GivesC c H Q Tm.Drawn
theorem cal_law_drawn (D : DefB K mg "_law_drawn" s_law_drawn ["_law_cup_here"]) (c_law_roll : Cal P w K mg base 1 "_law_roll" spRoll []) (c_law_known : Cal P w K mg base 3 "_law_known" spKnown []) (c_law_affine : Cal P w K mg base 7 "_law_affine" (spAffine 5) []) : Cal P w K mg base 8 "_law_drawn" spDrawn [] := by
  refine D.cal sc_law_drawn (fun vs H Q E h => ?_) (fun f cdv A outer s H vs Q E hr h => ?_)
  · obtain ⟨c, rfl, _⟩ := h
    rfl
  obtain ⟨c, rfl, hc, q⟩ := h
  refine ⟨_, (pss_one (ps_ret (pe_ifExp (pt_cmpR op_eq (C8.pe_c c_law_roll hr (by omega) (by rfl) (pa_cons (pv 0) (pa_cons pe_int pa_nil))) pe_int (nomark _)) (C8.pe_c c_law_known hr (by omega) (by rfl) (pa_cons (pv 0) pa_nil)) (C8.pe_c c_law_affine hr (by omega) (by rfl) (pa_cons (pv 0) (pa_cons (pe_lst pa_nil) (pa_cons pe_int pa_nil))))))), ?_⟩
  refine ⟨_, rfl, c, 2, rfl, hc, by decide, by decide, fun H1 r s1 hc1 hr1 => ⟨rfl, _, rfl, ite2 (fun g => ?_) (fun g => ?_)⟩⟩
  · exact ⟨_, rfl, c, rfl, hc1, fun H2 v t s2 hc2 ht hv => q _ _ _ (s1.trans s2) hc2 (.inl ht) hv⟩
  · refine ⟨_, rfl, Nat.zero_le _, fun p np => ⟨c, p, [], 4, rfl, hc1.mono (same_upd np), hc1.ne np, upd_same, by decide, by decide, fun H2 v t s2 hc2 ht hv => ?_⟩⟩
    exact q _ _ _ (s1.trans (SameC.trans (Same.cup (same_upd np)) s2)) hc2 (.inr ht) hv
theorem cal_law_busy (D : DefB K mg "_law_busy" s_law_busy ["_law_cup_here"]) (c_law_drawn : Cal P w K mg base 8 "_law_drawn" spDrawn []) (c_law_redexes : Cal P w K mg base 132 "_law_redexes" spLRedexes []) (m_range : mg "range" = none) : Cal P w K mg base 133 "_law_busy" spDrawn [] := by
  refine D.cal sc_law_busy (fun vs H Q E h => ?_) (fun f cdv A outer s H vs Q E hr h => ?_)
  · obtain ⟨c, rfl, _⟩ := h
    rfl
  obtain ⟨c, rfl, hc, q⟩ := h
  refine ⟨_, (pss_cons (ps_for PassesOwn.never rfl (pi_range1 (by rfl) m_range (pa_cons pe_int pa_nil)) (pg_name (i := 1) sc_law_busy.nd rfl (.inl rfl))
  (pss_cons (ps_set (i := 2) sc_law_busy.nd rfl (.inl rfl) (C8.pe_c c_law_drawn hr (by omega) (by rfl) (pa_cons (pv 0) pa_nil)))
  (pss_one (ps_if (pt_cmpR (op_neD hr.units) (C8.pe_c c_law_redexes hr (by omega) (by rfl) (pa_cons (pv 2) pa_nil)) (pe_lst pa_nil) (nomark _))
  (pss_one (ps_ret (pv 2)))
  pss_nil))))
  (pss_one (ps_ret (pe_tup (pa_cons pe_str (pa_cons (pe_tup (pa_cons pe_str (pa_cons (pe_tup (pa_cons pe_str (pa_cons (pe_tup (pa_cons pe_str (pa_cons pe_int pa_nil))) (pa_cons (pe_tup (pa_cons pe_str (pa_cons pe_int pa_nil))) pa_nil)))) pa_nil))) (pa_cons (pe_tup (pa_cons pe_str (pa_cons (pe_tup (pa_cons pe_str (pa_cons (pe_tup (pa_cons pe_str (pa_cons pe_int pa_nil))) pa_nil))) (pa_cons (pe_tup (pa_cons pe_str (pa_cons pe_str pa_nil))) pa_nil)))) pa_nil))))))), ?_⟩
  refine ⟨_, rfl, by omega, by omega, ?_⟩
  refine for_it walk_range (fun i σ H2 => ∃ y1 y2, σ = [some (.ref c), y1, y2] ∧ SameC c H H2 ∧ CupAt H2 c) ⟨_, _, rfl, SameC.refl, hc⟩ (fun _ _ _ _ _ => trivial) (fun i x σ H2 H3 hi h y => ?_) (fun σ H2 h => ?_)
  · obtain ⟨y1, y2, rfl, s2, hc2⟩ := h
    obtain ⟨rfl, rfl⟩ := y
    refine ⟨_, rfl, c, rfl, hc2, fun H4 v t s4 hc4 ht hv => ?_⟩
    refine ⟨_, rfl, v, t, rfl, hv, Nat.le_trans ht.small.1 (by decide), Nat.le_trans ht.small.2 (by decide), fun H5 p5 s5 e5 _ => ⟨Nat.zero_le _, fun p6 np6 => ?_⟩⟩
    have s6 : Same H4 (upd H5 p6 (.lst [])) := s5.trans (same_upd np6)
    refine neL (m := []) (.inl (.inl ((same_upd np6) _ _ e5))) (.inl (.inl upd_same)) ⟨_, rfl, ite2 (fun g => ?_) (fun g => ?_)⟩
    · exact ⟨_, rfl, q _ v t (s2.trans (s4.trans (Same.cup s6))) (hc4.mono s6) ht (hv.mono (Same.tups s6))⟩
    · exact ⟨_, _, rfl, s2.trans (s4.trans (Same.cup s6)), hc4.mono s6⟩
  · obtain ⟨y1, y2, rfl, s2, hc2⟩ := h
    exact ev_ap (ev_fn (ev_ap (ev_nm (n := 0)) (ev_nm (n := 0)))) (ev_ap (ev_fn (ev_nm (n := 0))) (ev_lt (c := false))) H2 _ (Same.refl _) fun H3 v s3 hv => q _ v _ (s2.trans (Same.cup s3)) (hc2.mono s3) (.inl (by decide)) hv
def spWide : Sp := fun vs H Q _ => ∃ c, vs = [.ref c] ∧ CupAt H c ∧ GivesC c H Q Tm.Wide
theorem cal_law_wide (D : DefB K mg "_law_wide" s_law_wide ["_law_cup_here"]) (c_law_busy : Cal P w K mg base 133 "_law_busy" spDrawn []) (c_law_parts : Cal P w K mg base 131 "_law_parts" (spParts 130) []) (c_law_some : Cal P w K mg base 2 "_law_some" spSome []) (m_len : mg "len" = none) : Cal P w K mg base 134 "_law_wide" spWide [] := by
  refine D.cal sc_law_wide (fun vs H Q E h => ?_) (fun f cdv A outer s H vs Q E hr h => ?_)
  · obtain ⟨c, rfl, _⟩ := h
    rfl
  obtain ⟨c, rfl, hc, q⟩ := h
  refine ⟨_, (pss_cons (ps_par (i := 1) (j := 2) (by rfl) sc_law_wide.nd rfl rfl (by decide) rfl rfl (pa_cons (C8.pe_c c_law_busy hr (by omega) (by rfl) (pa_cons (pv 0) pa_nil)) (pa_cons (C8.pe_c c_law_busy hr (by omega) (by rfl) (pa_cons (pv 0) pa_nil)) pa_nil)) (by rfl))
  (pss_cons (ps_if (pt_cmpR op_gt (pe_op op_add (pe_callB call_len_seq (by rfl) m_len PySem.boot_len (pa_cons (C8.pe_c c_law_parts hr (by omega) (by rfl) (pa_cons (pv 1) pa_nil)) pa_nil)) (pe_callB call_len_seq (by rfl) m_len PySem.boot_len (pa_cons (C8.pe_c c_law_parts hr (by omega) (by rfl) (pa_cons (pv 2) pa_nil)) pa_nil))) pe_int (nomark _))
  (pss_one (ps_ret (pv 1)))
  pss_nil)
  (pss_cons (ps_set (i := 3) sc_law_wide.nd rfl (.inl rfl) (pe_lst (pa_cons (pe_tup (pa_cons pe_str (pa_cons (pv 1) (pa_cons (pv 2) pa_nil)))) (pa_cons (pe_tup (pa_cons pe_str (pa_cons (pe_tup (pa_cons pe_str (pa_cons (pv 1) (pa_cons (pv 2) pa_nil)))) pa_nil))) (pa_cons (pe_tup (pa_cons pe_str (pa_cons (pe_tup (pa_cons pe_str (pa_cons (pe_tup (pa_cons pe_str (pa_cons (pe_tup (pa_cons pe_str (pa_cons pe_int pa_nil))) (pa_cons (pe_tup (pa_cons pe_str (pa_cons pe_int pa_nil))) pa_nil)))) pa_nil))) (pa_cons (pv 1) pa_nil)))) (pa_cons (pe_tup (pa_cons pe_str (pa_cons (pe_tup (pa_cons pe_str (pa_cons (pe_tup (pa_cons pe_str (pa_cons (pe_tup (pa_cons pe_str (pa_cons pe_int pa_nil))) pa_nil))) pa_nil))) (pa_cons (pv 1) pa_nil)))) pa_nil))))))
  (pss_one (ps_ret (C8.pe_c c_law_some hr (by omega) (by rfl) (pa_cons (pv 0) (pa_cons (pe_op op_cat (pv 3) (pe_lst (pa_cons (pe_tup (pa_cons pe_str (pa_cons (pe_tup (pa_cons pe_str (pa_cons (pv 1) pa_nil))) (pa_cons (pv 2) pa_nil)))) (pa_cons (pv 1) pa_nil)))) pa_nil)))))))), ?_⟩
  refine ⟨_, rfl, c, rfl, hc, fun H1 v t s1 hc1 ht hv => ⟨_, rfl, c, rfl, hc1, fun H2 v2 u s2 hc2 hu hv2 => ?_⟩⟩
  replace hv := hv.mono (s2.tups hc1)
  refine ⟨v, v2, rfl, ?_⟩
  have hts := ht.small
  have hus := hu.small
  refine ⟨_, rfl, v, t, rfl, hv, by omega, by omega, fun H3 p3 w3 s3 e3 hw3 => ⟨p3, w3, rfl, .inl (.inl (.inl e3)), _, rfl, v2, u, rfl, hv2.mono (Same.tups s3), by omega, by omega, fun H4 p4 w4 s4 e4 hw4 => ⟨p4, w4, rfl, .inl (.inl (.inl e4)), _, _, rfl, rfl, _, _, rfl, rfl, _, rfl, ?_⟩⟩⟩
  have s24 : Same H2 H4 := s3.trans s4
  have sH : SameC c H H4 := s1.trans (s2.trans (Same.cup s24))
  have hc4 := hc2.mono s24
  replace hv := hv.mono (Same.tups s24)
  replace hv2 := hv2.mono (Same.tups s24)
  refine ite2 (fun g => ?_) (fun g => ?_)
  · exact ⟨_, rfl, q _ v t sH hc4 (.one ht) hv⟩
  have hz : t.size + u.size ≤ 24 := by
    have l3 := hw3.length
    have l4 := hw4.length
    rw [Tm.parts_length] at l3 l4
    have g' := of_decide_eq_false (Bool.eq_false_iff.mpr g)
    omega
  have vt : ∀ (y : Option V) H', Same H4 H' → EvT (tVar 1) [some (.ref c), some v, some v2, y] H' t := fun y H' s => ev_var rfl (hv.mono (Same.tups s))
  have vu : ∀ (y : Option V) H', Same H4 H' → EvT (tVar 2) [some (.ref c), some v, some v2, y] H' u := fun y H' s => ev_var rfl (hv2.mono (Same.tups s))
  have r := Same.refl H4
  refine seq_lst (evs_cons (ev_ap (vt _ _ r) (vu _ _ r)) (evs_cons (ev_fn (ev_ap (vt _ _ r) (vu _ _ r))) (evs_cons (ev_ap (ev_fn (ev_ap (ev_nm (n := 0)) (ev_nm (n := 0)))) (vt _ _ r)) (evs_cons (ev_ap (ev_fn (ev_fn (ev_nm (n := 1)))) (vt _ _ r)) evs_nil)))) (by simp) fun H5 w5 p5 s5 hw5 e5 => ?_
  refine ⟨_, rfl, _, rfl, ?_⟩
  refine (evs_cons (ev_ap (ev_fn (vt (some (.ref p5)) _ s5)) (vu _ _ s5)) (evs_cons (vt _ _ s5) evs_nil)) H5 _ (Same.refl _) fun H6 w6 s6 hw6 => ?_
  have l5 := hw5.length
  have l6 := hw6.length
  simp only [List.length_cons, List.length_nil] at l5 l6
  refine ⟨by rw [l6]; exact le_line (by omega), fun p7 np7 => ⟨p5, p7, w5, w6, rfl, rfl, (same_upd np7) _ _ (s6 _ _ e5), upd_same, by rw [l5, l6]; exact le_line (by omega), fun p8 np8 => ?_⟩⟩
  have s68 : Same H6 (upd (upd H6 p7 (.lst w6)) p8 (.lst (w5 ++ w6))) := (same_upd np7).trans (same_upd np8)
  have s58 := s6.trans s68
  have hc7 : CupAt (upd H6 p7 (.lst w6)) c := hc4.mono (s5.trans (s6.trans (same_upd np7)))
  refine ⟨c, p8, w5 ++ w6, rfl, hc4.mono (s5.trans s58), hc7.ne np8, upd_same, fun e => by have := congrArg List.length e; rw [List.length_append] at this; simp only [List.length_nil] at this; omega, by rw [List.length_append]; omega, fun H9 i x s9 hc9 ex => ?_⟩
  obtain ⟨z, iz, hx⟩ := ((hw5.mono (Same.tups s58)).append (hw6.mono (Same.tups s68))).get ex
  have hm := List.mem_of_getElem? iz
  refine q H9 x z (sH.trans (SameC.trans (Same.cup (s5.trans s58)) s9)) hc9 ?_ (hx.mono (s9.tups (hc4.mono (s5.trans s58))))
  have u1 := Tm.size_pos u
  simp only [List.cons_append, List.nil_append, List.mem_cons, List.not_mem_nil, or_false] at hm
  rcases hm with rfl | rfl | rfl | rfl | rfl | rfl
  · exact .call ht hu hz
  · exact .fcall ht hu hz
  · exact .pair ht (by omega)
  · exact .k ht (by omega)
  · exact .drop ht hu hz
  · exact .one ht
end
end Sf
/-! SfL6: the law's leftmost way; its own way to a normal form. -/
namespace Sf
open PySem PySem.Spec PyProof.Rows L2
open C8 (Cal pe_c)
open Tm (Small)
section
variable {P : Program} {w : World} {K : PySem.W.Frag} {mg : Str → Option Value} {base : Heap}
def spNormal : Sp := fun vs H Q _ => ∃ v t, ∃ m : Nat, ∃ L, vs = [v, .int (m : Int)] ∧ TmAt H v t ∧ Small t ∧ t.WaySm L ∧ t.Lm L ∧ L.length ≤ m ∧ m ≤ 60 ∧ ∀ H' p r v', Same H H' → H' p = some (.tup [.ref r, v']) → H' r = some (.tup (wv L)) → Q (.ref p) H'
theorem cal_law_normal (D : DefB K mg "_law_normal" s_law_normal ["_law_term", "_law_most"]) (c_law_redexes : Cal P w K mg base 132 "_law_redexes" spLRedexes []) (c_law_step : Cal P w K mg base 191 "_law_step" (spLStep 60) []) (m_len : mg "len" = none) : Cal P w K mg base 192 "_law_normal" spNormal [] := by
  refine D.cal sc_law_normal (fun vs H Q E h => ?_) (fun f cdv A outer s H vs Q E hr h => ?_)
  · obtain ⟨v, t, m, L, rfl, _⟩ := h
    rfl
  obtain ⟨v, t, m, L, rfl, ht, hs, hw, hL, hl, hm, q⟩ := h
  refine ⟨_, (pss_cons (ps_set (i := 2) sc_law_normal.nd rfl (.inl rfl) (pe_tup pa_nil))
  (pss_cons (ps_while PassesOwn.never (PW.pt (pw_and (pt_cmpR op_lt (pe_callB call_len_seq (by rfl) m_len PySem.boot_len (pa_cons (pv 2) pa_nil)) (pv 1) (nomark _)) (pw_and1 (pt_cmpR (op_neD hr.units) (C8.pe_c c_law_redexes hr (by omega) (by rfl) (pa_cons (pv 0) pa_nil)) (pe_lst pa_nil) (nomark _)))))
  (pss_cons (ps_set (i := 2) sc_law_normal.nd rfl (.inl rfl) (pe_op op_catA (pv 2) (pe_tup (pa_cons (pe_ix ix_list (C8.pe_c c_law_redexes hr (by omega) (by rfl) (pa_cons (pv 0) pa_nil)) pe_int (fun _ _ => rfl)) pa_nil))))
  (pss_one (ps_set (i := 0) sc_law_normal.nd rfl (.inl rfl) (C8.pe_c c_law_step hr (by omega) (by rfl) (pa_cons (pv 0) (pa_cons (pe_ix ix_tup (pv 2) (pe_un un_neg pe_int) (fun _ _ => rfl)) pa_nil)))))))
  (pss_one (ps_ret (pe_tup (pa_cons (pv 2) (pa_cons (pv 0) pa_nil))))))), ?_⟩
  refine ⟨Nat.zero_le _, fun p0 np0 => ?_⟩
  have s0 : Same H (upd H p0 (.tup [])) := same_upd np0
  refine ⟨fun k σ H2 => ∃ (v2 : V) (r3 : Addr) (t2 : Tm) (F L2 : List Nat), σ = [some v2, some (.int (m : Int)), some (.ref r3)] ∧ Same H H2 ∧ L = F ++ L2 ∧ TmAt H2 v2 t2 ∧ H2 r3 = some (.tup (wv F)) ∧ Small t2 ∧ t2.WaySm L2 ∧ t2.Lm L2 ∧ k = L2.length,
    ⟨L.length, v, p0, t, [], L, rfl, s0, rfl, ht.mono (Same.tups s0), upd_same, hs, hw, hL, rfl⟩, fun k σ H2 h => ?_⟩
  obtain ⟨v2, r3, t2, F, L2, rfl, s2, eL, h2, e3, hs2, hw2, hL2, rfl⟩ := h
  have hlen := congrArg List.length eL
  rw [List.length_append] at hlen
  have Fl : F.length ≤ 60 := by omega
  refine ⟨_, rfl, r3, _, rfl, .inr (.inl (.inl e3)), _, rfl, _, _, rfl, rfl, _, rfl, ?_⟩
  rw [wv_length]
  cases L2 with
  | nil =>
    rw [List.append_nil] at eL
    subst eL
    have done : ∀ H3, Same H2 H3 → H3 r3 = some (.tup (wv L)) → ∀ (x : V), tRet (tTup (tCons (tVar 2) (tCons (tVar 0) tNil))) { nx := fun _ H' => Q V.non H', rt := Q } [some v2, some (V.int (m : Int)), some (V.ref r3)] H3 := fun H3 s3 e4 x => ⟨_, rfl, _, rfl, ln2, fun p4 np4 => q _ _ r3 v2 (s2.trans (s3.trans (same_upd np4))) upd_same ((same_upd np4) _ _ e4)⟩
    refine ite2 (fun g => ?_) (fun g => ?_)
    · refine ⟨_, rfl, v2, t2, rfl, h2, Nat.le_trans hs2.2 (by decide), Nat.le_trans hs2.1 (by decide), fun H5 p5 s5 e5 _ => ⟨Nat.zero_le _, fun p6 np6 => ?_⟩⟩
      have s6 := s5.trans (same_upd (o := .lst []) np6)
      refine neL (m := []) (.inl (.inl ((same_upd np6) _ _ e5))) (.inl (.inl upd_same)) ⟨_, rfl, ifF ?_ ?_⟩
      · have : t2.redNodes = [] := hL2
        rw [this]; rfl
      · exact done _ s6 (s6 _ _ e3) .non
    · exact ifF rfl (done _ (Same.refl _) e3 .non)
  | cons n L2 =>
    obtain ⟨hd, hL3⟩ := hL2
    obtain ⟨hr2, hs3, hw3⟩ := hw2
    rw [List.length_cons] at hlen
    refine ifT (decide_eq_true (by omega)) ?_
    refine ⟨_, rfl, v2, t2, rfl, h2, Nat.le_trans hs2.2 (by decide), Nat.le_trans hs2.1 (by decide), fun H5 p5 s5 e5 _ => ⟨Nat.zero_le _, fun p6 np6 => ?_⟩⟩
    have s6 := s5.trans (same_upd (o := .lst []) np6)
    obtain ⟨rs, ers⟩ : ∃ rs, t2.redNodes = n :: rs := by
      cases e : t2.redNodes with
      | nil => rw [e] at hd; cases hd
      | cons a b => rw [e] at hd; cases Option.some.inj hd; exact ⟨b, rfl⟩
    refine neL (m := []) (.inl (.inl ((same_upd np6) _ _ e5))) (.inl (.inl upd_same)) ⟨_, rfl, ifT ?_ ?_⟩
    · rw [ers]; rfl
    refine ⟨fun σ' H' => ∃ (v2 : V) (r3 : Addr) (t2 : Tm) (F L3 : List Nat), σ' = [some v2, some (.int (m : Int)), some (.ref r3)] ∧ Same H H' ∧ L = F ++ L3 ∧ TmAt H' v2 t2 ∧ H' r3 = some (.tup (wv F)) ∧ Small t2 ∧ t2.WaySm L3 ∧ t2.Lm L3 ∧ L3.length < (n :: L2).length, fun σ' H' h => ?_, ?_⟩
    · obtain ⟨v2, r3, t2, F, L3, h1, h2, h3, h4, h5, h6, h7, h8, h9⟩ := h
      exact ⟨L3.length, h9, v2, r3, t2, F, L3, h1, h2, h3, h4, h5, h6, h7, h8, rfl⟩
    have h2' := h2.mono (Same.tups s6)
    refine ⟨_, rfl, _, rfl, v2, t2, rfl, h2', Nat.le_trans hs2.2 (by decide), Nat.le_trans hs2.1 (by decide), fun H7 p7 s7 e7 _ => ?_⟩
    refine ⟨p7, _, 0, .int (n : Int), rfl, rfl, .inl (.inl e7), atI_nat (j := 0) (by rw [ers]; rfl), ln1, fun p8 np8 => ?_⟩
    have s8 : Same H7 (upd H7 p8 (.tup [.int (n : Int)])) := same_upd np8
    have s28 := s6.trans (s7.trans s8)
    refine catT (m := [n]) (s28 _ _ e3) (by rw [upd_same]; rfl) (by simp only [List.length_singleton]; omega) fun H9 p9 s9 e9 => ?_
    have s29 := s28.trans s9
    refine ⟨_, rfl, _, rfl, _, rfl, p9, _, -1, .int (n : Int), rfl, rfl, .inl (.inl e9), atI_last' (by rw [wv_append]; simp [wv]), ?_⟩
    refine ⟨v2, t2, n, rfl, h2.mono (Same.tups s29), hr2, hs2.2, Nat.le_trans hs2.2 (by decide), Nat.le_trans hs2.1 (by decide), fun H10 v10 s10 h10 => ?_⟩
    exact ⟨v10, p9, t2.step n, F ++ [n], L2, rfl, s2.trans (s29.trans s10), by rw [eL]; simp, h10, s10 _ _ e9, hs3, hw3, hL3, by simp⟩
def spToNormal : Sp := fun vs H Q _ => ∃ c v t, vs = [.ref c, v] ∧ CupAt H c ∧ TmAt H v t ∧ t.size ≤ 60 ∧ (∀ H', SameC c H H' → CupAt H' c → Q .non H') ∧ (∀ H' p ws, SameC c H H' → CupAt H' c → t.Way60 ws → ws.length ≤ 12 → (t.steps ws).redNodes = [] → H' p = some (.tup (wv ws)) → Q (.ref p) H')
theorem cal_law_to_normal (D : DefB K mg "_law_to_normal" s_law_to_normal ["_law_cup_here", "_law_term"]) (c_law_redexes : Cal P w K mg base 132 "_law_redexes" spLRedexes []) (c_law_some : Cal P w K mg base 2 "_law_some" spSome []) (c_law_step : Cal P w K mg base 191 "_law_step" (spLStep 60) []) (c_law_parts : Cal P w K mg base 131 "_law_parts" (spParts 130) []) (m_range : mg "range" = none) (m_len : mg "len" = none) : Cal P w K mg base 192 "_law_to_normal" spToNormal [] := by
  refine D.cal sc_law_to_normal (fun vs H Q E h => ?_) (fun f cdv A outer s H vs Q E hr h => ?_)
  · obtain ⟨c, v, t, rfl, _⟩ := h
    rfl
  obtain ⟨c, v, t, rfl, hc, ht, hz, qn, qw⟩ := h
  refine ⟨_, (pss_cons (ps_set (i := 2) sc_law_to_normal.nd rfl (.inl rfl) (pe_tup pa_nil))
  (pss_cons (ps_for PassesOwn.never rfl (pi_range1 (by rfl) m_range (pa_cons pe_int pa_nil)) (pg_name (i := 3) sc_law_to_normal.nd rfl (.inl rfl))
  (pss_cons (ps_set (i := 4) sc_law_to_normal.nd rfl (.inl rfl) (C8.pe_c c_law_redexes hr (by omega) (by rfl) (pa_cons (pv 1) pa_nil)))
  (pss_cons (ps_if (pt_cmpR (op_eqD hr.units) (pv 4) (pe_lst pa_nil) (nomark _))
  (pss_one (ps_ret (pv 2)))
  pss_nil)
  (pss_cons (ps_set (i := 5) sc_law_to_normal.nd rfl (.inl rfl) (C8.pe_c c_law_some hr (by omega) (by rfl) (pa_cons (pv 0) (pa_cons (pv 4) pa_nil))))
  (pss_cons (ps_par (i := 1) (j := 2) (by rfl) sc_law_to_normal.nd rfl rfl (by decide) rfl rfl (pa_cons (C8.pe_c c_law_step hr (by omega) (by rfl) (pa_cons (pv 1) (pa_cons (pv 5) pa_nil))) (pa_cons (pe_op op_catA (pv 2) (pe_tup (pa_cons (pv 5) pa_nil))) pa_nil)) (by rfl))
  (pss_one (ps_if (pt_cmpR op_gt (pe_callB call_len_seq (by rfl) m_len PySem.boot_len (pa_cons (C8.pe_c c_law_parts hr (by omega) (by rfl) (pa_cons (pv 1) pa_nil)) pa_nil)) pe_int (nomark _))
  (pss_one (ps_ret pe_non))
  pss_nil)))))))
  (pss_one (ps_ret (pe_ifExp (pt_cmpR (op_eqD hr.units) (C8.pe_c c_law_redexes hr (by omega) (by rfl) (pa_cons (pv 1) pa_nil)) (pe_lst pa_nil) (nomark _)) (pv 2) pe_non))))), ?_⟩
  refine ⟨Nat.zero_le _, fun p0 np0 => ?_⟩
  have s0 : Same H (upd H p0 (.tup [])) := same_upd np0
  refine ⟨_, rfl, by omega, by omega, ?_⟩
  refine for_it walk_range (fun i σ H2 => ∃ v2 p y3 y4 y5 ws, σ = [some (.ref c), some v2, some (.ref p), y3, y4, y5] ∧ SameC c H H2 ∧ CupAt H2 c ∧ TmAt H2 v2 (t.steps ws) ∧ H2 p = some (.tup (wv ws)) ∧ t.Way60 ws ∧ ws.length = i ∧ (t.steps ws).size ≤ 60)
    ⟨v, p0, none, none, none, [], rfl, Same.cup s0, hc.mono s0, ht.mono (Same.tups s0), upd_same, trivial, rfl, hz⟩ (fun _ _ _ _ _ => trivial) (fun i x σ H2 H3 hi h y => ?_) (fun σ H2 h => ?_)
  · obtain ⟨v2, p, y3, y4, y5, ws, rfl, s2, hc2, h2, e2, hw, hl, hz2⟩ := h
    obtain ⟨rfl, rfl⟩ := y
    have hi' : i < 12 := hi
    have hh := Tm.height_le_size (t.steps ws)
    refine ⟨_, rfl, v2, t.steps ws, rfl, h2, by omega, by omega, fun H4 p4 s4 e4 n4 => ?_⟩
    refine ⟨_, rfl, Nat.zero_le _, fun p5 np5 => ?_⟩
    have s5 : Same H4 (upd H4 p5 (.lst [])) := same_upd np5
    have s35 := s4.trans s5
    refine eqL (m := []) (.inl (.inl (s5 _ _ e4))) (.inl (.inl upd_same)) ⟨_, rfl, ite2 (fun g => ?_) (fun g => ?_)⟩
    · exact ⟨_, rfl, qw _ p ws (s2.trans (Same.cup s35)) (hc2.mono s35) hw (by omega) (of_decide_eq_true g) (s35 _ _ e2)⟩
    have hne : (t.steps ws).redNodes ≠ [] := of_decide_eq_false (Bool.eq_false_iff.mpr g)
    have hc5 := hc2.mono s35
    have e45 := s5 _ _ e4
    have hpc : p4 ≠ c := hc2.ne n4
    refine ⟨_, rfl, _, rfl, c, p4, wv (t.steps ws).redNodes, rfl, hc5, hpc, e45, (by intro e; exact hne (List.map_eq_nil_iff.mp e)), ?_, fun H6 j x s6 hc6 ex => ?_⟩
    · rw [wv_length]
      have hle : (t.steps ws).redNodes.length ≤ (t.steps ws).parts.length := Tm.idxFrom_le Tm.isRed 0 (t.steps ws).parts
      rw [Tm.parts_length] at hle
      omega
    obtain ⟨n, en, rfl⟩ := wv_get' ex
    have hr2 : (t.steps ws).redAt n = true := Tm.mem_redNodes.mp (List.mem_of_getElem? en)
    have s36 : SameC c H3 H6 := SameC.trans (Same.cup s35) s6
    have T36 : Tups H3 H6 := fun a xs e => s6.tups hc5 _ _ (Same.tups s35 _ _ e)
    refine ⟨_, rfl, _, rfl, v2, t.steps ws, n, rfl, h2.mono T36, hr2, by omega, by omega, by omega, fun H7 v7 s7 h7 => ?_⟩
    have e7 := Same.tups s7 _ _ (T36 _ _ e2)
    refine ⟨_, rfl, _, rfl, ln1, fun p8 np8 => ?_⟩
    have s8 : Same H7 (upd H7 p8 (.tup [.int (n : Int)])) := same_upd np8
    refine catT (m := [n]) (s8 _ _ e7) (by rw [upd_same]; rfl) (by simp only [List.length_singleton]; omega) fun H9 p9 s9 e9 => ?_
    have s79 := s8.trans s9
    have h9 := h7.mono (Same.tups s79)
    have hz9 := Tm.size_step_le hr2 hz2
    have hh9 := Tm.height_step (t.steps ws) n
    have es : t.steps (ws ++ [n]) = (t.steps ws).step n := by rw [Tm.steps_append]; rfl
    refine ⟨_, _, rfl, ?_⟩
    refine ⟨_, rfl, v7, _, rfl, h9, by omega, by omega, fun H10 p10 u10 s10 e10 hu10 => ⟨p10, u10, rfl, .inl (.inl (.inl e10)), _, _, rfl, rfl, _, rfl, ?_⟩⟩
    have hu := hu10.length
    rw [Tm.parts_length] at hu
    have sB : SameC c H3 H10 := s36.trans (Same.cup (s7.trans (s79.trans s10)))
    have hcB : CupAt H10 c := hc6.mono (s7.trans (s79.trans s10))
    refine ite2 (fun g2 => ?_) (fun g2 => ?_)
    · exact qn _ (s2.trans sB) hcB
    · have g3 := of_decide_eq_false (Bool.eq_false_iff.mpr g2)
      have hz3 : ((t.steps ws).step n).size ≤ 60 := by omega
      refine ⟨v7, p9, _, _, _, ws ++ [n], rfl, s2.trans sB, hcB, ?_, s10 _ _ e9, Tm.Way60.snoc hw hr2 hz3, by simp [hl], ?_⟩
      · rw [es]; exact h9.mono (Same.tups s10)
      · rw [es]; exact hz3
  · obtain ⟨v2, p, y3, y4, y5, ws, rfl, s2, hc2, h2, e2, hw, hl, hz2⟩ := h
    have hh := Tm.height_le_size (t.steps ws)
    refine ⟨_, rfl, v2, t.steps ws, rfl, h2, by omega, by omega, fun H4 p4 s4 e4 n4 => ?_⟩
    refine ⟨Nat.zero_le _, fun p5 np5 => ?_⟩
    have s5 : Same H2 (upd H4 p5 (.lst [])) := s4.trans (same_upd np5)
    refine eqL (m := []) (.inl (.inl ((same_upd np5) _ _ e4))) (.inl (.inl upd_same)) ⟨_, rfl, ite2 (fun g => ?_) (fun g => ?_)⟩
    · exact ⟨_, rfl, qw _ p ws (s2.trans (Same.cup s5)) (hc2.mono s5) hw (by omega) (of_decide_eq_true g) (s5 _ _ e2)⟩
    · exact qn _ (s2.trans (Same.cup s5)) (hc2.mono s5)
end
end Sf
set_option maxHeartbeats 4000000
/-! SfRep: a tuple times a number that may be 0 or 1. -/
namespace Sf
open PySem PySem.Spec PyProof.Rows L2
theorem tuple_mul1 (l : Addr) (items : Array Value) (n : Nat) (dd : Option Addr) (sl : Array (Option Value)) (u : Tok) :
    Meets (Builtin.«tuple.__mul__» ⟨[.ref l, .int 1 u], []⟩) (fun _ R s => s.heap.get? l = some { cls := .type "tuple", dict := dd, data := .seq items n, slots := sl } ∧ R (.ok (.ret (Value.ref l))) s) :=
  .of_wp fun prog w A R s h => by
    obtain ⟨hp, g, d, tk, os⟩ := s
    obtain ⟨hl, h⟩ := h
    have f1 := AutoSeq1.idx_int
    wp_walk using wpAny_loadPart' hl
    repeat (first
      | (refine wpAny_ite_false (decide_eq_false (by decide)) ?_; wp_walk using wpAny_loadPart' hl)
      | (refine wpAny_ite_true (decide_eq_true (by simp)) ?_; wp_walk using wpAny_loadPart' hl))
    exact ⟨_, rfl, h⟩
theorem tuple_mul0 (l : Addr) (items : Array Value) (n : Nat) (dd : Option Addr) (sl : Array (Option Value)) (u : Tok) (hi : items.isEmpty = false) :
    Meets (Builtin.«tuple.__mul__» ⟨[.ref l, .int 0 u], []⟩) (fun _ R s => s.heap.get? l = some { cls := .type "tuple", dict := dd, data := .seq items n, slots := sl } ∧
      R (.ok (.ret (Value.ref s.heap.objs.size))) { s with heap := s.heap.push { cls := Value.type "tuple", data := Data.seq #[] }, toks := s.toks }) :=
  .of_wp fun prog w A R s h => by
    obtain ⟨hp, g, d, tk, os⟩ := s
    obtain ⟨hl, h⟩ := h
    have f1 := AutoSeq1.idx_int
    wp_walk using wpAny_loadPart' hl
    repeat (first
      | (refine wpAny_ite_false (decide_eq_false (by decide)) ?_; wp_walk using wpAny_loadPart' hl)
      | (refine wpAny_ite_false (decide_eq_false (by rw [hi]; decide)) ?_; wp_walk using wpAny_loadPart' hl)
      | (refine wpAny_ite_true (decide_eq_true (by simp)) ?_; wp_walk using wpAny_loadPart' hl))
    exact ⟨_, rfl, h⟩
/-- (n,) * k -/
def rRepQ (K : PySem.W.Frag) : R2 := fun x y H Q => ∃ l, ∃ k n : Nat, x = .ref l ∧ y = .int (k : Int) ∧ H l = some (.tup [.int (n : Int)]) ∧ k ≤ 1000 ∧ GivesT H Q (List.replicate k n)
theorem rep_flat (n : Nat) : ∀ k : Nat, (List.replicate k ([.int (n : Int)] : List V)).flatten = wv (List.replicate k n)
  | 0 => rfl
  | k + 1 => by
    have := rep_flat n k
    rw [List.replicate_succ, List.flatten_cons, this, List.replicate_succ]
    rfl
section
variable {X : Cx}
theorem op_repQ : OpR X (binaryOp .Mult) (rRepQ X.K) := by
  intro pins s σ H x y v u Q I rx ry h
  obtain ⟨l, k, n, rfl, rfl, e, hk, q⟩ := h
  have hT : SqT X.K H l [.int (n : Int)] := .inl (.inl e)
  rcases Nat.lt_or_ge k 2 with h2 | h2
  · cases rx
    obtain ⟨t, rfl⟩ := ry
    obtain ⟨its, r, ⟨⟨cls, dd, data, sl⟩, ho, hc, m, hd⟩, hs⟩ := I.tuple hT
    simp only at hc hd
    subst hc hd
    have hn : its.length = 1 := r.length.symm
    have hi : its.toArray.isEmpty = false := by
      cases its with
      | nil => cases hn
      | cons a b => rfl
    have hk2 : k = 0 ∨ k = 1 := by omega
    rcases hk2 with rfl | rfl
    · refine wpAny_binaryOp_repeat_ref (T := "tuple") (U := "int") (by decide) ⟨_, ho, rfl⟩ (fun s' => typeIs_int s' _ t) noFill_tuple_mul F.fills_int_mul F.slot_int_rmul repeat_tuple F.slot_int_index.lookup
        (call_meets F.slot_int_rmul (typeIs_int s _ t) F.entry_int_rmul (F.args_int_rmul_2 _ _) (int_rmul_tuple _ t l its.toArray m dd sl)
          ⟨ho, rfl, ⟨_, ho, rfl⟩, call_meets F.slot_tuple_mul ⟨_, ho, rfl⟩ F.entry_tuple_mul (F.args_tuple_mul_2 _ _) (tuple_mul0 l its.toArray m dd sl t hi) ⟨ho, ?_⟩⟩)
      refine ⟨.ref s.heap.objs.size, _, I.laid (t' := s.toks) (o := .tup []) (fun b ob q => Heap.get?_push_of_some _ q) (Nat.le_refl _) ?_, rfl, q _ _ (same_upd (I.hok.fresh (Nat.le_refl _))) upd_same⟩
      exact ⟨Nat.zero_le _, [], .nil, IsTup.new _ _⟩
    · refine wpAny_binaryOp_repeat_ref (T := "tuple") (U := "int") (by decide) ⟨_, ho, rfl⟩ (fun s' => typeIs_int s' _ t) noFill_tuple_mul F.fills_int_mul F.slot_int_rmul repeat_tuple F.slot_int_index.lookup
        (call_meets F.slot_int_rmul (typeIs_int s _ t) F.entry_int_rmul (F.args_int_rmul_2 _ _) (int_rmul_tuple _ t l its.toArray m dd sl)
          ⟨ho, rfl, ⟨_, ho, rfl⟩, call_meets F.slot_tuple_mul ⟨_, ho, rfl⟩ F.entry_tuple_mul (F.args_tuple_mul_2 _ _) (tuple_mul1 l its.toArray m dd sl t) ⟨ho, ?_⟩⟩)
      exact ⟨.ref l, H, I, rfl, q H l (Same.refl _) e⟩
  · refine op_repT _ _ _ _ _ _ _ _ _ I rx ry ⟨l, (k : Int), _, rfl, rfl, hT, by simp, by omega, by omega, by simp, fun p np => q _ p (same_upd np) ?_⟩
    rw [upd_same, Int.toNat_natCast, rep_flat]
end
end Sf
/-! SfL7: the law itself. -/
namespace Sf
open PySem PySem.Spec PyProof.Rows L2
open C8 (Cal pe_c)
open Tm (Small)
/-- what is true of the terms that the law tries, and of the ways it finds -/
def MainMath : Prop := ∀ (t : Tm) (ws : List Nat), Tm.Wide t → t.Way60 ws → ws.length ≤ 12 → (t.steps ws).redNodes = [] → ∃ L, t.NormOf 60 L ∧ t.StdOf ws L ∧ t.Firsts L
section
variable {P : Program} {w : World} {K : PySem.W.Frag} {mg : Str → Option Value} {base : Heap}
def spLaw (K : PySem.W.Frag) : Sp := fun vs H Q _ => ∃ (a : Addr) (ns : List Int), vs = [.ref a] ∧ SqL K H a (ns.map V.int) ∧ ns.length ≤ 1000 ∧ ∀ H', Q (.bl true) H'
theorem ev_omega {σ : L2.St} {H : Hp} {E : XK} : EvT (tCall spLOmega [] E tNil) σ H Tm.tOmega := fun H1 Q s1 q => ⟨rfl, q⟩
theorem seq_par2 {ta : TA} {b : TS} {D : Ends} {σ : L2.St} {H : Hp} {t1 t2 : Tm} {i j : Nat} (hs : EvTs ta σ H [t1, t2]) (k : ∀ H' u v, Same H H' → TmAt H' u t1 → TmAt H' v t2 → b D ((σ.set i (some u)).set j (some v)) H') : tSeq (tPar i j ta) b D σ H :=
  hs H _ (Same.refl _) fun H1 vs s1 hv => match vs, hv with
    | [u, v], ⟨h1, h2, _⟩ => ⟨u, v, rfl, k H1 u v s1 h1 h2⟩
set_option maxHeartbeats 4000000 in
theorem ok_law (M : MainMath) {f : Addr} {fd : FuncData} (F : Fun K "law" "law" s_law f fd) (c_law_cup : Cal P w K mg base 1 "_law_cup" (spCup K) []) (c_law_wide : Cal P w K mg base 134 "_law_wide" spWide []) (c_law_to_normal : Cal P w K mg base 192 "_law_to_normal" spToNormal []) (c_law_normal : Cal P w K mg base 192 "_law_normal" spNormal [])
    (c_standard_way : Cal P w K mg base 140 "standard_way" spStdWay []) (c_is_standard : Cal P w K mg base 136 "is_standard" spIsStd []) (c_law_omega : Cal P w K mg base 1 "_law_omega" spLOmega []) (c_law_roll : Cal P w K mg base 1 "_law_roll" spRoll []) (m_range : mg "range" = none) : FnOk P w K mg base CX0 193 f fd ["_law_script"] (spLaw K) := by
  refine F.ok sc_law (fun vs H Q E h => ?_) (fun cdv A outer s H vs Q E hr h => ?_)
  · obtain ⟨a, ns, rfl, _⟩ := h
    rfl
  obtain ⟨a, ns, rfl, hS, hl, q⟩ := h
  refine ⟨_, (pss_cons (ps_set (i := 1) sc_law.nd rfl (.inl rfl) (C8.pe_c c_law_cup hr (by omega) (by rfl) (pa_cons (pv 0) pa_nil)))
  (pss_cons (ps_for PassesOwn.never rfl (pi_range1 (by rfl) m_range (pa_cons pe_int pa_nil)) (pg_name (i := 2) sc_law.nd rfl (.inl rfl))
  (pss_cons (ps_set (i := 3) sc_law.nd rfl (.inl rfl) (C8.pe_c c_law_wide hr (by omega) (by rfl) (pa_cons (pv 1) pa_nil)))
  (pss_cons (ps_set (i := 4) sc_law.nd rfl (.inl rfl) (C8.pe_c c_law_to_normal hr (by omega) (by rfl) (pa_cons (pv 1) (pa_cons (pv 3) pa_nil))))
  (pss_one (ps_if (pt_cmpR op_notN (pv 4) pe_non (nomark _))
  (pss_cons (ps_set (i := 5) sc_law.nd rfl (.inl rfl) (pe_ix ix_tup (C8.pe_c c_law_normal hr (by omega) (by rfl) (pa_cons (pv 3) (pa_cons pe_int pa_nil))) pe_int (fun _ _ => rfl)))
  (pss_one (ps_if (PW.pt (pw_or (pt_cmpR (op_neD hr.units) (C8.pe_c c_standard_way hr (by omega) (by rfl) (pa_cons (pv 3) (pa_cons (pv 4) pa_nil))) (pv 5) (nomark _)) (pw_or1 (pt_cmpR op_notBl (C8.pe_c c_is_standard hr (by omega) (by rfl) (pa_cons (pv 3) (pa_cons (pv 5) pa_nil))) pe_bl (nomark _)))))
  (pss_one (ps_ret pe_bl))
  pss_nil)))
  pss_nil)))))
  (pss_cons (ps_par (i := 6) (j := 7) (by rfl) sc_law.nd rfl rfl (by decide) rfl rfl (pa_cons (pe_tup (pa_cons pe_str (pa_cons pe_str pa_nil))) (pa_cons (pe_c0 c_law_omega hr (by omega) (by rfl)) pa_nil)) (by rfl))
  (pss_cons (ps_set (i := 8) sc_law.nd rfl (.inl rfl) (pe_tup (pa_cons pe_str (pa_cons (pe_tup (pa_cons pe_str (pa_cons (pe_tup (pa_cons pe_str (pa_cons (pe_tup (pa_cons pe_str (pa_cons (pe_tup (pa_cons pe_str (pa_cons pe_int pa_nil))) pa_nil))) pa_nil))) (pa_cons (pv 6) pa_nil)))) (pa_cons (pv 7) pa_nil)))))
  (pss_cons (ps_set (i := 9) sc_law.nd rfl (.inl rfl) (C8.pe_c c_law_roll hr (by omega) (by rfl) (pa_cons (pv 1) (pa_cons pe_int pa_nil))))
  (pss_cons (ps_set (i := 5) sc_law.nd rfl (.inl rfl) (pe_ix ix_tup (C8.pe_c c_law_normal hr (by omega) (by rfl) (pa_cons (pv 8) (pa_cons pe_int pa_nil))) pe_int (fun _ _ => rfl)))
  (pss_cons (ps_if (PW.pt (pw_or (pt_cmpR (op_neD hr.units) (C8.pe_c c_standard_way hr (by omega) (by rfl) (pa_cons (pv 8) (pa_cons (pe_op op_catA (pe_op op_repQ (pe_tup (pa_cons pe_int pa_nil)) (pv 9)) (pe_tup (pa_cons pe_int (pa_cons pe_int pa_nil)))) pa_nil))) (pv 5) (nomark _)) (pw_or1 (pt_cmpR (op_neD hr.units) (C8.pe_c c_standard_way hr (by omega) (by rfl) (pa_cons (pv 8) (pa_cons (pe_op op_catA (pe_op op_catA (pe_tup (pa_cons pe_int pa_nil)) (pe_op op_repQ (pe_tup (pa_cons pe_int pa_nil)) (pv 9))) (pe_tup (pa_cons pe_int pa_nil))) pa_nil))) (pv 5) (nomark _)))))
  (pss_one (ps_ret pe_bl))
  pss_nil)
  (pss_cons (ps_set (i := 10) sc_law.nd rfl (.inl rfl) (pe_tup (pa_cons pe_str (pa_cons (pe_tup (pa_cons pe_str (pa_cons (pe_tup (pa_cons pe_str (pa_cons pe_str pa_nil))) pa_nil))) (pa_cons (pv 7) pa_nil)))))
  (pss_one (ps_ret (pe_and (pe_cmpR (op_eqD hr.units) (C8.pe_c c_standard_way hr (by omega) (by rfl) (pa_cons (pv 10) (pa_cons (pe_op op_catA (pe_op op_repQ (pe_tup (pa_cons pe_int pa_nil)) (pv 9)) (pe_tup (pa_cons pe_int pa_nil))) pa_nil))) (pe_ix ix_tup (C8.pe_c c_law_normal hr (by omega) (by rfl) (pa_cons (pv 10) (pa_cons pe_int pa_nil))) pe_int (fun _ _ => rfl)) (nomark _)) (pe_one (pe_cmpR (op_eqD hr.units) (C8.pe_c c_standard_way hr (by omega) (by rfl) (pa_cons (pe_tup (pa_cons pe_str (pa_cons (pv 10) pa_nil))) (pa_cons (pe_op op_repQ (pe_tup (pa_cons pe_int pa_nil)) (pv 9)) pa_nil))) (pe_op op_repQ (pe_tup (pa_cons pe_int pa_nil)) (pv 9)) (nomark _)))))))))))))), ?_⟩
  refine ⟨_, rfl, a, ns, rfl, hS, hl, fun H1 c s1 hc => ?_⟩
  refine ⟨_, rfl, by omega, by omega, ?_⟩
  refine for_it walk_range (fun i σ H2 => ∃ y2 y3 y4 y5, σ = [some (.ref a), some (.ref c), y2, y3, y4, y5, none, none, none, none, none] ∧ CupAt H2 c)
    ⟨none, none, none, none, rfl, hc⟩ (fun _ _ _ _ _ => trivial) (fun i x σ H2 H3 hi h y => ?_) (fun σ H2 h => ?_)
  · obtain ⟨y2, y3, y4, y5, rfl, hc2⟩ := h
    obtain ⟨rfl, rfl⟩ := y
    refine ⟨_, rfl, c, rfl, hc2, fun H4 v t s4 hc4 hW hv => ?_⟩
    refine ⟨_, rfl, _, rfl, c, v, t, rfl, hc4, hv, Nat.le_trans hW.small.2 (by decide), fun H5 s5 hc5 => ?_, fun H5 p ws s5 hc5 hw hwl hn ep => ?_⟩
    · refine ⟨_, rfl, rfl, _, rfl, ifF rfl ?_⟩
      exact ⟨_, _, _, _, rfl, hc5⟩
    obtain ⟨L, ⟨ls, lw, lm, ll, lk⟩, ⟨ss, sc, sw, sl, sS, sL⟩, hF⟩ := M t ws hW hw hwl hn
    refine ⟨_, rfl, rfl, _, rfl, ifT rfl ?_⟩
    have hv5 := hv.mono (s5.tups hc4)
    refine ⟨_, rfl, v, t, 60, L, rfl, hv5, ls, lw, lm, ll, lk, fun H6 p6 r6 v6 s6 e6 f6 => ?_⟩
    refine ⟨p6, _, 0, .ref r6, rfl, rfl, .inl (.inl e6), atI_nat (j := 0) rfl, ?_⟩
    refine ⟨_, rfl, _, rfl, v, t, p, ws, L, rfl, hv5.mono (Same.tups s6), s6 _ _ ep, ss, sc, sw, sl, sS, sL, fun H7 p7 s7 e7 => ?_⟩
    refine ⟨_, rfl, neT (m := L) (.inl (.inl e7)) (.inl (.inl (s7 _ _ f6))) ⟨_, rfl, ifF (by simp) ?_⟩⟩
    have hv7 := hv5.mono (Same.tups (s6.trans s7))
    refine ⟨_, rfl, _, rfl, v, t, r6, L, rfl, hv7, s7 _ _ f6, ss, sc, lw, by omega, hF, fun H8 s8 => ?_⟩
    exact ⟨true, true, rfl, rfl, _, rfl, ifF rfl ⟨_, _, _, _, rfl, hc5.mono (s6.trans (s7.trans s8))⟩⟩
  · obtain ⟨y2, y3, y4, y5, rfl, hc2⟩ := h
    clear hc hS
    refine seq_par2 (evs_cons (ev_lt (c := false)) (evs_cons ev_omega evs_nil)) fun H3 va vo s3 ha ho => ?_
    refine seq_set (ev_ap (ev_ap (ev_fn (ev_fn (ev_nm (n := 1)))) (ev_var (t := Tm.tA) rfl ha)) (ev_var (t := Tm.tOmega) rfl ho)) fun H4 vn s4 hn => ?_
    have hc4 := hc2.mono (s3.trans s4)
    refine ⟨_, rfl, c, 4, rfl, hc4, by decide, by decide, fun H5 k s5 hc5 hk => ?_⟩
    have hn5 : TmAt H5 vn Tm.tNever := hn.mono (s5.tups hc4)
    have ho5 := (ho.mono (Same.tups s4)).mono (s5.tups hc4)
    obtain ⟨ls, lw, lm, ll, lk⟩ := Tm.never_norm
    refine ⟨_, rfl, vn, Tm.tNever, 9, [1, 0], rfl, hn5, ls, lw, lm, ll, lk, fun H6 p6 r6 v6 s6 e6 f6 => ?_⟩
    refine ⟨p6, _, 0, .ref r6, rfl, rfl, .inl (.inl e6), atI_nat (j := 0) rfl, ?_⟩
    -- the first way
    refine ⟨_, rfl, ln1, fun p7 np7 => ⟨_, rfl, p7, k, 6, rfl, rfl, upd_same, by omega, fun H8 p8 s8 e8 => ⟨ln2, fun p9 np9 => ?_⟩⟩⟩
    have s9 : Same H8 (upd H8 p9 (.tup [.int 1, .int 0])) := same_upd np9
    refine catT (l := List.replicate k 6) (m := [1, 0]) (s9 _ _ e8) (by rw [upd_same]; rfl) (by rw [List.length_replicate]; simp only [List.length_cons, List.length_nil]; omega) fun H10 p10 s10 e10 => ?_
    have s60 := (same_upd (o := .tup [.int 6]) np7).trans (s8.trans (s9.trans s10))
    have hn10 := hn5.mono (Same.tups (s6.trans s60))
    obtain ⟨ss, sc, sw, sl, sS, sL⟩ := Tm.never_std k hk
    refine ⟨vn, Tm.tNever, p10, _, [1, 0], rfl, hn10, e10, ss, sc, sw, sl, sS, sL, fun H11 p11 s11 e11 => ?_⟩
    have s6B := s60.trans s11
    refine ⟨_, rfl, neT (m := [1, 0]) (.inl (.inl e11)) (.inl (.inl (s6B _ _ f6))) ⟨_, rfl, ifF (by simp) ?_⟩⟩
    clear ss sc sw sl sS sL
    -- the second way
    refine ⟨_, rfl, ln1, fun p12 np12 => ⟨ln1, fun p13 np13 => ⟨_, rfl, p13, k, 3, rfl, rfl, upd_same, by omega, fun H14 p14 s14 e14 => ?_⟩⟩⟩
    have s12 : Same H11 (upd H11 p12 (.tup [.int 1])) := same_upd np12
    have s13 := (same_upd (o := .tup [.int 3]) np13).trans s14
    refine catT (l := [1]) (m := List.replicate k 3) (by rw [s13 _ _ upd_same]; rfl) e14 (by rw [List.length_replicate]; simp only [List.length_cons, List.length_nil]; omega) fun H15 p15 s15 e15 => ⟨ln1, fun p16 np16 => ?_⟩
    have s16 : Same H15 (upd H15 p16 (.tup [.int 0])) := same_upd np16
    refine catT (m := [0]) (s16 _ _ e15) (by rw [upd_same]; rfl) (by rw [List.length_append, List.length_replicate]; simp only [List.length_cons, List.length_nil]; omega) fun H17 p17 s17 e17 => ?_
    have sBC := s12.trans (s13.trans (s15.trans (s16.trans s17)))
    obtain ⟨ss, sc, sw, sl, sS, sL⟩ := Tm.never_std2 k hk
    refine ⟨vn, Tm.tNever, p17, _, [1, 0], rfl, hn10.mono (Same.tups (s11.trans sBC)), e17, ss, sc, sw, sl, sS, sL, fun H18 p18 s18 e18 => ?_⟩
    have s6D := s6B.trans (sBC.trans s18)
    refine ⟨_, rfl, neT (m := [1, 0]) (.inl (.inl e18)) (.inl (.inl (s6D _ _ f6))) ⟨_, rfl, ifF (by simp) ?_⟩⟩
    clear ss sc sw sl sS sL
    have ho18 := ho5.mono (Same.tups (s6.trans s6D))
    -- the inner one
    refine seq_set (ev_ap (ev_fn (ev_lt (c := true))) (ev_var (t := Tm.tOmega) rfl ho18)) fun H19 vi s19 hi => ?_
    refine ⟨_, rfl, ln1, fun p20 np20 => ⟨_, rfl, p20, k, 3, rfl, rfl, upd_same, by omega, fun H21 p21 s21 e21 => ⟨ln1, fun p22 np22 => ?_⟩⟩⟩
    have s22 : Same H21 (upd H21 p22 (.tup [.int 0])) := same_upd np22
    refine catT (l := List.replicate k 3) (m := [0]) (s22 _ _ e21) (by rw [upd_same]; rfl) (by rw [List.length_replicate]; simp only [List.length_cons, List.length_nil]; omega) fun H23 p23 s23 e23 => ?_
    have sJ := (same_upd (o := .tup [.int 3]) np20).trans (s21.trans (s22.trans s23))
    have hi23 : TmAt H23 vi Tm.tInner := hi.mono (Same.tups sJ)
    obtain ⟨ss, sc, sw, sl, sS, sL⟩ := Tm.inner_std k hk
    refine ⟨vi, Tm.tInner, p23, _, [0], rfl, hi23, e23, ss, sc, sw, sl, sS, sL, fun H24 p24 s24 e24 => ?_⟩
    clear ss sc sw sl sS sL
    obtain ⟨ls, lw, lm, ll, lk⟩ := Tm.inner_norm
    refine ⟨_, rfl, vi, Tm.tInner, 9, [0], rfl, hi23.mono (Same.tups s24), ls, lw, lm, ll, lk, fun H25 p25 r25 v25 s25 e25 f25 => ?_⟩
    refine ⟨p25, _, 0, .ref r25, rfl, rfl, .inl (.inl e25), atI_nat (j := 0) rfl, ?_⟩
    refine eqT (m := [0]) (.inl (.inl (s25 _ _ e24))) (.inl (.inl f25)) ⟨_, rfl, ifT (by simp) ?_⟩
    have hi25 := hi23.mono (Same.tups (s24.trans s25))
    -- it stays in its fun
    refine ⟨_, rfl, ln2, fun p26 np26 => ⟨ln1, fun p27 np27 => ⟨_, rfl, p27, k, 4, rfl, rfl, upd_same, by omega, fun H28 p28 s28 e28 => ?_⟩⟩⟩
    have hf : TmAt _ (.ref p26) (.fn Tm.tInner) := TmAt.fn_new np26 hi25
    have sK := (same_upd (o := .tup [.int 4]) np27).trans s28
    obtain ⟨ss, sc, sw, sl, sS, sL⟩ := Tm.inner_fn k hk
    refine ⟨.ref p26, .fn Tm.tInner, p28, _, List.replicate k 4, rfl, hf.mono (Same.tups sK), e28, ss, sc, sw, sl, sS, sL, fun H29 p29 s29 e29 => ?_⟩
    refine ⟨ln1, fun p30 np30 => ⟨_, rfl, p30, k, 4, rfl, rfl, upd_same, by omega, fun H31 p31 s31 e31 => ?_⟩⟩
    have sL := (same_upd (o := .tup [.int 4]) np30).trans s31
    refine eqT (m := List.replicate k 4) (.inl (.inl (sL _ _ e29))) (.inl (.inl e31)) ?_
    rw [decide_eq_true rfl]
    exact q _
end
end Sf
/-! SfMain: what the law asks is true of its terms. -/
namespace Sf
theorem main_math : MainMath := fun _ _ h hw hl hn => Tm.wide_main h hw hl hn
end Sf
/-! SfEnd: the whole program, and the law. -/
namespace Sf
open PySem PySem.Spec PyProof.Rows L2
open C8 (Cal pe_c)
set_option maxHeartbeats 0 in
theorem all_mk (M : MainMath) {l : PySem.W.OpenLaw} {w : World} {K : PySem.W.Frag} {h : Heap} {mg : Str → Option Value} {fa f1 f2 f3 f4 f5 f6 f7 f8 f9 f10 f11 f12 f13 f14 f15 f16 f17 f18 f19 f20 f21 f22 f23 f24 f25 f26 f27 f28 f29 f30 f31 f32 f33 f34 f35 f36 f37 f38 f39 f40 f41 f42 f43 f44 f45 f46 f47 f48 f49 f50 f51 f52 f53 f54 f55 f56 f57 f58 f59 f60 f61 f62 f63 f64 f65 : Addr} (X : K.In h) (G : h.Ns mainGlobals mg) (hfa : mg "law" = some (.ref fa))
    {od1 an1 od2 an2 od3 an3 od4 an4 od5 an5 od6 an6 od7 an7 od8 an8 od9 an9 od10 an10 od11 an11 od12 an12 od13 an13 od14 an14 od15 an15 od16 an16 od17 an17 od18 an18 od19 an19 od20 an20 od21 an21 od22 an22 od23 an23 od24 an24 od25 an25 od26 an26 od27 an27 od28 an28 od29 an29 od30 an30 od31 an31 od32 an32 od33 an33 od34 an34 od35 an35 od36 an36 od37 an37 od38 an38 od39 an39 od40 an40 od41 an41 od42 an42 od43 an43 od44 an44 od45 an45 od46 an46 od47 an47 od48 an48 od49 an49 od50 an50 od51 an51 od52 an52 od53 an53 od54 an54 od55 an55 od56 an56 od57 an57 od58 an58 od59 an59 od60 an60 od61 an61 od62 an62 od63 an63 od64 an64 od65 an65 : Option Addr} {sl1 sl2 sl3 sl4 sl5 sl6 sl7 sl8 sl9 sl10 sl11 sl12 sl13 sl14 sl15 sl16 sl17 sl18 sl19 sl20 sl21 sl22 sl23 sl24 sl25 sl26 sl27 sl28 sl29 sl30 sl31 sl32 sl33 sl34 sl35 sl36 sl37 sl38 sl39 sl40 sl41 sl42 sl43 sl44 sl45 sl46 sl47 sl48 sl49 sl50 sl51 sl52 sl53 sl54 sl55 sl56 sl57 sl58 sl59 sl60 sl61 sl62 sl63 sl64 sl65 : Array (Option Value)} {oc1 kV1 dc1 pm1 cd1 ct1 oc2 kV2 dc2 pm2 cd2 ct2 oc3 kV3 dc3 pm3 cd3 ct3 oc4 kV4 dc4 pm4 cd4 ct4 oc5 kV5 dc5 pm5 cd5 ct5 oc6 kV6 dc6 pm6 cd6 ct6 oc7 kV7 dc7 pm7 cd7 ct7 oc8 kV8 dc8 pm8 cd8 ct8 oc9 kV9 dc9 pm9 cd9 ct9 oc10 kV10 dc10 pm10 cd10 ct10 oc11 kV11 dc11 pm11 cd11 ct11 oc12 kV12 dc12 pm12 cd12 ct12 oc13 kV13 dc13 pm13 cd13 ct13 oc14 kV14 dc14 pm14 cd14 ct14 oc15 kV15 dc15 pm15 cd15 ct15 oc16 kV16 dc16 pm16 cd16 ct16 oc17 kV17 dc17 pm17 cd17 ct17 oc18 kV18 dc18 pm18 cd18 ct18 oc19 kV19 dc19 pm19 cd19 ct19 oc20 kV20 dc20 pm20 cd20 ct20 oc21 kV21 dc21 pm21 cd21 ct21 oc22 kV22 dc22 pm22 cd22 ct22 oc23 kV23 dc23 pm23 cd23 ct23 oc24 kV24 dc24 pm24 cd24 ct24 oc25 kV25 dc25 pm25 cd25 ct25 oc26 kV26 dc26 pm26 cd26 ct26 oc27 kV27 dc27 pm27 cd27 ct27 oc28 kV28 dc28 pm28 cd28 ct28 oc29 kV29 dc29 pm29 cd29 ct29 oc30 kV30 dc30 pm30 cd30 ct30 oc31 kV31 dc31 pm31 cd31 ct31 oc32 kV32 dc32 pm32 cd32 ct32 oc33 kV33 dc33 pm33 cd33 ct33 oc34 kV34 dc34 pm34 cd34 ct34 oc35 kV35 dc35 pm35 cd35 ct35 oc36 kV36 dc36 pm36 cd36 ct36 oc37 kV37 dc37 pm37 cd37 ct37 oc38 kV38 dc38 pm38 cd38 ct38 oc39 kV39 dc39 pm39 cd39 ct39 oc40 kV40 dc40 pm40 cd40 ct40 oc41 kV41 dc41 pm41 cd41 ct41 oc42 kV42 dc42 pm42 cd42 ct42 oc43 kV43 dc43 pm43 cd43 ct43 oc44 kV44 dc44 pm44 cd44 ct44 oc45 kV45 dc45 pm45 cd45 ct45 oc46 kV46 dc46 pm46 cd46 ct46 oc47 kV47 dc47 pm47 cd47 ct47 oc48 kV48 dc48 pm48 cd48 ct48 oc49 kV49 dc49 pm49 cd49 ct49 oc50 kV50 dc50 pm50 cd50 ct50 oc51 kV51 dc51 pm51 cd51 ct51 oc52 kV52 dc52 pm52 cd52 ct52 oc53 kV53 dc53 pm53 cd53 ct53 oc54 kV54 dc54 pm54 cd54 ct54 oc55 kV55 dc55 pm55 cd55 ct55 oc56 kV56 dc56 pm56 cd56 ct56 oc57 kV57 dc57 pm57 cd57 ct57 oc58 kV58 dc58 pm58 cd58 ct58 oc59 kV59 dc59 pm59 cd59 ct59 oc60 kV60 dc60 pm60 cd60 ct60 oc61 kV61 dc61 pm61 cd61 ct61 oc62 kV62 dc62 pm62 cd62 ct62 oc63 kV63 dc63 pm63 cd63 ct63 oc64 kV64 dc64 pm64 cd64 ct64 oc65 kV65 dc65 pm65 cd65 ct65 : Value} {tkHEIGHT tkLETTERS tkNODES tkSTEPS : Tok}
    (a1 : PySem.W.nsIn K mainGlobals "inner" = some (some (.ref f1))) (l1 : K.lookup f1 = some ⟨oc1, od1, .func (PySem.W.fnOf "inner" "inner" (defArgs s_inner) (defBody s_inner) (defScope s_inner) .none kV1 dc1 pm1 an1 cd1 ct1), sl1⟩) (c1 : PySem.W.codeIn K cd1 "inner" = true) (k1 : PySem.W.keepIn K (.ref f1) = true)
    (a2 : PySem.W.nsIn K mainGlobals "size" = some (some (.ref f2))) (l2 : K.lookup f2 = some ⟨oc2, od2, .func (PySem.W.fnOf "size" "size" (defArgs s_size) (defBody s_size) (defScope s_size) .none kV2 dc2 pm2 an2 cd2 ct2), sl2⟩) (c2 : PySem.W.codeIn K cd2 "size" = true) (k2 : PySem.W.keepIn K (.ref f2) = true)
    (a3 : PySem.W.nsIn K mainGlobals "is_whole" = some (some (.ref f3))) (l3 : K.lookup f3 = some ⟨oc3, od3, .func (PySem.W.fnOf "is_whole" "is_whole" (defArgs s_is_whole) (defBody s_is_whole) (defScope s_is_whole) .none kV3 dc3 pm3 an3 cd3 ct3), sl3⟩) (c3 : PySem.W.codeIn K cd3 "is_whole" = true) (k3 : PySem.W.keepIn K (.ref f3) = true)
    (a4 : PySem.W.nsIn K mainGlobals "is_tuple_of" = some (some (.ref f4))) (l4 : K.lookup f4 = some ⟨oc4, od4, .func (PySem.W.fnOf "is_tuple_of" "is_tuple_of" (defArgs s_is_tuple_of) (defBody s_is_tuple_of) (defScope s_is_tuple_of) .none kV4 dc4 pm4 an4 cd4 ct4), sl4⟩) (c4 : PySem.W.codeIn K cd4 "is_tuple_of" = true) (k4 : PySem.W.keepIn K (.ref f4) = true)
    (a5 : PySem.W.nsIn K mainGlobals "height" = some (some (.ref f5))) (l5 : K.lookup f5 = some ⟨oc5, od5, .func (PySem.W.fnOf "height" "height" (defArgs s_height) (defBody s_height) (defScope s_height) .none kV5 dc5 pm5 an5 cd5 ct5), sl5⟩) (c5 : PySem.W.codeIn K cd5 "height" = true) (k5 : PySem.W.keepIn K (.ref f5) = true)
    (a6 : PySem.W.nsIn K mainGlobals "parts" = some (some (.ref f6))) (l6 : K.lookup f6 = some ⟨oc6, od6, .func (PySem.W.fnOf "parts" "parts" (defArgs s_parts) (defBody s_parts) (defScope s_parts) .none kV6 dc6 pm6 an6 cd6 ct6), sl6⟩) (c6 : PySem.W.codeIn K cd6 "parts" = true) (k6 : PySem.W.keepIn K (.ref f6) = true)
    (a7 : PySem.W.nsIn K mainGlobals "is_leaf" = some (some (.ref f7))) (l7 : K.lookup f7 = some ⟨oc7, od7, .func (PySem.W.fnOf "is_leaf" "is_leaf" (defArgs s_is_leaf) (defBody s_is_leaf) (defScope s_is_leaf) .none kV7 dc7 pm7 an7 cd7 ct7), sl7⟩) (c7 : PySem.W.codeIn K cd7 "is_leaf" = true) (k7 : PySem.W.keepIn K (.ref f7) = true)
    (a8 : PySem.W.nsIn K mainGlobals "left_of" = some (some (.ref f8))) (l8 : K.lookup f8 = some ⟨oc8, od8, .func (PySem.W.fnOf "left_of" "left_of" (defArgs s_left_of) (defBody s_left_of) (defScope s_left_of) .none kV8 dc8 pm8 an8 cd8 ct8), sl8⟩) (c8 : PySem.W.codeIn K cd8 "left_of" = true) (k8 : PySem.W.keepIn K (.ref f8) = true)
    (a9 : PySem.W.nsIn K mainGlobals "lifted" = some (some (.ref f9))) (l9 : K.lookup f9 = some ⟨oc9, od9, .func (PySem.W.fnOf "lifted" "lifted" (defArgs s_lifted) (defBody s_lifted) (defScope s_lifted) .none kV9 dc9 pm9 an9 cd9 ct9), sl9⟩) (c9 : PySem.W.codeIn K cd9 "lifted" = true) (k9 : PySem.W.keepIn K (.ref f9) = true)
    (a10 : PySem.W.nsIn K mainGlobals "put_for" = some (some (.ref f10))) (l10 : K.lookup f10 = some ⟨oc10, od10, .func (PySem.W.fnOf "put_for" "put_for" (defArgs s_put_for) (defBody s_put_for) (defScope s_put_for) .none kV10 dc10 pm10 an10 cd10 ct10), sl10⟩) (c10 : PySem.W.codeIn K cd10 "put_for" = true) (k10 : PySem.W.keepIn K (.ref f10) = true)
    (a11 : PySem.W.nsIn K mainGlobals "stands" = some (some (.ref f11))) (l11 : K.lookup f11 = some ⟨oc11, od11, .func (PySem.W.fnOf "stands" "stands" (defArgs s_stands) (defBody s_stands) (defScope s_stands) .none kV11 dc11 pm11 an11 cd11 ct11), sl11⟩) (c11 : PySem.W.codeIn K cd11 "stands" = true) (k11 : PySem.W.keepIn K (.ref f11) = true)
    (a12 : PySem.W.nsIn K mainGlobals "size_behind" = some (some (.ref f12))) (l12 : K.lookup f12 = some ⟨oc12, od12, .func (PySem.W.fnOf "size_behind" "size_behind" (defArgs s_size_behind) (defBody s_size_behind) (defScope s_size_behind) .none kV12 dc12 pm12 an12 cd12 ct12), sl12⟩) (c12 : PySem.W.codeIn K cd12 "size_behind" = true) (k12 : PySem.W.keepIn K (.ref f12) = true)
    (a13 : PySem.W.nsIn K mainGlobals "contracted" = some (some (.ref f13))) (l13 : K.lookup f13 = some ⟨oc13, od13, .func (PySem.W.fnOf "contracted" "contracted" (defArgs s_contracted) (defBody s_contracted) (defScope s_contracted) .none kV13 dc13 pm13 an13 cd13 ct13), sl13⟩) (c13 : PySem.W.codeIn K cd13 "contracted" = true) (k13 : PySem.W.keepIn K (.ref f13) = true)
    (a14 : PySem.W.nsIn K mainGlobals "put_at" = some (some (.ref f14))) (l14 : K.lookup f14 = some ⟨oc14, od14, .func (PySem.W.fnOf "put_at" "put_at" (defArgs s_put_at) (defBody s_put_at) (defScope s_put_at) .none kV14 dc14 pm14 an14 cd14 ct14), sl14⟩) (c14 : PySem.W.codeIn K cd14 "put_at" = true) (k14 : PySem.W.keepIn K (.ref f14) = true)
    (a15 : PySem.W.nsIn K mainGlobals "fits_term" = some (some (.ref f15))) (l15 : K.lookup f15 = some ⟨oc15, od15, .func (PySem.W.fnOf "fits_term" "fits_term" (defArgs s_fits_term) (defBody s_fits_term) (defScope s_fits_term) .none kV15 dc15 pm15 an15 cd15 ct15), sl15⟩) (c15 : PySem.W.codeIn K cd15 "fits_term" = true) (k15 : PySem.W.keepIn K (.ref f15) = true)
    (a16 : PySem.W.nsIn K mainGlobals "need_term" = some (some (.ref f16))) (l16 : K.lookup f16 = some ⟨oc16, od16, .func (PySem.W.fnOf "need_term" "need_term" (defArgs s_need_term) (defBody s_need_term) (defScope s_need_term) .none kV16 dc16 pm16 an16 cd16 ct16), sl16⟩) (c16 : PySem.W.codeIn K cd16 "need_term" = true) (k16 : PySem.W.keepIn K (.ref f16) = true)
    (a17 : PySem.W.nsIn K mainGlobals "need_small" = some (some (.ref f17))) (l17 : K.lookup f17 = some ⟨oc17, od17, .func (PySem.W.fnOf "need_small" "need_small" (defArgs s_need_small) (defBody s_need_small) (defScope s_need_small) .none kV17 dc17 pm17 an17 cd17 ct17), sl17⟩) (c17 : PySem.W.codeIn K cd17 "need_small" = true) (k17 : PySem.W.keepIn K (.ref f17) = true)
    (a18 : PySem.W.nsIn K mainGlobals "is_call_of_fun" = some (some (.ref f18))) (l18 : K.lookup f18 = some ⟨oc18, od18, .func (PySem.W.fnOf "is_call_of_fun" "is_call_of_fun" (defArgs s_is_call_of_fun) (defBody s_is_call_of_fun) (defScope s_is_call_of_fun) .none kV18 dc18 pm18 an18 cd18 ct18), sl18⟩) (c18 : PySem.W.codeIn K cd18 "is_call_of_fun" = true) (k18 : PySem.W.keepIn K (.ref f18) = true)
    (a19 : PySem.W.nsIn K mainGlobals "redex_nodes" = some (some (.ref f19))) (l19 : K.lookup f19 = some ⟨oc19, od19, .func (PySem.W.fnOf "redex_nodes" "redex_nodes" (defArgs s_redex_nodes) (defBody s_redex_nodes) (defScope s_redex_nodes) .none kV19 dc19 pm19 an19 cd19 ct19), sl19⟩) (c19 : PySem.W.codeIn K cd19 "redex_nodes" = true) (k19 : PySem.W.keepIn K (.ref f19) = true)
    (a20 : PySem.W.nsIn K mainGlobals "stepped" = some (some (.ref f20))) (l20 : K.lookup f20 = some ⟨oc20, od20, .func (PySem.W.fnOf "stepped" "stepped" (defArgs s_stepped) (defBody s_stepped) (defScope s_stepped) .none kV20 dc20 pm20 an20 cd20 ct20), sl20⟩) (c20 : PySem.W.codeIn K cd20 "stepped" = true) (k20 : PySem.W.keepIn K (.ref f20) = true)
    (a21 : PySem.W.nsIn K mainGlobals "body_origins" = some (some (.ref f21))) (l21 : K.lookup f21 = some ⟨oc21, od21, .func (PySem.W.fnOf "body_origins" "body_origins" (defArgs s_body_origins) (defBody s_body_origins) (defScope s_body_origins) .none kV21 dc21 pm21 an21 cd21 ct21), sl21⟩) (c21 : PySem.W.codeIn K cd21 "body_origins" = true) (k21 : PySem.W.keepIn K (.ref f21) = true)
    (a22 : PySem.W.nsIn K mainGlobals "step_origins" = some (some (.ref f22))) (l22 : K.lookup f22 = some ⟨oc22, od22, .func (PySem.W.fnOf "step_origins" "step_origins" (defArgs s_step_origins) (defBody s_step_origins) (defScope s_step_origins) .none kV22 dc22 pm22 an22 cd22 ct22), sl22⟩) (c22 : PySem.W.codeIn K cd22 "step_origins" = true) (k22 : PySem.W.keepIn K (.ref f22) = true)
    (a23 : PySem.W.nsIn K mainGlobals "left_in" = some (some (.ref f23))) (l23 : K.lookup f23 = some ⟨oc23, od23, .func (PySem.W.fnOf "left_in" "left_in" (defArgs s_left_in) (defBody s_left_in) (defScope s_left_in) .none kV23 dc23 pm23 an23 cd23 ct23), sl23⟩) (c23 : PySem.W.codeIn K cd23 "left_in" = true) (k23 : PySem.W.keepIn K (.ref f23) = true)
    (a24 : PySem.W.nsIn K mainGlobals "left_through" = some (some (.ref f24))) (l24 : K.lookup f24 = some ⟨oc24, od24, .func (PySem.W.fnOf "left_through" "left_through" (defArgs s_left_through) (defBody s_left_through) (defScope s_left_through) .none kV24 dc24 pm24 an24 cd24 ct24), sl24⟩) (c24 : PySem.W.codeIn K cd24 "left_through" = true) (k24 : PySem.W.keepIn K (.ref f24) = true)
    (a25 : PySem.W.nsIn K mainGlobals "along" = some (some (.ref f25))) (l25 : K.lookup f25 = some ⟨oc25, od25, .func (PySem.W.fnOf "along" "along" (defArgs s_along) (defBody s_along) (defScope s_along) .none kV25 dc25 pm25 an25 cd25 ct25), sl25⟩) (c25 : PySem.W.codeIn K cd25 "along" = true) (k25 : PySem.W.keepIn K (.ref f25) = true)
    (a26 : PySem.W.nsIn K mainGlobals "need_way" = some (some (.ref f26))) (l26 : K.lookup f26 = some ⟨oc26, od26, .func (PySem.W.fnOf "need_way" "need_way" (defArgs s_need_way) (defBody s_need_way) (defScope s_need_way) .none kV26 dc26 pm26 an26 cd26 ct26), sl26⟩) (c26 : PySem.W.codeIn K cd26 "need_way" = true) (k26 : PySem.W.keepIn K (.ref f26) = true)
    (a27 : PySem.W.nsIn K mainGlobals "developed_way" = some (some (.ref f27))) (l27 : K.lookup f27 = some ⟨oc27, od27, .func (PySem.W.fnOf "developed_way" "developed_way" (defArgs s_developed_way) (defBody s_developed_way) (defScope s_developed_way) .none kV27 dc27 pm27 an27 cd27 ct27), sl27⟩) (c27 : PySem.W.codeIn K cd27 "developed_way" = true) (k27 : PySem.W.keepIn K (.ref f27) = true)
    (a28 : PySem.W.nsIn K mainGlobals "development_in" = some (some (.ref f28))) (l28 : K.lookup f28 = some ⟨oc28, od28, .func (PySem.W.fnOf "development_in" "development_in" (defArgs s_development_in) (defBody s_development_in) (defScope s_development_in) .none kV28 dc28 pm28 an28 cd28 ct28), sl28⟩) (c28 : PySem.W.codeIn K cd28 "development_in" = true) (k28 : PySem.W.keepIn K (.ref f28) = true)
    (a29 : PySem.W.nsIn K mainGlobals "developed_in" = some (some (.ref f29))) (l29 : K.lookup f29 = some ⟨oc29, od29, .func (PySem.W.fnOf "developed_in" "developed_in" (defArgs s_developed_in) (defBody s_developed_in) (defScope s_developed_in) .none kV29 dc29 pm29 an29 cd29 ct29), sl29⟩) (c29 : PySem.W.codeIn K cd29 "developed_in" = true) (k29 : PySem.W.keepIn K (.ref f29) = true)
    (a30 : PySem.W.nsIn K mainGlobals "left_developed" = some (some (.ref f30))) (l30 : K.lookup f30 = some ⟨oc30, od30, .func (PySem.W.fnOf "left_developed" "left_developed" (defArgs s_left_developed) (defBody s_left_developed) (defScope s_left_developed) .none kV30 dc30 pm30 an30 cd30 ct30), sl30⟩) (c30 : PySem.W.codeIn K cd30 "left_developed" = true) (k30 : PySem.W.keepIn K (.ref f30) = true)
    (a31 : PySem.W.nsIn K mainGlobals "need_short" = some (some (.ref f31))) (l31 : K.lookup f31 = some ⟨oc31, od31, .func (PySem.W.fnOf "need_short" "need_short" (defArgs s_need_short) (defBody s_need_short) (defScope s_need_short) .none kV31 dc31 pm31 an31 cd31 ct31), sl31⟩) (c31 : PySem.W.codeIn K cd31 "need_short" = true) (k31 : PySem.W.keepIn K (.ref f31) = true)
    (a32 : PySem.W.nsIn K mainGlobals "row_of" = some (some (.ref f32))) (l32 : K.lookup f32 = some ⟨oc32, od32, .func (PySem.W.fnOf "row_of" "row_of" (defArgs s_row_of) (defBody s_row_of) (defScope s_row_of) .none kV32 dc32 pm32 an32 cd32 ct32), sl32⟩) (c32 : PySem.W.codeIn K cd32 "row_of" = true) (k32 : PySem.W.keepIn K (.ref f32) = true)
    (a33 : PySem.W.nsIn K mainGlobals "need_short_row" = some (some (.ref f33))) (l33 : K.lookup f33 = some ⟨oc33, od33, .func (PySem.W.fnOf "need_short_row" "need_short_row" (defArgs s_need_short_row) (defBody s_need_short_row) (defScope s_need_short_row) .none kV33 dc33 pm33 an33 cd33 ct33), sl33⟩) (c33 : PySem.W.codeIn K cd33 "need_short_row" = true) (k33 : PySem.W.keepIn K (.ref f33) = true)
    (a34 : PySem.W.nsIn K mainGlobals "row_behind" = some (some (.ref f34))) (l34 : K.lookup f34 = some ⟨oc34, od34, .func (PySem.W.fnOf "row_behind" "row_behind" (defArgs s_row_behind) (defBody s_row_behind) (defScope s_row_behind) .none kV34 dc34 pm34 an34 cd34 ct34), sl34⟩) (c34 : PySem.W.codeIn K cd34 "row_behind" = true) (k34 : PySem.W.keepIn K (.ref f34) = true)
    (a35 : PySem.W.nsIn K mainGlobals "way_of" = some (some (.ref f35))) (l35 : K.lookup f35 = some ⟨oc35, od35, .func (PySem.W.fnOf "way_of" "way_of" (defArgs s_way_of) (defBody s_way_of) (defScope s_way_of) .none kV35 dc35 pm35 an35 cd35 ct35), sl35⟩) (c35 : PySem.W.codeIn K cd35 "way_of" = true) (k35 : PySem.W.keepIn K (.ref f35) = true)
    (a36 : PySem.W.nsIn K mainGlobals "tail_in" = some (some (.ref f36))) (l36 : K.lookup f36 = some ⟨oc36, od36, .func (PySem.W.fnOf "tail_in" "tail_in" (defArgs s_tail_in) (defBody s_tail_in) (defScope s_tail_in) .none kV36 dc36 pm36 an36 cd36 ct36), sl36⟩) (c36 : PySem.W.codeIn K cd36 "tail_in" = true) (k36 : PySem.W.keepIn K (.ref f36) = true)
    (a37 : PySem.W.nsIn K mainGlobals "lesser_left" = some (some (.ref f37))) (l37 : K.lookup f37 = some ⟨oc37, od37, .func (PySem.W.fnOf "lesser_left" "lesser_left" (defArgs s_lesser_left) (defBody s_lesser_left) (defScope s_lesser_left) .none kV37 dc37 pm37 an37 cd37 ct37), sl37⟩) (c37 : PySem.W.codeIn K cd37 "lesser_left" = true) (k37 : PySem.W.keepIn K (.ref f37) = true)
    (a38 : PySem.W.nsIn K mainGlobals "unsorted_in" = some (some (.ref f38))) (l38 : K.lookup f38 = some ⟨oc38, od38, .func (PySem.W.fnOf "unsorted_in" "unsorted_in" (defArgs s_unsorted_in) (defBody s_unsorted_in) (defScope s_unsorted_in) .none kV38 dc38 pm38 an38 cd38 ct38), sl38⟩) (c38 : PySem.W.codeIn K cd38 "unsorted_in" = true) (k38 : PySem.W.keepIn K (.ref f38) = true)
    (a39 : PySem.W.nsIn K mainGlobals "is_done" = some (some (.ref f39))) (l39 : K.lookup f39 = some ⟨oc39, od39, .func (PySem.W.fnOf "is_done" "is_done" (defArgs s_is_done) (defBody s_is_done) (defScope s_is_done) .none kV39 dc39 pm39 an39 cd39 ct39), sl39⟩) (c39 : PySem.W.codeIn K cd39 "is_done" = true) (k39 : PySem.W.keepIn K (.ref f39) = true)
    (a40 : PySem.W.nsIn K mainGlobals "done_first" = some (some (.ref f40))) (l40 : K.lookup f40 = some ⟨oc40, od40, .func (PySem.W.fnOf "done_first" "done_first" (defArgs s_done_first) (defBody s_done_first) (defScope s_done_first) .none kV40 dc40 pm40 an40 cd40 ct40), sl40⟩) (c40 : PySem.W.codeIn K cd40 "done_first" = true) (k40 : PySem.W.keepIn K (.ref f40) = true)
    (a41 : PySem.W.nsIn K mainGlobals "terms_of" = some (some (.ref f41))) (l41 : K.lookup f41 = some ⟨oc41, od41, .func (PySem.W.fnOf "terms_of" "terms_of" (defArgs s_terms_of) (defBody s_terms_of) (defScope s_terms_of) .none kV41 dc41 pm41 an41 cd41 ct41), sl41⟩) (c41 : PySem.W.codeIn K cd41 "terms_of" = true) (k41 : PySem.W.keepIn K (.ref f41) = true)
    (a42 : PySem.W.nsIn K mainGlobals "sorted_way" = some (some (.ref f42))) (l42 : K.lookup f42 = some ⟨oc42, od42, .func (PySem.W.fnOf "sorted_way" "sorted_way" (defArgs s_sorted_way) (defBody s_sorted_way) (defScope s_sorted_way) .none kV42 dc42 pm42 an42 cd42 ct42), sl42⟩) (c42 : PySem.W.codeIn K cd42 "sorted_way" = true) (k42 : PySem.W.keepIn K (.ref f42) = true)
    (a43 : PySem.W.nsIn K mainGlobals "is_standard" = some (some (.ref f43))) (l43 : K.lookup f43 = some ⟨oc43, od43, .func (PySem.W.fnOf "is_standard" "is_standard" (defArgs s_is_standard) (defBody s_is_standard) (defScope s_is_standard) .none kV43 dc43 pm43 an43 cd43 ct43), sl43⟩) (c43 : PySem.W.codeIn K cd43 "is_standard" = true) (k43 : PySem.W.keepIn K (.ref f43) = true)
    (a44 : PySem.W.nsIn K mainGlobals "standard_way" = some (some (.ref f44))) (l44 : K.lookup f44 = some ⟨oc44, od44, .func (PySem.W.fnOf "standard_way" "standard_way" (defArgs s_standard_way) (defBody s_standard_way) (defScope s_standard_way) .none kV44 dc44 pm44 an44 cd44 ct44), sl44⟩) (c44 : PySem.W.codeIn K cd44 "standard_way" = true) (k44 : PySem.W.keepIn K (.ref f44) = true)
    (a45 : PySem.W.nsIn K mainGlobals "_law_cup" = some (some (.ref f45))) (l45 : K.lookup f45 = some ⟨oc45, od45, .func (PySem.W.fnOf "_law_cup" "_law_cup" (defArgs s_law_cup) (defBody s_law_cup) (defScope s_law_cup) .none kV45 dc45 pm45 an45 cd45 ct45), sl45⟩) (c45 : PySem.W.codeIn K cd45 "_law_cup" = true) (k45 : PySem.W.keepIn K (.ref f45) = true)
    (a46 : PySem.W.nsIn K mainGlobals "_law_roll" = some (some (.ref f46))) (l46 : K.lookup f46 = some ⟨oc46, od46, .func (PySem.W.fnOf "_law_roll" "_law_roll" (defArgs s_law_roll) (defBody s_law_roll) (defScope s_law_roll) .none kV46 dc46 pm46 an46 cd46 ct46), sl46⟩) (c46 : PySem.W.codeIn K cd46 "_law_roll" = true) (k46 : PySem.W.keepIn K (.ref f46) = true)
    (a47 : PySem.W.nsIn K mainGlobals "_law_some" = some (some (.ref f47))) (l47 : K.lookup f47 = some ⟨oc47, od47, .func (PySem.W.fnOf "_law_some" "_law_some" (defArgs s_law_some) (defBody s_law_some) (defScope s_law_some) .none kV47 dc47 pm47 an47 cd47 ct47), sl47⟩) (c47 : PySem.W.codeIn K cd47 "_law_some" = true) (k47 : PySem.W.keepIn K (.ref f47) = true)
    (a48 : PySem.W.nsIn K mainGlobals "_law_inner" = some (some (.ref f48))) (l48 : K.lookup f48 = some ⟨oc48, od48, .func (PySem.W.fnOf "_law_inner" "_law_inner" (defArgs s_law_inner) (defBody s_law_inner) (defScope s_law_inner) .none kV48 dc48 pm48 an48 cd48 ct48), sl48⟩) (c48 : PySem.W.codeIn K cd48 "_law_inner" = true) (k48 : PySem.W.keepIn K (.ref f48) = true)
    (a49 : PySem.W.nsIn K mainGlobals "_law_parts" = some (some (.ref f49))) (l49 : K.lookup f49 = some ⟨oc49, od49, .func (PySem.W.fnOf "_law_parts" "_law_parts" (defArgs s_law_parts) (defBody s_law_parts) (defScope s_law_parts) .none kV49 dc49 pm49 an49 cd49 ct49), sl49⟩) (c49 : PySem.W.codeIn K cd49 "_law_parts" = true) (k49 : PySem.W.keepIn K (.ref f49) = true)
    (a50 : PySem.W.nsIn K mainGlobals "_law_lift" = some (some (.ref f50))) (l50 : K.lookup f50 = some ⟨oc50, od50, .func (PySem.W.fnOf "_law_lift" "_law_lift" (defArgs s_law_lift) (defBody s_law_lift) (defScope s_law_lift) .none kV50 dc50 pm50 an50 cd50 ct50), sl50⟩) (c50 : PySem.W.codeIn K cd50 "_law_lift" = true) (k50 : PySem.W.keepIn K (.ref f50) = true)
    (a51 : PySem.W.nsIn K mainGlobals "_law_put" = some (some (.ref f51))) (l51 : K.lookup f51 = some ⟨oc51, od51, .func (PySem.W.fnOf "_law_put" "_law_put" (defArgs s_law_put) (defBody s_law_put) (defScope s_law_put) .none kV51 dc51 pm51 an51 cd51 ct51), sl51⟩) (c51 : PySem.W.codeIn K cd51 "_law_put" = true) (k51 : PySem.W.keepIn K (.ref f51) = true)
    (a52 : PySem.W.nsIn K mainGlobals "_law_redexes" = some (some (.ref f52))) (l52 : K.lookup f52 = some ⟨oc52, od52, .func (PySem.W.fnOf "_law_redexes" "_law_redexes" (defArgs s_law_redexes) (defBody s_law_redexes) (defScope s_law_redexes) .none kV52 dc52 pm52 an52 cd52 ct52), sl52⟩) (c52 : PySem.W.codeIn K cd52 "_law_redexes" = true) (k52 : PySem.W.keepIn K (.ref f52) = true)
    (a53 : PySem.W.nsIn K mainGlobals "_law_step" = some (some (.ref f53))) (l53 : K.lookup f53 = some ⟨oc53, od53, .func (PySem.W.fnOf "_law_step" "_law_step" (defArgs s_law_step) (defBody s_law_step) (defScope s_law_step) .none kV53 dc53 pm53 an53 cd53 ct53), sl53⟩) (c53 : PySem.W.codeIn K cd53 "_law_step" = true) (k53 : PySem.W.keepIn K (.ref f53) = true)
    (a54 : PySem.W.nsIn K mainGlobals "_law_call" = some (some (.ref f54))) (l54 : K.lookup f54 = some ⟨oc54, od54, .func (PySem.W.fnOf "_law_call" "_law_call" (defArgs s_law_call) (defBody s_law_call) (defScope s_law_call) .none kV54 dc54 pm54 an54 cd54 ct54), sl54⟩) (c54 : PySem.W.codeIn K cd54 "_law_call" = true) (k54 : PySem.W.keepIn K (.ref f54) = true)
    (a55 : PySem.W.nsIn K mainGlobals "_law_names" = some (some (.ref f55))) (l55 : K.lookup f55 = some ⟨oc55, od55, .func (PySem.W.fnOf "_law_names" "_law_names" (defArgs s_law_names) (defBody s_law_names) (defScope s_law_names) .none kV55 dc55 pm55 an55 cd55 ct55), sl55⟩) (c55 : PySem.W.codeIn K cd55 "_law_names" = true) (k55 : PySem.W.keepIn K (.ref f55) = true)
    (a56 : PySem.W.nsIn K mainGlobals "_law_number" = some (some (.ref f56))) (l56 : K.lookup f56 = some ⟨oc56, od56, .func (PySem.W.fnOf "_law_number" "_law_number" (defArgs s_law_number) (defBody s_law_number) (defScope s_law_number) .none kV56 dc56 pm56 an56 cd56 ct56), sl56⟩) (c56 : PySem.W.codeIn K cd56 "_law_number" = true) (k56 : PySem.W.keepIn K (.ref f56) = true)
    (a57 : PySem.W.nsIn K mainGlobals "_law_omega" = some (some (.ref f57))) (l57 : K.lookup f57 = some ⟨oc57, od57, .func (PySem.W.fnOf "_law_omega" "_law_omega" (defArgs s_law_omega) (defBody s_law_omega) (defScope s_law_omega) .none kV57 dc57 pm57 an57 cd57 ct57), sl57⟩) (c57 : PySem.W.codeIn K cd57 "_law_omega" = true) (k57 : PySem.W.keepIn K (.ref f57) = true)
    (a58 : PySem.W.nsIn K mainGlobals "_law_known" = some (some (.ref f58))) (l58 : K.lookup f58 = some ⟨oc58, od58, .func (PySem.W.fnOf "_law_known" "_law_known" (defArgs s_law_known) (defBody s_law_known) (defScope s_law_known) .none kV58 dc58 pm58 an58 cd58 ct58), sl58⟩) (c58 : PySem.W.codeIn K cd58 "_law_known" = true) (k58 : PySem.W.keepIn K (.ref f58) = true)
    (a59 : PySem.W.nsIn K mainGlobals "_law_affine" = some (some (.ref f59))) (l59 : K.lookup f59 = some ⟨oc59, od59, .func (PySem.W.fnOf "_law_affine" "_law_affine" (defArgs s_law_affine) (defBody s_law_affine) (defScope s_law_affine) .none kV59 dc59 pm59 an59 cd59 ct59), sl59⟩) (c59 : PySem.W.codeIn K cd59 "_law_affine" = true) (k59 : PySem.W.keepIn K (.ref f59) = true)
    (a60 : PySem.W.nsIn K mainGlobals "_law_drawn" = some (some (.ref f60))) (l60 : K.lookup f60 = some ⟨oc60, od60, .func (PySem.W.fnOf "_law_drawn" "_law_drawn" (defArgs s_law_drawn) (defBody s_law_drawn) (defScope s_law_drawn) .none kV60 dc60 pm60 an60 cd60 ct60), sl60⟩) (c60 : PySem.W.codeIn K cd60 "_law_drawn" = true) (k60 : PySem.W.keepIn K (.ref f60) = true)
    (a61 : PySem.W.nsIn K mainGlobals "_law_busy" = some (some (.ref f61))) (l61 : K.lookup f61 = some ⟨oc61, od61, .func (PySem.W.fnOf "_law_busy" "_law_busy" (defArgs s_law_busy) (defBody s_law_busy) (defScope s_law_busy) .none kV61 dc61 pm61 an61 cd61 ct61), sl61⟩) (c61 : PySem.W.codeIn K cd61 "_law_busy" = true) (k61 : PySem.W.keepIn K (.ref f61) = true)
    (a62 : PySem.W.nsIn K mainGlobals "_law_wide" = some (some (.ref f62))) (l62 : K.lookup f62 = some ⟨oc62, od62, .func (PySem.W.fnOf "_law_wide" "_law_wide" (defArgs s_law_wide) (defBody s_law_wide) (defScope s_law_wide) .none kV62 dc62 pm62 an62 cd62 ct62), sl62⟩) (c62 : PySem.W.codeIn K cd62 "_law_wide" = true) (k62 : PySem.W.keepIn K (.ref f62) = true)
    (a63 : PySem.W.nsIn K mainGlobals "_law_normal" = some (some (.ref f63))) (l63 : K.lookup f63 = some ⟨oc63, od63, .func (PySem.W.fnOf "_law_normal" "_law_normal" (defArgs s_law_normal) (defBody s_law_normal) (defScope s_law_normal) .none kV63 dc63 pm63 an63 cd63 ct63), sl63⟩) (c63 : PySem.W.codeIn K cd63 "_law_normal" = true) (k63 : PySem.W.keepIn K (.ref f63) = true)
    (a64 : PySem.W.nsIn K mainGlobals "_law_to_normal" = some (some (.ref f64))) (l64 : K.lookup f64 = some ⟨oc64, od64, .func (PySem.W.fnOf "_law_to_normal" "_law_to_normal" (defArgs s_law_to_normal) (defBody s_law_to_normal) (defScope s_law_to_normal) .none kV64 dc64 pm64 an64 cd64 ct64), sl64⟩) (c64 : PySem.W.codeIn K cd64 "_law_to_normal" = true) (k64 : PySem.W.keepIn K (.ref f64) = true)
    (a65 : PySem.W.nsIn K mainGlobals "law" = some (some (.ref f65))) (l65 : K.lookup f65 = some ⟨oc65, od65, .func (PySem.W.fnOf "law" "law" (defArgs s_law) (defBody s_law) (defScope s_law) .none kV65 dc65 pm65 an65 cd65 ct65), sl65⟩) (c65 : PySem.W.codeIn K cd65 "law" = true) (k65 : PySem.W.keepIn K (.ref f65) = true)
    (z_abs : PySem.W.nsIn K mainGlobals "abs" = some none) (z_bool : PySem.W.nsIn K mainGlobals "bool" = some none) (z_enumerate : PySem.W.nsIn K mainGlobals "enumerate" = some none) (z_int : PySem.W.nsIn K mainGlobals "int" = some none) (z_isinstance : PySem.W.nsIn K mainGlobals "isinstance" = some none) (z_len : PySem.W.nsIn K mainGlobals "len" = some none) (z_list : PySem.W.nsIn K mainGlobals "list" = some none) (z_max : PySem.W.nsIn K mainGlobals "max" = some none) (z_range : PySem.W.nsIn K mainGlobals "range" = some none) (z_str : PySem.W.nsIn K mainGlobals "str" = some none) (z_sum : PySem.W.nsIn K mainGlobals "sum" = some none) (z_tuple : PySem.W.nsIn K mainGlobals "tuple" = some none) (z_zip : PySem.W.nsIn K mainGlobals "zip" = some none) (g_HEIGHT : PySem.W.nsIn K mainGlobals "HEIGHT" = some (some (.int 60 tkHEIGHT))) (g_LETTERS : PySem.W.nsIn K mainGlobals "LETTERS" = some (some (.str letters tkLETTERS))) (g_NODES : PySem.W.nsIn K mainGlobals "NODES" = some (some (.int 600 tkNODES))) (g_STEPS : PySem.W.nsIn K mainGlobals "STEPS" = some (some (.int 200 tkSTEPS))) :
    ∃ fd : FuncData, (∀ (s : Shared) (v : Value), BindsTo s fd ⟨[v], []⟩ [("_law_script", v)]) ∧ ∀ base : Heap, K.In base → base.Ns mainGlobals mg → FnOk l.prog w K mg base CX0 193 fa fd ["_law_script"] (spLaw K) := by
  have e := hfa.symm.trans (PySem.W.mg_of X G a65)
  cases e
  have F1 := fun_mk (st := s_inner) l1 c1 k1
  have b1 := F1.binds (ps := ["term"]) fun _ _ _ _ _ _ us hl => match us, hl with | [_], _ => rfl
  have D1 : DefB K mg "inner" s_inner ["term"] := ⟨_, _, F1, PySem.W.mg_of X G a1, b1⟩
  have F2 := fun_mk (st := s_size) l2 c2 k2
  have b2 := F2.binds (ps := ["term"]) fun _ _ _ _ _ _ us hl => match us, hl with | [_], _ => rfl
  have D2 : DefB K mg "size" s_size ["term"] := ⟨_, _, F2, PySem.W.mg_of X G a2, b2⟩
  have F3 := fun_mk (st := s_is_whole) l3 c3 k3
  have b3 := F3.binds (ps := ["value", "low", "high"]) fun _ _ _ _ _ _ us hl => match us, hl with | [_, _, _], _ => rfl
  have D3 : DefB K mg "is_whole" s_is_whole ["value", "low", "high"] := ⟨_, _, F3, PySem.W.mg_of X G a3, b3⟩
  have F4 := fun_mk (st := s_is_tuple_of) l4 c4 k4
  have b4 := F4.binds (ps := ["value", "low", "high"]) fun _ _ _ _ _ _ us hl => match us, hl with | [_, _, _], _ => rfl
  have D4 : DefB K mg "is_tuple_of" s_is_tuple_of ["value", "low", "high"] := ⟨_, _, F4, PySem.W.mg_of X G a4, b4⟩
  have F5 := fun_mk (st := s_height) l5 c5 k5
  have b5 := F5.binds (ps := ["term"]) fun _ _ _ _ _ _ us hl => match us, hl with | [_], _ => rfl
  have D5 : DefB K mg "height" s_height ["term"] := ⟨_, _, F5, PySem.W.mg_of X G a5, b5⟩
  have F6 := fun_mk (st := s_parts) l6 c6 k6
  have b6 := F6.binds (ps := ["term"]) fun _ _ _ _ _ _ us hl => match us, hl with | [_], _ => rfl
  have D6 : DefB K mg "parts" s_parts ["term"] := ⟨_, _, F6, PySem.W.mg_of X G a6, b6⟩
  have F7 := fun_mk (st := s_is_leaf) l7 c7 k7
  have b7 := F7.binds (ps := ["value", "around"]) fun _ _ _ _ _ _ us hl => match us, hl with | [_, _], _ => rfl
  have D7 : DefB K mg "is_leaf" s_is_leaf ["value", "around"] := ⟨_, _, F7, PySem.W.mg_of X G a7, b7⟩
  have F8 := fun_mk (st := s_left_of) l8 c8 k8
  have b8 := F8.binds (ps := ["value", "around", "high", "many"]) fun _ _ _ _ _ _ us hl => match us, hl with | [_, _, _, _], _ => rfl
  have D8 : DefB K mg "left_of" s_left_of ["value", "around", "high", "many"] := ⟨_, _, F8, PySem.W.mg_of X G a8, b8⟩
  have F9 := fun_mk (st := s_lifted) l9 c9 k9
  have b9 := F9.binds (ps := ["term", "many", "cut"]) fun _ _ _ _ _ _ us hl => match us, hl with | [_, _, _], _ => rfl
  have D9 : DefB K mg "lifted" s_lifted ["term", "many", "cut"] := ⟨_, _, F9, PySem.W.mg_of X G a9, b9⟩
  have F10 := fun_mk (st := s_put_for) l10 c10 k10
  have b10 := F10.binds (ps := ["body", "argument", "depth"]) fun _ _ _ _ _ _ us hl => match us, hl with | [_, _, _], _ => rfl
  have D10 : DefB K mg "put_for" s_put_for ["body", "argument", "depth"] := ⟨_, _, F10, PySem.W.mg_of X G a10, b10⟩
  have F11 := fun_mk (st := s_stands) l11 c11 k11
  have b11 := F11.binds (ps := ["term", "depth"]) fun _ _ _ _ _ _ us hl => match us, hl with | [_, _], _ => rfl
  have D11 : DefB K mg "stands" s_stands ["term", "depth"] := ⟨_, _, F11, PySem.W.mg_of X G a11, b11⟩
  have F12 := fun_mk (st := s_size_behind) l12 c12 k12
  have b12 := F12.binds (ps := ["redex"]) fun _ _ _ _ _ _ us hl => match us, hl with | [_], _ => rfl
  have D12 : DefB K mg "size_behind" s_size_behind ["redex"] := ⟨_, _, F12, PySem.W.mg_of X G a12, b12⟩
  have F13 := fun_mk (st := s_contracted) l13 c13 k13
  have b13 := F13.binds (ps := ["redex"]) fun _ _ _ _ _ _ us hl => match us, hl with | [_], _ => rfl
  have D13 : DefB K mg "contracted" s_contracted ["redex"] := ⟨_, _, F13, PySem.W.mg_of X G a13, b13⟩
  have F14 := fun_mk (st := s_put_at) l14 c14 k14
  have b14 := F14.binds (ps := ["term", "node", "part"]) fun _ _ _ _ _ _ us hl => match us, hl with | [_, _, _], _ => rfl
  have D14 : DefB K mg "put_at" s_put_at ["term", "node", "part"] := ⟨_, _, F14, PySem.W.mg_of X G a14, b14⟩
  have F15 := fun_mk (st := s_fits_term) l15 c15 k15
  have b15 := F15.binds (ps := ["value"]) fun _ _ _ _ _ _ us hl => match us, hl with | [_], _ => rfl
  have D15 : DefB K mg "fits_term" s_fits_term ["value"] := ⟨_, _, F15, PySem.W.mg_of X G a15, b15⟩
  have F16 := fun_mk (st := s_need_term) l16 c16 k16
  have b16 := F16.binds (ps := ["value"]) fun _ _ _ _ _ _ us hl => match us, hl with | [_], _ => rfl
  have D16 : DefB K mg "need_term" s_need_term ["value"] := ⟨_, _, F16, PySem.W.mg_of X G a16, b16⟩
  have F17 := fun_mk (st := s_need_small) l17 c17 k17
  have b17 := F17.binds (ps := ["term"]) fun _ _ _ _ _ _ us hl => match us, hl with | [_], _ => rfl
  have D17 : DefB K mg "need_small" s_need_small ["term"] := ⟨_, _, F17, PySem.W.mg_of X G a17, b17⟩
  have F18 := fun_mk (st := s_is_call_of_fun) l18 c18 k18
  have b18 := F18.binds (ps := ["term"]) fun _ _ _ _ _ _ us hl => match us, hl with | [_], _ => rfl
  have D18 : DefB K mg "is_call_of_fun" s_is_call_of_fun ["term"] := ⟨_, _, F18, PySem.W.mg_of X G a18, b18⟩
  have F19 := fun_mk (st := s_redex_nodes) l19 c19 k19
  have b19 := F19.binds (ps := ["term"]) fun _ _ _ _ _ _ us hl => match us, hl with | [_], _ => rfl
  have D19 : DefB K mg "redex_nodes" s_redex_nodes ["term"] := ⟨_, _, F19, PySem.W.mg_of X G a19, b19⟩
  have F20 := fun_mk (st := s_stepped) l20 c20 k20
  have b20 := F20.binds (ps := ["term", "node"]) fun _ _ _ _ _ _ us hl => match us, hl with | [_, _], _ => rfl
  have D20 : DefB K mg "stepped" s_stepped ["term", "node"] := ⟨_, _, F20, PySem.W.mg_of X G a20, b20⟩
  have F21 := fun_mk (st := s_body_origins) l21 c21 k21
  have b21 := F21.binds (ps := ["body", "depth", "node", "argument"]) fun _ _ _ _ _ _ us hl => match us, hl with | [_, _, _, _], _ => rfl
  have D21 : DefB K mg "body_origins" s_body_origins ["body", "depth", "node", "argument"] := ⟨_, _, F21, PySem.W.mg_of X G a21, b21⟩
  have F22 := fun_mk (st := s_step_origins) l22 c22 k22
  have b22 := F22.binds (ps := ["term", "node"]) fun _ _ _ _ _ _ us hl => match us, hl with | [_, _], _ => rfl
  have D22 : DefB K mg "step_origins" s_step_origins ["term", "node"] := ⟨_, _, F22, PySem.W.mg_of X G a22, b22⟩
  have F23 := fun_mk (st := s_left_in) l23 c23 k23
  have b23 := F23.binds (ps := ["term", "node", "lot"]) fun _ _ _ _ _ _ us hl => match us, hl with | [_, _, _], _ => rfl
  have D23 : DefB K mg "left_in" s_left_in ["term", "node", "lot"] := ⟨_, _, F23, PySem.W.mg_of X G a23, b23⟩
  have F24 := fun_mk (st := s_left_through) l24 c24 k24
  have b24 := F24.binds (ps := ["term", "way", "lot"]) fun _ _ _ _ _ _ us hl => match us, hl with | [_, _, _], _ => rfl
  have D24 : DefB K mg "left_through" s_left_through ["term", "way", "lot"] := ⟨_, _, F24, PySem.W.mg_of X G a24, b24⟩
  have F25 := fun_mk (st := s_along) l25 c25 k25
  have b25 := F25.binds (ps := ["term", "way"]) fun _ _ _ _ _ _ us hl => match us, hl with | [_, _], _ => rfl
  have D25 : DefB K mg "along" s_along ["term", "way"] := ⟨_, _, F25, PySem.W.mg_of X G a25, b25⟩
  have F26 := fun_mk (st := s_need_way) l26 c26 k26
  have b26 := F26.binds (ps := ["term", "way"]) fun _ _ _ _ _ _ us hl => match us, hl with | [_, _], _ => rfl
  have D26 : DefB K mg "need_way" s_need_way ["term", "way"] := ⟨_, _, F26, PySem.W.mg_of X G a26, b26⟩
  have F27 := fun_mk (st := s_developed_way) l27 c27 k27
  have b27 := F27.binds (ps := ["term", "lot"]) fun _ _ _ _ _ _ us hl => match us, hl with | [_, _], _ => rfl
  have D27 : DefB K mg "developed_way" s_developed_way ["term", "lot"] := ⟨_, _, F27, PySem.W.mg_of X G a27, b27⟩
  have F28 := fun_mk (st := s_development_in) l28 c28 k28
  have b28 := F28.binds (ps := ["term", "lot"]) fun _ _ _ _ _ _ us hl => match us, hl with | [_, _], _ => rfl
  have D28 : DefB K mg "development_in" s_development_in ["term", "lot"] := ⟨_, _, F28, PySem.W.mg_of X G a28, b28⟩
  have F29 := fun_mk (st := s_developed_in) l29 c29 k29
  have b29 := F29.binds (ps := ["term", "lot"]) fun _ _ _ _ _ _ us hl => match us, hl with | [_, _], _ => rfl
  have D29 : DefB K mg "developed_in" s_developed_in ["term", "lot"] := ⟨_, _, F29, PySem.W.mg_of X G a29, b29⟩
  have F30 := fun_mk (st := s_left_developed) l30 c30 k30
  have b30 := F30.binds (ps := ["term", "lot", "other"]) fun _ _ _ _ _ _ us hl => match us, hl with | [_, _, _], _ => rfl
  have D30 : DefB K mg "left_developed" s_left_developed ["term", "lot", "other"] := ⟨_, _, F30, PySem.W.mg_of X G a30, b30⟩
  have F31 := fun_mk (st := s_need_short) l31 c31 k31
  have b31 := F31.binds (ps := ["way"]) fun _ _ _ _ _ _ us hl => match us, hl with | [_], _ => rfl
  have D31 : DefB K mg "need_short" s_need_short ["way"] := ⟨_, _, F31, PySem.W.mg_of X G a31, b31⟩
  have F32 := fun_mk (st := s_row_of) l32 c32 k32
  have b32 := F32.binds (ps := ["way"]) fun _ _ _ _ _ _ us hl => match us, hl with | [_], _ => rfl
  have D32 : DefB K mg "row_of" s_row_of ["way"] := ⟨_, _, F32, PySem.W.mg_of X G a32, b32⟩
  have F33 := fun_mk (st := s_need_short_row) l33 c33 k33
  have b33 := F33.binds (ps := ["row"]) fun _ _ _ _ _ _ us hl => match us, hl with | [_], _ => rfl
  have D33 : DefB K mg "need_short_row" s_need_short_row ["row"] := ⟨_, _, F33, PySem.W.mg_of X G a33, b33⟩
  have F34 := fun_mk (st := s_row_behind) l34 c34 k34
  have b34 := F34.binds (ps := ["term", "row", "lot"]) fun _ _ _ _ _ _ us hl => match us, hl with | [_, _, _], _ => rfl
  have D34 : DefB K mg "row_behind" s_row_behind ["term", "row", "lot"] := ⟨_, _, F34, PySem.W.mg_of X G a34, b34⟩
  have F35 := fun_mk (st := s_way_of) l35 c35 k35
  have b35 := F35.binds (ps := ["term", "row"]) fun _ _ _ _ _ _ us hl => match us, hl with | [_, _], _ => rfl
  have D35 : DefB K mg "way_of" s_way_of ["term", "row"] := ⟨_, _, F35, PySem.W.mg_of X G a35, b35⟩
  have F36 := fun_mk (st := s_tail_in) l36 c36 k36
  have b36 := F36.binds (ps := ["term", "way", "lot"]) fun _ _ _ _ _ _ us hl => match us, hl with | [_, _, _], _ => rfl
  have D36 : DefB K mg "tail_in" s_tail_in ["term", "way", "lot"] := ⟨_, _, F36, PySem.W.mg_of X G a36, b36⟩
  have F37 := fun_mk (st := s_lesser_left) l37 c37 k37
  have b37 := F37.binds (ps := ["terms", "way", "earlier", "later"]) fun _ _ _ _ _ _ us hl => match us, hl with | [_, _, _, _], _ => rfl
  have D37 : DefB K mg "lesser_left" s_lesser_left ["terms", "way", "earlier", "later"] := ⟨_, _, F37, PySem.W.mg_of X G a37, b37⟩
  have F38 := fun_mk (st := s_unsorted_in) l38 c38 k38
  have b38 := F38.binds (ps := ["terms", "way"]) fun _ _ _ _ _ _ us hl => match us, hl with | [_, _], _ => rfl
  have D38 : DefB K mg "unsorted_in" s_unsorted_in ["terms", "way"] := ⟨_, _, F38, PySem.W.mg_of X G a38, b38⟩
  have F39 := fun_mk (st := s_is_done) l39 c39 k39
  have b39 := F39.binds (ps := ["terms", "way", "lot"]) fun _ _ _ _ _ _ us hl => match us, hl with | [_, _, _], _ => rfl
  have D39 : DefB K mg "is_done" s_is_done ["terms", "way", "lot"] := ⟨_, _, F39, PySem.W.mg_of X G a39, b39⟩
  have F40 := fun_mk (st := s_done_first) l40 c40 k40
  have b40 := F40.binds (ps := ["terms", "way"]) fun _ _ _ _ _ _ us hl => match us, hl with | [_, _], _ => rfl
  have D40 : DefB K mg "done_first" s_done_first ["terms", "way"] := ⟨_, _, F40, PySem.W.mg_of X G a40, b40⟩
  have F41 := fun_mk (st := s_terms_of) l41 c41 k41
  have b41 := F41.binds (ps := ["term", "way"]) fun _ _ _ _ _ _ us hl => match us, hl with | [_, _], _ => rfl
  have D41 : DefB K mg "terms_of" s_terms_of ["term", "way"] := ⟨_, _, F41, PySem.W.mg_of X G a41, b41⟩
  have F42 := fun_mk (st := s_sorted_way) l42 c42 k42
  have b42 := F42.binds (ps := ["term", "way"]) fun _ _ _ _ _ _ us hl => match us, hl with | [_, _], _ => rfl
  have D42 : DefB K mg "sorted_way" s_sorted_way ["term", "way"] := ⟨_, _, F42, PySem.W.mg_of X G a42, b42⟩
  have F43 := fun_mk (st := s_is_standard) l43 c43 k43
  have b43 := F43.binds (ps := ["term", "way"]) fun _ _ _ _ _ _ us hl => match us, hl with | [_, _], _ => rfl
  have D43 : DefB K mg "is_standard" s_is_standard ["term", "way"] := ⟨_, _, F43, PySem.W.mg_of X G a43, b43⟩
  have F44 := fun_mk (st := s_standard_way) l44 c44 k44
  have b44 := F44.binds (ps := ["term", "way"]) fun _ _ _ _ _ _ us hl => match us, hl with | [_, _], _ => rfl
  have D44 : DefB K mg "standard_way" s_standard_way ["term", "way"] := ⟨_, _, F44, PySem.W.mg_of X G a44, b44⟩
  have F45 := fun_mk (st := s_law_cup) l45 c45 k45
  have b45 := F45.binds (ps := ["_law_script"]) fun _ _ _ _ _ _ us hl => match us, hl with | [_], _ => rfl
  have D45 : DefB K mg "_law_cup" s_law_cup ["_law_script"] := ⟨_, _, F45, PySem.W.mg_of X G a45, b45⟩
  have F46 := fun_mk (st := s_law_roll) l46 c46 k46
  have b46 := F46.binds (ps := ["_law_cup_here", "_law_many"]) fun _ _ _ _ _ _ us hl => match us, hl with | [_, _], _ => rfl
  have D46 : DefB K mg "_law_roll" s_law_roll ["_law_cup_here", "_law_many"] := ⟨_, _, F46, PySem.W.mg_of X G a46, b46⟩
  have F47 := fun_mk (st := s_law_some) l47 c47 k47
  have b47 := F47.binds (ps := ["_law_cup_here", "_law_things"]) fun _ _ _ _ _ _ us hl => match us, hl with | [_, _], _ => rfl
  have D47 : DefB K mg "_law_some" s_law_some ["_law_cup_here", "_law_things"] := ⟨_, _, F47, PySem.W.mg_of X G a47, b47⟩
  have F48 := fun_mk (st := s_law_inner) l48 c48 k48
  have b48 := F48.binds (ps := ["_law_term"]) fun _ _ _ _ _ _ us hl => match us, hl with | [_], _ => rfl
  have D48 : DefB K mg "_law_inner" s_law_inner ["_law_term"] := ⟨_, _, F48, PySem.W.mg_of X G a48, b48⟩
  have F49 := fun_mk (st := s_law_parts) l49 c49 k49
  have b49 := F49.binds (ps := ["_law_term"]) fun _ _ _ _ _ _ us hl => match us, hl with | [_], _ => rfl
  have D49 : DefB K mg "_law_parts" s_law_parts ["_law_term"] := ⟨_, _, F49, PySem.W.mg_of X G a49, b49⟩
  have F50 := fun_mk (st := s_law_lift) l50 c50 k50
  have b50 := F50.binds (ps := ["_law_term", "_law_many", "_law_cut"]) fun _ _ _ _ _ _ us hl => match us, hl with | [_, _, _], _ => rfl
  have D50 : DefB K mg "_law_lift" s_law_lift ["_law_term", "_law_many", "_law_cut"] := ⟨_, _, F50, PySem.W.mg_of X G a50, b50⟩
  have F51 := fun_mk (st := s_law_put) l51 c51 k51
  have b51 := F51.binds (ps := ["_law_body", "_law_argument", "_law_deep"]) fun _ _ _ _ _ _ us hl => match us, hl with | [_, _, _], _ => rfl
  have D51 : DefB K mg "_law_put" s_law_put ["_law_body", "_law_argument", "_law_deep"] := ⟨_, _, F51, PySem.W.mg_of X G a51, b51⟩
  have F52 := fun_mk (st := s_law_redexes) l52 c52 k52
  have b52 := F52.binds (ps := ["_law_term"]) fun _ _ _ _ _ _ us hl => match us, hl with | [_], _ => rfl
  have D52 : DefB K mg "_law_redexes" s_law_redexes ["_law_term"] := ⟨_, _, F52, PySem.W.mg_of X G a52, b52⟩
  have F53 := fun_mk (st := s_law_step) l53 c53 k53
  have b53 := F53.binds (ps := ["_law_term", "_law_node"]) fun _ _ _ _ _ _ us hl => match us, hl with | [_, _], _ => rfl
  have D53 : DefB K mg "_law_step" s_law_step ["_law_term", "_law_node"] := ⟨_, _, F53, PySem.W.mg_of X G a53, b53⟩
  have F54 := fun_mk (st := s_law_call) l54 c54 k54
  have b54 := F54.binds (ps := ["_law_first", "_law_others"]) fun _ _ _ _ _ _ us hl => match us, hl with | [_, _], _ => rfl
  have D54 : DefB K mg "_law_call" s_law_call ["_law_first", "_law_others"] := ⟨_, _, F54, PySem.W.mg_of X G a54, b54⟩
  have F55 := fun_mk (st := s_law_names) l55 c55 k55
  have b55 := F55.binds (ps := ["_law_many", "_law_names_here"]) fun _ _ _ _ _ _ us hl => match us, hl with | [_, _], _ => rfl
  have D55 : DefB K mg "_law_names" s_law_names ["_law_many", "_law_names_here"] := ⟨_, _, F55, PySem.W.mg_of X G a55, b55⟩
  have F56 := fun_mk (st := s_law_number) l56 c56 k56
  have b56 := F56.binds (ps := ["_law_many"]) fun _ _ _ _ _ _ us hl => match us, hl with | [_], _ => rfl
  have D56 : DefB K mg "_law_number" s_law_number ["_law_many"] := ⟨_, _, F56, PySem.W.mg_of X G a56, b56⟩
  have F57 := fun_mk (st := s_law_omega) l57 c57 k57
  have b57 := F57.binds (ps := []) fun _ _ _ _ _ _ us hl => match us, hl with | [], _ => rfl
  have D57 : DefB K mg "_law_omega" s_law_omega [] := ⟨_, _, F57, PySem.W.mg_of X G a57, b57⟩
  have F58 := fun_mk (st := s_law_known) l58 c58 k58
  have b58 := F58.binds (ps := ["_law_cup_here"]) fun _ _ _ _ _ _ us hl => match us, hl with | [_], _ => rfl
  have D58 : DefB K mg "_law_known" s_law_known ["_law_cup_here"] := ⟨_, _, F58, PySem.W.mg_of X G a58, b58⟩
  have F59 := fun_mk (st := s_law_affine) l59 c59 k59
  have b59 := F59.binds (ps := ["_law_cup_here", "_law_names_here", "_law_deep"]) fun _ _ _ _ _ _ us hl => match us, hl with | [_, _, _], _ => rfl
  have D59 : DefB K mg "_law_affine" s_law_affine ["_law_cup_here", "_law_names_here", "_law_deep"] := ⟨_, _, F59, PySem.W.mg_of X G a59, b59⟩
  have F60 := fun_mk (st := s_law_drawn) l60 c60 k60
  have b60 := F60.binds (ps := ["_law_cup_here"]) fun _ _ _ _ _ _ us hl => match us, hl with | [_], _ => rfl
  have D60 : DefB K mg "_law_drawn" s_law_drawn ["_law_cup_here"] := ⟨_, _, F60, PySem.W.mg_of X G a60, b60⟩
  have F61 := fun_mk (st := s_law_busy) l61 c61 k61
  have b61 := F61.binds (ps := ["_law_cup_here"]) fun _ _ _ _ _ _ us hl => match us, hl with | [_], _ => rfl
  have D61 : DefB K mg "_law_busy" s_law_busy ["_law_cup_here"] := ⟨_, _, F61, PySem.W.mg_of X G a61, b61⟩
  have F62 := fun_mk (st := s_law_wide) l62 c62 k62
  have b62 := F62.binds (ps := ["_law_cup_here"]) fun _ _ _ _ _ _ us hl => match us, hl with | [_], _ => rfl
  have D62 : DefB K mg "_law_wide" s_law_wide ["_law_cup_here"] := ⟨_, _, F62, PySem.W.mg_of X G a62, b62⟩
  have F63 := fun_mk (st := s_law_normal) l63 c63 k63
  have b63 := F63.binds (ps := ["_law_term", "_law_most"]) fun _ _ _ _ _ _ us hl => match us, hl with | [_, _], _ => rfl
  have D63 : DefB K mg "_law_normal" s_law_normal ["_law_term", "_law_most"] := ⟨_, _, F63, PySem.W.mg_of X G a63, b63⟩
  have F64 := fun_mk (st := s_law_to_normal) l64 c64 k64
  have b64 := F64.binds (ps := ["_law_cup_here", "_law_term"]) fun _ _ _ _ _ _ us hl => match us, hl with | [_, _], _ => rfl
  have D64 : DefB K mg "_law_to_normal" s_law_to_normal ["_law_cup_here", "_law_term"] := ⟨_, _, F64, PySem.W.mg_of X G a64, b64⟩
  have F65 := fun_mk (st := s_law) l65 c65 k65
  have b65 := F65.binds (ps := ["_law_script"]) fun _ _ _ _ _ _ us hl => match us, hl with | [_], _ => rfl
  have D65 : DefB K mg "law" s_law ["_law_script"] := ⟨_, _, F65, PySem.W.mg_of X G a65, b65⟩
  have m_abs := PySem.W.mg_none_of X G z_abs
  have m_bool := PySem.W.mg_none_of X G z_bool
  have m_enumerate := PySem.W.mg_none_of X G z_enumerate
  have m_int := PySem.W.mg_none_of X G z_int
  have m_isinstance := PySem.W.mg_none_of X G z_isinstance
  have m_len := PySem.W.mg_none_of X G z_len
  have m_list := PySem.W.mg_none_of X G z_list
  have m_max := PySem.W.mg_none_of X G z_max
  have m_range := PySem.W.mg_none_of X G z_range
  have m_str := PySem.W.mg_none_of X G z_str
  have m_sum := PySem.W.mg_none_of X G z_sum
  have m_tuple := PySem.W.mg_none_of X G z_tuple
  have m_zip := PySem.W.mg_none_of X G z_zip
  have m_HEIGHT := PySem.W.mg_of X G g_HEIGHT
  have m_LETTERS := PySem.W.mg_of X G g_LETTERS
  have m_NODES := PySem.W.mg_of X G g_NODES
  have m_STEPS := PySem.W.mg_of X G g_STEPS
  refine ⟨PySem.W.fnOf "law" "law" (defArgs s_law) (defBody s_law) (defScope s_law) .none kV65 dc65 pm65 an65 cd65 ct65, fun s v => .of_eq rfl, fun base _ _ => ?_⟩
  have c_inner := cal_inner (P := l.prog) (w := w) (base := base) (D := D1)
  have c_size : Cal l.prog w K mg base 66 "size" (spSize 65) [] := cal_size (D := D2) (c_inner := c_inner) (m_sum := m_sum) 65
  have c_is_whole := cal_is_whole (P := l.prog) (w := w) (base := base) (D := D3) (m_isinstance := m_isinstance) (m_int := m_int) (m_bool := m_bool)
  have c_is_tuple_of := cal_is_tuple_of (P := l.prog) (w := w) (base := base) (D := D4) (m_isinstance := m_isinstance) (m_tuple := m_tuple) (m_len := m_len)
  have c_height : Cal l.prog w K mg base 66 "height" (spHeight 65) [] := cal_height (D := D5) (c_inner := c_inner) (m_max := m_max) 65
  have c_parts : Cal l.prog w K mg base 66 "parts" (spParts 65) [] := cal_parts (D := D6) (c_inner := c_inner) 65
  have c_is_leaf := cal_is_leaf (P := l.prog) (w := w) (base := base) (D := D7) (c_is_whole := c_is_whole) (m_isinstance := m_isinstance) (m_str := m_str) (m_len := m_len) (m_LETTERS := m_LETTERS)
  have c_left_of : Cal l.prog w K mg base 67 "left_of" (spLeft 65) [] := cal_left_of (D := D8) (c_is_leaf := c_is_leaf) (c_is_tuple_of := c_is_tuple_of) (m_isinstance := m_isinstance) (m_str := m_str) (m_len := m_len) 65
  have c_lifted : Cal l.prog w K mg base 66 "lifted" (spLifted 65) [] := cal_lifted (D := D9) 65
  have c_put_for : Cal l.prog w K mg base 131 "put_for" (spPutFor 65) [] := cal_put_for (D := D10) (c_lifted := c_lifted) 65
  have c_stands : Cal l.prog w K mg base 66 "stands" (spStands 65) [] := cal_stands (D := D11) 65
  have c_size_behind := cal_size_behind (P := l.prog) (w := w) (base := base) (D := D12) (c_size := c_size) (c_stands := c_stands)
  have c_contracted := cal_contracted (P := l.prog) (w := w) (base := base) (D := D13) (c_put_for := c_put_for)
  have c_put_at : Cal l.prog w K mg base 131 "put_at" (spPutAt 65) [] := cal_put_at (D := D14) (c_size := c_size) 65
  have c_fits_term := cal_fits_term (P := l.prog) (w := w) (base := base) (D := D15) (c_left_of := c_left_of) (m_NODES := m_NODES) (m_HEIGHT := m_HEIGHT)
  have c_need_term := cal_need_term (P := l.prog) (w := w) (base := base) (D := D16) (c_fits_term := c_fits_term)
  have c_need_small := cal_need_small (P := l.prog) (w := w) (base := base) (D := D17) (c_size := c_size) (c_height := c_height) (m_NODES := m_NODES) (m_HEIGHT := m_HEIGHT)
  have c_is_call_of_fun := cal_is_call_of_fun (P := l.prog) (w := w) (base := base) (D := D18)
  have c_redex_nodes := cal_redex_nodes (P := l.prog) (w := w) (base := base) (D := D19) (c_parts := c_parts) (c_is_call_of_fun := c_is_call_of_fun) (m_enumerate := m_enumerate)
  have c_stepped := cal_stepped (P := l.prog) (w := w) (base := base) (D := D20) (c_parts := c_parts) (c_size := c_size) (c_size_behind := c_size_behind) (c_put_at := c_put_at) (c_contracted := c_contracted) (c_need_small := c_need_small) (m_NODES := m_NODES)
  have c_body_origins : Cal l.prog w K mg base 131 "body_origins" (spBo 65) [] := cal_body_origins (D := D21) (c_inner := c_inner) (c_size := c_size) 65
  have c_step_origins := cal_step_origins (P := l.prog) (w := w) (base := base) (D := D22) (c_parts := c_parts) (c_size := c_size) (c_body_origins := c_body_origins) (m_list := m_list) (m_range := m_range)
  have c_left_in := cal_left_in (P := l.prog) (w := w) (base := base) (D := D23) (c_step_origins := c_step_origins) (m_enumerate := m_enumerate) (m_tuple := m_tuple)
  have c_left_through := cal_left_through (P := l.prog) (w := w) (base := base) (D := D24) (c_left_in := c_left_in) (c_stepped := c_stepped)
  have c_along := cal_along (P := l.prog) (w := w) (base := base) (D := D25) (c_is_whole := c_is_whole) (c_size := c_size) (c_parts := c_parts) (c_is_call_of_fun := c_is_call_of_fun) (c_stepped := c_stepped)
  have c_need_way := cal_need_way (P := l.prog) (w := w) (base := base) (D := D26) (c_need_term := c_need_term) (c_is_tuple_of := c_is_tuple_of) (c_along := c_along) (m_STEPS := m_STEPS)
  have c_developed_way := cal_developed_way (P := l.prog) (w := w) (base := base) (D := D27) (c_left_in := c_left_in) (c_stepped := c_stepped)
  have c_development_in := cal_development_in (P := l.prog) (w := w) (base := base) (D := D28) (c_developed_way := c_developed_way)
  have c_developed_in := cal_developed_in (P := l.prog) (w := w) (base := base) (D := D29) (c_developed_way := c_developed_way)
  have c_left_developed := cal_left_developed (P := l.prog) (w := w) (base := base) (D := D30) (c_development_in := c_development_in) (c_left_through := c_left_through)
  have c_need_short := cal_need_short (P := l.prog) (w := w) (base := base) (D := D31) (m_len := m_len) (m_STEPS := m_STEPS)
  have c_row_of := cal_row_of (P := l.prog) (w := w) (base := base) (D := D32)
  have c_need_short_row := cal_need_short_row (P := l.prog) (w := w) (base := base) (D := D33) (m_len := m_len) (m_sum := m_sum) (m_STEPS := m_STEPS)
  have c_row_behind := cal_row_behind (P := l.prog) (w := w) (base := base) (D := D34) (c_left_developed := c_left_developed) (c_need_short_row := c_need_short_row) (c_developed_in := c_developed_in)
  have c_way_of := cal_way_of (P := l.prog) (w := w) (base := base) (D := D35) (c_development_in := c_development_in) (c_developed_in := c_developed_in)
  have c_tail_in := cal_tail_in (P := l.prog) (w := w) (base := base) (D := D36) (c_row_behind := c_row_behind) (c_row_of := c_row_of) (c_way_of := c_way_of) (c_developed_in := c_developed_in)
  have c_lesser_left := cal_lesser_left (P := l.prog) (w := w) (base := base) (D := D37) (c_redex_nodes := c_redex_nodes) (c_left_in := c_left_in) (m_range := m_range)
  have c_unsorted_in := cal_unsorted_in (P := l.prog) (w := w) (base := base) (D := D38) (c_lesser_left := c_lesser_left) (m_range := m_range) (m_len := m_len)
  have c_is_done := cal_is_done (P := l.prog) (w := w) (base := base) (D := D39) (c_left_in := c_left_in) (m_zip := m_zip)
  have c_done_first := cal_done_first (P := l.prog) (w := w) (base := base) (D := D40) (c_redex_nodes := c_redex_nodes) (c_is_done := c_is_done)
  have c_terms_of := cal_terms_of (P := l.prog) (w := w) (base := base) (D := D41) (c_stepped := c_stepped)
  have c_sorted_way := cal_sorted_way (P := l.prog) (w := w) (base := base) (D := D42) (c_done_first := c_done_first) (c_terms_of := c_terms_of) (c_need_short := c_need_short) (c_tail_in := c_tail_in) (c_stepped := c_stepped)
  have c_is_standard := cal_is_standard (P := l.prog) (w := w) (base := base) (D := D43) (c_unsorted_in := c_unsorted_in) (c_need_way := c_need_way)
  have c_standard_way := cal_standard_way (P := l.prog) (w := w) (base := base) (D := D44) (c_need_way := c_need_way) (c_sorted_way := c_sorted_way)
  have c_law_cup := cal_law_cup (P := l.prog) (w := w) (base := base) (D := D45) (m_abs := m_abs) (m_list := m_list) (m_int := m_int)
  have c_law_roll := cal_law_roll (P := l.prog) (w := w) (base := base) (D := D46) (m_int := m_int)
  have c_law_some := cal_law_some (P := l.prog) (w := w) (base := base) (D := D47) (c_law_roll := c_law_roll) (m_len := m_len)
  have c_law_inner := cal_law_inner (P := l.prog) (w := w) (base := base) (D := D48) (m_isinstance := m_isinstance) (m_tuple := m_tuple)
  have c_law_parts : Cal l.prog w K mg base 131 "_law_parts" (spParts 130) [] := cal_law_parts (D := D49) (c_law_inner := c_law_inner) 130
  have c_law_lift : Cal l.prog w K mg base 66 "_law_lift" (spLifted 65) [] := cal_law_lift (D := D50) 65
  have c_law_put : Cal l.prog w K mg base 131 "_law_put" (spPutFor 65) [] := cal_law_put (D := D51) (c_law_lift := c_law_lift) 65
  have c_law_redexes := cal_law_redexes (P := l.prog) (w := w) (base := base) (D := D52) (c_law_parts := c_law_parts) (m_enumerate := m_enumerate)
  have c_law_step : Cal l.prog w K mg base 191 "_law_step" (spLStep 60) [] := cal_law_step (D := D53) (c_law_put := c_law_put) (c_law_parts := c_law_parts) (m_len := m_len) 60
  have c_law_call := cal_law_call (P := l.prog) (w := w) (base := base) (D := D54)
  have c_law_names := cal_law_names (P := l.prog) (w := w) (base := base) (D := D55) (c_law_call := c_law_call) (m_range := m_range)
  have c_law_number := cal_law_number (P := l.prog) (w := w) (base := base) (D := D56) (m_range := m_range)
  have c_law_omega := cal_law_omega (P := l.prog) (w := w) (base := base) (D := D57)
  have c_law_known := cal_law_known (P := l.prog) (w := w) (base := base) (D := D58) (c_law_call := c_law_call) (c_law_names := c_law_names) (c_law_number := c_law_number) (c_law_some := c_law_some)
  have c_law_affine : Cal l.prog w K mg base 7 "_law_affine" (spAffine 5) [] := cal_law_affine (D := D59) (c_law_roll := c_law_roll) (c_law_some := c_law_some) (m_len := m_len) 5
  have c_law_drawn := cal_law_drawn (P := l.prog) (w := w) (base := base) (D := D60) (c_law_roll := c_law_roll) (c_law_known := c_law_known) (c_law_affine := c_law_affine)
  have c_law_busy := cal_law_busy (P := l.prog) (w := w) (base := base) (D := D61) (c_law_drawn := c_law_drawn) (c_law_redexes := c_law_redexes) (m_range := m_range)
  have c_law_wide := cal_law_wide (P := l.prog) (w := w) (base := base) (D := D62) (c_law_busy := c_law_busy) (c_law_parts := c_law_parts) (c_law_some := c_law_some) (m_len := m_len)
  have c_law_normal := cal_law_normal (P := l.prog) (w := w) (base := base) (D := D63) (c_law_redexes := c_law_redexes) (c_law_step := c_law_step) (m_len := m_len)
  have c_law_to_normal := cal_law_to_normal (P := l.prog) (w := w) (base := base) (D := D64) (c_law_redexes := c_law_redexes) (c_law_some := c_law_some) (c_law_step := c_law_step) (c_law_parts := c_law_parts) (m_range := m_range) (m_len := m_len)
  exact ok_law (M := M) (F := F65)  (c_law_cup := c_law_cup) (c_law_wide := c_law_wide) (c_law_to_normal := c_law_to_normal) (c_law_normal := c_law_normal) (c_standard_way := c_standard_way) (c_is_standard := c_is_standard) (c_law_omega := c_law_omega) (c_law_roll := c_law_roll) (m_range := m_range)
end Sf
open PySem PySem.W PyProof.Rows
set_option maxHeartbeats 0 in
theorem PySem.Challenge.cw_sharefold_k65_whole_leftmost_ways_win_holds : PySem.Challenge.rw_sharefold_k65_whole_leftmost_ways_win.Holds := by
  w_on; o_law; k_head; (case hw => w_witness2)
  k_fill
  refine L2.walk_of (l := PySem.Challenge.rw_sharefold_k65_whole_leftmost_ways_win) (n := 63) (k := 193) (x := "_law_script") (CX := fun _ => L2.CX0) (sp := fun w => Sf.spLaw _) rfl (by decide) rfl ⟨rfl, by decide, by decide⟩ (fun w h Y => PySem.W.kIn_of Y) ?F (fun _ _ a ns hl _ hS => ⟨a, ns, rfl, hS, Nat.le_trans hl (by decide), fun _ => rfl⟩) (fun _ _ _ _ _ h => h)
  case F =>
    intro w mg fa h KX G hmg
    refine' Sf.all_mk Sf.main_math KX G hmg ?a1 ?l1 ?c1 ?k1 ?a2 ?l2 ?c2 ?k2 ?a3 ?l3 ?c3 ?k3 ?a4 ?l4 ?c4 ?k4 ?a5 ?l5 ?c5 ?k5 ?a6 ?l6 ?c6 ?k6 ?a7 ?l7 ?c7 ?k7 ?a8 ?l8 ?c8 ?k8 ?a9 ?l9 ?c9 ?k9 ?a10 ?l10 ?c10 ?k10 ?a11 ?l11 ?c11 ?k11 ?a12 ?l12 ?c12 ?k12 ?a13 ?l13 ?c13 ?k13 ?a14 ?l14 ?c14 ?k14 ?a15 ?l15 ?c15 ?k15 ?a16 ?l16 ?c16 ?k16 ?a17 ?l17 ?c17 ?k17 ?a18 ?l18 ?c18 ?k18 ?a19 ?l19 ?c19 ?k19 ?a20 ?l20 ?c20 ?k20 ?a21 ?l21 ?c21 ?k21 ?a22 ?l22 ?c22 ?k22 ?a23 ?l23 ?c23 ?k23 ?a24 ?l24 ?c24 ?k24 ?a25 ?l25 ?c25 ?k25 ?a26 ?l26 ?c26 ?k26 ?a27 ?l27 ?c27 ?k27 ?a28 ?l28 ?c28 ?k28 ?a29 ?l29 ?c29 ?k29 ?a30 ?l30 ?c30 ?k30 ?a31 ?l31 ?c31 ?k31 ?a32 ?l32 ?c32 ?k32 ?a33 ?l33 ?c33 ?k33 ?a34 ?l34 ?c34 ?k34 ?a35 ?l35 ?c35 ?k35 ?a36 ?l36 ?c36 ?k36 ?a37 ?l37 ?c37 ?k37 ?a38 ?l38 ?c38 ?k38 ?a39 ?l39 ?c39 ?k39 ?a40 ?l40 ?c40 ?k40 ?a41 ?l41 ?c41 ?k41 ?a42 ?l42 ?c42 ?k42 ?a43 ?l43 ?c43 ?k43 ?a44 ?l44 ?c44 ?k44 ?a45 ?l45 ?c45 ?k45 ?a46 ?l46 ?c46 ?k46 ?a47 ?l47 ?c47 ?k47 ?a48 ?l48 ?c48 ?k48 ?a49 ?l49 ?c49 ?k49 ?a50 ?l50 ?c50 ?k50 ?a51 ?l51 ?c51 ?k51 ?a52 ?l52 ?c52 ?k52 ?a53 ?l53 ?c53 ?k53 ?a54 ?l54 ?c54 ?k54 ?a55 ?l55 ?c55 ?k55 ?a56 ?l56 ?c56 ?k56 ?a57 ?l57 ?c57 ?k57 ?a58 ?l58 ?c58 ?k58 ?a59 ?l59 ?c59 ?k59 ?a60 ?l60 ?c60 ?k60 ?a61 ?l61 ?c61 ?k61 ?a62 ?l62 ?c62 ?k62 ?a63 ?l63 ?c63 ?k63 ?a64 ?l64 ?c64 ?k64 ?a65 ?l65 ?c65 ?k65 ?z_abs ?z_bool ?z_enumerate ?z_int ?z_isinstance ?z_len ?z_list ?z_max ?z_range ?z_str ?z_sum ?z_tuple ?z_zip ?g_HEIGHT ?g_LETTERS ?g_NODES ?g_STEPS
    (case a1 => k_is)
    (case l1 => k_is)
    (case c1 => k_is)
    (case k1 => k_is)
    (case a2 => k_is)
    (case l2 => k_is)
    (case c2 => k_is)
    (case k2 => k_is)
    (case a3 => k_is)
    (case l3 => k_is)
    (case c3 => k_is)
    (case k3 => k_is)
    (case a4 => k_is)
    (case l4 => k_is)
    (case c4 => k_is)
    (case k4 => k_is)
    (case a5 => k_is)
    (case l5 => k_is)
    (case c5 => k_is)
    (case k5 => k_is)
    (case a6 => k_is)
    (case l6 => k_is)
    (case c6 => k_is)
    (case k6 => k_is)
    (case a7 => k_is)
    (case l7 => k_is)
    (case c7 => k_is)
    (case k7 => k_is)
    (case a8 => k_is)
    (case l8 => k_is)
    (case c8 => k_is)
    (case k8 => k_is)
    (case a9 => k_is)
    (case l9 => k_is)
    (case c9 => k_is)
    (case k9 => k_is)
    (case a10 => k_is)
    (case l10 => k_is)
    (case c10 => k_is)
    (case k10 => k_is)
    (case a11 => k_is)
    (case l11 => k_is)
    (case c11 => k_is)
    (case k11 => k_is)
    (case a12 => k_is)
    (case l12 => k_is)
    (case c12 => k_is)
    (case k12 => k_is)
    (case a13 => k_is)
    (case l13 => k_is)
    (case c13 => k_is)
    (case k13 => k_is)
    (case a14 => k_is)
    (case l14 => k_is)
    (case c14 => k_is)
    (case k14 => k_is)
    (case a15 => k_is)
    (case l15 => k_is)
    (case c15 => k_is)
    (case k15 => k_is)
    (case a16 => k_is)
    (case l16 => k_is)
    (case c16 => k_is)
    (case k16 => k_is)
    (case a17 => k_is)
    (case l17 => k_is)
    (case c17 => k_is)
    (case k17 => k_is)
    (case a18 => k_is)
    (case l18 => k_is)
    (case c18 => k_is)
    (case k18 => k_is)
    (case a19 => k_is)
    (case l19 => k_is)
    (case c19 => k_is)
    (case k19 => k_is)
    (case a20 => k_is)
    (case l20 => k_is)
    (case c20 => k_is)
    (case k20 => k_is)
    (case a21 => k_is)
    (case l21 => k_is)
    (case c21 => k_is)
    (case k21 => k_is)
    (case a22 => k_is)
    (case l22 => k_is)
    (case c22 => k_is)
    (case k22 => k_is)
    (case a23 => k_is)
    (case l23 => k_is)
    (case c23 => k_is)
    (case k23 => k_is)
    (case a24 => k_is)
    (case l24 => k_is)
    (case c24 => k_is)
    (case k24 => k_is)
    (case a25 => k_is)
    (case l25 => k_is)
    (case c25 => k_is)
    (case k25 => k_is)
    (case a26 => k_is)
    (case l26 => k_is)
    (case c26 => k_is)
    (case k26 => k_is)
    (case a27 => k_is)
    (case l27 => k_is)
    (case c27 => k_is)
    (case k27 => k_is)
    (case a28 => k_is)
    (case l28 => k_is)
    (case c28 => k_is)
    (case k28 => k_is)
    (case a29 => k_is)
    (case l29 => k_is)
    (case c29 => k_is)
    (case k29 => k_is)
    (case a30 => k_is)
    (case l30 => k_is)
    (case c30 => k_is)
    (case k30 => k_is)
    (case a31 => k_is)
    (case l31 => k_is)
    (case c31 => k_is)
    (case k31 => k_is)
    (case a32 => k_is)
    (case l32 => k_is)
    (case c32 => k_is)
    (case k32 => k_is)
    (case a33 => k_is)
    (case l33 => k_is)
    (case c33 => k_is)
    (case k33 => k_is)
    (case a34 => k_is)
    (case l34 => k_is)
    (case c34 => k_is)
    (case k34 => k_is)
    (case a35 => k_is)
    (case l35 => k_is)
    (case c35 => k_is)
    (case k35 => k_is)
    (case a36 => k_is)
    (case l36 => k_is)
    (case c36 => k_is)
    (case k36 => k_is)
    (case a37 => k_is)
    (case l37 => k_is)
    (case c37 => k_is)
    (case k37 => k_is)
    (case a38 => k_is)
    (case l38 => k_is)
    (case c38 => k_is)
    (case k38 => k_is)
    (case a39 => k_is)
    (case l39 => k_is)
    (case c39 => k_is)
    (case k39 => k_is)
    (case a40 => k_is)
    (case l40 => k_is)
    (case c40 => k_is)
    (case k40 => k_is)
    (case a41 => k_is)
    (case l41 => k_is)
    (case c41 => k_is)
    (case k41 => k_is)
    (case a42 => k_is)
    (case l42 => k_is)
    (case c42 => k_is)
    (case k42 => k_is)
    (case a43 => k_is)
    (case l43 => k_is)
    (case c43 => k_is)
    (case k43 => k_is)
    (case a44 => k_is)
    (case l44 => k_is)
    (case c44 => k_is)
    (case k44 => k_is)
    (case a45 => k_is)
    (case l45 => k_is)
    (case c45 => k_is)
    (case k45 => k_is)
    (case a46 => k_is)
    (case l46 => k_is)
    (case c46 => k_is)
    (case k46 => k_is)
    (case a47 => k_is)
    (case l47 => k_is)
    (case c47 => k_is)
    (case k47 => k_is)
    (case a48 => k_is)
    (case l48 => k_is)
    (case c48 => k_is)
    (case k48 => k_is)
    (case a49 => k_is)
    (case l49 => k_is)
    (case c49 => k_is)
    (case k49 => k_is)
    (case a50 => k_is)
    (case l50 => k_is)
    (case c50 => k_is)
    (case k50 => k_is)
    (case a51 => k_is)
    (case l51 => k_is)
    (case c51 => k_is)
    (case k51 => k_is)
    (case a52 => k_is)
    (case l52 => k_is)
    (case c52 => k_is)
    (case k52 => k_is)
    (case a53 => k_is)
    (case l53 => k_is)
    (case c53 => k_is)
    (case k53 => k_is)
    (case a54 => k_is)
    (case l54 => k_is)
    (case c54 => k_is)
    (case k54 => k_is)
    (case a55 => k_is)
    (case l55 => k_is)
    (case c55 => k_is)
    (case k55 => k_is)
    (case a56 => k_is)
    (case l56 => k_is)
    (case c56 => k_is)
    (case k56 => k_is)
    (case a57 => k_is)
    (case l57 => k_is)
    (case c57 => k_is)
    (case k57 => k_is)
    (case a58 => k_is)
    (case l58 => k_is)
    (case c58 => k_is)
    (case k58 => k_is)
    (case a59 => k_is)
    (case l59 => k_is)
    (case c59 => k_is)
    (case k59 => k_is)
    (case a60 => k_is)
    (case l60 => k_is)
    (case c60 => k_is)
    (case k60 => k_is)
    (case a61 => k_is)
    (case l61 => k_is)
    (case c61 => k_is)
    (case k61 => k_is)
    (case a62 => k_is)
    (case l62 => k_is)
    (case c62 => k_is)
    (case k62 => k_is)
    (case a63 => k_is)
    (case l63 => k_is)
    (case c63 => k_is)
    (case k63 => k_is)
    (case a64 => k_is)
    (case l64 => k_is)
    (case c64 => k_is)
    (case k64 => k_is)
    (case a65 => k_is)
    (case l65 => k_is)
    (case c65 => k_is)
    (case k65 => k_is)
    (case z_abs => k_is)
    (case z_bool => k_is)
    (case z_enumerate => k_is)
    (case z_int => k_is)
    (case z_isinstance => k_is)
    (case z_len => k_is)
    (case z_list => k_is)
    (case z_max => k_is)
    (case z_range => k_is)
    (case z_str => k_is)
    (case z_sum => k_is)
    (case z_tuple => k_is)
    (case z_zip => k_is)
    (case g_HEIGHT => k_is)
    (case g_LETTERS => k_is)
    (case g_NODES => k_is)
    (case g_STEPS => k_is)
