import PyProof.Rows.All
import PyWqaibp
import Wide.All
import OpenK.AllK
import Wide.FinOn
import PyProof.EqAt
import PyProof.EqKinds
import PyProof.TupleCall
import Open.SpecLaws
import KE.OsGo
import HandS.ForSpec
import HandS.TryMany
import HandS.Comp
import HandS.Iter
import HandS.Walk
import HandS.Dict
import HandS.Text
import HandS.More
import HandS.TupAny
import HandS.ExcCtx
import HandS.Hot
import HandS.HotCalls
import HandS.RaiseOp
import HandS.SuiteRaise
import HandS.RaiseFrom
import HandS.ExcInit
import HandS.ExcInitHot
import HandS.ExcField
import HandS.SortKw
import KE.SortKeyHeap
import KE.KDictKeyed
import KE.GoesRaise
import KE.KAsSuite
import KE.GoesEnum
import KE.GoesDict
import PySem.Challenge.RW_sayback_s01_answers
import KE.KDictWalk
import HandS.NoneIn
set_option Elab.async false
set_option linter.all false
set_option maxRecDepth 100000
set_option maxHeartbeats 4000000
section
set_option autoImplicit false
/-! Mirror of the program, part 1: lines, UTF-8, numbers; and that it reads as the specification does. -/
namespace Sb
open SyBase

/-- a list parted at a mark -/
def parted (m : Nat) : List Nat → List (List Nat)
  | [] => [[]]
  | x :: r => if x = m then [] :: parted m r else match parted m r with
    | p :: q => (x :: p) :: q
    | [] => [[x]]
theorem parted_ne (m : Nat) : ∀ l, parted m l ≠ []
  | [] => by simp [parted]
  | x :: r => by
    unfold parted
    split
    · simp
    · split <;> simp
/-- a mark more -/
theorem parted_mark (m : Nat) : ∀ l, parted m (l ++ [m]) = parted m l ++ [[]]
  | [] => by simp [parted]
  | x :: r => by
    have ih := parted_mark m r
    show parted m (x :: (r ++ [m])) = parted m (x :: r) ++ [[]]
    unfold parted
    by_cases h : x = m
    · simp [h, ih]
    · rw [if_neg h, if_neg h, ih]
      cases e : parted m r with
      | nil => exact absurd e (parted_ne m r)
      | cons p q => simp
/-- an item more -/
theorem parted_item (m x : Nat) (hx : x ≠ m) : ∀ (l : List Nat) (ps : List (List Nat)) (p : List Nat), parted m l = ps ++ [p] → parted m (l ++ [x]) = ps ++ [p ++ [x]]
  | [], ps, p, h => by
    have e : ps = [] ∧ p = [] := by
      cases ps with
      | nil => simp [parted] at h; exact ⟨rfl, h⟩
      | cons a b =>
        simp only [parted, List.cons_append, List.cons.injEq] at h
        exact absurd h.2 (by simp)
    obtain ⟨rfl, rfl⟩ := e
    simp [parted, hx]
  | y :: r, ps, p, h => by
    show parted m (y :: (r ++ [x])) = _
    unfold parted at h ⊢
    by_cases hy : y = m
    · rw [if_pos hy] at h ⊢
      cases ps with
      | nil =>
        simp only [List.nil_append, List.cons.injEq] at h
        exact absurd h.2 (parted_ne m r)
      | cons a b =>
        simp only [List.cons_append, List.cons.injEq] at h
        rw [parted_item m x hx r b p h.2, ← h.1]
        rfl
    · rw [if_neg hy] at h ⊢
      cases e : parted m r with
      | nil => exact absurd e (parted_ne m r)
      | cons a b =>
        rw [e] at h
        simp only at h
        cases ps with
        | nil =>
          simp only [List.nil_append, List.cons.injEq] at h
          obtain ⟨h1, h2⟩ := h
          subst h2
          rw [parted_item m x hx r [] a (by rw [e]; rfl)]
          rw [← h1]
          rfl
        | cons c d =>
          simp only [List.cons_append, List.cons.injEq] at h
          rw [parted_item m x hx r (a :: d) p (by rw [e, h.2]; rfl)]
          rw [← h.1]
          rfl

/-- the lines of a text -/
def linesP (ps : List (List Nat)) : List (List Nat × Bool) :=
  ps.dropLast.map (fun r => (r, true)) ++ (if ps.getLastD [] = [] then [] else [(ps.getLastD [], false)])
def linesOf (l : List Nat) : List (List Nat × Bool) := linesP (parted 10 l)
theorem linesP_one (a : List Nat) : linesP [a] = if a = [] then [] else [(a, false)] := by simp [linesP]
theorem linesP_more (a c : List Nat) (d : List (List Nat)) : linesP (a :: c :: d) = (a, true) :: linesP (c :: d) := rfl
theorem linesOf_nil : linesOf [] = [] := rfl
theorem linesOf_mark (r : List Nat) : linesOf (10 :: r) = ([], true) :: linesOf r := by
  unfold linesOf
  have e : parted 10 (10 :: r) = [] :: parted 10 r := by rw [parted]; simp
  rw [e]
  cases q : parted 10 r with
  | nil => exact absurd q (parted_ne 10 r)
  | cons a b => exact linesP_more _ _ _
/-- the first line, what's behind it -/
theorem linesOf_cut : ∀ (l : List Nat), linesOf l = match l.drop (l.takeWhile (fun c => c != 10)).length with
    | _ :: r => (l.takeWhile (fun c => c != 10), true) :: linesOf r
    | [] => if l = [] then [] else [(l, false)]
  | [] => by simp [linesOf_nil]
  | x :: r => by
    by_cases hx : x = 10
    · subst hx
      rw [linesOf_mark]
      simp
    · have ih := linesOf_cut r
      have hb : (x != 10) = true := by simp [hx]
      have et : (x :: r).takeWhile (fun c => c != 10) = x :: r.takeWhile (fun c => c != 10) := by
        rw [List.takeWhile_cons, if_pos hb]
      rw [et]
      simp only [List.length_cons, List.drop_succ_cons]
      obtain ⟨a, b, q⟩ : ∃ a b, parted 10 r = a :: b := by
        cases q : parted 10 r with
        | nil => exact absurd q (parted_ne 10 r)
        | cons a b => exact ⟨a, b, rfl⟩
      have ep : parted 10 (x :: r) = (x :: a) :: b := by rw [parted, if_neg hx, q]
      unfold linesOf at ih ⊢
      rw [ep]
      rw [q] at ih
      have key : ∀ (z : List (List Nat × Bool)), z = linesP (a :: b) → (z = [] ∧ b = [] ∧ a = []) ∨ (∃ y, z = [(y, false)] ∧ b = [] ∧ a = y) ∨ ∃ y s, z = (y, true) :: s ∧ a = y ∧ ∃ c d, b = c :: d ∧ s = linesP (c :: d) := by
        intro z hz
        cases b with
        | nil =>
          rw [linesP_one] at hz
          by_cases ha : a = []
          · rw [if_pos ha] at hz
            exact .inl ⟨hz, rfl, ha⟩
          · rw [if_neg ha] at hz
            exact .inr (.inl ⟨a, hz, rfl, rfl⟩)
        | cons c d =>
          rw [linesP_more] at hz
          exact .inr (.inr ⟨a, _, hz, rfl, c, d, rfl, rfl⟩)
      cases hd : r.drop (r.takeWhile (fun c => c != 10)).length with
      | nil =>
        rw [hd] at ih
        simp only at ih ⊢
        rw [if_neg (by simp)]
        by_cases hr : r = []
        · rw [if_pos hr] at ih
          rcases key _ ih.symm with ⟨_, rfl, rfl⟩ | ⟨y, h, _⟩ | ⟨y, s, h, _⟩
          · rw [linesP_one, if_neg (by simp), hr]
          · cases h
          · cases h
        · rw [if_neg hr] at ih
          rcases key _ ih.symm with ⟨h, _⟩ | ⟨y, h, rfl, rfl⟩ | ⟨y, s, h, _⟩
          · cases h
          · rw [linesP_one, if_neg (by simp)]
            simp only [List.cons.injEq, Prod.mk.injEq, and_true] at h
            rw [h]
          · simp at h
      | cons y s =>
        rw [hd] at ih
        simp only at ih ⊢
        rcases key _ ih.symm with ⟨h, _⟩ | ⟨y, h, _⟩ | ⟨y, s, h, rfl, c, d, rfl, rfl⟩
        · cases h
        · simp at h
        · rw [linesP_more]
          simp only [List.cons.injEq, Prod.mk.injEq, and_true] at h
          rw [h.1]
          exact congrArg _ h.2.symm

/-! ### UTF-8 -/
def widthOf (b : Nat) : Option Nat := if b < 128 then some 1 else if b < 192 then none else if b < 224 then some 2 else if b < 240 then some 3 else if b < 248 then some 4 else none
def cont : Nat → List Nat → Option Nat
  | f, [] => some f
  | f, b :: r => if b / 64 = 2 then cont (64 * f + b % 64) r else none
def least (w : Nat) : Nat := if w = 1 then 0 else if w = 2 then 128 else if w = 3 then 2048 else 65536
/-- what the first byte says -/
def firstOf (w b : Nat) : Nat := if 1 < w then b - (256 - 2 ^ (8 - w)) else b
/-- the character of w bytes that l begins with -/
def charM (l : List Nat) (w : Nat) : Option Nat :=
  if w ≤ l.length then (cont (firstOf w (l.headD 0)) ((l.drop 1).take (w - 1))).bind fun c => if least w ≤ c ∧ isChar c = true then some c else none else none
def charsM : Nat → List Nat → Option (List Nat)
  | _, [] => some []
  | 0, _ :: _ => none
  | n + 1, b :: r => (widthOf b).bind fun w => (charM (b :: r) w).bind fun c => (charsM n ((b :: r).drop w)).map fun t => c :: t
def chars (l : List Nat) : Option (List Nat) := charsM l.length l

theorem widthOf_pos {b w : Nat} (h : widthOf b = some w) : 1 ≤ w ∧ w ≤ 4 := by
  unfold widthOf at h
  repeat' split at h
  all_goals first | cases h; omega | cases h
theorem widthOf_cases {b w : Nat} (h : widthOf b = some w) : (w = 1 ∧ b < 128) ∨ (w = 2 ∧ 192 ≤ b ∧ b < 224) ∨ (w = 3 ∧ 224 ≤ b ∧ b < 240) ∨ (w = 4 ∧ 240 ≤ b ∧ b < 248) := by
  unfold widthOf at h
  repeat' split at h
  all_goals first | cases h; omega | cases h
theorem charsM_more : ∀ (n m : Nat) (l : List Nat), l.length ≤ n → n ≤ m → charsM n l = charsM m l
  | _, _, [], _, _ => by
    rename_i n m
    cases n <;> cases m <;> rfl
  | 0, _, _ :: _, h, _ => by simp at h
  | n + 1, 0, _ :: _, _, h => by omega
  | n + 1, m + 1, b :: r, h1, h2 => by
    show (widthOf b).bind _ = (widthOf b).bind _
    cases e : widthOf b with
    | none => rfl
    | some w =>
      have hw := widthOf_pos e
      show (charM (b :: r) w).bind _ = (charM (b :: r) w).bind _
      cases charM (b :: r) w with
      | none => rfl
      | some c =>
        show Option.map _ _ = Option.map _ _
        rw [charsM_more n m ((b :: r).drop w) (by rw [List.length_drop]; omega) (by omega)]
/-- the next character -/
theorem chars_cons (b : Nat) (r : List Nat) : chars (b :: r) = (widthOf b).bind fun w => (charM (b :: r) w).bind fun c => (chars ((b :: r).drop w)).map fun t => c :: t := by
  show (widthOf b).bind _ = _
  cases e : widthOf b with
  | none => rfl
  | some w =>
    have hw := widthOf_pos e
    show (charM (b :: r) w).bind _ = (charM (b :: r) w).bind _
    cases charM (b :: r) w with
    | none => rfl
    | some c =>
      show Option.map _ _ = Option.map _ _
      rw [← charsM_more ((b :: r).drop w).length r.length ((b :: r).drop w) (Nat.le_refl _) (by rw [List.length_drop, List.length_cons]; omega)]
      rfl
theorem chars_nil : chars [] = some [] := rfl

/-! ### numbers -/
def isDig (c : Nat) : Bool := decide (48 ≤ c) && decide (c ≤ 57)
def numM (p : List Nat) : Option Nat := if p ≠ [] ∧ p.all isDig = true ∧ (p.headD 0 ≠ 48 ∨ p.length = 1) then some (p.foldl (fun n c => 10 * n + (c - 48)) 0) else none
def partsM (line : List Nat × Bool) (many : Nat) : Option (List (List Nat)) := if line.2 = true then (chars line.1).bind fun cs => if (parted 32 cs).length = many then some (parted 32 cs) else none else none

/-! ### against the specification -/
def nats (b : Bytes) : List Nat := b.map UInt8.toNat
theorem nats_lt (b : Bytes) : ∀ x ∈ nats b, x < 256 := fun x hx => by
  obtain ⟨u, _, rfl⟩ := List.mem_map.mp hx
  exact u.toNat_lt
theorem ofNat_eq {n : Nat} {u : UInt8} (h : n < 256) : UInt8.ofNat n = u ↔ n = u.toNat := by
  constructor
  · intro e
    subst e
    simp [UInt8.toNat_ofNat', Nat.mod_eq_of_lt h]
  · intro e
    subst e
    simp
theorem isChar_iff (c : Nat) : isChar c = true ↔ c < 1114112 ∧ ¬ (55296 ≤ c ∧ c < 57344) := by
  unfold isChar
  simp only [Bool.and_eq_true, decide_eq_true_eq, Bool.not_eq_true', Bool.and_eq_false_iff, decide_eq_false_iff_not]
  omega

theorem map_ofNat_eq : ∀ (xs : List Nat) (ys : Bytes), (∀ x ∈ xs, x < 256) → (xs.map UInt8.ofNat = ys ↔ xs = nats ys)
  | [], [], _ => by simp [nats]
  | [], _ :: _, _ => by simp [nats]
  | _ :: _, [], _ => by simp [nats]
  | x :: xs, y :: ys, h => by
    have ih := map_ofNat_eq xs ys fun z hz => h z (List.mem_cons_of_mem _ hz)
    have e := ofNat_eq (n := x) (u := y) (h x List.mem_cons_self)
    simp only [List.map_cons, List.cons.injEq, nats] at ih ⊢
    rw [e, ih]
/-- utf8 as numbers -/
def utf (c : Nat) : List Nat := if c < 0x80 then [c] else if c < 0x800 then [0xC0 + c / 64, 0x80 + c % 64] else if c < 0x10000 then [0xE0 + c / 4096, 0x80 + c / 64 % 64, 0x80 + c % 64]
    else [0xF0 + c / 262144, 0x80 + c / 4096 % 64, 0x80 + c / 64 % 64, 0x80 + c % 64]
theorem utf8_eq (c : Nat) : utf8 c = (utf c).map UInt8.ofNat := rfl
theorem utf_lt {c : Nat} (h : c < 1114112) : ∀ x ∈ utf c, x < 256 := by
  intro x hx
  unfold utf at hx
  repeat' split at hx
  all_goals simp only [List.mem_cons, List.not_mem_nil, or_false] at hx
  all_goals omega
def val (n : Nat) (l : List Nat) : Nat :=
  let x := fun (i : Nat) => l.getD i 0
  if n = 1 then x 0 else if n = 2 then (x 0 - 0xC0) * 64 + (x 1 - 0x80) else if n = 3 then (x 0 - 0xE0) * 4096 + (x 1 - 0x80) * 64 + (x 2 - 0x80) else (x 0 - 0xF0) * 262144 + (x 1 - 0x80) * 4096 + (x 2 - 0x80) * 64 + (x 3 - 0x80)
theorem getD_nats (b : Bytes) (i : Nat) : (b.getD i 0).toNat = (nats b).getD i 0 := by
  unfold nats
  simp only [List.getD_eq_getElem?_getD, List.getElem?_map]
  cases b[i]? <;> rfl
theorem valueOf_eq (n : Nat) (b : Bytes) : valueOf n b = val n (nats b) := by
  unfold valueOf val
  simp only [getD_nats]
/-- one try of charOf -/
def tryN (n : Nat) (l : List Nat) : Bool := decide (n ≤ l.length) && (isChar (val n l) && decide (utf (val n l) = l.take n))
theorem try_eq (n : Nat) (b : Bytes) : (decide (n ≤ b.length) && (isChar (valueOf n b) && utf8 (valueOf n b) == b.take n)) = tryN n (nats b) := by
  unfold tryN
  rw [valueOf_eq, show (nats b).length = b.length from List.length_map ..]
  congr 1
  cases h : isChar (val n (nats b)) with
  | false => rfl
  | true =>
    have hc := ((isChar_iff _).mp h).1
    simp only [Bool.true_and]
    rw [utf8_eq]
    have e := map_ofNat_eq (utf (val n (nats b))) (b.take n) (utf_lt hc)
    have e2 : nats (b.take n) = (nats b).take n := by unfold nats; rw [List.map_take]
    rw [e2] at e
    by_cases q : utf (val n (nats b)) = (nats b).take n
    · rw [decide_eq_true q, beq_iff_eq]
      exact e.mpr q
    · rw [decide_eq_false q]
      refine beq_eq_false_iff_ne.mpr fun z => q (e.mp z)

theorem firstOf1 (b : Nat) : firstOf 1 b = b := rfl
theorem firstOf2 (b : Nat) : firstOf 2 b = b - 192 := rfl
theorem firstOf3 (b : Nat) : firstOf 3 b = b - 224 := rfl
theorem firstOf4 (b : Nat) : firstOf 4 b = b - 240 := rfl
theorem utf_one {v x : Nat} : utf v = [x] ↔ v < 128 ∧ v = x := by
  unfold utf
  repeat' split
  all_goals simp only [List.cons.injEq, and_true, List.cons_ne_nil, reduceCtorEq, and_false, false_iff, not_and]
  all_goals omega
theorem utf_two {v x y : Nat} : utf v = [x, y] ↔ 128 ≤ v ∧ v < 2048 ∧ 192 + v / 64 = x ∧ 128 + v % 64 = y := by
  unfold utf
  repeat' split
  all_goals simp only [List.cons.injEq, and_true, List.cons_ne_nil, reduceCtorEq, and_false, false_iff, not_and]
  all_goals omega
theorem utf_three {v x y z : Nat} : utf v = [x, y, z] ↔ 2048 ≤ v ∧ v < 65536 ∧ 224 + v / 4096 = x ∧ 128 + v / 64 % 64 = y ∧ 128 + v % 64 = z := by
  unfold utf
  repeat' split
  all_goals simp only [List.cons.injEq, and_true, List.cons_ne_nil, reduceCtorEq, and_false, false_iff, not_and]
  all_goals omega
theorem utf_four {v x y z t : Nat} : utf v = [x, y, z, t] ↔ 65536 ≤ v ∧ 240 + v / 262144 = x ∧ 128 + v / 4096 % 64 = y ∧ 128 + v / 64 % 64 = z ∧ 128 + v % 64 = t := by
  unfold utf
  repeat' split
  all_goals simp only [List.cons.injEq, and_true, List.cons_ne_nil, reduceCtorEq, and_false, false_iff, not_and]
  all_goals omega
theorem ite_bind_some {p : Prop} [Decidable p] {a : Nat} {f : Nat → Option Nat} : ((if p then some a else none).bind f) = if p then f a else none := by split <;> rfl
theorem width_is (x n : Nat) (hx : x < 256) : widthOf x = some n ↔ (n = 1 ∧ x < 128) ∨ (n = 2 ∧ 192 ≤ x ∧ x < 224) ∨ (n = 3 ∧ 224 ≤ x ∧ x < 240) ∨ (n = 4 ∧ 240 ≤ x ∧ x < 248) := by
  constructor
  · exact widthOf_cases
  · intro h
    unfold widthOf
    repeat' split
    all_goals simp only [Option.some.injEq, reduceCtorEq]
    all_goals omega
theorem val1 (x : Nat) (r : List Nat) : val 1 (x :: r) = x := rfl
theorem val2 (x y : Nat) (r : List Nat) : val 2 (x :: y :: r) = (x - 192) * 64 + (y - 128) := rfl
theorem val3 (x y z : Nat) (r : List Nat) : val 3 (x :: y :: z :: r) = (x - 224) * 4096 + (y - 128) * 64 + (z - 128) := rfl
theorem val4 (x y z t : Nat) (r : List Nat) : val 4 (x :: y :: z :: t :: r) = (x - 240) * 262144 + (y - 128) * 4096 + (z - 128) * 64 + (t - 128) := rfl
def okC (lo c : Nat) : Option Nat := if lo ≤ c ∧ isChar c = true then some c else none
theorem charM1 (x : Nat) (r : List Nat) : charM (x :: r) 1 = okC 0 x := by
  unfold charM
  rw [if_pos (by simp)]
  rfl
theorem charM2 (x y : Nat) (r : List Nat) : charM (x :: y :: r) 2 = if y / 64 = 2 then okC 128 (64 * (x - 192) + y % 64) else none := by
  unfold charM
  rw [if_pos (by simp)]
  show Option.bind (if y / 64 = 2 then some (64 * (x - 192) + y % 64) else none) _ = _
  split <;> rfl
theorem charM3 (x y z : Nat) (r : List Nat) : charM (x :: y :: z :: r) 3 = if y / 64 = 2 then (if z / 64 = 2 then okC 2048 (64 * (64 * (x - 224) + y % 64) + z % 64) else none) else none := by
  unfold charM
  rw [if_pos (by simp)]
  show Option.bind (if y / 64 = 2 then (if z / 64 = 2 then some (64 * (64 * (x - 224) + y % 64) + z % 64) else none) else none) _ = _
  split
  · split <;> rfl
  · rfl
theorem charM4 (x y z t : Nat) (r : List Nat) : charM (x :: y :: z :: t :: r) 4 = if y / 64 = 2 then (if z / 64 = 2 then (if t / 64 = 2 then okC 65536 (64 * (64 * (64 * (x - 240) + y % 64) + z % 64) + t % 64) else none) else none) else none := by
  unfold charM
  rw [if_pos (by simp)]
  show Option.bind (if y / 64 = 2 then (if z / 64 = 2 then (if t / 64 = 2 then some (64 * (64 * (64 * (x - 240) + y % 64) + z % 64) + t % 64) else none) else none) else none) _ = _
  split
  · split
    · split <;> rfl
    · rfl
  · rfl
theorem okC_some {lo c v : Nat} : okC lo c = some v ↔ lo ≤ c ∧ isChar c = true ∧ c = v := by
  unfold okC
  split
  · rename_i h
    simp only [Option.some.injEq]
    exact ⟨fun e => ⟨h.1, h.2, e⟩, fun e => e.2.2⟩
  · rename_i h
    simp only [reduceCtorEq, false_iff]
    exact fun e => h ⟨e.1, e.2.1⟩
theorem tryN_iff (n : Nat) (l : List Nat) : tryN n l = true ↔ n ≤ l.length ∧ isChar (val n l) = true ∧ utf (val n l) = l.take n := by
  unfold tryN
  simp only [Bool.and_eq_true, decide_eq_true_eq]
theorem charM_short (n : Nat) (l : List Nat) (h : l.length < n) : charM l n = none := by
  unfold charM
  rw [if_neg (by omega)]
/-- a try of one width: the first byte says it, and the character is there -/
theorem try_iff (n x : Nat) (r : List Nat) (hl : ∀ y ∈ x :: r, y < 256) (hn : n = 1 ∨ n = 2 ∨ n = 3 ∨ n = 4) : tryN n (x :: r) = true ↔ widthOf x = some n ∧ charM (x :: r) n = some (val n (x :: r)) := by
  have hx := hl x List.mem_cons_self
  rw [width_is x n hx, tryN_iff]
  rcases hn with rfl | rfl | rfl | rfl
  · rw [charM1, val1, okC_some]
    show _ ∧ _ ∧ utf x = [x] ↔ _
    rw [utf_one, isChar_iff, List.length_cons]
    omega
  · cases r with
    | nil => rw [charM_short _ _ (by simp)]; simp
    | cons y r =>
      have hy := hl y (by simp)
      rw [charM2, val2]
      show _ ∧ _ ∧ utf _ = [x, y] ↔ _
      rw [utf_two, List.length_cons, List.length_cons]
      constructor
      · rintro ⟨h1, h2, h3⟩
        have e2 : 64 * (x - 192) + y % 64 = (x - 192) * 64 + (y - 128) := by omega
        rw [if_pos (by omega), e2, okC_some]
        exact ⟨by omega, by omega, h2, rfl⟩
      · rintro ⟨h1, h2⟩
        split at h2
        · rw [okC_some] at h2
          obtain ⟨h3, h4, h5⟩ := h2
          rw [h5] at h4
          exact ⟨by omega, h4, by omega⟩
        · cases h2
  · match r, hl with
    | [], _ => rw [charM_short _ _ (by simp)]; simp
    | [_], _ => rw [charM_short _ _ (by simp)]; simp
    | y :: z :: r, hl =>
      have hy := hl y (by simp)
      have hz := hl z (by simp)
      rw [charM3, val3]
      show _ ∧ _ ∧ utf _ = [x, y, z] ↔ _
      rw [utf_three, List.length_cons, List.length_cons, List.length_cons]
      constructor
      · rintro ⟨h1, h2, h3⟩
        have e2 : 64 * (64 * (x - 224) + y % 64) + z % 64 = (x - 224) * 4096 + (y - 128) * 64 + (z - 128) := by omega
        rw [if_pos (by omega), if_pos (by omega), e2, okC_some]
        exact ⟨by omega, by omega, h2, rfl⟩
      · rintro ⟨h1, h2⟩
        split at h2
        · split at h2
          · rw [okC_some] at h2
            obtain ⟨h3, h4, h5⟩ := h2
            rw [h5] at h4
            exact ⟨by omega, h4, by omega⟩
          · cases h2
        · cases h2
  · match r, hl with
    | [], _ => rw [charM_short _ _ (by simp)]; simp
    | [_], _ => rw [charM_short _ _ (by simp)]; simp
    | [_, _], _ => rw [charM_short _ _ (by simp)]; simp
    | y :: z :: t :: r, hl =>
      have hy := hl y (by simp)
      have hz := hl z (by simp)
      have ht := hl t (by simp)
      rw [charM4, val4]
      show _ ∧ _ ∧ utf _ = [x, y, z, t] ↔ _
      rw [utf_four, List.length_cons, List.length_cons, List.length_cons, List.length_cons]
      constructor
      · rintro ⟨h1, h2, h3⟩
        have hv := ((isChar_iff _).mp h2).1
        have e2 : 64 * (64 * (64 * (x - 240) + y % 64) + z % 64) + t % 64 = (x - 240) * 262144 + (y - 128) * 4096 + (z - 128) * 64 + (t - 128) := by omega
        rw [if_pos (by omega), if_pos (by omega), if_pos (by omega), e2, okC_some]
        exact ⟨by omega, by omega, h2, rfl⟩
      · rintro ⟨h1, h2⟩
        split at h2
        · split at h2
          · split at h2
            · rw [okC_some] at h2
              obtain ⟨h3, h4, h5⟩ := h2
              rw [h5] at h4
              have hv := ((isChar_iff _).mp h4).1
              exact ⟨by omega, h4, by omega⟩
            · cases h2
          · cases h2
        · cases h2
/-- what charM gives is the value -/
theorem charM_val {n x c : Nat} {r : List Nat} (hl : ∀ y ∈ x :: r, y < 256) (hw : widthOf x = some n) (hc : charM (x :: r) n = some c) : c = val n (x :: r) := by
  have hx := hl x List.mem_cons_self
  rcases (width_is x n hx).mp hw with ⟨rfl, h1⟩ | ⟨rfl, h1, h2⟩ | ⟨rfl, h1, h2⟩ | ⟨rfl, h1, h2⟩
  · rw [charM1, okC_some] at hc
    exact hc.2.2.symm
  · cases r with
    | nil => rw [charM_short _ _ (by simp)] at hc; cases hc
    | cons y r =>
      have hy := hl y (by simp)
      rw [charM2] at hc
      rw [val2]
      split at hc
      · rw [okC_some] at hc
        omega
      · cases hc
  · match r, hl, hc with
    | [], _, hc => rw [charM_short _ _ (by simp)] at hc; cases hc
    | [_], _, hc => rw [charM_short _ _ (by simp)] at hc; cases hc
    | y :: z :: r, hl, hc =>
      have hy := hl y (by simp)
      have hz := hl z (by simp)
      rw [charM3] at hc
      rw [val3]
      split at hc
      · split at hc
        · rw [okC_some] at hc
          omega
        · cases hc
      · cases hc
  · match r, hl, hc with
    | [], _, hc => rw [charM_short _ _ (by simp)] at hc; cases hc
    | [_], _, hc => rw [charM_short _ _ (by simp)] at hc; cases hc
    | [_, _], _, hc => rw [charM_short _ _ (by simp)] at hc; cases hc
    | y :: z :: t :: r, hl, hc =>
      have hy := hl y (by simp)
      have hz := hl z (by simp)
      have ht := hl t (by simp)
      rw [charM4] at hc
      rw [val4]
      split at hc
      · split at hc
        · split at hc
          · rw [okC_some] at hc
            omega
          · cases hc
        · cases hc
      · cases hc
/-- the first character: the specification's is the mirror's -/
theorem charOf_eq (u : UInt8) (b : Bytes) : charOf (u :: b) = (widthOf u.toNat).bind fun w => (charM (nats (u :: b)) w).map fun c => (c, (u :: b).drop w) := by
  have hl : ∀ y ∈ u.toNat :: nats b, y < 256 := nats_lt (u :: b)
  have key : ∀ n, (n = 1 ∨ n = 2 ∨ n = 3 ∨ n = 4) → (tryN n (nats (u :: b)) = true ↔ widthOf u.toNat = some n ∧ charM (nats (u :: b)) n = some (val n (nats (u :: b)))) := fun n hn => try_iff n u.toNat (nats b) hl hn
  have e : ([1, 2, 3, 4].find? fun (n : Nat) => decide (n ≤ (u :: b).length) && (isChar (valueOf n (u :: b)) && utf8 (valueOf n (u :: b)) == (u :: b).take n)) = [1, 2, 3, 4].find? fun n => tryN n (nats (u :: b)) := by
    congr 1
    funext n
    exact try_eq n (u :: b)
  unfold charOf
  rw [e]
  cases hw : widthOf u.toNat with
  | none =>
    have no : [1, 2, 3, 4].find? (fun n => tryN n (nats (u :: b))) = none := by
      rw [List.find?_eq_none]
      intro n hn ht
      have hn' : n = 1 ∨ n = 2 ∨ n = 3 ∨ n = 4 := by simpa using hn
      have := (key n hn').mp ht
      rw [hw] at this
      exact nomatch this.1
    rw [no]
    rfl
  | some w =>
    have hw4 := widthOf_pos hw
    have hwn : w = 1 ∨ w = 2 ∨ w = 3 ∨ w = 4 := by omega
    show _ = (charM (nats (u :: b)) w).map _
    have only : ∀ n, (n = 1 ∨ n = 2 ∨ n = 3 ∨ n = 4) → tryN n (nats (u :: b)) = true → n = w := fun n hn ht => by
      have := ((key n hn).mp ht).1
      rw [hw] at this
      exact (Option.some.inj this).symm
    cases hc : charM (nats (u :: b)) w with
    | none =>
      have no : [1, 2, 3, 4].find? (fun n => tryN n (nats (u :: b))) = none := by
        rw [List.find?_eq_none]
        intro n hn ht
        have hn' : n = 1 ∨ n = 2 ∨ n = 3 ∨ n = 4 := by simpa using hn
        have e2 := only n hn' ht
        have := ((key n hn').mp ht).2
        rw [e2, hc] at this
        cases this
      rw [no]
      rfl
    | some c =>
      have hv : c = val w (nats (u :: b)) := charM_val hl hw hc
      have yes : tryN w (nats (u :: b)) = true := (key w hwn).mpr ⟨hw, by rw [hc, hv]⟩
      have no : ∀ n, (n = 1 ∨ n = 2 ∨ n = 3 ∨ n = 4) → n ≠ w → tryN n (nats (u :: b)) = false := fun n hn hne => by
        cases q : tryN n (nats (u :: b)) with
        | false => rfl
        | true => exact absurd (only n hn q) hne
      have found : [1, 2, 3, 4].find? (fun n => tryN n (nats (u :: b))) = some w := by
        rcases hwn with rfl | rfl | rfl | rfl
        · simp [List.find?, yes]
        · simp [List.find?, yes, no 1 (by omega) (by omega)]
        · simp [List.find?, yes, no 1 (by omega) (by omega), no 2 (by omega) (by omega)]
        · simp [List.find?, yes, no 1 (by omega) (by omega), no 2 (by omega) (by omega), no 3 (by omega) (by omega)]
      rw [found]
      show some (valueOf w (u :: b), _) = some (c, _)
      rw [valueOf_eq, hv]
/-- all characters: the specification's are the mirror's -/
theorem charsFrom_eq : ∀ (n : Nat) (b : Bytes), b.length ≤ n → SyBase.charsFrom n b = chars (nats b)
  | 0, [], _ => rfl
  | _ + 1, [], _ => rfl
  | 0, _ :: _, h => by simp at h
  | n + 1, u :: b, h => by
    have e : nats (u :: b) = u.toNat :: nats b := rfl
    rw [e, chars_cons]
    unfold SyBase.charsFrom
    rw [charOf_eq]
    cases hw : widthOf u.toNat with
    | none => rfl
    | some w =>
      have hp := widthOf_pos hw
      simp only [Option.bind_some]
      rw [← e]
      cases charM (nats (u :: b)) w with
      | none => rfl
      | some c =>
        simp only [Option.map_some, Option.bind_some]
        rw [charsFrom_eq n ((u :: b).drop w) (by rw [List.length_drop, List.length_cons]; simp at h; omega)]
        congr 1
        show chars (List.map _ _) = _
        rw [List.map_drop]
        rfl
theorem chars_eq (b : Bytes) : SyBase.chars b = chars (nats b) := charsFrom_eq b.length b (Nat.le_refl _)
theorem nats_append (a b : Bytes) : nats (a ++ b) = nats a ++ nats b := List.map_append ..
end Sb
end
section
set_option autoImplicit false
/-! Mirror of the program, part 2: words and joins read; against the specification. -/
namespace Sb
open SyBase SyLex SyWays

/-! ### blanks and characters -/
def mapO {α β : Type} (f : α → Option β) : List α → Option (List β)
  | [] => some []
  | x :: r => (f x).bind fun y => (mapO f r).map fun s => y :: s
theorem mapO_length {α β : Type} {f : α → Option β} : ∀ {l : List α} {s : List β}, mapO f l = some s → s.length = l.length
  | [], s, h => by cases h; rfl
  | x :: r, s, h => by
    unfold mapO at h
    cases e : f x with
    | none => rw [e] at h; cases h
    | some y =>
      rw [e] at h
      cases e2 : mapO f r with
      | none => rw [e2] at h; cases h
      | some t =>
        rw [e2] at h
        cases h
        simp [mapO_length e2]
theorem parted_pre (m : Nat) : ∀ (c l : List Nat), m ∉ c → ∀ p q, parted m l = p :: q → parted m (c ++ l) = (c ++ p) :: q
  | [], l, _, p, q, h => h
  | x :: c, l, hm, p, q, h => by
    have ih := parted_pre m c l (fun z => hm (List.mem_cons_of_mem _ z)) p q h
    have hx : x ≠ m := fun e => hm (by rw [e]; exact List.mem_cons_self)
    show parted m (x :: (c ++ l)) = _
    rw [parted, if_neg hx, ih]
    rfl
theorem parted_is_pre (m : Nat) : ∀ (l p : List Nat) (q : List (List Nat)), parted m l = p :: q → ∃ s, l = p ++ s
  | [], p, q, h => by
    simp only [parted, List.cons.injEq] at h
    exact ⟨[], by rw [← h.1]; rfl⟩
  | x :: r, p, q, h => by
    rw [parted] at h
    split at h
    · simp only [List.cons.injEq] at h
      exact ⟨x :: r, by rw [← h.1]; rfl⟩
    · split at h
      · rename_i a b e
        simp only [List.cons.injEq] at h
        obtain ⟨s, hs⟩ := parted_is_pre m r a b e
        exact ⟨s, by rw [← h.1, hs]; rfl⟩
      · rename_i e
        exact absurd e (parted_ne m r)
theorem parted_cons (m : Nat) (l : List Nat) : ∃ p q, parted m l = p :: q := by
  cases h : parted m l with
  | nil => exact absurd h (parted_ne m l)
  | cons p q => exact ⟨p, q, rfl⟩

theorem cont_some_ge : ∀ {l : List Nat} {f c : Nat}, cont f l = some c → ∀ y ∈ l, 128 ≤ y
  | [], _, _, _, _, hy => nomatch hy
  | b :: r, f, c, h, y, hy => by
    unfold cont at h
    split at h
    · rename_i hb
      rcases List.mem_cons.mp hy with rfl | hy
      · omega
      · exact cont_some_ge h y hy
    · cases h
theorem charM_more {l s : List Nat} {w c : Nat} (h : charM l w = some c) (hw : 1 ≤ w) : charM (l ++ s) w = some c := by
  unfold charM at h ⊢
  split at h
  · rename_i hl
    rw [if_pos (by rw [List.length_append]; omega)]
    have e1 : (l ++ s).headD 0 = l.headD 0 := by
      cases l with
      | nil => simp at hl; omega
      | cons a b => rfl
    have e2 : ((l ++ s).drop 1).take (w - 1) = (l.drop 1).take (w - 1) := by
      rw [List.drop_append_of_le_length (by omega), List.take_append_of_le_length (by rw [List.length_drop]; omega)]
    rw [e1, e2]
    exact h
  · cases h
theorem charM_len {l : List Nat} {w c : Nat} (h : charM l w = some c) : w ≤ l.length := by
  unfold charM at h
  split at h
  · assumption
  · cases h
theorem charM_take {l : List Nat} {w c : Nat} (h : charM l w = some c) (hw : 1 ≤ w) : charM (l.take w) w = some c := by
  have hl := charM_len h
  unfold charM at h ⊢
  rw [if_pos hl] at h
  rw [if_pos (by rw [List.length_take]; omega)]
  have e1 : (l.take w).headD 0 = l.headD 0 := by
    cases l with
    | nil => simp
    | cons a b =>
      cases w with
      | zero => omega
      | succ w => rfl
  have e2 : ((l.take w).drop 1).take (w - 1) = (l.drop 1).take (w - 1) := by
    rw [List.drop_take, List.take_take, Nat.min_self]
  rw [e1, e2]
  exact h
theorem charM_tail {x w c : Nat} {r : List Nat} (h : charM (x :: r) w = some c) : ∀ y ∈ r.take (w - 1), 128 ≤ y := by
  unfold charM at h
  split at h
  · cases e : cont (firstOf w ((x :: r).headD 0)) (((x :: r).drop 1).take (w - 1)) with
    | none => rw [e] at h; cases h
    | some v => exact cont_some_ge (l := r.take (w - 1)) e
  · cases h
/-- of more bytes than one the character is none of the first 128 -/
theorem charM_ge {x w c : Nat} {r : List Nat} (hw : widthOf x = some w) (h : charM (x :: r) w = some c) : (w = 1 ∧ x < 128 ∧ c = x) ∨ (2 ≤ w ∧ 128 ≤ c ∧ 128 ≤ x) := by
  have hc := widthOf_cases hw
  rcases hc with ⟨rfl, hx⟩ | hc
  · rw [charM1, okC_some] at h
    exact .inl ⟨rfl, hx, h.2.2.symm⟩
  · refine .inr ⟨by omega, ?_, by omega⟩
    unfold charM at h
    split at h
    · cases e : cont (firstOf w ((x :: r).headD 0)) (((x :: r).drop 1).take (w - 1)) with
      | none => rw [e] at h; cases h
      | some v =>
        rw [e] at h
        simp only [Option.bind_some] at h
        split at h
        · rename_i q
          cases h
          have := q.1
          unfold least at this
          split at this
          · omega
          · split at this
            · omega
            · split at this <;> omega
        · cases h
    · cases h
theorem chars_step {x w c : Nat} {r : List Nat} (hw : widthOf x = some w) (hc : charM (x :: r) w = some c) : chars (x :: r) = (chars ((x :: r).drop w)).map fun t => c :: t := by
  rw [chars_cons, hw]
  simp only [Option.bind_some]
  rw [hc]
  rfl
theorem chars_none_w {x : Nat} {r : List Nat} (hw : widthOf x = none) : chars (x :: r) = none := by rw [chars_cons, hw]; rfl
theorem chars_none_c {x w : Nat} {r : List Nat} (hw : widthOf x = some w) (hc : charM (x :: r) w = none) : chars (x :: r) = none := by
  rw [chars_cons, hw]
  simp only [Option.bind_some]
  rw [hc]
  rfl
theorem widthOf_32 : widthOf 32 = some 1 := rfl
/-- characters first, then parted at blanks: parted first, then the characters of each part -/
theorem chars_parted : ∀ (n : Nat) (l : List Nat), l.length ≤ n → (chars l).map (parted 32) = mapO chars (parted 32 l)
  | _, [], _ => rfl
  | 0, _ :: _, h => by simp at h
  | n + 1, x :: r, h => by
    simp only [List.length_cons] at h
    by_cases hx : x = 32
    · subst hx
      have ec : charM (32 :: r) 1 = some 32 := by rw [charM1]; rfl
      rw [chars_step widthOf_32 ec]
      have ih := chars_parted n r (by omega)
      have e1 : parted 32 (32 :: r) = [] :: parted 32 r := by rw [parted]; simp
      rw [e1]
      show Option.map _ (Option.map _ (chars r)) = (some []).bind _
      simp only [Option.bind_some]
      rw [← ih]
      cases chars r with
      | none => rfl
      | some t =>
        show some (parted 32 (32 :: t)) = some ([] :: parted 32 t)
        rw [parted]
        simp
    · obtain ⟨p, q, ep⟩ := parted_cons 32 r
      have e1 : parted 32 (x :: r) = (x :: p) :: q := by rw [parted, if_neg hx, ep]
      obtain ⟨s, hs⟩ := parted_is_pre 32 r p q ep
      cases hw : widthOf x with
      | none =>
        rw [chars_none_w hw, e1]
        unfold mapO
        rw [chars_none_w hw]
        rfl
      | some w =>
        have hp := widthOf_pos hw
        cases hc : charM (x :: r) w with
        | none =>
          rw [chars_none_c hw hc, e1]
          unfold mapO
          have hc2 : charM (x :: p) w = none := by
            cases q2 : charM (x :: p) w with
            | none => rfl
            | some c =>
              have := charM_more (s := s) q2 hp.1
              rw [List.cons_append, ← hs, hc] at this
              cases this
          rw [chars_none_c hw hc2]
          rfl
        | some c =>
          rw [chars_step hw hc]
          have ih := chars_parted n ((x :: r).drop w) (by rw [List.length_drop, List.length_cons]; omega)
          have hge := charM_ge hw hc
          have htl := charM_tail hc
          have hno : 32 ∉ (x :: r).take w := by
            intro hm
            have e : (x :: r).take w = x :: r.take (w - 1) := by
              cases w with
              | zero => omega
              | succ w => rfl
            rw [e] at hm
            rcases List.mem_cons.mp hm with h1 | h1
            · exact hx h1.symm
            · have := htl 32 h1
              omega
          have hc32 : c ≠ 32 := by
            rcases hge with ⟨_, _, rfl⟩ | ⟨_, h2, _⟩
            · exact hx
            · omega
          obtain ⟨p', q', ep'⟩ := parted_cons 32 ((x :: r).drop w)
          have e2 : parted 32 (x :: r) = ((x :: r).take w ++ p') :: q' := by
            have := parted_pre 32 ((x :: r).take w) ((x :: r).drop w) hno p' q' ep'
            rw [List.take_append_drop] at this
            exact this
          rw [e2]
          rw [ep'] at ih
          have hlen := charM_len hc
          have e3 : chars ((x :: r).take w ++ p') = (chars p').map fun t => c :: t := by
            have e : (x :: r).take w = x :: r.take (w - 1) := by
              cases w with
              | zero => omega
              | succ w => rfl
            have c1 : charM ((x :: r).take w ++ p') w = some c := charM_more (charM_take hc hp.1) hp.1
            have d1 : ((x :: r).take w ++ p').drop w = p' := by
              rw [List.drop_append_of_le_length (by rw [List.length_take]; omega)]
              rw [List.drop_of_length_le (by rw [List.length_take]; omega)]
              rfl
            rw [e] at c1 d1 ⊢
            rw [List.cons_append] at c1 d1 ⊢
            rw [chars_step hw c1, d1]
          unfold mapO at ih ⊢
          rw [e3]
          cases h1 : chars p' with
          | none =>
            rw [h1] at ih
            simp only [Option.bind_none, Option.map_eq_none_iff] at ih
            rw [ih]
            rfl
          | some t1 =>
            rw [h1] at ih
            simp only [Option.bind_some, Option.map_some] at ih ⊢
            cases h2 : chars ((x :: r).drop w) with
            | none =>
              rw [h2] at ih
              simp only [Option.map_none] at ih ⊢
              have : mapO chars q' = none := by
                cases h3 : mapO chars q' with
                | none => rfl
                | some z => rw [h3] at ih; cases ih
              rw [this]
              rfl
            | some t2 =>
              rw [h2] at ih
              simp only [Option.map_some] at ih ⊢
              cases h3 : mapO chars q' with
              | none => rw [h3] at ih; cases ih
              | some z =>
                rw [h3] at ih
                simp only [Option.map_some, Option.some.injEq] at ih ⊢
                rw [parted, if_neg hc32, ih]
theorem chars_ascii : ∀ (l : List Nat), (∀ y ∈ l, y < 128) → chars l = some l
  | [], _ => rfl
  | x :: r, h => by
    have hx := h x List.mem_cons_self
    have hw : widthOf x = some 1 := by unfold widthOf; rw [if_pos hx]
    have hc : charM (x :: r) 1 = some x := by rw [charM1, okC_some]; exact ⟨Nat.zero_le _, (isChar_iff x).mpr (by omega), rfl⟩
    rw [chars_step hw hc]
    show Option.map _ (chars r) = _
    rw [chars_ascii r fun y hy => h y (List.mem_cons_of_mem _ hy)]
    rfl
theorem ascii_chars : ∀ (n : Nat) (l cs : List Nat), l.length ≤ n → chars l = some cs → (∀ y ∈ cs, y < 128) → l = cs
  | _, [], cs, _, h, _ => by cases h; rfl
  | 0, _ :: _, _, h, _, _ => by simp at h
  | n + 1, x :: r, cs, hl, h, ha => by
    simp only [List.length_cons] at hl
    cases hw : widthOf x with
    | none => rw [chars_none_w hw] at h; cases h
    | some w =>
      cases hc : charM (x :: r) w with
      | none => rw [chars_none_c hw hc] at h; cases h
      | some c =>
        rw [chars_step hw hc] at h
        cases e : chars ((x :: r).drop w) with
        | none => rw [e] at h; cases h
        | some t =>
          rw [e] at h
          cases h
          have hc128 := ha c List.mem_cons_self
          rcases charM_ge hw hc with ⟨rfl, _, rfl⟩ | ⟨_, h2, _⟩
          · rw [ascii_chars n r t (by omega) e fun y hy => ha y (List.mem_cons_of_mem _ hy)]
          · omega
theorem isDig_lt {c : Nat} (h : isDig c = true) : c < 128 := by
  unfold isDig at h
  simp only [Bool.and_eq_true, decide_eq_true_eq] at h
  omega
/-- decimalOf, over the numbers of the bytes -/
def decN (l : List Nat) : Option Nat := if l ≠ [] ∧ (l.length = 1 ∨ l.headD 0 ≠ 48) ∧ l.all isDig = true then some (l.foldl (fun n c => 10 * n + (c - 48)) 0) else none
theorem decN_eq (l : List Nat) : decN l = (chars l).bind numM := by
  have swap : ∀ l, decN l = numM l := fun l => by
    unfold decN numM
    by_cases h : l ≠ [] ∧ (l.length = 1 ∨ l.headD 0 ≠ 48) ∧ l.all isDig = true
    · rw [if_pos h, if_pos ⟨h.1, h.2.2, h.2.1.symm⟩]
    · rw [if_neg h, if_neg fun z => h ⟨z.1, z.2.2.symm, z.2.1⟩]
  have nodig : ∀ l, l.all isDig = false → numM l = none := fun l h => by
    unfold numM
    rw [if_neg]
    rintro ⟨_, h2, _⟩
    rw [h] at h2
    cases h2
  cases hd : l.all isDig with
  | true =>
    have h128 : ∀ y ∈ l, y < 128 := fun y hy => isDig_lt (List.all_eq_true.mp hd y hy)
    rw [chars_ascii l h128]
    exact swap l
  | false =>
    rw [swap, nodig l hd]
    cases e : chars l with
    | none => rfl
    | some cs =>
      show none = numM cs
      cases hc : cs.all isDig with
      | false => exact (nodig cs hc).symm
      | true =>
        have e2 := ascii_chars l.length l cs (Nat.le_refl _) e fun y hy => isDig_lt (List.all_eq_true.mp hc y hy)
        rw [e2, hc] at hd
        cases hd
theorem headD_nats (b : Bytes) : (nats b).headD 0 = (b.headD 0).toNat := by cases b <;> rfl
theorem foldl_nats : ∀ (b : Bytes) (n : Nat), b.foldl (fun (n : Nat) (c : UInt8) => 10 * n + (c.toNat - 0x30)) n = (nats b).foldl (fun n c => 10 * n + (c - 48)) n
  | [], _ => rfl
  | u :: b, n => foldl_nats b _
theorem all_nats : ∀ (b : Bytes), b.all (fun (c : UInt8) => decide (0x30 ≤ c.toNat) && decide (c.toNat ≤ 0x39)) = (nats b).all isDig
  | [] => rfl
  | u :: b => by
    exact congrArg (fun z => isDig u.toNat && z) (all_nats b)
theorem u8_inj {a b : UInt8} : a = b ↔ a.toNat = b.toNat := ⟨fun h => by rw [h], fun h => UInt8.toNat_inj.mp h⟩
theorem decimalOf_eq (b : Bytes) : decimalOf b = (chars (nats b)).bind numM := by
  rw [← decN_eq]
  unfold decimalOf decN
  have e1 : ((!b.isEmpty) = true ∧ (b.length = 1 ∨ b.head? ≠ some 0x30) ∧ b.all (fun (c : UInt8) => decide (0x30 ≤ c.toNat) && decide (c.toNat ≤ 0x39)) = true) ↔ (nats b ≠ [] ∧ ((nats b).length = 1 ∨ (nats b).headD 0 ≠ 48) ∧ (nats b).all isDig = true) := by
    rw [all_nats]
    cases b with
    | nil => simp [nats]
    | cons u b =>
      have e : (u :: b).head? ≠ some 0x30 ↔ (nats (u :: b)).headD 0 ≠ 48 := by
        show ¬ some u = some 0x30 ↔ ¬ u.toNat = 48
        rw [Option.some.injEq, u8_inj]
        exact Iff.rfl
      rw [e]
      simp [nats]
  by_cases h : (nats b ≠ [] ∧ ((nats b).length = 1 ∨ (nats b).headD 0 ≠ 48) ∧ (nats b).all isDig = true)
  · rw [if_pos (e1.mpr h), if_pos h, foldl_nats]
  · rw [if_neg fun z => h (e1.mp z), if_neg h]
/-- a reading or a text -/
def rowM (p : List Nat) : Option (List Nat) := if p ≠ [] ∧ p.all isSign = true then some p else none
theorem signsOf_eq (b : Bytes) : signsOf b = (chars (nats b)).bind rowM := by
  unfold signsOf
  rw [chars_eq]
  congr 1
  funext t
  unfold rowM
  by_cases h : t ≠ [] ∧ t.all isSign = true
  · rw [if_pos h, if_pos ⟨by simp [h.1], h.2⟩]
  · rw [if_neg h, if_neg fun z => h ⟨by simpa using z.1, z.2⟩]
theorem parted_eq : ∀ (b : Bytes), (SyLex.parted b).map nats = parted 32 (nats b)
  | [] => rfl
  | u :: b => by
    have ih := parted_eq b
    have e : SyLex.parted (u :: b) = if u = 0x20 then [] :: SyLex.parted b else match SyLex.parted b with
      | p :: r => (u :: p) :: r
      | [] => [[u]] := rfl
    rw [e]
    show _ = parted 32 (u.toNat :: nats b)
    rw [parted]
    have hu : u = 0x20 ↔ u.toNat = 32 := u8_inj
    by_cases h : u = 0x20
    · rw [if_pos h, if_pos (hu.mp h), List.map_cons, ih]
      rfl
    · rw [if_neg h, if_neg fun z => h (hu.mpr z), ← ih]
      cases SyLex.parted b with
      | nil => rfl
      | cons p r => rfl
/-! ### words -/
def wordM (line : List Nat × Bool) : Option Word := (partsM line 5).bind fun ps => match ps with
  | [r, t, x, y, c] => (rowM r).bind fun r => (rowM t).bind fun t => (numM x).bind fun x => (numM y).bind fun y => (numM c).map fun c => (⟨r, t, x, y, c⟩ : Word)
  | _ => none
theorem partsM_true (l : List Nat) (many : Nat) : partsM (l, true) many = (mapO chars (parted 32 l)).bind fun ps => if ps.length = many then some ps else none := by
  unfold partsM
  rw [if_pos rfl, ← chars_parted l.length l (Nat.le_refl _)]
  cases chars l <;> rfl
theorem partsM_false (l : List Nat) (many : Nat) : partsM (l, false) many = none := rfl
theorem wordOf_eq (b : Bytes) : wordOf b = wordM (nats b, true) := by
  unfold wordOf wordM
  rw [partsM_true, ← parted_eq]
  have short : ∀ ps : List Bytes, ps.length ≠ 5 → ((mapO chars (ps.map nats)).bind fun qs => if qs.length = 5 then some qs else none) = none := fun ps h => by
    cases e : mapO chars (ps.map nats) with
    | none => rfl
    | some qs =>
      have := mapO_length e
      rw [List.length_map] at this
      show (if _ then _ else _) = _
      rw [if_neg (by omega)]
  match SyLex.parted b, short with
  | [r, t, x, y, c], _ =>
    simp only [signsOf_eq, decimalOf_eq, List.map_cons, List.map_nil, mapO]
    cases chars (nats r) <;> cases chars (nats t) <;> cases chars (nats x) <;> cases chars (nats y) <;> cases chars (nats c) <;> simp
  | [], s => rw [s _ (by simp)]; rfl
  | [_], s => rw [s _ (by simp)]; rfl
  | [_, _], s => rw [s _ (by simp)]; rfl
  | [_, _, _], s => rw [s _ (by simp)]; rfl
  | [_, _, _, _], s => rw [s _ (by simp)]; rfl
  | _ :: _ :: _ :: _ :: _ :: _ :: _, s => rw [s _ (by simp)]; rfl
/-- a line of a number, behind those of known names -/
def wordIn (line : List Nat × Bool) (i : Nat) (known : List Word) : Except (Nat × Nat) Word := match wordM line with
  | none => .error (i, 1)
  | some w => if w.small = false then .error (i, 2) else if known.any (fun q => q.same w) = true then .error (i, 3) else if 128 ≤ i then .error (i, 4) else .ok w
def wordsGo : Nat → List (List Nat × Bool) → List Word → Except (Nat × Nat) (List Word)
  | _, [], acc => .ok acc
  | i, l :: r, acc => match wordIn l i acc with
    | .error e => .error e
    | .ok w => wordsGo (i + 1) r (acc ++ [w])
/-- words in order -/
def inOrder (ws : List Word) : Lexicon := ws.foldl (fun L w => putWord w L) []
def wordsM (some : List Nat) : Except (Nat × Nat) (List Word) := wordsGo 0 (linesOf some) []
theorem any_put (f : Word → Bool) (w : Word) : ∀ L : Lexicon, (putWord w L).any f = (f w || L.any f)
  | [] => rfl
  | q :: L => by
    unfold putWord
    split
    · rfl
    · rw [List.any_cons, any_put f w L, List.any_cons]
      cases f w <;> cases f q <;> simp
theorem any_fold (f : Word → Bool) : ∀ (ws : List Word) (L : Lexicon), (ws.foldl (fun L w => putWord w L) L).any f = (L.any f || ws.any f)
  | [], L => by simp
  | w :: ws, L => by
    rw [List.foldl_cons, any_fold f ws, any_put, List.any_cons]
    cases f w <;> cases L.any f <;> simp
theorem any_inOrder (f : Word → Bool) (ws : List Word) : (inOrder ws).any f = ws.any f := by
  unfold inOrder
  rw [any_fold]
  rfl
theorem inOrder_snoc (ws : List Word) (w : Word) : inOrder (ws ++ [w]) = putWord w (inOrder ws) := by
  unfold inOrder
  rw [List.foldl_append]
  rfl
theorem takeWhile_nats (b : Bytes) : nats (b.takeWhile fun (c : UInt8) => c != 0x0A) = (nats b).takeWhile fun c => c != 10 := by
  unfold nats
  rw [List.takeWhile_map]
  congr 1
  congr 1
  funext c
  have hu : c = 0x0A ↔ c.toNat = 10 := u8_inj
  show (c != 0x0A) = (c.toNat != 10)
  by_cases h : c = 0x0A
  · rw [h]; rfl
  · rw [bne_iff_ne.mpr h, bne_iff_ne.mpr fun z => h (hu.mpr z)]
theorem readWordsFrom_eq : ∀ (n i : Nat) (b : Bytes) (acc : List Word), b.length ≤ n → readWordsFrom n i b (inOrder acc) = (wordsGo i (linesOf (nats b)) acc).map inOrder
  | 0, _, [], _, _ => rfl
  | _ + 1, _, [], _, _ => rfl
  | 0, _, _ :: _, _, h => by simp at h
  | n + 1, i, u :: b, acc, h => by
    have hl := linesOf_cut (nats (u :: b))
    rw [← takeWhile_nats] at hl
    have hlen : (nats ((u :: b).takeWhile fun (c : UInt8) => c != 0x0A)).length = ((u :: b).takeWhile fun (c : UInt8) => c != 0x0A).length := List.length_map ..
    rw [hlen] at hl
    have hdr : (nats (u :: b)).drop ((u :: b).takeWhile fun (c : UInt8) => c != 0x0A).length = nats ((u :: b).drop ((u :: b).takeWhile fun (c : UInt8) => c != 0x0A).length) := by
      unfold nats
      rw [List.map_drop]
    rw [hdr] at hl
    unfold readWordsFrom
    simp only
    cases hd : (u :: b).drop ((u :: b).takeWhile fun (c : UInt8) => c != 0x0A).length with
    | nil =>
      rw [hd] at hl
      have hl2 : linesOf (nats (u :: b)) = [(nats (u :: b), false)] := hl
      rw [hl2]
      simp [wordsGo, wordIn, wordM, partsM_false, Except.map]
    | cons y r =>
      rw [hd] at hl
      have hl2 : linesOf (nats (u :: b)) = (nats ((u :: b).takeWhile fun (c : UInt8) => c != 0x0A), true) :: linesOf (nats r) := hl
      rw [hl2]
      simp only [wordsGo, wordIn, ← wordOf_eq]
      have hr : r.length ≤ n := by
        have e := congrArg List.length hd
        rw [List.length_drop, List.length_cons, List.length_cons] at e
        simp only [List.length_cons] at h
        omega
      cases hw : wordOf ((u :: b).takeWhile fun (c : UInt8) => c != 0x0A) with
      | none => simp [Except.map]
      | some w =>
        simp only
        by_cases h1 : w.small = false
        · rw [if_pos h1, if_pos h1]
          rfl
        · rw [if_neg h1, if_neg h1, any_inOrder]
          by_cases h2 : acc.any (fun q => q.same w) = true
          · rw [if_pos h2, if_pos h2]
            rfl
          · rw [if_neg h2, if_neg h2]
            by_cases h3 : 128 ≤ i
            · rw [if_pos h3, if_pos (show WORDS ≤ i from h3)]
              rfl
            · rw [if_neg h3, if_neg (show ¬ WORDS ≤ i from h3), ← inOrder_snoc]
              exact readWordsFrom_eq n (i + 1) r (acc ++ [w]) hr
theorem readWords_eq (b : Bytes) : readWords b = (wordsM (nats b)).map inOrder := readWordsFrom_eq b.length 0 b [] (Nat.le_refl _)
end Sb
end
section
namespace L2
open PySem PySem.Spec PyProof.Rows
/-- a def that may let out an exception whose context is None -/
theorem Fun.okN {P : Program} {w : World} {K : PySem.W.Frag} {mg : Str → Option Value} {base : Heap} {x qual : Str} {st : Stmt} {ps : List Str} {k : Nat} {sp : Sp} {f : Addr} {fd : FuncData} {N : List Str} (F : Fun K x qual st f fd) (S : FnScope N ps (defScope st)) (len : ∀ vs H Q E, sp vs H Q E → vs.length = ps.length)
    (hbody : ∀ (cdv : Value) (A : Around) (outer : List Env) (s : Shared) (H : Hp) (vs : List V) (Q : VK) (E : XK), Room k (A.deeper (envOfC qual (defScope st) s.heap.objs.size f cdv)) → sp vs H Q E →
      ∃ t, PSs (cxOf (L2N.CX P w) P w K mg base N qual (defScope st) f cdv A outer s H E) (defBody st) t ∧ t { nx := fun _ H' => Q .non H', rt := Q } (start N vs) H) :
    FnOk P w K mg base (L2N.CX P w) (k + 1) f fd ps sp := by
  obtain ⟨oc, od, kV, doc, pm, an, cdv, ct, osl, rfl, lk, hcd⟩ := F.ex
  exact fn_of lk hcd S len fun A outer s H vs Q E hr hsp => hbody cdv A outer s H vs Q E hr hsp
theorem Same.new {H : Hp} {p : Addr} {o : HO} (hp : H p = none) : Same H (upd H p o) := fun b u e => by
  rw [upd_ne (ne_of_none e hp)]
  exact e
theorem Same.at {H H' : Hp} {p : Addr} {o : HO} (s : Same H H') (hp : H p = none) : Same H (upd H' p o) := fun b u e => by
  rw [upd_ne (ne_of_none e hp)]
  exact s b u e
/-- a further new object -/
theorem Same.more {H H' : Hp} {p : Addr} {o : HO} (s : Same H H') (hp : H' p = none) : Same H (upd H' p o) := s.at (s.free hp)
theorem Same.tup {K : PySem.W.Frag} {H H' : Hp} {a : Addr} {xs : List V} (e : Same H H') (h : SqT K H a xs) : SqT K H' a xs := by
  rcases h with (h | ⟨o, h⟩) | h
  · exact .inl (.inl (e _ _ h))
  · exact .inl (.inr ⟨o, e _ _ h⟩)
  · exact .inr h
/-- one object of a form at each address -/
def Objs {β : Type} (H : Hp) (R : β → HO) (as : List Addr) (bs : List β) : Prop := Paired (fun a x => H a = some (R x)) as bs
section
variable {β : Type} {H H' : Hp} {R : β → HO} {as : List Addr} {bs : List β} {q : Addr} {o : HO}
theorem Objs.len (h : Objs H R as bs) : as.length = bs.length := Paired.length h
theorem Objs.same (h : Objs H R as bs) (s : Same H H') : Objs H' R as bs := Paired.mapP h fun _ _ r => s _ _ r
theorem Objs.put_ne : ∀ {as : List Addr} {bs : List β}, Objs H R as bs → q ∉ as → Objs (upd H q o) R as bs
  | _, _, .nil, _ => .nil
  | _, _, .cons r t, n => .cons (by
      rw [upd_ne fun e => n (by rw [e]; exact List.mem_cons_self)]
      exact r) (Objs.put_ne t fun m => n (List.mem_cons_of_mem _ m))
theorem Objs.notin : ∀ {as : List Addr} {bs : List β}, Objs H R as bs → H q = none → q ∉ as
  | _, _, .nil, _ => by simp
  | _, _, .cons r t, n => fun m => by
    rcases List.mem_cons.mp m with e | m
    · rw [e, r] at n
      cases n
    · exact Objs.notin t n m
theorem Objs.snoc {a : Addr} {b : β} (r : H a = some (R b)) : ∀ {as : List Addr} {bs : List β}, Objs H R as bs → Objs H R (as ++ [a]) (bs ++ [b])
  | _, _, .nil => .cons r .nil
  | _, _, .cons r' t => .cons r' (Objs.snoc r t)
theorem Objs.get : ∀ {as : List Addr} {bs : List β} {i : Nat} {b : β}, Objs H R as bs → bs[i]? = some b → ∃ a, as[i]? = some a ∧ H a = some (R b)
  | _, _, _, _, .nil, e => by simp at e
  | _, _, 0, _, .cons r _, e => by
    simp only [List.getElem?_cons_zero, Option.some.injEq] at e
    subst e
    exact ⟨_, rfl, r⟩
  | _, _, i + 1, _, .cons _ t, e => by
    obtain ⟨a, h1, h2⟩ := Objs.get (i := i) t (by simpa using e)
    exact ⟨a, by simpa using h1, h2⟩
theorem Objs.mem : ∀ {as : List Addr} {bs : List β} {a : Addr}, Objs H R as bs → a ∈ as → ∃ b, b ∈ bs ∧ H a = some (R b)
  | _, _, _, .nil, e => by simp at e
  | _, _, _, .cons r t, e => by
    rcases List.mem_cons.mp e with rfl | e
    · exact ⟨_, List.mem_cons_self, r⟩
    · obtain ⟨b, h1, h2⟩ := Objs.mem t e
      exact ⟨b, List.mem_cons_of_mem _ h1, h2⟩
end
theorem prd_unsnoc {α β : Type} {R : α → β → Prop} : ∀ {bs : List β} {as : List α} {b : β}, Paired R as (bs ++ [b]) → ∃ cs c, as = cs ++ [c] ∧ Paired R cs bs ∧ R c b
  | [], _, _, h => by
    cases h with
    | cons r t =>
      cases t
      exact ⟨[], _, rfl, .nil, r⟩
  | x :: bs, _, b, h => by
    cases h with
    | cons r t =>
      obtain ⟨cs, c, rfl, h1, h2⟩ := prd_unsnoc t
      exact ⟨_ :: cs, c, rfl, .cons r h1, h2⟩
theorem prd_append {α β : Type} {R : α → β → Prop} : ∀ {as : List α} {bs : List β} {cs : List α} {ds : List β}, Paired R as bs → Paired R cs ds → Paired R (as ++ cs) (bs ++ ds)
  | _, _, _, _, .nil, h => h
  | _, _, _, _, .cons r t, h => .cons r (prd_append t h)
theorem prd_snoc {α β : Type} {R : α → β → Prop} {as : List α} {bs : List β} {a : α} {b : β} (h : Paired R as bs) (r : R a b) : Paired R (as ++ [a]) (bs ++ [b]) := prd_append h (.cons r .nil)
theorem prd_at {α β : Type} {R : α → β → Prop} : ∀ {as : List α} {bs : List β} {i : Nat} {b : β}, Paired R as bs → bs[i]? = some b → ∃ a, as[i]? = some a ∧ R a b
  | _, _, _, _, .nil, e => by simp at e
  | _, _, 0, _, .cons r _, e => by
    simp only [List.getElem?_cons_zero, Option.some.injEq] at e
    subst e
    exact ⟨_, rfl, r⟩
  | _, _, i + 1, _, .cons _ t, e => by
    obtain ⟨a, h1, h2⟩ := prd_at (i := i) t (by simpa using e)
    exact ⟨a, by simpa using h1, h2⟩
theorem prd_take {α β : Type} {R : α → β → Prop} : ∀ {as : List α} {bs : List β} (n : Nat), Paired R as bs → Paired R (as.take n) (bs.take n)
  | _, _, 0, _ => .nil
  | _, _, _ + 1, .nil => .nil
  | _, _, n + 1, .cons r t => .cons r (prd_take n t)
/-- two new objects, one behind the other -/
theorem new_ne {H : Hp} {a b : Addr} {o : HO} (h : upd H a o b = none) : b ≠ a ∧ H b = none := by
  have hb : b ≠ a := fun e => by
    rw [e, upd_same] at h
    cases h
  rw [upd_ne hb] at h
  exact ⟨hb, h⟩
/-- the heap H' is Hx and, beside it, the object o at D (which a loop changes) -/
structure Off (Hx H' : Hp) (D : Addr) (o : HO) : Prop where
  eq : H' = upd Hx D o
  free : Hx D = none
section
variable {Hx H' H'' : Hp} {D t : Addr} {o u : HO}
theorem Off.new (h : H' D = none) : Off H' (upd H' D o) D o := ⟨rfl, h⟩
theorem Off.put (f : Off Hx H' D o) (u : HO) : Off Hx (upd H' D u) D u := ⟨by rw [f.eq, upd_upd], f.free⟩
theorem Off.at (f : Off Hx H' D o) : H' D = some o := by rw [f.eq, upd_same]
theorem Off.same (f : Off Hx H' D o) : Same Hx H' := by
  rw [f.eq]
  exact Same.new f.free
theorem Off.free_of (f : Off Hx H' D o) (h : H' t = none) : Hx t = none := f.same.free h
theorem Off.ne (f : Off Hx H' D o) (h : H' t = none) : t ≠ D := (ne_of_none f.at h).symm
theorem Off.ne_in (f : Off Hx H' D o) (h : Hx t = some u) : t ≠ D := ne_of_none h f.free
theorem upd_swap {H : Hp} {a b : Addr} {x y : HO} (h : a ≠ b) : upd (upd H a x) b y = upd (upd H b y) a x := by
  funext c
  by_cases h1 : c = a
  · subst h1
    rw [upd_same, upd_ne h, upd_same]
  · by_cases h2 : c = b
    · subst h2
      rw [upd_same, upd_ne h1, upd_same]
    · rw [upd_ne h2, upd_ne h1, upd_ne h1, upd_ne h2]
/-- a new object beside -/
theorem Off.add (f : Off Hx H' D o) (h : H' t = none) (u : HO) : Off (upd Hx t u) (upd H' t u) D o := by
  have n := f.ne h
  refine ⟨by rw [f.eq, upd_swap (Ne.symm n)], ?_⟩
  rw [upd_ne (Ne.symm n)]
  exact f.free
/-- an object beside is changed -/
theorem Off.set (f : Off Hx H' D o) (n : t ≠ D) (u : HO) : Off (upd Hx t u) (upd H' t u) D o := by
  refine ⟨by rw [f.eq, upd_swap (Ne.symm n)], ?_⟩
  rw [upd_ne (Ne.symm n)]
  exact f.free
/-- more has come, nothing has changed -/
theorem Off.call (f : Off Hx H' D o) (s : Same H' H'') : ∃ Hy, Off Hy H'' D o ∧ Same Hx Hy := by
  have hd : H'' D = some o := s _ _ f.at
  refine ⟨fun b => if b = D then none else H'' b, ⟨?_, if_pos rfl⟩, fun b v hb => ?_⟩
  · funext b
    by_cases e : b = D
    · subst e
      rw [upd_same]
      exact hd
    · rw [upd_ne e, if_neg e]
  · have n := f.ne_in hb
    show (if b = D then none else H'' b) = some v
    rw [if_neg n]
    exact s _ _ (f.same _ _ hb)
end
/-- a comprehension without a test -/
theorem tyes {σ : St} {H : Hp} {A B : Hp → Prop} (h : A H) : tYes σ H (fun b H3 => if b = true then A H3 else B H3) := by
  show (if true = true then A H else B H)
  rw [if_pos rfl]
  exact h
/-- an if whose test is known -/
theorem ifT {c : Bool} {A B : Prop} (hc : c = true) (h : A) : if c = true then A else B := by
  rw [if_pos hc]
  exact h
theorem ifF {c : Bool} {A B : Prop} (hc : c = false) (h : B) : if c = true then A else B := by
  rw [hc, if_neg Bool.false_ne_true]
  exact h
/-- an if whose test is decided by p -/
theorem ifD {p : Prop} [Decidable p] {A B : Prop} (h1 : p → A) (h2 : ¬ p → B) : if decide p = true then A else B := by
  by_cases h : p
  · exact ifT (decide_eq_true h) (h1 h)
  · exact ifF (decide_eq_false h) (h2 h)
end L2
namespace Sb
open PySem PySem.Spec PyProof.Rows L2
/-- the i-th statement of the program -/
def top (i : Nat) : Stmt := PySem.Challenge.pw_sayback_s01_answers.main.body.getD i (.Pass ⟨0, 0, 0, 0⟩)

/-! ### defs by their names -/
section
variable (P : Program) (w : World) (K : PySem.W.Frag) (mg : Str → Option Value) (base : Heap)
/-- a def of the text as it stands behind the top -/
structure Def (x qual : Str) (st : Stmt) (ps : List Str) : Prop where
  ex : ∃ f fd, Fun K x qual st f fd ∧ Binds K fd ps [] ∧ mg x = some (.ref f)
/-- a method of the class at C -/
structure MDef (C : Addr) (x qual : Str) (st : Stmt) (ps : List Str) : Prop where
  ex : ∃ f fd, Fun K x qual st f fd ∧ Binds K fd ps [] ∧ Meth K C x f
/-- an __init__ -/
structure IDef (C : Addr) (qual : Str) (st : Stmt) (ps : List Str) : Prop where
  ex : ∃ f fd, Fun K "__init__" qual st f fd ∧ Binds K fd ps [] ∧ Mk K C f
/-- a def keeps a promise -/
structure Has (CX : CXT) (x : Str) (k : Nat) (ps : List Str) (sp : Sp) : Prop where
  ex : ∃ f fd, FnOk P w K mg base CX k f fd ps sp ∧ mg x = some (.ref f) ∧ PySem.W.keepIn K (.ref f) = true ∧ Binds K fd ps []
structure MHas (CX : CXT) (C : Addr) (x : Str) (k : Nat) (ps : List Str) (sp : Sp) : Prop where
  ex : ∃ f fd, FnOk P w K mg base CX k f fd ps sp ∧ Meth K C x f ∧ Binds K fd ps []
structure IHas (CX : CXT) (C : Addr) (k : Nat) (ps : List Str) (sp : Sp) : Prop where
  ex : ∃ f fd, FnOk P w K mg base CX k f fd ps sp ∧ Mk K C f ∧ Binds K fd ps []
end
section
variable {P : Program} {w : World} {K : PySem.W.Frag} {mg : Str → Option Value} {base : Heap} {CX : CXT} {x qual : Str} {st : Stmt} {ps : List Str} {k : Nat} {sp : Sp} {C : Addr}
theorem Has.of (D : Def K mg x qual st ps) (h : ∀ f fd, Fun K x qual st f fd → FnOk P w K mg base CX k f fd ps sp) : Has P w K mg base CX x k ps sp := by
  obtain ⟨f, fd, F, b, m⟩ := D.ex
  exact ⟨f, fd, h f fd F, m, F.kp, b⟩
theorem MHas.of (D : MDef K C x qual st ps) (h : ∀ f fd, Fun K x qual st f fd → FnOk P w K mg base CX k f fd ps sp) : MHas P w K mg base CX C x k ps sp := by
  obtain ⟨f, fd, F, b, m⟩ := D.ex
  exact ⟨f, fd, h f fd F, m, b⟩
theorem IHas.of (D : IDef K C qual st ps) (h : ∀ f fd, Fun K "__init__" qual st f fd → FnOk P w K mg base CX k f fd ps sp) : IHas P w K mg base CX C k ps sp := by
  obtain ⟨f, fd, F, b, m⟩ := D.ex
  exact ⟨f, fd, h f fd F, m, b⟩
end
section
variable {X : Cx} {CX : CXT} {x m : Str} {ps : List Str} {k : Nat} {sp : Sp} {C : Addr} {p pos apos : Pos} {e o : Expr} {es : List Expr} {t : TA} {to : TE}
/-- f(e, ..), what it raises wished for -/
theorem call_has {E : L2.St → XK} (G : Has X.prog X.w X.K X.mg X.base CX x k ps sp) (hr : Room k X.A) (hx : ∀ σ, PassesAt CX X σ (E σ)) (ha : PA X (e :: es) t) (hg : Gl X x := by rfl)
    (hdb : (x == ("__debug__" : Str)) = false := by decide) (he : starEach (e :: es) X.env = (false, eval e X.env) :: starEach es X.env := by rfl) (hpl : (backTo pos (starEach es X.env)).any (·.1) = false := by rfl) :
    PE X (.Call (.Name x p) (e :: es) [] pos) (tCallS sp E t) := by
  obtain ⟨f, fd, F, hm, hk, hb⟩ := G.ex
  exact pe_callS F hr hg hm hk hb hx ha hdb he hpl
end
section
variable {X : Cx} {CX : CXT} {x m : Str} {ps : List Str} {k : Nat} {sp : Sp} {C : Addr} {p pos apos : Pos} {e o : Expr} {es : List Expr} {t : TA} {to : TE}
theorem meth_has {pl : Sem Bool} (G : MHas X.prog X.w X.K X.mg X.base CX0 C m k ps sp) (c : Cls X.K C) (hr : Room k X.A) (he : PE X o to) (ha : PA X (e :: es) t)
    (hst : starEach (e :: es) X.env = (false, eval e X.env) :: starEach es X.env := by rfl) (hpl : (backTo pos (starEach es X.env)).any (·.1) = false := by rfl)
    (ht : eval (.Call (.Attribute o m apos) (e :: es) [] pos) X.env = (do
      let ov ← eval o X.env
      standAt apos.atName
      let (f, first) ← holding [ov] (getMethod ov m pl)
      callWith pos f first (backTo pos (starEach (e :: es) X.env)) (backToKw pos (keywordEach [] X.env))) := by rfl) :
    PE X (.Call (.Attribute o m apos) (e :: es) [] pos) (tMeth C m sp [] E0 to t) := by
  obtain ⟨f, fd, F, hm, hb⟩ := G.ex
  exact pe_meth he c hm F hr hb .nil pass0 ha hst hpl ht
theorem meth_has0 {pl : Sem Bool} (G : MHas X.prog X.w X.K X.mg X.base CX0 C m k ps sp) (c : Cls X.K C) (hr : Room k X.A) (he : PE X o to)
    (ht : eval (.Call (.Attribute o m apos) [] [] pos) X.env = (do
      let ov ← eval o X.env
      standAt apos.atName
      let (f, first) ← holding [ov] (getMethod ov m pl)
      callWith pos f first (backTo pos (starEach [] X.env)) (backToKw pos (keywordEach [] X.env))) := by rfl) :
    PE X (.Call (.Attribute o m apos) [] [] pos) (tMeth C m sp [] E0 to tNil) := by
  obtain ⟨f, fd, F, hm, hb⟩ := G.ex
  exact pe_meth0 he c hm F hr hb .nil pass0 ht
theorem make_has (G : IHas X.prog X.w X.K X.mg X.base CX0 C k ps sp) (gC : X.mg x = some (.ref C)) (hr : Room (k + 1) X.A) (ha : PA X (e :: es) t) (hg : Gl X x := by rfl)
    (hdb : (x == ("__debug__" : Str)) = false := by decide) (he : starEach (e :: es) X.env = (false, eval e X.env) :: starEach es X.env := by rfl) (hpl : (backTo pos (starEach es X.env)).any (·.1) = false := by rfl) :
    PE X (.Call (.Name x p) (e :: es) [] pos) (tMake C sp [] E0 t) := by
  obtain ⟨f, fd, F, hm, hb⟩ := G.ex
  exact pe_make hm F hr hg gC hb .nil pass0 ha hdb he hpl
theorem make_has0 (G : IHas X.prog X.w X.K X.mg X.base CX0 C k ps sp) (gC : X.mg x = some (.ref C)) (hr : Room (k + 1) X.A) (hg : Gl X x := by rfl)
    (hdb : (x == ("__debug__" : Str)) = false := by decide) : PE X (.Call (.Name x p) [] [] pos) (tMake C sp [] E0 tNil) := by
  obtain ⟨f, fd, F, hm, hb⟩ := G.ex
  exact pe_make0 hm F hr hg gC hb .nil pass0 hdb
end
/-- a module's number, a module's tuple -/
def GInt (mg : Str → Option Value) (x : Str) (i : Int) : Prop := ∃ t, mg x = some (.int i t)
def GTup (K : PySem.W.Frag) (mg : Str → Option Value) (x : Str) (xs : List V) : Prop := ∃ a, mg x = some (.ref a) ∧ ∀ H, SqT K H a xs
theorem glob_int {X : Cx} {x : Str} {i : Int} {pos : Pos} (h : GInt X.mg x i) (hg : Gl X x := by rfl) (hd : (x == ("__debug__" : Str)) = false := by decide) : PE X (.Name x pos) (tC (.int i)) := by
  obtain ⟨t, e⟩ := h
  exact pe_glob hg e ⟨t, rfl⟩ hd
/-- a module's tuple, as a value -/
def tGTup (K : PySem.W.Frag) (xs : List V) : TE := fun _ H Q => ∀ a, (∀ H, SqT K H a xs) → Q (.ref a) H
theorem glob_tup {X : Cx} {x : Str} {xs : List V} {pos : Pos} (h : GTup X.K X.mg x xs) (hg : Gl X x := by rfl) (hd : (x == ("__debug__" : Str)) = false := by decide) : PE X (.Name x pos) (tGTup X.K xs) := by
  obtain ⟨a, e, hs⟩ := h
  exact ⟨fun pins s σ H Q I hq => (pe_glob (v := .ref a) hg e rfl hd).run pins s σ H Q I (hq a hs)⟩

/-! ### the addresses of the classes; what the top has written -/
structure Ads where
  CF : Addr
  CN : Addr
  CW : Addr
  CJ : Addr
  CT : Addr
  CB : Addr
structure Txt (K : PySem.W.Frag) (mg : Str → Option Value) (A : Ads) : Prop where
  len : mg "len" = none
  enumerate : mg "enumerate" = none
  all : mg "all" = none
  tuple : mg "tuple" = none
  sorted : mg "sorted" = none
  range : mg "range" = none
  sum : mg "sum" = none
  int : mg "int" = none
  list : mg "list" = none
  LINE_END : GInt mg "LINE_END" 10
  BLANK : GInt mg "BLANK" 32
  ZERO : GInt mg "ZERO" 48
  DELETED : GInt mg "DELETED" 127
  FIRST_ODD : GInt mg "FIRST_ODD" 55296
  LAST_ODD : GInt mg "LAST_ODD" 57343
  LAST_CHARACTER : GInt mg "LAST_CHARACTER" 1114111
  LEASTS : GTup K mg "LEASTS" [.int 0, .int 128, .int 2048, .int 65536]
  BOUNDS : GTup K mg "BOUNDS" [.int 128, .int 192, .int 224, .int 240, .int 248]
  MOST_SIGNS_lexicons : GInt mg "MOST_SIGNS_lexicons" 32
  MOST_SORT : GInt mg "MOST_SORT" 255
  MOST_COST : GInt mg "MOST_COST" 65535
  MOST_WORDS : GInt mg "MOST_WORDS" 128
  NO_LINE : GInt mg "NO_LINE" 1
  TOO_MUCH : GInt mg "TOO_MUCH" 2
  AGAIN : GInt mg "AGAIN" 3
  ONE_TOO_MANY : GInt mg "ONE_TOO_MANY" 4
  BY_ITSELF : GInt mg "BY_ITSELF" (-1)
  EDGE : GInt mg "EDGE" 0
  WRONG_SIZE : GInt mg "WRONG_SIZE" (-1)
  FAULTY : GInt mg "FAULTY" (-2)
  NO_CHARACTER : GInt mg "NO_CHARACTER" (-3)
  NONE_SUCH : GInt mg "NONE_SUCH" (-5)
  TOO_MANY : GInt mg "TOO_MANY" (-6)
  MOST_BYTES : GInt mg "MOST_BYTES" 65536
  MOST_SIGNS_readings : GInt mg "MOST_SIGNS_readings" 24
  MOST_WAYS : GInt mg "MOST_WAYS" 1024
  DEAREST : GInt mg "DEAREST" 65535
  SIZES : GTup K mg "SIZES" [.int 0, .int 0, .int 0, .int 0, .int 0, .int 1, .int 1]
  BEGIN : GInt mg "BEGIN" 1
  -- NoLine
  gN : mg "NoLine" = some (.ref A.CN)
  xN : PySem.W.excIn K A.CN [.type "ValueError", .type "Exception", .type "BaseException", .type "object"] "ValueError.__new__" = true
  kN : PySem.W.keepIn K (.ref A.CN) = true
  bN : PySem.W.subIn K (.ref A.CN) (.type "BaseException") = some true
  tN : PySem.W.typeIn K (.ref A.CN) = some (.type "type")
  eN : PySem.W.exmOne K (.ref A.CN) (.ref A.CN) = some true
  -- Fault
  gF : mg "Fault" = some (.ref A.CF)
  oF : OexC K A.CF
  fF : XfC K A.CF
  nFl : PySem.W.findIn K (.ref A.CF) "line" = some none
  nFk : PySem.W.findIn K (.ref A.CF) "kind" = some none
  eF : PySem.W.exmOne K (.ref A.CF) (.ref A.CF) = some true
  eNF : PySem.W.exmOne K (.ref A.CF) (.ref A.CN) = some false
  -- the classes
  gW : mg "Word" = some (.ref A.CW)
  gJ : mg "Joins" = some (.ref A.CJ)
  gT : mg "Text" = some (.ref A.CT)
  gB : mg "Book" = some (.ref A.CB)
  clW : Cls K A.CW
  clJ : Cls K A.CJ
  clT : Cls K A.CT
  clB : Cls K A.CB
  aW : ∀ f ∈ (["sounds", "signs", "left", "right", "cost"] : List Str), NoAttr K A.CW f
  aJ : ∀ f ∈ (["by_itself", "costs"] : List Str), NoAttr K A.CJ f
  aT : ∀ f ∈ (["words", "joins", "signs", "starting"] : List Str), NoAttr K A.CT f
  aB : ∀ f ∈ (["words", "joins", "known"] : List Str), NoAttr K A.CB f

/-! ### numbers, lists of them -/
def nv (ns : List Nat) : List V := ns.map fun (n : Nat) => V.int (n : Int)
theorem nv_length (ns : List Nat) : (nv ns).length = ns.length := List.length_map ..
theorem nv_get {ns : List Nat} {i : Nat} {y : V} (h : (nv ns)[i]? = some y) : ∃ n, ns[i]? = some n ∧ y = V.int (n : Int) := by
  unfold nv at h
  rw [List.getElem?_map] at h
  cases e : ns[i]? with
  | none => rw [e] at h; cases h
  | some n =>
    rw [e] at h
    exact ⟨n, rfl, (Option.some.inj h).symm⟩
theorem nv_snoc (ns : List Nat) (n : Nat) : nv (ns ++ [n]) = nv ns ++ [V.int (n : Int)] := by simp [nv]
theorem take_more {α : Type} {l : List α} {i : Nat} {x : α} (h : l[i]? = some x) : l.take (i + 1) = l.take i ++ [x] := by
  rw [List.take_add_one, h]
  rfl
/-- at p a list of lists of numbers -/
def lstN (ns : List Nat) : HO := .lst (nv ns)
def refs (as : List Addr) : List V := as.map V.ref
theorem refs_len (as : List Addr) : (refs as).length = as.length := List.length_map ..
theorem refs_snoc (as : List Addr) (a : Addr) : refs (as ++ [a]) = refs as ++ [V.ref a] := by simp [refs]
theorem refs_get {as : List Addr} {i : Nat} {y : V} (h : (refs as)[i]? = some y) : ∃ a, as[i]? = some a ∧ y = V.ref a := by
  unfold refs at h
  rw [List.getElem?_map] at h
  cases e : as[i]? with
  | none => rw [e] at h; cases h
  | some n =>
    rw [e] at h
    exact ⟨n, rfl, (Option.some.inj h).symm⟩
theorem refs_at {as : List Addr} {i : Nat} {a : Addr} (h : as[i]? = some a) : (refs as)[i]? = some (V.ref a) := by
  unfold refs
  rw [List.getElem?_map, h]
  rfl
theorem nv_at {ns : List Nat} {i n : Nat} (h : ns[i]? = some n) : (nv ns)[i]? = some (V.int (n : Int)) := by
  unfold nv
  rw [List.getElem?_map, h]
  rfl
def Rows (H : Hp) (p : Addr) (xss : List (List Nat)) : Prop := ∃ as : List Addr, H p = some (.lst (refs as)) ∧ Objs H lstN as xss
theorem Rows.same {H H' : Hp} {p : Addr} {xss : List (List Nat)} (h : Rows H p xss) (s : Same H H') : Rows H' p xss := by
  obtain ⟨as, h1, h2⟩ := h
  exact ⟨as, s _ _ h1, h2.same s⟩
/-- nothing leaves a def of CX0 -/
theorem at0 {X : Cx} {E : XK} (σ : L2.St) : PassesAt CX0 X σ E := fun _ _ _ _ _ _ h => h.elim
end Sb
end
section
/-! Rules 1: enumerate of a tuple -/
namespace L2
open PySem PySem.Spec PyProof.Rows
open AutoSeq1 (wpAny_loadPart')

set_option maxHeartbeats 4000000 in
theorem meets_enumerate_tup (t : Addr) (items : Array Value) : Meets (Builtin.«enumerate.__new__» ⟨[.type "enumerate", .ref t], []⟩)
    (fun _ R s => s.heap.IsTuple t items ∧ R (.ok (.ret (.ref (s.heap.push { cls := .type "tuple_iterator", data := .fields #[.ref t, .int 0 0] }).objs.size)))
      { s with heap := (s.heap.push { cls := .type "tuple_iterator", data := .fields #[.ref t, .int 0 0] }).push { cls := .type "enumerate", data := .fields #[.none, .bool false, .ref s.heap.objs.size, rawInt 0, .none, .none] } }) :=
  .of_wp fun prog w A R s h => by
    obtain ⟨hp, g, d, tk, os⟩ := s
    obtain ⟨h1, h⟩ := h
    have hsub := sub_enumerate
    have q1 : ∀ {B : Around} {E Q : Value → Shared → Prop}, Q (.ref hp.objs.size) ⟨hp.push { cls := .type "tuple_iterator", data := .fields #[.ref t, .int 0 0] }, g, d, tk, os⟩ →
        wpAny (model prog w) B (pyIter (.ref t)) Q E ⟨hp, g, d, tk, os⟩ := fun q => wpAny_pyIter_tuple (s := ⟨hp, g, d, tk, os⟩) h1 q
    obtain ⟨o, ho, hc, n, hd⟩ := id h1
    obtain ⟨c0, d0, dt, sl⟩ := o
    subst hc
    subst hd
    wp_walk using wpAny_loadPart' ho, q1
    refine wpAny_stack_any fun st => wpAny_pure ?_
    split
    · rename_i c _ _ _ _ _
      cases (c == Value.type "enumerate")
      all_goals
        wp_walk using wpAny_loadPart' ho, q1
        exact ⟨_, rfl, h⟩
    · wp_walk using wpAny_loadPart' ho, q1
      exact ⟨_, rfl, h⟩
theorem call_enumerate_tup {prog : Program} {w : World} {A : Around} {E : Value → Shared → Prop} {s : Shared} {t : Addr} {items : Array Value} {Q : Value → Shared → Prop} (hT : s.heap.IsTuple t items)
    (h : ∀ g : Heap, IsEnum g (s.heap.objs.size + 1) s.heap.objs.size 0 .none → g.IsTupleIter s.heap.objs.size t 0 → g.objs.size = s.heap.objs.size + 2 → (∀ b o, s.heap.get? b = some o → g.get? b = some o) → Q (.ref (s.heap.objs.size + 1)) { s with heap := g }) :
    wpAny (model prog w) A (call (.type "enumerate") [.ref t]) Q E s := by
  refine callType_new F.called_enumerate (by decide) (F.typeCall_enumerate_1 _) (F.newCall_enumerate_1 _) (fun obj => F.args_object_init_2 obj _) F.entry_enumerate_new (meets_enumerate_tup t items) ⟨hT, ?_⟩
  generalize hI : ({ cls := .type "tuple_iterator", data := .fields #[.ref t, .int 0 0] } : Obj) = oI
  have hfr : oI.isFreed = false := by rw [← hI]; rfl
  have z : (s.heap.push oI).objs.size = s.heap.objs.size + 1 := Heap.size_push ..
  show _ ∧ _
  rw [z]
  generalize hE : ({ cls := .type "enumerate", data := .fields #[.none, .bool false, .ref s.heap.objs.size, rawInt 0, .none, .none] } : Obj) = oE
  have hfe : oE.isFreed = false := by rw [← hE]; rfl
  have e1 : ((s.heap.push oI).push oE).get? (s.heap.objs.size + 1) = some oE := by
    have := Heap.get?_push_size (s.heap.push oI) (o := oE) hfe
    rw [z] at this
    exact this
  have e2 : ((s.heap.push oI).push oE).get? s.heap.objs.size = some oI := Heap.get?_push_of_some _ (Heap.get?_push_size _ hfr)
  refine ⟨⟨_, e1, by rw [← hE]⟩, h _ (e1.trans (congrArg some hE.symm)) ⟨_, e2, by rw [← hI], by rw [← hI]; rfl⟩ (by rw [Heap.size_push, z]) fun b o y => Heap.get?_push_of_some _ (Heap.get?_push_of_some _ y)⟩
/-- the tuple at a, each item in a new pair with its place -/
def Itet (K : PySem.W.Frag) (a : Addr) : It where
  go := fun i H => ∃ (xs : List V) (x : V), SqT K H a xs ∧ xs[i]? = some x
  yld := fun i H v H' => ∃ T x, v = .ref T ∧ H T = none ∧ H' = upd H T (.tup [.int (i : Nat), x]) ∧ ∀ xs, SqT K H a xs → xs[i]? = some x
  stop := fun i H => ∃ xs : List V, SqT K H a xs ∧ xs.length = i
theorem turn_enum_tup {P : Program} {w : World} {K : PySem.W.Frag} {elts : List Expr} {kk : Nat} {tpos : Pos} (a e it : Addr) :
    Turn P w K (.Tuple elts kk tpos) (Itet K a) [e, it] e (fun i h => (∃ old, IsEnum h e it ((i : Nat) : Int) old) ∧ h.IsTupleIter it a i ∧ e ≠ it) where
  mem := by simp
  obj := fun i h st b hb => by
    obtain ⟨⟨old, he⟩, ⟨o, ho, hc, hd⟩, _⟩ := st
    rcases (by simpa using hb : b = e ∨ b = it) with rfl | rfl
    · exact ⟨_, he, fun v q => nomatch q⟩
    · exact ⟨o, ho, fun v q => by rw [hd] at q; cases q⟩
  keep := fun i h h' st k => by
    obtain ⟨⟨old, he⟩, ⟨o, ho, hr⟩, hne⟩ := st
    exact ⟨⟨old, k e (by simp) _ he⟩, ⟨o, k it (by simp) o ho, hr⟩, hne⟩
  item := by
    intro X hP hw hK hc i pins s σ H E I hf st hg
    subst hP hw hK
    obtain ⟨⟨old, he⟩, hit, hne⟩ := st
    obtain ⟨xs, x, hq, hx⟩ := hg
    obtain ⟨its, rv, p, hz⟩ := I.tuple hq
    obtain ⟨u, hu, ru⟩ := rv.get hx
    have p' : s.heap.IsTuple a its.toArray := p
    obtain ⟨oa, hoa, hca, na, hda⟩ := id p'
    have hel : e < s.heap.objs.size := Heap.lt_size he
    have hil : it < s.heap.objs.size := by obtain ⟨_, q, _⟩ := hit; exact Heap.lt_size q
    have nea : e ≠ a := fun z => by
      rw [← z, he] at hoa
      cases hoa
      cases hda
    have nia : a ≠ it := fun z => by
      obtain ⟨oi, hoi, _, hdi⟩ := hit
      rw [z, hoi] at hoa
      cases hoa
      rw [hdi] at hda
      cases hda
    have hsz : i < its.toArray.size := by
      have := (List.getElem?_eq_some_iff.mp hu).1
      simpa using this
    refine wpAny_pyNext_enum_itemD (Draws.tuple (A := X.A.in1) (I.ok.hd hc) it a nia its.toArray) he ⟨hit, p'⟩ hsz hne (by simp [hne, nea]) fun y h' tk hy ho hst hT hs2 hk => ?_
    have hyu : y = u := by
      have hy' : its.toArray[i]? = some y := hy
      rw [List.getElem?_toArray, hu] at hy'
      exact (Option.some.inj hy').symm
    subst hyu
    refine ⟨_, rfl, wpAny_letOwnedTupleGo_enum (s := { s with heap := h', toks := tk + 1 }) ho fun h'' he' sb => ?_⟩
    have hT2 : h''.get? s.heap.objs.size = some { cls := .type "tuple", data := .seq #[.int i tk, y] } := (sb.2 _ (Nat.ne_of_gt hel)).trans hT
    have new : ObjOk X.prog X.w (upd H s.heap.objs.size (.tup [.int (i : Nat), x])) h'' s.heap.objs.size (.tup [.int (i : Nat), x]) :=
      ⟨by show 2 ≤ sizeLine; decide, [.int i tk, y], .cons ⟨_, rfl⟩ (.cons ru .nil), ⟨_, hT2, rfl, _, rfl⟩⟩
    have I1 : Inv X pins σ (upd H s.heap.objs.size (.tup [.int (i : Nat), x])) { s with heap := h'', toks := tk + 1 } :=
      I.turnedNew (ch := [e, it]) (fun b ob hb q => (sb.2 b (fun z => hb (by simp [z]))).trans (hk b ob (fun z => hb (by simp [z])) (fun z => hb (by simp [z])) q)) hf (Nat.le_refl _) new
    refine ⟨.ref s.heap.objs.size, _, I1, rfl, ⟨_, x, rfl, I.hok.fresh (Nat.le_refl _), rfl, fun ys hy => by rw [I.tuple_inj hy hq]; exact hx⟩, ⟨⟨y, ?_⟩, ?_, hne⟩, fun b hb => ?_⟩
    · rw [show ((i + 1 : Nat) : Int) = (i : Int) + 1 by omega]
      exact he'
    · obtain ⟨o2, ho2, hr2⟩ := hst.1
      exact ⟨o2, (sb.2 it (Ne.symm hne)).trans ho2, hr2⟩
    · have hb' : b < s.heap.objs.size := by
        rcases (by simpa using hb : b = e ∨ b = it) with rfl | rfl
        · exact hel
        · exact hil
      rw [upd_ne (Nat.ne_of_lt hb')]
      exact (hf b hb).1
  done := by
    intro X hP hw hK hc i pins s σ H E I hf st hg
    subst hP hw hK
    obtain ⟨⟨old, he⟩, hit, hne⟩ := st
    obtain ⟨xs, hq, hx⟩ := hg
    obtain ⟨its, rv, p, hz⟩ := I.tuple hq
    have p' : s.heap.IsTuple a its.toArray := p
    obtain ⟨oa, hoa, hca, na, hda⟩ := id p'
    have nia : a ≠ it := fun z => by
      obtain ⟨oi, hoi, _, hdi⟩ := hit
      rw [z, hoi] at hoa
      cases hoa
      rw [hdi] at hda
      cases hda
    obtain ⟨f0, f1, f2, f3, f4, f5⟩ := hf it (by simp)
    have hi : i = its.toArray.size := by
      rw [List.size_toArray, ← rv.length]
      exact hx.symm
    subst hi
    exact wpAny_pyNext_enum_endD (Draws.tuple (A := X.A.in1) (I.ok.hd hc) it a nia its.toArray) he ⟨hit, p'⟩ fun h' eb => ⟨rfl, I.turned (t' := s.toks) (fun b o hb q => eb b o hb q) f0 f1 f3 f4 f5⟩
  self := fun A i s Q E st h => let ⟨⟨_, he⟩, _⟩ := st; wpAny_pyIter_enum he h
def iEnumT (K : PySem.W.Frag) (ta : TA) : TI := fun σ H R => ta σ H fun vs H1 => ∃ a xs, vs = [.ref a] ∧ SqT K H1 a xs ∧ R (Itet K a) H1
theorem pi_enum_tup {X : Cx} {e : Expr} {ta : TA} {p pos tpos : Pos} {elts : List Expr} {kk : Nat} (hg : Gl X "enumerate") (hm : X.mg "enumerate" = none) (ha : PA X [e] ta) (hs : starEach [e] X.env = [(false, eval e X.env)] := by rfl) :
    PI X (.Tuple elts kk tpos) (.Call (.Name "enumerate" p) [e] [] pos) (iEnumT X.K ta) := by
  refine ⟨fun pins s σ H R I h => Call_ (ld_blt I hg hm boot_enumerate (PyProof.Rows.callWith_type1 (thn (ha.run pos pins s σ H _ I h) fun us s1 ⟨vs, H1, I1, r1, a, xs, ex, hq, q⟩ => ?_) hs rfl))⟩
  subst ex
  obtain rfl := Vals.ref1 r1
  obtain ⟨its, rv, p', hz⟩ := I1.tuple hq
  refine call_enumerate_tup (show s1.heap.IsTuple a its.toArray from p') fun h' he hit hsz hk => wpAny_pyIter_enum he ?_
  have I2 : Inv X pins σ H1 { s1 with heap := h' } := I1.kept (t' := s1.toks) hk
  refine ⟨s1.heap.objs.size + 1, [s1.heap.objs.size + 1, s1.heap.objs.size], _, _, H1, rfl, I2, turn_enum_tup a (s1.heap.objs.size + 1) s1.heap.objs.size, ⟨⟨.none, he⟩, hit, Nat.succ_ne_self _⟩, fun b hb => ?_, q⟩
  have hle : s1.heap.objs.size ≤ b := by
    rcases (by simpa using hb : b = s1.heap.objs.size + 1 ∨ b = s1.heap.objs.size) with rfl | rfl
    · exact Nat.le_add_right _ _
    · exact Nat.le_refl _
  exact I1.fpOk hle (I1.hok.fresh hle)
theorem walk_enum_tup {K : PySem.W.Frag} {a : Addr} {xs : List V} : Walk (Itet K a) xs.length (fun H => SqT K H a xs) (YPair (fun i => some (.int (i : Nat))) (fun i => xs[i]?)) := by
  refine ⟨fun i _ hi q => ⟨xs, xs[i], q, by simp [hi]⟩, fun _ q => ⟨xs, q, rfl⟩, fun i H v H' _ q y => ?_⟩
  obtain ⟨T, x, h1, h2, h3, h4⟩ := y
  exact ⟨T, .int (i : Nat), x, h1, h2, h3, rfl, h4 xs q⟩
end L2
end
section
/-! Rules 2: try .. except X as n: a suite that raises -/
namespace L2
open PySem PySem.Spec PyProof.Rows
section
variable {X : Cx} {pins : List (Addr × Obj)} {σ : St} {H : Hp} {s : Shared}
/-- a local name has gone -/
theorem Inv.nameGone {G : Heap} {i : Nat} {n : Str} {m : Str → Option Value} {v : Option Value} {t : Nat} (I : Inv X pins σ H s) (hN : X.N.Nodup) (hi : X.N[i]? = some n) (hm : ∀ (j : Nat) (y : Str) (z : V), X.N[j]? = some y → σ[j]? = some (some z) → Vis X.env.scope y → ∃ u, RelV z u ∧ Look X.env s.heap m y u)
    (hg : ∀ b, b ≠ X.env.locals → G.get? b = s.heap.get? b) (hn : G.Ns X.env.locals (fun y => if y = n then v else m y)) : Inv X pins (σ.set i none) H { s with heap := G, toks := t } := by
  obtain ⟨oG, _, _, hoG, _⟩ := id hn
  have old : ∀ b o, X.s_0.heap.get? b = some o → G.get? b = s.heap.get? b := fun b o e => hg b (Nat.ne_of_lt (Nat.lt_of_lt_of_le (Heap.lt_size e) I.ok.above))
  refine ⟨I.ok, I.os, I.bare, ⟨fun b o e q hb hx => (old b o e).trans (I.base.keep b o e q hb hx), fun b o e q hb hx => ?_, I.base.free, fun b o e hx => ?_, I.base.tups, I.base.frzs, I.base.tbls⟩, ⟨_, hn, fun j y z e1 e2 e3 => ?_⟩, fun y c e => ?_, I.free, I.freeC, fun p hp => ?_, fun b u e => ?_, by simpa using I.len⟩
  · obtain ⟨sl, q2⟩ := I.base.slot b o e q hb hx
    exact ⟨sl, (old b o e).trans q2⟩
  · obtain ⟨o', q2⟩ := I.base.there b o e hx
    exact ⟨o', (old b o e).trans q2⟩
  · have hj : j ≠ i := fun q => by
      subst q
      by_cases hlt : j < σ.length
      · rw [List.getElem?_set_self hlt] at e2
        cases e2
      · rw [List.getElem?_eq_none (by simpa using hlt)] at e2
        cases e2
    rw [List.getElem?_set_ne (Ne.symm hj)] at e2
    obtain ⟨u, r, l⟩ := hm j y z e1 e2 e3
    refine ⟨u, r, ?_⟩
    rcases l with ⟨k, q⟩ | ⟨k, c, q, o, ho, hd⟩
    · by_cases hy : y = n
      · exact absurd (nodup_ix hN (hy ▸ e1) hi) hj
      · exact .inl ⟨k, (if_neg hy).trans q⟩
    · exact .inr ⟨k, c, q, o, (hg c (I.cne y c q)).trans ho, hd⟩
  · obtain ⟨u, o, ho, hd⟩ := I.cell y c e
    exact ⟨u, o, (hg c (I.cne y c e)).trans ho, hd⟩
  · obtain ⟨e, q, ne, nf, d⟩ := I.pin p hp
    exact ⟨(hg p.1 ne).trans e, q, ne, nf, d⟩
  · refine (I.hok b u e).stay (fun c o hc q => (hg c ?_).trans q) (fun _ q => q) fun _ _ q => q
    intro z
    rcases hc with hc | hc
    · rw [hc] at z
      rw [z, I.free] at e
      cases e
    · rw [z, I.free] at hc
      cases hc
end
section
variable {X : Cx} {x n : Str} {c : Value} {i : Nat} {body suite : List Stmt} {b₀ : Stmt} {np pos pos' : Pos} {tb : WX → TS} {ts : Addr → Value → Option Addr → TS} {Eo : XK}
/-- an exception that the suite lets out: the name goes, it flies on from the def's own hand -/
theorem suite_lets_out (hs : X.stack = X.env :: X.outer) (hf : X.env.frame = some X.env.locals) (hN : X.N.Nodup) (hi : X.N[i]? = some n) (hln : X.env.kindOf n = some .local)
    (hpa : ∀ hd : Option Value, PassesOwnAt (model X.prog X.w) (X.A.mark hd) X.A X.env X.xe) (tk : L2.Takes X fun cls d _ H => Eo cls d H) (ok : X.Ok) {a0 : Addr} {q0 : Addr × Obj} {pins0 : List (Addr × Obj)} {xe' : Value → Shared → Prop} {u : Value} {s : Shared}
    (h : L2.XE ((L2H.suiteX X a0 (q0 :: (X.pn ++ pins0))).wish xe') (fun cls d _ H => Eo cls d H) u s) :
    AsSuiteRaised (model X.prog X.w) (X.A.mark (some (.ref a0))) X.env n pos (notedBy (model X.prog X.w) (X.A.mark (some (.ref a0))) X.env (cameBackBy (model X.prog X.w) X.A X.env X.xe)) u s := by
  obtain ⟨a, B, sI, pins, σ, H, cls, d, rfl, I, nb, up, sky, na, os, ag, wish⟩ := h
  have J0 : Inv X pins0 σ H sI := L2H.unsuiteX (X := X) (pins := pins0) (a := a0) (q := q0) I.unwish ok
  have hfr : (X.A.mark (some (.ref a0))).frames = some (X.env :: X.outer) := ok.frames.trans (by rw [hs])
  have hcls : (X.env.scope.kind == .class || (X.env.scope.kind == .module && X.env.locals != X.env.globals)) = false := by rw [ok.kind]; rfl
  have fin : ∀ g1 : Heap, HandSPX.HeldZ B (X.env :: X.outer) a (Zc cls d) X.env.locals g1 → s.heap.UpToSlots g1 →
      wpAny (model X.prog X.w) (X.A.mark (some (.ref a0))) (do bindName X.env n .none; unbindBehindTheSuite X.env n pos)
        (fun _ s2 => wpAny (model X.prog X.w) (X.A.mark (some (.ref a0))) (passOn "try.except-as" (.ref a) X.env : Sem Flow) (fun _ _ => False) (notedBy (model X.prog X.w) (X.A.mark (some (.ref a0))) X.env (cameBackBy (model X.prog X.w) X.A X.env X.xe)) s2)
        (fun y s2 => wpAny (model X.prog X.w) (X.A.mark (some (.ref a0))) (setFlight (.ref a) none) (fun _ s3 => notedBy (model X.prog X.w) (X.A.mark (some (.ref a0))) X.env (cameBackBy (model X.prog X.w) X.A X.env X.xe) y s3)
          (notedBy (model X.prog X.w) (X.A.mark (some (.ref a0))) X.env (cameBackBy (model X.prog X.w) X.A X.env X.xe)) s2) { s with heap := g1 } := by
    intro g1 hh up1
    obtain ⟨st1, hBa, ff1, oe, vs, T, oT, tv, he, hz, hd, h1, hnT, hTe, hT, hdT, h3⟩ := id hh
    obtain ⟨_, ⟨L0, oL, hfL, hBL, hoL, hdL⟩, _⟩ := id ff1
    obtain rfl : X.env.locals = L0 := by
      rw [hf] at hfL
      exact Option.some.inj hfL
    -- the ground with the frames: what stands of it
    obtain ⟨G1, gA, gN⟩ := restrict g1 fun b => (B.get? b).isSome || decide (b ∈ frs X.stack)
    have inB : ∀ b o, B.get? b = some o → G1.get? b = some o := fun b o e => (gA b (by simp [e])).trans (st1 b o e)
    have inF : ∀ b, b ∈ frs X.stack → G1.get? b = g1.get? b := fun b hb => gA b (by simp [hb])
    have out1 : ∀ b o, G1.get? b = some o → g1.get? b = some o := fun b o e => by
      cases q : ((B.get? b).isSome || decide (b ∈ frs X.stack)) with
      | false => rw [gN b q] at e; cases e
      | true => rw [gA b q] at e; exact e
    have upG : sI.heap.UpToSlots G1 := fun b o e hnf => by
      by_cases hb : b ∈ frs X.stack
      · rw [inF b hb]
        exact (up.trans up1) b o e hnf
      · exact ⟨o.slots, inB b o (nb b o e hb)⟩
    have J1 : Inv X pins0 σ H { sI with heap := G1, gens := s.gens, drawn := s.drawn, toks := s.toks } := J0.landed (s' := { sI with heap := G1, gens := s.gens, drawn := s.drawn, toks := s.toks }) nb inB upG rfl ag
    have hLF : X.env.locals ∈ frs X.stack := by
      rw [hs]
      exact List.mem_filterMap.mpr ⟨X.env, List.mem_cons_self, hf⟩
    obtain ⟨m, hn1, hl1⟩ := J1.loc
    have hnG : g1.Ns X.env.locals m := by
      obtain ⟨o, es, ep, ho, r⟩ := hn1
      exact ⟨o, es, ep, out1 _ _ ho, r⟩
    refine wpAny_nameGoes_keeps hln hnG hcls fun g2 v hn2 hs2 => ?_
    have naL : a ≠ X.env.locals := fun z => by
      rw [z, hoL] at he
      cases he
      exact hdL _ hd
    have nTL : T ≠ X.env.locals := fun z => by
      rw [z, hoL] at hT
      cases hT
      exact hdL _ hdT
    have st2 : B.StaysIn g2 := fun b o e => (hs2.2 b fun z => by rw [z, hBL] at e; cases e).trans (st1 b o e)
    have ff2 : g2.FunFrames B (X.env :: X.outer) := Heap.FunFrames.sameBut hs2 hn2 ff1
    have he2 : g2.get? a = some oe := (hs2.2 a naL).trans he
    have tr2 : HandSPX.TracedZ g2 B a (Zc cls d) (rawInt X.env.locals) := ⟨oe, vs, T, oT, tv, he2, hz, hd, h1, hnT, hTe, (hs2.2 T nTL).trans hT, hdT, h3⟩
    unfold PySem.passOn
    refine wpAny_bind (wpAny_field he2 hd h1 ?_)
    rw [if_neg (show ¬ ((Value.ref T == Value.none) = true) from by simp), hf]
    have last : ∀ g3 : Heap, HandSPX.HeldZ B (X.env :: X.outer) a (Zc cls d) X.env.locals g3 → g2.UpToSlots g3 → notedBy (model X.prog X.w) (X.A.mark (some (.ref a0))) X.env (cameBackBy (model X.prog X.w) X.A X.env X.xe) (.ref a) { s with heap := g3, toks := s.toks + 1 } := by
      intro g3 hh3 up3
      refine hpa _ _ _ (tk _ _ ?_)
      obtain ⟨G2, kA, kN⟩ := restrict g2 fun b => (B.get? b).isSome || decide (b ∈ frs X.stack)
      have eG : ∀ b, b ≠ X.env.locals → G2.get? b = G1.get? b := fun b hb => by
        cases q : ((B.get? b).isSome || decide (b ∈ frs X.stack)) with
        | false => rw [gN b q, kN b q]
        | true => rw [gA b q, kA b q, hs2.2 b hb]
      have nG2 : G2.Ns X.env.locals (fun y => if y = n then v else m y) := by
        obtain ⟨o, es, ep, ho, r⟩ := hn2
        exact ⟨o, es, ep, (kA _ (by simp [hLF])).trans ho, r⟩
      have J2 := J1.nameGone (t := s.toks) hN hi hl1 eG nG2
      refine ⟨a, B, _, pins0, _, H, cls, d, rfl, J2, fun b o e hb => ?_, fun b o e hnf => ?_, .inr (.inr (by rw [hs]; exact hh3)), na, os, ag, wish⟩
      · have e' : G2.get? b = some o := e
        cases q : B.get? b with
        | none =>
          have : ((B.get? b).isSome || decide (b ∈ frs X.stack)) = false := by simp [q, hb]
          rw [kN b this] at e'
          cases e'
        | some o2 =>
          rw [kA b (by simp [q]), st2 b o2 q] at e'
          exact e'
      · have e' : G2.get? b = some o := e
        refine up3 b o ?_ hnf
        cases q : ((B.get? b).isSome || decide (b ∈ frs X.stack)) with
        | false => rw [kN b q] at e'; cases e'
        | true => rw [kA b q] at e'; exact e'
    have fin2 : wpAny (model X.prog X.w) (X.A.mark (some (.ref a0))) (setFlight (.ref a) (some X.env.locals)) (fun _ s4 => wpAny (model X.prog X.w) (X.A.mark (some (.ref a0))) (throw (.ref a) : Sem Flow) (fun _ _ => False)
        (notedBy (model X.prog X.w) (X.A.mark (some (.ref a0))) X.env (cameBackBy (model X.prog X.w) X.A X.env X.xe)) s4) (notedBy (model X.prog X.w) (X.A.mark (some (.ref a0))) X.env (cameBackBy (model X.prog X.w) X.A X.env X.xe)) { s with heap := g2, toks := s.toks + 1 } :=
      HandSPX.setFlight_onZ ⟨st2, hBa, ff2, tr2⟩ fun g3 hh3 up3 => wpAny_throw (last g3 hh3 up3)
    first
    | exact wpAny_bind fin2
    | exact wpAny_bind (wpAny_pure (wpAny_bind fin2))
  have sky' : Sky B (X.env :: X.outer) a (Zc cls d) X.env.locals s.heap := by
    rw [← hs]
    exact sky
  rcases sky' with ⟨hB, hn, hl, oe, vs, he, hz, hd, h1⟩ | fl | hh
  · exact HandSPX.look_newZ Zc.steady hfr hl hf he hB hn hd h1 hz fin
  · exact HandSPX.looks_onZ Zc.steady hfr hf fl fin
  · exact HandSPX.againZ hf hh.2.2.2 (fin s.heap hh (Heap.UpToSlots.refl _))
/-- what the clause wishes of an exception of the body: it is the clause's, and the suite raises -/
def wAsR (K : PySem.W.Frag) (c : Value) (i : Nat) (ts : Addr → Value → Option Addr → TS) : WX := fun cls d σ H =>
  PySem.W.exmOne K cls c = some true ∧ ∀ a, H a = none → ts a cls d { nx := fun _ _ => False, rt := fun _ _ => False } (σ.set i (some (.ref a))) H
/-- try: body except x as n: suite, where the suite raises -/
theorem ps_try_asR (hs : X.stack = X.env :: X.outer) (hf : X.env.frame = some X.env.locals) (hN : X.N.Nodup) (hi : X.N[i]? = some n) (hln : X.env.kindOf n = some .local) (hc : Names X x c)
    (hpa : ∀ hd : Option Value, PassesOwnAt (model X.prog X.w) (X.A.mark hd) X.A X.env X.xe) (tk : L2.Takes X fun cls d _ H => Eo cls d H)
    (hb : ∀ (W : WX) (pn : List (Addr × Obj)) (xe : Value → Shared → Prop), L2N.Takes (X.tr pn xe) W → PassesOwn (model X.prog X.w) X.A X.env xe → PSs (X.tr pn xe) body (tb W))
    (hsu : ∀ (a : Addr) (oe : Obj) (cls : Value) (d : Option Addr) (pn : List (Addr × Obj)) (xe : Value → Shared → Prop), L2.Takes ((L2H.suiteX X a ((a, oe) :: pn)).wish xe) (fun cls d _ H => Eo cls d H) → L2H.HotC ((L2H.suiteX X a ((a, oe) :: pn)).wish xe) →
      PSs ((L2H.suiteX X a ((a, oe) :: pn)).wish xe) (b₀ :: suite) (ts a cls d)) :
    PS X (.Try body [.ExceptHandler (some (.Name x np)) (some n) (b₀ :: suite) pos'] [] [] pos) (fun D σ H => tb (wAsR X.K c i ts) D σ H) := by
  refine ⟨fun pins s σ H D I h => ?_⟩
  have ok := I.ok
  have hfr : X.A.frames = some (X.env :: X.outer) := by rw [ok.frames, hs]
  refine wpAny_Try_except ?_
  refine wpAny_mono ((hb (wAsR X.K c i ts) (X.pn ++ pins) (fun e s1 => wpAny (model X.prog X.w) X.A (noteFrame e X.env) (fun _ s2 => wpAny (model X.prog X.w) X.A (setFlight e none)
    (fun _ s3 => wpAny (model X.prog X.w) X.A (handleBy e X.env [.ExceptHandler (some (.Name x np)) (some n) (b₀ :: suite) pos']) (SP X pins D) X.xe s3) X.xe s2) X.xe s1) (fun u s' xx => ?_) PassesOwn.looking).run [] s σ H D (I.toTry _) h) (fun f s1 hsp => ?_) (fun e s1 he => he)
  · obtain ⟨a, B, sI, pins1, σ1, H1, cls, d, rfl, J', nb, up, sky, na, os, ag, hm, hyes⟩ := xx
    have J : Inv X pins σ1 H1 sI := J'.ofTry ok
    have skyX : Sky B (X.env :: X.outer) a (L2N.Zn cls d) X.env.locals s'.heap := by
      rw [← hs]
      exact sky
    show wpAny (model X.prog X.w) X.A (noteFrame (.ref a) X.env) _ _ _
    refine L2N.Sky.land L2N.Zn.steady hfr hf skyX fun g3 fl3 up3 => ?_
    have J3 : Inv X pins σ1 H1 { s' with heap := g3 } := J.landed nb fl3.1 (up.trans up3) os ag
    obtain ⟨oe3, vs3, he3, hz3, hd3⟩ := fl3.there
    have nfr : a ∉ frs (X.env :: X.outer) := fun hmem => by
      obtain ⟨_, o2, e2, hnf⟩ := fl3.2.2.1.mem hmem
      rw [he3] at e2
      cases e2
      exact hnf _ hd3
    have nL : a ≠ X.env.locals := fun z => nfr (List.mem_filterMap.mpr ⟨X.env, List.mem_cons_self, by rw [hf, z]⟩)
    have nF : a ∉ X.fs := fun hmem => by
      obtain ⟨e2, h2, q⟩ := List.mem_filterMap.mp hmem
      exact nfr (List.mem_filterMap.mpr ⟨e2, List.mem_cons_of_mem _ h2, q⟩)
    have S3 := J3.suite he3 hd3 na nL nF
    refine wpAny_handleBy_cons (codeAny_handlers_test ?_) (by intro q; cases q)
    have LT : PySem.W.Looks (model X.prog X.w) g3 (typeOf (.ref a)) cls := fun A2 Q2 E2 s2 k q => wpAny_typeOf_ref (k _ _ he3) (by rw [hz3.1]; exact q)
    have LM := PySem.W.exm_one (M := model X.prog X.w) J3.kIn LT hm
    have test : ∀ {Q2 E2 : Value → Shared → Prop}, Q2 c { s' with heap := g3 } → wpAny (model X.prog X.w) (X.A.mark (some (.ref a))) (eval (.Name x np) X.env) Q2 E2 { s' with heap := g3 } := fun {Q2 E2} q => by
      obtain ⟨k1, k2, k3 | ⟨k3, k4, k5⟩⟩ := hc
      · exact ld_glob (X := X.suite a ((a, oe3) :: (X.pn ++ pins))) S3 k1 k3 q k2
      · exact ld_blt (X := X.suite a ((a, oe3) :: (X.pn ++ pins))) S3 k1 k3 k4 q k5 k2
    refine test (LM.here ?_)
    refine codeAny_handlers_suite_as ?_
    refine HandSPX.lands_againZ fl3 fun g4 fl4 up4 => ?_
    have J4 : Inv X pins σ1 H1 { s' with heap := g4 } := J.landed nb fl4.1 ((up.trans up3).trans up4) os ag
    obtain ⟨oe4, vs4, he4, hz4, hd4⟩ := fl4.there
    have S4 := J4.suite he4 hd4 na nL nF
    refine store_ok (X := X.suite a ((a, oe4) :: (X.pn ++ pins))) (v := .ref a) S4 hN hi (.inl hln) rfl (fun s5 S5 => ?_) (.inr hln)
    have hot : ∀ xe, L2H.HotC ((L2H.suiteX X a ((a, oe4) :: (X.pn ++ pins))).wish xe) := fun xe => ⟨(a, oe4), ⟨rfl, vs4, hd4, hz4.2.2 vs4 hd4⟩, List.mem_cons_self⟩
    have go := (hsu a oe4 cls d (X.pn ++ pins) (AsSuiteRaised (model X.prog X.w) (X.A.mark (some (.ref a))) X.env n pos' (notedBy (model X.prog X.w) (X.A.mark (some (.ref a))) X.env (cameBackBy (model X.prog X.w) X.A X.env X.xe)))
      (fun u2 s2 x2 => suite_lets_out hs hf hN hi hln hpa tk ok x2) (hot _)).run [] s5 _ H1 _ ((L2H.suiteX_of S5).wish _) (hyes a na)
    refine wpAny_mono go (fun f s6 hsp => ?_) (fun u6 s6 z => z)
    cases f with
    | next =>
      obtain ⟨_, _, _, q⟩ := hsp
      exact q.elim
    | brk =>
      obtain ⟨_, _, _, q⟩ := hsp
      exact q.elim
    | cont =>
      obtain ⟨_, _, _, q⟩ := hsp
      exact q.elim
    | ret u6 =>
      obtain ⟨_, _, _, _, _, q⟩ := hsp
      exact q.elim
  · cases f with
    | next =>
      obtain ⟨σ2, H2, J2, q⟩ := hsp
      exact wpAny_execs_nil ⟨σ2, H2, J2.ofTry ok, q⟩
    | brk =>
      obtain ⟨σ2, H2, J2, q⟩ := hsp
      exact ⟨σ2, H2, J2.ofTry ok, q⟩
    | cont =>
      obtain ⟨σ2, H2, J2, q⟩ := hsp
      exact ⟨σ2, H2, J2.ofTry ok, q⟩
    | ret u2 =>
      obtain ⟨v, σ2, H2, J2, r, q⟩ := hsp
      exact ⟨v, σ2, H2, J2.ofTry ok, r, q⟩
end
end L2
end
section
/-! Rules 3: a dict whose keys are pairs of tuples of numbers, its values True -/
namespace L2
open PySem PySem.Spec PyProof.Rows Sb
abbrev NK := List Nat × List Nat
def nums (l : List Nat) : List NestedKey := l.map fun (n : Nat) => NestedKey.num (n : Int)
def nkey (k : NK) : NestedKey := .tup [.tup (nums k.1), .tup (nums k.2)]
theorem nums_inj : ∀ {a b : List Nat}, nums a = nums b → a = b
  | [], [], _ => rfl
  | [], _ :: _, h => by cases h
  | _ :: _, [], h => by cases h
  | x :: a, y :: b, h => by
    have h' : NestedKey.num (x : Int) :: nums a = NestedKey.num (y : Int) :: nums b := h
    obtain ⟨h1, h2⟩ := List.cons.inj h'
    have h3 : (x : Int) = (y : Int) := NestedKey.num.inj h1
    rw [nums_inj h2, show x = y by omega]
theorem nkey_inj {a b : NK} (h : nkey a = nkey b) : a = b := by
  have h1 := NestedKey.tup.inj h
  obtain ⟨h2, h3⟩ := List.cons.inj h1
  obtain ⟨h4, _⟩ := List.cons.inj h3
  exact Prod.ext (nums_inj (NestedKey.tup.inj h2)) (nums_inj (NestedKey.tup.inj h4))
/-- at b the key's tuple -/
def KeyAt (H : Hp) (b : Addr) (k : NK) : Prop := ∃ s1 s2, H b = some (.tup [.ref s1, .ref s2]) ∧ H s1 = some (.tup (nv k.1)) ∧ H s2 = some (.tup (nv k.2))
theorem KeyAt.same {H H' : Hp} {b : Addr} {k : NK} (h : KeyAt H b k) (s : Same H H') : KeyAt H' b k := by
  obtain ⟨s1, s2, h1, h2, h3⟩ := h
  exact ⟨s1, s2, s _ _ h1, s _ _ h2, s _ _ h3⟩
abbrev NE := NestedKey × Addr × Value
/-- the dict's own object -/
def ndO (P : Program) (w : World) (d : Addr) (xs : List NE) : HO := .ext fun h => ∃ o es ep, h.get? d = some o ∧ o.ExactDict ∧ o.data = .dict es ep ∧ es.toList = xs.map (entryOfKey (nestedKind P w))
def NEOk (H : Hp) (k : NK) (x : NE) : Prop := x.1 = nkey k ∧ KeyAt H x.2.1 k ∧ x.2.2 = Value.bool true
/-- at d a dict with the keys ks -/
def ND (P : Program) (w : World) (H : Hp) (d : Addr) (ks : List NK) : Prop := ∃ xs, H d = some (ndO P w d xs) ∧ Paired (NEOk H) ks xs ∧ ks.Nodup ∧ (d == sysModules) = false ∧ ks.length ≤ sizeLine
theorem ND.same {P : Program} {w : World} {H H' : Hp} {d : Addr} {ks : List NK} (h : ND P w H d ks) (s : Same H H') : ND P w H' d ks := by
  obtain ⟨xs, h1, h2, h3⟩ := h
  exact ⟨xs, s _ _ h1, Paired.mapP h2 fun _ _ q => ⟨q.1, q.2.1.same s, q.2.2⟩, h3⟩
theorem all_nums {h : Heap} : ∀ {l : List Nat} {us : List Value}, Vals (nv l) us → NestedAll h (nums l) us
  | [], us, r => by
    have r' : Vals [] us := r
    cases r'
    exact .nil
  | x :: l, us, r => by
    have r' : Vals (V.int (x : Int) :: nv l) us := r
    cases r' with
    | cons r1 r2 =>
      obtain ⟨t, rfl⟩ := r1
      exact .cons (.int _ _) (all_nums r2)
theorem depth_nums : ∀ l : List Nat, NestedKey.depthAll (nums l) = 0
  | [] => rfl
  | x :: l => by
    show max (NestedKey.depth (.num (x : Int))) (NestedKey.depthAll (nums l)) = 0
    rw [depth_nums l]
    rfl
theorem key_is {P : Program} {w : World} {H : Hp} {h : Heap} {b : Addr} {k : NK} (ok : HOk P w H h) (hk : KeyAt H b k) : (nestedKind P w).is h (nkey k) b := by
  obtain ⟨s1, s2, h1, h2, h3⟩ := hk
  obtain ⟨_, i0, r0, o0, g0, c0, n0, d0⟩ := (show ObjOk P w H h b (.tup [.ref s1, .ref s2]) from ok b _ h1)
  obtain ⟨_, i1, r1, o1, g1, c1, n1, d1⟩ := (show ObjOk P w H h s1 (.tup (nv k.1)) from ok s1 _ h2)
  obtain ⟨_, i2, r2, o2, g2, c2, n2, d2⟩ := (show ObjOk P w H h s2 (.tup (nv k.2)) from ok s2 _ h3)
  have e0 : i0 = [Value.ref s1, Value.ref s2] := by
    cases r0 with
    | cons ra rb =>
      cases rb with
      | cons rc rd =>
        cases rd
        cases ra
        cases rc
        rfl
  subst e0
  refine ⟨NestedIs.tup g0 c0 d0 (.cons (NestedIs.tup g1 c1 d1 (all_nums r1)) (.cons (NestedIs.tup g2 c2 d2 (all_nums r2)) .nil)), ?_⟩
  have e1 := depth_nums k.1
  have e2 := depth_nums k.2
  show NestedKey.depth (nkey k) ≤ 8
  unfold nkey
  simp only [NestedKey.depth, NestedKey.depthAll, e1, e2]
  decide
section
variable {P : Program} {w : World} {H : Hp} {h : Heap} {d : Addr} {ks : List NK} {xs : List NE}
theorem nd_obj (ok : HOk P w H h) (e : H d = some (ndO P w d xs)) : ∃ o es ep, h.get? d = some o ∧ o.ExactDict ∧ o.data = .dict es ep ∧ es.toList = xs.map (entryOfKey (nestedKind P w)) := by
  have z : ObjOk P w H h d (.ext fun h => ∃ o es ep, h.get? d = some o ∧ o.ExactDict ∧ o.data = .dict es ep ∧ es.toList = xs.map (entryOfKey (nestedKind P w))) := ok d _ e
  exact z.1
theorem nd_mk (o : Obj) {es : Array DictEntry} {ep : Nat} (h1 : h.get? d = some o) (h2 : o.ExactDict) (h3 : o.data = .dict es ep) (h4 : es.toList = xs.map (entryOfKey (nestedKind P w))) : ObjOk P w H h d (ndO P w d xs) :=
  ⟨⟨o, es, ep, h1, h2, h3, h4⟩, ⟨o, h1⟩, fun g1 g2 q k => by
    obtain ⟨o', es', ep', k1, k2, k3, k4⟩ := q
    exact ⟨o', es', ep', k _ k1, k2, k3, k4⟩⟩
theorem ne_keys (p : Paired (NEOk H) ks xs) : xs.map (·.1) = ks.map nkey := by
  induction p with
  | nil => rfl
  | cons r _ ih => rw [List.map_cons, List.map_cons, ih, r.1]
theorem nkey_nodup : ∀ {ks : List NK}, ks.Nodup → (ks.map nkey).Nodup
  | [], _ => List.nodup_nil
  | k :: ks, h => by
    rw [List.nodup_cons] at h
    rw [List.map_cons, List.nodup_cons]
    refine ⟨fun hm => ?_, nkey_nodup h.2⟩
    obtain ⟨k', h1, h2⟩ := List.mem_map.mp hm
    rw [nkey_inj h2] at h1
    exact h.1 h1
theorem nd_dict (ok : HOk P w H h) (e : H d = some (ndO P w d xs)) (p : Paired (NEOk H) ks xs) (hn : ks.Nodup) : h.DictOfH (nestedKind P w) d xs := by
  obtain ⟨o, es, ep, h1, h2, h3, h4⟩ := nd_obj ok e
  refine ⟨o, es, ep, h1, h2, h3, h4, ?_, by rw [ne_keys p]; exact nkey_nodup hn⟩
  intro x hx
  clear h4 e
  induction p with
  | nil => cases hx
  | @cons k y _ _ r _ ih =>
    rcases List.mem_cons.mp hx with q | hx
    · rw [q, r.1]
      exact key_is ok r.2.1
    · exact ih (List.nodup_cons.mp hn).2 hx
theorem nd_at (k : NK) : ∀ {ks : List NK} {xs : List NE}, Paired (NEOk H) ks xs → (atKey xs (nkey k)).isSome = decide (k ∈ ks)
  | _, _, .nil => rfl
  | _, _, .cons (a := k0) (b := x0) r t => by
    have ih := nd_at k t
    unfold atKey at ih ⊢
    rw [List.find?_cons]
    by_cases e : k0 = k
    · subst e
      rw [decide_eq_true r.1]
      simp
    · have ne : ¬ x0.1 = nkey k := fun z => e (nkey_inj (r.1.symm.trans z))
      rw [decide_eq_false ne]
      simp only
      rw [ih]
      have ne' : ¬ k = k0 := fun z => e z.symm
      simp [ne']
end
section
variable {X : Cx} {e o i value : Expr} {te td ty tv : TE} {pos pos' : Pos}
/-- {}, to be such a dict -/
def tDNewN (P : Program) (w : World) : TE := fun _ H Q => ∀ p, H p = none → (p == sysModules) = false → Q (.ref p) (upd H p (ndO P w p []))
theorem pe_dnewN : PE X (.Dict [] [] pos) (tDNewN X.prog X.w) := ⟨fun pins s σ H Q I h => by
  have hb := I.big
  have hd : (s.heap.objs.size == sysModules) = false := beq_eq_false_iff_ne.mpr (Nat.ne_of_gt hb)
  refine wpAny_Dict_empty ⟨.ref s.heap.objs.size, _, I.laid (a := s.heap.objs.size) (o := ndO X.prog X.w s.heap.objs.size []) (t' := s.toks) (fun _ _ q => Heap.get?_push_of_some _ q) (Nat.le_refl _) ?_, rfl, h _ (I.hok.fresh (Nat.le_refl _)) hd⟩
  exact nd_mk _ (Heap.get?_push_size _ rfl) ⟨rfl, rfl, rfl⟩ rfl rfl⟩
theorem ND.new {P : Program} {w : World} {H : Hp} {p : Addr} (hd : (p == sysModules) = false) : ND P w (upd H p (ndO P w p [])) p [] := ⟨[], upd_same, .nil, List.nodup_nil, hd, Nat.zero_le _⟩
/-- k in d -/
def tNIn (P : Program) (w : World) (ty td : TE) : TE := fun σ H Q => ty σ H fun y H1 => td σ H1 fun x H2 => ∃ d b ks k, x = .ref d ∧ y = .ref b ∧ ND P w H2 d ks ∧ KeyAt H2 b k ∧ Q (.bl (decide (k ∈ ks))) H2
theorem pc_nin (hu : X.A.units + 64 < cLine) (hi : PE X i ty) (ho : PE X o td) : PC X .In i o (tNIn X.prog X.w ty td) := by
  refine ⟨fun pins s σ H Q I h => thn (hi.run pins s σ H _ I h) fun iv s1 ⟨y, H1, I1, ry, q1⟩ => thn (ho.run pins s1 σ H1 _ I1 q1) fun u s2 ⟨x, H2, I2, rx, d, b, ks, k, ex, ey, ⟨xs, e1, e2, e3, e4, e5⟩, hk, q2⟩ => ?_⟩
  subst ex
  subst ey
  obtain rfl : u = Value.ref d := rx
  obtain rfl : iv = Value.ref b := ry
  refine wpAny_in_heap (knd := nestedKind X.prog X.w) (by show X.A.units + 1 + 8 < cLine; omega) (key_is I2.hok hk) e4 (nd_dict I2.hok e1 e2 e3) ?_
  rw [nd_at k e2]
  exact ⟨.bl (decide (k ∈ ks)), H2, I2.tok _, rfl, q2⟩
/-- d[k] = True, k new -/
def sNPut (P : Program) (w : World) (td ty tv : TE) : TS := fun D σ H => tv σ H fun v H1 => td σ H1 fun x H2 => ty σ H2 fun y H3 => ∃ d b ks k, v = .bl true ∧ x = .ref d ∧ y = .ref b ∧ ND P w H3 d ks ∧ KeyAt H3 b k ∧ k ∉ ks ∧ ks.length < sizeLine ∧
  ∀ u, ND P w (upd H3 d u) d (ks ++ [k]) → D.nx σ (upd H3 d u)
theorem ps_nput (hu : X.A.units + 64 < cLine) (ho : PE X o td) (hi : PE X i ty) (hv : PE X value tv) (hs : swapsWith value (some (.Subscript o i pos')) pos.line X.env = pure false) :
    PS X (.Assign [.Subscript o i pos'] value pos) (sNPut X.prog X.w td ty tv) := by
  refine ⟨fun pins s σ H D I h => wpAny_Assign_Subscript (thn (hv.run pins s σ H _ I h) fun r s1 ⟨v, H1, I1, rv, q1⟩ => thn (ho.run pins s1 σ H1 _ I1 q1) fun u s2 ⟨x, H2, I2, rx, q2⟩ =>
    thn (hi.run pins s2 σ H2 _ I2 q2) fun iv s3 ⟨y, H3, I3, ry, d, b, ks, k, ev, ex, ey, ⟨xs, e1, e2, e3, e4, e5⟩, hk, hnew, hsz, q3⟩ => ?_) hs⟩
  subst ex
  subst ey
  subst ev
  obtain rfl : u = Value.ref d := rx
  obtain rfl : iv = Value.ref b := ry
  obtain rfl : r = Value.bool true := rv
  have hxl : xs.length = ks.length := (Paired.length e2).symm
  have hat : atKey xs (nkey k) = none := by
    have := nd_at k e2
    rw [decide_eq_false hnew] at this
    cases q : atKey xs (nkey k) with
    | none => rfl
    | some p => rw [q] at this; cases this
  refine wpAny_setItem_heap (hsz := by omega) (knd := nestedKind X.prog X.w) (by show X.A.units + 1 + 8 < cLine; omega) (key_is I3.hok hk) (nd_dict I3.hok e1 e2 e3) fun h' dd' hsb => ?_
  rw [storedH_new hat] at dd'
  obtain ⟨q, es, ep, hq, k2, k3, k4, _, _⟩ := dd'
  have J : Inv X pins σ (upd H3 d (ndO X.prog X.w d (xs ++ [(nkey k, b, Value.bool true)]))) { s3 with heap := h', toks := s3.toks + (nestedKind X.prog X.w).draws (nkey k) } :=
    d_write I3 (by rw [e1]; exact True.intro) hsb ⟨q, hq⟩ (nd_mk q hq k2 k3 k4)
  have tupK : ∀ c ys, H3 c = some (.tup ys) → upd H3 d (ndO X.prog X.w d (xs ++ [(nkey k, b, Value.bool true)])) c = some (.tup ys) := fun c ys ec => by
    rw [upd_ne (ne_of ec e1 (fun z => nomatch z))]
    exact ec
  have keyK : ∀ c kk, KeyAt H3 c kk → KeyAt (upd H3 d (ndO X.prog X.w d (xs ++ [(nkey k, b, Value.bool true)]))) c kk := fun c kk ⟨s1, s2, h1, h2, h3⟩ => ⟨s1, s2, tupK _ _ h1, tupK _ _ h2, tupK _ _ h3⟩
  refine ⟨σ, _, J, q3 _ ⟨_, upd_same, ?_, ?_, e4, by rw [List.length_append, List.length_singleton]; exact hsz⟩⟩
  · exact prd_snoc (Paired.mapP e2 fun _ _ z => ⟨z.1, keyK _ _ z.2.1, z.2.2⟩) ⟨rfl, keyK _ _ hk, rfl⟩
  · rw [List.nodup_append]
    exact ⟨e3, by simp, by
      intro a ha b hb
      rw [List.mem_singleton.mp hb]
      intro z
      rw [z] at ha
      exact hnew ha⟩
end
end L2
end
section
/-! Fields of instances. Printed by genF.py. -/
namespace Sb
open PySem PySem.Spec PyProof.Rows L2
theorem lk_here {k : Str} {v : V} {r : List (Str × V)} : List.lookup k ((k, v) :: r) = some v := by
  have e : (k == k) = true := beq_self_eq_true k
  simp only [List.lookup, e]
theorem lk_past {k g : Str} {v : V} {r : List (Str × V)} (h : (k == g) = false) : List.lookup k ((g, v) :: r) = List.lookup k r := by
  simp only [List.lookup, h]
theorem putF_nil (f : Str) (v : V) : putF f v [] = [(f, v)] := rfl
theorem put_here {f : Str} {v x : V} {r : List (Str × V)} : putF f v ((f, x) :: r) = (f, v) :: r := if_pos rfl
theorem put_past {f g : Str} {v x : V} {r : List (Str × V)} (h : ¬ g = f) : putF f v ((g, x) :: r) = (g, x) :: putF f v r := if_neg h
theorem putF_len (f : Str) (v : V) : ∀ r : List (Str × V), (putF f v r).length ≤ r.length + 1
  | [] => Nat.le_refl _
  | (g, x) :: r => by
    by_cases h : g = f
    · rw [h, put_here]
      exact Nat.le_succ _
    · rw [put_past h]
      exact Nat.succ_le_succ (putF_len f v r)
theorem few2 {f g : Str} {v x : V} : (putF f v (putF g x [])).length < 1000 := by
  have h1 := putF_len f v (putF g x [])
  have h2 := putF_len g x []
  simp only [List.length_nil] at h2
  omega
theorem few3 {f g h : Str} {v x y : V} : (putF f v (putF g x (putF h y []))).length < 1000 := by
  have h1 := putF_len f v (putF g x (putF h y []))
  have h2 := putF_len g x (putF h y [])
  have h3 := putF_len h y []
  simp only [List.length_nil] at h3
  omega
theorem few4 {f g h i : Str} {v x y z : V} : (putF f v (putF g x (putF h y (putF i z [])))).length < 1000 := by
  have h1 := putF_len f v (putF g x (putF h y (putF i z [])))
  have h2 := putF_len g x (putF h y (putF i z []))
  have h3 := putF_len h y (putF i z [])
  have h4 := putF_len i z []
  simp only [List.length_nil] at h4
  omega
def wF (v0 v1 v2 v3 v4 : V) : List (Str × V) := [("sounds", v0), ("signs", v1), ("left", v2), ("right", v3), ("cost", v4)]
theorem wF_sounds {v0 v1 v2 v3 v4 : V} : (wF v0 v1 v2 v3 v4).lookup ("sounds" : Str) = some v0 := lk_here
theorem wF_signs {v0 v1 v2 v3 v4 : V} : (wF v0 v1 v2 v3 v4).lookup ("signs" : Str) = some v1 := (lk_past (by decide +kernel)).trans lk_here
theorem wF_left {v0 v1 v2 v3 v4 : V} : (wF v0 v1 v2 v3 v4).lookup ("left" : Str) = some v2 := (lk_past (by decide +kernel)).trans ((lk_past (by decide +kernel)).trans lk_here)
theorem wF_right {v0 v1 v2 v3 v4 : V} : (wF v0 v1 v2 v3 v4).lookup ("right" : Str) = some v3 := (lk_past (by decide +kernel)).trans ((lk_past (by decide +kernel)).trans ((lk_past (by decide +kernel)).trans lk_here))
theorem wF_cost {v0 v1 v2 v3 v4 : V} : (wF v0 v1 v2 v3 v4).lookup ("cost" : Str) = some v4 := (lk_past (by decide +kernel)).trans ((lk_past (by decide +kernel)).trans ((lk_past (by decide +kernel)).trans ((lk_past (by decide +kernel)).trans lk_here)))
theorem wF_no_is_within {v0 v1 v2 v3 v4 : V} : (wF v0 v1 v2 v3 v4).lookup ("is_within" : Str) = none := (lk_past (by decide +kernel)).trans ((lk_past (by decide +kernel)).trans ((lk_past (by decide +kernel)).trans ((lk_past (by decide +kernel)).trans ((lk_past (by decide +kernel)).trans (rfl)))))
theorem wF_no_name {v0 v1 v2 v3 v4 : V} : (wF v0 v1 v2 v3 v4).lookup ("name" : Str) = none := (lk_past (by decide +kernel)).trans ((lk_past (by decide +kernel)).trans ((lk_past (by decide +kernel)).trans ((lk_past (by decide +kernel)).trans ((lk_past (by decide +kernel)).trans (rfl)))))
theorem wF_no_rank {v0 v1 v2 v3 v4 : V} : (wF v0 v1 v2 v3 v4).lookup ("rank" : Str) = none := (lk_past (by decide +kernel)).trans ((lk_past (by decide +kernel)).trans ((lk_past (by decide +kernel)).trans ((lk_past (by decide +kernel)).trans ((lk_past (by decide +kernel)).trans (rfl)))))
theorem wF_new {v0 v1 v2 v3 v4 : V} : (putF "cost" v4 (putF "right" v3 (putF "left" v2 (putF "signs" v1 (putF "sounds" v0 []))))) = wF v0 v1 v2 v3 v4 := by
  unfold wF
  repeat (first | rw [putF_nil] | rw [put_past (by decide +kernel)])
theorem wF_put_sounds {v0 v1 v2 v3 v4 x : V} : putF "sounds" x (wF v0 v1 v2 v3 v4) = wF x v1 v2 v3 v4 := put_here
theorem wF_put_signs {v0 v1 v2 v3 v4 x : V} : putF "signs" x (wF v0 v1 v2 v3 v4) = wF v0 x v2 v3 v4 := (put_past (by decide +kernel)).trans (congrArg _ (put_here))
theorem wF_put_left {v0 v1 v2 v3 v4 x : V} : putF "left" x (wF v0 v1 v2 v3 v4) = wF v0 v1 x v3 v4 := (put_past (by decide +kernel)).trans (congrArg _ ((put_past (by decide +kernel)).trans (congrArg _ (put_here))))
theorem wF_put_right {v0 v1 v2 v3 v4 x : V} : putF "right" x (wF v0 v1 v2 v3 v4) = wF v0 v1 v2 x v4 := (put_past (by decide +kernel)).trans (congrArg _ ((put_past (by decide +kernel)).trans (congrArg _ ((put_past (by decide +kernel)).trans (congrArg _ (put_here))))))
theorem wF_put_cost {v0 v1 v2 v3 v4 x : V} : putF "cost" x (wF v0 v1 v2 v3 v4) = wF v0 v1 v2 v3 x := (put_past (by decide +kernel)).trans (congrArg _ ((put_past (by decide +kernel)).trans (congrArg _ ((put_past (by decide +kernel)).trans (congrArg _ ((put_past (by decide +kernel)).trans (congrArg _ (put_here))))))))
def jF (v0 v1 : V) : List (Str × V) := [("by_itself", v0), ("costs", v1)]
theorem jF_by_itself {v0 v1 : V} : (jF v0 v1).lookup ("by_itself" : Str) = some v0 := lk_here
theorem jF_costs {v0 v1 : V} : (jF v0 v1).lookup ("costs" : Str) = some v1 := (lk_past (by decide +kernel)).trans lk_here
theorem jF_no_join {v0 v1 : V} : (jF v0 v1).lookup ("join" : Str) = none := (lk_past (by decide +kernel)).trans ((lk_past (by decide +kernel)).trans (rfl))
theorem jF_no_many {v0 v1 : V} : (jF v0 v1).lookup ("many" : Str) = none := (lk_past (by decide +kernel)).trans ((lk_past (by decide +kernel)).trans (rfl))
theorem jF_new {v0 v1 : V} : (putF "costs" v1 (putF "by_itself" v0 [])) = jF v0 v1 := by
  unfold jF
  repeat (first | rw [putF_nil] | rw [put_past (by decide +kernel)])
theorem jF_put_by_itself {v0 v1 x : V} : putF "by_itself" x (jF v0 v1) = jF x v1 := put_here
theorem jF_put_costs {v0 v1 x : V} : putF "costs" x (jF v0 v1) = jF v0 x := (put_past (by decide +kernel)).trans (congrArg _ (put_here))
def tF (v0 v1 v2 v3 : V) : List (Str × V) := [("words", v0), ("joins", v1), ("signs", v2), ("starting", v3)]
theorem tF_words {v0 v1 v2 v3 : V} : (tF v0 v1 v2 v3).lookup ("words" : Str) = some v0 := lk_here
theorem tF_joins {v0 v1 v2 v3 : V} : (tF v0 v1 v2 v3).lookup ("joins" : Str) = some v1 := (lk_past (by decide +kernel)).trans lk_here
theorem tF_signs {v0 v1 v2 v3 : V} : (tF v0 v1 v2 v3).lookup ("signs" : Str) = some v2 := (lk_past (by decide +kernel)).trans ((lk_past (by decide +kernel)).trans lk_here)
theorem tF_starting {v0 v1 v2 v3 : V} : (tF v0 v1 v2 v3).lookup ("starting" : Str) = some v3 := (lk_past (by decide +kernel)).trans ((lk_past (by decide +kernel)).trans ((lk_past (by decide +kernel)).trans lk_here))
theorem tF_no_pieces_at {v0 v1 v2 v3 : V} : (tF v0 v1 v2 v3).lookup ("pieces_at" : Str) = none := (lk_past (by decide +kernel)).trans ((lk_past (by decide +kernel)).trans ((lk_past (by decide +kernel)).trans ((lk_past (by decide +kernel)).trans (rfl))))
theorem tF_no_width {v0 v1 v2 v3 : V} : (tF v0 v1 v2 v3).lookup ("width" : Str) = none := (lk_past (by decide +kernel)).trans ((lk_past (by decide +kernel)).trans ((lk_past (by decide +kernel)).trans ((lk_past (by decide +kernel)).trans (rfl))))
theorem tF_no_many {v0 v1 v2 v3 : V} : (tF v0 v1 v2 v3).lookup ("many" : Str) = none := (lk_past (by decide +kernel)).trans ((lk_past (by decide +kernel)).trans ((lk_past (by decide +kernel)).trans ((lk_past (by decide +kernel)).trans (rfl))))
theorem tF_no_ways {v0 v1 v2 v3 : V} : (tF v0 v1 v2 v3).lookup ("ways" : Str) = none := (lk_past (by decide +kernel)).trans ((lk_past (by decide +kernel)).trans ((lk_past (by decide +kernel)).trans ((lk_past (by decide +kernel)).trans (rfl))))
theorem tF_no_sorts_of {v0 v1 v2 v3 : V} : (tF v0 v1 v2 v3).lookup ("sorts_of" : Str) = none := (lk_past (by decide +kernel)).trans ((lk_past (by decide +kernel)).trans ((lk_past (by decide +kernel)).trans ((lk_past (by decide +kernel)).trans (rfl))))
theorem tF_no_cost_of {v0 v1 v2 v3 : V} : (tF v0 v1 v2 v3).lookup ("cost_of" : Str) = none := (lk_past (by decide +kernel)).trans ((lk_past (by decide +kernel)).trans ((lk_past (by decide +kernel)).trans ((lk_past (by decide +kernel)).trans (rfl))))
theorem tF_no_total {v0 v1 v2 v3 : V} : (tF v0 v1 v2 v3).lookup ("total" : Str) = none := (lk_past (by decide +kernel)).trans ((lk_past (by decide +kernel)).trans ((lk_past (by decide +kernel)).trans ((lk_past (by decide +kernel)).trans (rfl))))
theorem tF_no_piece_rank {v0 v1 v2 v3 : V} : (tF v0 v1 v2 v3).lookup ("piece_rank" : Str) = none := (lk_past (by decide +kernel)).trans ((lk_past (by decide +kernel)).trans ((lk_past (by decide +kernel)).trans ((lk_past (by decide +kernel)).trans (rfl))))
theorem tF_no_rank {v0 v1 v2 v3 : V} : (tF v0 v1 v2 v3).lookup ("rank" : Str) = none := (lk_past (by decide +kernel)).trans ((lk_past (by decide +kernel)).trans ((lk_past (by decide +kernel)).trans ((lk_past (by decide +kernel)).trans (rfl))))
theorem tF_no_in_order {v0 v1 v2 v3 : V} : (tF v0 v1 v2 v3).lookup ("in_order" : Str) = none := (lk_past (by decide +kernel)).trans ((lk_past (by decide +kernel)).trans ((lk_past (by decide +kernel)).trans ((lk_past (by decide +kernel)).trans (rfl))))
theorem tF_no_sounds_of {v0 v1 v2 v3 : V} : (tF v0 v1 v2 v3).lookup ("sounds_of" : Str) = none := (lk_past (by decide +kernel)).trans ((lk_past (by decide +kernel)).trans ((lk_past (by decide +kernel)).trans ((lk_past (by decide +kernel)).trans (rfl))))
theorem tF_no_told {v0 v1 v2 v3 : V} : (tF v0 v1 v2 v3).lookup ("told" : Str) = none := (lk_past (by decide +kernel)).trans ((lk_past (by decide +kernel)).trans ((lk_past (by decide +kernel)).trans ((lk_past (by decide +kernel)).trans (rfl))))
theorem tF_no_reading {v0 v1 v2 v3 : V} : (tF v0 v1 v2 v3).lookup ("reading" : Str) = none := (lk_past (by decide +kernel)).trans ((lk_past (by decide +kernel)).trans ((lk_past (by decide +kernel)).trans ((lk_past (by decide +kernel)).trans (rfl))))
theorem tF_new {v0 v1 v2 v3 : V} : (putF "starting" v3 (putF "signs" v2 (putF "joins" v1 (putF "words" v0 [])))) = tF v0 v1 v2 v3 := by
  unfold tF
  repeat (first | rw [putF_nil] | rw [put_past (by decide +kernel)])
theorem tF_put_words {v0 v1 v2 v3 x : V} : putF "words" x (tF v0 v1 v2 v3) = tF x v1 v2 v3 := put_here
theorem tF_put_joins {v0 v1 v2 v3 x : V} : putF "joins" x (tF v0 v1 v2 v3) = tF v0 x v2 v3 := (put_past (by decide +kernel)).trans (congrArg _ (put_here))
theorem tF_put_signs {v0 v1 v2 v3 x : V} : putF "signs" x (tF v0 v1 v2 v3) = tF v0 v1 x v3 := (put_past (by decide +kernel)).trans (congrArg _ ((put_past (by decide +kernel)).trans (congrArg _ (put_here))))
theorem tF_put_starting {v0 v1 v2 v3 x : V} : putF "starting" x (tF v0 v1 v2 v3) = tF v0 v1 v2 x := (put_past (by decide +kernel)).trans (congrArg _ ((put_past (by decide +kernel)).trans (congrArg _ ((put_past (by decide +kernel)).trans (congrArg _ (put_here))))))
def bF (v0 v1 v2 : V) : List (Str × V) := [("words", v0), ("joins", v1), ("known", v2)]
theorem bF_words {v0 v1 v2 : V} : (bF v0 v1 v2).lookup ("words" : Str) = some v0 := lk_here
theorem bF_joins {v0 v1 v2 : V} : (bF v0 v1 v2).lookup ("joins" : Str) = some v1 := (lk_past (by decide +kernel)).trans lk_here
theorem bF_known {v0 v1 v2 : V} : (bF v0 v1 v2).lookup ("known" : Str) = some v2 := (lk_past (by decide +kernel)).trans ((lk_past (by decide +kernel)).trans lk_here)
theorem bF_no_begin {v0 v1 v2 : V} : (bF v0 v1 v2).lookup ("begin" : Str) = none := (lk_past (by decide +kernel)).trans ((lk_past (by decide +kernel)).trans ((lk_past (by decide +kernel)).trans (rfl)))
theorem bF_no_put_words {v0 v1 v2 : V} : (bF v0 v1 v2).lookup ("put_words" : Str) = none := (lk_past (by decide +kernel)).trans ((lk_past (by decide +kernel)).trans ((lk_past (by decide +kernel)).trans (rfl)))
theorem bF_no_put_joins {v0 v1 v2 : V} : (bF v0 v1 v2).lookup ("put_joins" : Str) = none := (lk_past (by decide +kernel)).trans ((lk_past (by decide +kernel)).trans ((lk_past (by decide +kernel)).trans (rfl)))
theorem bF_no_text {v0 v1 v2 : V} : (bF v0 v1 v2).lookup ("text" : Str) = none := (lk_past (by decide +kernel)).trans ((lk_past (by decide +kernel)).trans ((lk_past (by decide +kernel)).trans (rfl)))
theorem bF_no_ways {v0 v1 v2 : V} : (bF v0 v1 v2).lookup ("ways" : Str) = none := (lk_past (by decide +kernel)).trans ((lk_past (by decide +kernel)).trans ((lk_past (by decide +kernel)).trans (rfl)))
theorem bF_new {v0 v1 v2 : V} : (putF "known" v2 (putF "joins" v1 (putF "words" v0 []))) = bF v0 v1 v2 := by
  unfold bF
  repeat (first | rw [putF_nil] | rw [put_past (by decide +kernel)])
theorem bF_put_words {v0 v1 v2 x : V} : putF "words" x (bF v0 v1 v2) = bF x v1 v2 := put_here
theorem bF_put_joins {v0 v1 v2 x : V} : putF "joins" x (bF v0 v1 v2) = bF v0 x v2 := (put_past (by decide +kernel)).trans (congrArg _ (put_here))
theorem bF_put_known {v0 v1 v2 x : V} : putF "known" x (bF v0 v1 v2) = bF v0 v1 x := (put_past (by decide +kernel)).trans (congrArg _ ((put_past (by decide +kernel)).trans (congrArg _ (put_here))))
end Sb
end
section
/-! Walks 1: want, parted, is_character, may_stand -/
namespace Sb
open PySem PySem.Spec PyProof.Rows L2
section
variable {P : Program} {w : World} {K : PySem.W.Frag} {mg : Str → Option Value} {base : Heap} {A : Ads}

/-! want -/
abbrev sWant : Stmt := top 12
def spWant (CN : Addr) : Sp := fun vs H Q E => ∃ b : Bool, vs = [.bl b] ∧ (b = true → Q .non H) ∧ (b = false → E (.ref CN) none H)
theorem scWant : FnScope ["truth"] ["truth"] (defScope sWant) := ⟨rfl, rfl, rfl, by decide +kernel, rfl, by decide +kernel, by decide +kernel⟩
theorem ok_want (T : Txt K mg A) {f : Addr} {fd : FuncData} (F : Fun K "want" "want" sWant f fd) : FnOk P w K mg base (L2N.CX P w) 3 f fd ["truth"] (spWant A.CN) := by
  refine F.okN scWant (fun vs H Q E h => ?_) (fun cdv A' outer s H vs Q E hr h => ⟨_, pss_one (ps_if (pt_not (pt_val (pv 0))) (pss_one (L2N.ps_raise rfl (L2N.takes_of rfl rfl rfl rfl) (L2N.pmk_own PySem.F.excBase_ValueError T.xN T.gN T.kN (raises_own T.bN T.tN) rfl))) pss_nil), ?_⟩)
  · obtain ⟨b, rfl, _⟩ := h
    rfl
  · obtain ⟨b, rfl, h1, h2⟩ := h
    refine ⟨_, rfl, b, rfl, ?_⟩
    cases b with
    | true => exact iteF (h1 rfl)
    | false => exact iteT (h2 rfl)

/-! parted -/
abbrev sParted : Stmt := top 13
def spParted (K : PySem.W.Frag) : Sp := fun vs H Q _ => ∃ (a : Addr) (ns : List Nat) (m : Nat), vs = [.ref a, .int (m : Int)] ∧ SqL K H a (nv ns) ∧ ns.length ≤ 70000 ∧
  ∀ H' p, Same H H' → Rows H' p (parted m ns) → Q (.ref p) H'
theorem scParted : FnScope ["some", "mark", "found", "one"] ["some", "mark"] (defScope sParted) := ⟨rfl, rfl, rfl, by decide +kernel, rfl, by decide +kernel, by decide +kernel⟩
theorem parted_len (m : Nat) : ∀ l : List Nat, (parted m l).length ≤ l.length + 1
  | [] => by simp [parted]
  | x :: r => by
    have := parted_len m r
    unfold parted
    split
    · simp; omega
    · split
      · rename_i p q e
        rw [e] at this
        simp at this ⊢
        omega
      · simp
theorem parted_all (m : Nat) : ∀ (l : List Nat) (p : List Nat), p ∈ parted m l → p.length ≤ l.length
  | [], p, h => by simp [parted] at h; simp [h]
  | x :: r, p, h => by
    have ih := parted_all m r
    unfold parted at h
    split at h
    · rcases List.mem_cons.mp h with rfl | h
      · simp
      · have := ih p h
        simp; omega
    · split at h
      · rename_i a b e
        rw [e] at ih
        rcases List.mem_cons.mp h with rfl | h
        · have := ih a List.mem_cons_self
          simp; omega
        · have := ih p (List.mem_cons_of_mem _ h)
          simp; omega
      · simp at h
        simp [h]
theorem parted_last (m : Nat) (l : List Nat) : ∃ ps p, parted m l = ps ++ [p] := by
  rcases List.eq_nil_or_concat (parted m l) with h | ⟨ps, p, h⟩
  · exact absurd h (parted_ne m l)
  · exact ⟨ps, p, by rw [h, List.concat_eq_append]⟩
theorem ok_parted {f : Addr} {fd : FuncData} (F : Fun K "parted" "parted" sParted f fd) : FnOk P w K mg base CX0 2 f fd ["some", "mark"] (spParted K) := by
  refine F.ok scParted (fun vs H Q E h => ?_) (fun cdv A' outer s H vs Q E hr h => ⟨_, pss_cons (ps_set (i := 2) scParted.nd rfl (.inl rfl) (pe_lst (pa_cons (pe_lst pa_nil) pa_nil)))
    (pss_cons (ps_for PassesOwn.never rfl (pi_list (pv 0)) (pg_name (i := 3) scParted.nd rfl (.inl rfl))
      (pss_one (ps_if (pt_cmp (pc_eqI (pv 3) (pv 1)))
        (pss_one (ps_expr (pe_bm PySem.F.plainAttrs_list PySem.F.slot_list_append PySem.F.type_list_append mt_append (pv 2) (pa_cons (pe_lst pa_nil) pa_nil))))
        (pss_one (ps_expr (pe_bm PySem.F.plainAttrs_list PySem.F.slot_list_append PySem.F.type_list_append mt_append (pe_ix ix_list (pv 2) (pe_un un_neg pe_int) (fun _ _ => rfl)) (pa_cons (pv 3) pa_nil)))))))
    (pss_one (ps_ret (pv 2)))), ?_⟩)
  · obtain ⟨a, ns, m, rfl, _⟩ := h
    rfl
  · obtain ⟨a, ns, m, rfl, hS, hlen, k⟩ := h
    refine ⟨Nat.zero_le _, fun c hc => ⟨(by show 1 ≤ sizeLine; decide), fun f0 hf => ?_⟩⟩
    have hfc : f0 ≠ c := fun e => by rw [e, upd_same] at hf; cases hf
    have hHf : H f0 = none := by rw [upd_ne hfc] at hf; exact hf
    have s0 : Same H (upd (upd H c (.lst [])) f0 (.lst [.ref c])) := (Same.new hc).at hHf
    refine ⟨_, rfl, a, rfl, ⟨_, s0.seq hS⟩, for_list (K := K) (a := a) (xs := nv ns) (fun i σ H' => ∃ (v : Option V) (as : List Addr) (b : Addr) (ps : List (List Nat)) (p : List Nat),
        σ = [some (.ref a), some (.int (m : Int)), some (.ref f0), v] ∧ Same H H' ∧ parted m (ns.take i) = ps ++ [p] ∧ H' f0 = some (.lst (refs (as ++ [b]))) ∧ Objs H' lstN as ps ∧ H' b = some (lstN p) ∧ b ∉ as ∧ f0 ∉ as ∧ b ≠ f0 ∧ H b = none)
      ⟨none, [], c, [], [], rfl, s0, rfl, upd_same, .nil, ?_, (by simp), (by simp), (Ne.symm hfc), hc⟩ (fun i σ H' _ ⟨_, _, _, _, _, _, s1, _⟩ => s1.seq hS) ?_ ?_⟩
    · rw [upd_ne (Ne.symm hfc)]
      exact upd_same
    · rintro i y σ H' hi ⟨v, as, b, ps, p, rfl, s1, ep, h1, h2, h3, nb, nf, nbf, hb⟩
      obtain ⟨n, hn, rfl⟩ := nv_get hi
      have et := take_more hn
      have hil : i < ns.length := (List.getElem?_eq_some_iff.mp hn).1
      have hps : ps.length + 1 ≤ 70001 := by
        have e := congrArg List.length ep
        have := parted_len m (ns.take i)
        rw [List.length_append, List.length_singleton] at e
        rw [List.length_take] at this
        omega
      have has : as.length = ps.length := h2.len
      have hp : p.length ≤ 70000 := by
        have := parted_all m (ns.take i) p (by rw [ep]; simp)
        rw [List.length_take] at this
        omega
      refine ⟨_, rfl, _, rfl, (n : Int), (m : Int), rfl, rfl, _, rfl, ifD (fun e => ?_) fun e => ?_⟩
      · have e : n = m := by omega
        subst e
        refine ⟨_, rfl, .inl ⟨rfl, _, SqL.of h1⟩, Nat.zero_le _, fun q hq => ⟨f0, refs (as ++ [b]), _, rfl, rfl, ?_, ?_, ?_⟩⟩
        · rw [upd_ne (ne_of_none h1 hq)]
          exact h1
        · rw [refs_len, List.length_append, List.length_singleton, sizeLine_eq]
          omega
        · have nqf : f0 ≠ q := ne_of_none h1 hq
          have nqb : b ≠ q := ne_of_none h3 hq
          have nqa : q ∉ as := h2.notin hq
          refine ⟨some (.int (n : Int)), as ++ [b], q, ps ++ [p], [], rfl, (s1.more hq).at hHf, ?_, ?_, ?_, ?_, ?_, ?_, Ne.symm nqf, s1.free hq⟩
          · rw [et, parted_mark, ep]
          · rw [upd_same, refs_snoc (as ++ [b]) q]
          · refine Objs.snoc ?_ ((h2.put_ne nqa).put_ne nf)
            rw [upd_ne nbf, upd_ne nqb]
            exact h3
          · rw [upd_ne (Ne.symm nqf)]
            exact upd_same
          · simp [nqa, Ne.symm nqb]
          · simp [nf, Ne.symm nbf]
      · have e : n ≠ m := by omega
        refine ⟨_, rfl, 1, rfl, f0, _, (-1 : Int), .ref b, rfl, rfl, SqL.of h1, ?_, .inl ⟨rfl, _, SqL.of h3⟩, _, rfl, b, _, _, rfl, rfl, h3, ?_, ?_⟩
        · rw [refs_snoc]
          exact atI_last _ _
        · rw [nv_length, sizeLine_eq]
          omega
        · refine ⟨some (.int (n : Int)), as, b, ps, p ++ [n], rfl, s1.at hb, ?_, ?_, ?_, ?_, nb, nf, nbf, hb⟩
          · rw [et, parted_item m n e _ _ _ ep]
          · rw [upd_ne (Ne.symm nbf)]
            exact h1
          · exact h2.put_ne nb
          · rw [upd_same]
            unfold lstN
            rw [nv_snoc]
    · rintro σ H' ⟨v, as, b, ps, p, rfl, s1, ep, h1, h2, h3, nb, nf, nbf, hb⟩
      rw [nv_length, List.take_length] at ep
      exact ⟨_, rfl, k H' f0 s1 (by rw [ep]; exact ⟨as ++ [b], h1, h2.snoc h3⟩)⟩
end
end Sb
end
section
/-! Walks 2: is_character, may_stand, lines_of, width_of -/
namespace Sb
open PySem PySem.Spec PyProof.Rows L2
section
variable {P : Program} {w : World} {K : PySem.W.Frag} {mg : Str → Option Value} {base : Heap} {A : Ads}

/-! is_character -/
abbrev sIsCh : Stmt := top 15
def spIsCh : Sp := fun vs H Q _ => ∃ n : Nat, vs = [.int (n : Int)] ∧ Q (.bl (SyBase.isChar n)) H
theorem scIsCh : FnScope ["one"] ["one"] (defScope sIsCh) := ⟨rfl, rfl, rfl, by decide +kernel, rfl, by decide +kernel, by decide +kernel⟩
theorem isChar_py (n : Nat) : SyBase.isChar n = (decide ((n : Int) ≤ 1114111) && !(decide (55296 ≤ (n : Int)) && decide ((n : Int) ≤ 57343))) := by
  have h := isChar_iff n
  cases e : SyBase.isChar n with
  | true =>
    rw [e] at h
    have := h.mp rfl
    symm
    simp only [Bool.and_eq_true, decide_eq_true_eq, Bool.not_eq_true', Bool.and_eq_false_iff, decide_eq_false_iff_not]
    omega
  | false =>
    rw [e] at h
    have : ¬ (n < 1114112 ∧ ¬(55296 ≤ n ∧ n < 57344)) := fun z => Bool.noConfusion (h.mpr z)
    symm
    rw [Bool.and_eq_false_iff, decide_eq_false_iff_not, Bool.not_eq_false', Bool.and_eq_true, decide_eq_true_eq, decide_eq_true_eq]
    omega
theorem ok_isCh (T : Txt K mg A) {f : Addr} {fd : FuncData} (F : Fun K "is_character" "is_character" sIsCh f fd) : FnOk P w K mg base CX0 2 f fd ["one"] spIsCh := by
  refine F.ok scIsCh (fun vs H Q E h => ?_) (fun cdv A' outer s H vs Q E hr h => ⟨_, pss_one (ps_ret
    (pe_and (pe_cmp (pc_le pe_int (pv 0))) (pe_and (pe_cmp (pc_le (pv 0) (glob_int T.LAST_CHARACTER))) (pe_one (pe_not (pe_and (pe_cmp (pc_le (glob_int T.FIRST_ODD) (pv 0))) (pe_one (pe_cmp (pc_le (pv 0) (glob_int T.LAST_ODD)))))))))), ?_⟩)
  · obtain ⟨n, rfl, _⟩ := h
    rfl
  · obtain ⟨n, rfl, k⟩ := h
    rw [isChar_py] at k
    refine ⟨_, rfl, 0, (n : Int), rfl, rfl, _, rfl, ifT (decide_eq_true (by omega)) ?_⟩
    refine ⟨_, rfl, (n : Int), _, rfl, rfl, _, rfl, ifD (fun h1 => ?_) fun h1 => ?_⟩
    · rw [decide_eq_true h1, Bool.true_and] at k
      refine ⟨_, rfl, _, (n : Int), rfl, rfl, _, rfl, ifD (fun h2 => ?_) fun h2 => ?_⟩
      · rw [decide_eq_true h2, Bool.true_and] at k
        exact ⟨_, rfl, (n : Int), _, rfl, rfl, _, rfl, k⟩
      · rw [decide_eq_false h2, Bool.false_and] at k
        exact ⟨_, rfl, k⟩
    · rw [decide_eq_false h1, Bool.false_and] at k
      exact k

/-! may_stand -/
abbrev sMay : Stmt := top 16
def spMay : Sp := fun vs H Q _ => ∃ n : Nat, vs = [.int (n : Int)] ∧ Q (.bl (SyLex.isSign n)) H
theorem scMay : FnScope ["one"] ["one"] (defScope sMay) := ⟨rfl, rfl, rfl, by decide +kernel, rfl, by decide +kernel, by decide +kernel⟩
theorem isSign_py (n : Nat) : SyLex.isSign n = (SyBase.isChar n && (decide ((32 : Int) < n) && !decide ((n : Int) = 127))) := by
  unfold SyLex.isSign
  congr 1
  congr 1
  · exact decide_eq_decide.mpr (by omega)
  · by_cases h : n = 127
    · subst h; rfl
    · rw [bne_iff_ne.mpr h, decide_eq_false (by omega)]
      rfl
theorem ok_may (T : Txt K mg A) (G1 : Has P w K mg base CX0 "is_character" 2 ["one"] spIsCh) {f : Addr} {fd : FuncData} (F : Fun K "may_stand" "may_stand" sMay f fd) : FnOk P w K mg base CX0 3 f fd ["one"] spMay := by
  refine F.ok scMay (fun vs H Q E h => ?_) (fun cdv A' outer s H vs Q E hr h => ⟨_, pss_one (ps_ret
    (pe_and (call_has G1 hr (E := fun _ => E0) at0 (pa_cons (pv 0) pa_nil)) (pe_and (pe_cmp (pc_gt (pv 0) (glob_int T.BLANK))) (pe_one (pe_cmp (pc_neI (pv 0) (glob_int T.DELETED))))))), ?_⟩)
  · obtain ⟨n, rfl, _⟩ := h
    rfl
  · obtain ⟨n, rfl, k⟩ := h
    rw [isSign_py] at k
    refine ⟨_, rfl, n, rfl, _, rfl, ite2 (fun h1 => ?_) fun h1 => ?_⟩
    · rw [h1, Bool.true_and] at k
      refine ⟨_, rfl, (n : Int), _, rfl, rfl, _, rfl, ifD (fun h2 => ?_) fun h2 => ?_⟩
      · rw [decide_eq_true h2, Bool.true_and] at k
        exact ⟨_, rfl, (n : Int), _, rfl, rfl, k⟩
      · rw [decide_eq_false h2, Bool.false_and] at k
        exact k
    · rw [Bool.eq_false_iff.mpr h1, Bool.false_and] at k
      exact k

/-! lines_of -/
abbrev sLines : Stmt := top 14
/-- at t a line: its bytes, whether 0AH stands behind them -/
def LineAt (H : Hp) (t : Addr) (l : List Nat × Bool) : Prop := ∃ r, H t = some (.tup [.ref r, .bl l.2]) ∧ H r = some (lstN l.1)
def LinesAt (H : Hp) (p : Addr) (ls : List (List Nat × Bool)) : Prop := ∃ ts, H p = some (.lst (refs ts)) ∧ Paired (LineAt H) ts ls
theorem LineAt.same {H H' : Hp} {t : Addr} {l : List Nat × Bool} (h : LineAt H t l) (s : Same H H') : LineAt H' t l := by
  obtain ⟨r, h1, h2⟩ := h
  exact ⟨r, s _ _ h1, s _ _ h2⟩
theorem LinesAt.same {H H' : Hp} {p : Addr} {ls : List (List Nat × Bool)} (h : LinesAt H p ls) (s : Same H H') : LinesAt H' p ls := by
  obtain ⟨ts, h1, h2⟩ := h
  exact ⟨ts, s _ _ h1, Paired.mapP h2 fun a b q => q.same s⟩
def spLines (K : PySem.W.Frag) : Sp := fun vs H Q _ => ∃ (a : Addr) (ns : List Nat), vs = [.ref a] ∧ SqL K H a (nv ns) ∧ ns.length ≤ 70000 ∧
  ∀ H' p, Same H H' → LinesAt H' p (linesOf ns) → Q (.ref p) H'
theorem scLines : FnScope ["some", "rows", "found", "row"] ["some"] (defScope sLines) := ⟨rfl, rfl, rfl, by decide +kernel, rfl, by decide +kernel, by decide +kernel⟩
theorem dpAll_ints {H : Hp} : ∀ ns : List Nat, DpAll K H (nv ns) (ns.map fun (n : Nat) => PyData.int (n : Int))
  | [] => .nil
  | n :: r => .cons (.int _) (dpAll_ints r)
theorem canLay_ints : ∀ ns : List Int, PyData.canLayAll0 (ns.map PyData.int) = true
  | [] => rfl
  | n :: r => by
    show (PyData.canLay0 (.int n) && PyData.canLayAll0 (r.map PyData.int)) = true
    rw [canLay_ints r]
    rfl
theorem shaped_ints (ns : List Nat) : SeqAt.shaped (.list (ns.map fun (n : Nat) => PyData.int (n : Int))) = true := by
  have e : (ns.map fun (n : Nat) => PyData.int (n : Int)) = (ns.map fun (n : Nat) => (n : Int)).map PyData.int := by rw [List.map_map]; rfl
  rw [e]
  unfold SeqAt.shaped
  have h1 : PyData.canLay0 (.list ((ns.map fun (n : Nat) => (n : Int)).map PyData.int)) = true := canLay_ints _
  have h2 : PyData.depth (.list ((ns.map fun (n : Nat) => (n : Int)).map PyData.int)) ≤ 64 := by
    have := PySem.W.depth_ints (ns.map fun (n : Nat) => (n : Int))
    simp only [PyData.depth] at this ⊢
    omega
  rw [h1, decide_eq_true h2]
  rfl
theorem eqv_nil (ds : List PyData) : PyData.eqv (.list ds) (.list []) = ds.isEmpty := by
  cases ds <;> simp [PyData.eqv, PyData.eqvAll]
theorem shaped_nil : SeqAt.shaped (.list []) = true := by decide
theorem cut_last (xs : List V) (y : V) : cutV (xs ++ [y]) none (some (-1)) = xs := by
  unfold cutV
  have e : HT.sIx (xs ++ [y]).length (xs ++ [y]).length (some (-1)) = xs.length := by
    show (if (-1 : Int) < 0 then ((-1 : Int) + ((xs ++ [y]).length : Int)).toNat else min (-1 : Int).toNat (xs ++ [y]).length) = xs.length
    rw [if_pos (by decide), List.length_append, List.length_singleton]
    omega
  rw [e, HT.sIx_none]
  simp
theorem ok_lines (T : Txt K mg A) (G1 : Has P w K mg base CX0 "parted" 2 ["some", "mark"] (spParted K)) {f : Addr} {fd : FuncData} (F : Fun K "lines_of" "lines_of" sLines f fd) : FnOk P w K mg base CX0 3 f fd ["some"] (spLines K) := by
  refine F.ok scLines (fun vs H Q E h => ?_) (fun cdv A' outer s H vs Q E hr h => ⟨_, pss_cons (ps_set (i := 1) scLines.nd rfl (.inl rfl) (call_has G1 hr (E := fun _ => E0) at0 (pa_cons (pv 0) (pa_cons (glob_int T.LINE_END) pa_nil))))
    (pss_cons (ps_setLc (i := 2) (own := [("row", 3)]) (g := gName 3) (tt := tYes) rfl scLines.nd rfl rfl (sw_true rfl rfl rfl (by decide +kernel)) (pi_list (pe_slice sl_list (pv 1) po_none (po_some (pe_un un_neg pe_int)))) (blkOk_by (N := ["some", "rows", "found", "row"]) (sc := defScope sLines) (by decide +kernel))
      (fun _ _ _ _ _ => pg_name (i := 3) scLines.nd rfl (.inl rfl)) (fun _ _ _ _ _ => pts_nil) (fun _ _ _ _ _ => pe_tup (pa_cons (pv 3) (pa_cons pe_bl pa_nil))))
    (pss_cons (ps_if (pt_cmpR (op_neD hr.units) (pe_ix ix_list (pv 1) (pe_un un_neg pe_int) (fun _ _ => rfl)) (pe_lst pa_nil) (nomark _))
      (pss_one (ps_expr (pe_bm PySem.F.plainAttrs_list PySem.F.slot_list_append PySem.F.type_list_append mt_append (pv 2) (pa_cons (pe_tup (pa_cons (pe_ix ix_list (pv 1) (pe_un un_neg pe_int) (fun _ _ => rfl)) (pa_cons pe_bl pa_nil))) pa_nil)))) pss_nil)
    (pss_one (ps_ret (pv 2))))), ?_⟩)
  · obtain ⟨a, ns, rfl, _⟩ := h
    rfl
  · obtain ⟨a, ns, rfl, hS, hlen, k⟩ := h
    refine ⟨_, rfl, a, ns, 10, rfl, hS, hlen, fun H1 p s1 ⟨as, h1, h2⟩ => ?_⟩
    obtain ⟨ps, q, ep⟩ := parted_last 10 ns
    have hl2 := parted_len 10 ns
    have hll : ps.length ≤ 70000 := by
      have := congrArg List.length ep
      rw [List.length_append, List.length_singleton] at this
      omega
    rw [ep] at h2
    obtain ⟨ds, c, rfl, hds, hc⟩ := prd_unsnoc h2
    have hld : ds.length = ps.length := Paired.length hds
    rw [refs_snoc] at h1
    refine ⟨_, rfl, 1, rfl, _, rfl, p, _, rfl, SqL.of h1, fun L hL => ?_⟩
    rw [cut_last]
    refine ⟨L, rfl, ⟨_, SqL.of upd_same⟩, fun D hD => ?_⟩
    obtain ⟨nDL, hD1⟩ := new_ne hD
    refine lc_list (K := K) (a := L) (xs := refs ds) (fun i H' => ∃ Hx ts, Off Hx H' D (.lst (refs ts)) ∧ Same (upd H1 L (.lst (refs ds))) Hx ∧ Paired (LineAt Hx) ts ((ps.take i).map fun r => (r, true)))
      ⟨_, [], Off.new hD, Same.refl _, .nil⟩ (fun i H' _ ⟨Hx, ts, f, s2, _⟩ => (s2.trans f.same).seq (SqL.of upd_same)) ?_ ?_
    · rintro i x H' hi ⟨Hx, ts, f, s2, hp⟩
      obtain ⟨d, hd, rfl⟩ := refs_get hi
      have hil : i < ps.length := by
        have := (List.getElem?_eq_some_iff.mp hd).1
        omega
      obtain ⟨r, hr⟩ : ∃ r, ps[i]? = some r := ⟨_, List.getElem?_eq_getElem hil⟩
      obtain ⟨d', hd', hdr⟩ := Objs.get hds hr
      rw [hd] at hd'
      cases hd'
      have hlt : ts.length = i := by
        have := Paired.length hp
        rw [List.length_map, List.length_take] at this
        omega
      refine ⟨rfl, tyes ?_⟩
      refine ⟨_, rfl, (by show 2 ≤ sizeLine; decide), fun t ht => ⟨_, (f.add ht _).at, ?_, upd Hx t (.tup [.ref d, .bl true]), ts ++ [t], ?_, s2.more (f.free_of ht), ?_⟩⟩
      · rw [refs_len, hlt, sizeLine_eq]
        omega
      · rw [refs_snoc]
        exact (f.add ht _).put _
      · rw [take_more hr, List.map_append]
        refine prd_snoc (Paired.mapP hp fun _ _ q => q.same (Same.new (f.free_of ht))) ⟨d, upd_same, ?_⟩
        exact ((Same.new hL).trans (s2.more (f.free_of ht))) _ _ hdr
    · rintro H' ⟨Hx, ts, f, s2, hp⟩
      rw [refs_len, hld, List.take_length] at hp
      have sH : Same H1 H' := (Same.new hL).trans (s2.trans f.same)
      have ec : atI (refs ds ++ [V.ref c]) (-1) = some (V.ref c) := atI_last _ _
      have el : linesOf ns = ps.map (fun r => (r, true)) ++ (if q = [] then [] else [(q, false)]) := by
        unfold linesOf linesP
        rw [ep]
        simp
      have hlt : ts.length = ps.length := by
        have := Paired.length hp
        rw [List.length_map] at this
        exact this
      refine ⟨_, rfl, 1, rfl, _, _, _, _, rfl, rfl, SqL.of (sH _ _ h1), ec, Nat.zero_le _, fun z hz => ⟨.list (q.map fun (n : Nat) => PyData.int (n : Int)), .list [], ?_, ?_, shaped_ints q, shaped_nil, _, rfl, ?_⟩⟩
      · exact .lst (SqL.of ((sH.more hz) _ _ hc)) (dpAll_ints q)
      · exact .lst (SqL.of upd_same) .nil
      · rw [eqv_nil]
        have f2 := f.add hz (.lst [])
        have s3 := s2.more (o := .lst []) (f.free_of hz)
        have hp2 : Paired (LineAt (upd Hx z (.lst []))) ts (ps.map fun r => (r, true)) := Paired.mapP hp fun _ _ q => q.same (Same.new (f.free_of hz))
        cases q with
        | nil =>
          refine iteF ?_
          refine ⟨_, rfl, k _ D (s1.trans (sH.more hz)) ⟨ts, f2.at, ?_⟩⟩
          rw [el, if_pos rfl, List.append_nil]
          exact Paired.mapP hp2 fun _ _ q => q.same f2.same
        | cons n0 q0 =>
          refine iteT ?_
          refine ⟨_, rfl, .inl ⟨rfl, _, SqL.of f2.at⟩, _, rfl, 1, rfl, _, _, _, _, rfl, rfl, SqL.of ((sH.more hz) _ _ h1), ec, (by show 2 ≤ sizeLine; decide), fun t ht => ⟨D, _, _, rfl, rfl, (f2.add ht _).at, ?_, ?_⟩⟩
          · rw [refs_len, hlt, sizeLine_eq]
            omega
          · have f3 := (f2.add ht (.tup [.ref c, .bl false])).put (.lst (refs (ts ++ [t])))
            rw [refs_snoc] at f3
            refine ⟨_, rfl, k _ D ?_ ⟨ts ++ [t], ?_, ?_⟩⟩
            · exact s1.trans ((Same.new hL).trans ((s3.more (f2.free_of ht)).trans f3.same))
            · rw [refs_snoc]
              exact f3.at
            · rw [el, if_neg (by simp)]
              refine prd_snoc (Paired.mapP hp2 fun _ _ q => q.same ((Same.new (f2.free_of ht)).trans f3.same)) ⟨c, f3.same _ _ upd_same, f3.same _ _ (((Same.new hL).trans (s3.more (f2.free_of ht))) _ _ hc)⟩
end
end Sb
end
section
/-! Walks 3: width_of, character_at, characters_of -/
namespace Sb
open PySem PySem.Spec PyProof.Rows L2
section
variable {P : Program} {w : World} {K : PySem.W.Frag} {mg : Str → Option Value} {base : Heap} {A : Ads}

/-! width_of -/
abbrev sWidth : Stmt := top 17
def spWidth (CN : Addr) : Sp := fun vs H Q E => ∃ n : Nat, vs = [.int (n : Int)] ∧
  (∀ H' w, Same H H' → widthOf n = some w → Q (.int ((w : Nat) : Int)) H') ∧ (∀ H', Same H H' → widthOf n = none → E (.ref CN) none H')
theorem scWidth : FnScope ["byte", "width", "bound"] ["byte"] (defScope sWidth) := ⟨rfl, rfl, rfl, by decide +kernel, rfl, by decide +kernel, by decide +kernel⟩
def bnds : List V := [.int 128, .int 224, .int 240, .int 248]
theorem cut_bounds : cutV [.int 128, .int 192, .int 224, .int 240, .int 248] (some 2) none = [.int 224, .int 240, .int 248] := by decide +kernel
theorem ok_width (T : Txt K mg A) (G1 : Has P w K mg base (L2N.CX P w) "want" 3 ["truth"] (spWant A.CN)) {f : Addr} {fd : FuncData} (F : Fun K "width_of" "width_of" sWidth f fd) :
    FnOk P w K mg base (L2N.CX P w) 4 f fd ["byte"] (spWidth A.CN) := by
  refine F.okN scWidth (fun vs H Q E h => ?_) (fun cdv A' outer s H vs Q E hr h => ⟨_, pss_cons (ps_expr (call_has G1 hr (L2N.passAt (L2N.takes_of rfl rfl rfl rfl)) (pa_cons
      (pe_or (pe_cmp (pc_lt (pv 0) (pe_ix ix_tup (glob_tup T.BOUNDS) pe_int (fun _ _ => rfl)))) (pe_one (pe_cmp (pc_le (pe_ix ix_tup (glob_tup T.BOUNDS) pe_int (fun _ _ => rfl)) (pv 0))))) pa_nil)))
    (pss_cons (ps_for (passes_of rfl) rfl (pi_enum_tup (by rfl) T.enumerate (pa_cons (pe_op op_catT (pe_tup (pa_cons (pe_ix ix_tup (glob_tup T.BOUNDS) pe_int (fun _ _ => rfl)) pa_nil)) (pe_slice sl_tup (glob_tup T.BOUNDS) (po_some pe_int) po_none)) pa_nil))
      (pg_tup rfl (pgs_cons (pg_name (i := 1) scWidth.nd rfl (.inl rfl)) (pgs_cons (pg_name (i := 2) scWidth.nd rfl (.inl rfl)) pgs_nil)))
      (pss_one (ps_if (pt_cmp (pc_lt (pv 0) (pv 2))) (pss_one (ps_ret (pe_op op_add (pv 1) pe_int))) pss_nil)))
    (pss_one (L2N.ps_raise rfl (L2N.takes_of rfl rfl rfl rfl) (L2N.pmk_own PySem.F.excBase_ValueError T.xN T.gN T.kN (raises_own T.bN T.tN) rfl)))), ?_⟩)
  · obtain ⟨n, rfl, _⟩ := h
    rfl
  · obtain ⟨n, rfl, k1, k2⟩ := h
    refine ⟨_, rfl, fun a0 h0 => ⟨a0, _, 0, .int 128, rfl, rfl, h0 _, rfl, (n : Int), 128, rfl, rfl, _, rfl, ifD (fun c1 => ⟨true, rfl, fun _ => ?_, fun z => Bool.noConfusion z⟩) fun c1 => fun a1 h1 => ⟨a1, _, 1, .int 192, rfl, rfl, h1 _, rfl, _, rfl, 192, (n : Int), rfl, rfl, decide ((192 : Int) ≤ (n : Int)), rfl, fun c2 => ?_, fun c2 => ?_⟩⟩⟩
    rotate_right
    · have := of_decide_eq_false c2
      refine k2 H (Same.refl _) ?_
      unfold widthOf
      rw [if_neg (by omega), if_pos (by omega)]
    all_goals
      have hc : n < 128 ∨ 192 ≤ n := by
        first
        | exact .inl (by omega)
        | exact .inr (by have := of_decide_eq_true c2; omega)
      refine fun b0 g0 => ⟨b0, _, 0, .int 128, rfl, rfl, g0 _, rfl, (by show 1 ≤ sizeLine; decide), fun t1 ht1 b1 g1 => ⟨2, rfl, b1, _, rfl, g1 _, (by decide), fun p hp => ⟨t1, p, [.int 128], _, rfl, rfl, SqT.of ?_, SqT.of upd_same, (by decide), (by decide), (by rw [cut_bounds]; intro z; cases z), fun _ q hq => ?_⟩⟩⟩
      · rw [upd_ne (ne_of_none upd_same hp)]
        exact upd_same
      · rw [cut_bounds] at hq ⊢
        have s0 : Same H (upd (upd (upd H t1 (.tup [.int 128])) p (.tup [.int 224, .int 240, .int 248])) q (.tup bnds)) := ((Same.new ht1).more hp).more hq
        refine ⟨q, bnds, rfl, SqT.of upd_same, for_it walk_enum_tup (fun i σ H' => ∃ v1 v2 : Option V, σ = [some (.int (n : Int)), v1, v2] ∧ Same H H' ∧ H' q = some (.tup bnds) ∧ (1 ≤ i → 128 ≤ n) ∧ (2 ≤ i → 224 ≤ n) ∧ (3 ≤ i → 240 ≤ n) ∧ (4 ≤ i → 248 ≤ n))
          ⟨none, none, rfl, s0, upd_same, (by omega), (by omega), (by omega), (by omega)⟩ (fun i σ H' _ ⟨_, _, _, _, h, _⟩ => SqT.of h) ?_ ?_⟩
        · rintro i x σ H1 H2 hi ⟨v1, v2, rfl, s1, hq1, i1, i2, i3, i4⟩ ⟨T0, x0, y0, rfl, hT, rfl, ex, ey⟩
          cases ex
          refine ⟨T0, _, rfl, SqT.of upd_same, rfl, _, _, rfl, _, _, rfl, rfl, ?_⟩
          have hi4 : i < 4 := hi
          have s2 := s1.more (o := .tup [.int ((i : Nat) : Int), y0]) hT
          have hq2 : upd H1 T0 (.tup [.int ((i : Nat) : Int), y0]) q = some (.tup bnds) := by
            rw [upd_ne (ne_of_none hq1 hT)]
            exact hq1
          obtain ⟨b, rfl, hw, hn⟩ : ∃ b : Nat, y0 = .int (b : Int) ∧ (n < b → widthOf n = some (i + 1)) ∧ (b ≤ n → (1 ≤ i + 1 → 128 ≤ n) ∧ (2 ≤ i + 1 → 224 ≤ n) ∧ (3 ≤ i + 1 → 240 ≤ n) ∧ (4 ≤ i + 1 → 248 ≤ n)) := by
            match i, hi4, ey, i1, i2, i3 with
            | 0, _, ey, _, _, _ =>
              refine ⟨128, (Option.some.inj ey).symm, fun h => ?_, fun h => ⟨by omega, by omega, by omega, by omega⟩⟩
              unfold widthOf
              rw [if_pos h]
            | 1, _, ey, i1, _, _ =>
              have := i1 (by omega)
              refine ⟨224, (Option.some.inj ey).symm, fun h => ?_, fun h => ⟨by omega, by omega, by omega, by omega⟩⟩
              unfold widthOf
              rw [if_neg (by omega), if_neg (by omega), if_pos h]
            | 2, _, ey, i1, i2, _ =>
              have := i2 (by omega)
              refine ⟨240, (Option.some.inj ey).symm, fun h => ?_, fun h => ⟨by omega, by omega, by omega, by omega⟩⟩
              unfold widthOf
              rw [if_neg (by omega), if_neg (by omega), if_neg (by omega), if_pos h]
            | 3, _, ey, i1, i2, i3 =>
              have := i3 (by omega)
              refine ⟨248, (Option.some.inj ey).symm, fun h => ?_, fun h => ⟨by omega, by omega, by omega, by omega⟩⟩
              unfold widthOf
              rw [if_neg (by omega), if_neg (by omega), if_neg (by omega), if_neg (by omega), if_pos h]
          refine ⟨_, rfl, _, rfl, (n : Int), (b : Int), rfl, rfl, _, rfl, ifD (fun c => ?_) fun c => ?_⟩
          · exact ⟨_, rfl, _, _, rfl, rfl, k1 _ (i + 1) s2 (hw (by omega))⟩
          · exact ⟨_, _, rfl, s2, hq2, hn (by omega)⟩
        · rintro σ H' ⟨v1, v2, rfl, s1, hq1, i1, i2, i3, i4⟩
          refine k2 H' s1 ?_
          have h4 := i4 (Nat.le_refl 4)
          unfold widthOf
          rw [if_neg (by omega), if_neg (by omega), if_neg (by omega), if_neg (by omega), if_neg (by omega)]

/-! character_at -/
abbrev sCharAt : Stmt := top 18
def spCharAt (K : PySem.W.Frag) (CN : Addr) : Sp := fun vs H Q E => ∃ (a : Addr) (ns : List Nat) (k w x : Nat) (r : List Nat), vs = [.ref a, .int (k : Int), .int (w : Int)] ∧ SqL K H a (nv ns) ∧ ns.length ≤ 70000 ∧ ns.drop k = x :: r ∧ widthOf x = some w ∧
  (∀ H' c, Same H H' → charM (x :: r) w = some c → Q (.int ((c : Nat) : Int)) H') ∧ (∀ H', Same H H' → charM (x :: r) w = none → E (.ref CN) none H')
theorem scCharAt : FnScope ["some", "at", "width", "found", "byte"] ["some", "at", "width"] (defScope sCharAt) := ⟨rfl, rfl, rfl, by decide +kernel, rfl, by decide +kernel, by decide +kernel⟩
theorem cont_append : ∀ (l s : List Nat) (f : Nat), cont f (l ++ s) = (cont f l).bind fun g => cont g s
  | [], _, _ => rfl
  | b :: l, s, f => by
    show (if b / 64 = 2 then cont (64 * f + b % 64) (l ++ s) else none) = (if b / 64 = 2 then cont (64 * f + b % 64) l else none).bind _
    split
    · exact cont_append l s _
    · rfl
theorem cont_none {l : List Nat} {i f g b : Nat} (h : cont f (l.take i) = some g) (hb : l[i]? = some b) (hn : b / 64 ≠ 2) : cont f l = none := by
  have e : l = l.take i ++ (b :: l.drop (i + 1)) := by
    obtain ⟨hi, e⟩ := List.getElem?_eq_some_iff.mp hb
    rw [← e, ← List.drop_eq_getElem_cons hi, List.take_append_drop]
  rw [e, cont_append, h]
  show cont g (b :: l.drop (i + 1)) = none
  unfold cont
  rw [if_neg hn]
theorem cont_more {l : List Nat} {i f g b : Nat} (h : cont f (l.take i) = some g) (hb : l[i]? = some b) (hn : b / 64 = 2) : cont f (l.take (i + 1)) = some (64 * g + b % 64) := by
  rw [take_more hb, cont_append, h]
  show cont g [b] = _
  unfold cont
  rw [if_pos hn]
  rfl
theorem cut_part (ns : List Nat) (k w x : Nat) (r : List Nat) (hd : ns.drop k = x :: r) (hw : 1 ≤ w) (hl : k + w ≤ ns.length) : cutV (nv ns) (some ((k : Int) + 1)) (some ((k : Int) + (w : Int))) = nv (r.take (w - 1)) := by
  unfold cutV
  have e1 : (k : Int) + 1 = ((k + 1 : Nat) : Int) := by omega
  have e2 : (k : Int) + (w : Int) = ((k + w : Nat) : Int) := by omega
  rw [e1, e2, HT.sIx_nat, HT.sIx_nat, nv_length, Nat.min_eq_left hl, Nat.min_eq_left (by omega)]
  have e3 : k + w - (k + 1) = w - 1 := by omega
  have e4 : ns.drop (k + 1) = r := by
    rw [← List.drop_drop, hd]
    rfl
  rw [e3]
  unfold nv
  rw [← List.map_drop, ← List.map_take, e4]
theorem first_py {x w : Nat} (h : widthOf x = some w) (h1 : (1 : Int) < (w : Int)) : (x : Int) - (256 - 1 * 2 ^ ((8 : Int) - (w : Int)).toNat) = ((firstOf w x : Nat) : Int) := by
  have hc := widthOf_cases h
  unfold firstOf
  rw [if_pos (by omega)]
  rcases hc with ⟨rfl, _⟩ | ⟨rfl, _, _⟩ | ⟨rfl, _, _⟩ | ⟨rfl, _, _⟩
  · omega
  · show (x : Int) - (256 - 1 * 2 ^ (6 : Nat)) = ((x - (256 - 2 ^ (6 : Nat)) : Nat) : Int)
    omega
  · show (x : Int) - (256 - 1 * 2 ^ (5 : Nat)) = ((x - (256 - 2 ^ (5 : Nat)) : Nat) : Int)
    omega
  · show (x : Int) - (256 - 1 * 2 ^ (4 : Nat)) = ((x - (256 - 2 ^ (4 : Nat)) : Nat) : Int)
    omega
theorem least_at {x w : Nat} (h : widthOf x = some w) : atI [V.int 0, V.int 128, V.int 2048, V.int 65536] ((w : Int) - 1) = some (.int ((least w : Nat) : Int)) := by
  rcases widthOf_cases h with ⟨rfl, _⟩ | ⟨rfl, _⟩ | ⟨rfl, _⟩ | ⟨rfl, _⟩ <;> decide +kernel
theorem ok_charAt (T : Txt K mg A) (G1 : Has P w K mg base (L2N.CX P w) "want" 3 ["truth"] (spWant A.CN)) (G2 : Has P w K mg base CX0 "is_character" 2 ["one"] spIsCh) {f : Addr} {fd : FuncData} (F : Fun K "character_at" "character_at" sCharAt f fd) :
    FnOk P w K mg base (L2N.CX P w) 4 f fd ["some", "at", "width"] (spCharAt K A.CN) := by
  refine F.okN scCharAt (fun vs H Q E h => ?_) (fun cdv A' outer s H vs Q E hr h => ⟨_, pss_cons (ps_expr (call_has G1 hr (L2N.passAt (L2N.takes_of rfl rfl rfl rfl)) (pa_cons
      (pe_cmp (pc_le (pe_op op_add (pv 1) (pv 2)) (pe_callB call_len_seq (by rfl) T.len PySem.boot_len (pa_cons (pv 0) pa_nil)))) pa_nil)))
    (pss_cons (ps_set (i := 3) scCharAt.nd rfl (.inl rfl) (pe_ix ix_list (pv 0) (pv 1) (fun _ _ => rfl)))
    (pss_cons (ps_if (pt_cmp (pc_gt (pv 2) pe_int)) (pss_one (ps_set (i := 3) scCharAt.nd rfl (.inl rfl) (pe_op op_sub (pv 3) (pe_op op_sub pe_int (pe_op op_shl pe_int (pe_op op_sub pe_int (pv 2))))))) pss_nil)
    (pss_cons (ps_for (passes_of rfl) rfl (pi_list (pe_slice sl_list (pv 0) (po_some (pe_op op_add (pv 1) pe_int)) (po_some (pe_op op_add (pv 1) (pv 2))))) (pg_name (i := 4) scCharAt.nd rfl (.inl rfl))
      (pss_cons (ps_expr (call_has G1 hr (L2N.passAt (L2N.takes_of rfl rfl rfl rfl)) (pa_cons (pe_cmp (pc_eqI (pe_op op_fdiv (pv 4) pe_int) pe_int)) pa_nil)))
      (pss_one (ps_set (i := 3) scCharAt.nd rfl (.inl rfl) (pe_op op_add (pe_op op_mul pe_int (pv 3)) (pe_op op_mod (pv 4) pe_int))))))
    (pss_cons (ps_expr (call_has G1 hr (L2N.passAt (L2N.takes_of rfl rfl rfl rfl)) (pa_cons
      (pe_and (pe_cmp (pc_ge (pv 3) (pe_ix ix_tup (glob_tup T.LEASTS) (pe_op op_sub (pv 2) pe_int) (fun _ _ => rfl)))) (pe_one (call_has G2 (hr.mono (by decide)) (E := fun _ => E0) at0 (pa_cons (pv 3) pa_nil)))) pa_nil)))
    (pss_one (ps_ret (pv 3))))))), ?_⟩)
  · obtain ⟨a, ns, k, w, x, r, rfl, _⟩ := h
    rfl
  · obtain ⟨a, ns, k, wd, x, r, rfl, hS, hlen, hd, hw, k1, k2⟩ := h
    have hw4 := widthOf_pos hw
    have hll : ns.length = k + (r.length + 1) := by
      have := congrArg List.length hd
      rw [List.length_drop, List.length_cons] at this
      omega
    refine ⟨_, rfl, _, rfl, _, _, rfl, rfl, _, rfl, a, _, rfl, .inl hS, _, _, rfl, rfl, _, rfl, fun c1 => ?_, fun c1 => ?_⟩
    · have c1' := of_decide_eq_true c1
      rw [nv_length] at c1'
      have hkw : k + wd ≤ ns.length := by omega
      have hx : ns[k]? = some x := by
        rw [← List.head?_drop, hd]
        rfl
      refine ⟨_, rfl, _, rfl, a, _, _, _, rfl, rfl, hS, atI_nat (nv_at hx), ?_⟩
      have key : ∀ (b : List Nat), b = r.take (wd - 1) → (∀ H' c, Same H H' → cont (firstOf wd x) b = some c → least wd ≤ c → SyBase.isChar c = true → Q (.int ((c : Nat) : Int)) H') ∧ (∀ H', Same H H' → (cont (firstOf wd x) b = none ∨ ∃ c, cont (firstOf wd x) b = some c ∧ ¬ (least wd ≤ c ∧ SyBase.isChar c = true)) → E (.ref A.CN) none H') := by
        rintro b rfl
        have e : charM (x :: r) wd = (cont (firstOf wd x) (r.take (wd - 1))).bind fun c => if least wd ≤ c ∧ SyBase.isChar c = true then some c else none := by
          unfold charM
          rw [if_pos (by rw [List.length_cons]; omega)]
          rfl
        refine ⟨fun H' c s1 h1 h2 h3 => k1 H' c s1 ?_, fun H' s1 h1 => k2 H' s1 ?_⟩
        · rw [e, h1]
          show (if _ then _ else _) = _
          rw [if_pos ⟨h2, h3⟩]
        · rw [e]
          rcases h1 with h1 | ⟨c, h1, h2⟩
          · rw [h1]; rfl
          · rw [h1]
            show (if _ then _ else _) = _
            rw [if_neg h2]
      obtain ⟨q1, q2⟩ := key _ rfl
      refine ⟨_, rfl, _, _, rfl, rfl, _, rfl, ifD (fun c2 => ⟨_, rfl, _, rfl, _, _, rfl, rfl, _, _, rfl, rfl, ⟨by omega, by omega, by decide⟩, _, _, rfl, rfl, _, _, rfl, rfl, ?_⟩) fun c2 => ?_⟩
      all_goals
        refine ⟨_, rfl, _, rfl, _, _, rfl, rfl, _, rfl, _, rfl, _, rfl, _, _, rfl, rfl, _, rfl, a, _, rfl, hS, fun L hL => ⟨L, rfl, ⟨_, SqL.of upd_same⟩, ?_⟩⟩
        refine for_list (K := K) (a := L) (xs := nv (r.take (wd - 1))) (fun i σ H' => ∃ (v : Option V) (g : Nat), σ = [some (.ref a), some (.int (k : Int)), some (.int (wd : Int)), some (.int (g : Int)), v] ∧ Same H H' ∧ H' L = some (lstN (r.take (wd - 1))) ∧ cont (firstOf wd x) ((r.take (wd - 1)).take i) = some g)
          ⟨none, firstOf wd x, ?_, Same.new hL, ?_, by simp [cont]⟩ (fun i σ H' _ ⟨_, _, _, _, h, _⟩ => SqL.of h) ?_ ?_
        · first
          | (rw [← first_py hw c2]; rfl)
          | (have e1 : firstOf wd x = x := by
               unfold firstOf
               rw [if_neg (by omega)]
             rw [e1]; rfl)
        · rw [upd_same]
          unfold lstN
          exact congrArg (fun z => some (HO.lst z)) (cut_part ns k wd x r hd hw4.1 hkw)
        · rintro i y σ H' hi ⟨v, g, rfl, s1, hL1, hg⟩
          obtain ⟨b, hb, rfl⟩ := nv_get hi
          refine ⟨_, rfl, _, _, rfl, rfl, ⟨by decide, by decide⟩, _, _, rfl, rfl, _, rfl, fun c3 => ?_, fun c3 => ?_⟩
          · have c3' : b / 64 = 2 := by
              have := of_decide_eq_true c3
              omega
            refine ⟨_, rfl, _, _, rfl, rfl, .inl ⟨by decide, by decide⟩, _, rfl, _, _, rfl, rfl, (by show (0 : Int) < 64; decide), _, _, rfl, rfl, some (.int (b : Int)), 64 * g + b % 64, ?_, s1, hL1, cont_more hg hb c3'⟩
            have e : (64 : Int) * (g : Int) + (b : Int) % 64 = ((64 * g + b % 64 : Nat) : Int) := by omega
            exact congrArg (fun z => [some (V.ref a), some (V.int (k : Int)), some (V.int (wd : Int)), some (V.int z), some (V.int (b : Int))]) e
          · have c3' : b / 64 ≠ 2 := by
              have := of_decide_eq_false c3
              omega
            exact q2 H' s1 (.inl (cont_none hg hb c3'))
        · rintro σ H' ⟨v, g, rfl, s1, hL1, hg⟩
          rw [nv_length, List.take_length] at hg
          refine ⟨_, rfl, fun b0 g0 => ⟨_, rfl, _, _, rfl, rfl, b0, _, _, _, rfl, rfl, g0 _, least_at hw, _, _, rfl, rfl, _, rfl, ifD (fun c3 => ?_) fun c3 => ?_⟩⟩
          · refine ⟨_, rfl, g, rfl, _, rfl, fun c4 => ⟨_, rfl, q1 H' g s1 hg (by omega) c4⟩, fun c4 => q2 H' s1 (.inr ⟨g, hg, fun z => ?_⟩)⟩
            rw [c4] at z
            exact Bool.noConfusion z.2
          · exact ⟨false, rfl, fun z => Bool.noConfusion z, fun _ => q2 H' s1 (.inr ⟨g, hg, fun z => c3 (by omega)⟩)⟩
    · have c1' := of_decide_eq_false c1
      rw [nv_length] at c1'
      refine k2 H (Same.refl _) (charM_short _ _ ?_)
      rw [List.length_cons]
      omega
end
end Sb
end
section
/-! Walks 4: characters_of, number_of, parts_of, row_in -/
namespace Sb
open PySem PySem.Spec PyProof.Rows L2
section
variable {P : Program} {w : World} {K : PySem.W.Frag} {mg : Str → Option Value} {base : Heap} {A : Ads}

/-! characters_of -/
abbrev sChars : Stmt := top 19
def spChars (K : PySem.W.Frag) (CN : Addr) : Sp := fun vs H Q E => ∃ (a : Addr) (ns : List Nat), vs = [.ref a] ∧ SqL K H a (nv ns) ∧ ns.length ≤ 70000 ∧
  (∀ H' p cs, Same H H' → chars ns = some cs → H' p = some (lstN cs) → Q (.ref p) H') ∧ (∀ H', Same H H' → chars ns = none → E (.ref CN) none H')
theorem scChars : FnScope ["some", "found", "at", "width"] ["some"] (defScope sChars) := ⟨rfl, rfl, rfl, by decide +kernel, rfl, by decide +kernel, by decide +kernel⟩
theorem chars_len : ∀ (n : Nat) (l cs : List Nat), l.length ≤ n → chars l = some cs → cs.length ≤ l.length
  | _, [], cs, _, h => by cases h; simp
  | 0, _ :: _, _, h, _ => by simp at h
  | n + 1, x :: r, cs, hl, h => by
    cases hw : widthOf x with
    | none => rw [chars_none_w hw] at h; cases h
    | some w =>
      have hp := widthOf_pos hw
      cases hc : charM (x :: r) w with
      | none => rw [chars_none_c hw hc] at h; cases h
      | some c =>
        rw [chars_step hw hc] at h
        cases e : chars ((x :: r).drop w) with
        | none => rw [e] at h; cases h
        | some t =>
          rw [e] at h
          cases h
          simp only [List.length_cons] at hl
          have := chars_len n ((x :: r).drop w) t (by rw [List.length_drop, List.length_cons]; omega) e
          rw [List.length_drop, List.length_cons] at this
          rw [List.length_cons, List.length_cons]
          omega
theorem ok_chars (T : Txt K mg A) (G1 : Has P w K mg base (L2N.CX P w) "width_of" 4 ["byte"] (spWidth A.CN)) (G2 : Has P w K mg base (L2N.CX P w) "character_at" 4 ["some", "at", "width"] (spCharAt K A.CN)) {f : Addr} {fd : FuncData} (F : Fun K "characters_of" "characters_of" sChars f fd) :
    FnOk P w K mg base (L2N.CX P w) 5 f fd ["some"] (spChars K A.CN) := by
  refine F.okN scChars (fun vs H Q E h => ?_) (fun cdv A' outer s H vs Q E hr h => ⟨_, pss_cons (ps_set (i := 1) scChars.nd rfl (.inl rfl) (pe_lst pa_nil))
    (pss_cons (ps_set (i := 2) scChars.nd rfl (.inl rfl) pe_int)
    (pss_cons (ps_while (passes_of rfl) (pt_cmp (pc_lt (pv 2) (pe_callB call_len_seq (by rfl) T.len PySem.boot_len (pa_cons (pv 0) pa_nil))))
      (pss_cons (ps_set (i := 3) scChars.nd rfl (.inl rfl) (call_has G1 hr (L2N.passAt (L2N.takes_of rfl rfl rfl rfl)) (pa_cons (pe_ix ix_list (pv 0) (pv 2) (fun _ _ => rfl)) pa_nil)))
      (pss_cons (ps_expr (pe_bm PySem.F.plainAttrs_list PySem.F.slot_list_append PySem.F.type_list_append mt_append (pv 1)
        (pa_cons (call_has G2 hr (L2N.passAt (L2N.takes_of rfl rfl rfl rfl)) (pa_cons (pv 0) (pa_cons (pv 2) (pa_cons (pv 3) pa_nil)))) pa_nil)))
      (pss_one (ps_aug (i := 2) scChars.nd rfl (.inl rfl) (pv 3) ip_add)))))
    (pss_one (ps_ret (pv 1))))), ?_⟩)
  · obtain ⟨a, ns, rfl, _⟩ := h
    rfl
  · obtain ⟨a, ns, rfl, hS, hlen, k1, k2⟩ := h
    refine ⟨Nat.zero_le _, fun D hD => ?_⟩
    refine while_by (fun σ H' => ∃ (v : Option V) (k : Nat) (Hx : Hp) (cs : List Nat), σ = [some (.ref a), some (.ref D), some (.int (k : Int)), v] ∧ Off Hx H' D (lstN cs) ∧ Same H Hx ∧ k ≤ ns.length ∧ cs.length ≤ k ∧ chars ns = (chars (ns.drop k)).map fun t => cs ++ t)
      (fun (σ : L2.St) (_ : Hp) => match σ[2]? with | some (some (V.int z)) => ns.length - z.toNat | _ => 0) ⟨none, 0, H, [], rfl, Off.new hD, Same.refl _, Nat.zero_le _, Nat.le_refl _, ?_⟩ ?_ ?_
    · show chars ns = (chars ns).map fun t => [] ++ t
      cases chars ns <;> rfl
    · rintro σ H' ⟨v, k, Hx, cs, rfl, f, s1, hk, hcs, ec⟩
      have sH : Same H H' := s1.trans f.same
      refine ⟨_, rfl, _, rfl, a, _, rfl, .inl (sH.seq hS), _, _, rfl, rfl, _, rfl, ifD (fun c1 => ?_) fun c1 => ?_⟩
      · rw [nv_length] at c1
        have hk' : k < ns.length := by omega
        obtain ⟨x, r, hd⟩ : ∃ x r, ns.drop k = x :: r := ⟨_, _, List.drop_eq_getElem_cons hk'⟩
        have hx : ns[k]? = some x := by
          rw [← List.head?_drop, hd]
          rfl
        rw [hd] at ec
        refine ⟨_, rfl, _, rfl, a, _, _, _, rfl, rfl, sH.seq hS, atI_nat (nv_at hx), x, rfl, fun H1 wd s2 hw => ?_, fun H1 s2 hw => k2 H1 (sH.trans s2) (by rw [ec, chars_none_w hw]; rfl)⟩
        obtain ⟨Hy, f1, s3⟩ := f.call s2
        refine ⟨_, rfl, .inl ⟨rfl, _, SqL.of f1.at⟩, _, rfl, _, rfl, _, rfl, a, ns, k, wd, x, r, rfl, (sH.trans s2).seq hS, hlen, hd, hw, fun H2 c s4 hc => ?_, fun H2 s4 hc => k2 H2 ((sH.trans s2).trans s4) (by rw [ec, chars_none_c hw hc]; rfl)⟩
        obtain ⟨Hz, f2, s5⟩ := f1.call s4
        have hp := widthOf_pos hw
        have hcl := charM_len hc
        have hdl := congrArg List.length hd
        rw [List.length_drop] at hdl
        refine ⟨D, _, _, rfl, rfl, f2.at, ?_, _, rfl, _, rfl, _, _, rfl, rfl, ?_⟩
        · rw [nv_length, sizeLine_eq]
          omega
        · refine ⟨⟨some (.int (wd : Int)), k + wd, Hz, cs ++ [c], ?_, ?_, (s1.trans s3).trans s5, by omega, ?_, ?_⟩, ?_⟩
          · have e : (k : Int) + (wd : Int) = ((k + wd : Nat) : Int) := by omega
            exact congrArg (fun z => [some (V.ref a), some (V.ref D), some (V.int z), some (V.int (wd : Int))]) e
          · have := f2.put (lstN (cs ++ [c]))
            unfold lstN at this ⊢
            rw [nv_snoc] at this ⊢
            exact this
          · rw [List.length_append, List.length_singleton]
            omega
          · rw [ec, chars_step hw hc]
            have e : ns.drop (k + wd) = (x :: r).drop wd := by rw [← List.drop_drop, hd]
            rw [e]
            cases chars ((x :: r).drop wd) with
            | none => rfl
            | some t => simp
          · show ns.length - ((k : Int) + (wd : Int)).toNat < ns.length - (k : Int).toNat
            omega
      · rw [nv_length] at c1
        have hk' : k = ns.length := by omega
        subst hk'
        rw [List.drop_length] at ec
        have ec' : chars ns = some cs := by
          rw [ec]
          show some (cs ++ []) = some cs
          rw [List.append_nil]
        exact ⟨_, rfl, k1 H' D cs sH ec' f.at⟩
    · intro σ H' Q1 Q2 hq h
      obtain ⟨v1, e1, v2, e2, q, ys, e3, e4, i, j, e5, e6, c, e7, h⟩ := h
      exact ⟨v1, e1, v2, e2, q, ys, e3, e4, i, j, e5, e6, c, e7, hq _ _ h⟩

/-! number_of -/
abbrev sNum : Stmt := top 20
def spNum (K : PySem.W.Frag) (CN : Addr) : Sp := fun vs H Q E => ∃ (a : Addr) (ns : List Nat), vs = [.ref a] ∧ SqL K H a (nv ns) ∧ ns.length ≤ 70000 ∧
  (∀ H' n, Same H H' → numM ns = some n → Q (.int ((n : Nat) : Int)) H') ∧ (∀ H', Same H H' → numM ns = none → E (.ref CN) none H')
theorem scNum : FnScope ["part", "one", "found"] ["part"] (defScope sNum) := ⟨rfl, rfl, rfl, by decide +kernel, rfl, by decide +kernel, by decide +kernel⟩
theorem bl_snoc (bs : List Bool) (b : Bool) : (bs ++ [b]).map V.bl = bs.map V.bl ++ [V.bl b] := by simp
theorem all_map {p : Nat → Bool} (ns : List Nat) : (ns.map p).all id = ns.all p := by
  induction ns with
  | nil => rfl
  | cons n r ih => simp [ih]
theorem ok_num (T : Txt K mg A) (G1 : Has P w K mg base (L2N.CX P w) "want" 3 ["truth"] (spWant A.CN)) {f : Addr} {fd : FuncData} (F : Fun K "number_of" "number_of" sNum f fd) :
    FnOk P w K mg base (L2N.CX P w) 4 f fd ["part"] (spNum K A.CN) := by
  refine F.okN scNum (fun vs H Q E h => ?_) (fun cdv A' outer s H vs Q E hr h => ⟨_, pss_cons (ps_expr (call_has G1 hr (L2N.passAt (L2N.takes_of rfl rfl rfl rfl)) (pa_cons
      (pe_and (pe_cmpR (op_neD hr.units) (pv 0) (pe_lst pa_nil) (nomark _)) (pe_one (pe_callB (cr_all rfl) (by rfl) T.all (by decide +kernel) (pa_cons
        (pe_lc (own := [("one", 1)]) (g := gName 1) (tt := tYes) rfl scNum.nd (pi_list (pv 0)) (blkOk_by (N := ["part", "one", "found"]) (sc := defScope sNum) (by decide +kernel)) (fun _ _ _ _ _ => pg_name (i := 1) scNum.nd rfl (.inl rfl)) (fun _ _ _ _ _ => pts_nil)
          (fun _ _ _ _ _ => pe_and (pe_cmp (pc_le (glob_int T.ZERO) (pv 1))) (pe_one (pe_cmp (pc_le (pv 1) (pe_op op_add (glob_int T.ZERO) pe_int)))))) pa_nil)))) pa_nil)))
    (pss_cons (ps_expr (call_has G1 hr (L2N.passAt (L2N.takes_of rfl rfl rfl rfl)) (pa_cons
      (pe_or (pe_cmp (pc_neI (pe_ix ix_list (pv 0) pe_int (fun _ _ => rfl)) (glob_int T.ZERO))) (pe_one (pe_cmp (pc_eqI (pe_callB call_len_seq (by rfl) T.len PySem.boot_len (pa_cons (pv 0) pa_nil)) pe_int)))) pa_nil)))
    (pss_cons (ps_set (i := 2) scNum.nd rfl (.inl rfl) pe_int)
    (pss_cons (ps_for (passes_of rfl) rfl (pi_list (pv 0)) (pg_name (i := 1) scNum.nd rfl (.inl rfl))
      (pss_one (ps_set (i := 2) scNum.nd rfl (.inl rfl) (pe_op op_sub (pe_op op_add (pe_op op_mul pe_int (pv 2)) (pv 1)) (glob_int T.ZERO)))))
    (pss_one (ps_ret (pv 2)))))), ?_⟩)
  · obtain ⟨a, ns, rfl, _⟩ := h
    rfl
  · obtain ⟨a, ns, rfl, hS, hlen, k1, k2⟩ := h
    have nok : ∀ H', Same H H' → ¬ (ns ≠ [] ∧ ns.all isDig = true ∧ (ns.headD 0 ≠ 48 ∨ ns.length = 1)) → E (.ref A.CN) none H' := fun H' s1 h => k2 H' s1 (by unfold numM; rw [if_neg h])
    have yok : ∀ H', Same H H' → (ns ≠ [] ∧ ns.all isDig = true ∧ (ns.headD 0 ≠ 48 ∨ ns.length = 1)) → Q (.int ((ns.foldl (fun n c => 10 * n + (c - 48)) 0 : Nat) : Int)) H' := fun H' s1 h => k1 H' _ s1 (by unfold numM; rw [if_pos h])
    refine ⟨_, rfl, Nat.zero_le _, fun z hz => ⟨.list (ns.map fun (n : Nat) => PyData.int (n : Int)), .list [], .lst ((Same.new hz).seq hS) (dpAll_ints ns), .lst (SqL.of upd_same) .nil, shaped_ints ns, shaped_nil, _, rfl, ?_⟩⟩
    rw [eqv_nil]
    have s1 : Same H (upd H z (.lst [])) := Same.new hz
    by_cases hne : ns = []
    · subst hne
      exact iteF ⟨false, rfl, fun z => Bool.noConfusion z, fun _ => nok _ s1 fun z => z.1 rfl⟩
    · have e1 : (!(ns.map fun (n : Nat) => PyData.int (n : Int)).isEmpty) = true := by
        cases ns with
        | nil => exact absurd rfl hne
        | cons _ _ => rfl
      refine ifT e1 ?_
      refine ⟨_, rfl, a, rfl, ⟨_, s1.seq hS⟩, fun D hD => ?_⟩
      refine lc_list (K := K) (a := a) (xs := nv ns) (fun i H' => ∃ Hx, Off Hx H' D (.lst (((ns.take i).map isDig).map V.bl)) ∧ Same (upd H z (.lst [])) Hx) ⟨_, Off.new hD, Same.refl _⟩ (fun i H' _ ⟨Hx, f, s2⟩ => ((s1.trans s2).trans f.same).seq hS) ?_ ?_
      · rintro i x H' hi ⟨Hx, f, s2⟩
        obtain ⟨n, hn, rfl⟩ := nv_get hi
        have hil := (List.getElem?_eq_some_iff.mp hn).1
        refine ⟨rfl, tyes ?_⟩
        have fin : ∃ acc, H' D = some (.lst acc) ∧ acc.length < sizeLine ∧ ∃ Hx, Off Hx (upd H' D (.lst (acc ++ [V.bl (isDig n)]))) D (.lst (((ns.take (i + 1)).map isDig).map V.bl)) ∧ Same (upd H z (.lst [])) Hx := by
          refine ⟨_, f.at, ?_, Hx, ?_, s2⟩
          · rw [List.length_map, List.length_map, List.length_take, sizeLine_eq]
            omega
          · rw [take_more hn, List.map_append, List.map_append]
            exact f.put _
        unfold isDig at fin
        refine ⟨_, rfl, _, (n : Int), rfl, rfl, _, rfl, ifD (fun h1 => ?_) fun h1 => ?_⟩
        · rw [decide_eq_true (show 48 ≤ n by omega), Bool.true_and] at fin
          refine ⟨_, rfl, _, _, rfl, rfl, (n : Int), _, rfl, rfl, ?_⟩
          have e : decide ((n : Int) ≤ 48 + 9) = decide (n ≤ 57) := decide_eq_decide.mpr (by omega)
          show ∃ acc, H' D = some (.lst acc) ∧ acc.length < sizeLine ∧ ∃ Hx, Off Hx (upd H' D (.lst (acc ++ [V.bl (decide ((n : Int) ≤ 48 + 9))]))) D (.lst (((ns.take (i + 1)).map isDig).map V.bl)) ∧ Same (upd H z (.lst [])) Hx
          rw [e]
          exact fin
        · rw [decide_eq_false (show ¬ 48 ≤ n by omega), Bool.false_and] at fin
          exact fin
      · rintro H' ⟨Hx, f, s2⟩
        have sH : Same H H' := (s1.trans s2).trans f.same
        rw [nv_length, List.take_length] at f
        refine ⟨D, ns.map isDig, rfl, SqL.of f.at, ?_⟩
        rw [all_map]
        refine ⟨ns.all isDig, rfl, fun h2 => ?_, fun h2 => nok _ sH fun z => by rw [h2] at z; exact Bool.noConfusion z.2.1⟩
        obtain ⟨x, r, hxr⟩ : ∃ x r, ns = x :: r := by
          cases ns with
          | nil => exact absurd rfl hne
          | cons x r => exact ⟨x, r, rfl⟩
        have hx0 : ns[0]? = some x := by rw [hxr]; rfl
        have hh : ns.headD 0 = x := by rw [hxr]; rfl
        have rest : (ns.headD 0 ≠ 48 ∨ ns.length = 1) → tSeq (tAsg (tC (.int 0)) (gName 2)) (tSeq (tFor (iList K (tVar 0)) (gName 1) (tAsg (tOp (rI0 fun i j => .int (i - j)) (tOp (rI0 fun i j => .int (i + j)) (tOp (rI CMul fun i j => .int (i * j)) (tC (.int 10)) (tVar 2)) (tVar 1)) (tC (.int 48))) (gName 2)))
            (tRet (tVar 2))) { nx := fun _ H' => Q .non H', rt := Q } [some (.ref a), none, none] H' := fun h3 => by
          refine ⟨_, rfl, a, rfl, ⟨_, sH.seq hS⟩, for_list (K := K) (a := a) (xs := nv ns) (fun i σ H'' => ∃ v : Option V, σ = [some (.ref a), v, some (.int (((ns.take i).foldl (fun n c => 10 * n + (c - 48)) 0 : Nat) : Int))] ∧ Same H H'') ⟨none, rfl, sH⟩ (fun i σ H'' _ ⟨_, _, s⟩ => s.seq hS) ?_ ?_⟩
          · rintro i y σ H'' hi ⟨v, rfl, s3⟩
            obtain ⟨n, hn, rfl⟩ := nv_get hi
            have hdn : isDig n = true := List.all_eq_true.mp h2 n (List.mem_of_getElem? hn)
            unfold isDig at hdn
            rw [Bool.and_eq_true, decide_eq_true_eq, decide_eq_true_eq] at hdn
            refine ⟨_, rfl, _, _, rfl, rfl, .inl ⟨by decide, by decide⟩, _, rfl, _, _, rfl, rfl, _, _, rfl, rfl, some (.int (n : Int)), ?_, s3⟩
            rw [take_more hn, List.foldl_append]
            have e : (10 : Int) * (((ns.take i).foldl (fun n c => 10 * n + (c - 48)) 0 : Nat) : Int) + (n : Int) - 48 = ((10 * (ns.take i).foldl (fun n c => 10 * n + (c - 48)) 0 + (n - 48) : Nat) : Int) := by omega
            exact congrArg (fun z => [some (V.ref a), some (V.int (n : Int)), some (V.int z)]) e
          · rintro σ H'' ⟨v, rfl, s3⟩
            rw [nv_length, List.take_length]
            exact ⟨_, rfl, yok H'' s3 ⟨hne, h2, h3⟩⟩
        refine ⟨_, rfl, a, _, 0, _, rfl, rfl, sH.seq hS, atI_nat (j := 0) (nv_at hx0), (x : Int), _, rfl, rfl, _, rfl, ite2 (fun h3 => ?_) fun h3 => ?_⟩
        · have h3' : x ≠ 48 := fun e => by
            rw [e] at h3
            exact absurd h3 (by decide)
          exact ⟨true, rfl, fun _ => rest (.inl (by rw [hh]; exact h3')), fun z => Bool.noConfusion z⟩
        · have h3' : x = 48 := by
            by_cases e : x = 48
            · exact e
            · exact absurd (by show (!decide ((x : Int) = 48)) = true; rw [decide_eq_false (show ¬ (x : Int) = 48 by omega)]; rfl) h3
          refine ⟨_, rfl, a, _, rfl, .inl (sH.seq hS), _, _, rfl, rfl, _, rfl, fun h4 => rest (.inr ?_), fun h4 => nok _ sH fun z => ?_⟩
          · have := of_decide_eq_true h4
            rw [nv_length] at this
            omega
          · have := of_decide_eq_false h4
            rw [nv_length] at this
            rw [hh] at z
            omega
end
end Sb
end
section
/-! Walks 5: parts_of, row_in -/
namespace Sb
open PySem PySem.Spec PyProof.Rows L2
section
variable {P : Program} {w : World} {K : PySem.W.Frag} {mg : Str → Option Value} {base : Heap} {A : Ads}

/-! parts_of -/
abbrev sParts : Stmt := top 21
def spParts (K : PySem.W.Frag) (CN : Addr) : Sp := fun vs H Q E => ∃ (t : Addr) (l : List Nat × Bool) (m : Nat), vs = [.ref t, .int (m : Int)] ∧ LineAt H t l ∧ l.1.length ≤ 70000 ∧
  (∀ H' p ps, Same H H' → partsM l m = some ps → Rows H' p ps → (∀ q ∈ ps, q.length ≤ 70000) → Q (.ref p) H') ∧ (∀ H', Same H H' → partsM l m = none → E (.ref CN) none H')
theorem scParts : FnScope ["line", "many", "some", "is_ended", "found"] ["line", "many"] (defScope sParts) := ⟨rfl, rfl, rfl, by decide +kernel, rfl, by decide +kernel, by decide +kernel⟩
theorem ok_parts (T : Txt K mg A) (G1 : Has P w K mg base (L2N.CX P w) "want" 3 ["truth"] (spWant A.CN)) (G2 : Has P w K mg base (L2N.CX P w) "characters_of" 5 ["some"] (spChars K A.CN)) (G3 : Has P w K mg base CX0 "parted" 2 ["some", "mark"] (spParted K)) {f : Addr} {fd : FuncData} (F : Fun K "parts_of" "parts_of" sParts f fd) :
    FnOk P w K mg base (L2N.CX P w) 6 f fd ["line", "many"] (spParts K A.CN) := by
  refine F.okN scParts (fun vs H Q E h => ?_) (fun cdv A' outer s H vs Q E hr h => ⟨_, pss_cons (ps_asg (pv 0) (pg_tup rfl (pgs_cons (pg_name (i := 2) scParts.nd rfl (.inl rfl)) (pgs_cons (pg_name (i := 3) scParts.nd rfl (.inl rfl)) pgs_nil))))
    (pss_cons (ps_expr (call_has G1 (hr.mono (by decide)) (L2N.passAt (L2N.takes_of rfl rfl rfl rfl)) (pa_cons (pv 3) pa_nil)))
    (pss_cons (ps_set (i := 4) scParts.nd rfl (.inl rfl) (call_has G3 (hr.mono (by decide)) (E := fun _ => E0) at0 (pa_cons (call_has G2 hr (L2N.passAt (L2N.takes_of rfl rfl rfl rfl)) (pa_cons (pv 2) pa_nil)) (pa_cons (glob_int T.BLANK) pa_nil))))
    (pss_cons (ps_expr (call_has G1 (hr.mono (by decide)) (L2N.passAt (L2N.takes_of rfl rfl rfl rfl)) (pa_cons (pe_cmp (pc_eqI (pe_callB call_len_seq (by rfl) T.len PySem.boot_len (pa_cons (pv 4) pa_nil)) (pv 1))) pa_nil)))
    (pss_one (ps_ret (pv 4)))))), ?_⟩)
  · obtain ⟨t, l, m, rfl, _⟩ := h
    rfl
  · obtain ⟨t, l, m, rfl, ⟨r, h1, h2⟩, hlen, k1, k2⟩ := h
    refine ⟨_, rfl, t, _, rfl, SqT.of h1, rfl, _, _, rfl, _, _, rfl, rfl, ?_⟩
    refine ⟨_, rfl, l.2, rfl, fun c1 => ?_, fun c1 => k2 H (Same.refl _) (by unfold partsM; rw [c1]; rfl)⟩
    have ep : partsM l m = (chars l.1).bind fun cs => if (parted 32 cs).length = m then some (parted 32 cs) else none := by
      unfold partsM
      rw [if_pos c1]
    refine ⟨_, rfl, r, l.1, rfl, SqL.of h2, hlen, fun H1 p cs s1 hc hp => ?_, fun H1 s1 hc => k2 H1 s1 (by rw [ep, hc]; rfl)⟩
    have hcl : cs.length ≤ 70000 := Nat.le_trans (chars_len _ _ _ (Nat.le_refl _) hc) hlen
    refine ⟨p, cs, 32, rfl, SqL.of hp, hcl, fun H2 q s2 hR => ?_⟩
    obtain ⟨as, ha, ho⟩ := id hR
    refine ⟨_, rfl, q, _, rfl, .inl (SqL.of ha), _, rfl, _, _, rfl, rfl, _, rfl, fun c2 => ?_, fun c2 => ?_⟩
    · have c2' := of_decide_eq_true c2
      rw [refs_len, ho.len] at c2'
      refine ⟨_, rfl, k1 H2 q _ (s1.trans s2) ?_ hR fun z hz => Nat.le_trans (parted_all 32 cs z hz) hcl⟩
      rw [ep, hc]
      show (if _ then _ else _) = _
      rw [if_pos (by omega)]
    · have c2' := of_decide_eq_false c2
      rw [refs_len, ho.len] at c2'
      refine k2 H2 (s1.trans s2) ?_
      rw [ep, hc]
      show (if _ then _ else _) = _
      rw [if_neg (by omega)]

/-! row_in -/
abbrev sRow : Stmt := top 32
def spRow (K : PySem.W.Frag) (CN : Addr) : Sp := fun vs H Q E => ∃ (a : Addr) (ns : List Nat), vs = [.ref a] ∧ SqL K H a (nv ns) ∧ ns.length ≤ 70000 ∧
  (∀ H' p r, Same H H' → rowM ns = some r → H' p = some (.tup (nv r)) → Q (.ref p) H') ∧ (∀ H', Same H H' → rowM ns = none → E (.ref CN) none H')
theorem scRow : FnScope ["part", "one"] ["part"] (defScope sRow) := ⟨rfl, rfl, rfl, by decide +kernel, rfl, by decide +kernel, by decide +kernel⟩
theorem ok_row (T : Txt K mg A) (G1 : Has P w K mg base (L2N.CX P w) "want" 3 ["truth"] (spWant A.CN)) (G2 : Has P w K mg base CX0 "may_stand" 3 ["one"] spMay) {f : Addr} {fd : FuncData} (F : Fun K "row_in" "row_in" sRow f fd) :
    FnOk P w K mg base (L2N.CX P w) 4 f fd ["part"] (spRow K A.CN) := by
  refine F.okN scRow (fun vs H Q E h => ?_) (fun cdv A' outer s H vs Q E hr h => ⟨_, pss_cons (ps_expr (call_has G1 hr (L2N.passAt (L2N.takes_of rfl rfl rfl rfl)) (pa_cons
      (pe_and (pe_cmpR (op_neD hr.units) (pv 0) (pe_lst pa_nil) (nomark _)) (pe_one (pe_callB (cr_all rfl) (by rfl) T.all (by decide +kernel) (pa_cons
        (pe_lc (own := [("one", 1)]) (g := gName 1) (tt := tYes) rfl scRow.nd (pi_list (pv 0)) (blkOk_by (N := ["part", "one"]) (sc := defScope sRow) (by decide +kernel)) (fun _ _ _ _ _ => pg_name (i := 1) scRow.nd rfl (.inl rfl)) (fun _ _ _ _ _ => pts_nil)
          (fun _ _ _ _ _ => call_has G2 hr (E := fun _ => E0) at0 (pa_cons (pv 1) pa_nil))) pa_nil)))) pa_nil)))
    (pss_one (ps_ret (pe_callTy call_tuple_of (by rfl) T.tuple (by decide +kernel) (pa_cons (pv 0) pa_nil)))), ?_⟩)
  · obtain ⟨a, ns, rfl, _⟩ := h
    rfl
  · obtain ⟨a, ns, rfl, hS, hlen, k1, k2⟩ := h
    refine ⟨_, rfl, Nat.zero_le _, fun z hz => ⟨.list (ns.map fun (n : Nat) => PyData.int (n : Int)), .list [], .lst ((Same.new hz).seq hS) (dpAll_ints ns), .lst (SqL.of upd_same) .nil, shaped_ints ns, shaped_nil, _, rfl, ?_⟩⟩
    rw [eqv_nil]
    have s1 : Same H (upd H z (.lst [])) := Same.new hz
    by_cases hne : ns = []
    · subst hne
      exact iteF ⟨false, rfl, fun z => Bool.noConfusion z, fun _ => k2 _ s1 rfl⟩
    · have e1 : (!(ns.map fun (n : Nat) => PyData.int (n : Int)).isEmpty) = true := by
        cases ns with
        | nil => exact absurd rfl hne
        | cons _ _ => rfl
      refine ifT e1 ?_
      refine ⟨_, rfl, a, rfl, ⟨_, s1.seq hS⟩, fun D hD => ?_⟩
      refine lc_list (K := K) (a := a) (xs := nv ns) (fun i H' => ∃ Hx, Off Hx H' D (.lst (((ns.take i).map SyLex.isSign).map V.bl)) ∧ Same (upd H z (.lst [])) Hx) ⟨_, Off.new hD, Same.refl _⟩ (fun i H' _ ⟨Hx, f, s2⟩ => ((s1.trans s2).trans f.same).seq hS) ?_ ?_
      · rintro i x H' hi ⟨Hx, f, s2⟩
        obtain ⟨n, hn, rfl⟩ := nv_get hi
        have hil := (List.getElem?_eq_some_iff.mp hn).1
        refine ⟨rfl, tyes ?_⟩
        refine ⟨_, rfl, n, rfl, _, f.at, ?_, Hx, ?_, s2⟩
        · rw [List.length_map, List.length_map, List.length_take, sizeLine_eq]
          omega
        · rw [take_more hn, List.map_append, List.map_append]
          exact f.put _
      · rintro H' ⟨Hx, f, s2⟩
        have sH : Same H H' := (s1.trans s2).trans f.same
        rw [nv_length, List.take_length] at f
        refine ⟨D, ns.map SyLex.isSign, rfl, SqL.of f.at, ?_⟩
        rw [all_map]
        refine ⟨ns.all SyLex.isSign, rfl, fun h2 => ?_, fun h2 => k2 _ sH ?_⟩
        · refine ⟨_, rfl, a, _, rfl, .inl ⟨sH.seq hS, fun l hl => k1 _ l ns (sH.more hl) ?_ upd_same⟩⟩
          unfold rowM
          rw [if_pos ⟨hne, h2⟩]
        · unfold rowM
          rw [if_neg fun z => by rw [h2] at z; exact Bool.noConfusion z.2]
end
end Sb
end
section
/-! Walks 6: the class Word, rank_of -/
namespace Sb
open PySem PySem.Spec PyProof.Rows L2
/-- a new instance, made -/
def mkIns (H : Hp) (x dx C : Addr) (F : List (Str × V)) : Hp := upd (upd H dx (.own x)) x (.ins C dx F)
theorem mkIns_same {H : Hp} {x dx C : Addr} {F : List (Str × V)} (hx : H x = none) (hd : H dx = none) : Same H (mkIns H x dx C F) := (Same.new hd).at hx
theorem mkIns_at {H : Hp} {x dx C : Addr} {F : List (Str × V)} : mkIns H x dx C F x = some (.ins C dx F) := upd_same
section
variable {P : Program} {w : World} {K : PySem.W.Frag} {mg : Str → Option Value} {base : Heap} {A : Ads}
/-- at a a word -/
def wdF (s1 s2 : Addr) (x : SyLex.Word) : List (Str × V) := wF (.ref s1) (.ref s2) (.int (x.left : Int)) (.int (x.right : Int)) (.int (x.cost : Int))
def WordAt (C : Addr) (H : Hp) (a : Addr) (x : SyLex.Word) : Prop := ∃ dx s1 s2, H a = some (.ins C dx (wdF s1 s2 x)) ∧ H s1 = some (.tup (nv x.reading)) ∧ H s2 = some (.tup (nv x.text))
theorem WordAt.same {C : Addr} {H H' : Hp} {a : Addr} {x : SyLex.Word} (h : WordAt C H a x) (s : Same H H') : WordAt C H' a x := by
  obtain ⟨dx, s1, s2, h1, h2, h3⟩ := h
  exact ⟨dx, s1, s2, s _ _ h1, s _ _ h2, s _ _ h3⟩
/-- at l the words -/
def WordsAt (C : Addr) (H : Hp) (l : Addr) (xs : List SyLex.Word) : Prop := ∃ as, H l = some (.lst (refs as)) ∧ Paired (WordAt C H) as xs
theorem WordsAt.same {C : Addr} {H H' : Hp} {a : Addr} {xs : List SyLex.Word} (h : WordsAt C H a xs) (s : Same H H') : WordsAt C H' a xs := by
  obtain ⟨as, h1, h2⟩ := h
  exact ⟨as, s _ _ h1, Paired.mapP h2 fun _ _ q => q.same s⟩

/-! __init__ -/
abbrev sWInit : Stmt := inClass (top 31) 0
def spWInit (C : Addr) : Sp := fun vs H Q _ => ∃ (p dx : Addr) (v1 v2 v3 v4 v5 : V), vs = [.ref p, v1, v2, v3, v4, v5] ∧ H p = some (.ins C dx []) ∧ Q .non (upd H p (.ins C dx (wF v1 v2 v3 v4 v5)))
theorem scWInit : FnScope ["self", "sounds", "signs", "left", "right", "cost"] ["self", "sounds", "signs", "left", "right", "cost"] (defScope sWInit) := ⟨rfl, rfl, rfl, by decide +kernel, rfl, by decide +kernel, by decide +kernel⟩
theorem ok_wInit (T : Txt K mg A) {f : Addr} {fd : FuncData} (F : Fun K "__init__" "Word.__init__" sWInit f fd) : FnOk P w K mg base CX0 1 f fd ["self", "sounds", "signs", "left", "right", "cost"] (spWInit A.CW) := by
  refine F.ok scWInit (fun vs H Q E h => ?_) (fun cdv A' outer s H vs Q E hr h => ⟨_, pss_cons (ps_fld (pv 0) (pv 1) rfl) (pss_cons (ps_fld (pv 0) (pv 2) rfl) (pss_cons (ps_fld (pv 0) (pv 3) rfl) (pss_cons (ps_fld (pv 0) (pv 4) rfl) (pss_one (ps_fld (pv 0) (pv 5) rfl))))), ?_⟩)
  · obtain ⟨p, dx, v1, v2, v3, v4, v5, rfl, _⟩ := h
    rfl
  · obtain ⟨p, dx, v1, v2, v3, v4, v5, rfl, hp, k⟩ := h
    refine ⟨_, rfl, _, rfl, p, A.CW, dx, [], rfl, hp, T.clW, T.aW _ (.head _), (by show 0 < 1000; decide), ?_⟩
    refine ⟨_, rfl, _, rfl, p, A.CW, dx, _, rfl, upd_same, T.clW, T.aW _ (.tail _ (.head _)), (by show 1 < 1000; decide), ?_⟩
    refine ⟨_, rfl, _, rfl, p, A.CW, dx, _, rfl, upd_same, T.clW, T.aW _ (.tail _ (.tail _ (.head _))), few2, ?_⟩
    refine ⟨_, rfl, _, rfl, p, A.CW, dx, _, rfl, upd_same, T.clW, T.aW _ (.tail _ (.tail _ (.tail _ (.head _)))), few3, ?_⟩
    refine ⟨_, rfl, _, rfl, p, A.CW, dx, _, rfl, upd_same, T.clW, T.aW _ (.tail _ (.tail _ (.tail _ (.tail _ (.head _))))), few4, ?_⟩
    rw [wF_new, upd_upd, upd_upd, upd_upd, upd_upd]
    exact k

/-! is_within -/
abbrev sWithin : Stmt := inClass (top 31) 1
def spWithin (C : Addr) : Sp := fun vs H Q _ => ∃ (a : Addr) (x : SyLex.Word), vs = [.ref a] ∧ WordAt C H a x ∧ Q (.bl x.small) H
theorem scWithin : FnScope ["self"] ["self"] (defScope sWithin) := ⟨rfl, rfl, rfl, by decide +kernel, rfl, by decide +kernel, by decide +kernel⟩
theorem small_iff (x : SyLex.Word) : x.small = (decide (x.reading.length ≤ 32) && (decide (x.text.length ≤ 32) && (decide (x.left < 256) && (decide (x.right < 256) && decide (x.cost ≤ 65535))))) := rfl
theorem ok_within (T : Txt K mg A) {f : Addr} {fd : FuncData} (F : Fun K "is_within" "Word.is_within" sWithin f fd) : FnOk P w K mg base CX0 2 f fd ["self"] (spWithin A.CW) := by
  refine F.ok scWithin (fun vs H Q E h => ?_) (fun cdv A' outer s H vs Q E hr h => ⟨_, pss_cons (ps_if (PW.pt (pw_or (pt_cmp (pc_gt (pe_callB call_len_seq (by rfl) T.len PySem.boot_len (pa_cons (pe_fld (pv 0) rfl) pa_nil)) (glob_int T.MOST_SIGNS_lexicons)))
      (pw_or (pt_cmp (pc_gt (pe_callB call_len_seq (by rfl) T.len PySem.boot_len (pa_cons (pe_fld (pv 0) rfl) pa_nil)) (glob_int T.MOST_SIGNS_lexicons))) (pw_or1 (pt_cmp (pc_gt (pe_fld (pv 0) rfl) (glob_int T.MOST_COST))))))) (pss_one (ps_ret pe_bl)) pss_nil)
    (pss_one (ps_ret (pe_and (pe_cmp (pc_le (pe_fld (pv 0) rfl) (glob_int T.MOST_SORT))) (pe_one (pe_cmp (pc_le (pe_fld (pv 0) rfl) (glob_int T.MOST_SORT))))))), ?_⟩)
  · obtain ⟨a, x, rfl, _⟩ := h
    rfl
  · obtain ⟨a, x, rfl, ⟨dx, s1, s2, h1, h2, h3⟩, k⟩ := h
    rw [small_iff] at k
    refine ⟨_, rfl, a, A.CW, dx, _, _, rfl, h1, T.clW, T.aW _ (.head _), wF_sounds, s1, _, rfl, .inr (SqT.of h2), _, _, rfl, rfl, _, rfl, ?_⟩
    refine ifD (fun c1 => ?_) fun c1 => ?_
    · rw [nv_length] at c1
      rw [decide_eq_false (show ¬ x.reading.length ≤ 32 by omega), Bool.false_and] at k
      exact iteT k
    rw [nv_length] at c1
    rw [decide_eq_true (show x.reading.length ≤ 32 by omega), Bool.true_and] at k
    refine ⟨_, rfl, a, A.CW, dx, _, _, rfl, h1, T.clW, T.aW _ (.tail _ (.head _)), wF_signs, s2, _, rfl, .inr (SqT.of h3), _, _, rfl, rfl, _, rfl, ?_⟩
    refine ifD (fun c2 => ?_) fun c2 => ?_
    · rw [nv_length] at c2
      rw [decide_eq_false (show ¬ x.text.length ≤ 32 by omega), Bool.false_and] at k
      exact iteT k
    rw [nv_length] at c2
    rw [decide_eq_true (show x.text.length ≤ 32 by omega), Bool.true_and] at k
    refine ⟨_, rfl, a, A.CW, dx, _, _, rfl, h1, T.clW, T.aW _ (.tail _ (.tail _ (.tail _ (.tail _ (.head _))))), wF_cost, _, _, rfl, rfl, _, rfl, ?_⟩
    refine ifD (fun c3 => ?_) fun c3 => ?_
    · rw [decide_eq_false (show ¬ x.cost ≤ 65535 by omega), Bool.and_false, Bool.and_false] at k
      exact k
    rw [decide_eq_true (show x.cost ≤ 65535 by omega), Bool.and_true] at k
    refine ⟨_, rfl, a, A.CW, dx, _, _, rfl, h1, T.clW, T.aW _ (.tail _ (.tail _ (.head _))), wF_left, _, _, rfl, rfl, _, rfl, ifD (fun c4 => ?_) fun c4 => ?_⟩
    · rw [decide_eq_true (show x.left < 256 by omega), Bool.true_and] at k
      refine ⟨_, rfl, a, A.CW, dx, _, _, rfl, h1, T.clW, T.aW _ (.tail _ (.tail _ (.tail _ (.head _)))), wF_right, _, _, rfl, rfl, ?_⟩
      rw [show decide (x.right < 256) = decide ((x.right : Int) ≤ 255) from decide_eq_decide.mpr (by omega)] at k
      exact k
    · rw [decide_eq_false (show ¬ x.left < 256 by omega), Bool.false_and] at k
      exact k

/-! name, rank, rank_of -/
abbrev sName : Stmt := inClass (top 31) 2
def spName (C : Addr) : Sp := fun vs H Q _ => ∃ (a dx s1 s2 : Addr) (x : SyLex.Word), vs = [.ref a] ∧ H a = some (.ins C dx (wdF s1 s2 x)) ∧ ∀ p, H p = none → Q (.ref p) (upd H p (.tup [.ref s1, .ref s2]))
theorem scName : FnScope ["self"] ["self"] (defScope sName) := ⟨rfl, rfl, rfl, by decide +kernel, rfl, by decide +kernel, by decide +kernel⟩
theorem ok_name (T : Txt K mg A) {f : Addr} {fd : FuncData} (F : Fun K "name" "Word.name" sName f fd) : FnOk P w K mg base CX0 1 f fd ["self"] (spName A.CW) := by
  refine F.ok scName (fun vs H Q E h => ?_) (fun cdv A' outer s H vs Q E hr h => ⟨_, pss_one (ps_ret (pe_tup (pa_cons (pe_fld (pv 0) rfl) (pa_cons (pe_fld (pv 0) rfl) pa_nil)))), ?_⟩)
  · obtain ⟨a, dx, s1, s2, x, rfl, _⟩ := h
    rfl
  · obtain ⟨a, dx, s1, s2, x, rfl, h1, k⟩ := h
    exact ⟨_, rfl, a, A.CW, dx, _, _, rfl, h1, T.clW, T.aW _ (.head _), wF_sounds, _, rfl, a, A.CW, dx, _, _, rfl, h1, T.clW, T.aW _ (.tail _ (.head _)), wF_signs, (by show 2 ≤ sizeLine; decide), k⟩
abbrev sRank : Stmt := inClass (top 31) 3
def spRank (C : Addr) : Sp := fun vs H Q _ => ∃ (a dx s1 s2 : Addr) (x : SyLex.Word), vs = [.ref a] ∧ H a = some (.ins C dx (wdF s1 s2 x)) ∧ ∀ p, H p = none → Q (.ref p) (upd H p (.tup [.ref s1, .int (x.cost : Int), .ref s2]))
theorem scRank : FnScope ["self"] ["self"] (defScope sRank) := ⟨rfl, rfl, rfl, by decide +kernel, rfl, by decide +kernel, by decide +kernel⟩
theorem ok_rank (T : Txt K mg A) {f : Addr} {fd : FuncData} (F : Fun K "rank" "Word.rank" sRank f fd) : FnOk P w K mg base CX0 1 f fd ["self"] (spRank A.CW) := by
  refine F.ok scRank (fun vs H Q E h => ?_) (fun cdv A' outer s H vs Q E hr h => ⟨_, pss_one (ps_ret (pe_tup (pa_cons (pe_fld (pv 0) rfl) (pa_cons (pe_fld (pv 0) rfl) (pa_cons (pe_fld (pv 0) rfl) pa_nil))))), ?_⟩)
  · obtain ⟨a, dx, s1, s2, x, rfl, _⟩ := h
    rfl
  · obtain ⟨a, dx, s1, s2, x, rfl, h1, k⟩ := h
    exact ⟨_, rfl, a, A.CW, dx, _, _, rfl, h1, T.clW, T.aW _ (.head _), wF_sounds, _, rfl, a, A.CW, dx, _, _, rfl, h1, T.clW, T.aW _ (.tail _ (.tail _ (.tail _ (.tail _ (.head _))))), wF_cost,
      _, rfl, a, A.CW, dx, _, _, rfl, h1, T.clW, T.aW _ (.tail _ (.head _)), wF_signs, (by show 3 ≤ sizeLine; decide), k⟩
abbrev sRankOf : Stmt := top 36
theorem scRankOf : FnScope ["word"] ["word"] (defScope sRankOf) := ⟨rfl, rfl, rfl, by decide +kernel, rfl, by decide +kernel, by decide +kernel⟩
theorem ok_rankOf (T : Txt K mg A) (G1 : MHas P w K mg base CX0 A.CW "rank" 1 ["self"] (spRank A.CW)) {f : Addr} {fd : FuncData} (F : Fun K "rank_of" "rank_of" sRankOf f fd) : FnOk P w K mg base CX0 2 f fd ["word"] (spRank A.CW) := by
  refine F.ok scRankOf (fun vs H Q E h => ?_) (fun cdv A' outer s H vs Q E hr h => ⟨_, pss_one (ps_ret (meth_has0 G1 T.clW hr (pv 0))), ?_⟩)
  · obtain ⟨a, dx, s1, s2, x, rfl, _⟩ := h
    rfl
  · obtain ⟨a, dx, s1, s2, x, rfl, h1, k⟩ := h
    exact ⟨_, rfl, a, dx, _, rfl, h1, wF_no_rank, a, dx, s1, s2, x, rfl, h1, k⟩
end
end Sb
end
section
/-! Rules 4: the class Fault: made, raised, in a suite too -/
namespace Sb
open PySem PySem.Spec PyProof.Rows L2
abbrev sFInit : Stmt := inClass (top 10) 0
def spFInit (C : Addr) : Sp := fun vs H Q _ => ∃ (a : Addr) (v1 v2 : V), vs = [.ref a, v1, v2] ∧ H a = some (exo a C none) ∧
  ∀ dx, H dx = none → dx ≠ a → Q .non (upd (upd (upd H dx (exd dx [("line", v1)])) a (exo a C (some dx))) dx (exd dx [("kind", v2), ("line", v1)]))
theorem scFInit : FnScope ["self", "line", "kind"] ["self", "line", "kind"] (defScope sFInit) := ⟨rfl, rfl, rfl, by decide +kernel, rfl, by decide +kernel, by decide +kernel⟩
section
variable {P : Program} {w : World} {K : PySem.W.Frag} {mg : Str → Option Value} {base : Heap} {A : Ads}
theorem pure_fInit {X : Cx} (T : Txt X.K X.mg A) (vs : List V) (H : Hp) (Q : VK) (E : XK) (h : spFInit A.CF vs H Q E) :
    tSeq (tOst X.K "line" (tVar 0) (tVar 1)) (tOst X.K "kind" (tVar 0) (tVar 2)) { nx := fun _ H' => Q .non H', rt := Q } (start ["self", "line", "kind"] vs) H := by
  obtain ⟨a, v1, v2, rfl, ha, k⟩ := h
  refine ⟨_, rfl, _, rfl, a, A.CF, rfl, T.oF, T.nFl, .inl ⟨ha, fun dx hd hne => ?_⟩⟩
  refine ⟨_, rfl, _, rfl, a, A.CF, rfl, T.oF, T.nFk, .inr ⟨dx, _, upd_same, ?_, (by show 1 ≤ 900; decide), k dx hd hne⟩⟩
  rw [upd_ne hne]
  exact upd_same
theorem ok_fInit (T : Txt K mg A) {f : Addr} {fd : FuncData} (F : Fun K "__init__" "Fault.__init__" sFInit f fd) : FnOk P w K mg base CX0 1 f fd ["self", "line", "kind"] (spFInit A.CF) := by
  refine F.ok scFInit (fun vs H Q E h => ?_) (fun cdv A' outer s H vs Q E hr h => ⟨_, pss_cons (ps_ost (pv 0) (pv 1)) (pss_one (ps_ost (pv 0) (pv 2))), pure_fInit (X := (cxOf CX0 P w K mg base ["self", "line", "kind"] "Fault.__init__" (defScope sFInit) f cdv A' outer s H E).nox) T vs H Q E h⟩)
  obtain ⟨a, v1, v2, rfl, _⟩ := h
  rfl
theorem okH_fInit (T : Txt K mg A) {f : Addr} {fd : FuncData} (F : Fun K "__init__" "Fault.__init__" sFInit f fd) : L2H.FnH P w K mg base CX0 1 f fd ["self", "line", "kind"] (spFInit A.CF) := by
  obtain ⟨oc, od, kV, doc, pm, an, cdv, ct, osl, rfl, lk, hcd⟩ := F.ex
  refine L2H.fn_ofH lk hcd scFInit (fun vs H Q E h => ?_) (fun A' outer s H vs Q E p hot hr h => ⟨_, pss_cons (ps_ost (pv 0) (pv 1)) (pss_one (ps_ost (pv 0) (pv 2))), pure_fInit (X := L2H.cxH CX0 P w K mg base ["self", "line", "kind"] "Fault.__init__" (defScope sFInit) f cdv A' outer s H E p) T vs H Q E h⟩)
  obtain ⟨a, v1, v2, rfl, _⟩ := h
  rfl
/-- Fault's __init__, as the text has it -/
structure FDef (K : PySem.W.Frag) (A : Ads) : Prop where
  ex : ∃ f fd, Fun K "__init__" "Fault.__init__" sFInit f fd ∧ Binds K fd ["self", "line", "kind"] [] ∧ PySem.W.findIn K (.ref A.CF) "__init__" = some (some (.ref f)) ∧ PySem.W.typeIn K (.ref f) = some (.type "function")
/-- what is told of a raised Fault -/
def tRF (C : Addr) (W : WX) (ta : TA) : TS := fun _ σ H => ta σ H fun vs H1 => ∃ v1 v2, vs = [v1, v2] ∧ ∀ d H', Same H1 H' → H1 d = none → H' d = some (.xd [("kind", v2), ("line", v1)]) → W (.ref C) (some d) σ H'
theorem mk_reading {C : Addr} {H1 : Hp} {Q : XK} {v1 v2 : V} (h : ∀ d H', Same H1 H' → H1 d = none → H' d = some (.xd [("kind", v2), ("line", v1)]) → Q (.ref C) (some d) H') :
    ([v1, v2] : List V).length ≤ 1000 ∧ ∀ a, H1 a = none → spFInit C (.ref a :: ([v1, v2] ++ [])) (upd H1 a (exo a C none)) (fun v H2 => v = .non ∧ ∃ (d : Addr) (fs : List (Str × V)), H2 a = some (exo a C (some d)) ∧ H2 d = some (exd d fs) ∧ H1 d = none ∧ Q (.ref C) (some d) (upd (del H2 a) d (.xd fs))) (fun _ _ _ => False) := by
  refine ⟨by show 2 ≤ 1000; decide, fun a ha => ⟨a, v1, v2, rfl, upd_same, fun dx hd hne => ⟨rfl, dx, _, ?_, upd_same, ?_, ?_⟩⟩⟩
  · rw [upd_ne (Ne.symm hne)]
    exact upd_same
  · rw [upd_ne hne] at hd
    exact hd
  · have hd1 : H1 dx = none := by
      rw [upd_ne hne] at hd
      exact hd
    refine h dx _ (fun b o e => ?_) hd1 upd_same
    have nb : b ≠ dx := ne_of_none e hd1
    have na : b ≠ a := ne_of_none e ha
    rw [upd_ne nb, del_ne na, upd_ne nb, upd_ne na, upd_ne nb, upd_ne na]
    exact e
variable {X : Cx} {e1 e2 : Expr} {ta : TA} {W : WX} {p pos pos2 : Pos}
/-- a reading of arguments that asks no more for less -/
def MonoA (ta : TA) : Prop := ∀ (σ : L2.St) (H : Hp) (Q Q' : List V → Hp → Prop), (∀ vs H1, Q vs H1 → Q' vs H1) → ta σ H Q → ta σ H Q'
theorem mono_vc {i : Nat} {c : V} : MonoA (tCons (tVar i) (tCons (tC c) tNil)) := fun _ _ _ _ h ⟨v, e, q⟩ => ⟨v, e, h _ _ q⟩
theorem mono_cc {b c : V} : MonoA (tCons (tC b) (tCons (tC c) tNil)) := fun _ _ _ _ h q => h _ _ q
/-- raise Fault(e1, e2) -/
theorem ps_raiseF (hc : X.calm = true) (T : Txt X.K X.mg A) (D : FDef X.K A) (hr : Room 2 X.A) (tk : Takes X W) (ha : PA X [e1, e2] ta) (mono : MonoA ta) (hg : Gl X "Fault" := by rfl)
    (he : starEach (e1 :: [e2]) X.env = (false, eval e1 X.env) :: starEach [e2] X.env := by rfl) (hpl : (backTo pos (starEach [e2] X.env)).any (·.1) = false := by rfl) :
    PS X (.Raise (some (.Call (.Name "Fault" p) [e1, e2] [] pos)) none pos2) (tRF A.CF W ta) := by
  obtain ⟨f, fd, F, hb, iC, tI⟩ := D.ex
  have R := ps_raise (pos := pos2) hc tk (pmk_oex (p := p) (pos := pos) T.oF iC tI (ok_fInit (P := X.prog) (w := X.w) (base := X.base) T F) hr hb .nil pass0 hg T.gF ha (by decide) he hpl)
  refine ⟨fun pins s σ H D I h => R.run pins s σ H D I (mono _ _ _ _ (fun vs H1 q => ?_) h)⟩
  obtain ⟨v1, v2, rfl, q⟩ := q
  exact mk_reading (Q := fun cls d H2 => W cls d σ H2) q
/-- the same in an except suite -/
theorem ps_raiseFH (hc : L2H.HotC X) (T : Txt X.K X.mg A) (D : FDef X.K A) (hr : L2H.RoomH 2 X.A) (tk : Takes X W) (ha : PA X [e1, e2] ta) (mono : MonoA ta) (hg : Gl X "Fault" := by rfl)
    (he : starEach (e1 :: [e2]) X.env = (false, eval e1 X.env) :: starEach [e2] X.env := by rfl) (hpl : (backTo pos (starEach [e2] X.env)).any (·.1) = false := by rfl) :
    PS X (.Raise (some (.Call (.Name "Fault" p) [e1, e2] [] pos)) none pos2) (tRF A.CF W ta) := by
  obtain ⟨f, fd, F, hb, iC, tI⟩ := D.ex
  have R := L2H.ps_raiseH (pos := pos2) hc tk (L2H.PMk5.pmk (L2H.pmk5_oexH (p := p) (pos := pos) T.oF iC tI (okH_fInit (P := X.prog) (w := X.w) (base := X.base) T F) hr hc hb pass0 hg T.gF ha (by decide) he hpl))
  refine ⟨fun pins s σ H D I h => R.run pins s σ H D I (mono _ _ _ _ (fun vs H1 q => ?_) h)⟩
  obtain ⟨v1, v2, rfl, q⟩ := q
  exact mk_reading (Q := fun cls d H2 => W cls d σ H2) q
end
end Sb
end
section
/-! Walks 7: word_of, word_in -/
namespace Sb
open PySem PySem.Spec PyProof.Rows L2
section
variable {P : Program} {w : World} {K : PySem.W.Frag} {mg : Str → Option Value} {base : Heap} {A : Ads}

/-! word_of -/
abbrev sWordOf : Stmt := top 33
def spWordOf (K : PySem.W.Frag) (CN CW : Addr) : Sp := fun vs H Q E => ∃ (t : Addr) (l : List Nat × Bool), vs = [.ref t] ∧ LineAt H t l ∧ l.1.length ≤ 70000 ∧
  (∀ H' a x, Same H H' → wordM l = some x → WordAt CW H' a x → Q (.ref a) H') ∧ (∀ H', Same H H' → wordM l = none → E (.ref CN) none H')
theorem scWordOf : FnScope ["line", "parts", "sounds", "signs"] ["line"] (defScope sWordOf) := ⟨rfl, rfl, rfl, by decide +kernel, rfl, by decide +kernel, by decide +kernel⟩
theorem five {α : Type} {l : List α} (h : l.length = 5) : ∃ a b c d e, l = [a, b, c, d, e] := by
  match l, h with
  | [a, b, c, d, e], _ => exact ⟨a, b, c, d, e, rfl⟩
theorem partsM_len {l : List Nat × Bool} {m : Nat} {ps : List (List Nat)} (h : partsM l m = some ps) : ps.length = m := by
  unfold partsM at h
  split at h
  · cases e : chars l.1 with
    | none => rw [e] at h; cases h
    | some cs =>
      rw [e] at h
      have h' : (if (parted 32 cs).length = m then some (parted 32 cs) else none) = some ps := h
      split at h'
      · cases h'
        assumption
      · cases h'
  · cases h
theorem ok_wordOf (T : Txt K mg A) (G1 : Has P w K mg base (L2N.CX P w) "parts_of" 6 ["line", "many"] (spParts K A.CN)) (G2 : Has P w K mg base (L2N.CX P w) "row_in" 4 ["part"] (spRow K A.CN))
    (G3 : Has P w K mg base (L2N.CX P w) "number_of" 4 ["part"] (spNum K A.CN)) (GI : IHas P w K mg base CX0 A.CW 1 ["self", "sounds", "signs", "left", "right", "cost"] (spWInit A.CW)) {f : Addr} {fd : FuncData} (F : Fun K "word_of" "word_of" sWordOf f fd) :
    FnOk P w K mg base (L2N.CX P w) 7 f fd ["line"] (spWordOf K A.CN A.CW) := by
  refine F.okN scWordOf (fun vs H Q E h => ?_) (fun cdv A' outer s H vs Q E hr h => ⟨_, pss_cons (ps_set (i := 1) scWordOf.nd rfl (.inl rfl) (call_has G1 hr (L2N.passAt (L2N.takes_of rfl rfl rfl rfl)) (pa_cons (pv 0) (pa_cons pe_int pa_nil))))
    (pss_cons (ps_set (i := 2) scWordOf.nd rfl (.inl rfl) (call_has G2 (hr.mono (by decide)) (L2N.passAt (L2N.takes_of rfl rfl rfl rfl)) (pa_cons (pe_ix ix_list (pv 1) pe_int (fun _ _ => rfl)) pa_nil)))
    (pss_cons (ps_set (i := 3) scWordOf.nd rfl (.inl rfl) (call_has G2 (hr.mono (by decide)) (L2N.passAt (L2N.takes_of rfl rfl rfl rfl)) (pa_cons (pe_ix ix_list (pv 1) pe_int (fun _ _ => rfl)) pa_nil)))
    (pss_one (ps_ret (make_has GI T.gW (hr.mono (by decide)) (pa_cons (pv 2) (pa_cons (pv 3)
      (pa_cons (call_has G3 (hr.mono (by decide)) (L2N.passAt (L2N.takes_of rfl rfl rfl rfl)) (pa_cons (pe_ix ix_list (pv 1) pe_int (fun _ _ => rfl)) pa_nil))
      (pa_cons (call_has G3 (hr.mono (by decide)) (L2N.passAt (L2N.takes_of rfl rfl rfl rfl)) (pa_cons (pe_ix ix_list (pv 1) pe_int (fun _ _ => rfl)) pa_nil))
      (pa_cons (call_has G3 (hr.mono (by decide)) (L2N.passAt (L2N.takes_of rfl rfl rfl rfl)) (pa_cons (pe_ix ix_list (pv 1) pe_int (fun _ _ => rfl)) pa_nil)) pa_nil)))))))))), ?_⟩)
  · obtain ⟨t, l, rfl, _⟩ := h
    rfl
  · obtain ⟨t, l, rfl, hL, hlen, k1, k2⟩ := h
    refine ⟨_, rfl, t, l, 5, rfl, hL, hlen, fun H1 p ps s1 hp hR hall => ?_, fun H1 s1 hp => k2 H1 s1 (by unfold wordM; rw [hp]; rfl)⟩
    obtain ⟨r, tt, x, y, c, rfl⟩ := five (partsM_len hp)
    have ew : wordM l = (rowM r).bind fun r => (rowM tt).bind fun t => (numM x).bind fun x => (numM y).bind fun y => (numM c).map fun c => (⟨r, t, x, y, c⟩ : SyLex.Word) := by
      unfold wordM
      rw [hp]
      rfl
    obtain ⟨as, ha, ho⟩ := id hR
    obtain ⟨a0, a1, a2, a3, a4, rfl⟩ := five (ho.len.trans rfl)
    have at0 := ho.get (i := 0) rfl
    have at1 := ho.get (i := 1) rfl
    have at2 := ho.get (i := 2) rfl
    have at3 := ho.get (i := 3) rfl
    have at4 := ho.get (i := 4) rfl
    obtain ⟨_, z0, h0⟩ := at0
    cases z0
    obtain ⟨_, z1, h1⟩ := at1
    cases z1
    obtain ⟨_, z2, h2⟩ := at2
    cases z2
    obtain ⟨_, z3, h3⟩ := at3
    cases z3
    obtain ⟨_, z4, h4⟩ := at4
    cases z4
    refine ⟨_, rfl, p, _, _, _, rfl, rfl, SqL.of ha, rfl, a0, r, rfl, SqL.of h0, hall _ (by simp), fun H2 p1 r1 s2 e1 hp1 => ?_, fun H2 s2 e1 => k2 H2 (s1.trans s2) (by rw [ew, e1]; rfl)⟩
    refine ⟨_, rfl, p, _, _, _, rfl, rfl, SqL.of (s2 _ _ ha), rfl, a1, tt, rfl, SqL.of (s2 _ _ h1), hall _ (by simp), fun H3 p2 r2 s3 e2 hp2 => ?_, fun H3 s3 e2 => k2 H3 ((s1.trans s2).trans s3) (by rw [ew, e1, e2]; rfl)⟩
    have s23 := s2.trans s3
    refine ⟨_, rfl, _, rfl, _, rfl, p, _, _, _, rfl, rfl, SqL.of (s23 _ _ ha), rfl, a2, x, rfl, SqL.of (s23 _ _ h2), hall _ (by simp), fun H4 n2 s4 e3 => ?_, fun H4 s4 e3 => k2 H4 ((s1.trans s23).trans s4) (by rw [ew, e1, e2, Option.bind_some, Option.bind_some, e3]; rfl)⟩
    have s24 := s23.trans s4
    refine ⟨_, rfl, p, _, _, _, rfl, rfl, SqL.of (s24 _ _ ha), rfl, a3, y, rfl, SqL.of (s24 _ _ h3), hall _ (by simp), fun H5 n3 s5 e4 => ?_, fun H5 s5 e4 => k2 H5 ((s1.trans s24).trans s5) (by rw [ew, e1, e2, Option.bind_some, Option.bind_some, e3, Option.bind_some, e4]; rfl)⟩
    have s25 := s24.trans s5
    refine ⟨_, rfl, p, _, _, _, rfl, rfl, SqL.of (s25 _ _ ha), rfl, a4, c, rfl, SqL.of (s25 _ _ h4), hall _ (by simp), fun H6 n4 s6 e5 => ?_, fun H6 s6 e5 => k2 H6 ((s1.trans s25).trans s6) (by rw [ew, e1, e2, Option.bind_some, Option.bind_some, e3, Option.bind_some, e4, Option.bind_some, e5]; rfl)⟩
    intro z dz hz hdz nz
    refine ⟨z, dz, _, _, _, _, _, rfl, upd_same, rfl, ?_⟩
    rw [upd_upd]
    have sN : Same H6 (mkIns H6 z dz A.CW (wdF p1 p2 ⟨r1, r2, n2, n3, n4⟩)) := mkIns_same hz hdz
    refine k1 _ z ⟨r1, r2, n2, n3, n4⟩ (((s1.trans s25).trans s6).trans sN) ?_ ⟨dz, p1, p2, upd_same, sN _ _ (s6 _ _ (s5 _ _ (s4 _ _ (s3 _ _ hp1)))), sN _ _ (s6 _ _ (s5 _ _ (s4 _ _ hp2)))⟩
    rw [ew, e1, e2, Option.bind_some, Option.bind_some, e3, Option.bind_some, e4, Option.bind_some, e5]
    rfl

/-! word_in -/
abbrev sWordIn : Stmt := top 34
def keyOf (x : SyLex.Word) : NK := (x.reading, x.text)
def fltO (k j : Nat) : HO := .xd [("kind", .int (k : Int)), ("line", .int (j : Int))]
def spWordIn (K : PySem.W.Frag) (P : Program) (w : World) (CF CW : Addr) : Sp := fun vs H Q E => ∃ (t d : Addr) (l : List Nat × Bool) (i : Nat) (ws : List SyLex.Word), vs = [.ref t, .int (i : Int), .ref d] ∧ LineAt H t l ∧ l.1.length ≤ 70000 ∧ ND P w H d (ws.map keyOf) ∧
  (∀ H' a x, Same H H' → wordIn l i ws = .ok x → WordAt CW H' a x → Q (.ref a) H') ∧ (∀ H' dd j k, Same H H' → wordIn l i ws = .error (j, k) → H dd = none → H' dd = some (fltO k j) → E (.ref CF) (some dd) H')
theorem scWordIn : FnScope ["line", "number", "known", "word", "e"] ["line", "number", "known"] (defScope sWordIn) := ⟨rfl, rfl, rfl, by decide +kernel, rfl, by decide +kernel, by decide +kernel⟩
theorem any_key (ws : List SyLex.Word) (x : SyLex.Word) : ws.any (fun q => q.same x) = decide (keyOf x ∈ ws.map keyOf) := by
  induction ws with
  | nil => rfl
  | cons q r ih =>
    rw [List.any_cons, List.map_cons, ih]
    by_cases e : keyOf q = keyOf x
    · have e1 : q.same x = true := by
        have h1 : q.reading = x.reading := congrArg Prod.fst e
        have h2 : q.text = x.text := congrArg Prod.snd e
        unfold SyLex.Word.same
        rw [h1, h2]
        simp
      rw [e1, e]
      simp
    · have e1 : q.same x = false := by
        cases h : q.same x with
        | false => rfl
        | true =>
          unfold SyLex.Word.same at h
          simp only [Bool.and_eq_true, beq_iff_eq] at h
          exact absurd (Prod.ext h.1 h.2) e
      rw [e1]
      have e' : ¬ keyOf x = keyOf q := fun z => e z.symm
      simp [e']
theorem ok_wordIn (T : Txt K mg A) (D : FDef K A) (G1 : Has P w K mg base (L2N.CX P w) "word_of" 7 ["line"] (spWordOf K A.CN A.CW)) (G2 : MHas P w K mg base CX0 A.CW "is_within" 2 ["self"] (spWithin A.CW))
    (G3 : MHas P w K mg base CX0 A.CW "name" 1 ["self"] (spName A.CW)) {f : Addr} {fd : FuncData} (F : Fun K "word_in" "word_in" sWordIn f fd) :
    FnOk P w K mg base (L2.CX P w) 8 f fd ["line", "number", "known"] (spWordIn K P w A.CF A.CW) := by
  refine F.okX scWordIn (fun vs H Q E h => ?_) (fun cdv A' outer s H vs Q E hr h => ⟨_, pss_cons (ps_try_asR (c := .ref A.CN) (i := 4) (Eo := E) (ts := fun _ _ _ => tRF A.CF (fun cls d _ H => E cls d H) (tCons (tVar 1) (tCons (tC (.int 1)) tNil))) rfl rfl scWordIn.nd rfl rfl ⟨rfl, by decide, .inl T.gN⟩ (L2H.passesAt_of rfl) (takes_of rfl rfl rfl rfl)
      (fun W pn xe tk po => pss_one (ps_set (i := 3) scWordIn.nd rfl (.inl rfl) (call_has G1 hr (L2N.passAt tk) (pa_cons (pv 0) pa_nil))))
      (fun a oe cls d pn xe tk hot => pss_one (ps_raiseFH hot T D (L2H.roomH_mark (hr.mono (by decide)) _) tk (pa_cons (pv 1) (pa_cons (glob_int T.NO_LINE) pa_nil)) mono_vc)))
    (pss_cons (ps_if (pt_not (pt_val (meth_has0 G2 T.clW (hr.mono (by decide)) (pv 3)))) (pss_one (ps_raiseF rfl T D (hr.mono (by decide)) (takes_of rfl rfl rfl rfl) (pa_cons (pv 1) (pa_cons (glob_int T.TOO_MUCH) pa_nil)) mono_vc)) pss_nil)
    (pss_cons (ps_if (pt_cmp (pc_nin hr.units (meth_has0 G3 T.clW (hr.mono (by decide)) (pv 3)) (pv 2))) (pss_one (ps_raiseF rfl T D (hr.mono (by decide)) (takes_of rfl rfl rfl rfl) (pa_cons (pv 1) (pa_cons (glob_int T.AGAIN) pa_nil)) mono_vc)) pss_nil)
    (pss_cons (ps_if (pt_cmp (pc_ge (pv 1) (glob_int T.MOST_WORDS))) (pss_one (ps_raiseF rfl T D (hr.mono (by decide)) (takes_of rfl rfl rfl rfl) (pa_cons (pv 1) (pa_cons (glob_int T.ONE_TOO_MANY) pa_nil)) mono_vc)) pss_nil)
    (pss_one (ps_ret (pv 3)))))), ?_⟩)
  · obtain ⟨t, d, l, i, ws, rfl, _⟩ := h
    rfl
  · obtain ⟨t, d, l, i, ws, rfl, hL, hlen, hN, k1, k2⟩ := h
    refine ⟨_, rfl, t, l, rfl, hL, hlen, fun H1 a x s1 ex hw => ?_, fun H1 s1 ex => ?_⟩
    · have ew : wordIn l i ws = if x.small = false then .error (i, 2) else if ws.any (fun q => q.same x) = true then .error (i, 3) else if 128 ≤ i then .error (i, 4) else .ok x := by
        unfold wordIn
        rw [ex]
      obtain ⟨dx, q1, q2, h1, h2, h3⟩ := id hw
      have er : ∀ (H2 : Hp) (j : Nat), Same H1 H2 → wordIn l i ws = .error (i, j) → ∀ (d' : Addr) (H3 : Hp), Same H2 H3 → H2 d' = none → H3 d' = some (fltO j i) → E (.ref A.CF) (some d') H3 :=
        fun H2 j s2 he d' H3 s3 hd hx => k2 H3 d' i j ((s1.trans s2).trans s3) he ((s1.trans s2).free hd) hx
      refine ⟨_, rfl, a, dx, _, rfl, h1, wF_no_is_within, a, x, rfl, hw, _, rfl, ?_⟩
      by_cases c1 : x.small = false
      · rw [if_pos c1] at ew
        exact ifT (by rw [c1]; rfl) ⟨_, rfl, _, _, rfl, fun dd H2 s2 hd hx => er H1 2 (Same.refl _) ew dd H2 s2 hd hx⟩
      rw [if_neg c1] at ew
      refine ifF (by rw [Bool.not_eq_false] at c1; rw [c1]; rfl) ?_
      refine ⟨_, rfl, a, dx, _, rfl, h1, wF_no_name, a, dx, q1, q2, x, rfl, h1, fun p hp => ?_⟩
      have s2 : Same H1 (upd H1 p (.tup [.ref q1, .ref q2])) := Same.new hp
      refine ⟨_, rfl, d, p, _, keyOf x, rfl, rfl, (hN.same s1).same s2, ⟨q1, q2, upd_same, s2 _ _ h2, s2 _ _ h3⟩, _, rfl, ?_⟩
      rw [any_key] at ew
      refine ifD (fun c2 => ?_) fun c2 => ?_
      · rw [if_pos (decide_eq_true c2)] at ew
        exact ⟨_, rfl, _, _, rfl, fun dd H2 s3 hd hx => er _ 3 s2 ew dd H2 s3 hd hx⟩
      rw [if_neg (by rw [decide_eq_false c2]; simp)] at ew
      refine ⟨_, rfl, _, _, rfl, rfl, _, rfl, ifD (fun c3 => ?_) fun c3 => ?_⟩
      · rw [if_pos (by omega)] at ew
        exact ⟨_, rfl, _, _, rfl, fun dd H2 s3 hd hx => er _ 4 s2 ew dd H2 s3 hd hx⟩
      rw [if_neg (by omega)] at ew
      exact ⟨_, rfl, k1 _ a x (s1.trans s2) ew (hw.same s2)⟩
    · refine ⟨T.eN, fun a ha => ⟨_, rfl, _, _, rfl, fun dd H2 s2 hd hx => ?_⟩⟩
      refine k2 H2 dd i 1 (s1.trans s2) (by unfold wordIn; rw [ex]) (s1.free hd) hx
end
end Sb
end
section
/-! Rules 5: sorted(xs, key=f): f a def or a bound method; its keys any alike data -/
namespace L2
open PySem PySem.Spec PyProof.Rows PySem.W
/-- f, called where sorted calls it, keeps the promise sp -/
def KeyCall (X : Cx) (f : Value) (sp : V → Hp → VK → Prop) : Prop :=
  ∀ (pins : List (Addr × Obj)) (s : Shared) (σ : St) (H : Hp) (x : V) (u : Value) (Q : VK) (E : Value → Shared → Prop), Inv X pins σ H s → RelV x u → sp x H Q →
    wpAny (model X.prog X.w) X.A.in1.in1 (call f [u]) (CE X.stack X.prog X.w H s Q) E s
section
variable {X : Cx} {k : Nat} {f g a q : Addr} {fd : FuncData} {ps : List Str} {sp : Sp}
theorem keyCall_fn (F : FnOk X.prog X.w X.K X.mg X.base CX0 k f fd ps sp) (hr : Room (k + 2) X.A) (hb : Binds X.K fd ps []) : KeyCall X (.ref f) (fun x H Q => sp [x] H Q E0) := by
  intro pins s σ H x u Q E I r h
  have rv : Vals [x] [u] := .cons r .nil
  have hl : ([u] : List Value).length = ps.length := by
    rw [← rv.length]
    exact F.len _ _ _ _ h
  have b := hb s [u] I.kIn (by rw [List.append_nil]; exact hl)
  rw [List.append_nil] at b
  refine wpAny_call (codeAny_mono (F.run X.A.in1.in1 X.stack s H ⟨[u], []⟩ [u] [x] Q E0 hr.in1.in1 I.env0.in1.in1 b rv h) fun r s' hq => ?_)
  cases r with
  | error e => exact False.elim hq
  | ok fl =>
    cases fl with
    | ret v => exact hq
    | next => exact False.elim hq
    | brk => exact False.elim hq
    | cont => exact False.elim hq
theorem keyCall_met (F : FnOk X.prog X.w X.K X.mg X.base CX0 k g fd ps sp) (hr : Room (k + 2) X.A) (hb : Binds X.K fd ps []) : KeyCall X (.ref q) (fun x H Q => H q = some (.met g a) ∧ sp [.ref a, x] H Q E0) := by
  intro pins s σ H x u Q E I r h
  obtain ⟨hq0, h⟩ := h
  have rv : Vals [.ref a, x] [.ref a, u] := .cons rfl (.cons r .nil)
  have hl : ([.ref a, u] : List Value).length = ps.length := by
    rw [← rv.length]
    exact F.len _ _ _ _ h
  have b := hb s [.ref a, u] I.kIn (by rw [List.append_nil]; exact hl)
  rw [List.append_nil] at b
  refine wpAny_call (call_met I hq0 (codeAny_mono (F.run X.A.in1.in1 X.stack s H ⟨[.ref a, u], []⟩ [.ref a, u] [.ref a, x] Q E0 hr.in1.in1 I.env0.in1.in1 b rv h) fun r s' hq => ?_))
  cases r with
  | error e => exact False.elim hq
  | ok fl =>
    cases fl with
    | ret v => exact hq
    | next => exact False.elim hq
    | brk => exact False.elim hq
    | cont => exact False.elim hq
end
/-- data in a heap with more objects -/
theorem sqT_same {K : PySem.W.Frag} {H H' : Hp} {a : Addr} {xs : List V} (e : Same H H') (h : SqT K H a xs) : SqT K H' a xs := Same.tup e h
mutual
theorem Dp.same {K : PySem.W.Frag} {H H' : Hp} (e : Same H H') : ∀ {v : V} {d : PyData}, Dp K H v d → Dp K H' v d
  | _, _, .non => .non
  | _, _, .bl b => .bl b
  | _, _, .int i => .int i
  | _, _, .str x => .str x
  | _, _, .lst h hs => .lst (e.seq h) (DpAll.same e hs)
  | _, _, .tup h hs => .tup (sqT_same e h) (DpAll.same e hs)
theorem DpAll.same {K : PySem.W.Frag} {H H' : Hp} (e : Same H H') : ∀ {vs : List V} {ds : List PyData}, DpAll K H vs ds → DpAll K H' vs ds
  | _, _, .nil => .nil
  | _, _, .cons h hs => .cons (Dp.same e h) (DpAll.same e hs)
end
theorem DpAll.snoc {K : PySem.W.Frag} {H : Hp} {v : V} {d : PyData} (h : Dp K H v d) : ∀ {vs : List V} {ds : List PyData}, DpAll K H vs ds → DpAll K H (vs ++ [v]) (ds ++ [d])
  | _, _, .nil => .cons h .nil
  | _, _, .cons h' hs => .cons h' (DpAll.snoc h hs)
theorem each_read {X : Cx} {pins : List (Addr × Obj)} {σ : St} {H : Hp} {s : Shared} (I : Inv X pins σ H s) : ∀ {vs : List V} {us : List Value} {ds : List PyData}, DpAll X.K H vs ds → Vals vs us → EachIs (fun u d => ∃ as, Reads s.heap u d as) us ds
  | [], us, _, hs, r => by
    have r' : Vals [] us := r
    cases r'
    cases hs
    exact EachIs.nil
  | v :: vs, us, _, hs, r => by
    cases hs with
    | cons h1 h2 =>
      have r' : Vals (v :: vs) us := r
      cases r' with
      | cons r1 r2 =>
        exact EachIs.cons (Dp.reads I _ _ _ h1 r1) (each_read I h2 r2)
theorem each_zip : ∀ {xs : List V} {us : List Value} {ks : List PyData}, Vals xs us → xs.length = ks.length → EachIs (fun u (p : V × PyData) => RelV p.1 u) us (xs.zip ks)
  | [], us, ks, r, _ => by
    have r' : Vals [] us := r
    cases r'
    exact EachIs.nil
  | x :: xs, us, [], r, h => by simp at h
  | x :: xs, us, k :: ks, r, h => by
    have r' : Vals (x :: xs) us := r
    cases r' with
    | cons r1 r2 => exact EachIs.cons r1 (each_zip r2 (by simpa using h))
theorem vals_each : ∀ {us : List Value} {ps : List (V × PyData)}, EachIs (fun u (p : V × PyData) => RelV p.1 u) us ps → Vals (ps.map Prod.fst) us
  | _, _, .nil => .nil
  | _, _, .cons r t => .cons r (vals_each t)
section
variable {X : Cx} {pins : List (Addr × Obj)} {σ : St} {H : Hp} {s : Shared} {fq l : Addr} {sp : V → Hp → VK → Prop} {xs : List V} {ks : List PyData} {Q : VK}
theorem run_sortedBy (KC : KeyCall X (.ref fq) sp) (hu : X.A.units + 64 < cLine) (I : Inv X pins σ H s) (hl : SqL X.K H l xs) (hlen : xs.length = ks.length) (hal : AllAlike ks) (hsk : Sortable ks) (hd : ∀ d ∈ ks, d.depth ≤ 16)
    (turn : ∀ (i : Nat) (x : V) (k : PyData), xs[i]? = some x → ks[i]? = some k → ∀ H', Same H H' → sp x H' (fun v H'' => Same H' H'' ∧ Dp X.K H'' v k))
    (q : ∀ H' p, Same H H' → H' p = some (.lst (((xs.zip ks).mergeSort (dataLe false Prod.snd)).map Prod.fst)) → Q (.ref p) H') :
    wpAny (model X.prog X.w) X.A (call (.builtin "sorted") [.ref l] [(Str.ofString "key", .ref fq)]) (EP X pins σ Q) X.xe s := by
  obtain ⟨its, rv, hL, hz⟩ := I.list hl
  have hvl : its.length = xs.length := rv.length.symm
  refine sorted_of_sort hL.isList (by rw [hvl]; exact hz) (ksk_s1 _ _) (fun _ => ksk_l1 _ _) fun E' => ?_
  rw [ksk_t1]
  obtain ⟨a, ea⟩ : ∃ a, a = s.heap.objs.size + 1 := ⟨_, rfl⟩
  have hoA := copyHeap_at s.heap its
  rw [← ea] at hoA ⊢
  have ltA : a < (copyHeap s.heap its).objs.size := Heap.lt_size hoA
  obtain ⟨e1, ho1⟩ : ∃ e1, ((copyHeap s.heap its).update a (Obj.mapSeq fun _ => (#[] : Array Value))).get? a = some (seqObj "list" #[] e1) := ⟨_, get?_update_seq hoA fun _ => #[]⟩
  obtain ⟨kS, ek⟩ : ∃ kS, kS = (((copyHeap s.heap its).update a (Obj.mapSeq fun _ => (#[] : Array Value))).push (seqObj "tuple" its.toArray 0)).objs.size := ⟨_, rfl⟩
  have hkA : kS ≠ a := by
    rw [ek, size_push', Heap.size_update]
    exact Nat.ne_of_gt (Nat.lt_succ_of_lt ltA)
  have hgeA : s.heap.objs.size ≤ a := by
    rw [ea]
    exact Nat.le_succ _
  have hgeK : s.heap.objs.size ≤ kS := by
    rw [ek, size_push', Heap.size_update]
    exact Nat.le_trans hgeA (Nat.le_succ_of_le (Nat.le_of_lt ltA))
  -- beside our frame
  have far : ∀ c, s.heap.objs.size ≤ c → c ≠ X.env.locals ∧ (c ∈ X.ex ∨ X.s_0.heap.objs.size ≤ c) ∧ (∀ x d, X.env.cells.lookup x = some d → d ≠ c) ∧ (∀ p ∈ X.pn ++ pins, p.1 ≠ c) ∧ c ∉ frs X.stack := fun c hc => by
    refine ⟨Nat.ne_of_gt (Nat.lt_of_lt_of_le I.lt hc), .inr (Nat.le_trans I.sz hc), fun x d e z => ?_, fun p hp z => ?_, fun hm => ?_⟩
    · obtain ⟨_, o, ho, _⟩ := I.cell x d e
      rw [z] at ho
      exact absurd (Heap.lt_size ho) (Nat.not_lt.mpr hc)
    · have ho := (I.pin p hp).1
      rw [z] at ho
      exact absurd (Heap.lt_size ho) (Nat.not_lt.mpr hc)
    · obtain ⟨_, o, ho, _⟩ := I.stack.mem hm
      exact absurd (Heap.lt_size ho) (Nat.not_lt.mpr hc)
  obtain ⟨fa1, fa2, fa3, fa4, fa5⟩ := far a hgeA
  obtain ⟨fk1, fk2, fk3, fk4, fk5⟩ := far kS hgeK
  unfold ksk_tree
  refine wpAny_bind (listItems_at hoA rfl ?_)
  refine wpAny_bind (listUpdate_at hoA rfl ?_ (by rw [List.size_toArray, hvl]; exact hz) (Nat.zero_le _))
  refine wpAny_bind (seqEpoch_at ho1 rfl ?_)
  refine wpAny_bind (wpAny_newTuple ?_ (by show its.length ≤ _; rw [hvl]; exact hz))
  refine wpAny_bind (wpAny_newList ?_ (Nat.zero_le _))
  refine wpAny_holding ?_
  show wpAny _ _ (ksk_rest a (.ref fq) false its.toArray _ (.ref (((copyHeap s.heap its).update a (Obj.mapSeq fun _ => (#[] : Array Value))).push (seqObj "tuple" its.toArray 0)).objs.size)) _ _ { s with heap := sortingHeap (copyHeap s.heap its) a its }
  rw [← ek]
  have old : ∀ b o, s.heap.get? b = some o → (sortingHeap (copyHeap s.heap its) a its).get? b = some o := fun b o e => sortingHeap_old (Nat.ne_of_lt (Nat.lt_of_lt_of_le (Heap.lt_size e) hgeA)) (copyHeap_old e)
  have gK : (sortingHeap (copyHeap s.heap its) a its).get? kS = some (seqObj "list" #[] 0) := by
    rw [ek]
    exact Heap.get?_push_size _ rfl
  have gA : (sortingHeap (copyHeap s.heap its) a its).get? a = some (seqObj "list" #[] e1) := Heap.get?_push_of_some _ (Heap.get?_push_of_some _ ho1)
  have I0 : Inv X pins σ H { s with heap := sortingHeap (copyHeap s.heap its) a its } := I.kept (t' := s.toks) old
  have nA : H a = none := I.hok.fresh hgeA
  have nK : H kS = none := I.hok.fresh hgeK
  unfold ksk_rest
  refine wpAny_bind (wpAny_rule ?_)
  first
    | rw [List.forIn_toArray]
    | (rw [← Array.forIn_toList]; simp only [List.toList_toArray])
    | rw [← Array.forIn_toList]
  refine wpAny_bind (ksk_fold (fun i s' => ∃ H' kvs kA e, Inv X pins σ H' s' ∧ Same H H' ∧ H' a = none ∧ H' kS = none ∧ s'.heap.get? kS = some (seqObj "list" kA e) ∧ s'.heap.get? a = some (seqObj "list" #[] e1) ∧ Vals kvs kA.toList ∧ DpAll X.K H' kvs (ks.take i)) its 0 _
    ⟨H, [], #[], 0, I0, Same.refl _, nA, nK, gK, gA, .nil, by rw [List.take_zero]; exact .nil⟩ ?_ ?_)
  · rintro j u s1 hu1 ⟨H1, kvs, kA, e, I1, s01, n1, m1, g1, g2, rk, dk⟩
    simp only [Nat.zero_add] at dk ⊢
    have hj : j < its.length := (List.getElem?_eq_some_iff.mp hu1).1
    obtain ⟨x, hx⟩ : ∃ x, xs[j]? = some x := ⟨_, List.getElem?_eq_getElem (by omega)⟩
    obtain ⟨k, hk⟩ : ∃ k, ks[j]? = some k := ⟨_, List.getElem?_eq_getElem (by omega)⟩
    obtain ⟨u', hu', rx⟩ := rv.get hx
    have euu : u' = u := Option.some.inj (hu'.symm.trans hu1)
    subst euu
    refine wpAny_bind (wpAny_attempt (wpAny_mono (KC pins s1 σ H1 x u' _ (fun _ _ => False) I1 rx (turn j x k hx hk H1 s01)) (fun v s2 hv => ?_) fun _ _ z => z.elim))
    have un0 := hv
    obtain ⟨vv, H2, os2, bare2, un2, hok2, rvv, s12, dv⟩ := hv
    obtain ⟨vv2, H2', I2, rvv', hQ2⟩ := I1.after (Q := fun v' H' => v' = vv ∧ H' = H2) ⟨vv, H2, os2, bare2, un2, hok2, rvv, rfl, rfl⟩
    obtain ⟨rfl, rfl⟩ := hQ2
    try dsimp only
    have k1 : s2.heap.get? kS = some (seqObj "list" kA e) := un2.keep kS _ g1 m1 fk5 (by simp)
    have k2 : s2.heap.get? a = some (seqObj "list" #[] e1) := un2.keep a _ g2 n1 fa5 (by simp)
    have n2 : H2' a = none := un2.free a _ g2 n1 (by simp)
    have m2 : H2' kS = none := un2.free kS _ g1 m1 (by simp)
    have hkl : kA.size ≤ its.length := by
      have h1 : kvs.length = kA.size := by rw [rk.length, Array.length_toList]
      have h2 : ∀ {vs : List V} {ds : List PyData}, DpAll X.K H1 vs ds → vs.length = ds.length := fun {vs ds} h => by
        induction vs generalizing ds with
        | nil =>
          cases h
          rfl
        | cons v vs ih =>
          cases h with
          | cons _ h' => exact congrArg (· + 1) (ih h')
      have h3 := h2 dk
      rw [List.length_take] at h3
      omega
    have hzl : its.length ≤ sizeLine := by
      rw [hvl]
      exact hz
    obtain ⟨c2, hc2⟩ : ∃ c2, (s2.heap.update kS (Obj.mapSeq (·.push v))).get? kS = some (seqObj "list" (kA.push v) c2) := ⟨_, get?_update_seq k1 (·.push v)⟩
    have sb := Heap.SameBut.update s2.heap kS (Obj.mapSeq (·.push v))
    refine wpAny_bind (listUpdate_at k1 rfl ?_ (Nat.le_trans hkl hzl) (Nat.le_trans (Nat.le_of_eq (Array.size_push ..)) (Nat.succ_le_succ (Nat.le_trans hkl hzl))))
    refine wpAny_pure ⟨rfl, H2', kvs ++ [vv2], kA.push v, c2, I2.turned (t' := s2.toks) (fun b o hb eb => (sb.2 b hb).trans eb) m2 fk1 fk2 fk3 fk4, s01.trans s12, n2, m2, hc2, (sb.2 a (Ne.symm hkA)).trans k2, ?_, ?_⟩
    · rw [show (kA.push v).toList = kA.toList ++ [v] from by simp]
      exact rk.append (.cons rvv .nil)
    · rw [Sb.take_more hk]
      exact DpAll.snoc dv (DpAll.same s12 dk)
  · rintro s1 ⟨H1, kvs, kA, e, I1, s01, n1, m1, g1, g2, rk, dk⟩
    have dk' : DpAll X.K H1 kvs ks := by
      rw [List.take_of_length_le (by omega)] at dk
      exact dk
    have hE := each_read I1 dk' rk
    have hks : kA.size = its.length := by
      have h1 := hE.length
      rw [Array.length_toList] at h1
      omega
    try dsimp only
    refine wpAny_bind (listItems_at g1 rfl ?_)
    obtain ⟨G, gI, gN⟩ := restrict s1.heap fun b => decide (b ≠ kS)
    have gk : ∀ b o, G.get? b = some o → s1.heap.get? b = some o := fun b o eb => by
      by_cases hb : b = kS
      · rw [hb, gN kS (by simp)] at eb
        cases eb
      · rw [gI b (by simp [hb])] at eb
        exact eb
    refine keyH_end (κ := dataKind s1.heap ks) (h₁ := G) (fun b o _ eb => gk b o eb) (gN kS (by simp)) g1 g2 hkA (SortsAt.data (s := s1) hE hal hsk (fun d hd' => by
      have := hd d hd'
      show X.A.units + 1 + 1 + d.depth < cLine
      omega)) hks (by rw [hvl]; exact hz) fun h' tk c kp na => ?_
    refine ⟨rfl, ?_⟩
    have keep : ∀ b o, b ≠ a → b ≠ kS → s1.heap.get? b = some o → h'.get? b = some o := fun b o h1 h2 eb => kp b o h1 ((gI b (by simp [h2])).trans eb)
    have ko : KeyedOut false ks its (sortVals (dataKind s1.heap ks) false kA.toList its) := ⟨s1.heap, kA.toList, hal, rfl, hE⟩
    have hzk : (xs.zip ks).map Prod.snd = ks := by rw [List.map_snd_zip]; omega
    have oE := keyedOut_each (bs := xs.zip ks) (Prod.snd) (by rw [hzk]; exact ko) (each_zip rv hlen)
    have oV := vals_each oE
    have oz : (((xs.zip ks).mergeSort (dataLe false Prod.snd)).map Prod.fst).length ≤ sizeLine := by
      rw [List.length_map, List.length_mergeSort, List.length_zip]
      omega
    have ne1 : ∀ b u, H1 b = some u → b ≠ a := fun b u eb z => by
      rw [z, n1] at eb
      cases eb
    have ne2 : ∀ b u, H1 b = some u → b ≠ kS := fun b u eb z => by
      rw [z, m1] at eb
      cases eb
    have more : Same H1 (upd H1 a (.lst (((xs.zip ks).mergeSort (dataLe false Prod.snd)).map Prod.fst))) := Same.new n1
    refine ⟨.ref a, _, I1.call' (s' := { s1 with heap := h', toks := tk }) (ch := [a, kS]) (H' := upd H1 a (.lst (((xs.zip ks).mergeSort (dataLe false Prod.snd)).map Prod.fst))) rfl ⟨?_, ?_, ?_, ?_, ?_, ?_, ?_⟩ ?_ I1.bare ?_, rfl, q _ a (s01.trans more) upd_same⟩
    · intro b o eb _ _ hx
      exact keep b o (fun z => hx (by simp [z])) (fun z => hx (by simp [z])) eb
    · intro b o eb _ _ hx
      exact ⟨o.slots, keep b o (fun z => hx (by simp [z])) (fun z => hx (by simp [z])) eb⟩
    · intro b o eb hn hx
      rw [upd_ne fun z => hx (by simp [z])]
      exact hn
    · intro b o eb hx
      exact ⟨o, keep b o (fun z => hx (by simp [z])) (fun z => hx (by simp [z])) eb⟩
    · intro b ys eb
      exact more _ _ eb
    · intro b o u eb
      exact more _ _ eb
    · intro b ys eb
      exact ⟨#[], by rw [more _ _ eb]; simp⟩
    · intro b u eb
      by_cases hb : b = a
      · subst hb
        rw [upd_same] at eb
        cases eb
        exact ⟨oz, _, c, oV, na⟩
      · rw [upd_ne hb] at eb
        refine (I1.hok b u eb).stay (fun c' v hc ev => ?_) (fun c' ec => more _ _ ec) fun c' ys ec => more _ _ ec
        have hc' : ∃ z, H1 c' = some z := by
          rcases hc with z | z
          · rw [z]
            exact ⟨_, eb⟩
          · exact ⟨_, z⟩
        obtain ⟨z, hz'⟩ := hc'
        exact keep c' v (ne1 c' z hz') (ne2 c' z hz') ev
    · intro b hb
      simp only [List.mem_cons, List.mem_nil_iff, or_false] at hb
      rcases hb with hb | hb
      · subst hb
        exact ⟨fa2, fa1, fa3, fa4⟩
      · subst hb
        exact ⟨fk2, fk1, fk3, fk4⟩
end
end L2
namespace L2
open PySem PySem.Spec PyProof.Rows PySem.W
/-- sorted(xs, key=f) -/
def rSortBy (K : PySem.W.Frag) (sp : Addr → V → Hp → VK → Prop) : List V → List V → Hp → VK → Prop := fun vs zs H Q => ∃ (l fq : Addr) (xs : List V) (ks : List PyData), vs = [.ref l] ∧ zs = [.ref fq] ∧ SqL K H l xs ∧ xs.length = ks.length ∧ AllAlike ks ∧ Sortable ks ∧ (∀ d ∈ ks, d.depth ≤ 16) ∧
  (∀ (i : Nat) (x : V) (k : PyData), xs[i]? = some x → ks[i]? = some k → ∀ H', Same H H' → sp fq x H' (fun v H'' => Same H' H'' ∧ Dp K H'' v k)) ∧
  ∀ H' p, Same H H' → H' p = some (.lst (((xs.zip ks).mergeSort (dataLe false Prod.snd)).map Prod.fst)) → Q (.ref p) H'
theorem cr_sortBy {X : Cx} {sp : Addr → V → Hp → VK → Prop} (KC : ∀ fq, KeyCall X (.ref fq) (sp fq)) (hu : X.A.units + 64 < cLine) : CallRK X (.builtin "sorted") [Str.ofString "key"] (rSortBy X.K sp) := by
  intro pins s σ H vs zs us ws Q I r rz h
  obtain ⟨l, fq, xs, ks, rfl, rfl, hl, hlen, hal, hsk, hd, turn, q⟩ := h
  obtain rfl := Vals.ref1 r
  obtain rfl := Vals.ref1 rz
  exact run_sortedBy (KC fq) hu I hl hlen hal hsk hd turn q
/-- the def at f alone as a key -/
theorem keyCall_def {X : Cx} {k : Nat} {f : Addr} {fd : FuncData} {ps : List Str} {sp : Sp} (F : FnOk X.prog X.w X.K X.mg X.base CX0 k f fd ps sp) (hr : Room (k + 2) X.A) (hb : Binds X.K fd ps []) : ∀ fq, KeyCall X (.ref fq) (fun x H Q => fq = f ∧ sp [x] H Q E0) :=
  fun fq pins s σ H x u Q E I r h => by
    obtain ⟨rfl, h⟩ := h
    exact keyCall_fn F hr hb pins s σ H x u Q E I r h
/-- o.m as a value -/
theorem pe_bmeth {X : Cx} {C g : Addr} {m : Str} {e : Expr} {ta : TE} {pos : Pos} (he : PE X e ta) (c : Cls X.K C) (k : BMeth X.K C m g) (hb : attributeBase e m X.env (eval e X.env) = eval e X.env := by rfl) :
    PE X (.Attribute e m pos) (fun σ H Q => ta σ H fun x H1 => ∃ a dx fs, x = .ref a ∧ H1 a = some (.ins C dx fs) ∧ fs.lookup m = none ∧ ∀ q, H1 q = none → Q (.ref q) (upd H1 q (.met g a))) := by
  refine ⟨fun pins s σ H Q I h => attr_of hb (thn (he.run pins s σ H _ I h) fun u s1 ⟨x, H1, I1, rx, a, dx, fs, ex, ea, l, q⟩ => ?_)⟩
  subst ex
  exact op_getbound I1 ea c k l rx q
end L2
end
section
/-! Sorting 1: putting in, one behind another, is sorting; words by their rank -/
namespace Sb
open PySem PySem.Spec PyProof.Rows L2 PySem.W
section
variable {α : Type} {lt : α → α → Bool} {ins : α → List α → List α}
theorem ins_mem (h0 : ∀ x, ins x [] = [x]) (h1 : ∀ x q L, ins x (q :: L) = if lt x q = true then x :: q :: L else q :: ins x L) (x : α) : ∀ (L : List α) (r : α), r ∈ ins x L → r = x ∨ r ∈ L
  | [], r, h => by
    rw [h0] at h
    exact .inl (List.mem_singleton.mp h)
  | q :: L, r, h => by
    rw [h1] at h
    split at h
    · exact List.mem_cons.mp h
    · rcases List.mem_cons.mp h with h | h
      · exact .inr (h ▸ List.mem_cons_self)
      · exact (ins_mem h0 h1 x L r h).imp_right (List.mem_cons_of_mem _)
theorem ins_le (T : TotalLe fun a b => !lt b a) {x q : α} (h : lt x q = true) : (!lt q x) = true := by
  rcases T.total x q with z | z
  · exact z
  · rw [h] at z
    cases z
theorem ins_pair (T : TotalLe fun a b => !lt b a) (h0 : ∀ x, ins x [] = [x]) (h1 : ∀ x q L, ins x (q :: L) = if lt x q = true then x :: q :: L else q :: ins x L) (x : α) :
    ∀ L : List α, L.Pairwise (fun a b => (!lt b a) = true) → (ins x L).Pairwise (fun a b => (!lt b a) = true)
  | [], _ => by
    rw [h0]
    exact List.pairwise_singleton _ _
  | q :: L, h => by
    rw [h1]
    obtain ⟨k1, k2⟩ := List.pairwise_cons.mp h
    split
    · rename_i e
      refine List.pairwise_cons.mpr ⟨fun r hr => ?_, h⟩
      rcases List.mem_cons.mp hr with rfl | hr
      · exact ins_le T e
      · exact T.trans x q r (ins_le T e) (k1 r hr)
    · rename_i e
      refine List.pairwise_cons.mpr ⟨fun r hr => ?_, ins_pair T h0 h1 x L k2⟩
      rcases ins_mem h0 h1 x L r hr with rfl | hr
      · rw [Bool.not_eq_true] at e
        rw [e]
        rfl
      · exact k1 r hr
theorem ins_filter (T : TotalLe fun a b => !lt b a) (h0 : ∀ x, ins x [] = [x]) (h1 : ∀ x q L, ins x (q :: L) = if lt x q = true then x :: q :: L else q :: ins x L) (x c : α) :
    ∀ L : List α, L.Pairwise (fun a b => (!lt b a) = true) → (ins x L).filter (sameRank (fun a b => !lt b a) c) = L.filter (sameRank (fun a b => !lt b a) c) ++ [x].filter (sameRank (fun a b => !lt b a) c)
  | [], _ => by
    rw [h0]
    rfl
  | q :: L, h => by
    rw [h1]
    obtain ⟨k1, k2⟩ := List.pairwise_cons.mp h
    split
    · rename_i e
      cases hc : sameRank (fun a b => !lt b a) c x with
      | false =>
        rw [List.filter_cons_of_neg (by rw [hc]; exact Bool.false_ne_true), show [x].filter (sameRank (fun a b => !lt b a) c) = [] from List.filter_cons_of_neg (by rw [hc]; exact Bool.false_ne_true), List.append_nil]
      | true =>
        have none : (q :: L).filter (sameRank (fun a b => !lt b a) c) = [] := by
          rw [List.filter_eq_nil_iff]
          intro r hr hs
          unfold sameRank at hs hc
          rw [Bool.and_eq_true] at hs hc
          have hqr : (!lt r q) = true := by
            rcases List.mem_cons.mp hr with rfl | hr
            · exact T.refl _
            · exact k1 r hr
          have h3 := T.trans q r x hqr (T.trans r c x hs.2 hc.1)
          simp only [e] at h3
          cases h3
        rw [List.filter_cons_of_pos hc, none]
        rw [show [x].filter (sameRank (fun a b => !lt b a) c) = [x] from List.filter_cons_of_pos hc]
        rfl
    · cases hq : sameRank (fun a b => !lt b a) c q with
      | true =>
        rw [List.filter_cons_of_pos hq, List.filter_cons_of_pos hq, ins_filter T h0 h1 x c L k2]
        rfl
      | false =>
        have hq' : ¬ sameRank (fun a b => !lt b a) c q = true := by rw [hq]; exact Bool.false_ne_true
        rw [List.filter_cons_of_neg hq', List.filter_cons_of_neg hq', ins_filter T h0 h1 x c L k2]
theorem ins_fold (T : TotalLe fun a b => !lt b a) (h0 : ∀ x, ins x [] = [x]) (h1 : ∀ x q L, ins x (q :: L) = if lt x q = true then x :: q :: L else q :: ins x L) :
    ∀ (ws L : List α), L.Pairwise (fun a b => (!lt b a) = true) → (ws.foldl (fun L w => ins w L) L).Pairwise (fun a b => (!lt b a) = true) ∧
      ∀ c, (ws.foldl (fun L w => ins w L) L).filter (sameRank (fun a b => !lt b a) c) = L.filter (sameRank (fun a b => !lt b a) c) ++ ws.filter (sameRank (fun a b => !lt b a) c)
  | [], L, h => ⟨h, fun c => by rw [List.filter_nil, List.append_nil]; rfl⟩
  | w :: ws, L, h => by
    obtain ⟨k1, k2⟩ := ins_fold T h0 h1 ws (ins w L) (ins_pair T h0 h1 w L h)
    refine ⟨k1, fun c => ?_⟩
    rw [List.foldl_cons, k2, ins_filter T h0 h1 w c L h, List.append_assoc]
    congr 1
    rw [← List.filter_append]
    rfl
theorem ins_sort (T : TotalLe fun a b => !lt b a) (h0 : ∀ x, ins x [] = [x]) (h1 : ∀ x q L, ins x (q :: L) = if lt x q = true then x :: q :: L else q :: ins x L) (ws : List α) :
    ws.foldl (fun L w => ins w L) [] = ws.mergeSort (fun a b => !lt b a) := by
  obtain ⟨k1, k2⟩ := ins_fold T h0 h1 ws [] .nil
  exact sort_unique T k1 fun c => by rw [k2 c, List.filter_nil, List.nil_append]
end
/-! ### words -/
def intsD (ns : List Nat) : List PyData := ns.map fun (n : Nat) => PyData.int (n : Int)
def rankD (x : SyLex.Word) : PyData := .tuple [.tuple (intsD x.reading), .int (x.cost : Int), .tuple (intsD x.text)]
theorem intsD_alike : ∀ a b : List Nat, alikeAll (intsD a) (intsD b) = true
  | [], _ => by simp [intsD, alikeAll]
  | _ :: _, [] => by simp [intsD, alikeAll]
  | x :: a, y :: b => by
    have ih := intsD_alike a b
    unfold intsD at ih ⊢
    simp only [List.map_cons, alikeAll, alike, ih, Bool.and_self]
theorem intsD_eqv : ∀ a b : List Nat, PyData.eqvAll (intsD a) (intsD b) = (a == b)
  | [], [] => by simp [intsD, PyData.eqvAll]
  | [], _ :: _ => by simp [intsD, PyData.eqvAll]
  | _ :: _, [] => by simp [intsD, PyData.eqvAll]
  | x :: a, y :: b => by
    have ih := intsD_eqv a b
    unfold intsD at ih ⊢
    rw [List.map_cons, List.map_cons, eqv_all_cons, ih]
    have e : PyData.eqv (.int (x : Int)) (.int (y : Int)) = (x == y) := by
      simp only [PyData.eqv]
      by_cases h : x = y
      · rw [h]
        simp
      · have h' : ¬ (x : Int) = (y : Int) := by omega
        rw [beq_eq_false_iff_ne.mpr h, beq_eq_false_iff_ne.mpr h']
    rw [e]
    rfl
theorem rowLt_nats : ∀ a b : List Nat, rowLt (intsD a) (intsD b) = SyBase.before a b
  | a, b => by
    have e : ∀ l : List Nat, intsD l = (l.map fun (n : Nat) => (n : Int)).map .int := fun l => by
      unfold intsD
      rw [List.map_map]
      rfl
    rw [e, e, dataLt_ints]
    induction a generalizing b with
    | nil =>
      cases b with
      | nil => rfl
      | cons y b => rfl
    | cons x a ih =>
      cases b with
      | nil => rfl
      | cons y b =>
        have := ih b
        show decide (((x : Int) :: a.map fun (n : Nat) => (n : Int)) < ((y : Int) :: b.map fun (n : Nat) => (n : Int))) = (decide (x < y) || (x == y && SyBase.before a b))
        rw [← this]
        by_cases h : x = y
        · subst h
          simp [List.cons_lt_cons_iff]
        · by_cases h2 : x < y
          · have h2' : (x : Int) < (y : Int) := by omega
            simp [List.cons_lt_cons_iff, h, h2]
          · have h3 : ¬ (x : Int) = (y : Int) := by omega
            simp [List.cons_lt_cons_iff, h, h2, h3]
theorem rankD_lt (a b : SyLex.Word) : dataLt (rankD a) (rankD b) = a.before b := by
  unfold rankD
  rw [dataLt_tuple, dataLt_cons (by simpa [alike] using intsD_alike a.reading b.reading), dataLt_cons (by simp [alike]), dataLt_cons (by simpa [alike] using intsD_alike a.text b.text)]
  have e0 : PyProof.Rows.lexLt itemOrd (keyToksAll []) (keyToksAll []) = false := lex_irrefl _
  have e1 : ∀ x y : List Nat, PyData.eqv (.tuple (intsD x)) (.tuple (intsD y)) = (x == y) := fun x y => by
    simp only [PyData.eqv]
    exact intsD_eqv x y
  have e2 : ∀ x y : List Nat, dataLt (.tuple (intsD x)) (.tuple (intsD y)) = SyBase.before x y := fun x y => by
    rw [dataLt_tuple]
    exact rowLt_nats x y
  have e3 : ∀ x y : Nat, PyData.eqv (.int (x : Int)) (.int (y : Int)) = (x == y) := fun x y => by
    simp only [PyData.eqv]
    by_cases h : x = y
    · rw [h]
      simp
    · have h' : ¬ (x : Int) = (y : Int) := by omega
      rw [beq_eq_false_iff_ne.mpr h, beq_eq_false_iff_ne.mpr h']
  rw [e0, e1, e1, e2, e2, e3, dataLt_int]
  have irr : ∀ x : List Nat, SyBase.before x x = false := fun x => by
    induction x with
    | nil => rfl
    | cons n x ih =>
      show (decide (n < n) || (n == n && SyBase.before x x)) = false
      rw [ih]
      simp
  show _ = (SyBase.before a.reading b.reading || (a.reading == b.reading && (decide (a.cost < b.cost) || (a.cost == b.cost && SyBase.before a.text b.text))))
  by_cases h1 : a.reading = b.reading
  · rw [h1, irr]
    simp only [beq_self_eq_true, if_true, Bool.false_or, Bool.true_and]
    by_cases h2 : a.cost = b.cost
    · rw [h2]
      simp only [beq_self_eq_true, if_true, Nat.lt_irrefl, decide_false, Bool.false_or, Bool.true_and]
      by_cases h3 : a.text = b.text
      · rw [h3, irr]
        simp
      · rw [if_neg (by simpa using h3)]
    · rw [if_neg (by simpa using h2), beq_eq_false_iff_ne.mpr h2, Bool.false_and, Bool.or_false]
      exact decide_eq_decide.mpr (by omega)
  · rw [if_neg (by simpa using h1), beq_eq_false_iff_ne.mpr h1, Bool.false_and, Bool.or_false]
theorem rankD_le : (fun a b : SyLex.Word => !b.before a) = dataLe false rankD := by
  funext a b
  show _ = !dataLt (rankD b) (rankD a)
  rw [rankD_lt]
theorem inOrder_sort (ws : List SyLex.Word) : inOrder ws = ws.mergeSort (dataLe false rankD) := by
  rw [← rankD_le]
  refine ins_sort (lt := fun a b : SyLex.Word => a.before b) (ins := SyLex.putWord) ?_ (fun x => rfl) (fun x q L => rfl) ws
  rw [rankD_le]
  exact sortLe_total _ _ _
/-! ### what sorted makes of a list of objects -/
theorem sort_pairs {β : Type} {R : Addr → β → Prop} {kd : β → PyData} : ∀ {as : List Addr} {bs : List β}, Paired R as bs →
    ∃ cs, (((refs as).zip (bs.map kd)).mergeSort (dataLe false Prod.snd)).map Prod.fst = refs cs ∧ Paired R cs (bs.mergeSort (dataLe false kd)) := by
  intro as bs h
  have hl := Paired.length h
  have e1 : (refs as).zip (bs.map kd) = (as.zip bs).map fun p => (V.ref p.1, kd p.2) := by
    unfold refs
    rw [List.zip_map]
    rfl
  have e2 : (((as.zip bs).map fun p => (V.ref p.1, kd p.2)).mergeSort (dataLe false Prod.snd)) = ((as.zip bs).mergeSort (dataLe false fun p => kd p.2)).map fun p => (V.ref p.1, kd p.2) :=
    (sort_maps (r := dataLe false fun p : Addr × β => kd p.2) (s := dataLe false Prod.snd) (fun p : Addr × β => (V.ref p.1, kd p.2)) fun a _ b _ => rfl).symm
  have e3 : ((as.zip bs).mergeSort (dataLe false fun p => kd p.2)).map Prod.snd = bs.mergeSort (dataLe false kd) := by
    rw [sort_maps (r := dataLe false fun p : Addr × β => kd p.2) (s := dataLe false kd) Prod.snd fun a _ b _ => rfl, List.map_snd_zip]
    omega
  have key : ∀ l : List (Addr × β), (∀ p ∈ l, R p.1 p.2) → Paired R (l.map Prod.fst) (l.map Prod.snd) := fun l => by
    induction l with
    | nil => exact fun _ => .nil
    | cons p l ih => exact fun q => .cons (q p List.mem_cons_self) (ih fun r hr => q r (List.mem_cons_of_mem _ hr))
  have all : ∀ {as : List Addr} {bs : List β}, Paired R as bs → ∀ p ∈ as.zip bs, R p.1 p.2 := fun {as bs} h => by
    induction h with
    | nil => exact fun p hp => by simp at hp
    | cons r t ih =>
      intro p hp
      rw [List.zip_cons_cons] at hp
      rcases List.mem_cons.mp hp with rfl | hp
      · exact r
      · exact ih p hp
  refine ⟨((as.zip bs).mergeSort (dataLe false fun p => kd p.2)).map Prod.fst, ?_, ?_⟩
  · rw [e1, e2, List.map_map]
    unfold refs
    rw [List.map_map]
    rfl
  · rw [← e3]
    exact key _ fun p hp => all h p ((List.mergeSort_perm _ _).mem_iff.mp hp)
end Sb
end
section
/-! Rules 6: a call that does not see some of our objects -/
namespace L2
open PySem PySem.Spec PyProof.Rows
/-- nothing leans on such an object, it leans on nothing -/
def Loose : HO → Prop
  | .lst _ => True
  | .ext _ => True
  | _ => False
section
variable {P : Program} {w : World} {H H0 H' : Hp} {h h' : Heap}
theorem HOk.less (ok : HOk P w H h) (s : Same H0 H) (lo : ∀ b u, H b = some u → H0 b = none → Loose u) : HOk P w H0 h := fun a u e => by
  refine (ok a u (s _ _ e)).stay (fun _ _ _ q => q) (fun b q => ?_) (fun b xs q => ?_)
  · cases z : H0 b with
    | none => exact (lo b _ q z).elim
    | some v => rw [s _ _ z] at q; exact q
  · cases z : H0 b with
    | none => exact (lo b _ q z).elim
    | some v => rw [s _ _ z] at q; exact q
theorem loose_at {b : Addr} {u : HO} (ok : ObjOk P w H h b u) (l : Loose u) : ∃ o, h.get? b = some o := by
  cases u with
  | lst xs =>
    obtain ⟨_, _, _, _, e⟩ := ok
    exact ⟨_, e⟩
  | ext φ => exact ok.2.1
  | _ => exact l.elim
theorem loose_stay {b : Addr} {u : HO} (ok : ObjOk P w H h b u) (l : Loose u) (k : ∀ o, h.get? b = some o → h'.get? b = some o) : ObjOk P w H' h' b u := by
  cases u with
  | lst xs =>
    obtain ⟨z, its, n, r, e⟩ := ok
    exact ⟨z, its, n, r, k _ e⟩
  | ext φ =>
    obtain ⟨p, ⟨o, e⟩, st⟩ := ok
    exact ⟨st _ _ p k, ⟨o, k _ e⟩, st⟩
  | _ => exact l.elim
/-- both together -/
def glue (H' H : Hp) : Hp := fun b => match H' b with
  | some v => some v
  | none => H b
theorem glue_left {H' H : Hp} : Same H' (glue H' H) := fun b v e => by
  unfold glue
  rw [e]
theorem glue_right (s1 : Same H0 H') (s : Same H0 H) (no : ∀ b u, H b = some u → H0 b = none → H' b = none) : Same H (glue H' H) := fun b v e => by
  unfold glue
  cases z : H0 b with
  | none =>
    rw [no b v e z]
    exact e
  | some u =>
    rw [s1 _ _ z]
    rw [s _ _ z] at e
    exact e
theorem glue_from {b : Addr} {u : HO} (e : glue H' H b = some u) : H' b = some u ∨ (H' b = none ∧ H b = some u) := by
  unfold glue at e
  cases z : H' b with
  | none =>
    rw [z] at e
    exact .inr ⟨rfl, e⟩
  | some v =>
    rw [z] at e
    exact .inl e
theorem CE.frame {outer : List Env} {s s' : Shared} {Q : VK} {u : Value} (ok : HOk P w H s.heap) (fr : ∀ b ∈ frs outer, H b = none) (sm : Same H0 H) (lo : ∀ b u, H b = some u → H0 b = none → Loose u)
    (h : CE outer P w H0 s (fun v H' => Same H0 H' ∧ ∀ H'', Same H' H'' → Same H H'' → (∀ b u, H b = some u → H0 b = none → H' b = none) → Q v H'') u s') : CE outer P w H s Q u s' := by
  obtain ⟨v, H', os, bare, un, hok, r, s1, q⟩ := h
  have nfr : ∀ b x, H b = some x → b ∉ frs outer := fun b x e hm => by
    rw [fr b hm] at e
    cases e
  have no : ∀ b x, H b = some x → H0 b = none → H' b = none := fun b x e z => by
    obtain ⟨o, ho⟩ := loose_at (ok b x e) (lo b x e z)
    exact un.free b o ho z (by simp)
  have gr := glue_right s1 sm no
  have h0none : ∀ b, H b = none → H0 b = none := fun b e => by
    cases z : H0 b with
    | none => rfl
    | some v => rw [sm _ _ z] at e; cases e
  refine ⟨v, glue H' H, os, bare, ⟨?_, ?_, ?_, ?_, ?_, ?_, ?_⟩, ?_, r, q _ glue_left gr no⟩
  · exact fun b o e n => un.keep b o e (h0none b n)
  · exact fun b o e n => un.slot b o e (h0none b n)
  · intro b o e n hx
    have := un.free b o e (h0none b n) hx
    unfold glue
    rw [this]
    exact n
  · exact un.there
  · exact fun b xs e => gr _ _ e
  · exact fun b o x e => gr _ _ e
  · exact fun b ps e => ⟨#[], by rw [gr _ _ e]; simp⟩
  · intro b x e
    rcases glue_from e with e | ⟨e1, e2⟩
    · exact (hok b x e).stay (fun _ _ _ q => q) (fun c q => glue_left _ _ q) fun c xs q => glue_left _ _ q
    · have z : H0 b = none := by
        cases z : H0 b with
        | none => rfl
        | some v => rw [s1 _ _ z] at e1; cases e1
      exact loose_stay (ok b x e2) (lo b x e2 z) fun o q => un.keep b o q z (nfr b x e2) (by simp)
end
section
variable {X : Cx} {k : Nat} {x : Str} {ps : List Str} {sp : Sp} {p pos : Pos} {e : Expr} {es : List Expr} {t : TA}
/-- f(e, ..), f not seeing some of our objects -/
def tCallF (sp : Sp) (t : TA) : TE := fun σ H Q => t σ H fun vs H1 => ∃ H0, Same H0 H1 ∧ (∀ b u, H1 b = some u → H0 b = none → Loose u) ∧
  sp vs H0 (fun v H' => Same H0 H' ∧ ∀ H'', Same H' H'' → Same H1 H'' → (∀ b u, H1 b = some u → H0 b = none → H' b = none) → Q v H'') E0
theorem call_hasF (G : Sb.Has X.prog X.w X.K X.mg X.base CX0 x k ps sp) (hr : Room k X.A) (ha : PA X (e :: es) t) (hg : Gl X x := by rfl)
    (hdb : (x == ("__debug__" : Str)) = false := by decide) (he : starEach (e :: es) X.env = (false, eval e X.env) :: starEach es X.env := by rfl) (hpl : (backTo pos (starEach es X.env)).any (·.1) = false := by rfl) :
    PE X (.Call (.Name x p) (e :: es) [] pos) (tCallF sp t) := by
  obtain ⟨f, fd, F, hm, hk, hb⟩ := G.ex
  refine ⟨fun pins s σ H Q I h => wpAny_Call_Name_kw (ld_glob I hg hm ?_ hdb)⟩
  refine PySem.W.callWith_K (h₀ := X.base) I.ok.mod.kin hk (thn (ha.run pos pins s σ H _ I h) fun us s1 ⟨vs, H1, I1, r, H0, sm, lo, q⟩ => ⟨I1.kIn, ?_⟩) he hpl
  have hl : us.length = ps.length := by
    rw [← r.length]
    exact F.len _ _ _ _ q
  have b := hb s1 us I1.kIn (by rw [List.append_nil]; exact hl)
  rw [List.append_nil] at b
  have e0 := I1.env0
  have nn : ∀ c, H1 c = none → H0 c = none := fun c hc => by
    cases z : H0 c with
    | none => rfl
    | some v =>
      have := sm _ _ z
      rw [hc] at this
      cases this
  have e1 : Env0 X.prog X.w X.K X.mg X.base X.A X.stack s1 H0 := ⟨e0.frames, e0.mod, fun b o eb => ⟨(e0.bs b o eb).1, nn b (e0.bs b o eb).2⟩, e0.bsz, e0.funs, fun b hb => nn b (e0.frf b hb), HOk.less e0.hok sm lo, e0.bare⟩
  refine wpAny_call (codeAny_mono (F.run X.A X.stack s1 H0 ⟨us, []⟩ us vs _ E0 hr e1 b r q) fun r s' hq => ?_)
  cases r with
  | error e => exact False.elim hq
  | ok fl =>
    cases fl with
    | ret u => exact I1.after (CE.frame I1.hok e0.frf sm lo hq)
    | next => exact False.elim hq
    | brk => exact False.elim hq
    | cont => exact False.elim hq
end
end L2
end
section
/-! Walks 8: words_of -/
namespace Sb
open PySem PySem.Spec PyProof.Rows L2
theorem loose_ne {H : Hp} {a b : Addr} {o u : HO} (h : H b = some u) (n : ¬ Loose u) (h' : H a = some o) (l : Loose o) : b ≠ a := fun z => by
  rw [z, h'] at h
  cases h
  exact n l
theorem WordAt.put {C : Addr} {H : Hp} {a D : Addr} {o u : HO} {x : SyLex.Word} (h : WordAt C H a x) (hD : H D = some o) (l : Loose o) : WordAt C (upd H D u) a x := by
  obtain ⟨dx, s1, s2, h1, h2, h3⟩ := h
  refine ⟨dx, s1, s2, ?_, ?_, ?_⟩
  · rw [upd_ne (loose_ne h1 (fun z => z) hD l)]
    exact h1
  · rw [upd_ne (loose_ne h2 (fun z => z) hD l)]
    exact h2
  · rw [upd_ne (loose_ne h3 (fun z => z) hD l)]
    exact h3
theorem KeyAt.put {H : Hp} {b D : Addr} {o u : HO} {k : NK} (h : KeyAt H b k) (hD : H D = some o) (l : Loose o) : KeyAt (upd H D u) b k := by
  obtain ⟨s1, s2, h1, h2, h3⟩ := h
  refine ⟨s1, s2, ?_, ?_, ?_⟩
  · rw [upd_ne (loose_ne h1 (fun z => z) hD l)]
    exact h1
  · rw [upd_ne (loose_ne h2 (fun z => z) hD l)]
    exact h2
  · rw [upd_ne (loose_ne h3 (fun z => z) hD l)]
    exact h3
theorem ND.put {P : Program} {w : World} {H : Hp} {d D : Addr} {xs : List V} {u : HO} {ks : List NK} (h : ND P w H d ks) (hD : H D = some (.lst xs)) : ND P w (upd H D u) d ks := by
  obtain ⟨es, h1, h2, h3⟩ := h
  refine ⟨es, ?_, Paired.mapP h2 fun _ _ q => ⟨q.1, KeyAt.put q.2.1 hD True.intro, q.2.2⟩, h3⟩
  rw [upd_ne (ne_of h1 hD (fun z => nomatch z))]
  exact h1
theorem ND.obj {P : Program} {w : World} {H : Hp} {d : Addr} {ks : List NK} (h : ND P w H d ks) : ∃ φ, H d = some (.ext φ) := by
  obtain ⟨es, h1, _⟩ := h
  exact ⟨_, h1⟩
theorem wordIn_ok {l : List Nat × Bool} {i : Nat} {ws : List SyLex.Word} {x : SyLex.Word} (h : wordIn l i ws = .ok x) : keyOf x ∉ ws.map keyOf ∧ i < 128 ∧ x.small = true := by
  unfold wordIn at h
  cases e : wordM l with
  | none => rw [e] at h; cases h
  | some w =>
    rw [e] at h
    simp only at h
    split at h
    · cases h
    · rename_i c1
      split at h
      · cases h
      · rename_i c2
        split at h
        · cases h
        · cases h
          refine ⟨fun z => c2 ?_, by omega, by simpa using c1⟩
          rw [any_key]
          exact decide_eq_true z
theorem wordsGo_step {i : Nat} {ls : List (List Nat × Bool)} {ws : List SyLex.Word} {l : List Nat × Bool} (h : ls[i]? = some l) : wordsGo i (ls.drop i) ws = match wordIn l i ws with
    | .error e => .error e
    | .ok w => wordsGo (i + 1) (ls.drop (i + 1)) (ws ++ [w]) := by
  obtain ⟨hi, e⟩ := List.getElem?_eq_some_iff.mp h
  rw [List.drop_eq_getElem_cons hi, e]
  rfl
section
variable {P : Program} {w : World} {K : PySem.W.Frag} {mg : Str → Option Value} {base : Heap} {A : Ads}
abbrev sWords : Stmt := top 35
def spWordsOf (K : PySem.W.Frag) (CF CW : Addr) : Sp := fun vs H Q E => ∃ (a : Addr) (ns : List Nat), vs = [.ref a] ∧ SqL K H a (nv ns) ∧ ns.length ≤ 70000 ∧
  (∀ H' p ws, Same H H' → wordsM ns = .ok ws → WordsAt CW H' p (inOrder ws) → Q (.ref p) H') ∧ (∀ H' dd j k, Same H H' → wordsM ns = .error (j, k) → H dd = none → H' dd = some (fltO k j) → E (.ref CF) (some dd) H')
theorem scWords : FnScope ["some", "found", "known", "number", "line", "word"] ["some"] (defScope sWords) := ⟨rfl, rfl, rfl, by decide +kernel, rfl, by decide +kernel, by decide +kernel⟩
theorem linesOf_len (ns : List Nat) : ∀ l ∈ linesOf ns, l.1.length ≤ ns.length := by
  intro l hl
  unfold linesOf linesP at hl
  have hall := parted_all 10 ns
  rcases List.mem_append.mp hl with h | h
  · obtain ⟨r, hr, rfl⟩ := List.mem_map.mp h
    exact hall r (List.dropLast_subset _ hr)
  · split at h
    · cases h
    · rename_i c
      rw [List.mem_singleton.mp h]
      rw [List.getLastD_eq_getLast?] at c ⊢
      cases e : (parted 10 ns).getLast? with
      | none =>
        rw [e] at c
        exact absurd rfl c
      | some y => exact hall y (List.mem_of_getLast? e)
theorem rankD_all (ws : List SyLex.Word) : PySem.W.AllAlike (ws.map rankD) := PySem.W.AllAlike.of fun b b' => by
  have h1 := intsD_alike b.reading b'.reading
  have h2 := intsD_alike b.text b'.text
  simp [rankD, PySem.W.alike, PySem.W.alikeAll, h1, h2]
theorem depth_ints : ∀ ns : List Nat, PyData.depthAll (intsD ns) = 0
  | [] => rfl
  | n :: ns => by
    have ih := depth_ints ns
    unfold intsD at ih ⊢
    rw [List.map_cons]
    simp only [PyData.depthAll, PyData.depth, ih]
    rfl
theorem rankD_depth (x : SyLex.Word) : (rankD x).depth ≤ 16 := by
  unfold rankD
  simp only [PyData.depth, PyData.depthAll, depth_ints]
  decide
theorem ok_words (T : Txt K mg A) (G1 : Has P w K mg base CX0 "lines_of" 3 ["some"] (spLines K)) (G2 : Has P w K mg base (L2.CX P w) "word_in" 8 ["line", "number", "known"] (spWordIn K P w A.CF A.CW))
    (G3 : MHas P w K mg base CX0 A.CW "name" 1 ["self"] (spName A.CW)) (G4 : Has P w K mg base CX0 "rank_of" 2 ["word"] (spRank A.CW)) {f : Addr} {fd : FuncData} (F : Fun K "words_of" "words_of" sWords f fd) :
    FnOk P w K mg base (L2.CX P w) 9 f fd ["some"] (spWordsOf K A.CF A.CW) := by
  obtain ⟨rk, rd, RF, Rm, Rk, Rb⟩ := id G4.ex
  refine F.okX scWords (fun vs H Q E h => ?_) (fun cdv A' outer s H vs Q E hr h => ⟨_, pss_cons (ps_set (i := 1) scWords.nd rfl (.inl rfl) (pe_lst pa_nil))
    (pss_cons (ps_set (i := 2) scWords.nd rfl (.inl rfl) pe_dnewN)
    (pss_cons (ps_for (passes_of rfl) rfl (pi_enum (by rfl) T.enumerate (pa_cons (call_hasF G1 (hr.mono (by decide)) (pa_cons (pv 0) pa_nil)) pa_nil))
      (pg_tup rfl (pgs_cons (pg_name (i := 3) scWords.nd rfl (.inl rfl)) (pgs_cons (pg_name (i := 4) scWords.nd rfl (.inl rfl)) pgs_nil)))
      (pss_cons (ps_set (i := 5) scWords.nd rfl (.inl rfl) (call_has G2 hr (passAt (takes_of rfl rfl rfl rfl)) (pa_cons (pv 4) (pa_cons (pv 3) (pa_cons (pv 2) pa_nil)))))
      (pss_cons (ps_nput hr.units (pv 2) (meth_has0 G3 T.clW (hr.mono (by decide)) (pv 5)) pe_bl rfl)
      (pss_one (ps_expr (pe_bm PySem.F.plainAttrs_list PySem.F.slot_list_append PySem.F.type_list_append mt_append (pv 1) (pa_cons (pv 5) pa_nil)))))))
    (pss_one (ps_ret (pe_callBK (cr_sortBy (keyCall_def RF (hr.mono (by decide)) Rb) hr.units) (by rfl) T.sorted (by decide +kernel) (pa_cons (pv 1) pa_nil) (pk_cons (pe_glob (v := .ref rk) (by rfl) Rm rfl) pk_nil)))))), ?_⟩)
  · obtain ⟨a, ns, rfl, _⟩ := h
    rfl
  · obtain ⟨a, ns, rfl, hS, hlen, k1, k2⟩ := h
    refine ⟨Nat.zero_le _, fun D hD d hd hdm => ?_⟩
    obtain ⟨ndD, hd0⟩ := new_ne hd
    have sA : Same H (upd (upd H D (.lst [])) d (ndO P w d [])) := (Same.new hD).at hd0
    refine ⟨_, rfl, H, sA, fun b u eb hb => ?_, a, ns, rfl, hS, hlen, fun Hx L sx hL => ⟨sx, fun H3 s3 s23 no => ?_⟩⟩
    · by_cases z : b = d
      · rw [z, upd_same] at eb
        cases eb
        exact True.intro
      · rw [upd_ne z] at eb
        by_cases z2 : b = D
        · rw [z2, upd_same] at eb
          cases eb
          exact True.intro
        · rw [upd_ne z2, hb] at eb
          cases eb
    have eD2 : upd (upd H D (.lst [])) d (ndO P w d []) D = some (.lst []) := by
      rw [upd_ne (Ne.symm ndD)]
      exact upd_same
    have nxD : Hx D = none := no D _ eD2 hD
    have nxd : Hx d = none := no d _ upd_same hd0
    obtain ⟨ts, hL1, hL2⟩ := id hL
    have hsl : ∀ l ∈ linesOf ns, l.1.length ≤ 70000 := fun l hl => Nat.le_trans (linesOf_len ns l hl) hlen
    refine ⟨L, refs ts, rfl, SqL.of (s3 _ _ hL1), for_it walk_enum (fun i σ H' => ∃ (v3 v4 v5 : Option V) (as : List Addr) (ws : List SyLex.Word), σ = [some (.ref a), some (.ref D), some (.ref d), v3, v4, v5] ∧ Same Hx H' ∧ H' D = some (.lst (refs as)) ∧ ND P w H' d (ws.map keyOf) ∧
        Paired (WordAt A.CW H') as ws ∧ ws.length = i ∧ i ≤ 128 ∧ wordsM ns = wordsGo i ((linesOf ns).drop i) ws)
      ⟨none, none, none, [], [], rfl, s3, s23 _ _ eD2, (ND.new hdm).same s23, .nil, rfl, Nat.zero_le _, rfl⟩ (fun i σ H' _ ⟨_, _, _, _, _, _, s, _⟩ => SqL.of (s _ _ hL1)) ?_ ?_⟩
    · rintro i x σ H1 H1' hi ⟨v3, v4, v5, as, ws, rfl, sH, hDl, hN, hP, hwl, hib, hgo⟩ ⟨T0, x0, y0, rfl, hT, rfl, ex, ey⟩
      cases ex
      obtain ⟨t, ht, rfl⟩ := refs_get ey
      obtain ⟨l, hl, hLt⟩ : ∃ l, (linesOf ns)[i]? = some l ∧ LineAt Hx t l := by
        have hlt : i < (linesOf ns).length := by
          rw [← Paired.length hL2]
          rw [refs_len] at hi
          exact hi
        obtain ⟨t', h1, h2⟩ := prd_at hL2 (List.getElem?_eq_getElem hlt)
        rw [ht] at h1
        cases h1
        exact ⟨_, List.getElem?_eq_getElem hlt, h2⟩
      have s1 : Same H1 (upd H1 T0 (.tup [.int ((i : Nat) : Int), .ref t])) := Same.new hT
      have hstep := wordsGo_step (ws := ws) hl
      rw [← hgo] at hstep
      have sH1 := sH.trans s1
      refine ⟨T0, _, rfl, SqT.of upd_same, rfl, _, _, rfl, _, _, rfl, rfl, _, rfl, _, rfl, _, rfl, t, d, l, i, ws, rfl, hLt.same sH1, hsl l (List.mem_of_getElem? hl), hN.same s1, fun H4 e x s4 hx hw => ?_, fun H4 dd j k s4 hx hdd hx2 => ?_⟩
      rotate_left
      · refine k2 H4 dd j k ((sx.trans sH1).trans s4) ?_ ?_ hx2
        · rw [hstep, hx]
        · exact (sx.trans sH1).free hdd
      obtain ⟨kn, ki, ksm⟩ := wordIn_ok hx
      obtain ⟨dx, q1, q2, h1, h2, h3⟩ := id hw
      have s14 := s1.trans s4
      refine ⟨_, rfl, _, rfl, e, dx, _, rfl, h1, wF_no_name, e, dx, q1, q2, x, rfl, h1, fun p hp => ?_⟩
      have s5 : Same H4 (upd H4 p (.tup [.ref q1, .ref q2])) := Same.new hp
      have s15 := s14.trans s5
      have hN5 := hN.same s15
      refine ⟨d, p, _, keyOf x, rfl, rfl, rfl, hN5, ⟨q1, q2, upd_same, s5 _ _ h2, s5 _ _ h3⟩, kn, ?_, fun u hN6 => ?_⟩
      · rw [List.length_map, hwl, sizeLine_eq]
        omega
      obtain ⟨φ, hd5⟩ := ND.obj hN5
      have hD5 := s15 _ _ hDl
      have nDd : D ≠ d := ne_of hD5 hd5 (fun z => nomatch z)
      have hD6 : upd (upd H4 p (.tup [.ref q1, .ref q2])) d u D = some (.lst (refs as)) := by
        rw [upd_ne nDd]
        exact hD5
      have hasl : as.length = i := (Paired.length hP).trans hwl
      refine ⟨_, rfl, .inl ⟨rfl, _, SqL.of hD6⟩, _, rfl, D, _, _, rfl, rfl, hD6, ?_, some (.int ((i : Nat) : Int)), some (.ref t), some (.ref e), as ++ [e], ws ++ [x], rfl, (((sH.trans s15).at nxd).at nxD), ?_, ?_, ?_, ?_, by omega, ?_⟩
      · rw [refs_len, sizeLine_eq]
        omega
      · rw [upd_same, refs_snoc]
      · rw [List.map_append]
        exact ND.put hN6 hD6
      · exact prd_snoc (Paired.mapP hP fun _ _ q => ((q.same s15).put hd5 True.intro).put hD6 True.intro) (((hw.same s5).put hd5 True.intro).put hD6 True.intro)
      · rw [List.length_append, List.length_singleton, hwl]
      · rw [hstep, hx]
    · rintro σ H' ⟨v3, v4, v5, as, ws, rfl, sH, hDl, hN, hP, hwl, hib, hgo⟩
      have hlen2 : (refs ts).length = (linesOf ns).length := by
        rw [refs_len]
        exact Paired.length hL2
      have hok : wordsM ns = .ok ws := by
        rw [hgo, List.drop_of_length_le (by omega)]
        rfl
      refine ⟨_, rfl, D, rk, refs as, ws.map rankD, rfl, rfl, SqL.of hDl, ?_, rankD_all ws, PySem.W.Sortable.tuples fun b => ⟨_, _, rfl⟩, fun d hd => ?_, fun i x k hx hk H4 s4 => ⟨rfl, ?_⟩, fun H4 p s4 hp => ?_⟩
      · rw [refs_len, List.length_map]
        exact Paired.length hP
      · obtain ⟨x, _, rfl⟩ := List.mem_map.mp hd
        exact rankD_depth x
      · obtain ⟨e, he, rfl⟩ := refs_get hx
        obtain ⟨x, hx2, rfl⟩ : ∃ x, ws[i]? = some x ∧ rankD x = k := by
          rw [List.getElem?_map] at hk
          cases z : ws[i]? with
          | none => rw [z] at hk; cases hk
          | some x =>
            rw [z] at hk
            exact ⟨x, rfl, Option.some.inj hk⟩
        obtain ⟨e', h1, h2⟩ := prd_at hP hx2
        rw [he] at h1
        cases h1
        obtain ⟨dx, q1, q2, g1, g2, g3⟩ := h2.same s4
        refine ⟨e, dx, q1, q2, x, rfl, g1, fun p hp => ?_⟩
        have s5 : Same H4 (upd H4 p (.tup [.ref q1, .int (x.cost : Int), .ref q2])) := Same.new hp
        exact ⟨s5, .tup (SqT.of upd_same) (.cons (.tup (SqT.of (s5 _ _ g2)) (dpAll_ints _)) (.cons (.int _) (.cons (.tup (SqT.of (s5 _ _ g3)) (dpAll_ints _)) .nil)))⟩
      · obtain ⟨cs, e1, e2⟩ := sort_pairs (kd := rankD) (Paired.mapP hP fun _ _ q => q.same s4)
        rw [e1] at hp
        refine k1 H4 p ws ((sx.trans sH).trans s4) hok ⟨cs, hp, ?_⟩
        rw [inOrder_sort]
        exact e2
end
end Sb
end
section
/-! Rules 7: a list comprehension whose items may raise -/
namespace L2
open PySem PySem.Spec PyProof.Rows
section
variable {X : Cx} {W : WX} {scope : Scope} {own : List (Str × Nat)} {wi : TI} {g : TG} {tg iter elt : Expr} {pos : Pos} {te : XK → TE}
/-- what an item raises is in the air of the def around -/
theorem item_raised (hst : X.stack = X.env :: X.outer) (hfr : X.env.frame = some X.env.locals) (tk : L2N.Takes X W) {pins : List (Addr × Obj)} {σ : St} {H : Hp} {s s' : Shared} {C : Addr} {ce : Env} {m : Str → Option Value} {e : Value}
    (I : Inv X pins σ H s) (hcf : ce.frame = X.env.frame) (hcl : ce.locals = C) (hn : s.heap.Ns C m) (hC : H C = none) (hns : C ∉ frs X.stack) (hL : C ≠ X.env.locals) (h0 : X.s_0.heap.objs.size ≤ C)
    (hce : ∀ x c, X.env.cells.lookup x = some c → c ≠ C) (hpn : ∀ p ∈ X.pn ++ pins, p.1 ≠ C) (c : L2N.CX X.prog X.w X.stack H s (WE W σ) e s') :
    notedBy (model X.prog X.w) X.A ce (CompFails (model X.prog X.w) X.A X.xe ce) e s' := by
  have c2 : L2N.CX X.prog X.w X.stack H s (fun cls d H' => WE W σ cls d H' ∧ H' C = none ∧ ∃ mC, s'.heap.Ns C mC) e s' := by
    obtain ⟨a, B, H', cls, d, e1, fl, hok, ub, na, os, ag, hE⟩ := c
    obtain ⟨oC, es, ep, gC, rC⟩ := hn
    exact ⟨a, B, H', cls, d, e1, fl, hok, ub, na, os, ag, hE, ub.free C oC gC hC, m, oC, es, ep, fl.1 C oC (ub.keep C oC gC hC hns), rC⟩
  obtain ⟨a, B, sI, pI, σ1, H1, cls, d, rfl, J, nb, up, sky, na, os, ag, hw, hC1, mC, hnC⟩ := L2N.XE.of_call (W := fun cls d σ' H' => W cls d σ' H' ∧ H' C = none ∧ ∃ mC, s'.heap.Ns C mC) I (fun _ _ _ h => h) c2
  show wpAny (model X.prog X.w) X.A (noteFrame (.ref a) ce) _ _ s'
  rw [noteFrame_env (.ref a) hcf]
  have hfr2 : X.A.frames = some (X.env :: X.outer) := by rw [I.ok.frames, hst]
  have fin : ∀ g1 : Heap, HandSPX.HeldZ B (X.env :: X.outer) a (L2N.Zn cls d) X.env.locals g1 → s'.heap.UpToSlots g1 → CompFails (model X.prog X.w) X.A X.xe ce (.ref a) { s' with heap := g1 } := by
    intro g1 hh up1
    obtain ⟨st1, hBa, ff1, oe, vs, T, oT, tv, he, hz, hd, h1, hnT, hTe, hT, hdT, h3⟩ := hh
    have hnC1 : g1.Ns C mC := hnC.upToSlots up1
    obtain ⟨oC, esC, epC, gC1, dC1, _⟩ := id hnC1
    refine ⟨mC, by rw [hcl]; exact hnC1, fun h2 m2 hn2 sb => ?_⟩
    rw [hcl] at hn2 sb
    have naC : a ≠ C := fun z => by
      rw [z, gC1] at he
      cases he
      rw [hd] at dC1
      cases dC1
    have nTC : T ≠ C := fun z => by
      rw [z, gC1] at hT
      cases hT
      rw [hdT] at dC1
      cases dC1
    -- the ground without the block
    obtain ⟨B2, bI, bN⟩ := restrict B fun b => decide (b ≠ C)
    have b2 : ∀ b o, B2.get? b = some o → b ≠ C ∧ B.get? b = some o := fun b o eb => by
      by_cases z : b = C
      · rw [z, bN C (by simp)] at eb
        cases eb
      · rw [bI b (by simp [z])] at eb
        exact ⟨z, eb⟩
    have b2n : ∀ b, B.get? b = none → B2.get? b = none := fun b eb => by
      cases q : B2.get? b with
      | none => rfl
      | some o =>
        rw [(b2 b o q).2] at eb
        cases eb
    obtain ⟨G, gI, gN⟩ := restrict sI.heap fun b => decide (b ≠ C)
    have g2 : ∀ b o, G.get? b = some o → b ≠ C ∧ sI.heap.get? b = some o := fun b o eb => by
      by_cases z : b = C
      · rw [z, gN C (by simp)] at eb
        cases eb
      · rw [gI b (by simp [z])] at eb
        exact ⟨z, eb⟩
    have J1 : Inv X [] σ1 H1 sI := J.unpinned
    have J2 : Inv X [] σ1 H1 { sI with heap := G } := by
      refine J1.call' (s' := { sI with heap := G }) (ch := [C]) rfl ⟨fun b o eb _ _ hx => ?_, fun b o eb _ _ hx => ⟨o.slots, ?_⟩, fun _ _ _ n _ => n, fun b o eb hx => ⟨o, ?_⟩, fun _ _ q => q, fun _ _ _ q => q, fun b ps q => ⟨#[], by rw [q]; simp⟩⟩ (fun b u eb => ?_) J1.bare (fun b hb => ?_)
      · exact (gI b (by simpa using hx)).trans eb
      · exact (gI b (by simpa using hx)).trans eb
      · exact (gI b (by simpa using hx)).trans eb
      · refine (J1.hok b u eb).stay (fun c' v hc q => (gI c' ?_).trans q) (fun _ q => q) fun _ _ q => q
        have nz : ∀ z, H1 c' = some z → c' ≠ C := fun z q1 q2 => by
          rw [q2, hC1] at q1
          cases q1
        rcases hc with q1 | q1
        · rw [q1]
          rw [q1] at nz
          simpa using nz u eb
        · simpa using nz _ q1
      · rw [List.mem_singleton.mp hb]
        exact ⟨.inr h0, hL, hce, fun p hp => hpn p (List.mem_append_left _ (by simpa using hp))⟩
    have he2 : h2.get? a = some oe := (sb.2 a naC).trans he
    have ff2 : h2.FunFrames B2 (X.env :: X.outer) := funFrames_none (Heap.FunFrames.sameBut sb hn2 ff1) fun b hb => b2n b (ff1.mem hb).1
    have hh2 : HandSPX.HeldZ B2 (X.env :: X.outer) a (L2N.Zn cls d) X.env.locals h2 :=
      ⟨fun b o eb => (sb.2 b (b2 b o eb).1).trans (st1 b o (b2 b o eb).2), b2n a hBa, ff2, oe, vs, T, oT, tv, he2, hz, hd, h1, b2n T hnT, hTe, (sb.2 T nTC).trans hT, hdT, h3⟩
    unfold PySem.passOn
    refine wpAny_bind (wpAny_field he2 hd h1 ?_)
    rw [if_neg (show ¬ ((Value.ref T == Value.none) = true) from by simp), hcf, hfr]
    have last : ∀ g3 : Heap, HandSPX.HeldZ B2 (X.env :: X.outer) a (L2N.Zn cls d) X.env.locals g3 → h2.UpToSlots g3 → X.xe (.ref a) { s' with heap := g3 } := by
      intro g3 hh3 up3
      refine tk _ _ ⟨a, B2, { sI with heap := G }, [], σ1, H1, cls, d, rfl, J2, fun b o eb hb => ?_, fun b o eb hnf => ?_, .inr (.inr (by rw [hst]; exact hh3)), na, os, ag, hw⟩
      · obtain ⟨z1, z2⟩ := g2 b o eb
        exact (bI b (by simpa using z1)).trans (nb b o z2 hb)
      · obtain ⟨z1, z2⟩ := g2 b o eb
        obtain ⟨sl, z3⟩ := (up.trans up1) b o z2 hnf
        obtain ⟨sl2, z4⟩ := up3 b _ ((sb.2 b z1).trans z3) hnf
        exact ⟨sl2, z4⟩
    have fin2 : wpAny (model X.prog X.w) X.A (setFlight (.ref a) (some X.env.locals)) (fun _ s4 => wpAny (model X.prog X.w) X.A (throw (.ref a) : Sem Value) (fun _ _ => False) X.xe s4) X.xe { s' with heap := h2 } :=
      HandSPX.setFlight_onZ hh2 fun g3 hh3 up3 => wpAny_throw (last g3 hh3 up3)
    first
    | exact wpAny_bind fin2
    | exact wpAny_bind (wpAny_pure (wpAny_bind fin2))
  have sky' : Sky B (X.env :: X.outer) a (L2N.Zn cls d) X.env.locals s'.heap := by
    rw [← hst]
    exact sky
  rcases sky' with ⟨hB, hn, hl, oe, vs, he, hz, hd, h1⟩ | fl | hh
  · exact PXN.look_newZ L2N.Zn.steady hfr2 hl hfr he hB hn hd h1 hz fin
  · exact PXN.looks_onZ L2N.Zn.steady hfr2 hfr fl fin
  · exact HandSPX.againZ hfr hh.2.2.2 (fin s'.heap hh (Heap.UpToSlots.refl _))
/-- [elt for tg in iter], elt may raise -/
theorem pe_lcN (calm : X.calm = true) (nd : X.N.Nodup) (hst : X.stack = X.env :: X.outer) (hfr : X.env.frame = some X.env.locals) (tk : L2N.Takes X W) (hi : PI X tg iter wi) (bo : BlkOk X.N X.env.scope scope own)
    (hg : ∀ (z : Shared) (Hz : Hp) (C : Addr) (cl : List (Str × Addr)) (fp : List Addr), PG (X.blk z Hz scope (compEnvC scope cl C X.env) fp) tg g)
    (he : ∀ (Ew : XK) (z : Shared) (Hz : Hp) (C : Addr) (cl : List (Str × Addr)) (fp : List Addr) (xe : Value → Shared → Prop), (∀ σ', PassesAt (L2N.CX X.prog X.w) ((X.blk z Hz scope (compEnvC scope cl C X.env) fp).wish xe) σ' Ew) →
      PE ((X.blk z Hz scope (compEnvC scope cl C X.env) fp).wish xe) elt (te Ew))
    (hs : ∀ x, foldedSetIterable iter X.env x = pure x := by intro _; rfl) : PE X (.ListComp elt [⟨tg, iter, [], 0⟩] scope pos) (fun σ H Q => tLc wi g tYes (te (WE W σ)) (own.map (·.2)) σ H Q) := by
  refine ⟨fun pins s σ H Q I h => ?_⟩
  have clo : ∀ y ∈ scope.names, y.2 = .free → ∃ c, X.env.cells.lookup y.1 = some c := fun y hy e => (bo.free y hy e).elim (fun z => I.ok.has _ (.inl z)) fun z => I.ok.has _ (.inr z)
  rw [eval_ListComp]
  refine comprehension_at (use := none) rfl hs (closure_ok clo) bo.kind (fun y hy e => by rw [bo.uniq y hy, e]) (thn (hi.run pins s σ H _ I h) fun xv sa ha => thn ha fun itv sb hb => ?_)
  obtain ⟨it, fp, tn, J, Hb, rfl, Ib, T, stb, fb, qb⟩ := hb
  refine wpAny_newObj_type (newEnv_comp ?_) (by show 0 ≤ sizeLine; decide)
  obtain ⟨D, eD⟩ : ∃ D, D = sb.heap.objs.size := ⟨_, rfl⟩
  rw [← eD]
  have nD : Hb D = none := Ib.hok.fresh (Nat.le_of_eq eD.symm)
  obtain ⟨Wm, ⟨m0, w0⟩, turn⟩ := qb D nD
  generalize esc : ({ sb with heap := sb.heap.push { cls := .type "list", data := .seq ([] : List Value).toArray } } : Shared) = sc
  have hsc : sc.heap = sb.heap.push { cls := .type "list", data := .seq ([] : List Value).toArray } := by rw [← esc]
  have up1 : ∀ b o, sb.heap.get? b = some o → sc.heap.get? b = some o := fun b o e => by
    rw [hsc]
    exact Heap.get?_push_of_some _ e
  have Ic : Inv X pins σ (upd Hb D (.lst [])) sc := by
    rw [← esc]
    refine Ib.laid (t' := sb.toks) (fun b o e => Heap.get?_push_of_some _ e) (Nat.le_of_eq eD.symm) ⟨Nat.zero_le _, [], 0, .nil, ?_⟩
    rw [eD]
    exact Heap.get?_push_size _ rfl
  have under : ∀ b ∈ fp, b < sb.heap.objs.size := fun b hb => by
    obtain ⟨o, e, _⟩ := T.obj _ _ stb b hb
    exact Heap.lt_size e
  have fc : ∀ b ∈ fp, FpOk X pins (upd Hb D (.lst [])) b ∧ b < sc.heap.objs.size := fun b hb => by
    have lt := under b hb
    have ne : b ≠ D := by
      rw [eD]
      exact Nat.ne_of_lt lt
    refine ⟨⟨by rw [upd_ne ne]; exact (fb b hb).1, (fb b hb).2⟩, ?_⟩
    rw [hsc, Heap.size_push]
    exact Nat.lt_succ_of_lt lt
  have stc : tn 0 sc.heap := T.keep _ _ _ stb fun b _ o e => up1 b o e
  have Id := block_start Ic bo nd fc
  have pgd := hg sc (upd Hb D (.lst [])) sc.heap.objs.size (cellsFrom (sc.heap.objs.size + 1) scope.names (cloFrom X.env.cells scope.names [])) fp
  have ped := he (WE W σ) sc (upd Hb D (.lst [])) sc.heap.objs.size (cellsFrom (sc.heap.objs.size + 1) scope.names (cloFrom X.env.cells scope.names [])) fp
  have hnf : ∀ b ∈ fp, (upd Hb D (.lst [])) b = none := fun b hb => (fc b hb).1.1
  show codeAny _ _ (.compStart (.ListComp elt [⟨tg, iter, [], 0⟩] scope pos) 0 (.ref it) (.ref D) (compEnvC scope (cellsFrom (sc.heap.objs.size + 1) scope.names (cloFrom X.env.cells scope.names [])) sc.heap.objs.size X.env)) (compEnds (model X.prog X.w) X.A X.xe none (EP X pins σ Q) (.ref D) (compEnvC scope (cellsFrom (sc.heap.objs.size + 1) scope.names (cloFrom X.env.cells scope.names [])) sc.heap.objs.size X.env)) { sc with heap := pushCells (sc.heap.push { cls := .type "dict", data := .dict #[] }) scope.names }
  have lrows : (compEnvC scope (cellsFrom (sc.heap.objs.size + 1) scope.names (cloFrom X.env.cells scope.names [])) sc.heap.objs.size X.env).locals = sc.heap.objs.size := rfl
  have frows : (compEnvC scope (cellsFrom (sc.heap.objs.size + 1) scope.names (cloFrom X.env.cells scope.names [])) sc.heap.objs.size X.env).frame = X.env.frame := rfl
  generalize compEnvC scope (cellsFrom (sc.heap.objs.size + 1) scope.names (cloFrom X.env.cells scope.names [])) sc.heap.objs.size X.env = ce at Id pgd ped lrows frows ⊢
  generalize upd Hb D (.lst []) = Hc at Ic Id pgd ped w0 hnf fc
  generalize esd : ({ sc with heap := pushCells (sc.heap.push { cls := .type "dict", data := .dict #[] }) scope.names } : Shared) = sd at Id ⊢
  have std : tn 0 sd.heap := T.keep _ _ _ stc fun b _ o e => by
    rw [← esd]
    exact pushCells_keeps _ _ _ _ (Heap.get?_push_of_some _ e)
  -- back to the def's own state
  have back : ∀ {pi : List (Addr × Obj)} {σ' : St} {H' : Hp} {z : Shared}, Inv (X.blk sc Hc scope ce fp) pi σ' H' z → Inv X pins σ H' z := fun {pi σ' H' z} I' =>
    Ic.call' (ch := fp) I'.os I'.base I'.hok I'.bare fun b hb => by
      obtain ⟨_, q1, _, q3, q4, q5⟩ := (fc b hb).1
      exact ⟨q3, q1, q4, q5⟩
  have fpk : ∀ {σ' : St} {H' : Hp} {z : Shared}, Inv (X.blk sc Hc scope ce fp) [] σ' H' z → (∀ b ∈ fp, H' b = none) → ∀ b ∈ fp, FpOk (X.blk sc Hc scope ce fp) [] H' b := fun {σ' H' z} I' nn b hb => by
    obtain ⟨q1, q2⟩ := I'.ok.exf b hb
    exact ⟨nn b hb, q1, I'.ok.exfs b hb, .inl hb, q2, fun p hp => absurd (show p ∈ ([] : List (Addr × Obj)) ++ [] from hp) (by simp)⟩
  have raised : ∀ σ', PassesAt (L2N.CX X.prog X.w) ((X.blk sc Hc scope ce fp).wish (notedBy (model X.prog X.w) X.A ce (CompFails (model X.prog X.w) X.A X.xe ce))) σ' (WE W σ) := by
    intro σ' pi H' z e z' I' c
    have I0 := I'.unwish
    obtain ⟨m, hm, _⟩ := I0.loc
    have hm : z.heap.Ns ce.locals m := hm
    rw [lrows] at hm
    have fC : H' sc.heap.objs.size = none := by
      have q : H' ce.locals = none := I0.free
      rw [lrows] at q
      exact q
    obtain ⟨f0, f1, f2, f3, f4, f5⟩ := Ic.fpOk (Nat.le_refl _) (Ic.hok.fresh (Nat.le_refl _))
    refine item_raised hst hfr tk (back I0) frows lrows hm fC (fun hmem => ?_) f1 (by
      rcases f3 with q | q
      · exact Ic.sz
      · exact q) f4 f5 c
    obtain ⟨_, o, ho, _⟩ := Ic.stack.mem hmem
    exact absurd (Heap.lt_size ho) (Nat.lt_irrefl _)
  have pe := ped _ raised
  have round : codeAny (model X.prog X.w) X.A (.compLoop (.ListComp elt [⟨tg, iter, [], 0⟩] scope pos) 0 (.ref it) (.ref D) ce) (compEnds (model X.prog X.w) X.A X.xe none (EP X pins σ Q) (.ref D) ce) sd := by
    refine compLoop_any (fun n z => ∃ i H', Inv (X.blk sc Hc scope ce fp) [] (wipe σ (own.map (·.2))) H' z ∧ tn i z.heap ∧ (∀ b ∈ fp, H' b = none) ∧ Wm i n H') ?_ m0 ⟨0, Hc, Id, std, hnf, w0⟩
    rintro n z1 ⟨i, H1, I1, st1, n1, w1⟩
    obtain ⟨_, f1, f2, f3, f4, f5⟩ := Ic.fpOk (Nat.le_refl _) (Ic.hok.fresh (Nat.le_refl _))
    rw [← lrows] at f1 f2 f3 f4 f5
    rcases turn i n H1 w1 with ⟨stop, qq⟩ | ⟨go, Nx, hNx, step⟩
    · refine thnF (T.done (X.blk sc Hc scope ce fp) rfl rfl rfl calm i [] z1 _ H1 (fun _ _ => False) I1 (fpk I1 n1) st1 stop) fun r z2 hz => ?_
      obtain ⟨rfl, I2⟩ := hz
      obtain ⟨m, hm, _⟩ := id I2.loc
      exact ⟨m, hm, fun h' sw => ⟨.ref D, H1, (back I2).turned (t' := z2.toks) (fun b o hb e => (sw.2 b hb).trans e) I2.free f1 f3 f4 f5, rfl, qq⟩⟩
    · refine thnF (T.item (X.blk sc Hc scope ce fp) rfl rfl rfl calm i [] z1 _ H1 (fun _ _ => False) I1 (fpk I1 n1) st1 go) fun r z2 hz => ?_
      obtain ⟨u, rfl, h6⟩ := hz
      refine thnF h6 fun _ z3 ⟨x, H3, I3, r3, y3, st3, n3⟩ => ?_
      refine thnF (pgd.run _ z3 _ H3 x u _ (I3.pinned (fpk I3 n3) (T.obj _ _ st3)) r3 (step x H3 y3)) fun _ z4 ⟨σ4, H4, I4, hw4, q4⟩ => ?_
      refine thnF ((pts_nil (X := X.blk sc Hc scope ce fp)).run _ z4 σ4 H4 _ I4 q4) fun b z5 ⟨H5, I5, q5⟩ => ?_
      have wl : (wipe σ (own.map (·.2))).length = σ4.length := by rw [← hw4, wipe_length]
      have close : ∀ {z : Shared} {H' : Hp}, Inv (X.blk sc Hc scope ce fp) ([] ++ pinsAt fp z3.heap) σ4 H' z → Nx H' → ∃ k, k < n ∧ ∃ i H', Inv (X.blk sc Hc scope ce fp) [] (wipe σ (own.map (·.2))) H' z ∧ tn i z.heap ∧ (∀ b ∈ fp, H' b = none) ∧ Wm i k H' := fun {z H'} I' nx => by
        obtain ⟨k, hk, w'⟩ := hNx H' nx
        have stays : ∀ b ∈ fp, ∀ o, z3.heap.get? b = some o → z.heap.get? b = some o ∧ H' b = none := fun b hb o e => by
          obtain ⟨q1, q2, _⟩ := I'.pin (b, o) (List.mem_append_right _ (List.mem_append_right _ (mem_pinsAt hb e)))
          exact ⟨q1, q2⟩
        refine ⟨k, hk, i + 1, H', (I'.unpinned (pins := [])).weak wl fun j v e => ?_, T.keep _ _ _ st3 fun b hb o e => (stays b hb o e).1, fun b hb => ?_, w'⟩
        · rw [← hw4] at e
          exact (wipe_some e).1
        · obtain ⟨o, e, _⟩ := T.obj _ _ st3 b hb
          exact (stays b hb o e).2
      cases b with
      | false =>
        simp only [Bool.false_eq_true, if_false] at q5 ⊢
        exact close I5 q5
      | true =>
        simp only [if_true] at q5 ⊢
        refine wpAny_mono (pe.run _ z5 σ4 H5 _ (I5.wish _) q5) (fun y z6 hy => ?_) fun e z6 hz => hz
        obtain ⟨yv, H6, I6, r6, acc, hD6, lz6, nx⟩ := hy
        exact app_ok (X := X.blk sc Hc scope ce fp) I6.unwish hD6 lz6 r6 fun z7 I7 => close I7 nx
  exact codeAny_compStart_list round (T.self X.A 0 _ _ _ std round)
end
end L2
end
section
/-! Math 3: the joins that are read -/
namespace Sb
open SyBase SyLex SyWays
def numbersM (l : List Nat × Bool) (m : Nat) : Option (List Nat) := (partsM l m).bind (mapO numM)
/-- the first line -/
def byM (l : List Nat × Bool) : Except (Nat × Nat) Nat := match numbersM l 1 with
  | some [a] => if 65535 < a then .error (0, 2) else .ok a
  | _ => .error (0, 1)
/-- a further line, of a number, behind known joins -/
def joinIn (l : List Nat × Bool) (i : Nat) (known : List Join) : Except (Nat × Nat) Join := match numbersM l 3 with
  | some [x, y, c] => if 255 < x ∨ 255 < y ∨ 65535 < c then .error (i, 2) else if known.any (fun q => q.right == x && q.left == y) = true then .error (i, 3) else .ok ⟨x, y, c⟩
  | _ => .error (i, 1)
def joinsGo : Nat → List (List Nat × Bool) → List Join → Except (Nat × Nat) (List Join)
  | _, [], acc => .ok acc
  | i, l :: r, acc => match joinIn l i acc with
    | .error e => .error e
    | .ok j => joinsGo (i + 1) r (acc ++ [j])
def joinsM (some : List Nat) : Except (Nat × Nat) (Nat × List Join) := match linesOf some with
  | [] => .error (0, 1)
  | l :: r => match byM l with
    | .error e => .error e
    | .ok a => (joinsGo 1 r []).map fun js => (a, js)
/-- what a join costs -/
def joinCost (js : List Join) (x y : Nat) : Nat := ((js.find? fun (j : Join) => j.right == x && j.left == y).map fun (j : Join) => j.cost).getD 0
theorem mapO_eq {α β : Type} {f : α → Option β} : ∀ {l : List α} {s : List β}, mapO f l = some s → s.length = l.length := fun h => mapO_length h
theorem numbersM_len {l : List Nat × Bool} {m : Nat} {ns : List Nat} (h : numbersM l m = some ns) : ns.length = m := by
  unfold numbersM at h
  cases e : partsM l m with
  | none => rw [e] at h; cases h
  | some ps =>
    rw [e] at h
    have h1 : mapO numM ps = some ns := h
    rw [mapO_length h1]
    unfold partsM at e
    split at e
    · cases e2 : chars l.1 with
      | none => rw [e2] at e; cases e
      | some cs =>
        rw [e2] at e
        have h' : (if (parted 32 cs).length = m then some (parted 32 cs) else none) = some ps := e
        split at h'
        · cases h'
          assumption
        · cases h'
    · cases e
theorem parted_no (m : Nat) : ∀ l : List Nat, m ∉ l → parted m l = [l]
  | [], _ => rfl
  | x :: l, h => by
    have h1 : ¬ x = m := fun z => h (by rw [z]; exact List.mem_cons_self)
    have ih := parted_no m l fun z => h (List.mem_cons_of_mem _ z)
    unfold parted
    rw [if_neg h1, ih]
theorem parted_more (m : Nat) : ∀ l : List Nat, m ∈ l → 2 ≤ (parted m l).length
  | [], h => by cases h
  | x :: l, h => by
    unfold parted
    by_cases h1 : x = m
    · rw [if_pos h1]
      obtain ⟨p, q, e⟩ := parted_cons m l
      rw [e]
      simp
    · rw [if_neg h1]
      have ih := parted_more m l ((List.mem_cons.mp h).resolve_left fun z => h1 z.symm)
      cases e : parted m l with
      | nil => rw [e] at ih; simp at ih
      | cons p q =>
        rw [e] at ih
        simpa using ih
theorem numM_dig {cs : List Nat} {n : Nat} (h : numM cs = some n) : 32 ∉ cs := by
  unfold numM at h
  split at h
  · rename_i c
    intro z
    have := List.all_eq_true.mp c.2.1 32 z
    exact absurd this (by decide)
  · cases h
theorem decimalOf_one (b : Bytes) : decimalOf b = match numbersM (nats b, true) 1 with
    | some [a] => some a
    | _ => none := by
  unfold numbersM
  rw [decimalOf_eq, partsM_true, ← chars_parted (nats b).length (nats b) (Nat.le_refl _)]
  cases e : chars (nats b) with
  | none => rfl
  | some cs =>
    show numM cs = match ((if (parted 32 cs).length = 1 then some (parted 32 cs) else none).bind (mapO numM)) with
      | some [a] => some a
      | _ => none
    by_cases h : 32 ∈ cs
    · have h2 := parted_more 32 cs h
      rw [if_neg (by omega)]
      cases z : numM cs with
      | none => rfl
      | some n => exact absurd h (numM_dig z)
    · rw [parted_no 32 cs h, if_pos (show [cs].length = 1 from rfl)]
      show numM cs = match ((numM cs).bind fun y => (mapO numM []).map fun s => y :: s) with
        | some [a] => some a
        | _ => none
      cases numM cs <;> rfl
theorem joinOf_eq (b : Bytes) : joinOf b = match numbersM (nats b, true) 3 with
    | some [x, y, c] => some ⟨x, y, c⟩
    | _ => none := by
  unfold joinOf numbersM
  rw [partsM_true, ← parted_eq]
  have short : ∀ ps : List Bytes, ps.length ≠ 3 → ((mapO chars (ps.map nats)).bind fun qs => if qs.length = 3 then some qs else none) = none := fun ps h => by
    cases e : mapO chars (ps.map nats) with
    | none => rfl
    | some qs =>
      have := mapO_length e
      rw [List.length_map] at this
      show (if _ then _ else _) = _
      rw [if_neg (by omega)]
  match SyLex.parted b, short with
  | [x, y, c], _ =>
    simp only [decimalOf_eq, List.map_cons, List.map_nil, mapO]
    cases chars (nats x) with
    | none => simp
    | some p =>
      cases chars (nats y) with
      | none => cases numM p <;> simp
      | some q =>
        cases chars (nats c) with
        | none => cases h1 : numM p <;> cases h2 : numM q <;> simp [h1, h2]
        | some r => cases h1 : numM p <;> cases h2 : numM q <;> cases h3 : numM r <;> simp [mapO, h1, h2, h3]
  | [], s => rw [s _ (by simp)]; rfl
  | [_], s => rw [s _ (by simp)]; rfl
  | [_, _], s => rw [s _ (by simp)]; rfl
  | _ :: _ :: _ :: _ :: _, s => rw [s _ (by simp)]; rfl
/-- joins in order -/
def inOrderJ (js : List Join) : List Join := js.foldl (fun L j => putJoin j L) []
theorem putJoin_perm (j : Join) : ∀ L : List Join, (putJoin j L).Perm (j :: L)
  | [] => .refl _
  | q :: L => by
    unfold putJoin
    split
    · exact .refl _
    · exact ((putJoin_perm j L).cons q).trans (.swap j q L)
theorem foldJ_perm : ∀ js L : List Join, (js.foldl (fun L j => putJoin j L) L).Perm (L ++ js)
  | [], L => by
    rw [List.append_nil]
    exact .refl _
  | j :: js, L => by
    rw [List.foldl_cons]
    refine (foldJ_perm js (putJoin j L)).trans ?_
    refine ((putJoin_perm j L).append_right js).trans ?_
    exact List.perm_middle.symm
theorem inOrderJ_perm (js : List Join) : (inOrderJ js).Perm js := by
  have := foldJ_perm js []
  rwa [List.nil_append] at this
theorem inOrderJ_snoc (js : List Join) (j : Join) : inOrderJ (js ++ [j]) = putJoin j (inOrderJ js) := by
  unfold inOrderJ
  rw [List.foldl_append]
  rfl
theorem any_inOrderJ (f : Join → Bool) (js : List Join) : (inOrderJ js).any f = js.any f := by
  have h := inOrderJ_perm js
  rw [Bool.eq_iff_iff, List.any_eq_true, List.any_eq_true]
  exact ⟨fun ⟨x, a, b⟩ => ⟨x, h.mem_iff.mp a, b⟩, fun ⟨x, a, b⟩ => ⟨x, h.mem_iff.mpr a, b⟩⟩
theorem numbersM_false (l : List Nat) (m : Nat) : numbersM (l, false) m = none := rfl
/-- a text cut at its first line's end -/
theorem cut_eq (u : UInt8) (b : Bytes) : ((u :: b).drop ((u :: b).takeWhile fun (c : UInt8) => c != 0x0A).length = [] ∧ linesOf (nats (u :: b)) = [(nats (u :: b), false)]) ∨
    ∃ y r, (u :: b).drop ((u :: b).takeWhile fun (c : UInt8) => c != 0x0A).length = y :: r ∧ linesOf (nats (u :: b)) = (nats ((u :: b).takeWhile fun (c : UInt8) => c != 0x0A), true) :: linesOf (nats r) ∧ r.length ≤ b.length := by
  have hl := linesOf_cut (nats (u :: b))
  rw [← takeWhile_nats] at hl
  have hlen : (nats ((u :: b).takeWhile fun (c : UInt8) => c != 0x0A)).length = ((u :: b).takeWhile fun (c : UInt8) => c != 0x0A).length := List.length_map ..
  rw [hlen] at hl
  have hdr : (nats (u :: b)).drop ((u :: b).takeWhile fun (c : UInt8) => c != 0x0A).length = nats ((u :: b).drop ((u :: b).takeWhile fun (c : UInt8) => c != 0x0A).length) := by
    unfold nats
    rw [List.map_drop]
  rw [hdr] at hl
  cases hd : (u :: b).drop ((u :: b).takeWhile fun (c : UInt8) => c != 0x0A).length with
  | nil =>
    rw [hd] at hl
    exact .inl ⟨rfl, hl⟩
  | cons y r =>
    rw [hd] at hl
    refine .inr ⟨y, r, rfl, hl, ?_⟩
    have e := congrArg List.length hd
    rw [List.length_drop, List.length_cons, List.length_cons] at e
    omega
theorem readJoinsFrom_eq : ∀ (n i : Nat) (b : Bytes) (acc : List Join), b.length ≤ n → readJoinsFrom n i b (inOrderJ acc) = (joinsGo i (linesOf (nats b)) acc).map inOrderJ
  | 0, _, [], _, _ => rfl
  | _ + 1, _, [], _, _ => rfl
  | 0, _, _ :: _, _, h => by simp at h
  | n + 1, i, u :: b, acc, h => by
    unfold readJoinsFrom
    simp only
    rcases cut_eq u b with ⟨hd, hl⟩ | ⟨y, r, hd, hl, hr⟩
    · rw [hd, hl]
      simp [joinsGo, joinIn, numbersM_false, Except.map]
    · rw [hd, hl]
      simp only [joinsGo, joinIn, joinOf_eq]
      have hr' : r.length ≤ n := by
        simp only [List.length_cons] at h
        omega
      cases e : numbersM (nats ((u :: b).takeWhile fun (c : UInt8) => c != 0x0A), true) 3 with
      | none => simp [Except.map]
      | some ns =>
        have hlen := numbersM_len e
        match ns, hlen with
        | [x, z, c], _ =>
          simp only
          by_cases h1 : 255 < x ∨ 255 < z ∨ 65535 < c
          · rw [if_pos h1, if_pos (show SORTS ≤ x ∨ SORTS ≤ z ∨ COST < c by unfold SORTS COST; omega)]
            rfl
          · rw [if_neg h1, if_neg (show ¬ (SORTS ≤ x ∨ SORTS ≤ z ∨ COST < c) by unfold SORTS COST; omega), any_inOrderJ]
            by_cases h2 : acc.any (fun q => q.right == x && q.left == z) = true
            · rw [if_pos h2, if_pos h2]
              rfl
            · rw [if_neg h2, if_neg h2, ← inOrderJ_snoc]
              exact readJoinsFrom_eq n (i + 1) r (acc ++ [⟨x, z, c⟩]) hr'
theorem readJoins_eq (b : Bytes) : readJoins b = (joinsM (nats b)).map fun p => (p.1, (inOrderJ p.2).filter fun (j : Join) => j.cost != 0) := by
  cases b with
  | nil => rfl
  | cons u b =>
    unfold readJoins joinsM
    simp only
    rcases cut_eq u b with ⟨hd, hl⟩ | ⟨y, r, hd, hl, hr⟩
    · rw [hd, hl]
      simp [byM, numbersM_false, Except.map]
    · rw [hd, hl, decimalOf_one]
      simp only [byM]
      cases e : numbersM (nats ((u :: b).takeWhile fun (c : UInt8) => c != 0x0A), true) 1 with
      | none => simp [Except.map]
      | some ns =>
        have hlen := numbersM_len e
        match ns, hlen with
        | [a], _ =>
          simp only
          by_cases h1 : 65535 < a
          · rw [if_pos h1, if_pos (show COST < a from h1)]
            rfl
          · rw [if_neg h1, if_neg (show ¬ COST < a from h1)]
            have := readJoinsFrom_eq r.length 1 r [] (Nat.le_refl _)
            rw [show inOrderJ [] = [] from rfl] at this
            rw [this]
            cases joinsGo 1 (linesOf (nats r)) [] <;> rfl
/-! ### what a join costs, in either form -/
def keyJ (j : Join) : Nat × Nat := (j.right, j.left)
theorem joinIn_ok {l : List Nat × Bool} {i : Nat} {js : List Join} {j : Join} (h : joinIn l i js = .ok j) : keyJ j ∉ js.map keyJ ∧ j.right ≤ 255 ∧ j.left ≤ 255 ∧ j.cost ≤ 65535 := by
  unfold joinIn at h
  split at h
  · rename_i x y c e
    split at h
    · cases h
    · rename_i h1
      split at h
      · cases h
      · rename_i h2
        cases h
        refine ⟨fun z => h2 ?_, by show x ≤ 255; omega, by show y ≤ 255; omega, by show c ≤ 65535; omega⟩
        obtain ⟨q, hq, eq⟩ := List.mem_map.mp z
        rw [List.any_eq_true]
        have e1 : q.right = x := congrArg Prod.fst eq
        have e2 : q.left = y := congrArg Prod.snd eq
        exact ⟨q, hq, by rw [e1, e2]; simp⟩
  · cases h
theorem joinsGo_ok : ∀ (ls : List (List Nat × Bool)) (i : Nat) (acc js : List Join), joinsGo i ls acc = .ok js → (acc.map keyJ).Nodup → (js.map keyJ).Nodup ∧ js.length = acc.length + ls.length
  | [], _, acc, js, h, n => by
    cases h
    exact ⟨n, rfl⟩
  | l :: r, i, acc, js, h, n => by
    unfold joinsGo at h
    cases e : joinIn l i acc with
    | error z => rw [e] at h; cases h
    | ok j =>
      rw [e] at h
      obtain ⟨k1, _⟩ := joinIn_ok e
      obtain ⟨k2, k3⟩ := joinsGo_ok r (i + 1) (acc ++ [j]) js h (by
        rw [List.map_append, List.nodup_append]
        refine ⟨n, by simp, fun a ha b hb z => ?_⟩
        simp only [List.map_cons, List.map_nil, List.mem_singleton] at hb
        rw [z, hb] at ha
        exact k1 ha)
      refine ⟨k2, ?_⟩
      rw [k3, List.length_append, List.length_singleton, List.length_cons]
      omega
theorem joinCost_of {js : List Join} (n : (js.map keyJ).Nodup) {j : Join} (h : j ∈ js) : joinCost js j.right j.left = j.cost := by
  induction js with
  | nil => cases h
  | cons q js ih =>
    rw [List.map_cons, List.nodup_cons] at n
    unfold joinCost at ih ⊢
    rw [List.find?_cons]
    rcases List.mem_cons.mp h with rfl | h
    · simp
    · have ne : ¬ (q.right = j.right ∧ q.left = j.left) := fun z => n.1 (by
        have : keyJ q = keyJ j := Prod.ext z.1 z.2
        rw [this]
        exact List.mem_map_of_mem h)
      have e : (q.right == j.right && q.left == j.left) = false := by
        by_cases h1 : q.right = j.right
        · have h2 : ¬ q.left = j.left := fun z => ne ⟨h1, z⟩
          simp [h2]
        · simp [h1]
      rw [e]
      exact ih n.2 h
theorem joinCost_no {js : List Join} {x y : Nat} (h : ∀ j ∈ js, ¬ (j.right = x ∧ j.left = y)) : joinCost js x y = 0 := by
  unfold joinCost
  have : js.find? (fun (j : Join) => j.right == x && j.left == y) = none := by
    rw [List.find?_eq_none]
    intro j hj
    have := h j hj
    simpa using this
  rw [this]
  rfl
theorem joinCost_filter {js : List Join} (n : (js.map keyJ).Nodup) (x y : Nat) : joinCost ((inOrderJ js).filter fun (j : Join) => j.cost != 0) x y = joinCost js x y := by
  have hp := (inOrderJ_perm js).filter fun (j : Join) => j.cost != 0
  have n2 : (((inOrderJ js).filter fun (j : Join) => j.cost != 0).map keyJ).Nodup := by
    refine (hp.map keyJ).nodup_iff.mpr ?_
    exact n.sublist (List.Sublist.map _ List.filter_sublist)
  by_cases h : ∃ j ∈ js, j.right = x ∧ j.left = y
  · obtain ⟨j, hj, rfl, rfl⟩ := h
    rw [joinCost_of n hj]
    by_cases hc : j.cost = 0
    · rw [hc]
      refine joinCost_no fun q hq e => ?_
      have hq' := hp.mem_iff.mp hq
      obtain ⟨q1, q2⟩ := List.mem_filter.mp hq'
      have e3 := joinCost_of n q1
      rw [e.1, e.2, joinCost_of n hj, hc] at e3
      rw [← e3] at q2
      simp at q2
    · refine joinCost_of n2 (hp.mem_iff.mpr (List.mem_filter.mpr ⟨hj, by simpa using hc⟩))
  · rw [joinCost_no (js := js) fun j hj e => h ⟨j, hj, e⟩, joinCost_no fun q hq e => ?_]
    exact h ⟨q, (List.mem_filter.mp (hp.mem_iff.mp hq)).1, e⟩
theorem filter_len (js : List Join) : ((inOrderJ js).filter fun (j : Join) => j.cost != 0).length = (js.filter fun (j : Join) => j.cost != 0).length :=
  ((inOrderJ_perm js).filter _).length_eq
end Sb
end
section
/-! Walks 9: numbers_in, by_itself_in -/
namespace Sb
open PySem PySem.Spec PyProof.Rows L2
section
variable {P : Program} {w : World} {K : PySem.W.Frag} {mg : Str → Option Value} {base : Heap} {A : Ads}
abbrev sNumbers : Stmt := top 39
def spNumbers (CF : Addr) : Sp := fun vs H Q E => ∃ (t : Addr) (l : List Nat × Bool) (i m : Nat), vs = [.ref t, .int (i : Int), .int (m : Int)] ∧ LineAt H t l ∧ l.1.length ≤ 70000 ∧ m ≤ 1000 ∧
  (∀ H' p ns, Same H H' → numbersM l m = some ns → H' p = some (lstN ns) → Q (.ref p) H') ∧ (∀ H' dd, Same H H' → numbersM l m = none → H dd = none → H' dd = some (fltO 1 i) → E (.ref CF) (some dd) H')
theorem scNumbers : FnScope ["line", "number", "many", "e", "part"] ["line", "number", "many"] (defScope sNumbers) := ⟨rfl, rfl, rfl, by decide +kernel, rfl, by decide +kernel, by decide +kernel⟩
theorem mapO_take {α β : Type} {f : α → Option β} : ∀ {l : List α} {i : Nat} {x : α} {s : List β}, mapO f (l.take i) = some s → l[i]? = some x → mapO f (l.take (i + 1)) = (f x).map fun y => s ++ [y]
  | [], i, x, s, _, h => by simp at h
  | z :: l, 0, x, s, h, e => by
    have e' : z = x := by simpa using e
    subst e'
    cases h
    show (f z).bind _ = _
    cases f z <;> rfl
  | z :: l, i + 1, x, s, h, e => by
    have h' : ((f z).bind fun y => (mapO f (l.take i)).map fun s => y :: s) = some s := h
    show ((f z).bind fun y => (mapO f (l.take (i + 1))).map fun s => y :: s) = _
    cases h1 : f z with
    | none => rw [h1] at h'; cases h'
    | some y =>
      rw [h1] at h'
      cases h2 : mapO f (l.take i) with
      | none => rw [h2] at h'; cases h'
      | some s2 =>
        rw [h2] at h'
        cases h'
        rw [mapO_take (l := l) h2 (by simpa using e)]
        cases f x <;> rfl
theorem mapO_fails {α β : Type} {f : α → Option β} : ∀ {l : List α} {i : Nat} {x : α}, l[i]? = some x → f x = none → mapO f l = none
  | [], i, x, h, _ => by simp at h
  | z :: l, 0, x, h, e => by
    have e' : z = x := by simpa using h
    subst e'
    show (f z).bind _ = none
    rw [e]
    rfl
  | z :: l, i + 1, x, h, e => by
    show ((f z).bind fun y => (mapO f l).map fun s => y :: s) = none
    rw [mapO_fails (l := l) (by simpa using h) e]
    cases f z <;> rfl
theorem ok_numbers (T : Txt K mg A) (D : FDef K A) (G1 : Has P w K mg base (L2N.CX P w) "parts_of" 6 ["line", "many"] (spParts K A.CN)) (G2 : Has P w K mg base (L2N.CX P w) "number_of" 4 ["part"] (spNum K A.CN))
    {f : Addr} {fd : FuncData} (F : Fun K "numbers_in" "numbers_in" sNumbers f fd) : FnOk P w K mg base (L2.CX P w) 7 f fd ["line", "number", "many"] (spNumbers A.CF) := by
  refine F.okX scNumbers (fun vs H Q E h => ?_) (fun cdv A' outer s H vs Q E hr h => ⟨_, pss_one (ps_try_asR (c := .ref A.CN) (i := 3) (Eo := E) (ts := fun _ _ _ => tRF A.CF (fun cls d _ H => E cls d H) (tCons (tVar 1) (tCons (tC (.int 1)) tNil))) rfl rfl scNumbers.nd rfl rfl ⟨rfl, by decide, .inl T.gN⟩ (L2H.passesAt_of rfl) (takes_of rfl rfl rfl rfl)
      (fun W pn xe tk po => pss_one (ps_ret (pe_lcN (wi := iList K (tCallS (spParts K A.CN) (WE W) (tCons (tVar 0) (tCons (tVar 2) tNil)))) (own := [("part", 4)]) (g := gName 4) (te := fun Ew => tCallS (spNum K A.CN) (fun _ => Ew) (tCons (tVar 4) tNil)) rfl scNumbers.nd rfl rfl tk (pi_list (call_has G1 hr (L2N.passAt tk) (pa_cons (pv 0) (pa_cons (pv 2) pa_nil)))) (blkOk_by (N := ["line", "number", "many", "e", "part"]) (sc := defScope sNumbers) (by decide +kernel))
        (fun _ _ _ _ _ => pg_name (i := 4) scNumbers.nd rfl (.inl rfl)) (fun Ew _ _ _ _ _ _ hx => call_has G2 (hr.mono (by decide)) hx (pa_cons (pv 4) pa_nil)))))
      (fun a oe cls d pn xe tk hot => pss_one (ps_raiseFH hot T D (L2H.roomH_mark (hr.mono (by decide)) _) tk (pa_cons (pv 1) (pa_cons (glob_int T.NO_LINE) pa_nil)) mono_vc))), ?_⟩)
  · obtain ⟨t, l, i, m, rfl, _⟩ := h
    rfl
  · obtain ⟨t, l, i, m, rfl, hL, hlen, hm, k1, k2⟩ := h
    have bad : ∀ H', Same H H' → numbersM l m = none → ∀ a, H' a = none → tRF A.CF (fun cls d _ H => E cls d H) (tCons (tVar 1) (tCons (tC (.int 1)) tNil)) { nx := fun _ _ => False, rt := fun _ _ => False } (((L2.start ["line", "number", "many", "e", "part"] [.ref t, .int (i : Int), .int (m : Int)]).set 3 (some (.ref a)))) H' :=
      fun H' s1 hn a ha => ⟨_, rfl, _, _, rfl, fun dd H2 s2 hd hx => k2 H2 dd (s1.trans s2) hn (s1.free hd) hx⟩
    refine ⟨_, rfl, _, rfl, t, l, m, rfl, hL, hlen, fun H1 p ps s1 hp hR hall => ?_, fun H1 s1 hp => ⟨T.eN, bad H1 s1 (by unfold numbersM; rw [hp]; rfl)⟩⟩
    have en : numbersM l m = mapO numM ps := by
      unfold numbersM
      rw [hp]
      rfl
    have hpl := partsM_len hp
    obtain ⟨as, ha, ho⟩ := id hR
    refine ⟨p, rfl, ⟨_, SqL.of ha⟩, fun Dl hD => ?_⟩
    refine lc_list (K := K) (a := p) (xs := refs as) (fun j H' => ∃ Hx ns, Off Hx H' Dl (lstN ns) ∧ Same H1 Hx ∧ mapO numM (ps.take j) = some ns ∧ ns.length = j) ⟨H1, [], Off.new hD, Same.refl _, rfl, rfl⟩ (fun j H' _ ⟨Hx, ns, f, s2, _⟩ => (s2.trans f.same).seq (SqL.of ha)) ?_ ?_
    · rintro j x H' hi ⟨Hx, ns, f, s2, em, hns⟩
      obtain ⟨a, ha1, rfl⟩ := refs_get hi
      have hjl : j < ps.length := by
        rw [← ho.len]
        exact (List.getElem?_eq_some_iff.mp ha1).1
      obtain ⟨a', z1, z2⟩ := ho.get (List.getElem?_eq_getElem hjl)
      rw [ha1] at z1
      cases z1
      have sH := s2.trans f.same
      refine ⟨rfl, tyes ?_⟩
      refine ⟨_, rfl, a, ps[j], rfl, SqL.of (sH _ _ z2), hall _ (List.getElem_mem hjl), fun H2 n s3 e => ?_, fun H2 s3 e => ⟨T.eN, bad H2 ((s1.trans sH).trans s3) (by rw [en]; exact mapO_fails (List.getElem?_eq_getElem hjl) e)⟩⟩
      obtain ⟨Hy, f2, s4⟩ := f.call s3
      refine ⟨_, f2.at, ?_, Hy, ns ++ [n], ?_, s2.trans s4, ?_, ?_⟩
      · rw [nv_length, sizeLine_eq]
        omega
      · have := f2.put (lstN (ns ++ [n]))
        unfold lstN at this ⊢
        rw [nv_snoc] at this ⊢
        exact this
      · rw [mapO_take em (List.getElem?_eq_getElem hjl), e]
        rfl
      · rw [List.length_append, List.length_singleton, hns]
    · rintro H' ⟨Hx, ns, f, s2, em, hns⟩
      have hfull : mapO numM ps = some ns := by
        rw [List.take_of_length_le (by rw [refs_len, ho.len]; exact Nat.le_refl _)] at em
        exact em
      exact k1 H' Dl ns ((s1.trans s2).trans f.same) (en.trans hfull) f.at
end
end Sb
end
section
/-! Rules 8: the values of a dict whose keys are tuples -/
namespace L2
open PySem PySem.Spec PyProof.Rows
/-- the values of the locked dict at d, by its order -/
def Itdt (d : Addr) (o : Obj) (kvs : List (List Key × V)) : It :=
  ⟨fun i H => H d = some (.frz o (.dT kvs)) ∧ i < kvs.length, fun i H x H' => H' = H ∧ ∃ k, kvs[i]? = some (k, x), fun i H => H d = some (.frz o (.dT kvs)) ∧ kvs.length ≤ i⟩
theorem Inv.frzTv {X : Cx} {pins : List (Addr × Obj)} {σ : St} {H : Hp} {s : Shared} {d : Addr} {o : Obj} {kvs : List (List Key × V)} (I : Inv X pins σ H s) (h : H d = some (.frz o (.dT kvs))) :
    (d == sysModules) = false ∧ ∃ (es : Array DictEntry) (ep : Nat), o.data = .dict es ep ∧ s.heap.DictRaw d es ep ∧ es.size = kvs.length ∧ ∀ (i : Nat) (k : List Key) (v : V), kvs[i]? = some (k, v) → ∃ en : DictEntry, es[i]? = some en ∧ RelV v en.val := by
  obtain ⟨hd, z, hs, xs, pr, o', es, ep, ho, hx, hdt, he, _⟩ := I.hok d _ h
  have eo : o = o' := Option.some.inj (hd.symm.trans ho)
  subst eo
  refine ⟨hs, es, ep, hdt, ⟨o, hd, hx, hdt⟩, ?_, fun i k v e => ?_⟩
  · have l1 : es.size = xs.length := size_of_entries he
    have l2 : kvs.length = xs.length := Paired.length pr
    omega
  · obtain ⟨b, hb, _, _, e3⟩ := paired_get pr e
    have q := entry_at he i
    rw [hb] at q
    exact ⟨_, q, e3⟩
theorem turn_valsT {P : Program} {w : World} {K : PySem.W.Frag} {tg : Expr} {d : Addr} {o : Obj} {es : Array DictEntry} {ep : Nat} {kvs : List (List Key × V)} (it : Addr) (hod : o.data = .dict es ep) :
    Turn P w K tg (Itdt d o kvs) [it] it (fun i h => h.IsValIter it d i kvs.length ep) where
  mem := by simp
  obj := fun i h st b hb => by
    obtain rfl : b = it := by simpa using hb
    obtain ⟨oi, e, c, dd⟩ := st
    exact ⟨oi, e, fun v z => by rw [dd] at z; cases z⟩
  keep := fun i h h' st k => st.at fun oi e => k it (by simp) oi e
  item := by
    intro X hP hw hK hc i pins s σ H E I hf st hg
    subst hP hw hK
    obtain ⟨hd, hi⟩ := hg
    obtain ⟨f0, f1, f2, f3, f4, f5⟩ := hf it (by simp)
    obtain ⟨hs, es', ep', hdt, raw, hsz, ent⟩ := I.frzTv hd
    obtain ⟨rfl, rfl⟩ := dict_ep hod hdt
    obtain ⟨⟨k, v⟩, hkv⟩ : ∃ p, kvs[i]? = some p := ⟨kvs[i], List.getElem?_eq_getElem hi⟩
    obtain ⟨en, hen, ru⟩ := ent i k v hkv
    have hlt : i < es'.size := by omega
    have eu : es'[i] = en := by
      rw [Array.getElem?_eq_getElem hlt] at hen
      exact Option.some.inj hen
    rw [← hsz] at st
    refine wpAny_pyNext_values_item_raw st raw hlt fun h' st' sb => ?_
    have I1 : Inv X pins σ H { s with heap := h' } := I.turned (t' := s.toks) (fun b ob hb e => (sb.2 b hb).trans e) f0 f1 f3 f4 f5
    obtain ⟨oi, e, c, dd⟩ := id st'
    rw [hsz] at st'
    exact ⟨_, rfl, go_of (s := { s with heap := h' }) e c dd (by decide) ⟨v, H, I1, by rw [eu]; exact ru, ⟨rfl, k, hkv⟩, st', fun b hb => (hf b hb).1⟩⟩
  done := by
    intro X hP hw hK hc i pins s σ H E I hf st hg
    subst hP hw hK
    obtain ⟨hd, hi⟩ := hg
    obtain ⟨f0, f1, f2, f3, f4, f5⟩ := hf it (by simp)
    obtain ⟨hs, es', ep', hdt, raw, hsz, ent⟩ := I.frzTv hd
    obtain ⟨rfl, rfl⟩ := dict_ep hod hdt
    rw [← hsz] at st
    exact wpAny_pyNext_values_end_raw (I.ok.hd hc) st raw (by omega) fun h' eb => ⟨rfl, I.turned (t' := s.toks) (fun b ob hb e => eb b ob hb e) f0 f1 f3 f4 f5⟩
  self := fun A i s Q E st h => wpAny_pyIter_valiter st h
theorem walk_valuesT {d : Addr} {o : Obj} {kvs : List (List Key × V)} : Walk (Itdt d o kvs) kvs.length (fun H => H d = some (.frz o (.dT kvs))) (fun i H x H' => H' = H ∧ ∃ k, kvs[i]? = some (k, x)) :=
  ⟨fun _ _ hi q => ⟨q, hi⟩, fun _ q => ⟨q, Nat.le_refl _⟩, fun _ _ _ _ _ _ y => y⟩
def iValsT (td : TE) : TI := fun σ H R => td σ H fun x H1 => ∃ d o kvs, x = .ref d ∧ H1 d = some (.frz o (.dT kvs)) ∧ R (Itdt d o kvs) H1
theorem pi_valuesT {X : Cx} {e tg : Expr} {td : TE} {apos cpos : Pos} (he : PE X e td) (hbase : attributeBase e "values" X.env (eval e X.env) = eval e X.env := by rfl) (hline : (apos.endLine == cpos.line) = true := by rfl) : PI X tg (.Call (.Attribute e "values" apos) [] [] cpos) (iValsT td) := by
  refine ⟨fun pins s σ H R I h => ?_⟩
  refine wpAny_Call_method (T := "dict") (id := "dict.values") hbase rfl hline F.plainAttrs_dict F.slot_dict_values F.type_dict_values (thn (he.run pins s σ H _ I h) fun u s1 hz => ?_)
  obtain ⟨x, H1, I1, rx, d, o, kvs, rfl, hd, q⟩ := hz
  obtain rfl : u = Value.ref d := rx
  obtain ⟨hs, es, ep, hdt, raw, hsz, ent⟩ := I1.frzTv hd
  have hty : s1.TypeIs (.ref d) "dict" := raw.typeIs
  refine ⟨hty, fun a e1 => ?_, ?_⟩
  · cases e1
    obtain ⟨o2, h1, h2, _⟩ := raw
    exact ⟨o2, h1, h2.2.1⟩
  have I2 : Inv X pins σ H1 { s1 with heap := s1.heap.push { cls := .type "dict_values", data := .fields #[.ref d] } } := I1.kept (t' := s1.toks) fun b ob z => Heap.get?_push_of_some _ z
  have fin : wpAny (model X.prog X.w) X.A (pyIter (.ref s1.heap.objs.size)) (PIE X pins σ tg R) X.xe { s1 with heap := s1.heap.push { cls := .type "dict_values", data := .fields #[.ref d] } } := by
    refine wpAny_pyIter_values_raw (d := d) ⟨_, Heap.get?_push_size _ rfl, rfl, rfl⟩ (raw.at fun o' z => Heap.get?_push_of_some _ z) (pi_one (tk := s1.toks) I2 _ (turn_valsT _ hdt) ⟨_, Heap.get?_push_size _ rfl, rfl, ?_⟩ q)
    rw [hsz] <;> rfl
  show wpAny _ _ (callWith cpos (.builtin "dict.values") [.ref d] [] []) _ X.xe s1
  exact method_meetsIn F.slot_dict_values F.entry_dict_values rfl (PySem.evalArgs_none ⟨rfl, hty, F.args_dict_values_1 _, _, meets_dict_values_raw d hs, ⟨⟨es, ep, raw⟩, fin⟩⟩)
end L2
end
section
/-! Walks 10: by_itself_in, join_in, the class Joins -/
namespace Sb
open PySem PySem.Spec PyProof.Rows L2
section
variable {P : Program} {w : World} {K : PySem.W.Frag} {mg : Str → Option Value} {base : Heap} {A : Ads}

/-! by_itself_in -/
abbrev sBy : Stmt := top 40
def spBy (CF : Addr) : Sp := fun vs H Q E => ∃ (t : Addr) (l : List Nat × Bool), vs = [.ref t] ∧ LineAt H t l ∧ l.1.length ≤ 70000 ∧
  (∀ H' n, Same H H' → byM l = .ok n → Q (.int (n : Int)) H') ∧ (∀ H' dd j k, Same H H' → byM l = .error (j, k) → H dd = none → H' dd = some (fltO k j) → E (.ref CF) (some dd) H')
theorem scBy : FnScope ["line", "found"] ["line"] (defScope sBy) := ⟨rfl, rfl, rfl, by decide +kernel, rfl, by decide +kernel, by decide +kernel⟩
theorem one_of {α : Type} {l : List α} (h : l.length = 1) : ∃ a, l = [a] := by
  match l, h with
  | [a], _ => exact ⟨a, rfl⟩
theorem three {α : Type} {l : List α} (h : l.length = 3) : ∃ a b c, l = [a, b, c] := by
  match l, h with
  | [a, b, c], _ => exact ⟨a, b, c, rfl⟩
theorem ok_by (T : Txt K mg A) (D : FDef K A) (G1 : Has P w K mg base (L2.CX P w) "numbers_in" 7 ["line", "number", "many"] (spNumbers A.CF)) {f : Addr} {fd : FuncData} (F : Fun K "by_itself_in" "by_itself_in" sBy f fd) :
    FnOk P w K mg base (L2.CX P w) 8 f fd ["line"] (spBy A.CF) := by
  refine F.okX scBy (fun vs H Q E h => ?_) (fun cdv A' outer s H vs Q E hr h => ⟨_, pss_cons (ps_set (i := 1) scBy.nd rfl (.inl rfl) (pe_ix ix_list (call_has G1 hr (passAt (takes_of rfl rfl rfl rfl)) (pa_cons (pv 0) (pa_cons pe_int (pa_cons pe_int pa_nil)))) pe_int (fun _ _ => rfl)))
    (pss_cons (ps_if (pt_cmp (pc_gt (pv 1) (glob_int T.MOST_COST))) (pss_one (ps_raiseF rfl T D (hr.mono (by decide)) (takes_of rfl rfl rfl rfl) (pa_cons pe_int (pa_cons (glob_int T.TOO_MUCH) pa_nil)) mono_cc)) pss_nil)
    (pss_one (ps_ret (pv 1)))), ?_⟩)
  · obtain ⟨t, l, rfl, _⟩ := h
    rfl
  · obtain ⟨t, l, rfl, hL, hlen, k1, k2⟩ := h
    refine ⟨_, rfl, t, l, 0, 1, rfl, hL, hlen, by decide, fun H1 p ns s1 e hp => ?_, fun H1 dd s1 e hd hx => ?_⟩
    rotate_left
    · exact k2 H1 dd 0 1 s1 (by unfold byM; rw [e]) hd hx
    obtain ⟨n, rfl⟩ := one_of (numbersM_len e)
    have eb : byM l = if 65535 < n then .error (0, 2) else .ok n := by
      unfold byM
      rw [e]
    refine ⟨p, _, 0, _, rfl, rfl, SqL.of hp, rfl, ?_⟩
    refine ⟨_, rfl, _, _, rfl, rfl, _, rfl, ifD (fun c => ?_) fun c => ?_⟩
    · rw [if_pos (by omega)] at eb
      exact ⟨_, _, rfl, fun dd H2 s2 hd hx => k2 H2 dd 0 2 (s1.trans s2) eb (s1.free hd) hx⟩
    · rw [if_neg (by omega)] at eb
      exact ⟨_, rfl, k1 _ n s1 eb⟩

/-! join_in -/
abbrev sJoinIn : Stmt := top 41
def jk (x y : Nat) : List Key := [.inl (x : Int), .inl (y : Int)]
def jkv (js : List SyWays.Join) : List (List Key × V) := js.map fun j => (jk j.right j.left, V.int (j.cost : Int))
theorem jk_inj {x y x' y' : Nat} : jk x y = jk x' y' ↔ x = x' ∧ y = y' := by
  unfold jk
  constructor
  · intro h
    obtain ⟨h1, h2⟩ := List.cons.inj h
    obtain ⟨h3, _⟩ := List.cons.inj h2
    have e1 : (x : Int) = (x' : Int) := Sum.inl.inj h1
    have e2 : (y : Int) = (y' : Int) := Sum.inl.inj h3
    omega
  · rintro ⟨rfl, rfl⟩
    rfl
theorem jkv_val (js : List SyWays.Join) (x y : Nat) : valV (jkv js) (jk x y) = (js.find? fun (j : SyWays.Join) => j.right == x && j.left == y).map fun j => V.int (j.cost : Int) := by
  induction js with
  | nil => rfl
  | cons j js ih =>
    unfold jkv at ih ⊢
    rw [List.map_cons, List.find?_cons]
    by_cases h : j.right = x ∧ j.left = y
    · rw [valV_pos (jk_inj.mpr h), h.1, h.2]
      simp
    · rw [valV_neg (fun z => h (jk_inj.mp z)), ih]
      have e : (j.right == x && j.left == y) = false := by
        by_cases h1 : j.right = x
        · have h2 : ¬ j.left = y := fun z => h ⟨h1, z⟩
          simp [h2]
        · simp [h1]
      rw [e]
theorem jkv_cost (js : List SyWays.Join) (x y : Nat) : (valV (jkv js) (jk x y)).getD (.int 0) = .int ((joinCost js x y : Nat) : Int) := by
  rw [jkv_val]
  unfold joinCost
  cases js.find? (fun (j : SyWays.Join) => j.right == x && j.left == y) <;> rfl
theorem jkv_in (js : List SyWays.Join) (x y : Nat) : (valV (jkv js) (jk x y)).isSome = js.any (fun q => q.right == x && q.left == y) := by
  rw [jkv_val, Option.isSome_map, Bool.eq_iff_iff, List.find?_isSome, List.any_eq_true]
/-- the pair that is handed back -/
def JoinPair (H : Hp) (p : Addr) (j : SyWays.Join) : Prop := ∃ q, H p = some (.tup [.ref q, .int (j.cost : Int)]) ∧ H q = some (.tup ((jk j.right j.left).map kV))
def spJoinIn (CF : Addr) : Sp := fun vs H Q E => ∃ (t d : Addr) (l : List Nat × Bool) (i : Nat) (js : List SyWays.Join), vs = [.ref t, .int (i : Int), .ref d] ∧ LineAt H t l ∧ l.1.length ≤ 70000 ∧ H d = some (.dT (jkv js)) ∧
  (∀ H' p j, Same H H' → joinIn l i js = .ok j → JoinPair H' p j → Q (.ref p) H') ∧ (∀ H' dd j k, Same H H' → joinIn l i js = .error (j, k) → H dd = none → H' dd = some (fltO k j) → E (.ref CF) (some dd) H')
theorem scJoinIn : FnScope ["line", "number", "known", "right", "left", "cost"] ["line", "number", "known"] (defScope sJoinIn) := ⟨rfl, rfl, rfl, by decide +kernel, rfl, by decide +kernel, by decide +kernel⟩
theorem ok_joinIn (T : Txt K mg A) (D : FDef K A) (G1 : Has P w K mg base (L2.CX P w) "numbers_in" 7 ["line", "number", "many"] (spNumbers A.CF)) {f : Addr} {fd : FuncData} (F : Fun K "join_in" "join_in" sJoinIn f fd) :
    FnOk P w K mg base (L2.CX P w) 8 f fd ["line", "number", "known"] (spJoinIn A.CF) := by
  refine F.okX scJoinIn (fun vs H Q E h => ?_) (fun cdv A' outer s H vs Q E hr h => ⟨_, pss_cons (ps_asg (call_has G1 hr (passAt (takes_of rfl rfl rfl rfl)) (pa_cons (pv 0) (pa_cons (pv 1) (pa_cons pe_int pa_nil))))
      (pg_unl rfl (pgs_cons (pg_name (i := 3) scJoinIn.nd rfl (.inl rfl)) (pgs_cons (pg_name (i := 4) scJoinIn.nd rfl (.inl rfl)) (pgs_cons (pg_name (i := 5) scJoinIn.nd rfl (.inl rfl)) pgs_nil)))))
    (pss_cons (ps_if (PW.pt (pw_or (pt_cmp (pc_gt (pv 3) (glob_int T.MOST_SORT))) (pw_or (pt_cmp (pc_gt (pv 4) (glob_int T.MOST_SORT))) (pw_or1 (pt_cmp (pc_gt (pv 5) (glob_int T.MOST_COST)))))))
      (pss_one (ps_raiseF rfl T D (hr.mono (by decide)) (takes_of rfl rfl rfl rfl) (pa_cons (pv 1) (pa_cons (glob_int T.TOO_MUCH) pa_nil)) mono_vc)) pss_nil)
    (pss_cons (ps_if (pt_cmp (pc_din (by have := hr.units; exact Nat.lt_of_le_of_lt (Nat.add_le_add_left (by decide) _) this) (pe_tup (pa_cons (pv 3) (pa_cons (pv 4) pa_nil))) (pv 2)))
      (pss_one (ps_raiseF rfl T D (hr.mono (by decide)) (takes_of rfl rfl rfl rfl) (pa_cons (pv 1) (pa_cons (glob_int T.AGAIN) pa_nil)) mono_vc)) pss_nil)
    (pss_one (ps_ret (pe_tup (pa_cons (pe_tup (pa_cons (pv 3) (pa_cons (pv 4) pa_nil))) (pa_cons (pv 5) pa_nil))))))), ?_⟩)
  · obtain ⟨t, d, l, i, js, rfl, _⟩ := h
    rfl
  · obtain ⟨t, d, l, i, js, rfl, hL, hlen, hd, k1, k2⟩ := h
    refine ⟨_, rfl, _, rfl, t, l, i, 3, rfl, hL, hlen, by decide, fun H1 p ns s1 e hp => ?_, fun H1 dd s1 e hd hx => ?_⟩
    rotate_left
    · exact k2 H1 dd i 1 s1 (by unfold joinIn; rw [e]) hd hx
    obtain ⟨x, y, c, rfl⟩ := three (numbersM_len e)
    have ej : joinIn l i js = if 255 < x ∨ 255 < y ∨ 65535 < c then .error (i, 2) else if js.any (fun q => q.right == x && q.left == y) = true then .error (i, 3) else .ok ⟨x, y, c⟩ := by
      unfold joinIn
      rw [e]
    have er : ∀ (H2 : Hp) (j : Nat), Same H1 H2 → joinIn l i js = .error (i, j) → ∀ (d' : Addr) (H3 : Hp), Same H2 H3 → H2 d' = none → H3 d' = some (fltO j i) → E (.ref A.CF) (some d') H3 :=
      fun H2 j s2 he d' H3 s3 hd' hx => k2 H3 d' i j ((s1.trans s2).trans s3) he ((s1.trans s2).free hd') hx
    have bad : (255 < x ∨ 255 < y ∨ 65535 < c) → ∀ (d' : Addr) (H3 : Hp), Same H1 H3 → H1 d' = none → H3 d' = some (fltO 2 i) → E (.ref A.CF) (some d') H3 := fun h => by
      rw [if_pos h] at ej
      exact er H1 2 (Same.refl _) ej
    refine ⟨p, _, rfl, SqL.of hp, rfl, _, _, rfl, _, _, rfl, _, _, rfl, rfl, ?_⟩
    refine ⟨_, rfl, _, _, rfl, rfl, _, rfl, ifD (fun c1 => ?_) fun c1 => ?_⟩
    · exact iteT ⟨_, rfl, _, _, rfl, bad (.inl (by omega))⟩
    refine ⟨_, rfl, _, _, rfl, rfl, _, rfl, ifD (fun c2 => ?_) fun c2 => ?_⟩
    · exact iteT ⟨_, rfl, _, _, rfl, bad (.inr (.inl (by omega)))⟩
    refine ⟨_, rfl, _, _, rfl, rfl, _, rfl, ifD (fun c3 => ?_) fun c3 => ?_⟩
    · exact ⟨_, rfl, _, _, rfl, bad (.inr (.inr (by omega)))⟩
    rw [if_neg (by omega)] at ej
    refine ⟨_, rfl, _, rfl, by show 2 ≤ sizeLine; decide, fun q hq => ?_⟩
    have s2 : Same H1 (upd H1 q (.tup [.int (x : Int), .int (y : Int)])) := Same.new hq
    refine ⟨_, rfl, d, _, rfl, DGet.t (k := jk x y) (s2 _ _ (s1 _ _ hd)) upd_same, _, rfl, ?_⟩
    rw [jkv_in]
    by_cases hc : js.any (fun q => q.right == x && q.left == y) = true
    · rw [if_pos hc] at ej
      exact ifT hc ⟨_, rfl, _, _, rfl, er _ 3 s2 ej⟩
    · rw [if_neg hc] at ej
      refine ifF (by simpa using hc) ?_
      refine ⟨_, rfl, _, rfl, by show 2 ≤ sizeLine; decide, fun q2 hq2 => ⟨_, rfl, by show 2 ≤ sizeLine; decide, fun p2 hp2 => ?_⟩⟩
      have s3 := s2.more (o := .tup [.int (x : Int), .int (y : Int)]) hq2
      refine k1 _ p2 ⟨x, y, c⟩ (s1.trans (s3.more hp2)) ej ⟨q2, upd_same, ?_⟩
      rw [upd_ne (ne_of_none upd_same hp2)]
      exact upd_same
end
end Sb
end
section
/-! Walks 11: the class Joins, joins_of -/
namespace Sb
open PySem PySem.Spec PyProof.Rows L2
section
variable {P : Program} {w : World} {K : PySem.W.Frag} {mg : Str → Option Value} {base : Heap} {A : Ads}
/-- at a joins -/
def JoinsAt (C : Addr) (H : Hp) (a : Addr) (b : Nat) (js : List SyWays.Join) : Prop := ∃ dx d, H a = some (.ins C dx (jF (.int (b : Int)) (.ref d))) ∧ H d = some (.dT (jkv js))
theorem JoinsAt.same {C : Addr} {H H' : Hp} {a : Addr} {b : Nat} {js : List SyWays.Join} (h : JoinsAt C H a b js) (s : Same H H') : JoinsAt C H' a b js := by
  obtain ⟨dx, d, h1, h2⟩ := h
  exact ⟨dx, d, s _ _ h1, s _ _ h2⟩

/-! __init__ -/
abbrev sJInit : Stmt := inClass (top 38) 0
def spJInit (C : Addr) : Sp := fun vs H Q _ => ∃ (p dx : Addr) (v1 v2 : V), vs = [.ref p, v1, v2] ∧ H p = some (.ins C dx []) ∧ Q .non (upd H p (.ins C dx (jF v1 v2)))
theorem scJInit : FnScope ["self", "by_itself", "costs"] ["self", "by_itself", "costs"] (defScope sJInit) := ⟨rfl, rfl, rfl, by decide +kernel, rfl, by decide +kernel, by decide +kernel⟩
theorem ok_jInit (T : Txt K mg A) {f : Addr} {fd : FuncData} (F : Fun K "__init__" "Joins.__init__" sJInit f fd) : FnOk P w K mg base CX0 1 f fd ["self", "by_itself", "costs"] (spJInit A.CJ) := by
  refine F.ok scJInit (fun vs H Q E h => ?_) (fun cdv A' outer s H vs Q E hr h => ⟨_, pss_cons (ps_fld (pv 0) (pv 1) rfl) (pss_one (ps_fld (pv 0) (pv 2) rfl)), ?_⟩)
  · obtain ⟨p, dx, v1, v2, rfl, _⟩ := h
    rfl
  · obtain ⟨p, dx, v1, v2, rfl, hp, k⟩ := h
    refine ⟨_, rfl, _, rfl, p, A.CJ, dx, [], rfl, hp, T.clJ, T.aJ _ (.head _), (by show 0 < 1000; decide), ?_⟩
    refine ⟨_, rfl, _, rfl, p, A.CJ, dx, _, rfl, upd_same, T.clJ, T.aJ _ (.tail _ (.head _)), (by show 1 < 1000; decide), ?_⟩
    rw [jF_new, upd_upd]
    exact k

/-! join -/
abbrev sJoin : Stmt := inClass (top 38) 1
def spJoin (C : Addr) : Sp := fun vs H Q _ => ∃ (a : Addr) (x y b : Nat) (js : List SyWays.Join), vs = [.ref a, .int (x : Int), .int (y : Int)] ∧ JoinsAt C H a b js ∧ ∀ H', Same H H' → Q (.int ((joinCost js x y : Nat) : Int)) H'
theorem scJoin : FnScope ["self", "right", "left"] ["self", "right", "left"] (defScope sJoin) := ⟨rfl, rfl, rfl, by decide +kernel, rfl, by decide +kernel, by decide +kernel⟩
theorem ok_join (T : Txt K mg A) {f : Addr} {fd : FuncData} (F : Fun K "join" "Joins.join" sJoin f fd) : FnOk P w K mg base CX0 1 f fd ["self", "right", "left"] (spJoin A.CJ) := by
  refine F.ok scJoin (fun vs H Q E h => ?_) (fun cdv A' outer s H vs Q E hr h => ⟨_, pss_one (ps_ret (pe_dget2 (by have := hr.units; exact Nat.lt_of_le_of_lt (Nat.add_le_add_left (by decide) _) this) (pe_fld (pv 0) rfl) (pe_tup (pa_cons (pv 1) (pa_cons (pv 2) pa_nil))) pe_int ⟨rfl, rfl, rfl, rfl⟩)), ?_⟩)
  · obtain ⟨a, x, y, b, js, rfl, _⟩ := h
    rfl
  · obtain ⟨a, x, y, b, js, rfl, ⟨dx, d, h1, h2⟩, k⟩ := h
    refine ⟨_, rfl, a, A.CJ, dx, _, _, rfl, h1, T.clJ, T.aJ _ (.tail _ (.head _)), jF_costs, d, rfl, .inr ⟨_, .inl h2⟩, _, rfl, _, rfl, by show 2 ≤ sizeLine; decide, fun p hp => ?_⟩
    have s1 : Same H (upd H p (.tup [.int (x : Int), .int (y : Int)])) := Same.new hp
    refine ⟨_, DGet.t (k := jk x y) (s1 _ _ h2) upd_same, ?_⟩
    have := k _ s1
    rw [← jkv_cost] at this
    exact this

/-! many -/
abbrev sJMany : Stmt := inClass (top 38) 2
def spJMany (C : Addr) : Sp := fun vs H Q _ => ∃ (a b : Nat) (js : List SyWays.Join), vs = [.ref a] ∧ JoinsAt C H a b js ∧ js.length ≤ 100000 ∧ ∀ H', Same H H' → Q (.int (((js.filter fun (j : SyWays.Join) => j.cost != 0).length : Nat) : Int)) H'
theorem scJMany : FnScope ["self", "cost"] ["self"] (defScope sJMany) := ⟨rfl, rfl, rfl, by decide +kernel, rfl, by decide +kernel, by decide +kernel⟩
theorem ok_jMany (T : Txt K mg A) {f : Addr} {fd : FuncData} (F : Fun K "many" "Joins.many" sJMany f fd) : FnOk P w K mg base CX0 1 f fd ["self"] (spJMany A.CJ) := by
  refine F.ok scJMany (fun vs H Q E h => ?_) (fun cdv A' outer s H vs Q E hr h => ⟨_, pss_one (ps_ret (pe_lock (pe_callB call_len_seq (by rfl) T.len PySem.boot_len (pa_cons
      (pe_lc (own := [("cost", 1)]) (g := gName 1) rfl scJMany.nd (pi_valuesT (pe_fld (pv 0) rfl)) (blkOk_by (N := ["self", "cost"]) (sc := defScope sJMany) (by decide +kernel)) (fun _ _ _ _ _ => pg_name (i := 1) scJMany.nd rfl (.inl rfl))
        (fun _ _ _ _ _ => pts_one (pt_cmp (pc_gt (pv 1) pe_int))) (fun _ _ _ _ _ => pv 1)) pa_nil)))), ?_⟩)
  · obtain ⟨a, b, js, rfl, _⟩ := h
    rfl
  · obtain ⟨a, b, js, rfl, ⟨dx, d, h1, h2⟩, hlen, k⟩ := h
    refine ⟨d, _, h2, True.intro, fun od => ?_⟩
    have had : a ≠ d := ne_of h1 h2 (fun z => nomatch z)
    have hda : upd H d (.frz od (.dT (jkv js))) a = some (.ins A.CJ dx (jF (.int (b : Int)) (.ref d))) := by
      rw [upd_ne had]
      exact h1
    refine ⟨_, rfl, a, A.CJ, dx, _, _, rfl, hda, T.clJ, T.aJ _ (.tail _ (.head _)), jF_costs, d, od, jkv js, rfl, upd_same, fun D hD => ?_⟩
    refine lc_it walk_valuesT (fun i H' => ∃ Hx, Off Hx H' D (.lst (((js.take i).filter fun (j : SyWays.Join) => j.cost != 0).map fun j => V.int (j.cost : Int))) ∧ Same (upd H d (.frz od (.dT (jkv js)))) Hx) ⟨_, Off.new hD, Same.refl _⟩ (fun i H' _ ⟨Hx, f, s⟩ => f.same _ _ (s _ _ upd_same)) ?_ ?_
    · rintro i x H' H'' hi ⟨Hx, f, s⟩ ⟨rfl, k0, hk⟩
      obtain ⟨j, hj, ex⟩ : ∃ j, js[i]? = some j ∧ x = V.int (j.cost : Int) := by
        unfold jkv at hk
        rw [List.getElem?_map] at hk
        cases z : js[i]? with
        | none => rw [z] at hk; cases hk
        | some j =>
          rw [z] at hk
          exact ⟨j, rfl, (congrArg Prod.snd (Option.some.inj hk)).symm⟩
      subst ex
      refine ⟨rfl, _, rfl, _, _, rfl, rfl, _, rfl, ?_⟩
      have hil := (List.getElem?_eq_some_iff.mp hj).1
      by_cases hc : j.cost = 0
      · refine ifF (decide_eq_false (by omega)) ⟨Hx, ?_, s⟩
        rw [take_more hj, List.filter_append, List.filter_cons_of_neg (by simp [hc]), List.filter_nil, List.append_nil]
        exact f
      · refine ifT (decide_eq_true (by omega)) ⟨_, rfl, _, f.at, ?_, Hx, ?_, s⟩
        · have h3 := List.length_filter_le (fun (j : SyWays.Join) => j.cost != 0) (js.take i)
          rw [List.length_take] at h3
          rw [List.length_map, sizeLine_eq]
          omega
        · rw [take_more hj, List.filter_append, List.filter_cons_of_pos (by simp [hc]), List.filter_nil, List.map_append]
          exact f.put _
    · rintro H' ⟨Hx, f, s⟩
      have hl : (jkv js).length = js.length := List.length_map ..
      rw [hl, List.take_length] at f
      have hfr : H' d = some (.frz od (.dT (jkv js))) := f.same _ _ (s _ _ upd_same)
      refine ⟨D, _, rfl, .inl (SqL.of f.at), hfr, ?_⟩
      rw [List.length_map]
      refine k _ fun c v hc => ?_
      by_cases hcd : c = d
      · rw [hcd, h2] at hc
        rw [hcd, upd_same]
        exact hc
      · rw [upd_ne hcd]
        exact f.same _ _ (s _ _ (by rw [upd_ne hcd]; exact hc))

/-! joins_of -/
abbrev sJoins : Stmt := top 42
def spJoinsOf (K : PySem.W.Frag) (CF CJ : Addr) : Sp := fun vs H Q E => ∃ (a : Addr) (ns : List Nat), vs = [.ref a] ∧ SqL K H a (nv ns) ∧ ns.length ≤ 70000 ∧
  (∀ H' p b js, Same H H' → joinsM ns = .ok (b, js) → JoinsAt CJ H' p b js → Q (.ref p) H') ∧ (∀ H' dd j k, Same H H' → joinsM ns = .error (j, k) → H dd = none → H' dd = some (fltO k j) → E (.ref CF) (some dd) H')
theorem scJoins : FnScope ["some", "lines", "by_itself", "costs", "number", "sorts", "cost"] ["some"] (defScope sJoins) := ⟨rfl, rfl, rfl, by decide +kernel, rfl, by decide +kernel, by decide +kernel⟩
def lineD (l : List Nat × Bool) : PyData := .tuple [.list (intsD l.1), .bool l.2]
theorem dp_lines {H : Hp} : ∀ {ts : List Addr} {ls : List (List Nat × Bool)}, Paired (LineAt H) ts ls → DpAll K H (refs ts) (ls.map lineD)
  | _, _, .nil => .nil
  | _, _, .cons r t => by
    obtain ⟨q, h1, h2⟩ := r
    exact .cons (.tup (SqT.of h1) (.cons (.lst (SqL.of h2) (dpAll_ints _)) (.cons (.bl _) .nil))) (dp_lines t)
theorem lay_lines : ∀ ls : List (List Nat × Bool), PyData.canLayAll0 (ls.map lineD) = true ∧ PyData.depthAll (ls.map lineD) ≤ 2
  | [] => ⟨rfl, by decide⟩
  | l :: ls => by
    obtain ⟨h1, h2⟩ := lay_lines ls
    have hi : PyData.canLayAll0 (intsD l.1) = true := by
      have := canLay_ints (l.1.map fun (n : Nat) => (n : Int))
      rw [List.map_map] at this
      exact this
    constructor
    · show (PyData.canLay0 (lineD l) && PyData.canLayAll0 (ls.map lineD)) = true
      rw [h1, Bool.and_true]
      show ((PyData.canLayAll0 (intsD l.1)) && (PyData.canLayAll0 [.bool l.2])) = true
      rw [hi]
      rfl
    · show max (PyData.depth (lineD l)) (PyData.depthAll (ls.map lineD)) ≤ 2
      have e : PyData.depth (lineD l) ≤ 2 := by
        unfold lineD
        simp only [PyData.depth, PyData.depthAll, depth_ints]
        decide
      omega
theorem shaped_lines (ls : List (List Nat × Bool)) : SeqAt.shaped (.list (ls.map lineD)) = true := by
  obtain ⟨h1, h2⟩ := lay_lines ls
  unfold SeqAt.shaped
  have e1 : PyData.canLay0 (.list (ls.map lineD)) = true := h1
  have e2 : PyData.depth (.list (ls.map lineD)) ≤ 64 := by
    simp only [PyData.depth]
    omega
  rw [e1, decide_eq_true e2]
  rfl
theorem linesOf_count (ns : List Nat) : (linesOf ns).length ≤ ns.length + 1 := by
  unfold linesOf linesP
  have h1 := parted_len 10 ns
  have h2 : (parted 10 ns).dropLast.length = (parted 10 ns).length - 1 := List.length_dropLast
  have h3 : 1 ≤ (parted 10 ns).length := by
    obtain ⟨p, q, e⟩ := parted_cons 10 ns
    rw [e]
    simp
  rw [List.length_append, List.length_map, h2]
  split <;> simp <;> omega
theorem joinsGo_step {i n : Nat} {ls : List (List Nat × Bool)} {js : List SyWays.Join} {l : List Nat × Bool} (h : ls[i]? = some l) : joinsGo n (ls.drop i) js = match joinIn l n js with
    | .error e => .error e
    | .ok j => joinsGo (n + 1) (ls.drop (i + 1)) (js ++ [j]) := by
  obtain ⟨hi, e⟩ := List.getElem?_eq_some_iff.mp h
  rw [List.drop_eq_getElem_cons hi, e]
  rfl
theorem ok_joins (T : Txt K mg A) (D : FDef K A) (G1 : Has P w K mg base CX0 "lines_of" 3 ["some"] (spLines K)) (G2 : Has P w K mg base (L2.CX P w) "by_itself_in" 8 ["line"] (spBy A.CF))
    (G3 : Has P w K mg base (L2.CX P w) "join_in" 8 ["line", "number", "known"] (spJoinIn A.CF)) (GI : IHas P w K mg base CX0 A.CJ 1 ["self", "by_itself", "costs"] (spJInit A.CJ)) {f : Addr} {fd : FuncData} (F : Fun K "joins_of" "joins_of" sJoins f fd) :
    FnOk P w K mg base (L2.CX P w) 9 f fd ["some"] (spJoinsOf K A.CF A.CJ) := by
  refine F.okX scJoins (fun vs H Q E h => ?_) (fun cdv A' outer s H vs Q E hr h => ⟨_, pss_cons (ps_set (i := 1) scJoins.nd rfl (.inl rfl) (call_has G1 (hr.mono (by decide)) (E := fun _ => E0) at0 (pa_cons (pv 0) pa_nil)))
    (pss_cons (ps_if (pt_cmpR (op_eqD hr.units) (pv 1) (pe_lst pa_nil) (nomark _)) (pss_one (ps_raiseF rfl T D (hr.mono (by decide)) (takes_of rfl rfl rfl rfl) (pa_cons pe_int (pa_cons (glob_int T.NO_LINE) pa_nil)) mono_cc)) pss_nil)
    (pss_cons (ps_set (i := 2) scJoins.nd rfl (.inl rfl) (call_has G2 hr (passAt (takes_of rfl rfl rfl rfl)) (pa_cons (pe_ix ix_list (pv 1) pe_int (fun _ _ => rfl)) pa_nil)))
    (pss_cons (ps_set (i := 3) scJoins.nd rfl (.inl rfl) pe_dnewT)
    (pss_cons (ps_for (passes_of rfl) rfl (pi_range2 (by rfl) T.range (pa_cons pe_int (pa_cons (pe_callB call_len_seq (by rfl) T.len PySem.boot_len (pa_cons (pv 1) pa_nil)) pa_nil))) (pg_name (i := 4) scJoins.nd rfl (.inl rfl))
      (pss_cons (ps_asg (call_has G3 hr (passAt (takes_of rfl rfl rfl rfl)) (pa_cons (pe_ix ix_list (pv 1) (pv 4) (fun _ _ => rfl)) (pa_cons (pv 4) (pa_cons (pv 3) pa_nil))))
        (pg_tup rfl (pgs_cons (pg_name (i := 5) scJoins.nd rfl (.inl rfl)) (pgs_cons (pg_name (i := 6) scJoins.nd rfl (.inl rfl)) pgs_nil))))
      (pss_one (ps_dput (by have := hr.units; exact Nat.lt_of_le_of_lt (Nat.add_le_add_left (by decide) _) this) (pv 3) (pv 5) (pv 6) rfl))))
    (pss_one (ps_ret (make_has GI T.gJ (hr.mono (by decide)) (pa_cons (pv 2) (pa_cons (pv 3) pa_nil))))))))), ?_⟩)
  · obtain ⟨a, ns, rfl, _⟩ := h
    rfl
  · obtain ⟨a, ns, rfl, hS, hlen, k1, k2⟩ := h
    refine ⟨_, rfl, a, ns, rfl, hS, hlen, fun H1 L s1 hL => ?_⟩
    obtain ⟨ts, hL1, hL2⟩ := id hL
    have hcnt := linesOf_count ns
    have htl : ts.length = (linesOf ns).length := Paired.length hL2
    have hsl : ∀ l ∈ linesOf ns, l.1.length ≤ 70000 := fun l hl => Nat.le_trans (linesOf_len ns l hl) hlen
    refine ⟨_, rfl, Nat.zero_le _, fun z hz => ?_⟩
    have s2 : Same H1 (upd H1 z (.lst [])) := Same.new hz
    refine ⟨.list ((linesOf ns).map lineD), .list [], .lst (s2.seq (SqL.of hL1)) (DpAll.same s2 (dp_lines hL2)), .lst (SqL.of upd_same) .nil, shaped_lines _, shaped_nil, _, rfl, ?_⟩
    rw [eqv_nil]
    cases hlines : linesOf ns with
    | nil =>
      refine ifT rfl ⟨_, _, rfl, fun dd H2 s3 hd hx => k2 H2 dd 0 1 ((s1.trans s2).trans s3) ?_ ((s1.trans s2).free hd) hx⟩
      unfold joinsM
      rw [hlines]
    | cons l0 rest =>
      refine ifF rfl ?_
      rw [hlines] at hL2 hcnt htl hsl
      have em : joinsM ns = match byM l0 with
          | .error e => .error e
          | .ok a => (joinsGo 1 rest []).map fun js => (a, js) := by
        unfold joinsM
        rw [hlines]
        try rfl
      cases hL2 with
      | @cons t0 _ ts' _ r0 tr =>
        have s12 := s1.trans s2
        refine ⟨_, rfl, L, _, 0, _, rfl, rfl, SqL.of (s2 _ _ hL1), (show atI _ ((0 : Nat) : Int) = _ from atI_nat rfl), t0, l0, rfl, r0.same s2, hsl _ List.mem_cons_self, fun H3 b s3 eb => ?_, fun H3 dd j k s3 eb hd hx => ?_⟩
        rotate_left
        · refine k2 H3 dd j k (s12.trans s3) ?_ (s12.free hd) hx
          rw [em, eb]
        rw [eb] at em
        have em : joinsM ns = (joinsGo 1 rest []).map fun js => (b, js) := em
        intro d hd
        have s23 := s2.trans s3
        have hlen2 : (refs (t0 :: ts')).length = rest.length + 1 := by
          rw [refs_len, List.length_cons, Paired.length tr]
        refine ⟨_, rfl, L, _, rfl, .inl (SqL.of ((Same.new hd) _ _ (s23 _ _ hL1))), 1, _, rfl, ⟨by decide, by decide, by omega, ?_⟩, ?_⟩
        · rw [hlen2]
          simp only [List.length_cons] at hcnt
          omega
        rw [hlen2, show (((rest.length + 1 : Nat) : Int) - 1).toNat = rest.length by omega]
        refine for_range (fun i σ H' => ∃ (v4 v5 v6 : Option V) (js : List SyWays.Join) (Hx : Hp), σ = [some (.ref a), some (.ref L), some (.int (b : Int)), some (.ref d), v4, v5, v6] ∧ Off Hx H' d (.dT (jkv js)) ∧ Same H3 Hx ∧ js.length = i ∧ joinsGo 1 rest [] = joinsGo (i + 1) (rest.drop i) js)
          ⟨none, none, none, [], H3, rfl, Off.new hd, Same.refl _, rfl, rfl⟩ ?_ ?_
        · rintro i σ H' hi ⟨v4, v5, v6, js, Hx, rfl, f, sx, hjl, hgo⟩
          obtain ⟨t, ht, hLt⟩ := prd_at tr (List.getElem?_eq_getElem hi)
          have e1 : (1 : Int) + (i : Int) = ((i + 1 : Nat) : Int) := by omega
          rw [e1]
          have sH := s23.trans (sx.trans f.same)
          have hstep := joinsGo_step (i := i) (n := i + 1) (js := js) (ls := rest) (List.getElem?_eq_getElem hi)
          have hat : (refs (t0 :: ts'))[i + 1]? = some (V.ref t) := refs_at (by simpa using ht)
          refine ⟨_, rfl, _, rfl, L, _, _, _, rfl, rfl, SqL.of (sH _ _ hL1), atI_nat hat, _, rfl, _, rfl, t, d, rest[i], i + 1, js, rfl, hLt.same sH, hsl _ (List.mem_cons_of_mem _ (List.getElem_mem hi)), f.at, fun H4 p j s4 ej hp => ?_, fun H4 dd j k s4 ej hdd hx => ?_⟩
          rotate_left
          · refine k2 H4 dd j k (((s1.trans sH)).trans s4) ?_ ((s1.trans sH).free hdd) hx
            rw [em, hgo, hstep, ej]
            rfl
          obtain ⟨kn, _, _, _⟩ := joinIn_ok ej
          obtain ⟨q, hp1, hp2⟩ := hp
          obtain ⟨Hy, f2, sy⟩ := f.call s4
          have hval : valV (jkv js) (jk j.right j.left) = none := by
            cases z : valV (jkv js) (jk j.right j.left) with
            | none => rfl
            | some v =>
              exfalso
              have h1 := jkv_in js j.right j.left
              rw [z] at h1
              obtain ⟨q', hq1, hq2⟩ := List.any_eq_true.mp h1.symm
              simp only [Bool.and_eq_true, beq_iff_eq] at hq2
              exact kn (List.mem_map.mpr ⟨q', hq1, Prod.ext hq2.1 hq2.2⟩)
          refine ⟨p, _, rfl, SqT.of hp1, rfl, _, _, rfl, _, _, rfl, rfl, _, rfl, _, rfl, _, rfl, d, _, rfl, DPut.t (k := jk j.right j.left) f2.at hp2 ?_, ?_⟩
          · unfold jkv
            rw [List.length_map, hjl, sizeLine_eq]
            simp only [List.length_cons] at hcnt
            omega
          · rw [putK_new _ hval]
            refine ⟨some (.int ((i + 1 : Nat) : Int)), some (.ref q), some (.int (j.cost : Int)), js ++ [j], Hy, rfl, ?_, sx.trans sy, by rw [List.length_append, List.length_singleton, hjl], ?_⟩
            · have := f2.put (.dT (jkv (js ++ [j])))
              unfold jkv at this ⊢
              rw [List.map_append] at this ⊢
              exact this
            · rw [hgo, hstep, ej]
        · rintro σ H' ⟨v4, v5, v6, js, Hx, rfl, f, sx, hjl, hgo⟩
          have hok : joinsM ns = .ok (b, js) := by
            rw [em, hgo, List.drop_length]
            rfl
          refine ⟨_, rfl, _, rfl, fun x dx hx hdx nx => ⟨x, dx, _, _, rfl, upd_same, rfl, ?_⟩⟩
          rw [upd_upd]
          have sN : Same H' (mkIns H' x dx A.CJ (jF (.int (b : Int)) (.ref d))) := mkIns_same hx hdx
          exact k1 _ x b js (((s1.trans s23).trans (sx.trans f.same)).trans sN) hok ⟨dx, d, upd_same, sN _ _ f.at⟩
end
end Sb
end
section
/-! Math 4: ways, as the program makes them -/
namespace Sb
open SyBase SyLex SyWays
/-- a piece: a word's number, or none: by itself -/
abbrev Pc := Option Nat
abbrev Wy := List (Nat × Pc)
def pcV : Pc → Int
  | none => -1
  | some i => (i : Int)
def fitsAt (g : List Word) (r : List Nat) (i : Nat) : Bool := match g[i]? with
  | some w => decide (r.take w.text.length = w.text)
  | none => false
/-- the pieces that may begin a text -/
def starts (g : List Word) (r : List Nat) : List Pc := none :: ((List.range g.length).filter (fitsAt g r)).map some
/-- how many signs a piece writes -/
def wid (g : List Word) : Pc → Nat
  | none => 1
  | some i => ((g[i]?).map fun w => w.text.length).getD 0
/-- how many ways there are, of each end of a text -/
def tabC (g : List Word) : List Nat → List Nat
  | [] => [1]
  | x :: r => ((starts g (x :: r)).map fun p => (tabC g r).getD (wid g p - 1) 0).sum :: tabC g r
/-- the ways, of each end of a text that begins at a place -/
def tabW (g : List Word) : Nat → List Nat → List (List Wy)
  | _, [] => [[[]]]
  | a, x :: r => ((starts g (x :: r)).flatMap fun p => ((tabW g (a + 1) r).getD (wid g p - 1) []).map fun w => (a, p) :: w) :: tabW g (a + 1) r
theorem tabC_len (g : List Word) : ∀ r, (tabC g r).length = r.length + 1
  | [] => rfl
  | x :: r => by
    show (tabC g r).length + 1 = _
    rw [tabC_len g r]
    rfl
theorem tabW_len (g : List Word) : ∀ (a : Nat) (r : List Nat), (tabW g a r).length = r.length + 1
  | _, [] => rfl
  | a, x :: r => by
    show (tabW g (a + 1) r).length + 1 = _
    rw [tabW_len g (a + 1) r]
    rfl
/-- a piece that stands for a word of g -/
def okPc (g : List Word) : Pc → Prop
  | none => True
  | some i => i < g.length
theorem starts_ok {g : List Word} {r : List Nat} {p : Pc} (h : p ∈ starts g r) : okPc g p := by
  unfold starts at h
  rcases List.mem_cons.mp h with rfl | h
  · exact True.intro
  · obtain ⟨i, hi, rfl⟩ := List.mem_map.mp h
    exact List.mem_range.mp (List.mem_filter.mp hi).1
theorem starts_len (g : List Word) (r : List Nat) : (starts g r).length ≤ g.length + 1 := by
  unfold starts
  rw [List.length_cons, List.length_map]
  have := List.length_filter_le (fitsAt g r) (List.range g.length)
  rw [List.length_range] at this
  omega
/-- a lexicon whose words all write something -/
def Full (g : List Word) : Prop := ∀ w ∈ g, 1 ≤ w.text.length
theorem wid_pos {g : List Word} (h : Full g) {p : Pc} (hp : okPc g p) : 1 ≤ wid g p := by
  cases p with
  | none => exact Nat.le_refl _
  | some i =>
    have hi : i < g.length := hp
    show 1 ≤ ((g[i]?).map fun w => w.text.length).getD 0
    rw [List.getElem?_eq_getElem hi]
    exact h _ (List.getElem_mem hi)
theorem wid_le {g : List Word} {x : Nat} {r : List Nat} {p : Pc} (h : p ∈ starts g (x :: r)) : wid g p ≤ r.length + 1 := by
  unfold starts at h
  rcases List.mem_cons.mp h with rfl | h
  · show 1 ≤ _
    omega
  · obtain ⟨i, hi, rfl⟩ := List.mem_map.mp h
    have hf := (List.mem_filter.mp hi).2
    unfold fitsAt at hf
    show ((g[i]?).map fun w => w.text.length).getD 0 ≤ _
    cases e : g[i]? with
    | none => rw [e] at hf; cases hf
    | some w =>
      rw [e] at hf
      have hf' : (x :: r).take w.text.length = w.text := of_decide_eq_true hf
      have := congrArg List.length hf'
      rw [List.length_take, List.length_cons] at this
      show w.text.length ≤ _
      omega
end Sb
namespace Sb
open SyBase SyLex SyWays
/-! ### how many -/
theorem tab_same (g : List Word) (hf : Full g) : ∀ (a : Nat) (r : List Nat), (tabW g a r).map List.length = tabC g r
  | _, [] => rfl
  | a, x :: r => by
    have ih := tab_same g hf (a + 1) r
    show (((starts g (x :: r)).flatMap fun p => ((tabW g (a + 1) r).getD (wid g p - 1) []).map fun w => (a, p) :: w)).length :: (tabW g (a + 1) r).map List.length = ((starts g (x :: r)).map fun p => (tabC g r).getD (wid g p - 1) 0).sum :: tabC g r
    rw [ih]
    congr 1
    rw [List.length_flatMap]
    congr 1
    refine List.map_congr_left fun p hp => ?_
    rw [List.length_map]
    have hw1 := wid_pos hf (starts_ok hp)
    have hw2 := wid_le hp
    have hl := tabW_len g (a + 1) r
    rw [← ih, List.getD_eq_getElem?_getD, List.getD_eq_getElem?_getD, List.getElem?_map, List.getElem?_eq_getElem (by omega)]
    rfl
theorem tabC_head (g : List Word) (x : Nat) (r : List Nat) : (tabC g r).headD 0 ≤ (tabC g (x :: r)).headD 0 := by
  show _ ≤ ((starts g (x :: r)).map fun p => (tabC g r).getD (wid g p - 1) 0).sum
  unfold starts
  rw [List.map_cons, List.sum_cons]
  show _ ≤ (tabC g r).getD 0 0 + _
  cases tabC g r with
  | nil => exact Nat.zero_le _
  | cons c l => exact Nat.le_add_right _ _
theorem tabC_drop (g : List Word) : ∀ (k : Nat) (t : List Nat), k ≤ t.length → (tabC g (t.drop k)).headD 0 ≤ (tabC g t).headD 0
  | 0, t, _ => by rw [List.drop_zero]; exact Nat.le_refl _
  | k + 1, x :: t, h => by
    rw [List.drop_succ_cons]
    exact Nat.le_trans (tabC_drop g k t (by simpa using h)) (tabC_head g x t)
  | k + 1, [], h => by simp at h
end Sb
namespace Sb
open SyBase SyLex SyWays
theorem tabW_short (g : List Word) : ∀ (a : Nat) (r : List Nat), ∀ lw ∈ tabW g a r, ∀ w ∈ lw, w.length ≤ r.length
  | a, [], lw, h, w, hw => by
    simp only [tabW, List.mem_singleton] at h
    subst h
    simp only [List.mem_singleton] at hw
    subst hw
    exact Nat.le_refl _
  | a, x :: r, lw, h, w, hw => by
    have ih := tabW_short g (a + 1) r
    rcases List.mem_cons.mp h with rfl | h
    · obtain ⟨p, _, hp⟩ := List.mem_flatMap.mp hw
      obtain ⟨w', hw', rfl⟩ := List.mem_map.mp hp
      rw [List.getD_eq_getElem?_getD] at hw'
      cases e : (tabW g (a + 1) r)[wid g p - 1]? with
      | none => rw [e] at hw'; cases hw'
      | some l =>
        rw [e] at hw'
        have := ih l (List.mem_of_getElem? e) w' hw'
        simp only [List.length_cons]
        omega
    · have := ih lw h w hw
      simp only [List.length_cons]
      omega
theorem tabC_get (g : List Word) : ∀ (r : List Nat) (j : Nat), j ≤ r.length → (tabC g r)[j]? = some ((tabC g (r.drop j)).headD 0)
  | [], 0, _ => rfl
  | [], j + 1, h => by simp at h
  | x :: r, 0, _ => rfl
  | x :: r, j + 1, h => by
    rw [List.drop_succ_cons]
    show (tabC g r)[j]? = _
    exact tabC_get g r j (by simpa using h)
/-- no list of ways is long -/
theorem tabW_few {g : List Word} (hf : Full g) {t : List Nat} (hc : (tabC g t).headD 0 ≤ 1024) {k j : Nat} {lw : List Wy} (hk : k ≤ t.length) (h : (tabW g k (t.drop k))[j]? = some lw) : lw.length ≤ 1024 := by
  have h1 := tab_same g hf k (t.drop k)
  have hj : j ≤ (t.drop k).length := by
    have := (List.getElem?_eq_some_iff.mp h).1
    rw [tabW_len] at this
    omega
  have h2 := tabC_get g (t.drop k) j hj
  rw [← h1, List.getElem?_map, h, List.drop_drop] at h2
  have h3 : lw.length = (tabC g (t.drop (k + j))).headD 0 := Option.some.inj h2
  rw [h3]
  rw [List.length_drop] at hj
  exact Nat.le_trans (tabC_drop g (k + j) t (by omega)) hc
end Sb
end
section
/-! Walks 12: the class Text: pieces_at, width, __init__ -/
namespace Sb
open PySem PySem.Spec PyProof.Rows L2
section
variable {P : Program} {w : World} {K : PySem.W.Frag} {mg : Str → Option Value} {base : Heap} {A : Ads}
/-- pieces as values -/
def pvs (ps : List Pc) : List V := ps.map fun p => V.int (pcV p)
theorem pvs_len (ps : List Pc) : (pvs ps).length = ps.length := List.length_map ..
theorem pvs_get {ps : List Pc} {i : Nat} {y : V} (h : (pvs ps)[i]? = some y) : ∃ p, ps[i]? = some p ∧ y = V.int (pcV p) := by
  unfold pvs at h
  rw [List.getElem?_map] at h
  cases e : ps[i]? with
  | none => rw [e] at h; cases h
  | some n =>
    rw [e] at h
    exact ⟨n, rfl, (Option.some.inj h).symm⟩
def lstP (ps : List Pc) : HO := .lst (pvs ps)
theorem shaped_tup (ns : List Nat) : SeqAt.shaped (.tuple (intsD ns)) = true := by
  have hi : PyData.canLayAll0 (intsD ns) = true := by
    have := canLay_ints (ns.map fun (n : Nat) => (n : Int))
    rw [List.map_map] at this
    exact this
  unfold SeqAt.shaped
  have e1 : PyData.canLay0 (.tuple (intsD ns)) = true := hi
  have e2 : PyData.depth (.tuple (intsD ns)) ≤ 64 := by
    simp only [PyData.depth, depth_ints]
    decide
  rw [e1, decide_eq_true e2]
  rfl
theorem eqv_tup (a b : List Nat) : PyData.eqv (.tuple (intsD a)) (.tuple (intsD b)) = (a == b) := by
  simp only [PyData.eqv]
  exact intsD_eqv a b
theorem sIx_at {at_ n : Nat} (h : at_ ≤ n) (d : Nat) : HT.sIx n d (some (at_ : Int)) = at_ := by
  rw [HT.sIx_nat]
  omega
theorem cut_at (t : List Nat) (at_ k : Nat) (h : at_ ≤ t.length) : cutV (nv t) (some (at_ : Int)) (some ((at_ : Int) + (k : Int))) = nv ((t.drop at_).take k) := by
  unfold cutV
  have e : (at_ : Int) + (k : Int) = ((at_ + k : Nat) : Int) := by omega
  rw [e, HT.sIx_nat, HT.sIx_nat, nv_length, Nat.min_eq_left h]
  unfold nv
  rw [← List.map_drop, ← List.map_take]
  congr 1
  by_cases hk : at_ + k ≤ t.length
  · rw [Nat.min_eq_left hk]
    congr 1
    omega
  · rw [Nat.min_eq_right (by omega), List.take_of_length_le (by rw [List.length_drop]; exact Nat.le_refl _), List.take_of_length_le (by rw [List.length_drop]; omega)]
theorem cut_whole (t : List Nat) (at_ k : Nat) (h : HT.sIx t.length 0 (some (at_ : Int)) = 0 ∧ HT.sIx t.length t.length (some ((at_ : Int) + (k : Int))) = t.length) (hl : at_ ≤ t.length) : t = (t.drop at_).take k := by
  have e : (at_ : Int) + (k : Int) = ((at_ + k : Nat) : Int) := by omega
  rw [e, HT.sIx_nat, HT.sIx_nat] at h
  have h0 : at_ = 0 := by omega
  subst h0
  rw [List.drop_zero, List.take_of_length_le (by omega)]

/-! pieces_at -/
abbrev sPieces : Stmt := inClass (top 46) 1
def spPieces (CT CW : Addr) : Sp := fun vs H Q _ => ∃ (a dx L sg : Addr) (fs : List (Str × V)) (g : List SyLex.Word) (t : List Nat) (at_ : Nat), vs = [.ref a, .int (at_ : Int)] ∧ H a = some (.ins CT dx fs) ∧ fs.lookup ("words" : Str) = some (.ref L) ∧ fs.lookup ("signs" : Str) = some (.ref sg) ∧
  H sg = some (.tup (nv t)) ∧ WordsAt CW H L g ∧ at_ ≤ t.length ∧ g.length ≤ 1000 ∧ t.length ≤ 70000 ∧ ∀ H' p, Same H H' → H p = none → H' p = some (lstP (starts g (t.drop at_))) → Q (.ref p) H'
theorem scPieces : FnScope ["self", "at", "found", "number", "word"] ["self", "at"] (defScope sPieces) := ⟨rfl, rfl, rfl, by decide +kernel, rfl, by decide +kernel, by decide +kernel⟩
theorem ok_pieces (T : Txt K mg A) {f : Addr} {fd : FuncData} (F : Fun K "pieces_at" "Text.pieces_at" sPieces f fd) : FnOk P w K mg base CX0 1 f fd ["self", "at"] (spPieces A.CT A.CW) := by
  refine F.ok scPieces (fun vs H Q E h => ?_) (fun cdv A' outer s H vs Q E hr h => ⟨_, pss_cons (ps_set (i := 2) scPieces.nd rfl (.inl rfl) (pe_lst (pa_cons (glob_int T.BY_ITSELF) pa_nil)))
    (pss_cons (ps_for PassesOwn.never rfl (pi_enum (by rfl) T.enumerate (pa_cons (pe_fld (pv 0) rfl) pa_nil)) (pg_tup rfl (pgs_cons (pg_name (i := 3) scPieces.nd rfl (.inl rfl)) (pgs_cons (pg_name (i := 4) scPieces.nd rfl (.inl rfl)) pgs_nil)))
      (pss_one (ps_if (pt_cmpR (op_eqD hr.units) (pe_slice sl_tupA (pe_fld (pv 0) rfl) (po_some (pv 1)) (po_some (pe_op op_add (pv 1) (pe_callB call_len_seq (by rfl) T.len PySem.boot_len (pa_cons (pe_fld (pv 4) rfl) pa_nil))))) (pe_fld (pv 4) rfl) (nomark _))
        (pss_one (ps_expr (pe_bm PySem.F.plainAttrs_list PySem.F.slot_list_append PySem.F.type_list_append mt_append (pv 2) (pa_cons (pv 3) pa_nil)))) pss_nil)))
    (pss_one (ps_ret (pv 2)))), ?_⟩)
  · obtain ⟨a, dx, L, sg, fs, g, t, at_, rfl, _⟩ := h
    rfl
  · obtain ⟨a, dx, L, sg, fs, g, t, at_, rfl, ha, hw, hs, hsg, hW, hat, hgl, htl, k⟩ := h
    obtain ⟨as, hL, hP⟩ := id hW
    refine ⟨by show 1 ≤ sizeLine; decide, fun D hD => ?_⟩
    have s0 : Same H (upd H D (.lst [V.int (-1)])) := Same.new hD
    refine ⟨_, rfl, a, A.CT, dx, fs, _, rfl, s0 _ _ ha, T.clT, T.aT _ (.head _), hw, L, refs as, rfl, SqL.of (s0 _ _ hL), ?_⟩
    have hal : as.length = g.length := Paired.length hP
    refine for_it walk_enum (fun i σ H' => ∃ (v3 v4 : Option V) (Hx : Hp), σ = [some (.ref a), some (.int (at_ : Int)), some (.ref D), v3, v4] ∧ Off Hx H' D (lstP (none :: ((List.range i).filter (fitsAt g (t.drop at_))).map some)) ∧ Same H Hx)
      ⟨none, none, H, rfl, Off.new hD, Same.refl _⟩ (fun i σ H' _ ⟨_, _, Hx, _, f, s⟩ => (s.trans f.same).seq (SqL.of hL)) ?_ ?_
    · rintro i x σ H1 H1' hi ⟨v3, v4, Hx, rfl, f, sx⟩ ⟨T0, x0, y0, rfl, hT, rfl, ex, ey⟩
      cases ex
      obtain ⟨e, he, rfl⟩ := refs_get ey
      have hil : i < g.length := by
        rw [refs_len, hal] at hi
        exact hi
      obtain ⟨e', h1, h2⟩ := prd_at hP (List.getElem?_eq_getElem hil)
      rw [he] at h1
      cases h1
      have f1 := f.add hT (.tup [.int ((i : Nat) : Int), .ref e])
      have sx1 : Same H (upd Hx T0 (.tup [.int ((i : Nat) : Int), .ref e])) := sx.at (sx.free (f.free_of hT))
      have sH := sx1.trans f1.same
      obtain ⟨dw, q1, q2, g1, g2, g3⟩ := id (h2.same sH)
      refine ⟨T0, _, rfl, SqT.of upd_same, rfl, _, _, rfl, _, _, rfl, rfl, ?_⟩
      have hfit : fitsAt g (t.drop at_) i = decide ((t.drop at_).take g[i].text.length = g[i].text) := by
        unfold fitsAt
        rw [List.getElem?_eq_getElem hil]
      refine ⟨_, rfl, a, A.CT, dx, fs, _, rfl, sH _ _ ha, T.clT, T.aT _ (.tail _ (.tail _ (.head _))), hs, _, rfl, _, rfl, _, rfl, _, rfl, e, A.CW, dw, _, _, rfl, g1, T.clW, T.aW _ (.tail _ (.head _)), wF_signs, q2, _, rfl, .inr (SqT.of g3), _, _, rfl, rfl, _, rfl, sg, nv t, rfl, SqT.of (sH _ _ hsg), fun hw => ?_, fun hw p hp => ?_⟩
      all_goals simp only [nv_length] at hw
      rotate_left
      · have s2 : Same (upd H1 T0 (.tup [.int ((i : Nat) : Int), .ref e])) (upd (upd H1 T0 (.tup [.int ((i : Nat) : Int), .ref e])) p (.tup (cutV (nv t) (some (at_ : Int)) (some ((at_ : Int) + ((nv g[i].text).length : Int)))))) := Same.new hp
        rw [nv_length, cut_at t at_ g[i].text.length hat] at s2
        simp only [nv_length]
        rw [cut_at t at_ g[i].text.length hat]
        have hq : upd (upd H1 T0 (.tup [.int ((i : Nat) : Int), .ref e])) p (.tup (nv ((t.drop at_).take g[i].text.length))) p = some (.tup (nv ((t.drop at_).take g[i].text.length))) := upd_same
        have f2 := f1.add hp (.tup (nv ((t.drop at_).take g[i].text.length)))
        have sx2 := sx1.at (o := .tup (nv ((t.drop at_).take g[i].text.length))) (sx1.free (f1.free_of hp))
        refine ⟨_, rfl, e, A.CW, dw, _, _, rfl, s2 _ _ g1, T.clW, T.aW _ (.tail _ (.head _)), wF_signs, .tuple (intsD _), .tuple (intsD g[i].text), .tup (SqT.of hq) (dpAll_ints _), .tup (SqT.of (s2 _ _ g3)) (dpAll_ints _), shaped_tup _, shaped_tup _, _, rfl, ?_⟩
        rw [eqv_tup]
        by_cases hc : (t.drop at_).take g[i].text.length = g[i].text
        · refine ifT (by rw [hc]; simp) ⟨_, rfl, .inl ⟨rfl, _, SqL.of f2.at⟩, _, rfl, D, _, _, rfl, rfl, f2.at, ?_, some (.int ((i : Nat) : Int)), some (.ref e), _, rfl, ?_, sx2⟩
          · have := List.length_filter_le (fitsAt g (t.drop at_)) (List.range i)
            rw [List.length_range] at this
            rw [pvs_len, List.length_cons, List.length_map, sizeLine_eq]
            omega
          · have hr : (none : Pc) :: ((List.range (i + 1)).filter (fitsAt g (t.drop at_))).map some = (none :: ((List.range i).filter (fitsAt g (t.drop at_))).map some) ++ [some i] := by
              rw [List.range_succ, List.filter_append, List.filter_cons_of_pos (by rw [hfit]; exact decide_eq_true hc), List.filter_nil, List.map_append]
              rfl
            rw [hr]
            have := f2.put (lstP ((none :: ((List.range i).filter (fitsAt g (t.drop at_))).map some) ++ [some i]))
            unfold lstP pvs at this ⊢
            rw [List.map_append] at this ⊢
            exact this
        · refine ifF (by simpa using hc) ⟨some (.int ((i : Nat) : Int)), some (.ref e), _, rfl, ?_, sx2⟩
          rw [List.range_succ, List.filter_append, List.filter_cons_of_neg (by rw [hfit]; simpa using hc), List.filter_nil, List.append_nil]
          exact f2
      · have hq : upd H1 T0 (.tup [.int ((i : Nat) : Int), .ref e]) sg = some (.tup (nv ((t.drop at_).take g[i].text.length))) := by
          rw [← cut_whole t at_ g[i].text.length hw hat]
          exact sH _ _ hsg
        refine ⟨_, rfl, e, A.CW, dw, _, _, rfl, g1, T.clW, T.aW _ (.tail _ (.head _)), wF_signs, .tuple (intsD _), .tuple (intsD g[i].text), .tup (SqT.of hq) (dpAll_ints _), .tup (SqT.of g3) (dpAll_ints _), shaped_tup _, shaped_tup _, _, rfl, ?_⟩
        rw [eqv_tup]
        by_cases hc : (t.drop at_).take g[i].text.length = g[i].text
        · refine ifT (by rw [hc]; simp) ⟨_, rfl, .inl ⟨rfl, _, SqL.of f1.at⟩, _, rfl, D, _, _, rfl, rfl, f1.at, ?_, some (.int ((i : Nat) : Int)), some (.ref e), _, rfl, ?_, sx1⟩
          · have := List.length_filter_le (fitsAt g (t.drop at_)) (List.range i)
            rw [List.length_range] at this
            rw [pvs_len, List.length_cons, List.length_map, sizeLine_eq]
            omega
          · have hr : (none : Pc) :: ((List.range (i + 1)).filter (fitsAt g (t.drop at_))).map some = (none :: ((List.range i).filter (fitsAt g (t.drop at_))).map some) ++ [some i] := by
              rw [List.range_succ, List.filter_append, List.filter_cons_of_pos (by rw [hfit]; exact decide_eq_true hc), List.filter_nil, List.map_append]
              rfl
            rw [hr]
            have := f1.put (lstP ((none :: ((List.range i).filter (fitsAt g (t.drop at_))).map some) ++ [some i]))
            unfold lstP pvs at this ⊢
            rw [List.map_append] at this ⊢
            exact this
        · refine ifF (by simpa using hc) ⟨some (.int ((i : Nat) : Int)), some (.ref e), _, rfl, ?_, sx1⟩
          rw [List.range_succ, List.filter_append, List.filter_cons_of_neg (by rw [hfit]; simpa using hc), List.filter_nil, List.append_nil]
          exact f1
    · rintro σ H' ⟨v3, v4, Hx, rfl, f, sx⟩
      rw [refs_len, hal] at f
      exact ⟨_, rfl, k H' D (sx.trans f.same) hD f.at⟩
end
end Sb
end
section
/-! Walks 13: the class Text: __init__, width, sorts_of, cost_of -/
namespace Sb
open PySem PySem.Spec PyProof.Rows L2
theorem Off.back {Hx H' : Hp} {D b : Addr} {o v : HO} (f : Off Hx H' D o) (h : H' b = some v) (n : b ≠ D) : Hx b = some v := by
  rw [f.eq, upd_ne n] at h
  exact h
section
variable {P : Program} {w : World} {K : PySem.W.Frag} {mg : Str → Option Value} {base : Heap} {A : Ads}
/-- at st the pieces that may begin at each place -/
def StartsAt (H : Hp) (st : Addr) (g : List SyLex.Word) (t : List Nat) : Prop := ∃ as, H st = some (.lst (refs as)) ∧ Paired (fun a k => H a = some (lstP (starts g (t.drop k)))) as (List.range t.length)
theorem StartsAt.same {H H' : Hp} {st : Addr} {g : List SyLex.Word} {t : List Nat} (h : StartsAt H st g t) (s : Same H H') : StartsAt H' st g t := by
  obtain ⟨as, h1, h2⟩ := h
  exact ⟨as, s _ _ h1, Paired.mapP h2 fun _ _ q => s _ _ q⟩
/-- a text, looked at with words and joins -/
def TextAt (A : Ads) (H : Hp) (a : Addr) (g : List SyLex.Word) (b : Nat) (js : List SyWays.Join) (t : List Nat) : Prop := ∃ dx L j sg st, H a = some (.ins A.CT dx (tF (.ref L) (.ref j) (.ref sg) (.ref st))) ∧
  WordsAt A.CW H L g ∧ JoinsAt A.CJ H j b js ∧ H sg = some (.tup (nv t)) ∧ StartsAt H st g t
theorem TextAt.same {H H' : Hp} {a : Addr} {g : List SyLex.Word} {b : Nat} {js : List SyWays.Join} {t : List Nat} (h : TextAt A H a g b js t) (s : Same H H') : TextAt A H' a g b js t := by
  obtain ⟨dx, L, j, sg, st, h1, h2, h3, h4, h5⟩ := h
  exact ⟨dx, L, j, sg, st, s _ _ h1, h2.same s, h3.same s, s _ _ h4, h5.same s⟩

/-! __init__ -/
abbrev sTInit : Stmt := inClass (top 46) 0
def spTInit (A : Ads) : Sp := fun vs H Q _ => ∃ (p dx L j sg : Addr) (g : List SyLex.Word) (t : List Nat), vs = [.ref p, .ref L, .ref j, .ref sg] ∧ H p = some (.ins A.CT dx []) ∧ H sg = some (.tup (nv t)) ∧ WordsAt A.CW H L g ∧ g.length ≤ 1000 ∧ t.length ≤ 70000 ∧
  ∀ H' st, (∀ b v, b ≠ p → H b = some v → H' b = some v) → H' p = some (.ins A.CT dx (tF (.ref L) (.ref j) (.ref sg) (.ref st))) → StartsAt H' st g t → Q .non H'
theorem scTInit : FnScope ["self", "words", "joins", "signs", "at"] ["self", "words", "joins", "signs"] (defScope sTInit) := ⟨rfl, rfl, rfl, by decide +kernel, rfl, by decide +kernel, by decide +kernel⟩
def tF3 (v0 v1 v2 : V) : List (Str × V) := [("words", v0), ("joins", v1), ("signs", v2)]
theorem tF3_new {v0 v1 v2 : V} : putF "signs" v2 (putF "joins" v1 (putF "words" v0 [])) = tF3 v0 v1 v2 := by
  unfold tF3
  repeat (first | rw [putF_nil] | rw [put_past (by decide +kernel)])
theorem tF3_put {v0 v1 v2 v3 : V} : putF "starting" v3 (tF3 v0 v1 v2) = tF v0 v1 v2 v3 := by
  unfold tF3 tF
  repeat (first | rw [putF_nil] | rw [put_past (by decide +kernel)])
theorem WordsAt.keep {C : Addr} {H H' : Hp} {L : Addr} {g : List SyLex.Word} (h : WordsAt C H L g) (s : ∀ b v, H b = some v → (∀ C' dx fs, v = .ins C' dx fs → C' = C) → H' b = some v) : WordsAt C H' L g := by
  obtain ⟨as, h1, h2⟩ := h
  refine ⟨as, s _ _ h1 (fun _ _ _ z => nomatch z), Paired.mapP h2 fun a x q => ?_⟩
  obtain ⟨dx, q1, q2, g1, g2, g3⟩ := q
  exact ⟨dx, q1, q2, s _ _ g1 (fun _ _ _ z => by cases z; rfl), s _ _ g2 (fun _ _ _ z => nomatch z), s _ _ g3 (fun _ _ _ z => nomatch z)⟩
theorem ok_tInit (T : Txt K mg A) (hne : A.CT ≠ A.CW) (G1 : MHas P w K mg base CX0 A.CT "pieces_at" 1 ["self", "at"] (spPieces A.CT A.CW)) {f : Addr} {fd : FuncData} (F : Fun K "__init__" "Text.__init__" sTInit f fd) :
    FnOk P w K mg base CX0 2 f fd ["self", "words", "joins", "signs"] (spTInit A) := by
  refine F.ok scTInit (fun vs H Q E h => ?_) (fun cdv A' outer s H vs Q E hr h => ⟨_, pss_cons (ps_fld (pv 0) (pv 1) rfl) (pss_cons (ps_fld (pv 0) (pv 2) rfl) (pss_cons (ps_fld (pv 0) (pv 3) rfl) (pss_one (ps_fld (pv 0)
      (pe_lc (own := [("at", 4)]) (g := gName 4) (tt := tYes) rfl scTInit.nd (pi_range1 (by rfl) T.range (pa_cons (pe_callB call_len_seq (by rfl) T.len PySem.boot_len (pa_cons (pv 3) pa_nil)) pa_nil)) (blkOk_by (N := ["self", "words", "joins", "signs", "at"]) (sc := defScope sTInit) (by decide +kernel))
        (fun _ _ _ _ _ => pg_name (i := 4) scTInit.nd rfl (.inl rfl)) (fun _ _ _ _ _ => pts_nil) (fun _ _ _ _ _ => meth_has G1 T.clT hr (pv 0) (pa_cons (pv 4) pa_nil))) rfl)))), ?_⟩)
  · obtain ⟨p, dx, L, j, sg, g, t, rfl, _⟩ := h
    rfl
  · obtain ⟨p, dx, L, j, sg, g, t, rfl, hp, hsg, hW, hgl, htl, k⟩ := h
    refine ⟨_, rfl, _, rfl, p, A.CT, dx, [], rfl, hp, T.clT, T.aT _ (.head _), (by show 0 < 1000; decide), ?_⟩
    refine ⟨_, rfl, _, rfl, p, A.CT, dx, _, rfl, upd_same, T.clT, T.aT _ (.tail _ (.head _)), (by show 1 < 1000; decide), ?_⟩
    refine ⟨_, rfl, _, rfl, p, A.CT, dx, _, rfl, upd_same, T.clT, T.aT _ (.tail _ (.tail _ (.head _))), few2, ?_⟩
    rw [upd_upd, upd_upd, tF3_new]
    have nsg : sg ≠ p := ne_of hsg hp (fun z => nomatch z)
    have hsg3 : upd H p (.ins A.CT dx (tF3 (.ref L) (.ref j) (.ref sg))) sg = some (.tup (nv t)) := by
      rw [upd_ne nsg]
      exact hsg
    have hW3 : WordsAt A.CW (upd H p (.ins A.CT dx (tF3 (.ref L) (.ref j) (.ref sg)))) L g := hW.keep fun b v hb hv => by
      rw [upd_ne fun z => by
        rw [z, hp] at hb
        cases hb
        exact hne (hv _ _ _ rfl)]
      exact hb
    refine ⟨_, rfl, sg, _, rfl, .inr (SqT.of hsg3), _, rfl, by omega, by rw [nv_length]; omega, fun D hD => ?_⟩
    rw [nv_length, show ((t.length : Nat) : Int).toNat = t.length by omega]
    have hp3 : upd H p (.ins A.CT dx (tF3 (.ref L) (.ref j) (.ref sg))) p = some (.ins A.CT dx (tF3 (.ref L) (.ref j) (.ref sg))) := upd_same
    have l1 : (tF3 (.ref L) (.ref j) (.ref sg)).lookup ("words" : Str) = some (.ref L) := lk_here
    have l2 : (tF3 (.ref L) (.ref j) (.ref sg)).lookup ("signs" : Str) = some (.ref sg) := (lk_past (by decide +kernel)).trans ((lk_past (by decide +kernel)).trans lk_here)
    have l3 : (tF3 (.ref L) (.ref j) (.ref sg)).lookup ("pieces_at" : Str) = none := (lk_past (by decide +kernel)).trans ((lk_past (by decide +kernel)).trans ((lk_past (by decide +kernel)).trans rfl))
    have keep3 : ∀ b v, b ≠ p → H b = some v → upd H p (.ins A.CT dx (tF3 (.ref L) (.ref j) (.ref sg))) b = some v := fun b v hb e => by
      rw [upd_ne hb]
      exact e
    generalize upd H p (.ins A.CT dx (tF3 (.ref L) (.ref j) (.ref sg))) = H3 at hsg3 hW3 hp3 keep3 hD ⊢
    refine lc_range (fun i H' => ∃ Hx as, Off Hx H' D (.lst (refs as)) ∧ Same H3 Hx ∧ Paired (fun a k => Hx a = some (lstP (starts g (t.drop k)))) as (List.range i)) ⟨H3, [], Off.new hD, Same.refl _, .nil⟩ ?_ ?_
    · rintro i H' hi ⟨Hx, as, f, sx, hP⟩
      have e0 : (0 : Int) + (i : Int) = (i : Int) := by omega
      rw [e0]
      have sH := sx.trans f.same
      refine ⟨rfl, tyes ⟨_, rfl, p, dx, _, rfl, sH _ _ hp3, l3, _, rfl, p, dx, L, sg, _, g, t, i, rfl, sH _ _ hp3, l1, l2, sH _ _ hsg3, hW3.same sH, Nat.le_of_lt hi, hgl, htl, fun H2 q s2 hq hq2 => ?_⟩⟩
      obtain ⟨Hy, f2, sy⟩ := f.call s2
      have nq : q ≠ D := (ne_of_none f.at hq).symm
      have hl : as.length = i := by
        have := Paired.length hP
        rwa [List.length_range] at this
      refine ⟨_, f2.at, ?_, Hy, as ++ [q], ?_, sx.trans sy, ?_⟩
      · rw [refs_len, hl, sizeLine_eq]
        omega
      · have := f2.put (.lst (refs (as ++ [q])))
        rw [refs_snoc] at this ⊢
        exact this
      · rw [List.range_succ]
        exact prd_snoc (Paired.mapP hP fun _ _ z => sy _ _ z) (Off.back f2 hq2 nq)
    · rintro H' ⟨Hx, as, f, sx, hP⟩
      have sH := sx.trans f.same
      have npD : D ≠ p := fun z => by
        rw [z] at f
        have := sx _ _ hp3
        rw [f.free] at this
        cases this
      refine ⟨_, rfl, p, A.CT, dx, _, rfl, sH _ _ hp3, T.clT, T.aT _ (.tail _ (.tail _ (.tail _ (.head _)))), (by show 3 < 1000; decide), ?_⟩
      rw [tF3_put]
      have up : ∀ b v, b ≠ p → H' b = some v → upd H' p (.ins A.CT dx (tF (.ref L) (.ref j) (.ref sg) (.ref D))) b = some v := fun b v hb e => by
        rw [upd_ne hb]
        exact e
      refine k _ D (fun b v hb e => up b v hb (sH _ _ (keep3 b v hb e))) upd_same ⟨as, up _ _ npD f.at, Paired.mapP hP fun a k z => up _ _ (fun e => ?_) (f.same _ _ z)⟩
      rw [e, sx _ _ hp3] at z
      cases z

/-! width -/
abbrev sWid : Stmt := inClass (top 46) 2
def spWid (A : Ads) : Sp := fun vs H Q _ => ∃ (a : Addr) (g : List SyLex.Word) (b : Nat) (js : List SyWays.Join) (t : List Nat) (p : Pc), vs = [.ref a, .int (pcV p)] ∧ TextAt A H a g b js t ∧ okPc g p ∧ Q (.int ((wid g p : Nat) : Int)) H
theorem scWid : FnScope ["self", "piece"] ["self", "piece"] (defScope sWid) := ⟨rfl, rfl, rfl, by decide +kernel, rfl, by decide +kernel, by decide +kernel⟩
theorem pcV_self (p : Pc) : pcV p = -1 ↔ p = none := by
  cases p with
  | none => simp [pcV]
  | some i =>
    refine ⟨fun h => ?_, fun h => nomatch h⟩
    have h' : (i : Int) = -1 := h
    omega
theorem ok_wid (T : Txt K mg A) {f : Addr} {fd : FuncData} (F : Fun K "width" "Text.width" sWid f fd) : FnOk P w K mg base CX0 1 f fd ["self", "piece"] (spWid A) := by
  refine F.ok scWid (fun vs H Q E h => ?_) (fun cdv A' outer s H vs Q E hr h => ⟨_, pss_cons (ps_if (pt_cmp (pc_eqI (pv 1) (glob_int T.BY_ITSELF))) (pss_one (ps_ret pe_int)) pss_nil)
    (pss_one (ps_ret (pe_callB call_len_seq (by rfl) T.len PySem.boot_len (pa_cons (pe_fld (pe_ix ix_list (pe_fld (pv 0) rfl) (pv 1) (fun _ _ => rfl)) rfl) pa_nil)))), ?_⟩)
  · obtain ⟨a, g, b, js, t, p, rfl, _⟩ := h
    rfl
  · obtain ⟨a, g, b, js, t, p, rfl, ⟨dx, L, j, sg, st, h1, ⟨as, hL, hP⟩, _⟩, hok, k⟩ := h
    refine ⟨_, rfl, _, _, rfl, rfl, _, rfl, ifD (fun c => ?_) fun c => ?_⟩
    · have e := (pcV_self p).mp c
      subst e
      exact k
    · cases p with
      | none => exact absurd rfl c
      | some i =>
        have hi : i < g.length := hok
        obtain ⟨e, he, dw, q1, q2, g1, g2, g3⟩ := prd_at hP (List.getElem?_eq_getElem hi)
        have ew : wid g (some i) = g[i].text.length := by
          show ((g[i]?).map fun w => w.text.length).getD 0 = _
          rw [List.getElem?_eq_getElem hi]
          rfl
        rw [ew] at k
        refine ⟨_, rfl, a, A.CT, dx, _, _, rfl, h1, T.clT, T.aT _ (.head _), tF_words, _, rfl, L, _, _, _, rfl, rfl, SqL.of hL, atI_nat (refs_at he), e, A.CW, dw, _, _, rfl, g1, T.clW, T.aW _ (.tail _ (.head _)), wF_signs, q2, _, rfl, .inr (SqT.of g3), ?_⟩
        rw [nv_length]
        exact k

/-! sorts_of -/
abbrev sSorts : Stmt := inClass (top 46) 5
def leftP (g : List SyLex.Word) : Pc → Nat
  | none => 0
  | some i => ((g[i]?).map fun w => w.left).getD 0
def rightP (g : List SyLex.Word) : Pc → Nat
  | none => 0
  | some i => ((g[i]?).map fun w => w.right).getD 0
def costP (g : List SyLex.Word) (b : Nat) : Pc → Nat
  | none => b
  | some i => ((g[i]?).map fun w => w.cost).getD 0
def spSorts (A : Ads) : Sp := fun vs H Q _ => ∃ (a : Addr) (g : List SyLex.Word) (b : Nat) (js : List SyWays.Join) (t : List Nat) (p : Pc), vs = [.ref a, .int (pcV p)] ∧ TextAt A H a g b js t ∧ okPc g p ∧
  ∀ q, H q = none → Q (.ref q) (upd H q (.tup [.int ((leftP g p : Nat) : Int), .int ((rightP g p : Nat) : Int)]))
theorem scSorts : FnScope ["self", "piece"] ["self", "piece"] (defScope sSorts) := ⟨rfl, rfl, rfl, by decide +kernel, rfl, by decide +kernel, by decide +kernel⟩
theorem ok_sorts (T : Txt K mg A) {f : Addr} {fd : FuncData} (F : Fun K "sorts_of" "Text.sorts_of" sSorts f fd) : FnOk P w K mg base CX0 1 f fd ["self", "piece"] (spSorts A) := by
  refine F.ok scSorts (fun vs H Q E h => ?_) (fun cdv A' outer s H vs Q E hr h => ⟨_, pss_cons (ps_if (pt_cmp (pc_eqI (pv 1) (glob_int T.BY_ITSELF))) (pss_one (ps_ret (pe_tup (pa_cons (glob_int T.EDGE) (pa_cons (glob_int T.EDGE) pa_nil))))) pss_nil)
    (pss_one (ps_ret (pe_tup (pa_cons (pe_fld (pe_ix ix_list (pe_fld (pv 0) rfl) (pv 1) (fun _ _ => rfl)) rfl) (pa_cons (pe_fld (pe_ix ix_list (pe_fld (pv 0) rfl) (pv 1) (fun _ _ => rfl)) rfl) pa_nil))))), ?_⟩)
  · obtain ⟨a, g, b, js, t, p, rfl, _⟩ := h
    rfl
  · obtain ⟨a, g, b, js, t, p, rfl, ⟨dx, L, j, sg, st, h1, ⟨as, hL, hP⟩, _⟩, hok, k⟩ := h
    refine ⟨_, rfl, _, _, rfl, rfl, _, rfl, ifD (fun c => ?_) fun c => ?_⟩
    · have e := (pcV_self p).mp c
      subst e
      exact ⟨by show 2 ≤ sizeLine; decide, k⟩
    · cases p with
      | none => exact absurd rfl c
      | some i =>
        have hi : i < g.length := hok
        obtain ⟨e, he, dw, q1, q2, g1, g2, g3⟩ := prd_at hP (List.getElem?_eq_getElem hi)
        have ew : leftP g (some i) = g[i].left := by
          show ((g[i]?).map fun w => w.left).getD 0 = _
          rw [List.getElem?_eq_getElem hi]
          rfl
        have ew2 : rightP g (some i) = g[i].right := by
          show ((g[i]?).map fun w => w.right).getD 0 = _
          rw [List.getElem?_eq_getElem hi]
          rfl
        rw [ew, ew2] at k
        exact ⟨_, rfl, a, A.CT, dx, _, _, rfl, h1, T.clT, T.aT _ (.head _), tF_words, _, rfl, L, _, _, _, rfl, rfl, SqL.of hL, atI_nat (refs_at he), e, A.CW, dw, _, _, rfl, g1, T.clW, T.aW _ (.tail _ (.tail _ (.head _))), wF_left,
          _, rfl, a, A.CT, dx, _, _, rfl, h1, T.clT, T.aT _ (.head _), tF_words, _, rfl, L, _, _, _, rfl, rfl, SqL.of hL, atI_nat (refs_at he), e, A.CW, dw, _, _, rfl, g1, T.clW, T.aW _ (.tail _ (.tail _ (.tail _ (.head _)))), wF_right, by show 2 ≤ sizeLine; decide, k⟩

/-! cost_of -/
abbrev sCostOf : Stmt := inClass (top 46) 6
def spCostOf (A : Ads) : Sp := fun vs H Q _ => ∃ (a : Addr) (g : List SyLex.Word) (b : Nat) (js : List SyWays.Join) (t : List Nat) (p : Pc), vs = [.ref a, .int (pcV p)] ∧ TextAt A H a g b js t ∧ okPc g p ∧ Q (.int ((costP g b p : Nat) : Int)) H
theorem scCostOf : FnScope ["self", "piece"] ["self", "piece"] (defScope sCostOf) := ⟨rfl, rfl, rfl, by decide +kernel, rfl, by decide +kernel, by decide +kernel⟩
theorem ok_costOf (T : Txt K mg A) {f : Addr} {fd : FuncData} (F : Fun K "cost_of" "Text.cost_of" sCostOf f fd) : FnOk P w K mg base CX0 1 f fd ["self", "piece"] (spCostOf A) := by
  refine F.ok scCostOf (fun vs H Q E h => ?_) (fun cdv A' outer s H vs Q E hr h => ⟨_, pss_cons (ps_if (pt_cmp (pc_eqI (pv 1) (glob_int T.BY_ITSELF))) (pss_one (ps_ret (pe_fld (pe_fld (pv 0) rfl) rfl))) pss_nil)
    (pss_one (ps_ret (pe_fld (pe_ix ix_list (pe_fld (pv 0) rfl) (pv 1) (fun _ _ => rfl)) rfl))), ?_⟩)
  · obtain ⟨a, g, b, js, t, p, rfl, _⟩ := h
    rfl
  · obtain ⟨a, g, b, js, t, p, rfl, ⟨dx, L, j, sg, st, h1, ⟨as, hL, hP⟩, ⟨dj, dd, hj, _⟩, _⟩, hok, k⟩ := h
    refine ⟨_, rfl, _, _, rfl, rfl, _, rfl, ifD (fun c => ?_) fun c => ?_⟩
    · have e := (pcV_self p).mp c
      subst e
      exact ⟨_, rfl, a, A.CT, dx, _, _, rfl, h1, T.clT, T.aT _ (.tail _ (.head _)), tF_joins, j, A.CJ, dj, _, _, rfl, hj, T.clJ, T.aJ _ (.head _), jF_by_itself, k⟩
    · cases p with
      | none => exact absurd rfl c
      | some i =>
        have hi : i < g.length := hok
        obtain ⟨e, he, dw, q1, q2, g1, g2, g3⟩ := prd_at hP (List.getElem?_eq_getElem hi)
        have ew : costP g b (some i) = g[i].cost := by
          show ((g[i]?).map fun w => w.cost).getD 0 = _
          rw [List.getElem?_eq_getElem hi]
          rfl
        rw [ew] at k
        exact ⟨_, rfl, a, A.CT, dx, _, _, rfl, h1, T.clT, T.aT _ (.head _), tF_words, _, rfl, L, _, _, _, rfl, rfl, SqL.of hL, atI_nat (refs_at he), e, A.CW, dw, _, _, rfl, g1, T.clW, T.aW _ (.tail _ (.tail _ (.tail _ (.tail _ (.head _))))), wF_cost, k⟩
end
end Sb
end
section
/-! Walks 14: Text.many -/
namespace Sb
open PySem PySem.Spec PyProof.Rows L2
theorem flat_zero (n : Nat) : (List.replicate n [V.int 0]).flatten = nv (List.replicate n 0) := by
  induction n with
  | zero => rfl
  | succ n ih =>
    rw [List.replicate_succ, List.replicate_succ, List.flatten_cons, ih]
    rfl
theorem sum_nat (l : List Nat) : (l.map fun (n : Nat) => (n : Int)).sum = ((l.sum : Nat) : Int) := by
  induction l with
  | nil => rfl
  | cons a l ih =>
    rw [List.map_cons, List.sum_cons, List.sum_cons, ih]
    omega
theorem nv_ints (l : List Nat) : (l.map fun (n : Nat) => (n : Int)).map V.int = nv l := by
  rw [List.map_map]
  rfl
theorem ixN_nat {n j : Nat} (h : j < n) : ixN n (j : Int) = some j := by
  unfold ixN
  rw [if_pos (by omega), if_pos (by omega)]
  simp
theorem rep_at (k m : Nat) (l : List Nat) (hm : 1 ≤ m) (hl : m ≤ l.length) : atI (nv (List.replicate (k + 1) 0 ++ l)) ((k : Int) + (m : Int)) = some (V.int ((l.getD (m - 1) 0 : Nat) : Int)) := by
  have e : (k : Int) + (m : Int) = ((k + m : Nat) : Int) := by omega
  rw [e]
  refine atI_nat (nv_at ?_)
  rw [List.getElem?_append_right (by rw [List.length_replicate]; omega), List.length_replicate, show k + m - (k + 1) = m - 1 by omega, List.getD_eq_getElem?_getD, List.getElem?_eq_getElem (by omega)]
  rfl
theorem rep_set (k s : Nat) (l : List Nat) : (nv (List.replicate (k + 1) 0 ++ l)).set k (V.int (s : Int)) = nv (List.replicate k 0 ++ (s :: l)) := by
  unfold nv
  rw [List.replicate_succ', List.append_assoc, List.map_append, List.map_append, List.set_append_right _ _ (by rw [List.length_map, List.length_replicate]; exact Nat.le_refl _)]
  rw [List.length_map, List.length_replicate, Nat.sub_self, List.map_append]
  rfl
section
variable {P : Program} {w : World} {K : PySem.W.Frag} {mg : Str → Option Value} {base : Heap} {A : Ads}
abbrev sTMany : Stmt := inClass (top 46) 3
def spTMany (A : Ads) : Sp := fun vs H Q _ => ∃ (a : Addr) (g : List SyLex.Word) (b : Nat) (js : List SyWays.Join) (t : List Nat), vs = [.ref a] ∧ TextAt A H a g b js t ∧ Full g ∧ g.length ≤ 1000 ∧ t.length ≤ 70000 ∧ ∀ H', Same H H' → Q (.int (((tabC g t).headD 0 : Nat) : Int)) H'
theorem scTMany : FnScope ["self", "found", "at", "piece"] ["self"] (defScope sTMany) := ⟨rfl, rfl, rfl, by decide +kernel, rfl, by decide +kernel, by decide +kernel⟩
theorem ok_tMany (T : Txt K mg A) (G1 : MHas P w K mg base CX0 A.CT "width" 1 ["self", "piece"] (spWid A)) {f : Addr} {fd : FuncData} (F : Fun K "many" "Text.many" sTMany f fd) : FnOk P w K mg base CX0 2 f fd ["self"] (spTMany A) := by
  refine F.ok scTMany (fun vs H Q E h => ?_) (fun cdv A' outer s H vs Q E hr h => ⟨_, pss_cons (ps_set (i := 1) scTMany.nd rfl (.inr rfl) (pe_op op_cat (pe_op op_rep (pe_lst (pa_cons pe_int pa_nil)) (pe_callB call_len_seq (by rfl) T.len PySem.boot_len (pa_cons (pe_fld (pv 0) rfl) pa_nil))) (pe_lst (pa_cons pe_int pa_nil))))
    (pss_cons (ps_for PassesOwn.never rfl (pi_range3 (by rfl) T.range (pa_cons (pe_op op_sub (pe_callB call_len_seq (by rfl) T.len PySem.boot_len (pa_cons (pe_fld (pv 0) rfl) pa_nil)) pe_int) (pa_cons (pe_un un_neg pe_int) (pa_cons (pe_un un_neg pe_int) pa_nil)))) (pg_name (i := 2) scTMany.nd rfl (.inr rfl))
      (pss_one (ps_asg (pe_callB (cr_sum rfl) (by rfl) T.sum (by decide +kernel) (pa_cons
          (pe_lc (own := [("piece", 3)]) (g := gName 3) (tt := tYes) (te := tOp (rIxL K) (tVar 1) (tOp (rI0 fun i j => .int (i + j)) (tVar 2) (tMeth A.CT "width" (spWid A) [] E0 (tVar 0) (tCons (tVar 3) tNil)))) rfl scTMany.nd (pi_list (pe_ix ix_list (pe_fld (pv 0) rfl) (pv 2) (fun _ _ => rfl))) (blkOk_by (N := ["self", "found", "at", "piece"]) (sc := defScope sTMany) (by decide +kernel)) (fun _ _ _ _ _ => pg_name (i := 3) scTMany.nd rfl (.inl rfl)) (fun _ _ _ _ _ => pts_nil)
            (fun _ _ _ _ _ => pe_ix ix_list (pv 1) (pe_op op_add (pv 2) (meth_has G1 T.clT hr (pv 0) (pa_cons (pv 3) pa_nil))) (fun _ _ => rfl))) pa_nil))
        (pg_sub (pv 1) (pv 2) set_list))))
    (pss_one (ps_ret (pe_ix ix_list (pv 1) pe_int (fun _ _ => rfl))))), ?_⟩)
  · obtain ⟨a, g, b, js, t, rfl, _⟩ := h
    rfl
  · obtain ⟨a, g, b, js, t, rfl, hT, hfull, hgl, htl, k⟩ := h
    obtain ⟨dx, L, j, sg, st, h1, h2, h3, h4, ⟨as, h5, h6⟩⟩ := id hT
    refine ⟨by show 1 ≤ sizeLine; decide, fun z1 hz1 => ?_⟩
    have s1 : Same H (upd H z1 (.lst [.int 0])) := Same.new hz1
    refine ⟨_, rfl, a, A.CT, dx, _, _, rfl, s1 _ _ h1, T.clT, T.aT _ (.tail _ (.tail _ (.head _))), tF_signs, sg, _, rfl, .inr (SqT.of (s1 _ _ h4)), z1, _, _, rfl, rfl, upd_same, by omega, by rw [nv_length]; omega, by rw [nv_length, sizeLine_eq]; simp; omega, fun z2 hz2 => ?_⟩
    rw [nv_length, show ((t.length : Nat) : Int).toNat = t.length by omega, flat_zero]
    have s2 := s1.more (o := .lst (nv (List.replicate t.length 0))) hz2
    refine ⟨by show 1 ≤ sizeLine; decide, fun z3 hz3 => ?_⟩
    have s3 := s2.more (o := .lst [.int 1]) hz3
    refine ⟨z2, z3, nv (List.replicate t.length 0), [.int 1], rfl, rfl, ?_, upd_same, ?_, fun D hD => ?_⟩
    · rw [upd_ne (ne_of_none upd_same hz3)]
      exact upd_same
    · rw [nv_length, List.length_replicate, sizeLine_eq]
      simp only [List.length_cons, List.length_nil]
      omega
    have e1 : nv (List.replicate t.length 0) ++ [V.int 1] = nv (List.replicate t.length 0 ++ tabC g (t.drop t.length)) := by
      rw [List.drop_length]
      unfold nv
      rw [List.map_append]
      rfl
    rw [e1]
    generalize upd (upd (upd H z1 (.lst [.int 0])) z2 (.lst (nv (List.replicate t.length 0)))) z3 (.lst [.int 1]) = H3 at s3 hD ⊢
    have f0 : Off H3 (upd H3 D (.lst (nv (List.replicate t.length 0 ++ tabC g (t.drop t.length))))) D _ := Off.new hD
    have sH0 := s3.trans f0.same
    refine ⟨_, rfl, a, A.CT, dx, _, _, rfl, sH0 _ _ h1, T.clT, T.aT _ (.tail _ (.tail _ (.head _))), tF_signs, sg, _, rfl, .inr (SqT.of (sH0 _ _ h4)), _, _, rfl, rfl, ?_⟩
    refine ⟨1, rfl, 1, rfl, _, _, _, _, rfl, RgC.neg (by omega) (by rw [nv_length]; omega) (by decide) (by decide), ?_⟩
    rw [nv_length, show (((t.length : Nat) : Int) - 1 - -1).toNat = t.length by omega]
    refine for_rangeC (fun i σ H' => ∃ (v2 v3 : Option V) (Hx : Hp), σ = [some (.ref a), some (.ref D), v2, v3] ∧ Off Hx H' D (.lst (nv (List.replicate (t.length - i) 0 ++ tabC g (t.drop (t.length - i))))) ∧ Same H3 Hx) ⟨none, none, H3, rfl, f0, Same.refl _⟩ ?_ ?_
    · rintro i σ H' hi ⟨v2, v3, Hx, rfl, f, sx⟩
      obtain ⟨k0, hk0⟩ : ∃ k0, t.length - i = k0 + 1 := ⟨t.length - i - 1, by omega⟩
      have hkn : k0 < t.length := by omega
      rw [hk0] at f
      have ei : ((t.length : Nat) : Int) - 1 + (i : Int) * -1 = (k0 : Int) := by omega
      rw [ei]
      have hdrop : t.drop k0 = t[k0] :: t.drop (k0 + 1) := List.drop_eq_getElem_cons hkn
      have sH := s3.trans (sx.trans f.same)
      obtain ⟨q, hq, hq2⟩ := prd_at h6 (show (List.range t.length)[k0]? = some k0 from List.getElem?_range hkn)
      refine ⟨_, rfl, a, A.CT, dx, _, _, rfl, sH _ _ h1, T.clT, T.aT _ (.tail _ (.tail _ (.tail _ (.head _)))), tF_starting, _, rfl, st, _, _, _, rfl, rfl, SqL.of (sH _ _ h5), atI_nat (refs_at hq), q, rfl, ⟨_, SqL.of (sH _ _ hq2)⟩, fun C hC => ?_⟩
      refine lc_list (K := K) (a := q) (xs := pvs (starts g (t.drop k0))) (fun i' H2 => ∃ Hy, Off Hy H2 C (.lst (nv (((starts g (t.drop k0)).take i').map fun p => (tabC g (t.drop (k0 + 1))).getD (wid g p - 1) 0))) ∧ Same H' Hy)
        ⟨H', Off.new hC, Same.refl _⟩ (fun i' H2 _ ⟨Hy, fy, sy⟩ => SqL.of ((sH.trans (sy.trans fy.same)) _ _ hq2)) ?_ ?_
      · rintro i' x H2 hx ⟨Hy, fy, sy⟩
        obtain ⟨p, hp, rfl⟩ := pvs_get hx
        have hpm := List.mem_of_getElem? hp
        have hok := starts_ok hpm
        have sH2 := sy.trans fy.same
        have hw1 := wid_pos hfull hok
        have hw2 : wid g p ≤ (t.drop (k0 + 1)).length + 1 := by
          rw [hdrop] at hpm
          exact wid_le hpm
        refine ⟨rfl, tyes ⟨_, rfl, _, rfl, _, rfl, a, dx, _, rfl, (sH.trans sH2) _ _ h1, tF_no_width, _, rfl, a, g, b, js, t, p, rfl, hT.same (sH.trans sH2), hok, _, _, rfl, rfl, D, _, _, _, rfl, rfl, SqL.of (sH2 _ _ f.at), rep_at k0 (wid g p) _ hw1 (by rw [tabC_len]; omega), _, fy.at, ?_, Hy, ?_, sy⟩⟩
        · have h7 := starts_len g (t.drop k0)
          have h8 := (List.getElem?_eq_some_iff.mp hp).1
          rw [nv_length, List.length_map, List.length_take, sizeLine_eq]
          omega
        · rw [take_more hp, List.map_append, List.map_cons, List.map_nil, nv_snoc]
          exact fy.put _
      · rintro H2 ⟨Hy, fy, sy⟩
        rw [pvs_len, List.take_length] at fy
        have sH2 := sy.trans fy.same
        have f2 : ∃ Hz, Off Hz H2 D (.lst (nv (List.replicate (k0 + 1) 0 ++ tabC g (t.drop (k0 + 1))))) ∧ Same Hx Hz := f.call sH2
        obtain ⟨Hz, f2, sz⟩ := f2
        refine ⟨C, ((starts g (t.drop k0)).map fun p => (tabC g (t.drop (k0 + 1))).getD (wid g p - 1) 0).map fun (n : Nat) => (n : Int), rfl, ?_, ?_⟩
        · rw [nv_ints]
          exact SqL.of fy.at
        · rw [sum_nat]
          refine ⟨_, rfl, _, rfl, D, _, _, k0, rfl, rfl, f2.at, ixN_nat (by rw [nv_length, List.length_append, List.length_replicate]; omega), some (.int (k0 : Int)), v3, Hz, rfl, ?_, sx.trans sz⟩
          rw [rep_set, show t.length - (i + 1) = k0 by omega, hdrop]
          exact f2.put _
    · rintro σ H' ⟨v2, v3, Hx, rfl, f, sx⟩
      rw [Nat.sub_self] at f
      have hne : (tabC g t)[0]? = some ((tabC g t).headD 0) := by
        have := tabC_len g t
        cases e : tabC g t with
        | nil => rw [e] at this; simp at this
        | cons c l => rfl
      refine ⟨_, rfl, D, _, 0, _, rfl, rfl, SqL.of f.at, (show atI _ ((0 : Nat) : Int) = _ from atI_nat (nv_at ?_)), k _ (s3.trans (sx.trans f.same))⟩
      rw [List.drop_zero]
      exact hne
end
end Sb
end
section
/-! Walks 15: Text.ways -/
namespace Sb
open PySem PySem.Spec PyProof.Rows L2
/-- the heap without some objects -/
def hide (qs : List Addr) (H : Hp) : Hp := fun b => if b ∈ qs then none else H b
section
variable {qs qs' : List Addr} {H H' H0 : Hp} {b q : Addr} {o v : HO}
theorem hide_none (h : b ∈ qs) : hide qs H b = none := if_pos h
theorem hide_at (h : b ∉ qs) : hide qs H b = H b := if_neg h
theorem hide_some (h : hide qs H b = some v) : b ∉ qs ∧ H b = some v := by
  by_cases m : b ∈ qs
  · rw [hide_none m] at h
    cases h
  · rw [hide_at m] at h
    exact ⟨m, h⟩
theorem hide_up : Same (hide qs H) H := fun _ _ e => (hide_some e).2
theorem hide_same (s : Same H H') : Same (hide qs H) (hide qs H') := fun b v e => by
  obtain ⟨h1, h2⟩ := hide_some e
  rw [hide_at h1]
  exact s _ _ h2
theorem hide_upd (h : q ∈ qs) : hide qs (upd H q o) = hide qs H := by
  funext b
  by_cases m : b ∈ qs
  · rw [hide_none m, hide_none m]
  · rw [hide_at m, hide_at m, upd_ne fun z => m (by rw [z]; exact h)]
theorem hide_less (h : ∀ x ∈ qs', x ∈ qs) : Same (hide qs H) (hide qs' H) := fun b v e => by
  obtain ⟨h1, h2⟩ := hide_some e
  rw [hide_at fun z => h1 (h _ z)]
  exact h2
theorem same_hide (s : Same H0 H) (n : ∀ x ∈ qs, H0 x = none) : Same H0 (hide qs H) := fun b v e => by
  rw [hide_at fun z => by
    rw [n b z] at e
    cases e]
  exact s _ _ e
end
/-- at a a way -/
def WayAt (H : Hp) (a : Addr) (wy : Wy) : Prop := ∃ ts, H a = some (.lst (refs ts)) ∧ Paired (fun t (x : Nat × Pc) => H t = some (.tup [.int (x.1 : Int), .int (pcV x.2)])) ts wy
theorem WayAt.same {H H' : Hp} {a : Addr} {wy : Wy} (h : WayAt H a wy) (s : Same H H') : WayAt H' a wy := by
  obtain ⟨ts, h1, h2⟩ := h
  exact ⟨ts, s _ _ h1, Paired.mapP h2 fun _ _ q => s _ _ q⟩
def WaysAt (H : Hp) (a : Addr) (ws : List Wy) : Prop := ∃ as, H a = some (.lst (refs as)) ∧ Paired (WayAt H) as ws
theorem WaysAt.same {H H' : Hp} {a : Addr} {ws : List Wy} (h : WaysAt H a ws) (s : Same H H') : WaysAt H' a ws := by
  obtain ⟨as, h1, h2⟩ := h
  exact ⟨as, s _ _ h1, Paired.mapP h2 fun _ _ q => q.same s⟩
section
variable {P : Program} {w : World} {K : PySem.W.Frag} {mg : Str → Option Value} {base : Heap} {A : Ads}
abbrev sTWays : Stmt := inClass (top 46) 4
def spTWays (A : Ads) : Sp := fun vs H Q _ => ∃ (a : Addr) (g : List SyLex.Word) (b : Nat) (js : List SyWays.Join) (t : List Nat), vs = [.ref a] ∧ TextAt A H a g b js t ∧ Full g ∧ g.length ≤ 1000 ∧ t.length ≤ 1000 ∧ (tabC g t).headD 0 ≤ 1024 ∧
  ∀ H' p, Same H H' → WaysAt H' p ((tabW g 0 t).headD []) → Q (.ref p) H'
theorem scTWays : FnScope ["self", "found", "at", "piece", "sign", "rest"] ["self"] (defScope sTWays) := ⟨rfl, rfl, rfl, by decide +kernel, rfl, by decide +kernel, by decide +kernel⟩
theorem ok_tWays (T : Txt K mg A) (G1 : MHas P w K mg base CX0 A.CT "width" 1 ["self", "piece"] (spWid A)) {f : Addr} {fd : FuncData} (F : Fun K "ways" "Text.ways" sTWays f fd) : FnOk P w K mg base CX0 2 f fd ["self"] (spTWays A) := by
  refine F.ok scTWays (fun vs H Q E h => ?_) (fun cdv A' outer s H vs Q E hr h => ⟨_, pss_cons (ps_set (i := 1) scTWays.nd rfl (.inl rfl) (pe_op op_cat
      (pe_lc (own := [("sign", 4)]) (g := gName 4) (tt := tYes) (te := tLst tNil) rfl scTWays.nd (pi_tup (pe_fld (pv 0) rfl)) (blkOk_by (N := ["self", "found", "at", "piece", "sign", "rest"]) (sc := defScope sTWays) (by decide +kernel)) (fun _ _ _ _ _ => pg_name (i := 4) scTWays.nd rfl (.inl rfl)) (fun _ _ _ _ _ => pts_nil)
        (fun _ _ _ _ _ => pe_lst pa_nil))
      (pe_lst (pa_cons (pe_lst (pa_cons (pe_lst pa_nil) pa_nil)) pa_nil))))
    (pss_cons (ps_for PassesOwn.never rfl (pi_range3 (by rfl) T.range (pa_cons (pe_op op_sub (pe_callB call_len_seq (by rfl) T.len PySem.boot_len (pa_cons (pe_fld (pv 0) rfl) pa_nil)) pe_int) (pa_cons (pe_un un_neg pe_int) (pa_cons (pe_un un_neg pe_int) pa_nil)))) (pg_name (i := 2) scTWays.nd rfl (.inr rfl))
      (pss_one (ps_for PassesOwn.never rfl (pi_list (pe_ix ix_list (pe_fld (pv 0) rfl) (pv 2) (fun _ _ => rfl))) (pg_name (i := 3) scTWays.nd rfl (.inr rfl))
        (pss_one (ps_expr (pe_bm PySem.F.plainAttrs_list PySem.F.slot_list_extend PySem.F.type_list_extend mt_extend (pe_ix ix_list (pv 1) (pv 2) (fun _ _ => rfl)) (pa_cons
          (pe_lc (own := [("rest", 5)]) (g := gName 5) (tt := tYes) (te := tOp rCat (tLst (tCons (tTup (tCons (tVar 2) (tCons (tVar 3) tNil))) tNil)) (tVar 5)) rfl scTWays.nd
            (pi_list (pe_ix ix_list (pv 1) (pe_op op_add (pv 2) (meth_has G1 T.clT hr (pv 0) (pa_cons (pv 3) pa_nil))) (fun _ _ => rfl))) (blkOk_by (N := ["self", "found", "at", "piece", "sign", "rest"]) (sc := defScope sTWays) (by decide +kernel)) (fun _ _ _ _ _ => pg_name (i := 5) scTWays.nd rfl (.inl rfl)) (fun _ _ _ _ _ => pts_nil)
            (fun _ _ _ _ _ => pe_op op_cat (pe_lst (pa_cons (pe_tup (pa_cons (pv 2) (pa_cons (pv 3) pa_nil))) pa_nil)) (pv 5))) pa_nil)))))))
    (pss_one (ps_ret (pe_ix ix_list (pv 1) pe_int (fun _ _ => rfl))))), ?_⟩)
  · obtain ⟨a, g, b, js, t, rfl, _⟩ := h
    rfl
  · obtain ⟨a, g, b, js, t, rfl, hT, hfull, hgl, htl, hcount, k⟩ := h
    obtain ⟨dx, L, j, sg, st, h1, h2, h3, h4, ⟨ps, h5, h6⟩⟩ := id hT
    refine ⟨_, rfl, a, A.CT, dx, _, _, rfl, h1, T.clT, T.aT _ (.tail _ (.tail _ (.head _))), tF_signs, sg, rfl, ⟨_, SqT.of h4⟩, fun Z hZ => ?_⟩
    refine lc_tup (K := K) (a := sg) (xs := nv t) (fun i H' => ∃ Hx as, Off Hx H' Z (.lst (refs as)) ∧ Same H Hx ∧ (∀ q ∈ as, H q = none ∧ Hx q = some (.lst [])) ∧ as.Nodup ∧ as.length = i) ⟨H, [], Off.new hZ, Same.refl _, fun q hq => (by cases hq), List.nodup_nil, rfl⟩
      (fun i H' _ ⟨Hx, as, f, sx, _⟩ => SqT.of ((sx.trans f.same) _ _ h4)) ?_ ?_
    · rintro i x H' hi ⟨Hx, as, f, sx, hq, hnd, hlen⟩
      refine ⟨rfl, tyes ⟨Nat.zero_le _, fun p hp => ?_⟩⟩
      have f1 := f.add hp (.lst [])
      have hpx := f.free_of hp
      have hi' := (List.getElem?_eq_some_iff.mp hi).1
      rw [nv_length] at hi'
      refine ⟨_, f1.at, ?_, upd Hx p (.lst []), as ++ [p], ?_, sx.at (sx.free hpx), ?_, ?_, by rw [List.length_append, List.length_singleton, hlen]⟩
      · rw [refs_len, hlen, sizeLine_eq]
        omega
      · have := f1.put (.lst (refs (as ++ [p])))
        rw [refs_snoc] at this ⊢
        exact this
      · intro q hq'
        rcases List.mem_append.mp hq' with hq' | hq'
        · obtain ⟨z1, z2⟩ := hq q hq'
          exact ⟨z1, (Same.new hpx) _ _ z2⟩
        · rw [List.mem_singleton.mp hq']
          exact ⟨sx.free hpx, upd_same⟩
      · rw [List.nodup_append]
        refine ⟨hnd, by simp, fun x hx y hy z => ?_⟩
        rw [List.mem_singleton.mp hy] at z
        rw [z] at hx
        rw [(hq p hx).2] at hpx
        cases hpx
    · rintro H1 ⟨Hx, as, f, sx, hq, hnd, hlen⟩
      rw [nv_length] at hlen
      refine ⟨Nat.zero_le _, fun w0 hw0 => ⟨by show 1 ≤ sizeLine; decide, fun u0 hu0 => ⟨by show 1 ≤ sizeLine; decide, fun o0 ho0 => ?_⟩⟩⟩
      have f1 := f.add hw0 (.lst [])
      have f2 := f1.add hu0 (.lst [.ref w0])
      have f3 := f2.add ho0 (.lst [.ref u0])
      refine ⟨Z, o0, refs as, [.ref u0], rfl, rfl, f3.at, upd_same, ?_, fun D hD => ?_⟩
      · rw [refs_len, hlen, sizeLine_eq]
        simp only [List.length_cons, List.length_nil]
        omega
      have hH4 : ∀ b v, H1 b = some v → upd (upd (upd (upd H1 w0 (.lst [])) u0 (.lst [.ref w0])) o0 (.lst [.ref u0])) D (.lst (refs as ++ [.ref u0])) b = some v := ((((Same.new hw0).more hu0).more ho0).more hD)
      have hwU : upd (upd (upd (upd H1 w0 (.lst [])) u0 (.lst [.ref w0])) o0 (.lst [.ref u0])) D (.lst (refs as ++ [.ref u0])) w0 = some (.lst []) := (((Same.new hu0).more ho0).more hD) _ _ upd_same
      have huU : upd (upd (upd (upd H1 w0 (.lst [])) u0 (.lst [.ref w0])) o0 (.lst [.ref u0])) D (.lst (refs as ++ [.ref u0])) u0 = some (.lst [.ref w0]) := ((Same.new ho0).more hD) _ _ upd_same
      have hDD : upd (upd (upd (upd H1 w0 (.lst [])) u0 (.lst [.ref w0])) o0 (.lst [.ref u0])) D (.lst (refs as ++ [.ref u0])) D = some (.lst (refs (as ++ [u0]))) := by
        rw [upd_same, refs_snoc]
      have in1 : ∀ q ∈ as, H1 q = some (.lst []) := fun q hq' => f.same _ _ (hq q hq').2
      have nw : w0 ∉ as := fun m => by
        rw [in1 _ m] at hw0
        cases hw0
      have nu : u0 ∉ as := fun m => by
        rw [(Same.new hw0) _ _ (in1 _ m)] at hu0
        cases hu0
      have nD : D ∉ as := fun m => by
        rw [(((Same.new hw0).more hu0).more ho0) _ _ (in1 _ m)] at hD
        cases hD
      generalize upd (upd (upd (upd H1 w0 (.lst [])) u0 (.lst [.ref w0])) o0 (.lst [.ref u0])) D (.lst (refs as ++ [.ref u0])) = H4 at hH4 hwU huU hDD ⊢
      have sH4 : Same H H4 := (sx.trans f.same).trans hH4
      obtain ⟨bs, ebs⟩ : ∃ bs, bs = as ++ [u0] := ⟨_, rfl⟩
      have hbl : bs.length = t.length + 1 := by rw [ebs, List.length_append, List.length_singleton, hlen]
      have hbn : bs.Nodup := by
        rw [ebs, List.nodup_append]
        exact ⟨hnd, by simp, fun x hx y hy z => by
          rw [List.mem_singleton.mp hy] at z
          rw [z] at hx
          exact nu hx⟩
      have tk : bs.take t.length = as := by
        rw [ebs, ← hlen, List.take_left']
        rfl
      have dr : bs.drop t.length = [u0] := by
        rw [ebs, ← hlen, List.drop_left']
        rfl
      rw [← ebs] at hDD
      have inv0 : Same H (hide (bs.take t.length) H4) ∧ hide (bs.take t.length) H4 D = some (.lst (refs bs)) ∧ (∀ q ∈ bs.take t.length, H4 q = some (.lst [])) ∧ Paired (WaysAt (hide (bs.take t.length) H4)) (bs.drop t.length) (tabW g t.length (t.drop t.length)) := by
        rw [tk, dr, List.drop_length]
        refine ⟨same_hide sH4 fun q hq' => (hq q hq').1, (hide_at nD).trans hDD, fun q hq' => hH4 _ _ (in1 q hq'), .cons ⟨[w0], (hide_at nu).trans huU, .cons ⟨[], (hide_at nw).trans hwU, .nil⟩ .nil⟩ .nil⟩
      have s0 : Same H H4 := sH4
      refine ⟨_, rfl, a, A.CT, dx, _, _, rfl, s0 _ _ h1, T.clT, T.aT _ (.tail _ (.tail _ (.head _))), tF_signs, sg, _, rfl, .inr (SqT.of (s0 _ _ h4)), _, _, rfl, rfl, ?_⟩
      refine ⟨1, rfl, 1, rfl, _, _, _, _, rfl, RgC.neg (by omega) (by rw [nv_length]; omega) (by decide) (by decide), ?_⟩
      rw [nv_length, show (((t.length : Nat) : Int) - 1 - -1).toNat = t.length by omega]
      refine for_rangeC (fun i σ H' => ∃ (v2 v3 : Option V) (k : Nat), σ = [some (.ref a), some (.ref D), v2, v3, none, none] ∧ k + i = t.length ∧ Same H (hide (bs.take k) H') ∧ hide (bs.take k) H' D = some (.lst (refs bs)) ∧ (∀ q ∈ bs.take k, H' q = some (.lst [])) ∧ Paired (WaysAt (hide (bs.take k) H')) (bs.drop k) (tabW g k (t.drop k)))
        ⟨none, none, t.length, rfl, rfl, inv0⟩ ?_ ?_
      · rintro i σ H' hi ⟨v2, v3, kk, rfl, hk, i1, i2, i3, i4⟩
        obtain ⟨k0, rfl⟩ : ∃ k0, kk = k0 + 1 := ⟨kk - 1, by omega⟩
        have hkn : k0 < t.length := by omega
        have ei : ((t.length : Nat) : Int) - 1 + (i : Int) * -1 = (k0 : Int) := by omega
        rw [ei]
        have hdrop : t.drop k0 = t[k0] :: t.drop (k0 + 1) := List.drop_eq_getElem_cons hkn
        have hkb : k0 < bs.length := by omega
        have sH := i1.trans hide_up
        obtain ⟨pq, hpq, hpq2⟩ := prd_at h6 (show (List.range t.length)[k0]? = some k0 from List.getElem?_range hkn)
        have tke : bs.take (k0 + 1) = bs.take k0 ++ [bs[k0]] := take_more (List.getElem?_eq_getElem hkb)
        have hqm : bs[k0] ∈ bs.take (k0 + 1) := by
          rw [tke]
          exact List.mem_append_right _ (List.mem_singleton.mpr rfl)
        have hqn : bs[k0] ∉ bs.take k0 := by
          have hn : (bs.take k0 ++ bs.drop k0).Nodup := by
            rw [List.take_append_drop]
            exact hbn
          have hm : bs[k0] ∈ bs.drop k0 := by
            rw [List.drop_eq_getElem_cons hkb]
            exact List.mem_cons_self
          exact fun m => (List.nodup_append.mp hn).2.2 _ m _ hm rfl
        have hsub : ∀ x ∈ bs.take k0, x ∈ bs.take (k0 + 1) := fun x hx => by
          rw [tke]
          exact List.mem_append_left _ hx
        refine ⟨_, rfl, a, A.CT, dx, _, _, rfl, sH _ _ h1, T.clT, T.aT _ (.tail _ (.tail _ (.tail _ (.head _)))), tF_starting, _, rfl, st, _, _, _, rfl, rfl, SqL.of (sH _ _ h5), atI_nat (refs_at hpq), pq, rfl, ⟨_, SqL.of (sH _ _ hpq2)⟩, ?_⟩
        refine for_list (K := K) (a := pq) (xs := pvs (starts g (t.drop k0))) (fun i' σ H2 => ∃ (v3 : Option V) (ws : List Addr), σ = [some (.ref a), some (.ref D), some (.int (k0 : Int)), v3, none, none] ∧ Same H (hide (bs.take (k0 + 1)) H2) ∧ hide (bs.take (k0 + 1)) H2 D = some (.lst (refs bs)) ∧ (∀ q ∈ bs.take k0, H2 q = some (.lst [])) ∧
            Paired (WaysAt (hide (bs.take (k0 + 1)) H2)) (bs.drop (k0 + 1)) (tabW g (k0 + 1) (t.drop (k0 + 1))) ∧ H2 bs[k0] = some (.lst (refs ws)) ∧
            Paired (WayAt (hide (bs.take (k0 + 1)) H2)) ws (((starts g (t.drop k0)).take i').flatMap fun p => ((tabW g (k0 + 1) (t.drop (k0 + 1))).getD (wid g p - 1) []).map fun w => (k0, p) :: w))
          ⟨v3, [], rfl, i1, i2, fun q hq' => i3 q (hsub q hq'), i4, i3 _ hqm, .nil⟩ (fun i' σ H2 _ ⟨_, _, _, s, _⟩ => SqL.of ((s.trans hide_up) _ _ hpq2)) ?_ ?_
        · rintro i' x σ H2 hx ⟨v3, ws, rfl, j1, j2, j3, j4, j5, j6⟩
          obtain ⟨p, hp, rfl⟩ := pvs_get hx
          have hpm := List.mem_of_getElem? hp
          have hok := starts_ok hpm
          have hw1 := wid_pos hfull hok
          have hw2 : wid g p ≤ (t.drop (k0 + 1)).length + 1 := by
            rw [hdrop] at hpm
            exact wid_le hpm
          have sH2 := j1.trans hide_up
          have hD2 := hide_up _ _ j2
          obtain ⟨lw, hlw⟩ : ∃ lw, (tabW g (k0 + 1) (t.drop (k0 + 1)))[wid g p - 1]? = some lw := ⟨_, List.getElem?_eq_getElem (by rw [tabW_len]; omega)⟩
          have hlwD : (tabW g (k0 + 1) (t.drop (k0 + 1))).getD (wid g p - 1) [] = lw := by
            rw [List.getD_eq_getElem?_getD, hlw]
            rfl
          have hfew : lw.length ≤ 1024 := tabW_few hfull hcount (by omega) hlw
          have hshort : ∀ w' ∈ lw, w'.length ≤ 1000 := fun w' hw' => by
            have := tabW_short g (k0 + 1) (t.drop (k0 + 1)) lw (List.mem_of_getElem? hlw) w' hw'
            rw [List.length_drop] at this
            omega
          obtain ⟨r, hr, rws, hr1, hr2⟩ := prd_at j4 hlw
          rw [List.getElem?_drop, show k0 + 1 + (wid g p - 1) = k0 + wid g p by omega] at hr
          have hat : atI (refs bs) ((k0 : Int) + (wid g p : Int)) = some (.ref r) := by
            rw [show (k0 : Int) + (wid g p : Int) = ((k0 + wid g p : Nat) : Int) by omega]
            exact atI_nat (refs_at hr)
          have hseen : ∀ x ∈ bs.take (k0 + 1), ∃ v, H2 x = some v := fun x hx => by
            rw [tke] at hx
            rcases List.mem_append.mp hx with hx | hx
            · exact ⟨_, j3 x hx⟩
            · rw [List.mem_singleton.mp hx]
              exact ⟨_, j5⟩
          refine ⟨_, rfl, _, rfl, D, _, _, _, rfl, rfl, SqL.of hD2, atI_nat (refs_at (List.getElem?_eq_getElem hkb)), .inl ⟨rfl, _, SqL.of j5⟩, ?_⟩
          refine ⟨_, rfl, _, rfl, _, rfl, a, dx, _, rfl, sH2 _ _ h1, tF_no_width, _, rfl, a, g, b, js, t, p, rfl, hT.same sH2, hok, _, _, rfl, rfl, D, _, _, _, rfl, rfl, SqL.of hD2, hat, r, rfl, ⟨_, SqL.of (hide_up _ _ hr1)⟩, fun C hC => ?_⟩
          refine lc_list (K := K) (a := r) (xs := refs rws) (fun m H3 => ∃ Hy ws', Off Hy H3 C (.lst (refs ws')) ∧ Same H2 Hy ∧ Paired (WayAt (hide (bs.take (k0 + 1)) Hy)) ws' ((lw.take m).map fun w => (k0, p) :: w)) ⟨H2, [], Off.new hC, Same.refl _, .nil⟩
            (fun m H3 _ ⟨Hy, ws', fy, sy, _⟩ => SqL.of ((sy.trans fy.same) _ _ (hide_up _ _ hr1))) ?_ ?_
          · rintro m x H3 hm ⟨Hy, ws', fy, sy, hP⟩
            obtain ⟨e, he, rfl⟩ := refs_get hm
            have hml : m < lw.length := by
              rw [← Paired.length hr2]
              exact (List.getElem?_eq_some_iff.mp he).1
            obtain ⟨e', he', ts, q1, q2⟩ := prd_at hr2 (List.getElem?_eq_getElem hml)
            rw [he] at he'
            cases he'
            have htsl : ts.length ≤ 1000 := by
              rw [Paired.length q2]
              exact hshort _ (List.getElem_mem hml)
            have sy3 := sy.trans fy.same
            refine ⟨rfl, tyes ⟨_, rfl, _, rfl, by show 2 ≤ sizeLine; decide, fun T0 hT0 => ⟨by show 1 ≤ sizeLine; decide, fun z hz => ?_⟩⟩⟩
            have f1 := fy.add hT0 (.tup [.int (k0 : Int), .int (pcV p)])
            have f2 := f1.add hz (.lst [.ref T0])
            have sT := (Same.new (o := .tup [.int (k0 : Int), .int (pcV p)]) hT0).more (o := .lst [.ref T0]) hz
            have hrest := sT _ _ (sy3 _ _ (hide_up _ _ q1))
            refine ⟨_, rfl, z, e, [.ref T0], refs ts, rfl, rfl, upd_same, hrest, by rw [refs_len, sizeLine_eq]; simp only [List.length_cons, List.length_nil]; omega, fun y hy => ?_⟩
            have f3 := f2.add hy (.lst (refs (T0 :: ts)))
            have ws'l : ws'.length = m := by
              rw [Paired.length hP, List.length_map, List.length_take]
              omega
            have nT : T0 ∉ bs.take (k0 + 1) := fun mm => by
              obtain ⟨v, hv⟩ := hseen _ mm
              rw [sy3 _ _ hv] at hT0
              cases hT0
            have ny : y ∉ bs.take (k0 + 1) := fun mm => by
              obtain ⟨v, hv⟩ := hseen _ mm
              rw [sT _ _ (sy3 _ _ hv)] at hy
              cases hy
            have sy4 : Same Hy (upd (upd (upd Hy T0 (.tup [.int (k0 : Int), .int (pcV p)])) z (.lst [.ref T0])) y (.lst (refs (T0 :: ts)))) := ((Same.new (fy.free_of hT0)).more (f1.free_of hz)).more (f2.free_of hy)
            refine ⟨_, f3.at, by rw [refs_len, ws'l, sizeLine_eq]; omega, _, ws' ++ [y], ?_, sy.trans sy4, ?_⟩
            · have := f3.put (.lst (refs (ws' ++ [y])))
              rw [refs_snoc] at this ⊢
              exact this
            · rw [take_more (List.getElem?_eq_getElem hml), List.map_append]
              refine prd_snoc (Paired.mapP hP fun _ _ q => q.same (hide_same sy4)) ⟨T0 :: ts, (hide_at ny).trans upd_same, .cons ?_ (Paired.mapP q2 fun _ _ q => (hide_same (sy.trans sy4)) _ _ q)⟩
              exact (hide_at nT).trans (((Same.new (f1.free_of hz)).more (f2.free_of hy)) _ _ upd_same)
          · rintro H3 ⟨Hy, ws', fy, sy, hP⟩
            have hl2 : (refs rws).length = lw.length := by
              rw [refs_len]
              exact Paired.length hr2
            rw [hl2, List.take_length] at hP
            have s23 := sy.trans fy.same
            have hP3 : Paired (WayAt (hide (bs.take (k0 + 1)) H3)) ws' (lw.map fun w => (k0, p) :: w) := Paired.mapP hP fun _ _ q => q.same (hide_same fy.same)
            have hq3 := s23 _ _ j5
            refine ⟨bs[k0], C, refs ws, refs ws', rfl, rfl, hq3, fy.at, ?_, some (.int (pcV p)), ws ++ ws', rfl, ?_⟩
            · have hfull0 : (tabW g k0 (t.drop k0))[0]? = some ((starts g (t.drop k0)).flatMap fun p => ((tabW g (k0 + 1) (t.drop (k0 + 1))).getD (wid g p - 1) []).map fun w => (k0, p) :: w) := by
                rw [hdrop]
                rfl
              have h7 := tabW_few hfull hcount (by omega) hfull0
              have h8 : ws.length ≤ 1024 := by
                rw [Paired.length j6]
                refine Nat.le_trans ?_ h7
                conv => rhs; rw [← List.take_append_drop i' (starts g (t.drop k0)), List.flatMap_append, List.length_append]
                exact Nat.le_add_right _ _
              have h9 := Paired.length hP
              rw [List.length_map] at h9
              rw [refs_len, refs_len, sizeLine_eq]
              omega
            · have sq : Same H2 H3 := s23
              have hx3 : hide (bs.take (k0 + 1)) (upd H3 bs[k0] (.lst (refs ws ++ refs ws'))) = hide (bs.take (k0 + 1)) H3 := hide_upd hqm
              refine ⟨?_, ?_, fun x hx => ?_, ?_, ?_, ?_⟩
              · rw [hx3]
                exact j1.trans (hide_same sq)
              · rw [hx3]
                exact (hide_same sq) _ _ j2
              · rw [upd_ne fun z => hqn (by rw [← z]; exact hx)]
                exact sq _ _ (j3 x hx)
              · rw [hx3]
                exact Paired.mapP j4 fun _ _ z => z.same (hide_same sq)
              · rw [upd_same]
                unfold refs
                rw [List.map_append]
              · rw [hx3, take_more hp, List.flatMap_append]
                refine prd_append (Paired.mapP j6 fun _ _ z => z.same (hide_same sq)) ?_
                simp only [List.flatMap_cons, List.flatMap_nil, List.append_nil]
                rw [hlwD]
                exact hP3
        · rintro σ H2 ⟨v3, ws, rfl, j1, j2, j3, j4, j5, j6⟩
          rw [pvs_len, List.take_length] at j6
          refine ⟨_, v3, k0, rfl, by omega, j1.trans (hide_less hsub), (hide_less hsub) _ _ j2, j3, ?_⟩
          rw [List.drop_eq_getElem_cons hkb, hdrop]
          refine .cons ⟨ws, (hide_at hqn).trans j5, ?_⟩ (Paired.mapP j4 fun _ _ z => z.same (hide_less hsub))
          rw [← hdrop]
          exact Paired.mapP j6 fun _ _ z => z.same (hide_less hsub)
      · rintro σ H' ⟨v2, v3, kk, rfl, hk, i1, i2, i3, i4⟩
        obtain rfl : kk = 0 := by omega
        have e0 : hide (bs.take 0) H' = H' := by
          funext b
          exact hide_at (by simp)
        rw [e0] at i1 i2 i4
        rw [List.drop_zero, List.drop_zero] at i4
        cases hbs : bs with
        | nil => rw [hbs] at hbl; simp at hbl
        | cons b0 br =>
          rw [hbs] at i4 i2
          cases htw : tabW g 0 t with
          | nil =>
            have := tabW_len g 0 t
            rw [htw] at this
            simp at this
          | cons lw lr =>
            rw [htw] at i4 k
            cases i4 with
            | cons r0 _ => exact ⟨_, rfl, D, _, 0, _, rfl, rfl, SqL.of i2, (show atI _ ((0 : Nat) : Int) = _ from atI_nat rfl), k _ b0 i1 r0⟩
end
end Sb
end
section
/-! Walks 16: Text: total, piece_rank, rank -/
namespace Sb
open PySem PySem.Spec PyProof.Rows L2
/-- what a way costs, from a right sort on -/
def totalM (g : List SyLex.Word) (b : Nat) (js : List SyWays.Join) : Nat → Wy → Nat
  | x, [] => joinCost js x 0
  | x, (_, p) :: w => joinCost js x (leftP g p) + costP g b p + totalM g b js (rightP g p) w
def okWy (g : List SyLex.Word) (t : List Nat) (wy : Wy) : Prop := ∀ x ∈ wy, okPc g x.2 ∧ x.1 < t.length
def rkD (g : List SyLex.Word) (p : Pc) : PyData := .tuple [.int (-(wid g p : Int)), .int (if p = none then 1 else 0), .int (pcV p)]
def wyD (g : List SyLex.Word) (b : Nat) (js : List SyWays.Join) (wy : Wy) : PyData := .tuple [.int ((totalM g b js 0 wy : Nat) : Int), .list (wy.map fun x => rkD g x.2)]
section
variable {P : Program} {w : World} {K : PySem.W.Frag} {mg : Str → Option Value} {base : Heap} {A : Ads}
abbrev sTotal : Stmt := inClass (top 46) 7
def spTotal (A : Ads) : Sp := fun vs H Q _ => ∃ (a q : Addr) (g : List SyLex.Word) (b : Nat) (js : List SyWays.Join) (t : List Nat) (wy : Wy), vs = [.ref a, .ref q] ∧ TextAt A H a g b js t ∧ WayAt H q wy ∧ okWy g t wy ∧ ∀ H', Same H H' → Q (.int ((totalM g b js 0 wy : Nat) : Int)) H'
theorem scTotal : FnScope ["self", "way", "found", "right", "at", "piece", "left", "behind"] ["self", "way"] (defScope sTotal) := ⟨rfl, rfl, rfl, by decide +kernel, rfl, by decide +kernel, by decide +kernel⟩
theorem ok_total (T : Txt K mg A) (G1 : MHas P w K mg base CX0 A.CT "sorts_of" 1 ["self", "piece"] (spSorts A)) (G2 : MHas P w K mg base CX0 A.CT "cost_of" 1 ["self", "piece"] (spCostOf A)) (G3 : MHas P w K mg base CX0 A.CJ "join" 1 ["self", "right", "left"] (spJoin A.CJ))
    {f : Addr} {fd : FuncData} (F : Fun K "total" "Text.total" sTotal f fd) : FnOk P w K mg base CX0 2 f fd ["self", "way"] (spTotal A) := by
  refine F.ok scTotal (fun vs H Q E h => ?_) (fun cdv A' outer s H vs Q E hr h => ⟨_, pss_cons (ps_set (i := 2) scTotal.nd rfl (.inl rfl) pe_int) (pss_cons (ps_set (i := 3) scTotal.nd rfl (.inl rfl) (glob_int T.EDGE))
    (pss_cons (ps_for PassesOwn.never rfl (pi_list (pv 1)) (pg_tup rfl (pgs_cons (pg_name (i := 4) scTotal.nd rfl (.inl rfl)) (pgs_cons (pg_name (i := 5) scTotal.nd rfl (.inl rfl)) pgs_nil)))
      (pss_cons (ps_asg (meth_has G1 T.clT hr (pv 0) (pa_cons (pv 5) pa_nil)) (pg_tup rfl (pgs_cons (pg_name (i := 6) scTotal.nd rfl (.inl rfl)) (pgs_cons (pg_name (i := 7) scTotal.nd rfl (.inl rfl)) pgs_nil))))
      (pss_cons (ps_aug (i := 2) scTotal.nd rfl (.inl rfl) (pe_op op_add (meth_has G3 T.clJ hr (pe_fld (pv 0) rfl) (pa_cons (pv 3) (pa_cons (pv 6) pa_nil))) (meth_has G2 T.clT hr (pv 0) (pa_cons (pv 5) pa_nil))) ip_add)
      (pss_one (ps_set (i := 3) scTotal.nd rfl (.inl rfl) (pv 7))))))
    (pss_one (ps_ret (pe_op op_add (pv 2) (meth_has G3 T.clJ hr (pe_fld (pv 0) rfl) (pa_cons (pv 3) (pa_cons (glob_int T.EDGE) pa_nil)))))))), ?_⟩)
  · obtain ⟨a, q, g, b, js, t, wy, rfl, _⟩ := h
    rfl
  · obtain ⟨a, q, g, b, js, t, wy, rfl, hT, ⟨ts, hq, hP⟩, hok, k⟩ := h
    obtain ⟨dx, L, j, sg, st, h1, h2, h3, _⟩ := id hT
    obtain ⟨dj, dd, hj, hj2⟩ := id h3
    have jAt : ∀ {H'}, Same H H' → JoinsAt A.CJ H' j b js := fun s => h3.same s
    refine ⟨_, rfl, q, rfl, ⟨_, SqL.of hq⟩, ?_⟩
    refine for_list (K := K) (a := q) (xs := refs ts) (fun i σ H' => ∃ (v4 v5 v6 v7 : Option V) (fo ri : Nat), σ = [some (.ref a), some (.ref q), some (.int (fo : Int)), some (.int (ri : Int)), v4, v5, v6, v7] ∧ Same H H' ∧ totalM g b js 0 wy = fo + totalM g b js ri (wy.drop i))
      ⟨none, none, none, none, 0, 0, rfl, Same.refl _, by rw [List.drop_zero]; omega⟩ (fun i σ H' _ ⟨_, _, _, _, _, _, _, s, _⟩ => SqL.of (s _ _ hq)) ?_ ?_
    · rintro i x σ H' hx ⟨v4, v5, v6, v7, fo, ri, rfl, sx, ht⟩
      obtain ⟨e, he, rfl⟩ := refs_get hx
      have hil : i < wy.length := by
        rw [← Paired.length hP]
        exact (List.getElem?_eq_some_iff.mp he).1
      obtain ⟨e', he', hz⟩ := prd_at hP (List.getElem?_eq_getElem hil)
      rw [he] at he'
      cases he'
      have hop := (hok _ (List.getElem_mem hil)).1
      refine ⟨e, _, rfl, SqT.of (sx _ _ hz), rfl, _, _, rfl, _, _, rfl, rfl, ?_⟩
      refine ⟨_, rfl, a, dx, _, rfl, sx _ _ h1, tF_no_sorts_of, _, rfl, a, g, b, js, t, _, rfl, hT.same sx, hop, fun z hz2 => ?_⟩
      have s1 := sx.more (o := .tup [.int ((leftP g wy[i].2 : Nat) : Int), .int ((rightP g wy[i].2 : Nat) : Int)]) hz2
      refine ⟨z, _, rfl, SqT.of upd_same, rfl, _, _, rfl, _, _, rfl, rfl, ?_⟩
      refine ⟨_, rfl, _, rfl, a, A.CT, dx, _, _, rfl, s1 _ _ h1, T.clT, T.aT _ (.tail _ (.head _)), tF_joins, j, dj, _, rfl, s1 _ _ hj, jF_no_join, _, rfl, _, rfl, j, ri, leftP g wy[i].2, b, js, rfl, jAt s1, fun H2 s2 => ?_⟩
      have s3 := s1.trans s2
      refine ⟨_, rfl, a, dx, _, rfl, s3 _ _ h1, tF_no_cost_of, _, rfl, a, g, b, js, t, _, rfl, hT.same s3, hop, _, _, rfl, rfl, _, _, rfl, rfl, ?_⟩
      refine ⟨_, rfl, some (.int (wy[i].1 : Int)), some (.int (pcV wy[i].2)), some (.int ((leftP g wy[i].2 : Nat) : Int)), some (.int ((rightP g wy[i].2 : Nat) : Int)), fo + (joinCost js ri (leftP g wy[i].2) + costP g b wy[i].2), rightP g wy[i].2, ?_, s3, ?_⟩
      · exact rfl
      · rw [ht, List.drop_eq_getElem_cons hil]
        show fo + (joinCost js ri (leftP g wy[i].2) + costP g b wy[i].2 + totalM g b js (rightP g wy[i].2) (wy.drop (i + 1))) = _
        omega
    · rintro σ H' ⟨v4, v5, v6, v7, fo, ri, rfl, sx, ht⟩
      have hl : (refs ts).length = wy.length := by
        rw [refs_len]
        exact Paired.length hP
      rw [hl, List.drop_length] at ht
      refine ⟨_, rfl, _, rfl, a, A.CT, dx, _, _, rfl, sx _ _ h1, T.clT, T.aT _ (.tail _ (.head _)), tF_joins, j, dj, _, rfl, sx _ _ hj, jF_no_join, _, rfl, j, ri, 0, b, js, rfl, jAt sx, fun H2 s2 => ?_⟩
      refine ⟨_, _, rfl, rfl, ?_⟩
      have := k H2 (sx.trans s2)
      rw [ht] at this
      exact this
end
end Sb
end
section
/-! Walks 17: Text: piece_rank, rank, in_order -/
namespace Sb
open PySem PySem.Spec PyProof.Rows L2
theorem rkD_alike (g : List SyLex.Word) (p q : Pc) : PySem.W.alike (rkD g p) (rkD g q) = true := by simp [rkD, PySem.W.alike, PySem.W.alikeAll]
theorem rkDs_alike (g : List SyLex.Word) : ∀ v w : Wy, PySem.W.alikeAll (v.map fun x => rkD g x.2) (w.map fun x => rkD g x.2) = true
  | [], _ => by simp [PySem.W.alikeAll]
  | _ :: _, [] => by simp [PySem.W.alikeAll]
  | x :: v, y :: w => by
    have ih := rkDs_alike g v w
    rw [List.map_cons, List.map_cons]
    simp only [PySem.W.alikeAll, rkD_alike, ih, Bool.and_self]
theorem rkDs_depth (g : List SyLex.Word) : ∀ v : Wy, PyData.depthAll (v.map fun x => rkD g x.2) ≤ 2
  | [] => by
    show (0 : Nat) ≤ 2
    decide
  | x :: v => by
    have ih := rkDs_depth g v
    rw [List.map_cons]
    have e : PyData.depth (rkD g x.2) ≤ 2 := by
      unfold rkD
      simp only [PyData.depth, PyData.depthAll]
      decide
    show max (PyData.depth (rkD g x.2)) (PyData.depthAll (v.map fun x => rkD g x.2)) ≤ 2
    omega
theorem wyD_depth (g : List SyLex.Word) (b : Nat) (js : List SyWays.Join) (wy : Wy) : (wyD g b js wy).depth ≤ 16 := by
  have h := rkDs_depth g wy
  unfold wyD
  simp only [PyData.depth, PyData.depthAll]
  omega
/-- the ways in order -/
def sortedW (g : List SyLex.Word) (b : Nat) (js : List SyWays.Join) (t : List Nat) : List Wy := ((tabW g 0 t).headD []).mergeSort (PySem.W.dataLe false (wyD g b js))
section
variable {P : Program} {w : World} {K : PySem.W.Frag} {mg : Str → Option Value} {base : Heap} {A : Ads}
/-! piece_rank -/
abbrev sPRank : Stmt := inClass (top 46) 8
def rkV (g : List SyLex.Word) (p : Pc) : List V := [.int (-(wid g p : Int)), .int (if p = none then 1 else 0), .int (pcV p)]
def spPRank (A : Ads) : Sp := fun vs H Q _ => ∃ (a : Addr) (g : List SyLex.Word) (b : Nat) (js : List SyWays.Join) (t : List Nat) (p : Pc), vs = [.ref a, .int (pcV p)] ∧ TextAt A H a g b js t ∧ okPc g p ∧ ∀ q, H q = none → Q (.ref q) (upd H q (.tup (rkV g p)))
theorem scPRank : FnScope ["self", "piece"] ["self", "piece"] (defScope sPRank) := ⟨rfl, rfl, rfl, by decide +kernel, rfl, by decide +kernel, by decide +kernel⟩
theorem ok_pRank (T : Txt K mg A) (G1 : MHas P w K mg base CX0 A.CT "width" 1 ["self", "piece"] (spWid A)) {f : Addr} {fd : FuncData} (F : Fun K "piece_rank" "Text.piece_rank" sPRank f fd) : FnOk P w K mg base CX0 2 f fd ["self", "piece"] (spPRank A) := by
  refine F.ok scPRank (fun vs H Q E h => ?_) (fun cdv A' outer s H vs Q E hr h => ⟨_, pss_one (ps_ret (pe_tup (pa_cons (pe_un un_neg (meth_has G1 T.clT hr (pv 0) (pa_cons (pv 1) pa_nil)))
    (pa_cons (pe_callTy call_int1 (by rfl) T.int (by decide +kernel) (pa_cons (pe_cmp (pc_eqI (pv 1) (glob_int T.BY_ITSELF))) pa_nil)) (pa_cons (pv 1) pa_nil))))), ?_⟩)
  · obtain ⟨a, g, b, js, t, p, rfl, _⟩ := h
    rfl
  · obtain ⟨a, g, b, js, t, p, rfl, hT, hok, k⟩ := h
    obtain ⟨dx, L, j, sg, st, h1, _⟩ := id hT
    refine ⟨_, rfl, a, dx, _, rfl, h1, tF_no_width, _, rfl, a, g, b, js, t, p, rfl, hT, hok, _, rfl, _, rfl, _, _, rfl, rfl, .inr ⟨decide (pcV p = -1), rfl, _, rfl, by show 3 ≤ sizeLine; decide, fun q hq => ?_⟩⟩
    have e : (if decide (pcV p = -1) = true then (1 : Int) else 0) = if p = none then 1 else 0 := by
      by_cases c : p = none
      · rw [if_pos c, if_pos (decide_eq_true ((pcV_self p).mpr c))]
      · rw [if_neg c, if_neg fun z => c ((pcV_self p).mp (of_decide_eq_true z))]
    rw [e]
    exact k q hq

/-! rank -/
abbrev sWRank : Stmt := inClass (top 46) 9
def spWRank (A : Ads) : Sp := fun vs H Q _ => ∃ (a q : Addr) (g : List SyLex.Word) (b : Nat) (js : List SyWays.Join) (t : List Nat) (wy : Wy), vs = [.ref a, .ref q] ∧ TextAt A H a g b js t ∧ WayAt H q wy ∧ okWy g t wy ∧ wy.length ≤ 1000 ∧
  ∀ H' p l rs, Same H H' → H' p = some (.tup [.int ((totalM g b js 0 wy : Nat) : Int), .ref l]) → H' l = some (.lst (refs rs)) → Paired (fun r (x : Nat × Pc) => H' r = some (.tup (rkV g x.2))) rs wy → Q (.ref p) H'
theorem scWRank : FnScope ["self", "way", "at", "piece"] ["self", "way"] (defScope sWRank) := ⟨rfl, rfl, rfl, by decide +kernel, rfl, by decide +kernel, by decide +kernel⟩
theorem ok_wRank (T : Txt K mg A) (G1 : MHas P w K mg base CX0 A.CT "total" 2 ["self", "way"] (spTotal A)) (G2 : MHas P w K mg base CX0 A.CT "piece_rank" 2 ["self", "piece"] (spPRank A)) {f : Addr} {fd : FuncData} (F : Fun K "rank" "Text.rank" sWRank f fd) :
    FnOk P w K mg base CX0 3 f fd ["self", "way"] (spWRank A) := by
  refine F.ok scWRank (fun vs H Q E h => ?_) (fun cdv A' outer s H vs Q E hr h => ⟨_, pss_one (ps_ret (pe_tup (pa_cons (meth_has G1 T.clT hr (pv 0) (pa_cons (pv 1) pa_nil))
    (pa_cons (pe_lc (own := [("at", 2), ("piece", 3)]) (g := gTup K 2 (gCons (gName 2) (gCons (gName 3) gNil))) (tt := tYes) (te := tMeth A.CT "piece_rank" (spPRank A) [] E0 (tVar 0) (tCons (tVar 3) tNil)) rfl scWRank.nd (pi_list (pv 1)) (blkOk_by (N := ["self", "way", "at", "piece"]) (sc := defScope sWRank) (by decide +kernel))
      (fun _ _ _ _ _ => pg_tup rfl (pgs_cons (pg_name (i := 2) scWRank.nd rfl (.inl rfl)) (pgs_cons (pg_name (i := 3) scWRank.nd rfl (.inl rfl)) pgs_nil))) (fun _ _ _ _ _ => pts_nil) (fun _ _ _ _ _ => meth_has G2 T.clT hr (pv 0) (pa_cons (pv 3) pa_nil))) pa_nil)))), ?_⟩)
  · obtain ⟨a, q, g, b, js, t, wy, rfl, _⟩ := h
    rfl
  · obtain ⟨a, q, g, b, js, t, wy, rfl, hT, hW, hok, hwl, k⟩ := h
    obtain ⟨ts, hq, hP⟩ := id hW
    obtain ⟨dx, L, j, sg, st, h1, _⟩ := id hT
    refine ⟨_, rfl, a, dx, _, rfl, h1, tF_no_total, _, rfl, a, q, g, b, js, t, wy, rfl, hT, hW, hok, fun H1 s1 => ⟨_, rfl, q, rfl, ⟨_, SqL.of (s1 _ _ hq)⟩, fun D hD => ?_⟩⟩
    refine lc_list (K := K) (a := q) (xs := refs ts) (fun i H' => ∃ Hx rs, Off Hx H' D (.lst (refs rs)) ∧ Same H1 Hx ∧ Paired (fun r (x : Nat × Pc) => Hx r = some (.tup (rkV g x.2))) rs (wy.take i)) ⟨H1, [], Off.new hD, Same.refl _, .nil⟩
      (fun i H' _ ⟨Hx, rs, f, sx, _⟩ => SqL.of ((s1.trans (sx.trans f.same)) _ _ hq)) ?_ ?_
    · rintro i x H' hx ⟨Hx, rs, f, sx, hR⟩
      obtain ⟨e, he, rfl⟩ := refs_get hx
      have hil : i < wy.length := by
        rw [← Paired.length hP]
        exact (List.getElem?_eq_some_iff.mp he).1
      obtain ⟨e', he', hz⟩ := prd_at hP (List.getElem?_eq_getElem hil)
      rw [he] at he'
      cases he'
      have sH := s1.trans (sx.trans f.same)
      have hrl : rs.length = i := by
        rw [Paired.length hR, List.length_take]
        omega
      refine ⟨e, _, rfl, SqT.of (sH _ _ hz), rfl, _, _, rfl, _, _, rfl, rfl, rfl, tyes ?_⟩
      refine ⟨_, rfl, a, dx, _, rfl, sH _ _ h1, tF_no_piece_rank, _, rfl, a, g, b, js, t, _, rfl, hT.same sH, (hok _ (List.getElem_mem hil)).1, fun y hy => ?_⟩
      have f1 := f.add hy (.tup (rkV g wy[i].2))
      have s3 : Same Hx (upd Hx y (.tup (rkV g wy[i].2))) := Same.new (f.free_of hy)
      refine ⟨_, f1.at, by rw [refs_len, hrl, sizeLine_eq]; omega, _, rs ++ [y], ?_, sx.trans s3, ?_⟩
      · have := f1.put (.lst (refs (rs ++ [y])))
        rw [refs_snoc] at this ⊢
        exact this
      · rw [take_more (List.getElem?_eq_getElem hil)]
        exact prd_snoc (Paired.mapP hR fun _ _ z => s3 _ _ z) upd_same
    · rintro H' ⟨Hx, rs, f, sx, hR⟩
      have hl : (refs ts).length = wy.length := by
        rw [refs_len]
        exact Paired.length hP
      rw [hl, List.take_length] at hR
      refine ⟨by show 2 ≤ sizeLine; decide, fun p hp => ?_⟩
      have s3 : Same H' (upd H' p (.tup [.int ((totalM g b js 0 wy : Nat) : Int), .ref D])) := Same.new hp
      exact k _ p D rs ((s1.trans (sx.trans f.same)).trans s3) upd_same (s3 _ _ f.at) (Paired.mapP hR fun _ _ z => s3 _ _ (f.same _ _ z))
end
end Sb
end
section
/-! Walks 18: Text: in_order, sounds_of, told, reading -/
namespace Sb
open PySem PySem.Spec PyProof.Rows L2
theorem tabW_ok (g : List SyLex.Word) : ∀ (a : Nat) (r : List Nat), ∀ lw ∈ tabW g a r, ∀ w ∈ lw, ∀ x ∈ w, okPc g x.2 ∧ x.1 < a + r.length
  | a, [], lw, h, w, hw, x, hx => by
    simp only [tabW, List.mem_singleton] at h
    subst h
    simp only [List.mem_singleton] at hw
    subst hw
    cases hx
  | a, y :: r, lw, h, w, hw, x, hx => by
    have ih := tabW_ok g (a + 1) r
    rcases List.mem_cons.mp h with rfl | h
    · obtain ⟨p, hp1, hp⟩ := List.mem_flatMap.mp hw
      obtain ⟨w', hw', rfl⟩ := List.mem_map.mp hp
      rcases List.mem_cons.mp hx with rfl | hx
      · exact ⟨starts_ok hp1, by simp⟩
      · rw [List.getD_eq_getElem?_getD] at hw'
        cases e : (tabW g (a + 1) r)[wid g p - 1]? with
        | none => rw [e] at hw'; cases hw'
        | some l =>
          rw [e] at hw'
          have := ih l (List.mem_of_getElem? e) w' hw' x hx
          simp only [List.length_cons]
          exact ⟨this.1, by omega⟩
    · have := ih lw h w hw x hx
      simp only [List.length_cons]
      exact ⟨this.1, by omega⟩
theorem headD_mem {α : Type} {l : List (List α)} {x : α} (h : x ∈ l.headD []) : ∃ y ∈ l, x ∈ y := by
  cases l with
  | nil => cases h
  | cons y l => exact ⟨y, List.mem_cons_self, h⟩
theorem ways_ok {g : List SyLex.Word} {t : List Nat} {wy : Wy} (h : wy ∈ (tabW g 0 t).headD []) : okWy g t wy ∧ wy.length ≤ t.length := by
  obtain ⟨lw, h1, h2⟩ := headD_mem h
  refine ⟨fun x hx => ?_, tabW_short g 0 t lw h1 wy h2⟩
  have := tabW_ok g 0 t lw h1 wy h2 x hx
  rw [Nat.zero_add] at this
  exact this
/-- a method that is taken as a value, too -/
structure BHas (P : Program) (w : World) (K : PySem.W.Frag) (mg : Str → Option Value) (base : Heap) (C : Addr) (x : Str) (k : Nat) (ps : List Str) (sp : Sp) : Prop where
  ex : ∃ f fd, FnOk P w K mg base CX0 k f fd ps sp ∧ BMeth K C x f ∧ Binds K fd ps []
section
variable {P : Program} {w : World} {K : PySem.W.Frag} {mg : Str → Option Value} {base : Heap} {A : Ads}
abbrev sInOrder : Stmt := inClass (top 46) 10
def spInOrder (A : Ads) : Sp := fun vs H Q _ => ∃ (a : Addr) (g : List SyLex.Word) (b : Nat) (js : List SyWays.Join) (t : List Nat), vs = [.ref a] ∧ TextAt A H a g b js t ∧ Full g ∧ g.length ≤ 1000 ∧ t.length ≤ 1000 ∧ (tabC g t).headD 0 ≤ 1024 ∧
  ∀ H' p, Same H H' → WaysAt H' p (sortedW g b js t) → Q (.ref p) H'
theorem scInOrder : FnScope ["self"] ["self"] (defScope sInOrder) := ⟨rfl, rfl, rfl, by decide +kernel, rfl, by decide +kernel, by decide +kernel⟩
theorem dp_ranks {H : Hp} (g : List SyLex.Word) : ∀ {rs : List Addr} {wy : Wy}, Paired (fun r (x : Nat × Pc) => H r = some (.tup (rkV g x.2))) rs wy → DpAll K H (refs rs) (wy.map fun x => rkD g x.2)
  | _, _, .nil => .nil
  | _, _, .cons r t => .cons (.tup (SqT.of r) (.cons (.int _) (.cons (.int _) (.cons (.int _) .nil)))) (dp_ranks g t)
theorem ok_inOrder (T : Txt K mg A) (G1 : MHas P w K mg base CX0 A.CT "ways" 2 ["self"] (spTWays A)) (G2 : BHas P w K mg base A.CT "rank" 3 ["self", "way"] (spWRank A)) {f : Addr} {fd : FuncData} (F : Fun K "in_order" "Text.in_order" sInOrder f fd) :
    FnOk P w K mg base CX0 6 f fd ["self"] (spInOrder A) := by
  obtain ⟨rf, rd, RF, RB, Rb⟩ := G2.ex
  refine F.ok scInOrder (fun vs H Q E h => ?_) (fun cdv A' outer s H vs Q E hr h => ⟨_, pss_one (ps_ret (pe_callBK (cr_sortBy (sp := fun fq x H Q => ∃ a, H fq = some (.met rf a) ∧ spWRank A [.ref a, x] H Q E0) (fun fq pins s σ H x u Q E I r h => by
      obtain ⟨a, h⟩ := h
      exact keyCall_met (a := a) (RF.mono (Nat.le_refl 3)) (hr.mono (by decide)) Rb pins s σ H x u Q E I r h) hr.units) (by rfl) T.sorted (by decide +kernel) (pa_cons (meth_has0 G1 T.clT (hr.mono (by decide)) (pv 0)) pa_nil) (pk_cons (pe_bmeth (pv 0) T.clT RB) pk_nil))), ?_⟩)
  · obtain ⟨a, g, b, js, t, rfl, _⟩ := h
    rfl
  · obtain ⟨a, g, b, js, t, rfl, hT, hfull, hgl, htl, hc, k⟩ := h
    obtain ⟨dx, L, j, sg, st, h1, _⟩ := id hT
    refine ⟨_, rfl, a, dx, _, rfl, h1, tF_no_ways, a, g, b, js, t, rfl, hT, hfull, hgl, htl, hc, fun H1 p s1 hW => ?_⟩
    obtain ⟨as, hp, hP⟩ := id hW
    refine ⟨_, rfl, a, dx, _, rfl, s1 _ _ h1, tF_no_rank, fun q hq => ?_⟩
    have s2 : Same H1 (upd H1 q (.met rf a)) := Same.new hq
    have hl := Paired.length hP
    refine ⟨p, q, refs as, ((tabW g 0 t).headD []).map (wyD g b js), rfl, rfl, SqL.of (s2 _ _ hp), by rw [refs_len, List.length_map]; exact hl, PySem.W.AllAlike.of fun x y => ?_, PySem.W.Sortable.tuples fun x => ⟨_, _, rfl⟩, fun d hd => ?_, fun i x kk hx hk H2 s3 => ⟨a, s3 _ _ upd_same, ?_⟩, fun H2 l s3 hl2 => ?_⟩
    · have := rkDs_alike g x y
      simp [wyD, PySem.W.alike, PySem.W.alikeAll, this]
    · obtain ⟨x, _, rfl⟩ := List.mem_map.mp hd
      exact wyD_depth g b js x
    · obtain ⟨e, he, rfl⟩ := refs_get hx
      obtain ⟨wy, hw, rfl⟩ : ∃ wy, ((tabW g 0 t).headD [])[i]? = some wy ∧ wyD g b js wy = kk := by
        rw [List.getElem?_map] at hk
        cases z : ((tabW g 0 t).headD [])[i]? with
        | none => rw [z] at hk; cases hk
        | some y =>
          rw [z] at hk
          exact ⟨y, rfl, Option.some.inj hk⟩
      obtain ⟨e', he', hz⟩ := prd_at hP hw
      rw [he] at he'
      cases he'
      obtain ⟨k1, k2⟩ := ways_ok (List.mem_of_getElem? hw)
      have s03 := s1.trans (s2.trans s3)
      refine ⟨a, e, g, b, js, t, wy, rfl, hT.same s03, hz.same (s2.trans s3), k1, by omega, fun H3 r l rs s4 g1 g2 g3 => ⟨s4, .tup (SqT.of g1) (.cons (.int _) (.cons (.lst (SqL.of g2) (dp_ranks g g3)) .nil))⟩⟩
    · obtain ⟨cs, e1, e2⟩ := sort_pairs (kd := wyD g b js) (Paired.mapP hP fun _ _ z => z.same (s2.trans s3))
      rw [e1] at hl2
      exact k H2 l (s1.trans (s2.trans s3)) ⟨cs, hl2, e2⟩

/-! sounds_of -/
abbrev sSounds : Stmt := inClass (top 46) 11
def soundsM (g : List SyLex.Word) (t : List Nat) (x : Nat × Pc) : List Nat := match x.2 with
  | none => [t.getD x.1 0]
  | some i => ((g[i]?).map fun w => w.reading).getD []
def spSounds (A : Ads) : Sp := fun vs H Q _ => ∃ (a q : Addr) (g : List SyLex.Word) (b : Nat) (js : List SyWays.Join) (t : List Nat) (x : Nat × Pc), vs = [.ref a, .ref q] ∧ TextAt A H a g b js t ∧ H q = some (.tup [.int (x.1 : Int), .int (pcV x.2)]) ∧ okPc g x.2 ∧ x.1 < t.length ∧
  ∀ H' l, Same H H' → H l = none → H' l = some (lstN (soundsM g t x)) → Q (.ref l) H'
theorem scSounds : FnScope ["self", "place", "at", "piece"] ["self", "place"] (defScope sSounds) := ⟨rfl, rfl, rfl, by decide +kernel, rfl, by decide +kernel, by decide +kernel⟩
theorem ok_sounds (T : Txt K mg A) {f : Addr} {fd : FuncData} (F : Fun K "sounds_of" "Text.sounds_of" sSounds f fd) : FnOk P w K mg base CX0 1 f fd ["self", "place"] (spSounds A) := by
  refine F.ok scSounds (fun vs H Q E h => ?_) (fun cdv A' outer s H vs Q E hr h => ⟨_, pss_cons (ps_asg (pv 1) (pg_tup rfl (pgs_cons (pg_name (i := 2) scSounds.nd rfl (.inl rfl)) (pgs_cons (pg_name (i := 3) scSounds.nd rfl (.inl rfl)) pgs_nil))))
    (pss_cons (ps_if (pt_cmp (pc_eqI (pv 3) (glob_int T.BY_ITSELF))) (pss_one (ps_ret (pe_lst (pa_cons (pe_ix ix_tup (pe_fld (pv 0) rfl) (pv 2) (fun _ _ => rfl)) pa_nil)))) pss_nil)
    (pss_one (ps_ret (pe_callTy call_list_of (by rfl) T.list (by decide +kernel) (pa_cons (pe_fld (pe_ix ix_list (pe_fld (pv 0) rfl) (pv 3) (fun _ _ => rfl)) rfl) pa_nil))))), ?_⟩)
  · obtain ⟨a, q, g, b, js, t, x, rfl, _⟩ := h
    rfl
  · obtain ⟨a, q, g, b, js, t, ⟨k0, p⟩, rfl, ⟨dx, L, j, sg, st, h1, ⟨as, hL, hP⟩, _, h4, _⟩, hq, hok, hlt, k⟩ := h
    refine ⟨_, rfl, q, _, rfl, SqT.of hq, rfl, _, _, rfl, _, _, rfl, rfl, ?_⟩
    refine ⟨_, rfl, _, _, rfl, rfl, _, rfl, ifD (fun c => ?_) fun c => ?_⟩
    · have e := (pcV_self p).mp c
      subst e
      have hlt' : k0 < t.length := hlt
      refine ⟨_, rfl, a, A.CT, dx, _, _, rfl, h1, T.clT, T.aT _ (.tail _ (.tail _ (.head _))), tF_signs, _, rfl, sg, _, _, _, rfl, rfl, SqT.of h4, atI_nat (nv_at (List.getElem?_eq_getElem hlt')), by show 1 ≤ sizeLine; decide, fun l hl => k _ l (Same.new hl) hl ?_⟩
      rw [upd_same]
      show some (HO.lst [V.int ((t[k0] : Nat) : Int)]) = some (HO.lst (nv [t.getD k0 0]))
      rw [List.getD_eq_getElem?_getD, List.getElem?_eq_getElem hlt']
      rfl
    · cases p with
      | none => exact absurd rfl c
      | some i =>
        have hi : i < g.length := hok
        obtain ⟨e, he, dw, q1, q2, g1, g2, g3⟩ := prd_at hP (List.getElem?_eq_getElem hi)
        have ew : soundsM g t (k0, some i) = g[i].reading := by
          show ((g[i]?).map fun w => w.reading).getD [] = _
          rw [List.getElem?_eq_getElem hi]
          rfl
        refine ⟨_, rfl, a, A.CT, dx, _, _, rfl, h1, T.clT, T.aT _ (.head _), tF_words, _, rfl, L, _, _, _, rfl, rfl, SqL.of hL, atI_nat (refs_at he), e, A.CW, dw, _, _, rfl, g1, T.clW, T.aW _ (.head _), wF_sounds, q1, _, rfl, .inr (SqT.of g2), fun l hl => k _ l (Same.new hl) hl ?_⟩
        rw [upd_same, ew]
        rfl
end
end Sb
end
section
/-! Walks 19: Text: told, reading -/
namespace Sb
open PySem PySem.Spec PyProof.Rows L2
/-- a lexicon whose readings are short -/
def Short (g : List SyLex.Word) : Prop := ∀ w ∈ g, w.reading.length ≤ 32
def toldM (g : List SyLex.Word) (b : Nat) (js : List SyWays.Join) (t : List Nat) (wy : Wy) : List Int := (wy.length : Int) :: ((totalM g b js 0 wy : Nat) : Int) :: wy.flatMap fun x => [((soundsM g t x).length : Int), pcV x.2]
def flatM (g : List SyLex.Word) (t : List Nat) (wy : Wy) : List Nat := wy.flatMap (soundsM g t)
def readM (g : List SyLex.Word) (t : List Nat) (wy : Wy) : List Nat := (flatM g t wy).length :: flatM g t wy
def iv (l : List Int) : List V := l.map V.int
theorem sounds_short {g : List SyLex.Word} (h : Short g) (t : List Nat) {x : Nat × Pc} (hok : okPc g x.2) : (soundsM g t x).length ≤ 32 := by
  obtain ⟨k, p⟩ := x
  cases p with
  | none =>
    show 1 ≤ 32
    decide
  | some i =>
    have hi : i < g.length := hok
    show (((g[i]?).map fun w => w.reading).getD []).length ≤ 32
    rw [List.getElem?_eq_getElem hi]
    exact h _ (List.getElem_mem hi)
theorem flat_short {g : List SyLex.Word} (h : Short g) (t : List Nat) : ∀ (wy : Wy), (∀ x ∈ wy, okPc g x.2) → (wy.flatMap (soundsM g t)).length ≤ 32 * wy.length
  | [], _ => Nat.le_refl _
  | x :: wy, hok => by
    have ih := flat_short h t wy fun y hy => hok y (List.mem_cons_of_mem _ hy)
    have h1 := sounds_short h t (hok x List.mem_cons_self)
    rw [List.flatMap_cons, List.length_append, List.length_cons]
    omega
section
variable {P : Program} {w : World} {K : PySem.W.Frag} {mg : Str → Option Value} {base : Heap} {A : Ads}
/-! told -/
abbrev sTold : Stmt := inClass (top 46) 12
def spTold (A : Ads) : Sp := fun vs H Q _ => ∃ (a q : Addr) (g : List SyLex.Word) (b : Nat) (js : List SyWays.Join) (t : List Nat) (wy : Wy), vs = [.ref a, .ref q] ∧ TextAt A H a g b js t ∧ WayAt H q wy ∧ okWy g t wy ∧ wy.length ≤ 1000 ∧
  ∀ H' l, Same H H' → H l = none → H' l = some (.lst (iv (toldM g b js t wy))) → Q (.ref l) H'
theorem scTold : FnScope ["self", "way", "found", "place"] ["self", "way"] (defScope sTold) := ⟨rfl, rfl, rfl, by decide +kernel, rfl, by decide +kernel, by decide +kernel⟩
theorem pairs_len (f : Nat × Pc → List Int) (hf : ∀ x, (f x).length = 2) : ∀ wy : Wy, (wy.flatMap f).length = 2 * wy.length
  | [] => rfl
  | x :: wy => by
    rw [List.flatMap_cons, List.length_append, hf, pairs_len f hf wy, List.length_cons]
    omega
theorem ok_told (T : Txt K mg A) (G1 : MHas P w K mg base CX0 A.CT "total" 2 ["self", "way"] (spTotal A)) (G2 : MHas P w K mg base CX0 A.CT "sounds_of" 1 ["self", "place"] (spSounds A)) {f : Addr} {fd : FuncData} (F : Fun K "told" "Text.told" sTold f fd) :
    FnOk P w K mg base CX0 3 f fd ["self", "way"] (spTold A) := by
  refine F.ok scTold (fun vs H Q E h => ?_) (fun cdv A' outer s H vs Q E hr h => ⟨_, pss_cons (ps_set (i := 2) scTold.nd rfl (.inl rfl) (pe_lst (pa_cons (pe_callB call_len_seq (by rfl) T.len PySem.boot_len (pa_cons (pv 1) pa_nil)) (pa_cons (meth_has G1 T.clT hr (pv 0) (pa_cons (pv 1) pa_nil)) pa_nil))))
    (pss_cons (ps_for PassesOwn.never rfl (pi_list (pv 1)) (pg_name (i := 3) scTold.nd rfl (.inl rfl))
      (pss_one (ps_expr (pe_bm PySem.F.plainAttrs_list PySem.F.slot_list_extend PySem.F.type_list_extend mt_extend (pv 2) (pa_cons (pe_lst (pa_cons (pe_callB call_len_seq (by rfl) T.len PySem.boot_len (pa_cons (meth_has G2 T.clT (hr.mono (by decide)) (pv 0) (pa_cons (pv 3) pa_nil)) pa_nil)) (pa_cons (pe_ix ix_tup (pv 3) pe_int (fun _ _ => rfl)) pa_nil))) pa_nil)))))
    (pss_one (ps_ret (pv 2)))), ?_⟩)
  · obtain ⟨a, q, g, b, js, t, wy, rfl, _⟩ := h
    rfl
  · obtain ⟨a, q, g, b, js, t, wy, rfl, hT, hW, hok, hwl, k⟩ := h
    obtain ⟨ts, hq, hP⟩ := id hW
    obtain ⟨dx, L, j, sg, st, h1, _⟩ := id hT
    have hl : (refs ts).length = wy.length := by
      rw [refs_len]
      exact Paired.length hP
    refine ⟨_, rfl, q, _, rfl, .inl (SqL.of hq), _, rfl, a, dx, _, rfl, h1, tF_no_total, _, rfl, a, q, g, b, js, t, wy, rfl, hT, hW, hok, fun H1 s1 => ⟨by show 2 ≤ sizeLine; decide, fun D hD => ?_⟩⟩
    rw [hl]
    have sD : Same H1 (upd H1 D (.lst [.int ((wy.length : Nat) : Int), .int ((totalM g b js 0 wy : Nat) : Int)])) := Same.new hD
    refine ⟨_, rfl, q, rfl, ⟨_, SqL.of (sD _ _ (s1 _ _ hq))⟩, ?_⟩
    refine for_list (K := K) (a := q) (xs := refs ts) (fun i σ H' => ∃ (v3 : Option V) (Hx : Hp), σ = [some (.ref a), some (.ref q), some (.ref D), v3] ∧ Off Hx H' D (.lst (iv ((wy.length : Int) :: ((totalM g b js 0 wy : Nat) : Int) :: (wy.take i).flatMap fun x => [((soundsM g t x).length : Int), pcV x.2]))) ∧ Same H1 Hx)
      ⟨none, H1, rfl, Off.new hD, Same.refl _⟩ (fun i σ H' _ ⟨_, Hx, _, f, s⟩ => SqL.of ((s1.trans (s.trans f.same)) _ _ hq)) ?_ ?_
    · rintro i x σ H' hx ⟨v3, Hx, rfl, f, sx⟩
      obtain ⟨e, he, rfl⟩ := refs_get hx
      have hil : i < wy.length := by
        rw [← hl]
        exact (List.getElem?_eq_some_iff.mp hx).1
      obtain ⟨e', he', hz⟩ := prd_at hP (List.getElem?_eq_getElem hil)
      rw [he] at he'
      cases he'
      obtain ⟨ho1, ho2⟩ := hok _ (List.getElem_mem hil)
      have sH := s1.trans (sx.trans f.same)
      refine ⟨_, rfl, .inl ⟨rfl, _, SqL.of f.at⟩, _, rfl, a, dx, _, rfl, sH _ _ h1, tF_no_sounds_of, _, rfl, a, e, g, b, js, t, wy[i], rfl, hT.same sH, sH _ _ hz, ho1, ho2, fun H2 l s2 hl0 hl2 => ?_⟩
      obtain ⟨Hy, f2, sy⟩ := f.call s2
      refine ⟨l, _, rfl, .inl (SqL.of hl2), _, rfl, e, _, 1, _, rfl, rfl, SqT.of (s2 _ _ (sH _ _ hz)), (show atI _ ((1 : Nat) : Int) = _ from atI_nat rfl), by show 2 ≤ sizeLine; decide, fun z hz2 => ?_⟩
      have f3 := f2.add hz2 (.lst [.int ((nv (soundsM g t wy[i])).length : Int), .int (pcV wy[i].2)])
      refine ⟨D, z, _, _, rfl, rfl, f3.at, upd_same, ?_, some (.ref e), upd Hy z (.lst [.int ((nv (soundsM g t wy[i])).length : Int), .int (pcV wy[i].2)]), rfl, ?_, (sx.trans sy).at ((sx.trans sy).free (f2.free_of hz2))⟩
      · have := pairs_len (fun x => [((soundsM g t x).length : Int), pcV x.2]) (fun _ => rfl) (wy.take i)
        rw [iv, List.length_map, List.length_cons, List.length_cons, this, List.length_take, sizeLine_eq]
        simp only [List.length_cons, List.length_nil]
        omega
      · have := f3.put (.lst (iv ((wy.length : Int) :: ((totalM g b js 0 wy : Nat) : Int) :: (wy.take (i + 1)).flatMap fun x => [((soundsM g t x).length : Int), pcV x.2])))
        rw [take_more (List.getElem?_eq_getElem hil), List.flatMap_append] at this ⊢
        unfold iv at this ⊢
        rw [nv_length] at this ⊢
        simp only [List.map_cons, List.map_append, List.flatMap_cons, List.flatMap_nil, List.append_nil, List.map_nil, List.cons_append] at this ⊢
        exact this
    · rintro σ H' ⟨v3, Hx, rfl, f, sx⟩
      rw [hl, List.take_length] at f
      exact ⟨_, rfl, k H' D (s1.trans (sx.trans f.same)) (s1.free hD) f.at⟩

/-! reading -/
abbrev sReading : Stmt := inClass (top 46) 13
def spReading (A : Ads) : Sp := fun vs H Q _ => ∃ (a q : Addr) (g : List SyLex.Word) (b : Nat) (js : List SyWays.Join) (t : List Nat) (wy : Wy), vs = [.ref a, .ref q] ∧ TextAt A H a g b js t ∧ WayAt H q wy ∧ okWy g t wy ∧ wy.length ≤ 1000 ∧ Short g ∧
  ∀ H' l, Same H H' → H l = none → H' l = some (lstN (readM g t wy)) → Q (.ref l) H'
theorem scReading : FnScope ["self", "way", "found", "place"] ["self", "way"] (defScope sReading) := ⟨rfl, rfl, rfl, by decide +kernel, rfl, by decide +kernel, by decide +kernel⟩
theorem ok_reading (T : Txt K mg A) (G2 : MHas P w K mg base CX0 A.CT "sounds_of" 1 ["self", "place"] (spSounds A)) {f : Addr} {fd : FuncData} (F : Fun K "reading" "Text.reading" sReading f fd) :
    FnOk P w K mg base CX0 2 f fd ["self", "way"] (spReading A) := by
  refine F.ok scReading (fun vs H Q E h => ?_) (fun cdv A' outer s H vs Q E hr h => ⟨_, pss_cons (ps_set (i := 2) scReading.nd rfl (.inl rfl) (pe_lst pa_nil))
    (pss_cons (ps_for PassesOwn.never rfl (pi_list (pv 1)) (pg_name (i := 3) scReading.nd rfl (.inl rfl))
      (pss_one (ps_expr (pe_bm PySem.F.plainAttrs_list PySem.F.slot_list_extend PySem.F.type_list_extend mt_extend (pv 2) (pa_cons (meth_has G2 T.clT hr (pv 0) (pa_cons (pv 3) pa_nil)) pa_nil)))))
    (pss_one (ps_ret (pe_op op_cat (pe_lst (pa_cons (pe_callB call_len_seq (by rfl) T.len PySem.boot_len (pa_cons (pv 2) pa_nil)) pa_nil)) (pv 2))))), ?_⟩)
  · obtain ⟨a, q, g, b, js, t, wy, rfl, _⟩ := h
    rfl
  · obtain ⟨a, q, g, b, js, t, wy, rfl, hT, hW, hok, hwl, hsh, k⟩ := h
    obtain ⟨ts, hq, hP⟩ := id hW
    obtain ⟨dx, L, j, sg, st, h1, _⟩ := id hT
    have hl : (refs ts).length = wy.length := by
      rw [refs_len]
      exact Paired.length hP
    refine ⟨Nat.zero_le _, fun D hD => ?_⟩
    have sD : Same H (upd H D (.lst [])) := Same.new hD
    refine ⟨_, rfl, q, rfl, ⟨_, SqL.of (sD _ _ hq)⟩, ?_⟩
    refine for_list (K := K) (a := q) (xs := refs ts) (fun i σ H' => ∃ (v3 : Option V) (Hx : Hp), σ = [some (.ref a), some (.ref q), some (.ref D), v3] ∧ Off Hx H' D (lstN (flatM g t (wy.take i))) ∧ Same H Hx)
      ⟨none, H, rfl, Off.new hD, Same.refl _⟩ (fun i σ H' _ ⟨_, Hx, _, f, s⟩ => SqL.of ((s.trans f.same) _ _ hq)) ?_ ?_
    · rintro i x σ H' hx ⟨v3, Hx, rfl, f, sx⟩
      obtain ⟨e, he, rfl⟩ := refs_get hx
      have hil : i < wy.length := by
        rw [← hl]
        exact (List.getElem?_eq_some_iff.mp hx).1
      obtain ⟨e', he', hz⟩ := prd_at hP (List.getElem?_eq_getElem hil)
      rw [he] at he'
      cases he'
      obtain ⟨ho1, ho2⟩ := hok _ (List.getElem_mem hil)
      have sH := sx.trans f.same
      refine ⟨_, rfl, .inl ⟨rfl, _, SqL.of f.at⟩, _, rfl, a, dx, _, rfl, sH _ _ h1, tF_no_sounds_of, _, rfl, a, e, g, b, js, t, wy[i], rfl, hT.same sH, sH _ _ hz, ho1, ho2, fun H2 l s2 hl0 hl2 => ?_⟩
      obtain ⟨Hy, f2, sy⟩ := f.call s2
      refine ⟨D, l, _, _, rfl, rfl, f2.at, hl2, ?_, some (.ref e), _, rfl, ?_, sx.trans sy⟩
      · have h3 := flat_short hsh t (wy.take i) fun y hy => (hok y (List.mem_of_mem_take hy)).1
        have h4 := sounds_short hsh t ho1
        rw [List.length_take] at h3
        rw [nv_length, nv_length, sizeLine_eq]
        unfold flatM
        omega
      · have := f2.put (lstN (flatM g t (wy.take (i + 1))))
        unfold lstN flatM nv at this ⊢
        rw [take_more (List.getElem?_eq_getElem hil), List.flatMap_append, List.map_append] at this ⊢
        simp only [List.flatMap_cons, List.flatMap_nil, List.append_nil] at this ⊢
        exact this
    · rintro σ H' ⟨v3, Hx, rfl, f, sx⟩
      rw [hl, List.take_length] at f
      refine ⟨_, rfl, D, _, rfl, .inl (SqL.of f.at), by show 1 ≤ sizeLine; decide, fun z hz => ?_⟩
      have s2 : Same H' (upd H' z (.lst [.int ((nv (flatM g t wy)).length : Int)])) := Same.new hz
      refine ⟨_, rfl, z, D, _, _, rfl, rfl, upd_same, s2 _ _ f.at, ?_, fun l hl2 => k _ l ((sx.trans f.same).trans (s2.more hl2)) ((sx.trans f.same).free (s2.free hl2)) ?_⟩
      · have h3 := flat_short hsh t wy fun y hy => (hok y hy).1
        rw [nv_length, sizeLine_eq]
        simp only [List.length_cons, List.length_nil]
        unfold flatM
        omega
      · rw [upd_same, nv_length]
        rfl
end
end Sb
end
section
/-! Walks 20: the class Book: __init__, begin, put_words, put_joins, text -/
namespace Sb
open PySem PySem.Spec PyProof.Rows L2
/-- the classes are different ones -/
structure Dist (A : Ads) : Prop where
  bw : A.CB ≠ A.CW
  bj : A.CB ≠ A.CJ
  tw : A.CT ≠ A.CW
def tk (t : List Nat) : List Key := t.map fun (n : Nat) => Sum.inl (n : Int)
theorem tk_nv (t : List Nat) : (tk t).map kV = nv t := by
  unfold tk nv
  rw [List.map_map]
  rfl
theorem tk_inj : ∀ {a b : List Nat}, tk a = tk b → a = b
  | [], [], _ => rfl
  | [], _ :: _, h => by cases h
  | _ :: _, [], h => by cases h
  | x :: a, y :: b, h => by
    obtain ⟨h1, h2⟩ := List.cons.inj (show (Sum.inl (x : Int) : Key) :: tk a = (Sum.inl (y : Int) : Key) :: tk b from h)
    have h3 : (x : Int) = (y : Int) := Sum.inl.inj h1
    rw [tk_inj h2, show x = y by omega]
/-- what is known: ways in order, by their signs -/
def KnownAt (H : Hp) (g : List SyLex.Word) (b : Nat) (js : List SyWays.Join) (kv : List Key × V) (t : List Nat) : Prop := kv.1 = tk t ∧ ∃ p, kv.2 = .ref p ∧ WaysAt H p (sortedW g b js t)
def BookAt (A : Ads) (H : Hp) (bk d : Addr) (g : List SyLex.Word) (b : Nat) (js : List SyWays.Join) (ts : List (List Nat)) : Prop := ∃ dx L j dj dd kvs, H bk = some (.ins A.CB dx (bF (.ref L) (.ref j) (.ref d))) ∧ WordsAt A.CW H L g ∧
  H j = some (.ins A.CJ dj (jF (.int (b : Int)) (.ref dd))) ∧ H dd = some (.dT (jkv js)) ∧ dd ≠ d ∧ H d = some (.dT kvs) ∧ Paired (KnownAt H g b js) kvs ts
theorem KnownAt.same {H H' : Hp} {g : List SyLex.Word} {b : Nat} {js : List SyWays.Join} {kv : List Key × V} {t : List Nat} (h : KnownAt H g b js kv t) (s : Same H H') : KnownAt H' g b js kv t := by
  obtain ⟨h1, p, h2, h3⟩ := h
  exact ⟨h1, p, h2, h3.same s⟩
theorem BookAt.same {A : Ads} {H H' : Hp} {bk d : Addr} {g : List SyLex.Word} {b : Nat} {js : List SyWays.Join} {ts : List (List Nat)} (h : BookAt A H bk d g b js ts) (s : Same H H') : BookAt A H' bk d g b js ts := by
  obtain ⟨dx, L, j, dj, dd, kvs, h1, h2, h3, h4, h5, h6, h7⟩ := h
  exact ⟨dx, L, j, dj, dd, kvs, s _ _ h1, h2.same s, s _ _ h3, s _ _ h4, h5, s _ _ h6, Paired.mapP h7 fun _ _ q => q.same s⟩
/-- all but one object stay -/
def SameBut1 (q : Addr) (H H' : Hp) : Prop := ∀ b v, b ≠ q → H b = some v → H' b = some v
theorem SameBut1.then_ {q : Addr} {H H' H'' : Hp} (h : SameBut1 q H H') (s : Same H' H'') : SameBut1 q H H'' := fun b v n e => s _ _ (h b v n e)
theorem SameBut1.from_ {q : Addr} {H H' H'' : Hp} (s : Same H H') (h : SameBut1 q H' H'') : SameBut1 q H H'' := fun b v n e => h b v n (s _ _ e)
theorem SameBut1.upd {q : Addr} {H : Hp} {o : HO} : SameBut1 q H (upd H q o) := fun b v n e => by
  rw [upd_ne n]
  exact e
theorem SameBut1.put {q : Addr} {H H' : Hp} {o : HO} (h : SameBut1 q H H') : SameBut1 q H (L2.upd H' q o) := fun b v n e => by
  rw [upd_ne n]
  exact h b v n e
section
variable {P : Program} {w : World} {K : PySem.W.Frag} {mg : Str → Option Value} {base : Heap} {A : Ads}

/-! __init__ -/
abbrev sBInit : Stmt := inClass (top 59) 0
def spBInit (A : Ads) : Sp := fun vs H Q _ => ∃ (p dx : Addr), vs = [.ref p] ∧ H p = some (.ins A.CB dx []) ∧ ∀ H' d, SameBut1 p H H' → H d = none → BookAt A H' p d [] 65535 [] [] → Q .non H'
theorem scBInit : FnScope ["self"] ["self"] (defScope sBInit) := ⟨rfl, rfl, rfl, by decide +kernel, rfl, by decide +kernel, by decide +kernel⟩
theorem book_fresh (T : Txt K mg A) {p dx : Addr} {fs : List (Str × V)} {H : Hp} {Q : VK} (hlen : fs.length ≤ 900) (hf : ∀ z y d, putF "known" d (putF "joins" y (putF "words" z fs)) = bF z y d) (hp : H p = some (.ins A.CB dx fs))
    (k : ∀ H' d, SameBut1 p H H' → H d = none → BookAt A H' p d [] 65535 [] [] → Q .non H') :
    tSeq (sFld K (tVar 0) (tLst tNil) "words") (tSeq (sFld K (tVar 0) (tMake A.CJ (spJInit A.CJ) [] E0 (tCons (tC (.int 65535)) (tCons tDNewT tNil))) "joins") (sFld K (tVar 0) tDNewT "known")) { nx := fun _ H' => Q .non H', rt := Q } (start ["self"] [.ref p]) H := by
  refine ⟨Nat.zero_le _, fun z hz => ?_⟩
  have n1 : z ≠ p := (ne_of_none hp hz).symm
  refine ⟨_, rfl, p, A.CB, dx, fs, rfl, (Same.new hz) _ _ hp, T.clB, T.aB _ (.head _), by omega, ?_⟩
  intro dd hdd y dy hy hdy ny
  have n2 : dd ≠ p := fun e => by
    rw [e, upd_same] at hdd
    cases hdd
  have hp2 : ∀ b, b ≠ p → ∀ v, upd H z (.lst []) b = some v → upd (upd H z (.lst [])) p (.ins A.CB dx (putF "words" (.ref z) fs)) b = some v := fun b hb v e => by
    rw [upd_ne hb]
    exact e
  have b2 : SameBut1 p (upd H z (.lst [])) (upd (upd H z (.lst [])) p (.ins A.CB dx (putF "words" (.ref z) fs))) := .upd
  have hp2' : upd (upd H z (.lst [])) p (.ins A.CB dx (putF "words" (.ref z) fs)) p = some (.ins A.CB dx (putF "words" (.ref z) fs)) := upd_same
  generalize upd (upd H z (.lst [])) p (.ins A.CB dx (putF "words" (.ref z) fs)) = H2 at b2 hp2' hdd hy hdy ⊢
  refine ⟨y, dy, _, _, rfl, upd_same, rfl, ?_⟩
  rw [upd_upd]
  have s3 : Same H2 (upd H2 dd (.dT [])) := Same.new hdd
  have s5 : Same (upd H2 dd (.dT [])) (mkIns (upd H2 dd (.dT [])) y dy A.CJ (jF (.int 65535) (.ref dd))) := mkIns_same hy hdy
  have hdd5 : mkIns (upd H2 dd (.dT [])) y dy A.CJ (jF (.int 65535) (.ref dd)) dd = some (.dT []) := s5 _ _ upd_same
  have hy5 : mkIns (upd H2 dd (.dT [])) y dy A.CJ (jF (.int 65535) (.ref dd)) y = some (.ins A.CJ dy (jF (.int 65535) (.ref dd))) := upd_same
  have s25 := s3.trans s5
  have nyp : y ≠ p := fun e => by
    rw [e, s3 _ _ hp2'] at hy
    cases hy
  have em : upd (upd (upd H2 dd (.dT [])) dy (.own y)) y (.ins A.CJ dy (jF (.int 65535) (.ref dd))) = mkIns (upd H2 dd (.dT [])) y dy A.CJ (jF (.int 65535) (.ref dd)) := rfl
  rw [em]
  have b5 := b2.then_ s25
  have hp5 := s25 _ _ hp2'
  generalize mkIns (upd H2 dd (.dT [])) y dy A.CJ (jF (.int 65535) (.ref dd)) = H5 at hdd5 hy5 b5 hp5 ⊢
  refine ⟨_, rfl, p, A.CB, dx, _, rfl, hp5, T.clB, T.aB _ (.tail _ (.head _)), (by have := putF_len "words" (.ref z) fs; omega), ?_⟩
  intro d hd
  have ndp : d ≠ p := fun e => by
    rw [e, upd_same] at hd
    cases hd
  have hd5 : H5 d = none := by
    rw [upd_ne ndp] at hd
    exact hd
  refine ⟨_, rfl, p, A.CB, dx, _, rfl, (Same.new hd) _ _ upd_same, T.clB, T.aB _ (.tail _ (.tail _ (.head _))), (by have h1 := putF_len "words" (.ref z) fs; have h2 := putF_len "joins" (.ref y) (putF "words" (.ref z) fs); omega), ?_⟩
  rw [hf]
  have b58 : SameBut1 p H5 (upd (upd (upd H5 p (.ins A.CB dx (putF "joins" (.ref y) (putF "words" (.ref z) fs)))) d (.dT [])) p (.ins A.CB dx (bF (.ref z) (.ref y) (.ref d)))) := (SameBut1.upd.then_ (Same.new hd)).put
  have b18 : SameBut1 p (upd H z (.lst [])) (upd (upd (upd H5 p (.ins A.CB dx (putF "joins" (.ref y) (putF "words" (.ref z) fs)))) d (.dT [])) p (.ins A.CB dx (bF (.ref z) (.ref y) (.ref d)))) := fun b v n e => b58 b v n (b5 b v n e)
  have ndd : dd ≠ d := fun e => by
    rw [e] at hdd5
    rw [hdd5] at hd5
    cases hd5
  refine k _ d (SameBut1.from_ (Same.new hz) b18) ?_ ⟨dx, z, y, dy, dd, [], upd_same, ⟨[], b18 z _ n1 upd_same, .nil⟩, b58 y _ nyp hy5, b58 dd _ n2 hdd5, ndd, ?_, .nil⟩
  · cases q : H d with
    | none => rfl
    | some v =>
      rw [b5 d v ndp ((Same.new hz) _ _ q)] at hd5
      cases hd5
  · rw [upd_ne ndp]
    exact upd_same
theorem ok_bInit (T : Txt K mg A) (GI : IHas P w K mg base CX0 A.CJ 1 ["self", "by_itself", "costs"] (spJInit A.CJ)) {f : Addr} {fd : FuncData} (F : Fun K "__init__" "Book.__init__" sBInit f fd) :
    FnOk P w K mg base CX0 3 f fd ["self"] (spBInit A) := by
  refine F.ok scBInit (fun vs H Q E h => ?_) (fun cdv A' outer s H vs Q E hr h => ⟨_, pss_cons (ps_fld (pv 0) (pe_lst pa_nil) rfl) (pss_cons (ps_fld (pv 0) (make_has GI T.gJ hr (pa_cons (glob_int T.DEAREST) (pa_cons pe_dnewT pa_nil))) rfl) (pss_one (ps_fld (pv 0) pe_dnewT rfl))), ?_⟩)
  · obtain ⟨p, dx, rfl, _⟩ := h
    rfl
  · obtain ⟨p, dx, rfl, hp, k⟩ := h
    exact book_fresh (K := K) T (by show 0 ≤ 900; decide) (fun z y d => bF_new) hp k

/-! begin -/
abbrev sBegin : Stmt := inClass (top 59) 1
def spBegin (A : Ads) : Sp := fun vs H Q _ => ∃ (p d : Addr) (g : List SyLex.Word) (b : Nat) (js : List SyWays.Join) (ts : List (List Nat)), vs = [.ref p] ∧ BookAt A H p d g b js ts ∧ ∀ H' d', SameBut1 p H H' → H d' = none → BookAt A H' p d' [] 65535 [] [] → Q .non H'
theorem scBegin : FnScope ["self"] ["self"] (defScope sBegin) := ⟨rfl, rfl, rfl, by decide +kernel, rfl, by decide +kernel, by decide +kernel⟩
theorem ok_begin (T : Txt K mg A) (GI : IHas P w K mg base CX0 A.CJ 1 ["self", "by_itself", "costs"] (spJInit A.CJ)) {f : Addr} {fd : FuncData} (F : Fun K "begin" "Book.begin" sBegin f fd) :
    FnOk P w K mg base CX0 3 f fd ["self"] (spBegin A) := by
  refine F.ok scBegin (fun vs H Q E h => ?_) (fun cdv A' outer s H vs Q E hr h => ⟨_, pss_cons (ps_fld (pv 0) (pe_lst pa_nil) rfl) (pss_cons (ps_fld (pv 0) (make_has GI T.gJ hr (pa_cons (glob_int T.DEAREST) (pa_cons pe_dnewT pa_nil))) rfl) (pss_one (ps_fld (pv 0) pe_dnewT rfl))), ?_⟩)
  · obtain ⟨p, d, g, b, js, ts, rfl, _⟩ := h
    rfl
  · obtain ⟨p, d, g, b, js, ts, rfl, ⟨dx, L, j, dj, dd, kvs, hp, _⟩, k⟩ := h
    exact book_fresh (K := K) T (by show 3 ≤ 900; decide) (fun z y d => by rw [bF_put_words, bF_put_joins, bF_put_known]) hp k

/-! put_words, put_joins -/
abbrev sPutW : Stmt := inClass (top 59) 2
theorem WordsAt.but {C C' : Addr} {H H' : Hp} {L p dx : Addr} {fs : List (Str × V)} {g : List SyLex.Word} (h : WordsAt C H L g) (hp : H p = some (.ins C' dx fs)) (n : C' ≠ C) (s : SameBut1 p H H') : WordsAt C H' L g :=
  h.keep fun b v hb hv => s b v (fun z => by
    rw [z, hp] at hb
    cases hb
    exact n (hv _ _ _ rfl)) hb
def spPutW (A : Ads) : Sp := fun vs H Q _ => ∃ (p d L : Addr) (g g' : List SyLex.Word) (b : Nat) (js : List SyWays.Join) (ts : List (List Nat)), vs = [.ref p, .ref L] ∧ BookAt A H p d g b js ts ∧ WordsAt A.CW H L g' ∧ ∀ H' d', SameBut1 p H H' → H d' = none → BookAt A H' p d' g' b js [] → Q .non H'
theorem scPutW : FnScope ["self", "words"] ["self", "words"] (defScope sPutW) := ⟨rfl, rfl, rfl, by decide +kernel, rfl, by decide +kernel, by decide +kernel⟩
theorem ok_putW (T : Txt K mg A) (N : Dist A) {f : Addr} {fd : FuncData} (F : Fun K "put_words" "Book.put_words" sPutW f fd) : FnOk P w K mg base CX0 1 f fd ["self", "words"] (spPutW A) := by
  refine F.ok scPutW (fun vs H Q E h => ?_) (fun cdv A' outer s H vs Q E hr h => ⟨_, pss_cons (ps_fld (pv 0) (pv 1) rfl) (pss_one (ps_fld (pv 0) pe_dnewT rfl)), ?_⟩)
  · obtain ⟨p, d, L, g, g', b, js, ts, rfl, _⟩ := h
    rfl
  · obtain ⟨p, d, L, g, g', b, js, ts, rfl, ⟨dx, L0, j, dj, dd, kvs, hp, hW, hj, hdd, hne, hd, hK⟩, hW', k⟩ := h
    refine ⟨_, rfl, _, rfl, p, A.CB, dx, _, rfl, hp, T.clB, T.aB _ (.head _), (by show 3 < 1000; decide), fun d' hd' => ?_⟩
    have ndp : d' ≠ p := fun e => by
      rw [e, upd_same] at hd'
      cases hd'
    have hd0 : H d' = none := by
      rw [upd_ne ndp] at hd'
      exact hd'
    refine ⟨_, rfl, p, A.CB, dx, _, rfl, (Same.new hd') _ _ upd_same, T.clB, T.aB _ (.tail _ (.tail _ (.head _))), (by rw [bF_put_words]; show 3 < 1000; decide), ?_⟩
    rw [bF_put_words, bF_put_known]
    have b1 : SameBut1 p H (upd (upd (upd H p (.ins A.CB dx (bF (.ref L) (.ref j) (.ref d)))) d' (.dT [])) p (.ins A.CB dx (bF (.ref L) (.ref j) (.ref d')))) := (SameBut1.upd.then_ (by rw [bF_put_words] at hd'; exact Same.new hd')).put
    have njp : j ≠ p := fun e => by
      rw [e, hp] at hj
      exact N.bj (HO.ins.inj (Option.some.inj hj)).1
    refine k _ d' b1 hd0 ⟨dx, L, j, dj, dd, [], upd_same, hW'.but hp N.bw b1, b1 _ _ njp hj, b1 _ _ (ne_of hdd hp (fun z => nomatch z)) hdd, ?_, ?_, .nil⟩
    · intro e
      rw [e, hd0] at hdd
      cases hdd
    · rw [upd_ne ndp]
      exact upd_same
abbrev sPutJ : Stmt := inClass (top 59) 3
def spPutJ (A : Ads) : Sp := fun vs H Q _ => ∃ (p d q : Addr) (g : List SyLex.Word) (b b' : Nat) (js js' : List SyWays.Join) (ts : List (List Nat)), vs = [.ref p, .ref q] ∧ BookAt A H p d g b js ts ∧ JoinsAt A.CJ H q b' js' ∧ ∀ H' d', SameBut1 p H H' → H d' = none → BookAt A H' p d' g b' js' [] → Q .non H'
theorem scPutJ : FnScope ["self", "joins"] ["self", "joins"] (defScope sPutJ) := ⟨rfl, rfl, rfl, by decide +kernel, rfl, by decide +kernel, by decide +kernel⟩
theorem ok_putJ (T : Txt K mg A) (N : Dist A) {f : Addr} {fd : FuncData} (F : Fun K "put_joins" "Book.put_joins" sPutJ f fd) : FnOk P w K mg base CX0 1 f fd ["self", "joins"] (spPutJ A) := by
  refine F.ok scPutJ (fun vs H Q E h => ?_) (fun cdv A' outer s H vs Q E hr h => ⟨_, pss_cons (ps_fld (pv 0) (pv 1) rfl) (pss_one (ps_fld (pv 0) pe_dnewT rfl)), ?_⟩)
  · obtain ⟨p, d, q, g, b, b', js, js', ts, rfl, _⟩ := h
    rfl
  · obtain ⟨p, d, q, g, b, b', js, js', ts, rfl, ⟨dx, L0, j, dj0, dd0, kvs, hp, hW, hj0, hdd0, hne, hd, hK⟩, ⟨dj, dd, hj, hdd⟩, k⟩ := h
    refine ⟨_, rfl, _, rfl, p, A.CB, dx, _, rfl, hp, T.clB, T.aB _ (.tail _ (.head _)), (by show 3 < 1000; decide), fun d' hd' => ?_⟩
    have ndp : d' ≠ p := fun e => by
      rw [e, upd_same] at hd'
      cases hd'
    have hd0 : H d' = none := by
      rw [upd_ne ndp] at hd'
      exact hd'
    refine ⟨_, rfl, p, A.CB, dx, _, rfl, (Same.new hd') _ _ upd_same, T.clB, T.aB _ (.tail _ (.tail _ (.head _))), (by rw [bF_put_joins]; show 3 < 1000; decide), ?_⟩
    rw [bF_put_joins, bF_put_known]
    have b1 : SameBut1 p H (upd (upd (upd H p (.ins A.CB dx (bF (.ref L0) (.ref q) (.ref d)))) d' (.dT [])) p (.ins A.CB dx (bF (.ref L0) (.ref q) (.ref d')))) := (SameBut1.upd.then_ (by rw [bF_put_joins] at hd'; exact Same.new hd')).put
    have njp : q ≠ p := fun e => by
      rw [e, hp] at hj
      exact N.bj (HO.ins.inj (Option.some.inj hj)).1
    refine k _ d' b1 hd0 ⟨dx, L0, q, dj, dd, [], upd_same, hW.but hp N.bw b1, b1 _ _ njp hj, b1 _ _ (ne_of hdd hp (fun z => nomatch z)) hdd, ?_, ?_, .nil⟩
    · intro e
      rw [e, hd0] at hdd
      cases hdd
    · rw [upd_ne ndp]
      exact upd_same

/-! text -/
abbrev sText : Stmt := inClass (top 59) 4
def spText (A : Ads) : Sp := fun vs H Q _ => ∃ (p d sg : Addr) (g : List SyLex.Word) (b : Nat) (js : List SyWays.Join) (ts : List (List Nat)) (t : List Nat), vs = [.ref p, .ref sg] ∧ BookAt A H p d g b js ts ∧ H sg = some (.tup (nv t)) ∧ g.length ≤ 1000 ∧ t.length ≤ 70000 ∧ ∀ H' a, Same H H' → TextAt A H' a g b js t → Q (.ref a) H'
theorem scText : FnScope ["self", "signs"] ["self", "signs"] (defScope sText) := ⟨rfl, rfl, rfl, by decide +kernel, rfl, by decide +kernel, by decide +kernel⟩
theorem ok_text (T : Txt K mg A) (N : Dist A) (GI : IHas P w K mg base CX0 A.CT 2 ["self", "words", "joins", "signs"] (spTInit A)) {f : Addr} {fd : FuncData} (F : Fun K "text" "Book.text" sText f fd) : FnOk P w K mg base CX0 4 f fd ["self", "signs"] (spText A) := by
  refine F.ok scText (fun vs H Q E h => ?_) (fun cdv A' outer s H vs Q E hr h => ⟨_, pss_one (ps_ret (make_has GI T.gT hr (pa_cons (pe_fld (pv 0) rfl) (pa_cons (pe_fld (pv 0) rfl) (pa_cons (pv 1) pa_nil))))), ?_⟩)
  · obtain ⟨p, d, sg, g, b, js, ts, t, rfl, _⟩ := h
    rfl
  · obtain ⟨p, d, sg, g, b, js, ts, t, rfl, ⟨dx, L, j, dj, dd, kvs, hp, hW, hj, hdd, hne, hd, hK⟩, hsg, hgl, htl, k⟩ := h
    refine ⟨_, rfl, p, A.CB, dx, _, _, rfl, hp, T.clB, T.aB _ (.head _), bF_words, _, rfl, p, A.CB, dx, _, _, rfl, hp, T.clB, T.aB _ (.tail _ (.head _)), bF_joins, _, rfl, fun x dy hx hdy nx => ?_⟩
    have s1 : Same H (upd (upd H dy (.own x)) x (.ins A.CT dy [])) := (Same.new hdy).at hx
    refine ⟨x, dy, L, j, sg, g, t, rfl, upd_same, s1 _ _ hsg, hW.same s1, hgl, htl, fun H' st sb hx' hS => ⟨rfl, k H' x ?_ ⟨dy, L, j, sg, st, hx', ?_⟩⟩⟩
    · intro c v hc
      exact sb c v (ne_of_none hc hx) (s1 _ _ hc)
    · have s2 : Same H H' := fun c v hc => sb c v (ne_of_none hc hx) (s1 _ _ hc)
      exact ⟨hW.same s2, ⟨dj, dd, s2 _ _ hj, s2 _ _ hdd⟩, s2 _ _ hsg, hS⟩
end
end Sb
end
section
/-! Walks 21: Book.ways, tell_words, tell_joins -/
namespace Sb
open PySem PySem.Spec PyProof.Rows L2
theorem WordsAt.butT {C : Addr} {H H' : Hp} {L d : Addr} {kvs : List (List Key × V)} {g : List SyLex.Word} (h : WordsAt C H L g) (hd : H d = some (.dT kvs)) (s : SameBut1 d H H') : WordsAt C H' L g := by
  obtain ⟨as, h1, h2⟩ := h
  refine ⟨as, s _ _ (ne_of h1 hd (fun z => nomatch z)) h1, Paired.mapP h2 fun a x q => ?_⟩
  obtain ⟨dx, q1, q2, g1, g2, g3⟩ := q
  exact ⟨dx, q1, q2, s _ _ (ne_of g1 hd (fun z => nomatch z)) g1, s _ _ (ne_of g2 hd (fun z => nomatch z)) g2, s _ _ (ne_of g3 hd (fun z => nomatch z)) g3⟩
theorem WayAt.butT {H H' : Hp} {a d : Addr} {kvs : List (List Key × V)} {wy : Wy} (h : WayAt H a wy) (hd : H d = some (.dT kvs)) (s : SameBut1 d H H') : WayAt H' a wy := by
  obtain ⟨ts, h1, h2⟩ := h
  exact ⟨ts, s _ _ (ne_of h1 hd (fun z => nomatch z)) h1, Paired.mapP h2 fun a x q => s _ _ (ne_of q hd (fun z => nomatch z)) q⟩
theorem WaysAt.butT {H H' : Hp} {a d : Addr} {kvs : List (List Key × V)} {ws : List Wy} (h : WaysAt H a ws) (hd : H d = some (.dT kvs)) (s : SameBut1 d H H') : WaysAt H' a ws := by
  obtain ⟨as, h1, h2⟩ := h
  exact ⟨as, s _ _ (ne_of h1 hd (fun z => nomatch z)) h1, Paired.mapP h2 fun a x q => q.butT hd s⟩
theorem known_find {H : Hp} {g : List SyLex.Word} {b : Nat} {js : List SyWays.Join} (t : List Nat) : ∀ {kvs : List (List Key × V)} {ts : List (List Nat)}, Paired (KnownAt H g b js) kvs ts → valV kvs (tk t) = none ∨ ∃ p, valV kvs (tk t) = some (.ref p) ∧ WaysAt H p (sortedW g b js t)
  | _, _, .nil => .inl rfl
  | _, _, .cons (a := kv) (b := t0) r tl => by
    obtain ⟨h1, p, h2, h3⟩ := r
    by_cases e : t0 = t
    · subst e
      exact .inr ⟨p, by rw [valV_pos h1, h2], h3⟩
    · have ne : ¬ kv.1 = tk t := fun z => e (tk_inj (h1.symm.trans z))
      rw [valV_neg ne]
      exact known_find t tl
section
variable {P : Program} {w : World} {K : PySem.W.Frag} {mg : Str → Option Value} {base : Heap} {A : Ads}
abbrev sBWays : Stmt := inClass (top 59) 5
def spBWays (A : Ads) : Sp := fun vs H Q _ => ∃ (p d sg : Addr) (g : List SyLex.Word) (b : Nat) (js : List SyWays.Join) (ts : List (List Nat)) (t : List Nat), vs = [.ref p, .ref sg] ∧ BookAt A H p d g b js ts ∧ H sg = some (.tup (nv t)) ∧ Full g ∧ g.length ≤ 1000 ∧ t.length ≤ 1000 ∧
  (tabC g t).headD 0 ≤ 1024 ∧ ts.length ≤ 100000 ∧ ∀ H' q ts', SameBut1 d H H' → BookAt A H' p d g b js ts' → ts'.length ≤ ts.length + 1 → WaysAt H' q (sortedW g b js t) → Q (.ref q) H'
theorem scBWays : FnScope ["self", "signs"] ["self", "signs"] (defScope sBWays) := ⟨rfl, rfl, rfl, by decide +kernel, rfl, by decide +kernel, by decide +kernel⟩
theorem hu1 {A : Around} (h : A.units + 64 < cLine) : A.units + 1 < cLine := Nat.lt_of_le_of_lt (Nat.add_le_add_left (by decide) _) h
theorem ok_bWays (T : Txt K mg A) (N : Dist A) (G1 : MHas P w K mg base CX0 A.CB "text" 4 ["self", "signs"] (spText A)) (G2 : MHas P w K mg base CX0 A.CT "in_order" 6 ["self"] (spInOrder A)) {f : Addr} {fd : FuncData} (F : Fun K "ways" "Book.ways" sBWays f fd) :
    FnOk P w K mg base CX0 7 f fd ["self", "signs"] (spBWays A) := by
  refine F.ok scBWays (fun vs H Q E h => ?_) (fun cdv A' outer s H vs Q E hr h => ⟨_, pss_cons (ps_if (pt_cmp (pc_dnotin (hu1 hr.units) (pv 1) (pe_fld (pv 0) rfl)))
      (pss_one (ps_dput (hu1 hr.units) (pe_fld (pv 0) rfl) (pv 1) (meth_has0 G2 T.clT hr (meth_has G1 T.clB (hr.mono (by decide)) (pv 0) (pa_cons (pv 1) pa_nil))) rfl)) pss_nil)
    (pss_one (ps_ret (pe_dget (hu1 hr.units) (pe_fld (pv 0) rfl) (pv 1) (fun _ _ => rfl)))), ?_⟩)
  · obtain ⟨p, d, sg, g, b, js, ts, t, rfl, _⟩ := h
    rfl
  · obtain ⟨p, d, sg, g, b, js, ts, t, rfl, hB, hsg, hfull, hgl, htl, hc, htsl, k⟩ := h
    obtain ⟨dx, L, j, dj, dd, kvs, hp, hW, hj, hdd, hne, hd, hK⟩ := id hB
    refine ⟨_, rfl, _, rfl, p, A.CB, dx, _, _, rfl, hp, T.clB, T.aB _ (.tail _ (.tail _ (.head _))), bF_known, d, _, rfl, DGet.t (k := tk t) hd (by rw [tk_nv]; exact hsg), _, rfl, ?_⟩
    rcases known_find t hK with hn | ⟨q, hq1, hq2⟩
    · rw [hn]
      refine ifT rfl ?_
      refine ⟨_, rfl, p, dx, _, rfl, hp, bF_no_text, _, rfl, p, d, sg, g, b, js, ts, t, rfl, hB, hsg, hgl, by omega, fun H1 a s1 hT => ?_⟩
      obtain ⟨dt, Lt, jt, sgt, stt, ht1, _⟩ := id hT
      refine ⟨a, dt, _, rfl, ht1, tF_no_in_order, a, g, b, js, t, rfl, hT, hfull, hgl, htl, hc, fun H2 q s2 hq => ?_⟩
      have s12 := s1.trans s2
      have hB2 := hB.same s12
      have hd2 := s12 _ _ hd
      have hsz : kvs.length < sizeLine := by
        rw [Paired.length hK, sizeLine_eq]
        omega
      refine ⟨_, rfl, p, A.CB, dx, _, _, rfl, s12 _ _ hp, T.clB, T.aB _ (.tail _ (.tail _ (.head _))), bF_known, _, rfl, d, _, rfl, DPut.t (k := tk t) hd2 (by rw [tk_nv]; exact s12 _ _ hsg) hsz, ?_⟩
      rw [putK_new _ hn]
      have b3 : SameBut1 d H2 (upd H2 d (.dT (kvs ++ [(tk t, .ref q)]))) := .upd
      have npd : p ≠ d := ne_of hp hd (fun z => nomatch z)
      have hp3 := b3 p _ npd (s12 _ _ hp)
      have hq3 := hq.butT hd2 b3
      refine ⟨_, rfl, p, A.CB, dx, _, _, rfl, hp3, T.clB, T.aB _ (.tail _ (.tail _ (.head _))), bF_known, _, rfl, d, .ref q, rfl, ?_, k _ q (ts ++ [t]) (SameBut1.from_ s12 b3) ⟨dx, L, j, dj, dd, _, hp3, (hW.same s12).butT hd2 b3, b3 j _ (ne_of hj hd (fun z => nomatch z)) (s12 _ _ hj), b3 dd _ hne (s12 _ _ hdd), hne, upd_same, ?_⟩ (by rw [List.length_append]; exact Nat.le_refl _) hq3⟩
      · have := DGet.t (H := upd H2 d (.dT (kvs ++ [(tk t, .ref q)]))) (k := tk t) (a := d) (b := sg) upd_same (by rw [tk_nv]; exact b3 sg _ (ne_of hsg hd (fun z => nomatch z)) (s12 _ _ hsg))
        rw [valV_snoc (tk t) (tk t) (.ref q) kvs hn, if_pos rfl] at this
        exact this
      · refine prd_snoc (Paired.mapP hK fun kv t' z => ?_) ⟨rfl, q, rfl, hq3⟩
        obtain ⟨z1, z2, z3, z4⟩ := z
        exact ⟨z1, z2, z3, (z4.same s12).butT hd2 b3⟩
    · rw [hq1]
      refine ifF rfl ?_
      refine ⟨_, rfl, p, A.CB, dx, _, _, rfl, hp, T.clB, T.aB _ (.tail _ (.tail _ (.head _))), bF_known, _, rfl, d, .ref q, rfl, ?_, k H q ts (fun b v _ e => e) hB (Nat.le_succ _) hq2⟩
      have := DGet.t (k := tk t) (a := d) (b := sg) hd (by rw [tk_nv]; exact hsg)
      rw [hq1] at this
      exact this
end
end Sb
end
section
/-! Walks 22: tell_words, tell_joins -/
namespace Sb
open PySem PySem.Spec PyProof.Rows L2
theorem never_takes {X : Cx} : L2.Takes X (fun _ _ _ _ => False) := fun u s' x => by
  obtain ⟨_, _, _, _, _, _, _, _, _, _, _, _, _, _, _, _, w⟩ := x
  exact w.elim
section
variable {P : Program} {w : World} {K : PySem.W.Frag} {mg : Str → Option Value} {base : Heap} {A : Ads}
abbrev sTellW : Stmt := top 60
def spTellW (A : Ads) (K : PySem.W.Frag) : Sp := fun vs H Q _ => ∃ (p d sm : Addr) (g : List SyLex.Word) (b : Nat) (js : List SyWays.Join) (ts : List (List Nat)) (ns : List Nat), vs = [.ref p, .ref sm] ∧ BookAt A H p d g b js ts ∧ SqL K H sm (nv ns) ∧
  (65536 < ns.length → ∀ H' l, Same H H' → H l = none → H' l = some (.lst (iv [-1])) → Q (.ref l) H') ∧
  (∀ i k, ns.length ≤ 65536 → wordsM ns = .error (i, k) → ∀ H' l, Same H H' → H l = none → H' l = some (.lst (iv [-2, (i : Int), (k : Int)])) → Q (.ref l) H') ∧
  (∀ ws, ns.length ≤ 65536 → wordsM ns = .ok ws → ∀ H' l d', SameBut1 p H H' → H d' = none → BookAt A H' p d' (inOrder ws) b js [] → H l = none → H' l = some (.lst (iv [((inOrder ws).length : Int)])) → Q (.ref l) H')
theorem scTellW : FnScope ["book", "some", "words", "e"] ["book", "some"] (defScope sTellW) := ⟨rfl, rfl, rfl, by decide +kernel, rfl, by decide +kernel, by decide +kernel⟩
theorem flt_line {k j : Nat} : ([("kind", V.int (k : Int)), ("line", V.int (j : Int))] : List (Str × V)).lookup ("line" : Str) = some (.int (j : Int)) := (lk_past (by decide +kernel)).trans lk_here
theorem flt_kind {k j : Nat} : ([("kind", V.int (k : Int)), ("line", V.int (j : Int))] : List (Str × V)).lookup ("kind" : Str) = some (.int (k : Int)) := lk_here
theorem ok_tellW (T : Txt K mg A) (G1 : Has P w K mg base (L2.CX P w) "words_of" 9 ["some"] (spWordsOf K A.CF A.CW)) (G2 : MHas P w K mg base CX0 A.CB "put_words" 1 ["self", "words"] (spPutW A)) {f : Addr} {fd : FuncData} (F : Fun K "tell_words" "tell_words" sTellW f fd) :
    FnOk P w K mg base CX0 10 f fd ["book", "some"] (spTellW A K) := by
  refine F.ok scTellW (fun vs H Q E h => ?_) (fun cdv A' outer s H vs Q E hr h => ⟨_, pss_cons (ps_if (pt_cmp (pc_gt (pe_callB call_len_seq (by rfl) T.len PySem.boot_len (pa_cons (pv 1) pa_nil)) (glob_int T.MOST_BYTES))) (pss_one (ps_ret (pe_lst (pa_cons (glob_int T.WRONG_SIZE) pa_nil)))) pss_nil)
    (pss_cons (ps_try_as (c := .ref A.CF) (i := 3) (Wout := fun _ _ _ _ => False) (tb := fun W => tAsg (tCallS (spWordsOf K A.CF A.CW) (WE W) (tCons (tVar 1) tNil)) (gName 2))
        (ts := fun a cls d => tRet (tLst (tCons (tC (.int (-2))) (tCons (tXf a cls d A.CF "line" (tVar 3)) (tCons (tXf a cls d A.CF "kind" (tVar 3)) tNil))))) rfl rfl scTellW.nd rfl rfl ⟨rfl, by decide, .inl T.gF⟩ never_takes
        (fun W pn xe tk po => pss_one (ps_set (i := 2) scTellW.nd rfl (.inl rfl) (call_has G1 hr (passAt tk) (pa_cons (pv 1) pa_nil))))
        (fun a oe cls d pn hz hf => pss_one (ps_ret (pe_lst (pa_cons (glob_int T.FAULTY) (pa_cons (pe_xf T.fF T.nFl hz hf (pv 3)) (pa_cons (pe_xf T.fF T.nFk hz hf (pv 3)) pa_nil)))))))
    (pss_cons (ps_expr (meth_has G2 T.clB (hr.mono (by decide)) (pv 0) (pa_cons (pv 2) pa_nil)))
    (pss_one (ps_ret (pe_lst (pa_cons (pe_callB call_len_seq (by rfl) T.len PySem.boot_len (pa_cons (pv 2) pa_nil)) pa_nil)))))), ?_⟩)
  · obtain ⟨p, d, sm, g, b, js, ts, ns, rfl, _⟩ := h
    rfl
  · obtain ⟨p, d, sm, g, b, js, ts, ns, rfl, hB, hS, k1, k2, k3⟩ := h
    refine ⟨_, rfl, sm, _, rfl, .inl hS, _, _, rfl, rfl, _, rfl, ifD (fun c => ?_) fun c => ?_⟩
    · rw [nv_length] at c
      exact ⟨by show 1 ≤ sizeLine; decide, fun l hl => k1 (by omega) _ l (Same.new hl) hl upd_same⟩
    · rw [nv_length] at c
      have hlen : ns.length ≤ 65536 := by omega
      refine ⟨_, rfl, sm, ns, rfl, hS, by omega, fun H1 L ws s1 ew hW => ?_, fun H1 dd i k s1 ew hdd hx => ?_⟩
      · obtain ⟨dx, L0, j, dj, dd, kvs, hp, _⟩ := id (hB.same s1)
        refine ⟨_, rfl, p, dx, _, rfl, hp, bF_no_put_words, _, rfl, p, d, L, g, inOrder ws, b, js, ts, rfl, hB.same s1, hW, fun H2 d' sb hd' hB2 => ?_⟩
        obtain ⟨as, hL, hP⟩ := id hW
        have nL : L ≠ p := ne_of hL hp (fun z => nomatch z)
        refine ⟨_, rfl, L, _, rfl, .inl (SqL.of (sb L _ nL hL)), by show 1 ≤ sizeLine; decide, fun l hl => ?_⟩
        have s2 : Same H2 (upd H2 l (.lst [.int (((refs as).length : Nat) : Int)])) := Same.new hl
        have sb2 : SameBut1 p H (upd H2 l (.lst [.int (((refs as).length : Nat) : Int)])) := SameBut1.from_ s1 (sb.then_ s2)
        refine k3 ws hlen ew _ l d' sb2 (s1.free hd') (hB2.same s2) ?_ ?_
        · cases q : H l with
          | none => rfl
          | some v =>
            have npl : l ≠ p := fun e => by
              obtain ⟨_, _, _, _, _, _, z, _⟩ := hB2
              rw [e, z] at hl
              cases hl
            rw [sb l v npl (s1 _ _ q)] at hl
            cases hl
        · rw [upd_same, refs_len, Paired.length hP]
          rfl
      · refine ⟨true, T.eF, fun _ a ha => ?_, fun z => nomatch z⟩
        refine ⟨_, rfl, rfl, rfl, dd, _, _, rfl, hx, flt_line, _, rfl, rfl, rfl, dd, _, _, rfl, hx, flt_kind, by show 3 ≤ sizeLine; decide, fun l hl => ?_⟩
        exact k2 i k hlen ew _ l (s1.more hl) (s1.free hl) upd_same

/-! tell_joins -/
abbrev sTellJ : Stmt := top 61
def spTellJ (A : Ads) (K : PySem.W.Frag) : Sp := fun vs H Q _ => ∃ (p d sm : Addr) (g : List SyLex.Word) (b : Nat) (js : List SyWays.Join) (ts : List (List Nat)) (ns : List Nat), vs = [.ref p, .ref sm] ∧ BookAt A H p d g b js ts ∧ SqL K H sm (nv ns) ∧
  (65536 < ns.length → ∀ H' l, Same H H' → H l = none → H' l = some (.lst (iv [-1])) → Q (.ref l) H') ∧
  (∀ i k, ns.length ≤ 65536 → joinsM ns = .error (i, k) → ∀ H' l, Same H H' → H l = none → H' l = some (.lst (iv [-2, (i : Int), (k : Int)])) → Q (.ref l) H') ∧
  (∀ b' js', ns.length ≤ 65536 → joinsM ns = .ok (b', js') → ∀ H' l d', SameBut1 p H H' → H d' = none → BookAt A H' p d' g b' js' [] → H l = none → H' l = some (.lst (iv [((js'.filter fun (j : SyWays.Join) => j.cost != 0).length : Int)])) → Q (.ref l) H')
theorem scTellJ : FnScope ["book", "some", "joins", "e"] ["book", "some"] (defScope sTellJ) := ⟨rfl, rfl, rfl, by decide +kernel, rfl, by decide +kernel, by decide +kernel⟩
theorem joinsM_len {ns : List Nat} {b : Nat} {js : List SyWays.Join} (h : joinsM ns = .ok (b, js)) (hl : ns.length ≤ 65536) : js.length ≤ 100000 := by
  have hc := linesOf_count ns
  unfold joinsM at h
  cases e : linesOf ns with
  | nil => rw [e] at h; cases h
  | cons l r =>
    rw [e] at h
    have h' : (match byM l with
      | .error e => .error e
      | .ok a => (joinsGo 1 r []).map fun js => (a, js)) = (.ok (b, js) : Except (Nat × Nat) (Nat × List SyWays.Join)) := h
    cases e2 : byM l with
    | error z => rw [e2] at h'; cases h'
    | ok a =>
      rw [e2] at h'
      have h2 : (joinsGo 1 r []).map (fun js => (a, js)) = (.ok (b, js) : Except (Nat × Nat) (Nat × List SyWays.Join)) := h'
      cases e3 : joinsGo 1 r [] with
      | error z => rw [e3] at h2; cases h2
      | ok js2 =>
        rw [e3] at h2
        cases h2
        have := (joinsGo_ok r 1 [] js e3 List.nodup_nil).2
        rw [e] at hc
        simp only [List.length_nil, List.length_cons] at this hc
        omega
theorem ok_tellJ (T : Txt K mg A) (N : Dist A) (G1 : Has P w K mg base (L2.CX P w) "joins_of" 9 ["some"] (spJoinsOf K A.CF A.CJ)) (G2 : MHas P w K mg base CX0 A.CB "put_joins" 1 ["self", "joins"] (spPutJ A)) (G3 : MHas P w K mg base CX0 A.CJ "many" 1 ["self"] (spJMany A.CJ))
    {f : Addr} {fd : FuncData} (F : Fun K "tell_joins" "tell_joins" sTellJ f fd) : FnOk P w K mg base CX0 10 f fd ["book", "some"] (spTellJ A K) := by
  refine F.ok scTellJ (fun vs H Q E h => ?_) (fun cdv A' outer s H vs Q E hr h => ⟨_, pss_cons (ps_if (pt_cmp (pc_gt (pe_callB call_len_seq (by rfl) T.len PySem.boot_len (pa_cons (pv 1) pa_nil)) (glob_int T.MOST_BYTES))) (pss_one (ps_ret (pe_lst (pa_cons (glob_int T.WRONG_SIZE) pa_nil)))) pss_nil)
    (pss_cons (ps_try_as (c := .ref A.CF) (i := 3) (Wout := fun _ _ _ _ => False) (tb := fun W => tAsg (tCallS (spJoinsOf K A.CF A.CJ) (WE W) (tCons (tVar 1) tNil)) (gName 2))
        (ts := fun a cls d => tRet (tLst (tCons (tC (.int (-2))) (tCons (tXf a cls d A.CF "line" (tVar 3)) (tCons (tXf a cls d A.CF "kind" (tVar 3)) tNil))))) rfl rfl scTellJ.nd rfl rfl ⟨rfl, by decide, .inl T.gF⟩ never_takes
        (fun W pn xe tk po => pss_one (ps_set (i := 2) scTellJ.nd rfl (.inl rfl) (call_has G1 hr (passAt tk) (pa_cons (pv 1) pa_nil))))
        (fun a oe cls d pn hz hf => pss_one (ps_ret (pe_lst (pa_cons (glob_int T.FAULTY) (pa_cons (pe_xf T.fF T.nFl hz hf (pv 3)) (pa_cons (pe_xf T.fF T.nFk hz hf (pv 3)) pa_nil)))))))
    (pss_cons (ps_expr (meth_has G2 T.clB (hr.mono (by decide)) (pv 0) (pa_cons (pv 2) pa_nil)))
    (pss_one (ps_ret (pe_lst (pa_cons (meth_has0 G3 T.clJ (hr.mono (by decide)) (pv 2)) pa_nil)))))), ?_⟩)
  · obtain ⟨p, d, sm, g, b, js, ts, ns, rfl, _⟩ := h
    rfl
  · obtain ⟨p, d, sm, g, b, js, ts, ns, rfl, hB, hS, k1, k2, k3⟩ := h
    refine ⟨_, rfl, sm, _, rfl, .inl hS, _, _, rfl, rfl, _, rfl, ifD (fun c => ?_) fun c => ?_⟩
    · rw [nv_length] at c
      exact ⟨by show 1 ≤ sizeLine; decide, fun l hl => k1 (by omega) _ l (Same.new hl) hl upd_same⟩
    · rw [nv_length] at c
      have hlen : ns.length ≤ 65536 := by omega
      refine ⟨_, rfl, sm, ns, rfl, hS, by omega, fun H1 L b' js' s1 ew hJ => ?_, fun H1 dd i k s1 ew hdd hx => ?_⟩
      · obtain ⟨dx, L0, j, dj, dd, kvs, hp, _⟩ := id (hB.same s1)
        refine ⟨_, rfl, p, dx, _, rfl, hp, bF_no_put_joins, _, rfl, p, d, L, g, b, b', js, js', ts, rfl, hB.same s1, hJ, fun H2 d' sb hd' hB2 => ?_⟩
        obtain ⟨dj2, dd2, hL, hdd2⟩ := id hJ
        have nL : L ≠ p := fun e => by
          rw [e, hp] at hL
          exact N.bj (HO.ins.inj (Option.some.inj hL)).1
        have hJ2 : JoinsAt A.CJ H2 L b' js' := ⟨dj2, dd2, sb L _ nL hL, sb dd2 _ (ne_of hdd2 hp (fun z => nomatch z)) hdd2⟩
        obtain ⟨dj3, dd3, hL3, _⟩ := id hJ2
        refine ⟨_, rfl, L, dj3, _, rfl, hL3, jF_no_many, L, b', js', rfl, hJ2, joinsM_len ew hlen, fun H3 s3 => ⟨by show 1 ≤ sizeLine; decide, fun l hl => ?_⟩⟩
        have s2 : Same H2 (upd H3 l (.lst [.int (((js'.filter fun (j : SyWays.Join) => j.cost != 0).length : Nat) : Int)])) := s3.more hl
        have sb2 := SameBut1.from_ s1 (sb.then_ s2)
        refine k3 b' js' hlen ew _ l d' sb2 (s1.free hd') (hB2.same s2) ?_ upd_same
        cases q : H l with
        | none => rfl
        | some v =>
          have npl : l ≠ p := fun e => by
            obtain ⟨_, _, _, _, _, _, z, _⟩ := hB2
            rw [e, s3 _ _ z] at hl
            cases hl
          rw [s3 _ _ (sb l v npl (s1 _ _ q))] at hl
          cases hl
      · refine ⟨true, T.eF, fun _ a ha => ?_, fun z => nomatch z⟩
        refine ⟨_, rfl, rfl, rfl, dd, _, _, rfl, hx, flt_line, _, rfl, rfl, rfl, dd, _, _, rfl, hx, flt_kind, by show 3 ≤ sizeLine; decide, fun l hl => ?_⟩
        exact k2 i k hlen ew _ l (s1.more hl) (s1.free hl) upd_same
end
end Sb
end
section
/-! Walks 23: refusal_of, ask -/
namespace Sb
open PySem PySem.Spec PyProof.Rows L2
/-- what is refused of signs -/
def refM (g : List SyLex.Word) (t : List Nat) : Int := if t = [] ∨ 24 < t.length then -1 else if t.all SyBase.isChar = false then -3 else if 1024 < (tabC g t).headD 0 then -6 else 0
def askM (g : List SyLex.Word) (b : Nat) (js : List SyWays.Join) (m : Nat) (xs t : List Nat) : List Int := if refM g t ≠ 0 then [refM g t] else if m = 4 then [((sortedW g b js t).length : Int)] else match (sortedW g b js t)[xs.headD 0]? with
  | none => [-5]
  | some wy => if m = 5 then toldM g b js t wy else (readM g t wy).map fun (n : Nat) => (n : Int)
section
variable {P : Program} {w : World} {K : PySem.W.Frag} {mg : Str → Option Value} {base : Heap} {A : Ads}
abbrev sRefusal : Stmt := top 62
def spRefusal (A : Ads) : Sp := fun vs H Q _ => ∃ (p d sg : Addr) (g : List SyLex.Word) (b : Nat) (js : List SyWays.Join) (ts : List (List Nat)) (t : List Nat), vs = [.ref p, .ref sg] ∧ BookAt A H p d g b js ts ∧ H sg = some (.tup (nv t)) ∧ Full g ∧ g.length ≤ 1000 ∧ t.length ≤ 70000 ∧
  ∀ H', Same H H' → Q (.int (refM g t)) H'
theorem scRefusal : FnScope ["book", "signs", "sign"] ["book", "signs"] (defScope sRefusal) := ⟨rfl, rfl, rfl, by decide +kernel, rfl, by decide +kernel, by decide +kernel⟩
theorem ok_refusal (T : Txt K mg A) (G1 : Has P w K mg base CX0 "is_character" 2 ["one"] spIsCh) (G2 : MHas P w K mg base CX0 A.CB "text" 4 ["self", "signs"] (spText A)) (G3 : MHas P w K mg base CX0 A.CT "many" 2 ["self"] (spTMany A)) {f : Addr} {fd : FuncData} (F : Fun K "refusal_of" "refusal_of" sRefusal f fd) :
    FnOk P w K mg base CX0 5 f fd ["book", "signs"] (spRefusal A) := by
  refine F.ok scRefusal (fun vs H Q E h => ?_) (fun cdv A' outer s H vs Q E hr h => ⟨_, pss_cons (ps_if (PW.pt (pw_or (pt_cmpR (op_eqD hr.units) (pv 1) (pe_tup pa_nil) (nomark _)) (pw_or1 (pt_cmp (pc_gt (pe_callB call_len_seq (by rfl) T.len PySem.boot_len (pa_cons (pv 1) pa_nil)) (glob_int T.MOST_SIGNS_readings)))))) (pss_one (ps_ret (glob_int T.WRONG_SIZE))) pss_nil)
    (pss_cons (ps_if (pt_not (pt_val (pe_callB (cr_all rfl) (by rfl) T.all (by decide +kernel) (pa_cons
        (pe_lc (own := [("sign", 2)]) (g := gName 2) (tt := tYes) (te := tCallS spIsCh (fun _ => E0) (tCons (tVar 2) tNil)) rfl scRefusal.nd (pi_tup (pv 1)) (blkOk_by (N := ["book", "signs", "sign"]) (sc := defScope sRefusal) (by decide +kernel)) (fun _ _ _ _ _ => pg_name (i := 2) scRefusal.nd rfl (.inl rfl)) (fun _ _ _ _ _ => pts_nil)
          (fun _ _ _ _ _ => call_has G1 (hr.mono (by decide)) (E := fun _ => E0) at0 (pa_cons (pv 2) pa_nil))) pa_nil)))) (pss_one (ps_ret (glob_int T.NO_CHARACTER))) pss_nil)
    (pss_cons (ps_if (pt_cmp (pc_gt (meth_has0 G3 T.clT (hr.mono (by decide)) (meth_has G2 T.clB hr (pv 0) (pa_cons (pv 1) pa_nil))) (glob_int T.MOST_WAYS))) (pss_one (ps_ret (glob_int T.TOO_MANY))) pss_nil)
    (pss_one (ps_ret pe_int)))), ?_⟩)
  · obtain ⟨p, d, sg, g, b, js, ts, t, rfl, _⟩ := h
    rfl
  · obtain ⟨p, d, sg, g, b, js, ts, t, rfl, hB, hsg, hfull, hgl, htl, k⟩ := h
    refine ⟨_, rfl, Nat.zero_le _, fun z hz => ?_⟩
    have s1 : Same H (upd H z (.tup [])) := Same.new hz
    refine ⟨.tuple (intsD t), .tuple (intsD []), .tup (SqT.of (s1 _ _ hsg)) (dpAll_ints t), .tup (SqT.of upd_same) .nil, shaped_tup t, shaped_tup [], _, rfl, ?_⟩
    rw [eqv_tup]
    by_cases c1 : t = []
    · refine ifT (by rw [c1]; rfl) ?_
      have := k _ s1
      unfold refM at this
      rw [if_pos (.inl c1)] at this
      exact this
    refine ifF (by simpa using c1) ⟨_, rfl, sg, _, rfl, .inr (SqT.of (s1 _ _ hsg)), _, _, rfl, rfl, _, rfl, ifD (fun c2 => ?_) fun c2 => ?_⟩
    · rw [nv_length] at c2
      have := k _ s1
      unfold refM at this
      rw [if_pos (.inr (by omega))] at this
      exact this
    rw [nv_length] at c2
    have e1 : refM g t = if t.all SyBase.isChar = false then -3 else if 1024 < (tabC g t).headD 0 then -6 else 0 := by
      unfold refM
      rw [if_neg fun z => z.elim c1 fun z => by omega]
    refine ⟨_, rfl, sg, rfl, ⟨_, SqT.of (s1 _ _ hsg)⟩, fun D hD => ?_⟩
    refine lc_tup (K := K) (a := sg) (xs := nv t) (fun i H' => ∃ Hx, Off Hx H' D (.lst (((t.take i).map SyBase.isChar).map V.bl)) ∧ Same (upd H z (.tup [])) Hx) ⟨_, Off.new hD, Same.refl _⟩ (fun i H' _ ⟨Hx, f, s2⟩ => SqT.of ((s1.trans (s2.trans f.same)) _ _ hsg)) ?_ ?_
    · rintro i x H' hi ⟨Hx, f, s2⟩
      obtain ⟨n, hn, rfl⟩ := nv_get hi
      have hil := (List.getElem?_eq_some_iff.mp hn).1
      refine ⟨rfl, tyes ⟨_, rfl, n, rfl, _, f.at, ?_, Hx, ?_, s2⟩⟩
      · rw [List.length_map, List.length_map, List.length_take, sizeLine_eq]
        omega
      · rw [take_more hn, List.map_append, List.map_append]
        exact f.put _
    · rintro H' ⟨Hx, f, s2⟩
      have sH := s1.trans (s2.trans f.same)
      rw [nv_length, List.take_length] at f
      refine ⟨D, t.map SyBase.isChar, rfl, SqL.of f.at, ?_⟩
      rw [all_map]
      refine ⟨_, rfl, ?_⟩
      by_cases c3 : t.all SyBase.isChar = true
      · rw [if_neg (by rw [c3]; exact Bool.noConfusion)] at e1
        refine ifF (by rw [c3]; rfl) ?_
        obtain ⟨dx, L, j, dj, dd, kvs, hp, _⟩ := id (hB.same sH)
        refine ⟨_, rfl, p, dx, _, rfl, hp, bF_no_text, _, rfl, p, d, sg, g, b, js, ts, t, rfl, hB.same sH, sH _ _ hsg, hgl, htl, fun H2 a s3 hT => ?_⟩
        obtain ⟨dt, Lt, jt, sgt, stt, ht1, _⟩ := id hT
        refine ⟨a, dt, _, rfl, ht1, tF_no_many, a, g, b, js, t, rfl, hT, hfull, hgl, htl, fun H3 s4 => ⟨_, _, rfl, rfl, _, rfl, ifD (fun c4 => ?_) fun c4 => ?_⟩⟩
        · rw [if_pos (by omega)] at e1
          rw [e1] at k
          exact k H3 (sH.trans (s3.trans s4))
        · rw [if_neg (by omega)] at e1
          rw [e1] at k
          exact k H3 (sH.trans (s3.trans s4))
      · rw [Bool.not_eq_true] at c3
        rw [if_pos c3] at e1
        rw [e1] at k
        exact ifT (by rw [c3]; rfl) (k H' sH)
end
end Sb
end
section
/-! Walks 24: ask, answer -/
namespace Sb
open PySem PySem.Spec PyProof.Rows L2
theorem refM_zero {g : List SyLex.Word} {t : List Nat} (h : refM g t = 0) : t ≠ [] ∧ t.length ≤ 24 ∧ t.all SyBase.isChar = true ∧ (tabC g t).headD 0 ≤ 1024 := by
  unfold refM at h
  split at h
  · cases h
  · rename_i h1
    split at h
    · cases h
    · rename_i h2
      split at h
      · cases h
      · rename_i h3
        refine ⟨fun z => h1 (.inl z), ?_, by simpa using h2, by omega⟩
        have : ¬ 24 < t.length := fun z => h1 (.inr z)
        omega
theorem sorted_mem {g : List SyLex.Word} {b : Nat} {js : List SyWays.Join} {t : List Nat} {wy : Wy} (h : wy ∈ sortedW g b js t) : okWy g t wy ∧ wy.length ≤ t.length := ways_ok ((List.mergeSort_perm _ _).mem_iff.mp h)
section
variable {P : Program} {w : World} {K : PySem.W.Frag} {mg : Str → Option Value} {base : Heap} {A : Ads}
abbrev sAsk : Stmt := top 63
def spAsk (A : Ads) (K : PySem.W.Frag) : Sp := fun vs H Q _ => ∃ (p d sm sg : Addr) (m : Nat) (xs : List Nat) (g : List SyLex.Word) (b : Nat) (js : List SyWays.Join) (ts : List (List Nat)) (t : List Nat), vs = [.ref p, .int (m : Int), .ref sm, .ref sg] ∧ BookAt A H p d g b js ts ∧ H sm = some (lstN xs) ∧ (m ≠ 4 → xs ≠ []) ∧ H sg = some (.tup (nv t)) ∧
  Full g ∧ Short g ∧ g.length ≤ 1000 ∧ t.length ≤ 70000 ∧ ts.length ≤ 90000 ∧ ∀ H' l ts', SameBut1 d H H' → BookAt A H' p d g b js ts' → ts'.length ≤ ts.length + 1 → H l = none → H' l = some (.lst (iv (askM g b js m xs t))) → Q (.ref l) H'
theorem scAsk : FnScope ["book", "number", "some", "signs", "refusal", "ways"] ["book", "number", "some", "signs"] (defScope sAsk) := ⟨rfl, rfl, rfl, by decide +kernel, rfl, by decide +kernel, by decide +kernel⟩
theorem free_but {q l : Addr} {H H' : Hp} (s : SameBut1 q H H') (h : H' l = none) (n : l ≠ q) : H l = none := by
  cases e : H l with
  | none => rfl
  | some v =>
    rw [s l v n e] at h
    cases h
theorem ok_ask (T : Txt K mg A) (G1 : Has P w K mg base CX0 "refusal_of" 5 ["book", "signs"] (spRefusal A)) (G2 : MHas P w K mg base CX0 A.CB "ways" 7 ["self", "signs"] (spBWays A)) (G3 : MHas P w K mg base CX0 A.CB "text" 4 ["self", "signs"] (spText A))
    (G4 : MHas P w K mg base CX0 A.CT "told" 3 ["self", "way"] (spTold A)) (G5 : MHas P w K mg base CX0 A.CT "reading" 2 ["self", "way"] (spReading A)) {f : Addr} {fd : FuncData} (F : Fun K "ask" "ask" sAsk f fd) :
    FnOk P w K mg base CX0 8 f fd ["book", "number", "some", "signs"] (spAsk A K) := by
  refine F.ok scAsk (fun vs H Q E h => ?_) (fun cdv A' outer s H vs Q E hr h => ⟨_, pss_cons (ps_set (i := 4) scAsk.nd rfl (.inl rfl) (call_has G1 (hr.mono (by decide)) (E := fun _ => E0) at0 (pa_cons (pv 0) (pa_cons (pv 3) pa_nil))))
    (pss_cons (ps_if (pt_cmp (pc_neI (pv 4) pe_int)) (pss_one (ps_ret (pe_lst (pa_cons (pv 4) pa_nil)))) pss_nil)
    (pss_cons (ps_set (i := 5) scAsk.nd rfl (.inl rfl) (meth_has G2 T.clB hr (pv 0) (pa_cons (pv 3) pa_nil)))
    (pss_cons (ps_if (pt_cmp (pc_eqI (pv 1) pe_int)) (pss_one (ps_ret (pe_lst (pa_cons (pe_callB call_len_seq (by rfl) T.len PySem.boot_len (pa_cons (pv 5) pa_nil)) pa_nil)))) pss_nil)
    (pss_cons (ps_if (pt_cmp (pc_ge (pe_ix ix_list (pv 2) pe_int (fun _ _ => rfl)) (pe_callB call_len_seq (by rfl) T.len PySem.boot_len (pa_cons (pv 5) pa_nil)))) (pss_one (ps_ret (pe_lst (pa_cons (glob_int T.NONE_SUCH) pa_nil)))) pss_nil)
    (pss_cons (ps_if (pt_cmp (pc_eqI (pv 1) pe_int)) (pss_one (ps_ret (meth_has G4 T.clT (hr.mono (by decide)) (meth_has G3 T.clB (hr.mono (by decide)) (pv 0) (pa_cons (pv 3) pa_nil)) (pa_cons (pe_ix ix_list (pv 5) (pe_ix ix_list (pv 2) pe_int (fun _ _ => rfl)) (fun _ _ => rfl)) pa_nil)))) pss_nil)
    (pss_one (ps_ret (meth_has G5 T.clT (hr.mono (by decide)) (meth_has G3 T.clB (hr.mono (by decide)) (pv 0) (pa_cons (pv 3) pa_nil)) (pa_cons (pe_ix ix_list (pv 5) (pe_ix ix_list (pv 2) pe_int (fun _ _ => rfl)) (fun _ _ => rfl)) pa_nil))))))))), ?_⟩)
  · obtain ⟨p, d, sm, sg, m, xs, g, b, js, ts, t, rfl, _⟩ := h
    rfl
  · obtain ⟨p, d, sm, sg, m, xs, g, b, js, ts, t, rfl, hB, hsm, hxs, hsg, hfull, hsh, hgl, htl, htsl, k⟩ := h
    refine ⟨_, rfl, _, rfl, p, d, sg, g, b, js, ts, t, rfl, hB, hsg, hfull, hgl, htl, fun H1 s1 => ?_⟩
    have hB1 := hB.same s1
    obtain ⟨dx, L, j, dj, dd, kvs, hp, _, _, _, _, hd, _⟩ := id hB1
    have plain : ∀ H', Same H H' → ∀ l, H l = none → H' l = some (.lst (iv (askM g b js m xs t))) → Q (.ref l) H' := fun H' s' l h1 h2 => k H' l ts (fun c v _ e => s' _ _ e) (hB.same s') (Nat.le_succ _) h1 h2
    refine ⟨_, rfl, _, _, rfl, rfl, _, rfl, ?_⟩
    by_cases c1 : refM g t = 0
    rotate_left
    · refine ifT (by simp [c1]) ⟨_, rfl, by show 1 ≤ sizeLine; decide, fun l hl => plain _ (s1.more hl) l (s1.free hl) ?_⟩
      rw [upd_same]
      unfold askM
      rw [if_pos c1]
      rfl
    · refine ifF (by simp [c1]) ?_
      obtain ⟨t1, t2, t3, t4⟩ := refM_zero c1
      refine ⟨_, rfl, p, dx, _, rfl, hp, bF_no_ways, _, rfl, p, d, sg, g, b, js, ts, t, rfl, hB1, s1 _ _ hsg, hfull, hgl, by omega, t4, by omega, fun H2 q ts' sb hB2 htl2 hW => ?_⟩
      have npd : p ≠ d := ne_of hp hd (fun z => nomatch z)
      have sbH : SameBut1 d H H2 := SameBut1.from_ s1 sb
      have hsg2 : H2 sg = some (.tup (nv t)) := sb sg _ (ne_of (s1 _ _ hsg) hd (fun z => nomatch z)) (s1 _ _ hsg)
      obtain ⟨as, hq, hP⟩ := id hW
      have has := Paired.length hP
      have ea : askM g b js m xs t = if m = 4 then [((sortedW g b js t).length : Int)] else match (sortedW g b js t)[xs.headD 0]? with
          | none => [-5]
          | some wy => if m = 5 then toldM g b js t wy else (readM g t wy).map fun (n : Nat) => (n : Int) := by
        unfold askM
        rw [if_neg fun z => z c1]
        try rfl
      obtain ⟨dx2, L2', j2, dj2, dd2, kvs2, hp2, _, _, _, _, hd2, _⟩ := id hB2
      have done : ∀ H' l, Same H2 H' → H2 l = none → H' l = some (.lst (iv (askM g b js m xs t))) → Q (.ref l) H' := fun H' l s' h1 h2 => by
        refine k H' l ts' (sbH.then_ s') (hB2.same s') htl2 (free_but sbH h1 fun e => ?_) h2
        rw [e, hd2] at h1
        cases h1
      refine ⟨_, rfl, _, _, rfl, rfl, _, rfl, ?_⟩
      by_cases c2 : m = 4
      · refine ifT (decide_eq_true (by omega)) ⟨_, rfl, q, _, rfl, .inl (SqL.of hq), by show 1 ≤ sizeLine; decide, fun l hl => done _ l (Same.new hl) hl ?_⟩
        rw [upd_same, ea, if_pos c2, refs_len, has]
        rfl
      · refine ifF (decide_eq_false (by omega)) ?_
        rw [if_neg c2] at ea
        obtain ⟨i, xr, exs⟩ : ∃ i xr, xs = i :: xr := by
          cases xs with
          | nil => exact absurd rfl (hxs c2)
          | cons i xr => exact ⟨i, xr, rfl⟩
        subst exs
        have hsm2 : H2 sm = some (lstN (i :: xr)) := sb sm _ (ne_of (s1 _ _ hsm) hd (fun z => nomatch z)) (s1 _ _ hsm)
        have at0' : ∀ {H'}, H' sm = some (lstN (i :: xr)) → SqL K H' sm (nv (i :: xr)) := fun h => SqL.of h
        have ai : atI (nv (i :: xr)) ((0 : Nat) : Int) = some (.int (i : Int)) := atI_nat rfl
        refine ⟨_, rfl, sm, _, 0, _, rfl, rfl, SqL.of hsm2, ai, _, rfl, q, _, rfl, .inl (SqL.of hq), _, _, rfl, rfl, _, rfl, ifD (fun c3 => ?_) fun c3 => ?_⟩
        · rw [refs_len, has] at c3
          refine ⟨by show 1 ≤ sizeLine; decide, fun l hl => done _ l (Same.new hl) hl ?_⟩
          have : (sortedW g b js t)[(i :: xr).headD 0]? = none := List.getElem?_eq_none (by show _ ≤ i; omega)
          rw [upd_same, ea, this]
          rfl
        · rw [refs_len, has] at c3
          have hi : i < (sortedW g b js t).length := by omega
          obtain ⟨e, he, hz⟩ := prd_at hP (List.getElem?_eq_getElem hi)
          obtain ⟨o1, o2⟩ := sorted_mem (List.getElem_mem hi)
          have hsome : (sortedW g b js t)[(i :: xr).headD 0]? = some (sortedW g b js t)[i] := List.getElem?_eq_getElem hi
          rw [hsome] at ea
          have ea : askM g b js m (i :: xr) t = if m = 5 then toldM g b js t (sortedW g b js t)[i] else (readM g t (sortedW g b js t)[i]).map fun (n : Nat) => (n : Int) := ea
          refine ⟨_, rfl, _, _, rfl, rfl, _, rfl, ?_⟩
          by_cases c4 : m = 5
          · rw [if_pos c4] at ea
            refine ifT (decide_eq_true (by omega)) ⟨_, rfl, p, dx2, _, rfl, hp2, bF_no_text, _, rfl, p, d, sg, g, b, js, ts', t, rfl, hB2, hsg2, hgl, htl, fun H3 a s3 hT => ?_⟩
            obtain ⟨dt, Lt, jt, sgt, stt, ht1, _⟩ := id hT
            refine ⟨a, dt, _, rfl, ht1, tF_no_told, _, rfl, _, rfl, sm, _, 0, _, rfl, rfl, SqL.of (s3 _ _ hsm2), ai, q, _, _, _, rfl, rfl, SqL.of (s3 _ _ hq), atI_nat (refs_at he), a, e, g, b, js, t, (sortedW g b js t)[i], rfl, hT, hz.same s3, o1, by omega, fun H4 l s4 hl hl2 => ?_⟩
            exact done H4 l (s3.trans s4) (s3.free hl) (by rw [ea]; exact hl2)
          · rw [if_neg c4] at ea
            refine ifF (decide_eq_false (by omega)) ⟨_, rfl, p, dx2, _, rfl, hp2, bF_no_text, _, rfl, p, d, sg, g, b, js, ts', t, rfl, hB2, hsg2, hgl, htl, fun H3 a s3 hT => ?_⟩
            obtain ⟨dt, Lt, jt, sgt, stt, ht1, _⟩ := id hT
            refine ⟨a, dt, _, rfl, ht1, tF_no_reading, _, rfl, _, rfl, sm, _, 0, _, rfl, rfl, SqL.of (s3 _ _ hsm2), ai, q, _, _, _, rfl, rfl, SqL.of (s3 _ _ hq), atI_nat (refs_at he), a, e, g, b, js, t, (sortedW g b js t)[i], rfl, hT, hz.same s3, o1, by omega, hsh, fun H4 l s4 hl hl2 => ?_⟩
            refine done H4 l (s3.trans s4) (s3.free hl) ?_
            rw [ea, hl2]
            unfold lstN iv
            rw [nv_ints]

/-! answer -/
abbrev MS := List SyLex.Word × Nat × List SyWays.Join
def stepM (s : MS) (m : Nat) (xs row : List Nat) : MS × List Int :=
  if m = 1 then (([], 65535, []), [0])
  else if m = 2 then (if 65536 < row.length then (s, [-1]) else match wordsM row with
    | .error (i, k) => (s, [-2, (i : Int), (k : Int)])
    | .ok ws => ((inOrder ws, s.2.1, s.2.2), [((inOrder ws).length : Int)]))
  else if m = 3 then (if 65536 < row.length then (s, [-1]) else match joinsM row with
    | .error (i, k) => (s, [-2, (i : Int), (k : Int)])
    | .ok (b, js) => ((s.1, b, js), [((js.filter fun (j : SyWays.Join) => j.cost != 0).length : Int)]))
  else (s, askM s.1 s.2.1 s.2.2 m xs row)
abbrev sAnswer : Stmt := top 64
def spAnswer (A : Ads) : Sp := fun vs H Q _ => ∃ (p d sm rw : Addr) (m : Nat) (xs row : List Nat) (s : MS) (ts : List (List Nat)), vs = [.ref p, .int (m : Int), .ref sm, .ref rw] ∧ BookAt A H p d s.1 s.2.1 s.2.2 ts ∧ H sm = some (lstN xs) ∧ (4 < m → xs ≠ []) ∧ H rw = some (lstN row) ∧ 1 ≤ m ∧
  Full s.1 ∧ Short s.1 ∧ s.1.length ≤ 1000 ∧ row.length ≤ 70000 ∧ ts.length ≤ 90000 ∧ ∀ H' l d' ts', (∀ c v, c ≠ p → c ≠ d → H c = some v → H' c = some v) → (d' = d ∨ H d' = none) → BookAt A H' p d' (stepM s m xs row).1.1 (stepM s m xs row).1.2.1 (stepM s m xs row).1.2.2 ts' →
    ts'.length ≤ ts.length + 1 → H l = none → H' l = some (.lst (iv (stepM s m xs row).2)) → Q (.ref l) H'
theorem scAnswer : FnScope ["book", "number", "some", "row"] ["book", "number", "some", "row"] (defScope sAnswer) := ⟨rfl, rfl, rfl, by decide +kernel, rfl, by decide +kernel, by decide +kernel⟩
theorem ok_answer (T : Txt K mg A) (G1 : MHas P w K mg base CX0 A.CB "begin" 3 ["self"] (spBegin A)) (G2 : Has P w K mg base CX0 "tell_words" 10 ["book", "some"] (spTellW A K)) (G3 : Has P w K mg base CX0 "tell_joins" 10 ["book", "some"] (spTellJ A K))
    (G4 : Has P w K mg base CX0 "ask" 8 ["book", "number", "some", "signs"] (spAsk A K)) {f : Addr} {fd : FuncData} (F : Fun K "answer" "answer" sAnswer f fd) : FnOk P w K mg base CX0 11 f fd ["book", "number", "some", "row"] (spAnswer A) := by
  refine F.ok scAnswer (fun vs H Q E h => ?_) (fun cdv A' outer s H vs Q E hr h => ⟨_, pss_cons (ps_if (pt_cmp (pc_eqI (pv 1) (glob_int T.BEGIN))) (pss_cons (ps_expr (meth_has0 G1 T.clB (hr.mono (by decide)) (pv 0))) (pss_one (ps_ret (pe_lst (pa_cons pe_int pa_nil))))) pss_nil)
    (pss_cons (ps_if (pt_cmp (pc_eqI (pv 1) pe_int)) (pss_one (ps_ret (call_has G2 hr (E := fun _ => E0) at0 (pa_cons (pv 0) (pa_cons (pv 3) pa_nil))))) pss_nil)
    (pss_cons (ps_if (pt_cmp (pc_eqI (pv 1) pe_int)) (pss_one (ps_ret (call_has G3 hr (E := fun _ => E0) at0 (pa_cons (pv 0) (pa_cons (pv 3) pa_nil))))) pss_nil)
    (pss_one (ps_ret (call_has G4 (hr.mono (by decide)) (E := fun _ => E0) at0 (pa_cons (pv 0) (pa_cons (pv 1) (pa_cons (pv 2) (pa_cons (pe_callTy call_tuple_of (by rfl) T.tuple (by decide +kernel) (pa_cons (pv 3) pa_nil)) pa_nil))))))))), ?_⟩)
  · obtain ⟨p, d, sm, rw, m, xs, row, s, ts, rfl, _⟩ := h
    rfl
  · obtain ⟨p, d, sm, rw, m, xs, row, st, ts, rfl, hB, hsm, hxs, hrw, hm, hfull, hsh, hgl, hrl, htsl, k⟩ := h
    obtain ⟨dx, L, j, dj, dd, kvs, hp, hW, hj, hdd, hne, hd, hK⟩ := id hB
    refine ⟨_, rfl, _, _, rfl, rfl, _, rfl, ?_⟩
    by_cases c1 : m = 1
    · subst c1
      refine ifT (decide_eq_true rfl) ⟨_, rfl, p, dx, _, rfl, hp, bF_no_begin, p, d, st.1, st.2.1, st.2.2, ts, rfl, hB, fun H1 d' sb hd' hB1 => ⟨by show 1 ≤ sizeLine; decide, fun l hl => ?_⟩⟩
      have s2 : Same H1 (upd H1 l (.lst [.int 0])) := Same.new hl
      refine k _ l d' [] (fun c v n1 n2 e => s2 _ _ (sb c v n1 e)) (.inr hd') (hB1.same s2) (Nat.zero_le _) (free_but sb hl fun e => ?_) ?_
      · obtain ⟨_, _, _, _, _, _, z, _⟩ := hB1
        rw [e, z] at hl
        cases hl
      · exact upd_same
    refine ifF (decide_eq_false (by omega)) ⟨_, rfl, _, _, rfl, rfl, _, rfl, ?_⟩
    have old : ∀ H' l, Same H H' → H l = none → (stepM st m xs row).1 = st → H' l = some (.lst (iv (stepM st m xs row).2)) → Q (.ref l) H' := fun H' l s' h1 h2 h3 =>
      k H' l d ts (fun c v _ _ e => s' _ _ e) (.inl rfl) (by rw [h2]; exact hB.same s') (Nat.le_succ _) h1 h3
    by_cases c2 : m = 2
    · subst c2
      refine ifT (decide_eq_true rfl) ⟨_, rfl, _, rfl, p, d, rw, st.1, st.2.1, st.2.2, ts, row, rfl, hB, SqL.of hrw, fun c H' l s' h1 h2 => ?_, fun i kk c e H' l s' h1 h2 => ?_, fun ws c e H' l d' sb hd' hB' h1 h2 => ?_⟩
      · have es : stepM st 2 xs row = (st, [-1]) := by
          unfold stepM
          rw [if_neg (by decide), if_pos rfl, if_pos c]
        exact old H' l s' h1 (by rw [es]) (by rw [es]; exact h2)
      · have es : stepM st 2 xs row = (st, [-2, (i : Int), (kk : Int)]) := by
          unfold stepM
          rw [if_neg (by decide), if_pos rfl, if_neg (by omega), e]
        exact old H' l s' h1 (by rw [es]) (by rw [es]; exact h2)
      · have es : stepM st 2 xs row = ((inOrder ws, st.2.1, st.2.2), [((inOrder ws).length : Int)]) := by
          unfold stepM
          rw [if_neg (by decide), if_pos rfl, if_neg (by omega), e]
        rw [es] at k
        exact k H' l d' [] (fun c v n1 n2 e => sb c v n1 e) (.inr hd') hB' (Nat.zero_le _) h1 h2
    refine ifF (decide_eq_false (by omega)) ⟨_, rfl, _, _, rfl, rfl, _, rfl, ?_⟩
    by_cases c3 : m = 3
    · subst c3
      refine ifT (decide_eq_true rfl) ⟨_, rfl, _, rfl, p, d, rw, st.1, st.2.1, st.2.2, ts, row, rfl, hB, SqL.of hrw, fun c H' l s' h1 h2 => ?_, fun i kk c e H' l s' h1 h2 => ?_, fun b' js' c e H' l d' sb hd' hB' h1 h2 => ?_⟩
      · have es : stepM st 3 xs row = (st, [-1]) := by
          unfold stepM
          rw [if_neg (by decide), if_neg (by decide), if_pos rfl, if_pos c]
        exact old H' l s' h1 (by rw [es]) (by rw [es]; exact h2)
      · have es : stepM st 3 xs row = (st, [-2, (i : Int), (kk : Int)]) := by
          unfold stepM
          rw [if_neg (by decide), if_neg (by decide), if_pos rfl, if_neg (by omega), e]
        exact old H' l s' h1 (by rw [es]) (by rw [es]; exact h2)
      · have es : stepM st 3 xs row = ((st.1, b', js'), [((js'.filter fun (j : SyWays.Join) => j.cost != 0).length : Int)]) := by
          unfold stepM
          rw [if_neg (by decide), if_neg (by decide), if_pos rfl, if_neg (by omega), e]
        rw [es] at k
        exact k H' l d' [] (fun c v n1 n2 e => sb c v n1 e) (.inr hd') hB' (Nat.zero_le _) h1 h2
    · have es : stepM st m xs row = (st, askM st.1 st.2.1 st.2.2 m xs row) := by
        unfold stepM
        rw [if_neg c1, if_neg c2, if_neg c3]
      rw [es] at k
      refine ifF (decide_eq_false (by omega)) ⟨_, rfl, _, rfl, _, rfl, _, rfl, rw, _, rfl, .inl ⟨SqL.of hrw, fun sg hsg => ?_⟩⟩
      have s1 : Same H (upd H sg (.tup (nv row))) := Same.new hsg
      have nsd : sg ≠ d := (ne_of_none hd hsg).symm
      refine ⟨p, d, sm, sg, m, xs, st.1, st.2.1, st.2.2, ts, row, rfl, hB.same s1, s1 _ _ hsm, fun z => hxs (by omega), upd_same, hfull, hsh, hgl, hrl, htsl, fun H' l ts' sb hB' htl hl hl2 => ?_⟩
      exact k H' l d ts' (fun c v _ n2 e => sb c v n2 (s1 _ _ e)) (.inl rfl) hB' htl (s1.free hl) hl2
end
end Sb
end
section
/-! Rules 9: a call that changes things and does not see one list of ours -/
namespace L2
open PySem PySem.Spec PyProof.Rows
section
variable {P : Program} {w : World} {H0 : Hp} {D : Addr} {o : HO}
theorem CE.beside {outer : List Env} {s s' : Shared} {Q : VK} {u : Value} (hD : H0 D = none) (lo : Loose o) (ok : HOk P w (upd H0 D o) s.heap) (fr : ∀ b ∈ frs outer, upd H0 D o b = none)
    (h : CE outer P w H0 s (fun v H' => H' D = none → Q v (upd H' D o)) u s') : CE outer P w (upd H0 D o) s Q u s' := by
  obtain ⟨v, H', os, bare, un, hok, r, q⟩ := h
  obtain ⟨oD, hoD⟩ := loose_at (ok D o upd_same) lo
  have nfr : D ∉ frs outer := fun hm => by
    have := fr D hm
    rw [upd_same] at this
    cases this
  have hn : H' D = none := un.free D oD hoD hD (by simp)
  have keepD : ∀ x, s.heap.get? D = some x → s'.heap.get? D = some x := fun x e => un.keep D x e hD nfr (by simp)
  have dn : ∀ b, upd H0 D o b = none → b ≠ D ∧ H0 b = none := fun b e => by
    have n : b ≠ D := fun z => by
      rw [z, upd_same] at e
      cases e
    rw [upd_ne n] at e
    exact ⟨n, e⟩
  refine ⟨v, upd H' D o, os, bare, ⟨fun b x e n => un.keep b x e (dn b n).2, fun b x e n => un.slot b x e (dn b n).2, fun b x e n hx => ?_, un.there, fun b xs e => ?_, fun b x y e => ?_, fun b ps e => ?_⟩, fun b x e => ?_, r, q hn⟩
  · rw [upd_ne (dn b n).1]
    exact un.free b x e (dn b n).2 hx
  · have n : b ≠ D := fun z => by
      rw [z, upd_same] at e
      cases e
      exact lo
    rw [upd_ne n] at e ⊢
    exact un.tups b xs e
  · have n : b ≠ D := fun z => by
      rw [z, upd_same] at e
      cases e
      exact lo
    rw [upd_ne n] at e ⊢
    exact un.frzs b x y e
  · have n : b ≠ D := fun z => by
      rw [z, upd_same] at e
      cases e
      exact lo
    rw [upd_ne n] at e
    obtain ⟨more, hm⟩ := un.tbls b ps e
    exact ⟨more, by rw [upd_ne n]; exact hm⟩
  · by_cases hb : b = D
    · subst hb
      rw [upd_same] at e
      cases e
      exact loose_stay (ok b _ upd_same) lo keepD
    · rw [upd_ne hb] at e
      have nd : ∀ c z, H' c = some z → c ≠ D := fun c z ec ez => by
        rw [ez, hn] at ec
        cases ec
      exact (hok b x e).stay (fun _ _ _ z => z) (fun c ec => by rw [upd_ne (nd c _ ec)]; exact ec) fun c xs ec => by rw [upd_ne (nd c _ ec)]; exact ec
end
section
variable {X : Cx} {k : Nat} {x : Str} {ps : List Str} {sp : Sp} {p pos : Pos} {e : Expr} {es : List Expr} {t : TA}
/-- f(e, ..), f not seeing a list at D -/
def tCallG (sp : Sp) (t : TA) : TE := fun σ H Q => t σ H fun vs H1 => ∃ H0 D o, H1 = upd H0 D o ∧ H0 D = none ∧ Loose o ∧ sp vs H0 (fun v H' => H' D = none → Q v (upd H' D o)) E0
theorem call_hasG (G : Sb.Has X.prog X.w X.K X.mg X.base CX0 x k ps sp) (hr : Room k X.A) (ha : PA X (e :: es) t) (hg : Gl X x := by rfl)
    (hdb : (x == ("__debug__" : Str)) = false := by decide) (he : starEach (e :: es) X.env = (false, eval e X.env) :: starEach es X.env := by rfl) (hpl : (backTo pos (starEach es X.env)).any (·.1) = false := by rfl) :
    PE X (.Call (.Name x p) (e :: es) [] pos) (tCallG sp t) := by
  obtain ⟨f, fd, F, hm, hk, hb⟩ := G.ex
  refine ⟨fun pins s σ H Q I h => wpAny_Call_Name_kw (ld_glob I hg hm ?_ hdb)⟩
  refine PySem.W.callWith_K (h₀ := X.base) I.ok.mod.kin hk (thn (ha.run pos pins s σ H _ I h) fun us s1 hz => ?_) he hpl
  obtain ⟨vs, H1, I1, r, H0, D, o, rfl, hD, lo, q⟩ := hz
  refine ⟨I1.kIn, ?_⟩
  have hl : us.length = ps.length := by
    rw [← r.length]
    exact F.len _ _ _ _ q
  have b := hb s1 us I1.kIn (by rw [List.append_nil]; exact hl)
  rw [List.append_nil] at b
  have e0 := I1.env0
  have sm : Same H0 (upd H0 D o) := fun c v ec => by
    rw [upd_ne (ne_of_none ec hD)]
    exact ec
  have nn : ∀ c, upd H0 D o c = none → H0 c = none := fun c hc => by
    cases z : H0 c with
    | none => rfl
    | some v =>
      have := sm _ _ z
      rw [hc] at this
      cases this
  have hlo : ∀ b u, upd H0 D o b = some u → H0 b = none → Loose u := fun b u eb hb => by
    by_cases n : b = D
    · rw [n, upd_same] at eb
      cases eb
      exact lo
    · rw [upd_ne n, hb] at eb
      cases eb
  have e1 : Env0 X.prog X.w X.K X.mg X.base X.A X.stack s1 H0 := ⟨e0.frames, e0.mod, fun b o eb => ⟨(e0.bs b o eb).1, nn b (e0.bs b o eb).2⟩, e0.bsz, e0.funs, fun b hb => nn b (e0.frf b hb), HOk.less e0.hok sm hlo, e0.bare⟩
  refine wpAny_call (codeAny_mono (F.run X.A X.stack s1 H0 ⟨us, []⟩ us vs _ E0 hr e1 b r q) fun r s' hq => ?_)
  cases r with
  | error e => exact False.elim hq
  | ok fl =>
    cases fl with
    | ret u => exact I1.after (CE.beside hD lo I1.hok e0.frf hq)
    | next => exact False.elim hq
    | brk => exact False.elim hq
    | cont => exact False.elim hq
end
end L2
end
section
/-! Walks 25: answers -/
namespace Sb
open PySem PySem.Spec PyProof.Rows L2
/-- how many numbers a call has -/
def sz (m : Nat) : Nat := if m = 5 ∨ m = 6 then 1 else 0
/-- one call and what is behind it -/
def turnM : List Nat → Option (Nat × List Nat × List Nat × List Nat)
  | [] => none
  | m :: r => if m = 1 then some (1, [], [], r) else if 2 ≤ m ∧ m ≤ 6 ∧ sz m ≤ r.length then (match r.drop (sz m) with
    | n :: r' => if n ≤ r'.length then some (m, r.take (sz m), r'.take n, r'.drop n) else none
    | [] => none) else none
/-- all answers -/
def runM : Nat → MS → List Nat → Option (List Int)
  | _, _, [] => some []
  | 0, _, _ :: _ => none
  | f + 1, s, a :: l => match turnM (a :: l) with
    | none => none
    | some (m, xs, row, rest) => (runM f (stepM s m xs row).1 rest).map fun o => ((stepM s m xs row).2.length : Int) :: ((stepM s m xs row).2 ++ o)
def Good (s : MS) : Prop := (∀ w ∈ s.1, w.ok = true) ∧ s.1.length ≤ 128 ∧ (s.2.2.map keyJ).Nodup
theorem word_parts {w : SyLex.Word} (h : w.ok = true) : w.small = true ∧ w.reading ≠ [] ∧ w.text ≠ [] ∧ w.reading.all SyLex.isSign = true ∧ w.text.all SyLex.isSign = true := by
  unfold SyLex.Word.ok at h
  simp only [Bool.and_eq_true, Bool.not_eq_true', List.isEmpty_eq_false_iff] at h
  exact ⟨h.1, h.2.1, h.2.2.1, h.2.2.2.1, h.2.2.2.2⟩
theorem small_parts {w : SyLex.Word} (h : w.small = true) : w.reading.length ≤ 32 ∧ w.text.length ≤ 32 ∧ w.left < 256 ∧ w.right < 256 ∧ w.cost ≤ 65535 := by
  rw [small_iff] at h
  simp only [Bool.and_eq_true, decide_eq_true_eq] at h
  exact ⟨h.1, h.2.1, h.2.2.1, h.2.2.2.1, h.2.2.2.2⟩
theorem Good.full {s : MS} (h : Good s) : Full s.1 := fun w hw => by
  have := (word_parts (h.1 w hw)).2.2.1
  cases e : w.text with
  | nil => exact absurd e this
  | cons _ _ => simp
theorem Good.short {s : MS} (h : Good s) : Short s.1 := fun w hw => (small_parts (word_parts (h.1 w hw)).1).1
theorem rowM_ok {a r : List Nat} (h : rowM a = some r) : r ≠ [] ∧ r.all SyLex.isSign = true := by
  unfold rowM at h
  split at h
  · rename_i c
    cases h
    exact c
  · cases h
theorem wordM_ok {l : List Nat × Bool} {x : SyLex.Word} (h : wordM l = some x) : x.reading ≠ [] ∧ x.reading.all SyLex.isSign = true ∧ x.text ≠ [] ∧ x.text.all SyLex.isSign = true := by
  unfold wordM at h
  cases e : partsM l 5 with
  | none => rw [e] at h; cases h
  | some ps =>
    obtain ⟨p0, p1, p2, p3, p4, rfl⟩ := five (partsM_len e)
    rw [e] at h
    have h : ((rowM p0).bind fun r => (rowM p1).bind fun t => (numM p2).bind fun x => (numM p3).bind fun y => (numM p4).map fun c => (⟨r, t, x, y, c⟩ : SyLex.Word)) = some x := h
    cases e0 : rowM p0 with
    | none => rw [e0] at h; cases h
    | some r0 =>
      cases e1 : rowM p1 with
      | none => rw [e0, e1] at h; cases h
      | some r1 =>
        rw [e0, e1] at h
        have h : ((numM p2).bind fun x => (numM p3).bind fun y => (numM p4).map fun c => (⟨r0, r1, x, y, c⟩ : SyLex.Word)) = some x := h
        cases e2 : numM p2 with
        | none => rw [e2] at h; cases h
        | some n2 =>
          cases e3 : numM p3 with
          | none => rw [e2, e3] at h; cases h
          | some n3 =>
            cases e4 : numM p4 with
            | none => rw [e2, e3, e4] at h; cases h
            | some n4 =>
              rw [e2, e3, e4] at h
              cases h
              obtain ⟨a1, a2⟩ := rowM_ok e0
              obtain ⟨b1, b2⟩ := rowM_ok e1
              exact ⟨a1, a2, b1, b2⟩
theorem wordsGo_ok : ∀ (ls : List (List Nat × Bool)) (i : Nat) (acc ws : List SyLex.Word), wordsGo i ls acc = .ok ws → (∀ w ∈ acc, w.ok = true) → acc.length = i → i ≤ 128 → (∀ w ∈ ws, w.ok = true) ∧ ws.length ≤ 128
  | [], i, acc, ws, h, ha, hl, hi => by
    cases h
    exact ⟨ha, by omega⟩
  | l :: r, i, acc, ws, h, ha, hl, hi => by
    unfold wordsGo at h
    cases e : wordIn l i acc with
    | error z => rw [e] at h; cases h
    | ok x =>
      rw [e] at h
      obtain ⟨k1, k2, k3⟩ := wordIn_ok e
      have hx : x.ok = true := by
        have hw : wordM l = some x := by
          unfold wordIn at e
          cases ew : wordM l with
          | none => rw [ew] at e; cases e
          | some y =>
            rw [ew] at e
            simp only at e
            split at e
            · cases e
            · split at e
              · cases e
              · split at e
                · cases e
                · cases e
                  rfl
        obtain ⟨a1, a2, a3, a4⟩ := wordM_ok hw
        unfold SyLex.Word.ok
        simp only [k3, a2, a4, Bool.and_true, Bool.true_and, Bool.and_eq_true, Bool.not_eq_true', List.isEmpty_eq_false_iff]
        exact ⟨a1, a3⟩
      refine wordsGo_ok r (i + 1) (acc ++ [x]) ws h (fun w hw => ?_) (by rw [List.length_append, List.length_singleton, hl]) (by omega)
      rcases List.mem_append.mp hw with hw | hw
      · exact ha w hw
      · rw [List.mem_singleton.mp hw]
        exact hx
theorem putWord_perm (w : SyLex.Word) : ∀ L : List SyLex.Word, (SyLex.putWord w L).Perm (w :: L)
  | [] => .refl _
  | q :: L => by
    unfold SyLex.putWord
    split
    · exact .refl _
    · exact ((putWord_perm w L).cons q).trans (.swap w q L)
theorem inOrder_perm (ws : List SyLex.Word) : (inOrder ws).Perm ws := by
  rw [inOrder_sort]
  exact List.mergeSort_perm _ _
theorem joinsM_nodup {ns : List Nat} {b : Nat} {js : List SyWays.Join} (h : joinsM ns = .ok (b, js)) : (js.map keyJ).Nodup := by
  unfold joinsM at h
  cases e : linesOf ns with
  | nil => rw [e] at h; cases h
  | cons l r =>
    rw [e] at h
    have h' : (match byM l with
      | .error e => .error e
      | .ok a => (joinsGo 1 r []).map fun js => (a, js)) = (.ok (b, js) : Except (Nat × Nat) (Nat × List SyWays.Join)) := h
    cases e2 : byM l with
    | error z => rw [e2] at h'; cases h'
    | ok a =>
      rw [e2] at h'
      have h2 : (joinsGo 1 r []).map (fun js => (a, js)) = (.ok (b, js) : Except (Nat × Nat) (Nat × List SyWays.Join)) := h'
      cases e3 : joinsGo 1 r [] with
      | error z => rw [e3] at h2; cases h2
      | ok js2 =>
        rw [e3] at h2
        cases h2
        exact (joinsGo_ok r 1 [] js e3 List.nodup_nil).1
theorem good_step {s : MS} (h : Good s) (m : Nat) (xs row : List Nat) : Good (stepM s m xs row).1 := by
  unfold stepM
  split
  · exact ⟨fun w hw => (nomatch hw), Nat.zero_le _, List.nodup_nil⟩
  split
  · split
    · exact h
    · cases e : wordsM row with
      | error z => exact h
      | ok ws =>
        obtain ⟨k1, k2⟩ := wordsGo_ok _ 0 [] ws e (fun w hw => (nomatch hw)) rfl (by decide)
        have hp := inOrder_perm ws
        exact ⟨fun w hw => k1 w (hp.mem_iff.mp hw), by rw [show (inOrder ws).length = ws.length from hp.length_eq]; exact k2, h.2.2⟩
  split
  · split
    · exact h
    · cases e : joinsM row with
      | error z => exact h
      | ok z =>
        obtain ⟨b, js⟩ := z
        exact ⟨h.1, h.2.1, joinsM_nodup e⟩
  · exact h
theorem turnM_is {m : Nat} {r : List Nat} {m' : Nat} {xs row rest : List Nat} (h : turnM (m :: r) = some (m', xs, row, rest)) : m' = m ∧ 1 ≤ m ∧ m ≤ 6 ∧ xs = r.take (sz m) ∧ sz m ≤ r.length ∧ (4 < m → xs ≠ []) ∧
    ((m = 1 ∧ row = [] ∧ rest = r) ∨ (m ≠ 1 ∧ ∃ n r', r.drop (sz m) = n :: r' ∧ n ≤ r'.length ∧ row = r'.take n ∧ rest = r'.drop n)) := by
  have h : (if m = 1 then some (1, [], [], r) else if 2 ≤ m ∧ m ≤ 6 ∧ sz m ≤ r.length then (match r.drop (sz m) with
    | n :: r' => if n ≤ r'.length then some (m, r.take (sz m), r'.take n, r'.drop n) else none
    | [] => none) else none) = some (m', xs, row, rest) := h
  split at h
  · rename_i c
    cases h
    subst c
    exact ⟨rfl, by decide, by decide, rfl, Nat.zero_le _, fun z => absurd z (by decide), .inl ⟨rfl, rfl, rfl⟩⟩
  · rename_i c
    split at h
    · rename_i c2
      cases e : r.drop (sz m) with
      | nil => rw [e] at h; cases h
      | cons n r' =>
        rw [e] at h
        have h : (if n ≤ r'.length then some (m, r.take (sz m), r'.take n, r'.drop n) else none) = some (m', xs, row, rest) := h
        split at h
        · rename_i c3
          cases h
          refine ⟨rfl, by omega, by omega, rfl, c2.2.2, fun z e2 => ?_, .inr ⟨c, n, r', rfl, c3, rfl, rfl⟩⟩
          have h1 : sz m = 1 := by
            unfold sz
            rw [if_pos (by omega)]
          rw [h1] at e2
          have := congrArg List.length e2
          rw [List.length_take, List.length_nil] at this
          have h2 := c2.2.2
          rw [h1] at h2
          omega
        · cases h
    · cases h
section
variable {P : Program} {w : World} {K : PySem.W.Frag} {mg : Str → Option Value} {base : Heap} {A : Ads}
abbrev sAnswers : Stmt := top 65
theorem Same.lst {K : PySem.W.Frag} {H H' : Hp} {a : Addr} {xs : List V} (e : Same H H') (h : SqL K H a xs) : SqL K H' a xs := by
  rcases h with (h | ⟨o, h⟩) | h
  · exact .inl (.inl (e _ _ h))
  · exact .inl (.inr ⟨o, e _ _ h⟩)
  · exact .inr h
def spAnswers (K : PySem.W.Frag) : Sp := fun vs H Q _ => ∃ (c : Addr) (ns : List Nat) (out : List Int), vs = [.ref c] ∧ SqL K H c (nv ns) ∧ ns.length ≤ 60000 ∧ runM ns.length ([], 65535, []) ns = some out ∧ out.length ≤ 10000000 ∧
  ∀ H' l, Same H H' → H l = none → H' l = some (.lst (iv out)) → Q (.ref l) H'
theorem scAnswers : FnScope ["calls", "book", "found", "at", "number", "some", "row", "told"] ["calls"] (defScope sAnswers) := ⟨rfl, rfl, rfl, by decide +kernel, rfl, by decide +kernel, by decide +kernel⟩
theorem sizes_at {m : Nat} (h1 : 1 ≤ m) (h6 : m ≤ 6) : atI [V.int 0, V.int 0, V.int 0, V.int 0, V.int 0, V.int 1, V.int 1] (m : Int) = some (.int ((sz m : Nat) : Int)) := by
  match m, h1, h6 with
  | 1, _, _ => decide +kernel
  | 2, _, _ => decide +kernel
  | 3, _, _ => decide +kernel
  | 4, _, _ => decide +kernel
  | 5, _, _ => decide +kernel
  | 6, _, _ => decide +kernel
theorem iv_app (a b : List Int) : iv (a ++ b) = iv a ++ iv b := List.map_append
theorem ok_answers (T : Txt K mg A) (N : Dist A) (GI : IHas P w K mg base CX0 A.CB 3 ["self"] (spBInit A)) (G1 : Has P w K mg base CX0 "answer" 11 ["book", "number", "some", "row"] (spAnswer A)) {f : Addr} {fd : FuncData} (F : Fun K "answers" "answers" sAnswers f fd) :
    FnOk P w K mg base CX0 12 f fd ["calls"] (spAnswers K) := by
  refine F.ok scAnswers (fun vs H Q E h => ?_) (fun cdv A' outer s H vs Q E hr h => ⟨_, pss_cons (ps_set (i := 1) scAnswers.nd rfl (.inl rfl) (make_has0 GI T.gB (hr.mono (by decide))))
    (pss_cons (ps_set (i := 2) scAnswers.nd rfl (.inl rfl) (pe_lst pa_nil))
    (pss_cons (ps_set (i := 3) scAnswers.nd rfl (.inl rfl) pe_int)
    (pss_cons (ps_while PassesOwn.never (pt_cmp (pc_lt (pv 3) (pe_callB call_len_seq (by rfl) T.len PySem.boot_len (pa_cons (pv 0) pa_nil))))
      (pss_cons (ps_set (i := 4) scAnswers.nd rfl (.inl rfl) (pe_ix ix_list (pv 0) (pv 3) (fun _ _ => rfl)))
      (pss_cons (ps_set (i := 5) scAnswers.nd rfl (.inl rfl) (pe_slice sl_list (pv 0) (po_some (pe_op op_add (pv 3) pe_int)) (po_some (pe_op op_add (pe_op op_add (pv 3) pe_int) (pe_ix ix_tup (glob_tup T.SIZES) (pv 4) (fun _ _ => rfl))))))
      (pss_cons (ps_set (i := 3) scAnswers.nd rfl (.inl rfl) (pe_op op_add (pe_op op_add (pv 3) pe_int) (pe_ix ix_tup (glob_tup T.SIZES) (pv 4) (fun _ _ => rfl))))
      (pss_cons (ps_set (i := 6) scAnswers.nd rfl (.inl rfl) (pe_lst pa_nil))
      (pss_cons (ps_if (pt_cmp (pc_neI (pv 4) (glob_int T.BEGIN)))
        (pss_cons (ps_set (i := 6) scAnswers.nd rfl (.inl rfl) (pe_slice sl_list (pv 0) (po_some (pe_op op_add (pv 3) pe_int)) (po_some (pe_op op_add (pe_op op_add (pv 3) pe_int) (pe_ix ix_list (pv 0) (pv 3) (fun _ _ => rfl))))))
        (pss_one (ps_set (i := 3) scAnswers.nd rfl (.inl rfl) (pe_op op_add (pe_op op_add (pv 3) pe_int) (pe_callB call_len_seq (by rfl) T.len PySem.boot_len (pa_cons (pv 6) pa_nil)))))) pss_nil)
      (pss_cons (ps_set (i := 7) scAnswers.nd rfl (.inl rfl) (call_hasG G1 hr (pa_cons (pv 1) (pa_cons (pv 4) (pa_cons (pv 5) (pa_cons (pv 6) pa_nil))))))
      (pss_cons (ps_expr (pe_bm PySem.F.plainAttrs_list PySem.F.slot_list_append PySem.F.type_list_append mt_append (pv 2) (pa_cons (pe_callB call_len_seq (by rfl) T.len PySem.boot_len (pa_cons (pv 7) pa_nil)) pa_nil)))
      (pss_one (ps_expr (pe_bm PySem.F.plainAttrs_list PySem.F.slot_list_extend PySem.F.type_list_extend mt_extend (pv 2) (pa_cons (pv 7) pa_nil))))))))))))
    (pss_one (ps_ret (pv 2)))))), ?_⟩)
  · obtain ⟨c, ns, out, rfl, _⟩ := h
    rfl
  · obtain ⟨c, ns, out, rfl, hc, hnl, hrun, hout, k⟩ := h
    intro p dx hp hdx npx
    have s1 : Same H (upd (upd H dx (.own p)) p (.ins A.CB dx [])) := (Same.new hdx).at hp
    refine ⟨p, dx, rfl, upd_same, fun H1 d sb hd hB => ⟨rfl, Nat.zero_le _, fun D hD => ?_⟩⟩
    have s12 : Same H H1 := fun b v e => sb b v (ne_of_none e hp) (s1 _ _ e)
    have hdH : H d = none := s1.free hd
    refine while_by (fun σ H' => ∃ (v4 v5 v6 v7 : Option V) (k f : Nat) (st : MS) (ts : List (List Nat)) (d : Addr) (fo o : List Int) (Hx : Hp), σ = [some (.ref c), some (.ref p), some (.ref D), some (.int (k : Int)), v4, v5, v6, v7] ∧ Same H Hx ∧ H d = none ∧ BookAt A Hx p d st.1 st.2.1 st.2.2 ts ∧ Off Hx H' D (.lst (iv fo)) ∧
        k ≤ ns.length ∧ ts.length ≤ k ∧ Good st ∧ runM f st (ns.drop k) = some o ∧ out = fo ++ o)
      (fun (σ : L2.St) (_ : Hp) => match σ[3]? with | some (some (V.int z)) => ns.length - z.toNat | _ => 0)
      ⟨none, none, none, none, 0, ns.length, ([], 65535, []), [], d, [], out, H1, rfl, s12, hdH, hB, Off.new hD, Nat.zero_le _, Nat.le_refl _, ⟨fun w hw => (nomatch hw), Nat.zero_le _, List.nodup_nil⟩, hrun, rfl⟩ ?_ ?_
    · rintro σ H' ⟨v4, v5, v6, v7, kk, f, st, ts, d, fo, o, Hx, rfl, sx, hd0, hB, f0, hk, hts, hg, hrn, ho⟩
      have hcx := Same.lst sx hc
      have hc' := Same.lst f0.same hcx
      refine ⟨_, rfl, _, rfl, c, _, rfl, .inl (hc'), _, _, rfl, rfl, _, rfl, ifD (fun c1 => ?_) fun c1 => ?_⟩
      · rw [nv_length] at c1
        have hkn : kk < ns.length := by omega
        obtain ⟨m, em⟩ : ∃ m, m = ns[kk] := ⟨_, rfl⟩
        have hdr : ns.drop kk = m :: ns.drop (kk + 1) := by
          rw [em]
          exact List.drop_eq_getElem_cons hkn
        have hm : ns[kk]? = some m := by
          rw [em]
          exact List.getElem?_eq_getElem hkn
        rw [hdr] at hrn
        obtain ⟨f, rfl⟩ : ∃ f', f = f' + 1 := by
          cases f with
          | zero => cases hrn
          | succ f' => exact ⟨f', rfl⟩
        cases et : turnM (m :: ns.drop (kk + 1)) with
        | none =>
          have : runM (f + 1) st (m :: ns.drop (kk + 1)) = none := by
            show (match turnM (m :: ns.drop (kk + 1)) with
              | none => none
              | some (m, xs, row, rest) => (runM f (stepM st m xs row).1 rest).map fun o => ((stepM st m xs row).2.length : Int) :: ((stepM st m xs row).2 ++ o)) = none
            rw [et]
          rw [this] at hrn
          cases hrn
        | some q4 =>
          obtain ⟨m', xs, row, rest⟩ := q4
          obtain ⟨rfl, h1m, hm6, exs, hszl, hxs, hcase⟩ := turnM_is et
          have hrn1 : (runM f (stepM st m' xs row).1 rest).map (fun o => ((stepM st m' xs row).2.length : Int) :: ((stepM st m' xs row).2 ++ o)) = some o := by
            have : runM (f + 1) st (m' :: ns.drop (kk + 1)) = (runM f (stepM st m' xs row).1 rest).map (fun o => ((stepM st m' xs row).2.length : Int) :: ((stepM st m' xs row).2 ++ o)) := by
              show (match turnM (m' :: ns.drop (kk + 1)) with
                | none => none
                | some (m, xs, row, rest) => (runM f (stepM st m xs row).1 rest).map fun o => ((stepM st m xs row).2.length : Int) :: ((stepM st m xs row).2 ++ o)) = _
              rw [et]
            rw [← this]
            exact hrn
          obtain ⟨o', hrn2, eo⟩ : ∃ o', runM f (stepM st m' xs row).1 rest = some o' ∧ o = ((stepM st m' xs row).2.length : Int) :: ((stepM st m' xs row).2 ++ o') := by
            cases z : runM f (stepM st m' xs row).1 rest with
            | none => rw [z] at hrn1; cases hrn1
            | some o' =>
              rw [z] at hrn1
              exact ⟨o', rfl, (Option.some.inj hrn1).symm⟩
          generalize m' = m at *
          have hdl : (ns.drop (kk + 1)).length = ns.length - (kk + 1) := List.length_drop
          have ec : cutV (nv ns) (some ((kk : Int) + 1)) (some ((kk : Int) + 1 + ((sz m : Nat) : Int))) = nv xs := by
            have := cut_at ns (kk + 1) (sz m) (by omega)
            rw [exs]
            exact this
          refine ⟨_, rfl, _, rfl, c, _, _, _, rfl, rfl, hc', atI_nat (nv_at hm), ?_⟩
          refine ⟨_, rfl, _, rfl, _, _, rfl, rfl, _, rfl, _, rfl, _, _, rfl, rfl, fun a0 h0 => ⟨_, rfl, a0, _, _, _, rfl, rfl, h0 _, sizes_at h1m hm6, _, _, rfl, rfl, _, rfl, c, nv ns, rfl, hc', fun q hq => ?_⟩⟩
          rw [ec]
          refine ⟨_, rfl, _, _, rfl, rfl, fun a1 h1 => ⟨_, rfl, a1, _, _, _, rfl, rfl, h1 _, sizes_at h1m hm6, _, _, rfl, rfl, ?_⟩⟩
          have f1 := f0.add hq (.lst (nv xs))
          have s1x : Same Hx (upd Hx q (.lst (nv xs))) := Same.new (f0.free_of hq)
          rcases hcase with ⟨cm, erow, erest⟩ | ⟨cm, n, r', hd2, hnl, erow, erest⟩
          · have hs0 : sz m = 0 := by
              rw [cm]
              rfl
            refine ⟨Nat.zero_le _, fun rw0 hrw0 => ⟨_, rfl, _, _, rfl, rfl, _, rfl, ifF (by rw [cm]; rfl) ?_⟩⟩
            have f3 := f1.add hrw0 (.lst [])
            have s2 : Same Hx (upd (upd Hx q (.lst (nv xs))) rw0 (.lst [])) := s1x.at (f0.free_of (by
              cases z : H' rw0 with
              | none => rfl
              | some v => rw [(Same.new hq) _ _ z] at hrw0; cases hrw0))
            have hq2 : upd (upd Hx q (.lst (nv xs))) rw0 (.lst []) q = some (lstN xs) := by
              rw [upd_ne (ne_of_none upd_same hrw0)]
              exact upd_same
            have hrow : upd (upd Hx q (.lst (nv xs))) rw0 (.lst []) rw0 = some (lstN row) := by
              rw [upd_same, erow]
              rfl
            have hrl : row.length ≤ 70000 := by
              rw [erow]
              exact Nat.zero_le _
            have hdr2 : rest = ns.drop (kk + 1) := erest
            refine ⟨_, rfl, _, rfl, _, rfl, _, rfl, upd (upd Hx q (.lst (nv xs))) rw0 (.lst []), D, _, f3.eq, f3.free, True.intro, p, d, q, rw0, m, xs, row, st, ts, rfl, hB.same s2, hq2, hxs, hrow, h1m, hg.full, hg.short, Nat.le_trans hg.2.1 (by decide), hrl, by omega, fun H3 l d' ts' keep hd' hB' hts' hl hl2 hD3 => ?_⟩
            have s3 : Same H H3 := fun b v e => keep b v (ne_of_none e hp) (ne_of_none e hd0) (s2 _ _ (sx _ _ e))
            have nlD : l ≠ D := fun e => by
              rw [e, hD3] at hl2
              cases hl2
            have f4 : Off H3 (upd H3 D (.lst (iv fo))) D (.lst (iv fo)) := Off.new hD3
            have hfol : fo.length + ((stepM st m xs row).2.length + 1 + o'.length) ≤ 10000000 := by
              have e1 := congrArg List.length ho
              rw [List.length_append, eo, List.length_cons, List.length_append] at e1
              omega
            refine ⟨_, rfl, .inl ⟨rfl, _, SqL.of upd_same⟩, _, rfl, l, _, rfl, .inl (SqL.of (f4.same _ _ hl2)), D, _, _, rfl, rfl, upd_same, ?_, ?_⟩
            · rw [iv, List.length_map, sizeLine_eq]
              omega
            have f5 := f4.put (.lst (iv fo ++ [.int ((iv (stepM st m xs row).2).length : Int)]))
            refine ⟨_, rfl, .inl ⟨rfl, _, SqL.of f5.at⟩, _, rfl, D, l, _, _, rfl, rfl, f5.at, f5.same _ _ hl2, ?_, ?_⟩
            · rw [List.length_append, List.length_singleton, iv, iv, List.length_map, List.length_map, sizeLine_eq]
              omega
            refine ⟨⟨some (.int (m : Int)), some (.ref q), some (.ref rw0), some (.ref l), kk + 1 + sz m, f, (stepM st m xs row).1, ts', d', fo ++ ((stepM st m xs row).2.length : Int) :: (stepM st m xs row).2, o', H3, rfl, s3, ?_, hB', ?_, ?_, ?_, good_step hg m xs row, ?_, ?_⟩, ?_⟩
            · rcases hd' with rfl | hd'
              · exact hd0
              · exact (sx.trans s2).free hd'
            · have el : iv fo ++ [V.int ((iv (stepM st m xs row).2).length : Int)] ++ iv (stepM st m xs row).2 = iv (fo ++ ((stepM st m xs row).2.length : Int) :: (stepM st m xs row).2) := by
                rw [iv_app, List.append_assoc, show (iv (stepM st m xs row).2).length = (stepM st m xs row).2.length from List.length_map ..]
                rfl
              rw [el]
              exact f5.put _
            · omega
            · omega
            · rw [show kk + 1 + sz m = kk + 1 by omega, ← hdr2]
              exact hrn2
            · rw [ho, eo]
              simp
            · show ns.length - ((kk : Int) + 1 + ((sz m : Nat) : Int)).toNat < ns.length - (kk : Int).toNat
              omega
          · have hln := congrArg List.length hd2
            rw [List.length_drop, List.length_cons, hdl] at hln
            have hat : ns[kk + 1 + sz m]? = some n := by
              have : (ns.drop (kk + 1)).drop (sz m) = n :: r' := hd2
              rw [List.drop_drop] at this
              rw [← List.head?_drop, this]
              rfl
            have hr' : r' = ns.drop (kk + 1 + sz m + 1) := by
              have h1 : (ns.drop (kk + 1)).drop (sz m) = n :: r' := hd2
              rw [List.drop_drop] at h1
              rw [← List.drop_drop, h1]
              rfl
            have ec2 : cutV (nv ns) (some ((kk : Int) + 1 + ((sz m : Nat) : Int) + 1)) (some ((kk : Int) + 1 + ((sz m : Nat) : Int) + 1 + (n : Int))) = nv row := by
              have := cut_at ns (kk + 1 + sz m + 1) n (by omega)
              rw [erow, hr']
              exact this
            have hrowl : row.length = n := by
              rw [erow, List.length_take]
              omega
            have hnv : (nv row).length = n := by rw [nv_length, hrowl]
            have hrest2 : rest = ns.drop (kk + 1 + sz m + 1 + n) := by
              rw [erest, hr', List.drop_drop]
            refine ⟨Nat.zero_le _, fun z2 hz2 => ⟨_, rfl, _, _, rfl, rfl, _, rfl, ifT (by simp; omega) ?_⟩⟩
            have f2 := f1.add hz2 (.lst [])
            have hcz : SqL K (upd (upd H' q (.lst (nv xs))) z2 (.lst [])) c (nv ns) := Same.lst ((Same.new hq).more hz2) hc'
            refine ⟨_, rfl, _, rfl, _, _, rfl, rfl, _, rfl, _, rfl, _, _, rfl, rfl, _, rfl, _, rfl, c, _, _, _, rfl, rfl, hcz, (show atI _ ((kk + 1 + sz m : Nat) : Int) = _ from atI_nat (nv_at hat)), _, _, rfl, rfl, _, rfl, c, nv ns, rfl, hcz, fun rw0 hrw0 => ?_⟩
            rw [ec2]
            have f3 := f2.add hrw0 (.lst (nv row))
            have hx1 : ∀ v, H' z2 = some v → False := fun v e => by
              rw [(Same.new hq) _ _ e] at hz2
              cases hz2
            have hx2 : ∀ v, H' rw0 = some v → False := fun v e => by
              rw [((Same.new hq).more hz2) _ _ e] at hrw0
              cases hrw0
            have s2 : Same Hx (upd (upd (upd Hx q (.lst (nv xs))) z2 (.lst [])) rw0 (.lst (nv row))) := (s1x.at (f0.free_of (by
              cases z : H' z2 with
              | none => rfl
              | some v => exact (hx1 v z).elim))).at (f0.free_of (by
              cases z : H' rw0 with
              | none => rfl
              | some v => exact (hx2 v z).elim))
            have hq2 : upd (upd (upd Hx q (.lst (nv xs))) z2 (.lst [])) rw0 (.lst (nv row)) q = some (lstN xs) := by
              rw [upd_ne (ne_of_none (((Same.new hz2) _ _ upd_same)) hrw0), upd_ne (ne_of_none upd_same hz2)]
              exact upd_same
            have hrow : upd (upd (upd Hx q (.lst (nv xs))) z2 (.lst [])) rw0 (.lst (nv row)) rw0 = some (lstN row) := upd_same
            have hrl : row.length ≤ 70000 := by
              rw [hrowl]
              omega
            refine ⟨_, rfl, _, _, rfl, rfl, _, rfl, rw0, _, rfl, .inl (SqL.of upd_same), _, _, rfl, rfl, ?_⟩
            refine ⟨_, rfl, _, rfl, _, rfl, _, rfl, upd (upd (upd Hx q (.lst (nv xs))) z2 (.lst [])) rw0 (.lst (nv row)), D, _, f3.eq, f3.free, True.intro, p, d, q, rw0, m, xs, row, st, ts, rfl, hB.same s2, hq2, hxs, hrow, h1m, hg.full, hg.short, Nat.le_trans hg.2.1 (by decide), hrl, by omega, fun H3 l d' ts' keep hd' hB' hts' hl hl2 hD3 => ?_⟩
            have s3 : Same H H3 := fun b v e => keep b v (ne_of_none e hp) (ne_of_none e hd0) (s2 _ _ (sx _ _ e))
            have nlD : l ≠ D := fun e => by
              rw [e, hD3] at hl2
              cases hl2
            have f4 : Off H3 (upd H3 D (.lst (iv fo))) D (.lst (iv fo)) := Off.new hD3
            have hfol : fo.length + ((stepM st m xs row).2.length + 1 + o'.length) ≤ 10000000 := by
              have e1 := congrArg List.length ho
              rw [List.length_append, eo, List.length_cons, List.length_append] at e1
              omega
            refine ⟨_, rfl, .inl ⟨rfl, _, SqL.of upd_same⟩, _, rfl, l, _, rfl, .inl (SqL.of (f4.same _ _ hl2)), D, _, _, rfl, rfl, upd_same, ?_, ?_⟩
            · rw [iv, List.length_map, sizeLine_eq]
              omega
            have f5 := f4.put (.lst (iv fo ++ [.int ((iv (stepM st m xs row).2).length : Int)]))
            refine ⟨_, rfl, .inl ⟨rfl, _, SqL.of f5.at⟩, _, rfl, D, l, _, _, rfl, rfl, f5.at, f5.same _ _ hl2, ?_, ?_⟩
            · rw [List.length_append, List.length_singleton, iv, iv, List.length_map, List.length_map, sizeLine_eq]
              omega
            refine ⟨⟨some (.int (m : Int)), some (.ref q), some (.ref rw0), some (.ref l), kk + 1 + sz m + 1 + (nv row).length, f, (stepM st m xs row).1, ts', d', fo ++ ((stepM st m xs row).2.length : Int) :: (stepM st m xs row).2, o', H3, rfl, s3, ?_, hB', ?_, ?_, ?_, good_step hg m xs row, ?_, ?_⟩, ?_⟩
            · rcases hd' with rfl | hd'
              · exact hd0
              · exact (sx.trans s2).free hd'
            · have el : iv fo ++ [V.int ((iv (stepM st m xs row).2).length : Int)] ++ iv (stepM st m xs row).2 = iv (fo ++ ((stepM st m xs row).2.length : Int) :: (stepM st m xs row).2) := by
                rw [iv_app, List.append_assoc, show (iv (stepM st m xs row).2).length = (stepM st m xs row).2.length from List.length_map ..]
                rfl
              rw [el]
              exact f5.put _
            · omega
            · omega
            · rw [nv_length, hrowl, ← hrest2]
              exact hrn2
            · rw [ho, eo]
              simp
            · show ns.length - ((kk : Int) + 1 + ((sz m : Nat) : Int) + 1 + (((nv row).length : Nat) : Int)).toNat < ns.length - (kk : Int).toNat
              omega
      · rw [nv_length] at c1
        have hkn : kk = ns.length := by omega
        rw [hkn, List.drop_length] at hrn
        have ho' : o = [] := by
          cases f <;> exact (Option.some.inj hrn).symm
        rw [ho', List.append_nil] at ho
        rw [ho] at k
        exact ⟨_, rfl, k H' D (sx.trans f0.same) (s12.free hD) f0.at⟩
    · intro σ H' Q1 Q2 hq h
      obtain ⟨v1, e1, v2, e2, q, ys, e3, e4, i, j, e5, e6, c, e7, h⟩ := h
      exact ⟨v1, e1, v2, e2, q, ys, e3, e4, i, j, e5, e6, c, e7, hq _ _ h⟩
end
end Sb
end
section
/-! Sorting 2: the specification's ways back, made in their order -/
namespace Sb
open SyBase SyLex SyWays SyBack
theorem flatMap_eq {α β : Type} {f g : α → List β} : ∀ {l : List α}, (∀ a ∈ l, f a = g a) → l.flatMap f = l.flatMap g
  | [], _ => rfl
  | a :: l, h => by
    rw [List.flatMap_cons, List.flatMap_cons, h a List.mem_cons_self, flatMap_eq fun b hb => h b (List.mem_cons_of_mem _ hb)]
theorem filterMap_eq {α β : Type} {F : α → Option β} {c : α → Bool} {h : α → β} : ∀ {l : List α}, (∀ a ∈ l, F a = if c a = true then some (h a) else none) → l.filterMap F = (l.filter c).map h
  | [], _ => rfl
  | a :: l, e => by
    have ih := filterMap_eq (l := l) fun b hb => e b (List.mem_cons_of_mem _ hb)
    have ea := e a List.mem_cons_self
    by_cases hc : c a = true
    · rw [if_pos hc] at ea
      rw [List.filterMap_cons_some ea, List.filter_cons_of_pos hc, List.map_cons, ih]
    · rw [if_neg hc] at ea
      rw [List.filterMap_cons_none ea, List.filter_cons_of_neg hc, ih]
theorem perm_flat {α β : Type} {f g : α → List β} : ∀ {l : List α}, (∀ a ∈ l, (f a).Perm (g a)) → (l.flatMap f).Perm (l.flatMap g)
  | [], _ => .refl _
  | a :: l, h => by
    rw [List.flatMap_cons, List.flatMap_cons]
    exact (h a List.mem_cons_self).append (perm_flat fun b hb => h b (List.mem_cons_of_mem _ hb))
theorem perm_sum {l m : List Nat} (h : l.Perm m) : l.sum = m.sum := by
  induction h with
  | nil => rfl
  | cons x _ ih => rw [List.sum_cons, List.sum_cons, ih]
  | swap x y l => simp only [List.sum_cons]; omega
  | trans _ _ ih1 ih2 => exact ih1.trans ih2
def hasT (g : List Word) (s : List Nat) (i : Nat) : Bool := match g[i]? with
  | some w => decide (w.text = s)
  | none => false
/-- the pieces at a text's beginning, in order -/
def ordAt (g : List Word) (r : List Nat) : List Pc := ((List.range (min 32 r.length)).reverse.map fun j => j + 1).flatMap fun j => ((List.range g.length).filter (hasT g (r.take j))).map some ++ if j = 1 then [none] else []
def soundsR (g : List Word) (r : List Nat) : Pc → List Nat
  | none => r.take 1
  | some i => ((g[i]?).map fun w => w.reading).getD []
/-- texts of one to 32 signs -/
def Fit (g : List Word) : Prop := ∀ w ∈ g, 1 ≤ w.text.length ∧ w.text.length ≤ 32
theorem js_mem {n j : Nat} (h : j ∈ (List.range n).reverse.map fun j => j + 1) : 1 ≤ j ∧ j ≤ n := by
  obtain ⟨i, hi, rfl⟩ := List.mem_map.mp h
  have := List.mem_range.mp (List.mem_reverse.mp hi)
  omega
theorem hasT_is {g : List Word} {r : List Nat} {j i : Nat} (hj : j ≤ r.length) (h : hasT g (r.take j) i = true) : ∃ hi : i < g.length, g[i].text = r.take j ∧ g[i].text.length = j := by
  unfold hasT at h
  cases e : g[i]? with
  | none => rw [e] at h; cases h
  | some w =>
    rw [e] at h
    obtain ⟨hi, ew⟩ := List.getElem?_eq_some_iff.mp e
    have h1 : w.text = r.take j := of_decide_eq_true h
    refine ⟨hi, by rw [ew]; exact h1, ?_⟩
    rw [ew, h1, List.length_take]
    omega
theorem wid_some {g : List Word} {i : Nat} (hi : i < g.length) : wid g (some i) = g[i].text.length := by
  show ((g[i]?).map fun w => w.text.length).getD 0 = _
  rw [List.getElem?_eq_getElem hi]
  rfl
theorem backsAt_eq (W : Weights) (r : List Nat) (hr : r ≠ []) : backsAt W r = (ordAt W.words r).map fun p => ((⟨(soundsR W.words r p).length, p⟩ : Piece), soundsR W.words r p, wid W.words p) := by
  unfold backsAt ordAt
  rw [List.map_flatMap]
  refine flatMap_eq fun j hj => ?_
  obtain ⟨h1, h2⟩ := js_mem hj
  have hjr : j ≤ r.length := by
    have : SIGNS = 32 := rfl
    omega
  rw [List.map_append]
  congr 1
  · rw [List.map_map]
    refine filterMap_eq fun i hi => ?_
    have hil := List.mem_range.mp hi
    rw [List.getElem?_eq_getElem hil]
    show (if W.words[i].text = r.take j then some ((⟨W.words[i].reading.length, some i⟩ : Piece), W.words[i].reading, j) else none) = _
    have hh : hasT W.words (r.take j) i = decide (W.words[i].text = r.take j) := by
      unfold hasT
      rw [List.getElem?_eq_getElem hil]
    by_cases c : W.words[i].text = r.take j
    · rw [if_pos c, if_pos (by rw [hh]; exact decide_eq_true c)]
      have hs : soundsR W.words r (some i) = W.words[i].reading := by
        show ((W.words[i]?).map fun w => w.reading).getD [] = _
        rw [List.getElem?_eq_getElem hil]
        rfl
      have hw : wid W.words (some i) = j := by
        rw [wid_some hil, c, List.length_take]
        omega
      show _ = some ((⟨(soundsR W.words r (some i)).length, some i⟩ : Piece), soundsR W.words r (some i), wid W.words (some i))
      rw [hs, hw]
    · rw [if_neg c, if_neg (by rw [hh, decide_eq_false c]; exact Bool.false_ne_true)]
  · by_cases c : j = 1
    · rw [if_pos c, if_pos c]
      cases r with
      | nil => exact absurd rfl hr
      | cons x r => rfl
    · rw [if_neg c, if_neg c]
      rfl
theorem ordAt_mem {g : List Word} (hf : Fit g) {r : List Nat} (hr : r ≠ []) {p : Pc} : p ∈ ordAt g r ↔ p ∈ starts g r := by
  have hl : 1 ≤ r.length := by
    cases r with
    | nil => exact absurd rfl hr
    | cons x r => simp
  unfold ordAt starts
  rw [List.mem_flatMap]
  constructor
  · rintro ⟨j, hj, hp⟩
    obtain ⟨h1, h2⟩ := js_mem hj
    rcases List.mem_append.mp hp with hp | hp
    · obtain ⟨i, hi, rfl⟩ := List.mem_map.mp hp
      obtain ⟨hi1, hi2⟩ := List.mem_filter.mp hi
      obtain ⟨hil, e1, e2⟩ := hasT_is (by omega) hi2
      refine List.mem_cons_of_mem _ (List.mem_map.mpr ⟨i, List.mem_filter.mpr ⟨hi1, ?_⟩, rfl⟩)
      unfold fitsAt
      rw [List.getElem?_eq_getElem hil]
      show decide (r.take g[i].text.length = g[i].text) = true
      rw [e2]
      exact decide_eq_true e1.symm
    · by_cases c : j = 1
      · rw [if_pos c] at hp
        rw [List.mem_singleton.mp hp]
        exact List.mem_cons_self
      · rw [if_neg c] at hp
        cases hp
  · intro hp
    have mem : ∀ j, 1 ≤ j → j ≤ min 32 r.length → j ∈ (List.range (min 32 r.length)).reverse.map fun j => j + 1 := fun j h1 h2 => List.mem_map.mpr ⟨j - 1, List.mem_reverse.mpr (List.mem_range.mpr (by omega)), by omega⟩
    rcases List.mem_cons.mp hp with rfl | hp
    · exact ⟨1, mem 1 (Nat.le_refl _) (by omega), List.mem_append_right _ (by rw [if_pos rfl]; exact List.mem_singleton.mpr rfl)⟩
    · obtain ⟨i, hi, rfl⟩ := List.mem_map.mp hp
      obtain ⟨hi1, hi2⟩ := List.mem_filter.mp hi
      have hil := List.mem_range.mp hi1
      unfold fitsAt at hi2
      rw [List.getElem?_eq_getElem hil] at hi2
      have e : r.take g[i].text.length = g[i].text := of_decide_eq_true hi2
      obtain ⟨k1, k2⟩ := hf _ (List.getElem_mem hil)
      have k3 := congrArg List.length e
      rw [List.length_take] at k3
      refine ⟨g[i].text.length, mem _ k1 (by omega), List.mem_append_left _ (List.mem_map.mpr ⟨i, List.mem_filter.mpr ⟨hi1, ?_⟩, rfl⟩)⟩
      unfold hasT
      rw [List.getElem?_eq_getElem hil]
      exact decide_eq_true e.symm
/-- one piece before another -/
def pcLt (g : List Word) (p q : Pc) : Prop := wid g q < wid g p ∨ (wid g p = wid g q ∧ ((p ≠ none ∧ q = none) ∨ ∃ i k, p = some i ∧ q = some k ∧ i < k))
theorem pcLt_ne {g : List Word} {p q : Pc} (h : pcLt g p q) : p ≠ q := by
  rintro rfl
  rcases h with h | ⟨_, ⟨h1, h2⟩ | ⟨i, k, h1, h2, h3⟩⟩
  · exact Nat.lt_irrefl _ h
  · exact h1 h2
  · rw [h1] at h2
    cases h2
    exact Nat.lt_irrefl _ h3
theorem ordAt_pairwise (g : List Word) (r : List Nat) : (ordAt g r).Pairwise (pcLt g) := by
  unfold ordAt
  have widj : ∀ {j : Nat} {p : Pc}, 1 ≤ j → j ≤ min 32 r.length → p ∈ ((List.range g.length).filter (hasT g (r.take j))).map some ++ (if j = 1 then [none] else []) → wid g p = j := fun {j p} h1 h2 hp => by
    rcases List.mem_append.mp hp with hp | hp
    · obtain ⟨i, hi, rfl⟩ := List.mem_map.mp hp
      obtain ⟨hil, _, e2⟩ := hasT_is (by omega) (List.mem_filter.mp hi).2
      rw [wid_some hil, e2]
    · by_cases c : j = 1
      · rw [if_pos c] at hp
        rw [List.mem_singleton.mp hp, c]
        rfl
      · rw [if_neg c] at hp
        cases hp
  rw [List.pairwise_flatMap]
  refine ⟨fun j hj => ?_, ?_⟩
  · obtain ⟨h1, h2⟩ := js_mem hj
    rw [List.pairwise_append]
    refine ⟨?_, ?_, fun x hx y hy => ?_⟩
    · rw [List.pairwise_map]
      have hs : ((List.range g.length).filter (hasT g (r.take j))).Pairwise (· < ·) := List.pairwise_filter.mpr (List.Pairwise.imp (fun h _ _ => h) List.pairwise_lt_range)
      refine List.Pairwise.imp_of_mem (fun {a b} ha hb hab => ?_) hs
      refine .inr ⟨?_, .inr ⟨a, b, rfl, rfl, hab⟩⟩
      rw [widj h1 h2 (List.mem_append_left _ (List.mem_map_of_mem ha)), widj h1 h2 (List.mem_append_left _ (List.mem_map_of_mem hb))]
    · by_cases c : j = 1
      · rw [if_pos c]
        exact List.pairwise_singleton _ _
      · rw [if_neg c]
        exact .nil
    · have e1 := widj h1 h2 (List.mem_append_left _ hx)
      have e2 := widj h1 h2 (List.mem_append_right _ hy)
      obtain ⟨i, _, rfl⟩ := List.mem_map.mp hx
      by_cases c : j = 1
      · rw [if_pos c] at hy
        rw [List.mem_singleton.mp hy] at e2 ⊢
        exact .inr ⟨e1.trans e2.symm, .inl ⟨by simp, rfl⟩⟩
      · rw [if_neg c] at hy
        cases hy
  · rw [List.pairwise_map, List.pairwise_reverse]
    refine List.Pairwise.imp_of_mem (fun {a b} ha hb hab x hx y hy => ?_) List.pairwise_lt_range
    have ha' := List.mem_range.mp ha
    have hb' := List.mem_range.mp hb
    have e1 := widj (by omega) (by omega) hx
    have e2 := widj (by omega) (by omega) hy
    exact .inl (by omega)
theorem ordAt_perm {g : List Word} (hf : Fit g) {r : List Nat} (hr : r ≠ []) : (ordAt g r).Perm (starts g r) := by
  refine (List.perm_ext_iff_of_nodup ?_ ?_).mpr fun p => ordAt_mem hf hr
  · exact (ordAt_pairwise g r).imp fun h => pcLt_ne h
  · unfold starts
    rw [List.nodup_cons]
    refine ⟨fun h => ?_, ?_⟩
    · obtain ⟨i, _, e⟩ := List.mem_map.mp h
      cases e
    · have hs : ((List.range g.length).filter (fitsAt g r)).Pairwise (· < ·) := List.pairwise_filter.mpr (List.Pairwise.imp (fun h _ _ => h) List.pairwise_lt_range)
      show List.Pairwise (· ≠ ·) _
      rw [List.pairwise_map]
      exact hs.imp fun h e => by
        cases e
        exact Nat.lt_irrefl _ h
end Sb
end
section
/-! Sorting 3: all ways back in the specification's making; how many -/
namespace Sb
open SyBase SyLex SyWays SyBack
def genF (g : List Word) : Nat → Nat → List Nat → List Wy
  | _, _, [] => [[]]
  | 0, _, _ :: _ => []
  | f + 1, a, x :: r => (ordAt g (x :: r)).flatMap fun p => (genF g f (a + wid g p) ((x :: r).drop (wid g p))).map fun w => (a, p) :: w
def backOf (g : List Word) (t : List Nat) (wy : Wy) : Back := ⟨flatM g t wy, wy.map fun x => (⟨(soundsM g t x).length, x.2⟩ : Piece)⟩
theorem sounds_same (g : List Word) {t : List Nat} {a x : Nat} {r : List Nat} (h : t.drop a = x :: r) (p : Pc) : soundsR g (x :: r) p = soundsM g t (a, p) := by
  cases p with
  | none =>
    show [x] = [t.getD a 0]
    have : t[a]? = some x := by
      rw [← List.head?_drop, h]
      rfl
    rw [List.getD_eq_getElem?_getD, this]
    rfl
  | some i => rfl
theorem backsFrom_eq (W : Weights) (t : List Nat) : ∀ (f a : Nat) (r : List Nat), t.drop a = r → backsFrom W f r = (genF W.words f a r).map (backOf W.words t)
  | 0, a, [], _ => rfl
  | _ + 1, a, [], _ => rfl
  | 0, a, x :: r, _ => rfl
  | f + 1, a, x :: r, h => by
    show (backsAt W (x :: r)).flatMap (fun (y : Piece × Text × Nat) => (backsFrom W f ((x :: r).drop y.2.2)).map fun (b : Back) => ⟨y.2.1 ++ b.reading, y.1 :: b.way⟩) = ((ordAt W.words (x :: r)).flatMap fun p => (genF W.words f (a + wid W.words p) ((x :: r).drop (wid W.words p))).map fun w => (a, p) :: w).map (backOf W.words t)
    rw [backsAt_eq W (x :: r) (List.cons_ne_nil _ _), List.flatMap_map, List.map_flatMap]
    refine flatMap_eq fun p _ => ?_
    have ih := backsFrom_eq W t f (a + wid W.words p) ((x :: r).drop (wid W.words p)) (by rw [← h, List.drop_drop])
    show (backsFrom W f ((x :: r).drop (wid W.words p))).map (fun (b : Back) => (⟨soundsR W.words (x :: r) p ++ b.reading, (⟨(soundsR W.words (x :: r) p).length, p⟩ : Piece) :: b.way⟩ : Back)) = _
    rw [ih, List.map_map, List.map_map]
    refine List.map_congr_left fun w _ => ?_
    show (⟨soundsR W.words (x :: r) p ++ (backOf W.words t w).reading, (⟨(soundsR W.words (x :: r) p).length, p⟩ : Piece) :: (backOf W.words t w).way⟩ : Back) = backOf W.words t ((a, p) :: w)
    rw [sounds_same W.words h p]
    rfl
theorem tabW_get (g : List Word) : ∀ (a : Nat) (r : List Nat) (j : Nat), j ≤ r.length → (tabW g a r)[j]? = some ((tabW g (a + j) (r.drop j)).headD [])
  | a, [], 0, _ => rfl
  | a, [], j + 1, h => by simp at h
  | a, x :: r, 0, _ => rfl
  | a, x :: r, j + 1, h => by
    rw [List.drop_succ_cons]
    show (tabW g (a + 1) r)[j]? = _
    rw [tabW_get g (a + 1) r j (by simpa using h), show a + 1 + j = a + (j + 1) by omega]
theorem Fit.full {g : List Word} (h : Fit g) : Full g := fun w hw => (h w hw).1
theorem genF_perm {g : List Word} (hf : Fit g) : ∀ (f a : Nat) (r : List Nat), r.length ≤ f → (genF g f a r).Perm ((tabW g a r).headD [])
  | 0, a, [], _ => .refl _
  | _ + 1, a, [], _ => .refl _
  | 0, a, x :: r, h => by simp at h
  | f + 1, a, x :: r, h => by
    show ((ordAt g (x :: r)).flatMap fun p => (genF g f (a + wid g p) ((x :: r).drop (wid g p))).map fun w => (a, p) :: w).Perm ((starts g (x :: r)).flatMap fun p => ((tabW g (a + 1) r).getD (wid g p - 1) []).map fun w => (a, p) :: w)
    refine (perm_flat fun p hp => ?_).trans ((ordAt_perm hf (List.cons_ne_nil _ _)).flatMap_right _)
    have hp' := (ordAt_mem hf (List.cons_ne_nil _ _)).mp hp
    have h1 := wid_pos hf.full (starts_ok hp')
    have h2 := wid_le hp'
    have e1 : (tabW g (a + 1) r).getD (wid g p - 1) [] = (tabW g (a + wid g p) ((x :: r).drop (wid g p))).headD [] := by
      rw [List.getD_eq_getElem?_getD, tabW_get g (a + 1) r (wid g p - 1) (by omega)]
      obtain ⟨m, hm⟩ : ∃ m, wid g p = m + 1 := ⟨wid g p - 1, by omega⟩
      rw [hm, List.drop_succ_cons, show a + 1 + (m + 1 - 1) = a + (m + 1) by omega]
      rfl
    rw [e1]
    refine (genF_perm hf f _ _ ?_).map _
    rw [List.length_drop]
    simp only [List.length_cons] at h ⊢
    omega
theorem backCounts_eq (W : Weights) (hf : Fit W.words) : ∀ r : List Nat, backCounts W r = tabC W.words r
  | [] => rfl
  | x :: r => by
    have ih := backCounts_eq W hf r
    show ((backsAt W (x :: r)).map fun (y : Piece × Text × Nat) => (backCounts W r).getD (y.2.2 - 1) 0).foldl (fun (a b : Nat) => a + b) 0 :: backCounts W r = ((starts W.words (x :: r)).map fun p => (tabC W.words r).getD (wid W.words p - 1) 0).sum :: tabC W.words r
    rw [ih, backsAt_eq W (x :: r) (List.cons_ne_nil _ _), List.map_map, ← List.sum_eq_foldl]
    congr 1
    exact perm_sum ((ordAt_perm hf (List.cons_ne_nil _ _)).map _)
theorem many_eq (W : Weights) (hf : Fit W.words) (t : List Nat) : manyBacks W t = (tabC W.words t).headD 0 := by
  unfold manyBacks
  rw [backCounts_eq W hf]
/-! ### the order -/
def wyLt (g : List Word) : Wy → Wy → Prop
  | x :: v, y :: w => pcLt g x.2 y.2 ∨ (x = y ∧ wyLt g v w)
  | _, _ => False
theorem genF_pairwise (g : List Word) : ∀ (f a : Nat) (r : List Nat), (genF g f a r).Pairwise (wyLt g)
  | 0, a, [] => List.pairwise_singleton _ _
  | _ + 1, a, [] => List.pairwise_singleton _ _
  | 0, a, x :: r => .nil
  | f + 1, a, x :: r => by
    show ((ordAt g (x :: r)).flatMap fun p => (genF g f (a + wid g p) ((x :: r).drop (wid g p))).map fun w => (a, p) :: w).Pairwise (wyLt g)
    rw [List.pairwise_flatMap]
    refine ⟨fun p _ => ?_, (ordAt_pairwise g (x :: r)).imp fun h v hv w hw => ?_⟩
    · rw [List.pairwise_map]
      exact (genF_pairwise g f _ _).imp fun h => .inr ⟨rfl, h⟩
    · obtain ⟨v', _, rfl⟩ := List.mem_map.mp hv
      obtain ⟨w', _, rfl⟩ := List.mem_map.mp hw
      exact .inl h
/-- by costs, of one by pieces -/
def keyLt (g : List Word) (b : Nat) (js : List Join) (v w : Wy) : Prop := totalM g b js 0 v < totalM g b js 0 w ∨ (totalM g b js 0 v = totalM g b js 0 w ∧ wyLt g v w)
def putW (g : List Word) (b : Nat) (js : List Join) (x : Wy) : List Wy → List Wy
  | [] => [x]
  | y :: l => if totalM g b js 0 x ≤ totalM g b js 0 y then x :: y :: l else y :: putW g b js x l
section
variable {g : List Word} {b : Nat} {js : List Join}
theorem putW_perm (x : Wy) : ∀ l : List Wy, (putW g b js x l).Perm (x :: l)
  | [] => .refl _
  | y :: l => by
    unfold putW
    split
    · exact .refl _
    · exact ((putW_perm x l).cons y).trans (.swap x y l)
theorem putW_pairwise (x : Wy) : ∀ l : List Wy, l.Pairwise (keyLt g b js) → (∀ y ∈ l, wyLt g x y) → (putW g b js x l).Pairwise (keyLt g b js)
  | [], _, _ => List.pairwise_singleton _ _
  | y :: l, h, hx => by
    obtain ⟨k1, k2⟩ := List.pairwise_cons.mp h
    unfold putW
    split
    · rename_i c
      refine List.pairwise_cons.mpr ⟨fun z hz => ?_, h⟩
      have hle : totalM g b js 0 x ≤ totalM g b js 0 z := by
        rcases List.mem_cons.mp hz with rfl | hz
        · exact c
        · rcases k1 z hz with q | ⟨q, _⟩ <;> omega
      rcases Nat.lt_or_eq_of_le hle with q | q
      · exact .inl q
      · exact .inr ⟨q, hx z hz⟩
    · rename_i c
      refine List.pairwise_cons.mpr ⟨fun z hz => ?_, putW_pairwise x l k2 fun z hz => hx z (List.mem_cons_of_mem _ hz)⟩
      rcases List.mem_cons.mp ((putW_perm x l).mem_iff.mp hz) with rfl | hz
      · exact .inl (by omega)
      · exact k1 z hz
theorem foldW : ∀ l : List Wy, l.Pairwise (wyLt g) → (l.foldr (putW g b js) []).Perm l ∧ (l.foldr (putW g b js) []).Pairwise (keyLt g b js)
  | [], _ => ⟨.refl _, .nil⟩
  | x :: l, h => by
    obtain ⟨k1, k2⟩ := List.pairwise_cons.mp h
    obtain ⟨i1, i2⟩ := foldW l k2
    rw [List.foldr_cons]
    exact ⟨(putW_perm x _).trans (i1.cons x), putW_pairwise x _ i2 fun y hy => k1 y (i1.mem_iff.mp hy)⟩
end
theorem putBack_map (g : List Word) (b : Nat) (js : List Join) (t : List Nat) (x : Wy) : ∀ l : List Wy, putBack (totalM g b js 0 x, backOf g t x) (l.map fun w => (totalM g b js 0 w, backOf g t w)) = (putW g b js x l).map fun w => (totalM g b js 0 w, backOf g t w)
  | [] => rfl
  | y :: l => by
    have ih := putBack_map g b js t x l
    show (if totalM g b js 0 x ≤ totalM g b js 0 y then _ else _) = (if totalM g b js 0 x ≤ totalM g b js 0 y then x :: y :: l else y :: putW g b js x l).map _
    split
    · rfl
    · rw [List.map_cons, ih]
theorem foldr_map (g : List Word) (b : Nat) (js : List Join) (t : List Nat) : ∀ l : List Wy, (l.map fun w => (totalM g b js 0 w, backOf g t w)).foldr putBack [] = (l.foldr (putW g b js) []).map fun w => (totalM g b js 0 w, backOf g t w)
  | [] => rfl
  | x :: l => by
    rw [List.map_cons, List.foldr_cons, List.foldr_cons, foldr_map g b js t l, putBack_map]
end Sb
end
section
/-! Sorting 4: the ways in order are the specification's -/
namespace Sb
open PySem PyProof.Rows PySem.W
open SyBase SyLex SyWays SyBack
theorem pcV_inj {p q : Pc} (h : pcV p = pcV q) : p = q := by
  cases p with
  | none =>
    cases q with
    | none => rfl
    | some k =>
      have h' : (-1 : Int) = (k : Int) := h
      omega
  | some i =>
    cases q with
    | none =>
      have h' : (i : Int) = -1 := h
      omega
    | some k =>
      have h' : (i : Int) = (k : Int) := h
      rw [show i = k by omega]
theorem rk_eqv (g : List Word) (p q : Pc) : PyData.eqv (rkD g p) (rkD g q) = decide (p = q) := by
  unfold rkD
  simp only [PyData.eqv, PyData.eqvAll, Bool.and_true]
  by_cases h : p = q
  · subst h
    simp
  · rw [decide_eq_false h]
    have h3 : (pcV p == pcV q) = false := beq_eq_false_iff_ne.mpr fun z => h (pcV_inj z)
    rw [h3]
    simp
theorem rk_lt {g : List Word} {p q : Pc} (h : pcLt g p q) : dataLt (rkD g p) (rkD g q) = true := by
  unfold rkD
  rw [dataLt_tuple, dataLt_cons (by simp [alike]), dataLt_cons (by simp [alike]), dataLt_cons (by simp [alike]), dataLt_int, dataLt_int, dataLt_int]
  simp only [PyData.eqv, beq_iff_eq]
  rcases h with h | ⟨hw, ⟨h1, h2⟩ | ⟨i, k, h1, h2, h3⟩⟩
  · rw [if_neg (by omega)]
    exact decide_eq_true (by omega)
  · rw [if_pos (by rw [hw]), if_neg h1, if_pos h2, if_neg (by decide)]
    decide
  · subst h1
    subst h2
    rw [if_pos (by rw [hw])]
    have e : ¬ pcV (some i) = pcV (some k) := fun z => by
      have z' : (i : Int) = (k : Int) := z
      omega
    simp only [reduceCtorEq, if_false, if_true]
    rw [if_neg e]
    exact decide_eq_true (show (i : Int) < (k : Int) by omega)
theorem row_lt {g : List Word} : ∀ {v w : Wy}, wyLt g v w → rowLt (v.map fun x => rkD g x.2) (w.map fun x => rkD g x.2) = true ∧ PyData.eqvAll (v.map fun x => rkD g x.2) (w.map fun x => rkD g x.2) = false
  | [], [], h => h.elim
  | [], _ :: _, h => h.elim
  | _ :: _, [], h => h.elim
  | x :: v, y :: w, h => by
    rw [List.map_cons, List.map_cons, eqv_all_cons]
    unfold rowLt
    rw [dataLt_cons (rkD_alike g x.2 y.2), rk_eqv]
    rcases h with h | ⟨h1, h2⟩
    · have ne := pcLt_ne h
      rw [decide_eq_false ne, if_neg Bool.false_ne_true, rk_lt h]
      exact ⟨rfl, rfl⟩
    · subst h1
      obtain ⟨i1, i2⟩ := row_lt h2
      rw [decide_eq_true rfl, if_pos rfl, i2]
      exact ⟨i1, rfl⟩
theorem key_lt {g : List Word} {b : Nat} {js : List Join} {v w : Wy} (h : keyLt g b js v w) : dataLt (wyD g b js v) (wyD g b js w) = true := by
  unfold wyD
  rw [dataLt_pair (by simp [alike]) (by simpa [alike] using rkDs_alike g v w), dataLt_int]
  simp only [PyData.eqv, beq_iff_eq]
  rcases h with h | ⟨h1, h2⟩
  · rw [if_neg (by omega)]
    exact decide_eq_true (by omega)
  · obtain ⟨i1, i2⟩ := row_lt h2
    rw [if_pos (by omega)]
    refine Eq.trans (if_neg ?_) ((dataLt_list _ _).trans i1)
    rw [i2]
    exact Bool.false_ne_true
theorem tri {α : Type} {R : α → α → Prop} : ∀ {l : List α}, l.Pairwise R → ∀ {a b : α}, a ∈ l → b ∈ l → a = b ∨ R a b ∨ R b a
  | [], _, _, _, h, _ => by cases h
  | x :: l, h, a, b, ha, hb => by
    obtain ⟨k1, k2⟩ := List.pairwise_cons.mp h
    rcases List.mem_cons.mp ha with ea | ha
    · rcases List.mem_cons.mp hb with eb | hb
      · exact .inl (ea.trans eb.symm)
      · rw [ea]
        exact .inr (.inl (k1 b hb))
    · rcases List.mem_cons.mp hb with eb | hb
      · rw [eb]
        exact .inr (.inr (k1 a ha))
      · exact tri k2 ha hb
theorem sorted_eq {g : List Word} (hf : Fit g) (b : Nat) (js : List Join) (t : List Nat) : sortedW g b js t = (genF g t.length 0 t).foldr (putW g b js) [] := by
  have T : TotalLe (dataLe false (wyD g b js)) := sortLe_total _ _ _
  obtain ⟨p1, p2⟩ := foldW (b := b) (js := js) (genF g t.length 0 t) (genF_pairwise g t.length 0 t)
  have pg := genF_perm hf t.length 0 t (Nat.le_refl _)
  have le1 : ∀ {v w : Wy}, keyLt g b js v w → dataLe false (wyD g b js) w v = false := fun {v w} h => by
    show (!dataLt (wyD g b js v) (wyD g b js w)) = false
    rw [key_lt h]
    rfl
  refine (List.Perm.eq_of_pairwise (le := fun a b' => dataLe false (wyD g b js) a b' = true) (fun v w hv hw h1 h2 => ?_) (p2.imp fun {v w} h => ?_) (sort_pairwise T _) (p1.trans (pg.trans (List.mergeSort_perm _ _).symm))).symm
  · have hw' : w ∈ (genF g t.length 0 t).foldr (putW g b js) [] := p1.mem_iff.mpr (pg.mem_iff.mpr ((List.mergeSort_perm _ _).mem_iff.mp hw))
    rcases tri p2 hv hw' with e | e | e
    · exact e
    · rw [le1 e] at h2
      cases h2
    · rw [le1 e] at h1
      cases h1
  · rcases T.total v w with q | q
    · exact q
    · rw [le1 h] at q
      cases q
/-! ### the specification's weights -/
def Wt (s : MS) : Weights := ⟨s.1, s.2.1, (inOrderJ s.2.2).filter fun (j : Join) => j.cost != 0⟩
theorem wt_join {s : MS} (h : (s.2.2.map keyJ).Nodup) (x y : Nat) : (Wt s).join x y = joinCost s.2.2 x y := joinCost_filter h x y
theorem wt_cost {s : MS} (h : (s.2.2.map keyJ).Nodup) (t : List Nat) : ∀ (wy : Wy) (x : Nat), (∀ y ∈ wy, okPc s.1 y.2) → costFrom (Wt s) x (wy.map fun z => (⟨(soundsM s.1 t z).length, z.2⟩ : Piece)) = totalM s.1 s.2.1 s.2.2 x wy
  | [], x, _ => wt_join h x 0
  | (k, p) :: wy, x, hok => by
    have ih := wt_cost h t wy (rightP s.1 p) fun y hy => hok y (List.mem_cons_of_mem _ hy)
    have hp : okPc s.1 p := hok (k, p) List.mem_cons_self
    rw [List.map_cons]
    show (Wt s).join x ((Wt s).left ⟨(soundsM s.1 t (k, p)).length, p⟩) + ((Wt s).cost ⟨(soundsM s.1 t (k, p)).length, p⟩ + costFrom (Wt s) ((Wt s).right ⟨(soundsM s.1 t (k, p)).length, p⟩) (wy.map fun z => (⟨(soundsM s.1 t z).length, z.2⟩ : Piece))) = joinCost s.2.2 x (leftP s.1 p) + costP s.1 s.2.1 p + totalM s.1 s.2.1 s.2.2 (rightP s.1 p) wy
    have e1 : (Wt s).left ⟨(soundsM s.1 t (k, p)).length, p⟩ = leftP s.1 p := by
      cases p <;> rfl
    have e2 : (Wt s).right ⟨(soundsM s.1 t (k, p)).length, p⟩ = rightP s.1 p := by
      cases p <;> rfl
    have e3 : (Wt s).cost ⟨(soundsM s.1 t (k, p)).length, p⟩ = costP s.1 s.2.1 p := by
      cases p with
      | none => rfl
      | some i =>
        have hi : i < s.1.length := hp
        show ((s.1[i]?).map fun w => w.cost).getD s.2.1 = ((s.1[i]?).map fun w => w.cost).getD 0
        rw [List.getElem?_eq_getElem hi]
        rfl
    rw [e1, e2, e3, ih, wt_join h]
    omega
theorem backs_eq {s : MS} (h : Good s) (hf : Fit s.1) (t : List Nat) : backs (Wt s) t = (sortedW s.1 s.2.1 s.2.2 t).map (backOf s.1 t) := by
  unfold backs
  rw [backsFrom_eq (Wt s) t t.length 0 t (List.drop_zero ..), List.map_map]
  have pg := genF_perm hf t.length 0 t (Nat.le_refl _)
  have e : (genF (Wt s).words t.length 0 t).map ((fun (b : Back) => (wayCost (Wt s) b.way, b)) ∘ backOf (Wt s).words t) = (genF s.1 t.length 0 t).map fun w => (totalM s.1 s.2.1 s.2.2 0 w, backOf s.1 t w) := by
    refine List.map_congr_left fun w hw => ?_
    obtain ⟨o1, _⟩ := ways_ok (pg.mem_iff.mp hw)
    have : wayCost (Wt s) (backOf s.1 t w).way = totalM s.1 s.2.1 s.2.2 0 w := wt_cost h.2.2 t w 0 fun y hy => (o1 y hy).1
    show (wayCost (Wt s) (backOf s.1 t w).way, backOf s.1 t w) = _
    rw [this]
  rw [e, foldr_map, List.map_map, sorted_eq hf]
  rfl
theorem Good.fit {s : MS} (h : Good s) : Fit s.1 := fun w hw => ⟨h.full w hw, (small_parts (word_parts (h.1 w hw)).1).2.1⟩
end Sb
end
section
/-! Sorting 5: the specification's calls, all of them -/
namespace Sb
open SyBase SyLex SyWays SyBack
def itn (l : List Nat) : List Int := l.map fun (n : Nat) => (n : Int)
theorem itn_len (l : List Nat) : (itn l).length = l.length := List.length_map ..
theorem itn_take (l : List Nat) (n : Nat) : (itn l).take n = itn (l.take n) := List.map_take.symm
theorem itn_drop (l : List Nat) (n : Nat) : (itn l).drop n = itn (l.drop n) := List.map_drop.symm
theorem itn_back (l : List Nat) : (itn l).map Int.toNat = l := by
  unfold itn
  rw [List.map_map]
  exact (List.map_congr_left fun a _ => rfl).trans (List.map_id l)
theorem itn_pos (l : List Nat) : (itn l).all (fun (n : Int) => decide (0 ≤ n)) = true := by
  rw [List.all_eq_true]
  intro z hz
  obtain ⟨n, _, rfl⟩ := List.mem_map.mp hz
  exact decide_eq_true (by omega)
theorem nats?_itn (l : List Nat) : SyRows.nats? (itn l) = some l := by
  unfold SyRows.nats?
  rw [if_pos (itn_pos l), itn_back]
theorem nat?_nat (n : Nat) : SyRows.nat? (n : Int) = some n := by
  unfold SyRows.nat?
  rw [if_pos (by omega)]
  rfl
theorem text?_itn {l : List Nat} (h : NeutralIO.bytes (itn l) = true) : ∃ b : Bytes, SyRows.text? (itn l) = some b ∧ nats b = l := by
  unfold SyRows.text?
  refine ⟨_, if_pos h, ?_⟩
  unfold nats itn
  rw [List.map_map, List.map_map]
  refine (List.map_congr_left fun a ha => ?_).trans (List.map_id l)
  unfold NeutralIO.bytes at h
  have := List.all_eq_true.mp h (a : Int) (List.mem_map.mpr ⟨a, ha, rfl⟩)
  simp only [Bool.and_eq_true, decide_eq_true_eq] at this
  show (UInt8.ofNat ((a : Int).toNat)).toNat = a
  rw [Int.toNat_natCast, UInt8.toNat_ofNat']
  omega
/-- a call as the specification has it -/
def callM (m : Nat) (xs row : List Nat) : List (List Int) := if m = 1 then [[1]] else [((m : Int) :: itn xs), itn row]
theorem ofText_eq {s : MS} (h : Good s) (t : List Nat) (f : List Back → SyAns.Ans) : BackSpec.ofText (Wt s) t f = if refM s.1 t ≠ 0 then SyAns.says (refM s.1 t) else f (backs (Wt s) t) := by
  unfold BackSpec.ofText refM
  have hm : manyBacks (Wt s) t = (tabC s.1 t).headD 0 := many_eq (Wt s) h.fit t
  rw [hm]
  show (if t = [] ∨ 24 < t.length then SyAns.says (-1) else if t.all isChar = false then SyAns.says (-3) else if 1024 < (tabC s.1 t).headD 0 then SyAns.says (-6) else f (backs (Wt s) t)) = _
  by_cases c1 : t = [] ∨ 24 < t.length
  · rw [if_pos c1, if_pos c1]
    rfl
  rw [if_neg c1, if_neg c1]
  by_cases c2 : t.all isChar = false
  · rw [if_pos c2, if_pos c2]
    rfl
  rw [if_neg c2, if_neg c2]
  by_cases c3 : 1024 < (tabC s.1 t).headD 0
  · rw [if_pos c3, if_pos c3]
    rfl
  rw [if_neg c3, if_neg c3]
  rfl
theorem refM_neg {g : List Word} {t : List Nat} (h : refM g t ≠ 0) : refM g t < 0 := by
  unfold refM at h ⊢
  split
  · decide
  · split
    · decide
    · split
      · decide
      · rename_i a b c
        rw [if_neg a, if_neg b, if_neg c] at h
        exact absurd rfl h
theorem told_says (c : BackSpec.Call) (z : Int) : Neutral.told c (SyAns.says z) = [z] := by
  unfold Neutral.told
  show z :: ([] ++ if z < 0 then [] else []) = [z]
  split <;> rfl
theorem backs_get {s : MS} (h : Good s) (t : List Nat) (i : Nat) : (backs (Wt s) t)[i]? = ((sortedW s.1 s.2.1 s.2.2 t)[i]?).map (backOf s.1 t) := by
  rw [backs_eq h h.fit, List.getElem?_map]
theorem told_nth {s : MS} (h : Good s) (t : List Nat) (wy : Wy) (hok : ∀ y ∈ wy, okPc s.1 y.2) (c : BackSpec.Call) : Neutral.told c ⟨((backOf s.1 t wy).way.length : Int), [(wayCost (Wt s) (backOf s.1 t wy).way : Int)], BackSpec.flat (backOf s.1 t wy).way, []⟩ = toldM s.1 s.2.1 s.2.2 t wy := by
  have e1 : wayCost (Wt s) (backOf s.1 t wy).way = totalM s.1 s.2.1 s.2.2 0 wy := wt_cost h.2.2 t wy 0 hok
  have e2 : (backOf s.1 t wy).way.length = wy.length := List.length_map ..
  have e3 : BackSpec.flat (backOf s.1 t wy).way = wy.flatMap fun x => [((soundsM s.1 t x).length : Int), pcV x.2] := by
    unfold BackSpec.flat backOf
    rw [List.flatMap_map]
    refine flatMap_eq fun x _ => ?_
    obtain ⟨k, p⟩ := x
    cases p <;> rfl
  rw [e1, e2, e3]
  unfold Neutral.told toldM
  show (wy.length : Int) :: ([((totalM s.1 s.2.1 s.2.2 0 wy : Nat) : Int)] ++ if (wy.length : Int) < 0 then [] else _) = _
  rw [if_neg (by omega)]
  rfl
theorem told_read {s : MS} (t : List Nat) (wy : Wy) (c : BackSpec.Call) : Neutral.told c (SyAns.shows (backOf s.1 t wy).reading []) = (readM s.1 t wy).map fun (n : Nat) => (n : Int) := by
  unfold Neutral.told readM
  show ((flatM s.1 t wy).length : Int) :: ([] ++ if ((flatM s.1 t wy).length : Int) < 0 then [] else SyAns.ints (flatM s.1 t wy)) = _
  rw [if_neg (by omega)]
  rfl
theorem step_eq {s : MS} (h : Good s) {m : Nat} {xs row : List Nat} (h1 : 1 ≤ m) (h6 : m ≤ 6) (hx : xs.length = sz m) (ha : Neutral.asked1 (callM m xs row) = true) : Neutral.step (Wt s) (callM m xs row) = (Wt (stepM s m xs row).1, (stepM s m xs row).2) := by
  have cs : m = 1 ∨ m = 2 ∨ m = 3 ∨ m = 4 ∨ m = 5 ∨ m = 6 := by omega
  rcases cs with rfl | rfl | rfl | rfl | rfl | rfl
  · rfl
  · have hx' : xs = [] := List.length_eq_zero_iff.mp hx
    subst hx'
    obtain ⟨b, e1, e2⟩ := text?_itn (l := row) ha
    have ec : Neutral.callOf (callM 2 [] row) = some (.words b) := by
      show ((SyRows.text? (itn row)).bind fun x => some (BackSpec.Call.words x)) = _
      rw [e1]
      rfl
    have el : b.length = row.length := by rw [← e2]; exact (List.length_map ..).symm
    unfold Neutral.step
    rw [ec]
    show ((BackSpec.step (Wt s) (.words b)).1, Neutral.told (.words b) (BackSpec.step (Wt s) (.words b)).2) = _
    have es : stepM s 2 [] row = (if 65536 < row.length then (s, [-1]) else match wordsM row with
      | .error (i, k) => (s, [-2, (i : Int), (k : Int)])
      | .ok ws => ((inOrder ws, s.2.1, s.2.2), [((inOrder ws).length : Int)])) := rfl
    have eb : BackSpec.step (Wt s) (.words b) = (if 65536 < b.length then (Wt s, SyAns.says (-1)) else (match readWords b with
      | .error (i, k) => (Wt s, SyAns.tells (-2) (SyAns.ints [i, k]))
      | .ok L => ({ Wt s with words := L }, SyAns.says (L.length : Int)))) := rfl
    rw [es, eb, el]
    by_cases c : 65536 < row.length
    · rw [if_pos c, if_pos c]
      rfl
    · rw [if_neg c, if_neg c, readWords_eq, e2]
      cases wordsM row with
      | error z => rfl
      | ok ws =>
        refine Prod.ext rfl ?_
        exact told_says (.words b) _
  · have hx' : xs = [] := List.length_eq_zero_iff.mp hx
    subst hx'
    have ha' : (NeutralIO.bytes (itn row) && (decide ((itn row).length ≤ Neutral.JOINS) || decide (Neutral.TEXTS < (itn row).length))) = true := ha
    rw [Bool.and_eq_true] at ha'
    obtain ⟨b, e1, e2⟩ := text?_itn (l := row) ha'.1
    have ec : Neutral.callOf (callM 3 [] row) = some (.joins b) := by
      show ((SyRows.text? (itn row)).bind fun x => some (BackSpec.Call.joins x)) = _
      rw [e1]
      rfl
    have el : b.length = row.length := by rw [← e2]; exact (List.length_map ..).symm
    unfold Neutral.step
    rw [ec]
    show ((BackSpec.step (Wt s) (.joins b)).1, Neutral.told (.joins b) (BackSpec.step (Wt s) (.joins b)).2) = _
    have es : stepM s 3 [] row = (if 65536 < row.length then (s, [-1]) else match joinsM row with
      | .error (i, k) => (s, [-2, (i : Int), (k : Int)])
      | .ok (b, js) => ((s.1, b, js), [((js.filter fun (j : SyWays.Join) => j.cost != 0).length : Int)])) := rfl
    have eb : BackSpec.step (Wt s) (.joins b) = (if 65536 < b.length then (Wt s, SyAns.says (-1)) else (match readJoins b with
      | .error (i, k) => (Wt s, SyAns.tells (-2) (SyAns.ints [i, k]))
      | .ok (a, l) => ({ Wt s with alone := a, joins := l }, SyAns.says (l.length : Int)))) := rfl
    rw [es, eb, el]
    by_cases c : 65536 < row.length
    · rw [if_pos c, if_pos c]
      rfl
    · rw [if_neg c, if_neg c, readJoins_eq, e2]
      cases joinsM row with
      | error z => rfl
      | ok z =>
        obtain ⟨a, js⟩ := z
        refine Prod.ext rfl ?_
        refine (told_says (.joins b) _).trans ?_
        show [((((inOrderJ js).filter fun (j : Join) => j.cost != 0).length : Nat) : Int)] = _
        rw [filter_len]
  · have hx' : xs = [] := List.length_eq_zero_iff.mp hx
    subst hx'
    have ec : Neutral.callOf (callM 4 [] row) = some (.many row) := by
      show ((SyRows.nats? (itn row)).bind fun x => some (BackSpec.Call.many x)) = _
      rw [nats?_itn]
      rfl
    unfold Neutral.step
    rw [ec]
    refine Prod.ext rfl ?_
    show Neutral.told (.many row) (BackSpec.ofText (Wt s) row fun (l : List Back) => SyAns.says (l.length : Int)) = askM s.1 s.2.1 s.2.2 4 [] row
    rw [ofText_eq h]
    unfold askM
    by_cases c : refM s.1 row ≠ 0
    · rw [if_pos c, if_pos c, told_says]
    · rw [if_neg c, if_neg c, told_says, if_pos rfl, backs_eq h h.fit, List.length_map]
  · obtain ⟨i, rfl⟩ : ∃ i, xs = [i] := List.length_eq_one_iff.mp hx
    have ec : Neutral.callOf (callM 5 [i] row) = some (.nth i row) := by
      show ((SyRows.nat? (i : Int)).bind fun x => (SyRows.nats? (itn row)).bind fun y => some (BackSpec.Call.nth x y)) = _
      rw [nat?_nat, nats?_itn]
      rfl
    unfold Neutral.step
    rw [ec]
    refine Prod.ext rfl ?_
    show Neutral.told (.nth i row) (BackSpec.ofText (Wt s) row fun (l : List Back) => match l[i]? with
      | some b => ⟨(b.way.length : Int), [(wayCost (Wt s) b.way : Int)], BackSpec.flat b.way, []⟩
      | none => SyAns.says (-5)) = askM s.1 s.2.1 s.2.2 5 [i] row
    rw [ofText_eq h]
    unfold askM
    by_cases c : refM s.1 row ≠ 0
    · rw [if_pos c, if_pos c, told_says]
    · rw [if_neg c, if_neg c, if_neg (by decide), backs_get h]
      show _ = match (sortedW s.1 s.2.1 s.2.2 row)[i]? with
        | none => [-5]
        | some wy => if 5 = 5 then toldM s.1 s.2.1 s.2.2 row wy else _
      cases e : (sortedW s.1 s.2.1 s.2.2 row)[i]? with
      | none => rfl
      | some wy =>
        have hm := List.mem_of_getElem? e
        exact told_nth h row wy (fun y hy => ((sorted_mem hm).1 y hy).1) _
  · obtain ⟨i, rfl⟩ : ∃ i, xs = [i] := List.length_eq_one_iff.mp hx
    have ec : Neutral.callOf (callM 6 [i] row) = some (.reading i row) := by
      show ((SyRows.nat? (i : Int)).bind fun x => (SyRows.nats? (itn row)).bind fun y => some (BackSpec.Call.reading x y)) = _
      rw [nat?_nat, nats?_itn]
      rfl
    unfold Neutral.step
    rw [ec]
    refine Prod.ext rfl ?_
    show Neutral.told (.reading i row) (BackSpec.ofText (Wt s) row fun (l : List Back) => match l[i]? with
      | some b => SyAns.shows b.reading []
      | none => SyAns.says (-5)) = askM s.1 s.2.1 s.2.2 6 [i] row
    rw [ofText_eq h]
    unfold askM
    by_cases c : refM s.1 row ≠ 0
    · rw [if_pos c, if_pos c, told_says]
    · rw [if_neg c, if_neg c, if_neg (by decide), backs_get h]
      show _ = match (sortedW s.1 s.2.1 s.2.2 row)[i]? with
        | none => [-5]
        | some wy => if 6 = 5 then _ else (readM s.1 row wy).map fun (n : Nat) => (n : Int)
      cases e : (sortedW s.1 s.2.1 s.2.2 row)[i]? with
      | none => rfl
      | some wy => exact told_read row wy _
/-! ### many calls -/
theorem whole_id (c : List (List Int)) : PyWqaibp.whole c = c := by
  unfold PyWqaibp.whole
  split <;> rfl
theorem row_eq {l : List Nat} {x r : List Int} (h : PyFlat.row (itn l) = some (x, r)) : ∃ n l', l = n :: l' ∧ n ≤ l'.length ∧ x = itn (l'.take n) ∧ r = itn (l'.drop n) := by
  cases l with
  | nil => cases h
  | cons n l' =>
    have h : (if 0 ≤ (n : Int) ∧ (n : Int).toNat ≤ (itn l').length then some ((itn l').take (n : Int).toNat, (itn l').drop (n : Int).toNat) else none) = some (x, r) := h
    split at h
    · rename_i c
      rw [Int.toNat_natCast, itn_len] at c
      rw [Int.toNat_natCast, itn_take, itn_drop] at h
      cases h
      exact ⟨n, l', rfl, c.2, rfl, rfl⟩
    · cases h
theorem shape_is {p : Int} {n k : Nat} (h : PyWqaibp.shape p = some (n, k)) : (p = 1 ∧ n = 0 ∧ k = 0) ∨ ((p = 2 ∨ p = 3 ∨ p = 4) ∧ n = 0 ∧ k = 1) ∨ ((p = 5 ∨ p = 6) ∧ n = 1 ∧ k = 1) := by
  unfold PyWqaibp.shape at h
  split at h
  · cases h; exact .inl ⟨by assumption, rfl, rfl⟩
  split at h
  · cases h; exact .inr (.inl ⟨.inl (by assumption), rfl, rfl⟩)
  split at h
  · cases h; exact .inr (.inl ⟨.inr (.inl (by assumption)), rfl, rfl⟩)
  split at h
  · cases h; exact .inr (.inl ⟨.inr (.inr (by assumption)), rfl, rfl⟩)
  split at h
  · cases h; exact .inr (.inr ⟨.inl (by assumption), rfl, rfl⟩)
  split at h
  · cases h; exact .inr (.inr ⟨.inr (by assumption), rfl, rfl⟩)
  · cases h
theorem call_eq {m : Nat} {r : List Nat} {c : List (List Int)} {t : List Int} (h : PyFlat.call PyWqaibp.shape (itn (m :: r)) = some (c, t)) : ∃ xs row rest, turnM (m :: r) = some (m, xs, row, rest) ∧ c = callM m xs row ∧ t = itn rest ∧ xs.length = sz m ∧ 1 ≤ m ∧ m ≤ 6 ∧ rest.length ≤ r.length := by
  have h : (match PyWqaibp.shape (m : Int) with
    | none => none
    | some (n, k) => if (itn r).length < n then none else match PyFlat.rows k ((itn r).drop n) with
      | none => none
      | some (xs, t) => some (((m : Int) :: (itn r).take n) :: xs, t)) = some (c, t) := h
  cases e : PyWqaibp.shape (m : Int) with
  | none => rw [e] at h; cases h
  | some nk =>
    obtain ⟨n, k⟩ := nk
    rw [e] at h
    have h : (if (itn r).length < n then none else match PyFlat.rows k ((itn r).drop n) with
      | none => none
      | some (xs, t) => some (((m : Int) :: (itn r).take n) :: xs, t)) = some (c, t) := h
    split at h
    · cases h
    rename_i c0
    rw [itn_len] at c0
    rw [itn_drop, itn_take] at h
    rcases shape_is e with ⟨hp, rfl, rfl⟩ | hp
    · obtain rfl : m = 1 := by omega
      have h : some ((((1 : Nat) : Int) :: itn (r.take 0)) :: [], itn (r.drop 0)) = some (c, t) := h
      cases h
      exact ⟨[], [], r, rfl, rfl, rfl, rfl, by decide, by decide, Nat.le_refl _⟩
    · obtain ⟨hm1, h2, h6, rfl, rfl⟩ : m ≠ 1 ∧ 2 ≤ m ∧ m ≤ 6 ∧ n = sz m ∧ k = 1 := by
        unfold sz
        rcases hp with ⟨a, rfl, rfl⟩ | ⟨a, rfl, rfl⟩
        · exact ⟨by omega, by omega, by omega, (if_neg (by omega)).symm, rfl⟩
        · exact ⟨by omega, by omega, by omega, (if_pos (by omega)).symm, rfl⟩
      have h : (match (match PyFlat.row (itn (r.drop (sz m))) with
          | none => none
          | some (x, s) => some ([x], s)) with
        | none => none
        | some (xs, t) => some (((m : Int) :: itn (r.take (sz m))) :: xs, t)) = some (c, t) := h
      cases er : PyFlat.row (itn (r.drop (sz m))) with
      | none => rw [er] at h; cases h
      | some xr =>
        obtain ⟨x, r0⟩ := xr
        rw [er] at h
        have h : some (((m : Int) :: itn (r.take (sz m))) :: [x], r0) = some (c, t) := h
        cases h
        obtain ⟨q, l', e1, e2, rfl, rfl⟩ := row_eq er
        refine ⟨r.take (sz m), l'.take q, l'.drop q, ?_, ?_, rfl, ?_, by omega, h6, ?_⟩
        · show (if m = 1 then some (1, [], [], r) else if 2 ≤ m ∧ m ≤ 6 ∧ sz m ≤ r.length then (match r.drop (sz m) with
            | n :: r' => if n ≤ r'.length then some (m, r.take (sz m), r'.take n, r'.drop n) else none
            | [] => none) else none) = _
          rw [if_neg hm1, if_pos ⟨h2, h6, by omega⟩, e1]
          exact if_pos e2
        · unfold callM
          rw [if_neg hm1]
        · rw [List.length_take]
          omega
        · have := congrArg List.length e1
          rw [List.length_drop, List.length_cons] at this
          rw [List.length_drop]
          omega
theorem run_eq : ∀ (f : Nat) (l : List Nat) (cs : List (List (List Int))), PyFlat.calls PyWqaibp.shape f (itn l) = some cs → ∀ s, Good s → (∀ c ∈ cs, Neutral.asked1 c = true) → runM f s l = some (PyFlat.told (PyFlat.played Neutral.step (Wt s) cs))
  | f, [], cs, h, s, _, _ => by
    have h : some [] = some cs := by
      cases f <;> exact h
    cases h
    cases f <;> rfl
  | 0, a :: l, cs, h, _, _, _ => by cases h
  | f + 1, a :: l, cs, h, s, hs, ha => by
    have h : (match PyFlat.call PyWqaibp.shape (itn (a :: l)) with
      | none => none
      | some (c, t) => match PyFlat.calls PyWqaibp.shape f t with
        | none => none
        | some cs => some (c :: cs)) = some cs := h
    cases e : PyFlat.call PyWqaibp.shape (itn (a :: l)) with
    | none => rw [e] at h; cases h
    | some ct =>
      obtain ⟨c, t⟩ := ct
      rw [e] at h
      have h : (match PyFlat.calls PyWqaibp.shape f t with
        | none => none
        | some cs => some (c :: cs)) = some cs := h
      cases e2 : PyFlat.calls PyWqaibp.shape f t with
      | none => rw [e2] at h; cases h
      | some cs' =>
        rw [e2] at h
        cases h
        obtain ⟨xs, row, rest, h1, rfl, rfl, h2, h3, h4, _⟩ := call_eq e
        have st := step_eq hs h3 h4 h2 (ha _ List.mem_cons_self)
        have ih := run_eq f rest cs' e2 (stepM s a xs row).1 (good_step hs a xs row) fun c hc => ha c (List.mem_cons_of_mem _ hc)
        show (match turnM (a :: l) with
          | none => none
          | some (m, xs, row, rest) => (runM f (stepM s m xs row).1 rest).map fun o => ((stepM s m xs row).2.length : Int) :: ((stepM s m xs row).2 ++ o)) = _
        rw [h1]
        show ((runM f (stepM s a xs row).1 rest).map fun o => ((stepM s a xs row).2.length : Int) :: ((stepM s a xs row).2 ++ o)) = _
        rw [ih]
        show some (((stepM s a xs row).2.length : Int) :: ((stepM s a xs row).2 ++ _)) = some (PyFlat.told ((Neutral.step (Wt s) (callM a xs row)).2 :: PyFlat.played Neutral.step (Neutral.step (Wt s) (callM a xs row)).1 cs'))
        rw [st]
        rfl
theorem start_eq : Wt ([], 65535, []) = Neutral.start := rfl
theorem good_start : Good ([], 65535, []) := ⟨fun w hw => (nomatch hw), Nat.zero_le _, List.nodup_nil⟩
/-- what is asked is answered -/
theorem answers_run {l : List Int} (h : PyWqaibp.answers_asked l = true) (hl : ∀ z ∈ l, 0 ≤ z) : itn (l.map Int.toNat) = l ∧ runM (l.map Int.toNat).length ([], 65535, []) (l.map Int.toNat) = some (PyWqaibp.answers l) ∧ (PyWqaibp.answers l).length ≤ 10000000 := by
  have el : itn (l.map Int.toNat) = l := by
    unfold itn
    rw [List.map_map]
    refine (List.map_congr_left fun z hz => ?_).trans (List.map_id l)
    exact Int.toNat_of_nonneg (hl z hz)
  refine ⟨el, ?_⟩
  unfold PyWqaibp.answers_asked at h
  cases e : PyFlat.calls PyWqaibp.shape l.length l with
  | none => rw [e] at h; cases h
  | some cs =>
    rw [e] at h
    have h : (PyFlat.atMost 300 cs && PyInside.calls PyWqaibp.bound cs && Neutral.asked (cs.map PyWqaibp.whole) && PyFlat.short 10000000 (PyWqaibp.answers l)) = true := h
    rw [Bool.and_eq_true, Bool.and_eq_true] at h
    have ew : cs.map PyWqaibp.whole = cs := (List.map_congr_left fun c _ => whole_id c).trans (List.map_id cs)
    have ha : ∀ c ∈ cs, Neutral.asked1 c = true := by
      have := h.1.2
      rw [ew] at this
      unfold Neutral.asked at this
      rw [Bool.and_eq_true] at this
      exact List.all_eq_true.mp this.1
    refine ⟨?_, of_decide_eq_true h.2⟩
    have e' : PyFlat.calls PyWqaibp.shape (l.map Int.toNat).length (itn (l.map Int.toNat)) = some cs := by
      rw [el, List.length_map]
      exact e
    rw [run_eq _ _ _ e' _ good_start ha]
    unfold PyWqaibp.answers PyWqaibp.calls
    rw [e, start_eq]
    show _ = some (PyFlat.told (PyFlat.played Neutral.step Neutral.start (cs.map PyWqaibp.whole)))
    rw [ew]
end Sb
end
section
/-! The end 1: all defs from what the top has written (printed by genEnd.py) -/
namespace Sb
open PySem PySem.Spec PyProof.Rows L2
section
variable {K : PySem.W.Frag}
/-- what a module's name stands for -/
def IntF (K : PySem.W.Frag) (x : Str) (i : Int) : Prop := ∃ t, PySem.W.nsIn K mainGlobals x = some (some (.int i t))
theorem int_mk {x : Str} {i : Int} {t : Tok} (h : PySem.W.nsIn K mainGlobals x = some (some (.int i t))) : IntF K x i := ⟨t, h⟩
def TupF (K : PySem.W.Frag) (x : Str) (xs : List V) : Prop := ∃ a, PySem.W.nsIn K mainGlobals x = some (some (.ref a)) ∧ ∃ (o : Obj) (its : Array Value) (n : Nat), K.lookup a = some o ∧ o.cls = .type "tuple" ∧ o.data = .seq its n ∧ its.size ≤ sizeLine ∧ Vals xs its.toList
theorem tup_mk4 {x : Str} {i0 i1 i2 i3 : Int} {t0 t1 t2 t3 : Tok} {a : Addr} {od : Option Addr} {n : Nat} {sl : Array (Option Value)} (h : PySem.W.nsIn K mainGlobals x = some (some (.ref a))) (l : K.lookup a = some ⟨.type "tuple", od, .seq #[.int i0 t0, .int i1 t1, .int i2 t2, .int i3 t3] n, sl⟩) :
    TupF K x [.int i0, .int i1, .int i2, .int i3] := ⟨a, h, _, _, n, l, rfl, rfl, by show 4 ≤ sizeLine; decide, .cons ⟨_, rfl⟩ (.cons ⟨_, rfl⟩ (.cons ⟨_, rfl⟩ (.cons ⟨_, rfl⟩ (.nil))))⟩
theorem tup_mk5 {x : Str} {i0 i1 i2 i3 i4 : Int} {t0 t1 t2 t3 t4 : Tok} {a : Addr} {od : Option Addr} {n : Nat} {sl : Array (Option Value)} (h : PySem.W.nsIn K mainGlobals x = some (some (.ref a))) (l : K.lookup a = some ⟨.type "tuple", od, .seq #[.int i0 t0, .int i1 t1, .int i2 t2, .int i3 t3, .int i4 t4] n, sl⟩) :
    TupF K x [.int i0, .int i1, .int i2, .int i3, .int i4] := ⟨a, h, _, _, n, l, rfl, rfl, by show 5 ≤ sizeLine; decide, .cons ⟨_, rfl⟩ (.cons ⟨_, rfl⟩ (.cons ⟨_, rfl⟩ (.cons ⟨_, rfl⟩ (.cons ⟨_, rfl⟩ (.nil)))))⟩
theorem tup_mk7 {x : Str} {i0 i1 i2 i3 i4 i5 i6 : Int} {t0 t1 t2 t3 t4 t5 t6 : Tok} {a : Addr} {od : Option Addr} {n : Nat} {sl : Array (Option Value)} (h : PySem.W.nsIn K mainGlobals x = some (some (.ref a))) (l : K.lookup a = some ⟨.type "tuple", od, .seq #[.int i0 t0, .int i1 t1, .int i2 t2, .int i3 t3, .int i4 t4, .int i5 t5, .int i6 t6] n, sl⟩) :
    TupF K x [.int i0, .int i1, .int i2, .int i3, .int i4, .int i5, .int i6] := ⟨a, h, _, _, n, l, rfl, rfl, by show 7 ≤ sizeLine; decide, .cons ⟨_, rfl⟩ (.cons ⟨_, rfl⟩ (.cons ⟨_, rfl⟩ (.cons ⟨_, rfl⟩ (.cons ⟨_, rfl⟩ (.cons ⟨_, rfl⟩ (.cons ⟨_, rfl⟩ (.nil)))))))⟩
theorem IntF.g {x : Str} {i : Int} {h : Heap} {mg : Str → Option Value} (X : K.In h) (G : h.Ns mainGlobals mg) (f : IntF K x i) : GInt mg x i := by
  obtain ⟨t, e⟩ := f
  exact ⟨t, PySem.W.mg_of X G e⟩
theorem TupF.g {x : Str} {xs : List V} {h : Heap} {mg : Str → Option Value} (X : K.In h) (G : h.Ns mainGlobals mg) (f : TupF K x xs) : GTup K mg x xs := by
  obtain ⟨a, e, r⟩ := f
  exact ⟨a, PySem.W.mg_of X G e, fun _ => .inr r⟩
/-- a def as it was written -/
def DefF (K : PySem.W.Frag) (x qual : Str) (st : Stmt) : Prop := ∃ (f : Addr) (oc : Value) (od an : Option Addr) (osl : Array (Option Value)) (kV doc pm cdv ct : Value), PySem.W.nsIn K mainGlobals x = some (some (.ref f)) ∧
  K.lookup f = some ⟨oc, od, .func (PySem.W.fnOf x qual (defArgs st) (defBody st) (defScope st) .none kV doc pm an cdv ct), osl⟩ ∧ PySem.W.codeIn K cdv qual = true ∧ PySem.W.keepIn K (.ref f) = true
theorem deff_mk {x qual : Str} {st : Stmt} {f : Addr} {oc : Value} {od an : Option Addr} {osl : Array (Option Value)} {kV doc pm cdv ct : Value} (a : PySem.W.nsIn K mainGlobals x = some (some (.ref f)))
    (l : K.lookup f = some ⟨oc, od, .func (PySem.W.fnOf x qual (defArgs st) (defBody st) (defScope st) .none kV doc pm an cdv ct), osl⟩) (c : PySem.W.codeIn K cdv qual = true) (k : PySem.W.keepIn K (.ref f) = true) : DefF K x qual st := ⟨f, oc, od, an, osl, kV, doc, pm, cdv, ct, a, l, c, k⟩
def MethF (K : PySem.W.Frag) (C : Addr) (x qual : Str) (st : Stmt) : Prop := ∃ (f : Addr) (oc : Value) (od an : Option Addr) (osl : Array (Option Value)) (kV doc pm cdv ct : Value), PySem.W.findIn K (.ref C) x = some (some (.ref f)) ∧ PySem.W.isFn K (.ref f) = true ∧
  K.lookup f = some ⟨oc, od, .func (PySem.W.fnOf x qual (defArgs st) (defBody st) (defScope st) .none kV doc pm an cdv ct), osl⟩ ∧ PySem.W.codeIn K cdv qual = true ∧ PySem.W.keepIn K (.ref f) = true
theorem meth_mk {C : Addr} {x qual : Str} {st : Stmt} {f : Addr} {oc : Value} {od an : Option Addr} {osl : Array (Option Value)} {kV doc pm cdv ct : Value} (a : PySem.W.findIn K (.ref C) x = some (some (.ref f))) (i : PySem.W.isFn K (.ref f) = true)
    (l : K.lookup f = some ⟨oc, od, .func (PySem.W.fnOf x qual (defArgs st) (defBody st) (defScope st) .none kV doc pm an cdv ct), osl⟩) (c : PySem.W.codeIn K cdv qual = true) (k : PySem.W.keepIn K (.ref f) = true) : MethF K C x qual st := ⟨f, oc, od, an, osl, kV, doc, pm, cdv, ct, a, i, l, c, k⟩
/-- how many arguments, by place -/
def Bd (x qual : Str) (st : Stmt) (ps : List Str) : Prop := ∀ (kV doc pm : Value) (an : Option Addr) (cdv ct : Value) (us : List Value), us.length = ps.length → bindArgs (PySem.W.fnOf x qual (defArgs st) (defBody st) (defScope st) .none kV doc pm an cdv ct) ⟨us, []⟩ = pure (ps.zip us)
theorem DefF.d {x qual : Str} {st : Stmt} {ps : List Str} {h : Heap} {mg : Str → Option Value} (X : K.In h) (G : h.Ns mainGlobals mg) (f : DefF K x qual st) (b : Bd x qual st ps) : Def K mg x qual st ps := by
  obtain ⟨f, oc, od, an, osl, kV, doc, pm, cdv, ct, a, l, c, k⟩ := f
  exact ⟨f, _, fun_mk (st := st) l c k, (fun_mk (st := st) l c k).binds b, PySem.W.mg_of X G a⟩
theorem MethF.m {C : Addr} {x qual : Str} {st : Stmt} {ps : List Str} (f : MethF K C x qual st) (b : Bd x qual st ps) : MDef K C x qual st ps := by
  obtain ⟨f, oc, od, an, osl, kV, doc, pm, cdv, ct, a, i, l, c, k⟩ := f
  exact ⟨f, _, fun_mk (st := st) l c k, (fun_mk (st := st) l c k).binds b, ⟨a, i, k⟩⟩
theorem MethF.i {C : Addr} {qual : Str} {st : Stmt} {ps : List Str} (f : MethF K C "__init__" qual st) (b : Bd "__init__" qual st ps) (mk : PySem.W.makesIn K C = true) (kc : PySem.W.keepIn K (.ref C) = true) : IDef K C qual st ps := by
  obtain ⟨f, oc, od, an, osl, kV, doc, pm, cdv, ct, a, i, l, c, k⟩ := f
  exact ⟨f, _, fun_mk (st := st) l c k, (fun_mk (st := st) l c k).binds b, ⟨mk, a, i, kc⟩⟩
/-- a method that is read as a value -/
def BmF (K : PySem.W.Frag) (C : Addr) (x : Str) : Prop := ∃ g, PySem.W.findIn K (.ref C) x = some (some (.ref g)) ∧ PySem.W.specialIn K (.ref g) "__get__" = some (some (.builtin "function.__get__")) ∧ PySem.W.takesIn K (.ref g) = some false ∧ PySem.W.fnIn K g = true
theorem bm_mk {C g : Addr} {x : Str} (a : PySem.W.findIn K (.ref C) x = some (some (.ref g))) (b : PySem.W.specialIn K (.ref g) "__get__" = some (some (.builtin "function.__get__"))) (c : PySem.W.takesIn K (.ref g) = some false) (d : PySem.W.fnIn K g = true) : BmF K C x := ⟨g, a, b, c, d⟩
theorem BmF.meth {C g : Addr} {x : Str} (f : BmF K C x) (m : Meth K C x g) (cp : PySem.W.copiedNames.contains x = false) : BMeth K C x g := by
  obtain ⟨g', a, b, c, d⟩ := f
  have e := a.symm.trans m.at_
  cases e
  exact ⟨m, b, c, cp, d⟩
def FnT (K : PySem.W.Frag) (C : Addr) : Prop := ∃ f, PySem.W.findIn K (.ref C) "__init__" = some (some (.ref f)) ∧ PySem.W.typeIn K (.ref f) = some (.type "function")
theorem fnt_mk {C f : Addr} (a : PySem.W.findIn K (.ref C) "__init__" = some (some (.ref f))) (t : PySem.W.typeIn K (.ref f) = some (.type "function")) : FnT K C := ⟨f, a, t⟩
/-- an own class of errors -/
def ExcF (K : PySem.W.Frag) (C : Addr) : Prop := ∃ nm q N bs bm sn sub ab col dd k0 k1 k2 k3 k5, K.lookup C = some (excClassObj nm q C N bs bm true sn sub ab col dd k0 k1 k2 k3 k5 "ValueError.__new__") ∧ PySem.HandSPX.refsVE bm = true
theorem exc_mk {C N : Addr} {nm q : Str} {bs : List Value} {sn : List Str} {sub : List Value} {ab : Bool} {col : Option Bool} {dd : Option Addr} {m0 m1 m2 m3 m5 : Option Value}
    (l : K.lookup C = some (excClassObj nm q C N bs [.type "ValueError", .type "Exception", .type "BaseException", .type "object"] true sn sub ab col dd m0 m1 m2 m3 m5 "ValueError.__new__")) : ExcF K C := ⟨_, _, _, _, _, _, _, _, _, _, _, _, _, _, _, l, by decide +kernel⟩
/-- what an except takes -/
theorem exm_mk {S C : Addr} {b : Bool} (h1 : PySem.W.subIn K (.ref C) (.type "BaseException") = some true) (h2 : PySem.W.isClsIn K C = true) (h3 : PySem.W.typeIn K (.ref C) = some (.type "type")) (h4 : PySem.W.subIn K (.ref S) (.ref C) = some b) : PySem.W.exmOne K (.ref S) (.ref C) = some b := by
  have e2 : (PySem.W.clsIn K C).isSome = true := h2
  unfold PySem.W.exmOne PySem.W.kitCls
  simp only [h1, h3, h4, e2, beq_self_eq_true, Bool.and_self, if_true]
end
theorem all_mk {P : Program} {w : World} {K : PySem.W.Frag} {h : Heap} {mg : Str → Option Value} {fa CF CN CW CJ CT CB : Addr} (X : K.In h) (G : h.Ns mainGlobals mg) (hfa : mg "answers" = some (.ref fa))
    (z_len : PySem.W.nsIn K mainGlobals "len" = some none)
    (z_enumerate : PySem.W.nsIn K mainGlobals "enumerate" = some none)
    (z_all : PySem.W.nsIn K mainGlobals "all" = some none)
    (z_tuple : PySem.W.nsIn K mainGlobals "tuple" = some none)
    (z_sorted : PySem.W.nsIn K mainGlobals "sorted" = some none)
    (z_range : PySem.W.nsIn K mainGlobals "range" = some none)
    (z_sum : PySem.W.nsIn K mainGlobals "sum" = some none)
    (z_int : PySem.W.nsIn K mainGlobals "int" = some none)
    (z_list : PySem.W.nsIn K mainGlobals "list" = some none)
    (i_LINE_END : IntF K "LINE_END" 10)
    (i_BLANK : IntF K "BLANK" 32)
    (i_ZERO : IntF K "ZERO" 48)
    (i_DELETED : IntF K "DELETED" 127)
    (i_FIRST_ODD : IntF K "FIRST_ODD" 55296)
    (i_LAST_ODD : IntF K "LAST_ODD" 57343)
    (i_LAST_CHARACTER : IntF K "LAST_CHARACTER" 1114111)
    (i_MOST_SIGNS_lexicons : IntF K "MOST_SIGNS_lexicons" 32)
    (i_MOST_SORT : IntF K "MOST_SORT" 255)
    (i_MOST_COST : IntF K "MOST_COST" 65535)
    (i_MOST_WORDS : IntF K "MOST_WORDS" 128)
    (i_NO_LINE : IntF K "NO_LINE" 1)
    (i_TOO_MUCH : IntF K "TOO_MUCH" 2)
    (i_AGAIN : IntF K "AGAIN" 3)
    (i_ONE_TOO_MANY : IntF K "ONE_TOO_MANY" 4)
    (i_BY_ITSELF : IntF K "BY_ITSELF" (-1))
    (i_EDGE : IntF K "EDGE" 0)
    (i_WRONG_SIZE : IntF K "WRONG_SIZE" (-1))
    (i_FAULTY : IntF K "FAULTY" (-2))
    (i_NO_CHARACTER : IntF K "NO_CHARACTER" (-3))
    (i_NONE_SUCH : IntF K "NONE_SUCH" (-5))
    (i_TOO_MANY : IntF K "TOO_MANY" (-6))
    (i_MOST_BYTES : IntF K "MOST_BYTES" 65536)
    (i_MOST_SIGNS_readings : IntF K "MOST_SIGNS_readings" 24)
    (i_MOST_WAYS : IntF K "MOST_WAYS" 1024)
    (i_DEAREST : IntF K "DEAREST" 65535)
    (i_BEGIN : IntF K "BEGIN" 1)
    (t_LEASTS : TupF K "LEASTS" [.int 0, .int 128, .int 2048, .int 65536])
    (t_BOUNDS : TupF K "BOUNDS" [.int 128, .int 192, .int 224, .int 240, .int 248])
    (t_SIZES : TupF K "SIZES" [.int 0, .int 0, .int 0, .int 0, .int 0, .int 1, .int 1])
    (gN : PySem.W.nsIn K mainGlobals "NoLine" = some (some (.ref CN)))
    (xN : PySem.W.excIn K CN [.type "ValueError", .type "Exception", .type "BaseException", .type "object"] "ValueError.__new__" = true)
    (kN : PySem.W.keepIn K (.ref CN) = true)
    (bN : PySem.W.subIn K (.ref CN) (.type "BaseException") = some true)
    (tN : PySem.W.typeIn K (.ref CN) = some (.type "type"))
    (iN : PySem.W.isClsIn K CN = true)
    (sN : PySem.W.subIn K (.ref CN) (.ref CN) = some true)
    (gF : PySem.W.nsIn K mainGlobals "Fault" = some (some (.ref CF)))
    (xL : ExcF K CF)
    (saF : PySem.W.findIn K (.ref CF) "__setattr__" = some (some (.builtin "object.__setattr__")))
    (bF : PySem.W.subIn K (.ref CF) (.type "BaseException") = some true)
    (tF : PySem.W.typeIn K (.ref CF) = some (.type "type"))
    (kF : PySem.W.keepIn K (.ref CF) = true)
    (gaF : PySem.W.findIn K (.ref CF) "__getattribute__" = some (some (.builtin "BaseException.__getattribute__")))
    (ggF : PySem.W.findIn K (.ref CF) "__getattr__" = some none)
    (hdF : PySem.W.hasDictIn K CF = true)
    (nFl : PySem.W.findIn K (.ref CF) "line" = some none)
    (nFk : PySem.W.findIn K (.ref CF) "kind" = some none)
    (iF : PySem.W.isClsIn K CF = true)
    (sF : PySem.W.subIn K (.ref CF) (.ref CF) = some true)
    (sFN : PySem.W.subIn K (.ref CF) (.ref CN) = some false)
    (m_Fault___init__ : MethF K CF "__init__" "Fault.__init__" sFInit)
    (ty_Fault : FnT K CF)
    (g_Word : PySem.W.nsIn K mainGlobals "Word" = some (some (.ref CW)))
    (cl_Word : Cls K CW)
    (mk_Word : PySem.W.makesIn K CW = true)
    (kp_Word : PySem.W.keepIn K (.ref CW) = true)
    (n_Word_sounds : PySem.W.findIn K (.ref CW) "sounds" = some none)
    (n_Word_signs : PySem.W.findIn K (.ref CW) "signs" = some none)
    (n_Word_left : PySem.W.findIn K (.ref CW) "left" = some none)
    (n_Word_right : PySem.W.findIn K (.ref CW) "right" = some none)
    (n_Word_cost : PySem.W.findIn K (.ref CW) "cost" = some none)
    (g_Joins : PySem.W.nsIn K mainGlobals "Joins" = some (some (.ref CJ)))
    (cl_Joins : Cls K CJ)
    (mk_Joins : PySem.W.makesIn K CJ = true)
    (kp_Joins : PySem.W.keepIn K (.ref CJ) = true)
    (n_Joins_by_itself : PySem.W.findIn K (.ref CJ) "by_itself" = some none)
    (n_Joins_costs : PySem.W.findIn K (.ref CJ) "costs" = some none)
    (g_Text : PySem.W.nsIn K mainGlobals "Text" = some (some (.ref CT)))
    (cl_Text : Cls K CT)
    (mk_Text : PySem.W.makesIn K CT = true)
    (kp_Text : PySem.W.keepIn K (.ref CT) = true)
    (n_Text_words : PySem.W.findIn K (.ref CT) "words" = some none)
    (n_Text_joins : PySem.W.findIn K (.ref CT) "joins" = some none)
    (n_Text_signs : PySem.W.findIn K (.ref CT) "signs" = some none)
    (n_Text_starting : PySem.W.findIn K (.ref CT) "starting" = some none)
    (g_Book : PySem.W.nsIn K mainGlobals "Book" = some (some (.ref CB)))
    (cl_Book : Cls K CB)
    (mk_Book : PySem.W.makesIn K CB = true)
    (kp_Book : PySem.W.keepIn K (.ref CB) = true)
    (n_Book_words : PySem.W.findIn K (.ref CB) "words" = some none)
    (n_Book_joins : PySem.W.findIn K (.ref CB) "joins" = some none)
    (n_Book_known : PySem.W.findIn K (.ref CB) "known" = some none)
    (nbw : CB ≠ CW)
    (nbj : CB ≠ CJ)
    (ntw : CT ≠ CW)
    (d_want : DefF K "want" "want" sWant)
    (d_parted : DefF K "parted" "parted" sParted)
    (d_is_character : DefF K "is_character" "is_character" sIsCh)
    (d_may_stand : DefF K "may_stand" "may_stand" sMay)
    (d_lines_of : DefF K "lines_of" "lines_of" sLines)
    (d_width_of : DefF K "width_of" "width_of" sWidth)
    (d_character_at : DefF K "character_at" "character_at" sCharAt)
    (d_characters_of : DefF K "characters_of" "characters_of" sChars)
    (d_number_of : DefF K "number_of" "number_of" sNum)
    (d_parts_of : DefF K "parts_of" "parts_of" sParts)
    (d_row_in : DefF K "row_in" "row_in" sRow)
    (m_Word___init__ : MethF K CW "__init__" "Word.__init__" sWInit)
    (m_Word_is_within : MethF K CW "is_within" "Word.is_within" sWithin)
    (m_Word_name : MethF K CW "name" "Word.name" sName)
    (m_Word_rank : MethF K CW "rank" "Word.rank" sRank)
    (d_rank_of : DefF K "rank_of" "rank_of" sRankOf)
    (d_word_of : DefF K "word_of" "word_of" sWordOf)
    (d_word_in : DefF K "word_in" "word_in" sWordIn)
    (d_words_of : DefF K "words_of" "words_of" sWords)
    (d_numbers_in : DefF K "numbers_in" "numbers_in" sNumbers)
    (d_by_itself_in : DefF K "by_itself_in" "by_itself_in" sBy)
    (d_join_in : DefF K "join_in" "join_in" sJoinIn)
    (m_Joins___init__ : MethF K CJ "__init__" "Joins.__init__" sJInit)
    (m_Joins_join : MethF K CJ "join" "Joins.join" sJoin)
    (m_Joins_many : MethF K CJ "many" "Joins.many" sJMany)
    (d_joins_of : DefF K "joins_of" "joins_of" sJoins)
    (m_Text_pieces_at : MethF K CT "pieces_at" "Text.pieces_at" sPieces)
    (m_Text___init__ : MethF K CT "__init__" "Text.__init__" sTInit)
    (m_Text_width : MethF K CT "width" "Text.width" sWid)
    (m_Text_sorts_of : MethF K CT "sorts_of" "Text.sorts_of" sSorts)
    (m_Text_cost_of : MethF K CT "cost_of" "Text.cost_of" sCostOf)
    (m_Text_many : MethF K CT "many" "Text.many" sTMany)
    (m_Text_ways : MethF K CT "ways" "Text.ways" sTWays)
    (m_Text_total : MethF K CT "total" "Text.total" sTotal)
    (m_Text_piece_rank : MethF K CT "piece_rank" "Text.piece_rank" sPRank)
    (m_Text_rank : MethF K CT "rank" "Text.rank" sWRank)
    (m_Text_in_order : MethF K CT "in_order" "Text.in_order" sInOrder)
    (m_Text_sounds_of : MethF K CT "sounds_of" "Text.sounds_of" sSounds)
    (m_Text_told : MethF K CT "told" "Text.told" sTold)
    (m_Text_reading : MethF K CT "reading" "Text.reading" sReading)
    (m_Book___init__ : MethF K CB "__init__" "Book.__init__" sBInit)
    (m_Book_begin : MethF K CB "begin" "Book.begin" sBegin)
    (m_Book_put_words : MethF K CB "put_words" "Book.put_words" sPutW)
    (m_Book_put_joins : MethF K CB "put_joins" "Book.put_joins" sPutJ)
    (m_Book_text : MethF K CB "text" "Book.text" sText)
    (m_Book_ways : MethF K CB "ways" "Book.ways" sBWays)
    (d_tell_words : DefF K "tell_words" "tell_words" sTellW)
    (d_tell_joins : DefF K "tell_joins" "tell_joins" sTellJ)
    (d_refusal_of : DefF K "refusal_of" "refusal_of" sRefusal)
    (d_ask : DefF K "ask" "ask" sAsk)
    (d_answer : DefF K "answer" "answer" sAnswer)
    (d_answers : DefF K "answers" "answers" sAnswers)
    (bm : BmF K CT "rank")
    : ∃ fd : FuncData, (∀ (s : Shared) (us : List Value), us.length = (["calls"] : List Str).length → BindsTo s fd ⟨us, []⟩ ((["calls"] : List Str).zip us)) ∧ ∀ base : Heap, K.In base → base.Ns mainGlobals mg → FnOk P w K mg base CX0 12 fa fd ["calls"] (spAnswers K) := by
  obtain ⟨f, oc, od, an, osl, kV, doc, pm, cdv, ct, fA, fl, fc, fk⟩ := d_answers
  have e := hfa.symm.trans (PySem.W.mg_of X G fA)
  cases e
  have T : Txt K mg ⟨CF, CN, CW, CJ, CT, CB⟩ :=
    { len := PySem.W.mg_none_of X G z_len,
      enumerate := PySem.W.mg_none_of X G z_enumerate,
      all := PySem.W.mg_none_of X G z_all,
      tuple := PySem.W.mg_none_of X G z_tuple,
      sorted := PySem.W.mg_none_of X G z_sorted,
      range := PySem.W.mg_none_of X G z_range,
      sum := PySem.W.mg_none_of X G z_sum,
      int := PySem.W.mg_none_of X G z_int,
      list := PySem.W.mg_none_of X G z_list,
      LINE_END := i_LINE_END.g X G,
      BLANK := i_BLANK.g X G,
      ZERO := i_ZERO.g X G,
      DELETED := i_DELETED.g X G,
      FIRST_ODD := i_FIRST_ODD.g X G,
      LAST_ODD := i_LAST_ODD.g X G,
      LAST_CHARACTER := i_LAST_CHARACTER.g X G,
      MOST_SIGNS_lexicons := i_MOST_SIGNS_lexicons.g X G,
      MOST_SORT := i_MOST_SORT.g X G,
      MOST_COST := i_MOST_COST.g X G,
      MOST_WORDS := i_MOST_WORDS.g X G,
      NO_LINE := i_NO_LINE.g X G,
      TOO_MUCH := i_TOO_MUCH.g X G,
      AGAIN := i_AGAIN.g X G,
      ONE_TOO_MANY := i_ONE_TOO_MANY.g X G,
      BY_ITSELF := i_BY_ITSELF.g X G,
      EDGE := i_EDGE.g X G,
      WRONG_SIZE := i_WRONG_SIZE.g X G,
      FAULTY := i_FAULTY.g X G,
      NO_CHARACTER := i_NO_CHARACTER.g X G,
      NONE_SUCH := i_NONE_SUCH.g X G,
      TOO_MANY := i_TOO_MANY.g X G,
      MOST_BYTES := i_MOST_BYTES.g X G,
      MOST_SIGNS_readings := i_MOST_SIGNS_readings.g X G,
      MOST_WAYS := i_MOST_WAYS.g X G,
      DEAREST := i_DEAREST.g X G,
      BEGIN := i_BEGIN.g X G,
      LEASTS := t_LEASTS.g X G,
      BOUNDS := t_BOUNDS.g X G,
      SIZES := t_SIZES.g X G,
      gN := PySem.W.mg_of X G gN,
      xN := xN,
      kN := kN,
      bN := bN,
      tN := tN,
      eN := exm_mk bN iN tN sN,
      gF := PySem.W.mg_of X G gF,
      oF := ⟨xL, saF, bF, tF, kF⟩,
      fF := ⟨gaF, ggF, bF, hdF⟩,
      nFl := nFl,
      nFk := nFk,
      eF := exm_mk bF iF tF sF,
      eNF := exm_mk bN iN tN sFN,
      gW := PySem.W.mg_of X G g_Word,
      clW := cl_Word,
      aW := fun f hf => by
        simp only [List.mem_cons, List.not_mem_nil, or_false] at hf
        rcases hf with rfl | rfl | rfl | rfl | rfl
        · exact n_Word_sounds
        · exact n_Word_signs
        · exact n_Word_left
        · exact n_Word_right
        · exact n_Word_cost,
      gJ := PySem.W.mg_of X G g_Joins,
      clJ := cl_Joins,
      aJ := fun f hf => by
        simp only [List.mem_cons, List.not_mem_nil, or_false] at hf
        rcases hf with rfl | rfl
        · exact n_Joins_by_itself
        · exact n_Joins_costs,
      gT := PySem.W.mg_of X G g_Text,
      clT := cl_Text,
      aT := fun f hf => by
        simp only [List.mem_cons, List.not_mem_nil, or_false] at hf
        rcases hf with rfl | rfl | rfl | rfl
        · exact n_Text_words
        · exact n_Text_joins
        · exact n_Text_signs
        · exact n_Text_starting,
      gB := PySem.W.mg_of X G g_Book,
      clB := cl_Book,
      aB := fun f hf => by
        simp only [List.mem_cons, List.not_mem_nil, or_false] at hf
        rcases hf with rfl | rfl | rfl
        · exact n_Book_words
        · exact n_Book_joins
        · exact n_Book_known }
  have N : Dist ⟨CF, CN, CW, CJ, CT, CB⟩ := ⟨nbw, nbj, ntw⟩
  have DF : FDef K ⟨CF, CN, CW, CJ, CT, CB⟩ := by
    obtain ⟨f', a', t'⟩ := ty_Fault
    obtain ⟨f, oc, od, an, osl, kV, doc, pm, cdv, ct, a, i, l, c, k⟩ := m_Fault___init__
    have e := a.symm.trans a'
    cases e
    exact ⟨_, _, fun_mk (st := sFInit) l c k, (fun_mk (st := sFInit) l c k).binds fun _ _ _ _ _ _ us hl => match us, hl with | [_, _, _], _ => rfl, a, t'⟩
  refine ⟨PySem.W.fnOf "answers" "answers" (defArgs sAnswers) (defBody sAnswers) (defScope sAnswers) .none kV doc pm an cdv ct, fun s us hu => match us, hu with | [_], _ => .of_eq rfl, fun base _ _ => ?_⟩
  have H_want : Has P w K mg base (L2N.CX P w) "want" 3 ["truth"] (spWant CN) := Has.of (d_want.d X G (fun _ _ _ _ _ _ us hl => match us, hl with | [_], _ => rfl)) fun f fd F => ok_want T F
  have H_parted : Has P w K mg base CX0 "parted" 2 ["some", "mark"] (spParted K) := Has.of (d_parted.d X G (fun _ _ _ _ _ _ us hl => match us, hl with | [_, _], _ => rfl)) fun f fd F => ok_parted F
  have H_is_character : Has P w K mg base CX0 "is_character" 2 ["one"] spIsCh := Has.of (d_is_character.d X G (fun _ _ _ _ _ _ us hl => match us, hl with | [_], _ => rfl)) fun f fd F => ok_isCh T F
  have H_may_stand : Has P w K mg base CX0 "may_stand" 3 ["one"] spMay := Has.of (d_may_stand.d X G (fun _ _ _ _ _ _ us hl => match us, hl with | [_], _ => rfl)) fun f fd F => ok_may T H_is_character F
  have H_lines_of : Has P w K mg base CX0 "lines_of" 3 ["some"] (spLines K) := Has.of (d_lines_of.d X G (fun _ _ _ _ _ _ us hl => match us, hl with | [_], _ => rfl)) fun f fd F => ok_lines T H_parted F
  have H_width_of : Has P w K mg base (L2N.CX P w) "width_of" 4 ["byte"] (spWidth CN) := Has.of (d_width_of.d X G (fun _ _ _ _ _ _ us hl => match us, hl with | [_], _ => rfl)) fun f fd F => ok_width T H_want F
  have H_character_at : Has P w K mg base (L2N.CX P w) "character_at" 4 ["some", "at", "width"] (spCharAt K CN) := Has.of (d_character_at.d X G (fun _ _ _ _ _ _ us hl => match us, hl with | [_, _, _], _ => rfl)) fun f fd F => ok_charAt T H_want H_is_character F
  have H_characters_of : Has P w K mg base (L2N.CX P w) "characters_of" 5 ["some"] (spChars K CN) := Has.of (d_characters_of.d X G (fun _ _ _ _ _ _ us hl => match us, hl with | [_], _ => rfl)) fun f fd F => ok_chars T H_width_of H_character_at F
  have H_number_of : Has P w K mg base (L2N.CX P w) "number_of" 4 ["part"] (spNum K CN) := Has.of (d_number_of.d X G (fun _ _ _ _ _ _ us hl => match us, hl with | [_], _ => rfl)) fun f fd F => ok_num T H_want F
  have H_parts_of : Has P w K mg base (L2N.CX P w) "parts_of" 6 ["line", "many"] (spParts K CN) := Has.of (d_parts_of.d X G (fun _ _ _ _ _ _ us hl => match us, hl with | [_, _], _ => rfl)) fun f fd F => ok_parts T H_want H_characters_of H_parted F
  have H_row_in : Has P w K mg base (L2N.CX P w) "row_in" 4 ["part"] (spRow K CN) := Has.of (d_row_in.d X G (fun _ _ _ _ _ _ us hl => match us, hl with | [_], _ => rfl)) fun f fd F => ok_row T H_want H_may_stand F
  have H_Word___init__ : IHas P w K mg base CX0 CW 1 ["self", "sounds", "signs", "left", "right", "cost"] (spWInit CW) := IHas.of (m_Word___init__.i (fun _ _ _ _ _ _ us hl => match us, hl with | [_, _, _, _, _, _], _ => rfl) mk_Word kp_Word) fun f fd F => ok_wInit T F
  have H_Word_is_within : MHas P w K mg base CX0 CW "is_within" 2 ["self"] (spWithin CW) := MHas.of (m_Word_is_within.m (fun _ _ _ _ _ _ us hl => match us, hl with | [_], _ => rfl)) fun f fd F => ok_within T F
  have H_Word_name : MHas P w K mg base CX0 CW "name" 1 ["self"] (spName CW) := MHas.of (m_Word_name.m (fun _ _ _ _ _ _ us hl => match us, hl with | [_], _ => rfl)) fun f fd F => ok_name T F
  have H_Word_rank : MHas P w K mg base CX0 CW "rank" 1 ["self"] (spRank CW) := MHas.of (m_Word_rank.m (fun _ _ _ _ _ _ us hl => match us, hl with | [_], _ => rfl)) fun f fd F => ok_rank T F
  have H_rank_of : Has P w K mg base CX0 "rank_of" 2 ["word"] (spRank CW) := Has.of (d_rank_of.d X G (fun _ _ _ _ _ _ us hl => match us, hl with | [_], _ => rfl)) fun f fd F => ok_rankOf T H_Word_rank F
  have H_word_of : Has P w K mg base (L2N.CX P w) "word_of" 7 ["line"] (spWordOf K CN CW) := Has.of (d_word_of.d X G (fun _ _ _ _ _ _ us hl => match us, hl with | [_], _ => rfl)) fun f fd F => ok_wordOf T H_parts_of H_row_in H_number_of H_Word___init__ F
  have H_word_in : Has P w K mg base (L2.CX P w) "word_in" 8 ["line", "number", "known"] (spWordIn K P w CF CW) := Has.of (d_word_in.d X G (fun _ _ _ _ _ _ us hl => match us, hl with | [_, _, _], _ => rfl)) fun f fd F => ok_wordIn T DF H_word_of H_Word_is_within H_Word_name F
  have H_words_of : Has P w K mg base (L2.CX P w) "words_of" 9 ["some"] (spWordsOf K CF CW) := Has.of (d_words_of.d X G (fun _ _ _ _ _ _ us hl => match us, hl with | [_], _ => rfl)) fun f fd F => ok_words T H_lines_of H_word_in H_Word_name H_rank_of F
  have H_numbers_in : Has P w K mg base (L2.CX P w) "numbers_in" 7 ["line", "number", "many"] (spNumbers CF) := Has.of (d_numbers_in.d X G (fun _ _ _ _ _ _ us hl => match us, hl with | [_, _, _], _ => rfl)) fun f fd F => ok_numbers T DF H_parts_of H_number_of F
  have H_by_itself_in : Has P w K mg base (L2.CX P w) "by_itself_in" 8 ["line"] (spBy CF) := Has.of (d_by_itself_in.d X G (fun _ _ _ _ _ _ us hl => match us, hl with | [_], _ => rfl)) fun f fd F => ok_by T DF H_numbers_in F
  have H_join_in : Has P w K mg base (L2.CX P w) "join_in" 8 ["line", "number", "known"] (spJoinIn CF) := Has.of (d_join_in.d X G (fun _ _ _ _ _ _ us hl => match us, hl with | [_, _, _], _ => rfl)) fun f fd F => ok_joinIn T DF H_numbers_in F
  have H_Joins___init__ : IHas P w K mg base CX0 CJ 1 ["self", "by_itself", "costs"] (spJInit CJ) := IHas.of (m_Joins___init__.i (fun _ _ _ _ _ _ us hl => match us, hl with | [_, _, _], _ => rfl) mk_Joins kp_Joins) fun f fd F => ok_jInit T F
  have H_Joins_join : MHas P w K mg base CX0 CJ "join" 1 ["self", "right", "left"] (spJoin CJ) := MHas.of (m_Joins_join.m (fun _ _ _ _ _ _ us hl => match us, hl with | [_, _, _], _ => rfl)) fun f fd F => ok_join T F
  have H_Joins_many : MHas P w K mg base CX0 CJ "many" 1 ["self"] (spJMany CJ) := MHas.of (m_Joins_many.m (fun _ _ _ _ _ _ us hl => match us, hl with | [_], _ => rfl)) fun f fd F => ok_jMany T F
  have H_joins_of : Has P w K mg base (L2.CX P w) "joins_of" 9 ["some"] (spJoinsOf K CF CJ) := Has.of (d_joins_of.d X G (fun _ _ _ _ _ _ us hl => match us, hl with | [_], _ => rfl)) fun f fd F => ok_joins T DF H_lines_of H_by_itself_in H_join_in H_Joins___init__ F
  have H_Text_pieces_at : MHas P w K mg base CX0 CT "pieces_at" 1 ["self", "at"] (spPieces CT CW) := MHas.of (m_Text_pieces_at.m (fun _ _ _ _ _ _ us hl => match us, hl with | [_, _], _ => rfl)) fun f fd F => ok_pieces T F
  have H_Text___init__ : IHas P w K mg base CX0 CT 2 ["self", "words", "joins", "signs"] (spTInit ⟨CF, CN, CW, CJ, CT, CB⟩) := IHas.of (m_Text___init__.i (fun _ _ _ _ _ _ us hl => match us, hl with | [_, _, _, _], _ => rfl) mk_Text kp_Text) fun f fd F => ok_tInit T N.tw H_Text_pieces_at F
  have H_Text_width : MHas P w K mg base CX0 CT "width" 1 ["self", "piece"] (spWid ⟨CF, CN, CW, CJ, CT, CB⟩) := MHas.of (m_Text_width.m (fun _ _ _ _ _ _ us hl => match us, hl with | [_, _], _ => rfl)) fun f fd F => ok_wid T F
  have H_Text_sorts_of : MHas P w K mg base CX0 CT "sorts_of" 1 ["self", "piece"] (spSorts ⟨CF, CN, CW, CJ, CT, CB⟩) := MHas.of (m_Text_sorts_of.m (fun _ _ _ _ _ _ us hl => match us, hl with | [_, _], _ => rfl)) fun f fd F => ok_sorts T F
  have H_Text_cost_of : MHas P w K mg base CX0 CT "cost_of" 1 ["self", "piece"] (spCostOf ⟨CF, CN, CW, CJ, CT, CB⟩) := MHas.of (m_Text_cost_of.m (fun _ _ _ _ _ _ us hl => match us, hl with | [_, _], _ => rfl)) fun f fd F => ok_costOf T F
  have H_Text_many : MHas P w K mg base CX0 CT "many" 2 ["self"] (spTMany ⟨CF, CN, CW, CJ, CT, CB⟩) := MHas.of (m_Text_many.m (fun _ _ _ _ _ _ us hl => match us, hl with | [_], _ => rfl)) fun f fd F => ok_tMany T H_Text_width F
  have H_Text_ways : MHas P w K mg base CX0 CT "ways" 2 ["self"] (spTWays ⟨CF, CN, CW, CJ, CT, CB⟩) := MHas.of (m_Text_ways.m (fun _ _ _ _ _ _ us hl => match us, hl with | [_], _ => rfl)) fun f fd F => ok_tWays T H_Text_width F
  have H_Text_total : MHas P w K mg base CX0 CT "total" 2 ["self", "way"] (spTotal ⟨CF, CN, CW, CJ, CT, CB⟩) := MHas.of (m_Text_total.m (fun _ _ _ _ _ _ us hl => match us, hl with | [_, _], _ => rfl)) fun f fd F => ok_total T H_Text_sorts_of H_Text_cost_of H_Joins_join F
  have H_Text_piece_rank : MHas P w K mg base CX0 CT "piece_rank" 2 ["self", "piece"] (spPRank ⟨CF, CN, CW, CJ, CT, CB⟩) := MHas.of (m_Text_piece_rank.m (fun _ _ _ _ _ _ us hl => match us, hl with | [_, _], _ => rfl)) fun f fd F => ok_pRank T H_Text_width F
  have H_Text_rank : BHas P w K mg base CT "rank" 3 ["self", "way"] (spWRank ⟨CF, CN, CW, CJ, CT, CB⟩) := by
    obtain ⟨f, fd, F, b, m⟩ := (m_Text_rank.m (ps := ["self", "way"]) (fun _ _ _ _ _ _ us hl => match us, hl with | [_, _], _ => rfl)).ex
    exact ⟨f, fd, ok_wRank T H_Text_total H_Text_piece_rank F, bm.meth m (by decide +kernel), b⟩
  have H_Text_in_order : MHas P w K mg base CX0 CT "in_order" 6 ["self"] (spInOrder ⟨CF, CN, CW, CJ, CT, CB⟩) := MHas.of (m_Text_in_order.m (fun _ _ _ _ _ _ us hl => match us, hl with | [_], _ => rfl)) fun f fd F => ok_inOrder T H_Text_ways H_Text_rank F
  have H_Text_sounds_of : MHas P w K mg base CX0 CT "sounds_of" 1 ["self", "place"] (spSounds ⟨CF, CN, CW, CJ, CT, CB⟩) := MHas.of (m_Text_sounds_of.m (fun _ _ _ _ _ _ us hl => match us, hl with | [_, _], _ => rfl)) fun f fd F => ok_sounds T F
  have H_Text_told : MHas P w K mg base CX0 CT "told" 3 ["self", "way"] (spTold ⟨CF, CN, CW, CJ, CT, CB⟩) := MHas.of (m_Text_told.m (fun _ _ _ _ _ _ us hl => match us, hl with | [_, _], _ => rfl)) fun f fd F => ok_told T H_Text_total H_Text_sounds_of F
  have H_Text_reading : MHas P w K mg base CX0 CT "reading" 2 ["self", "way"] (spReading ⟨CF, CN, CW, CJ, CT, CB⟩) := MHas.of (m_Text_reading.m (fun _ _ _ _ _ _ us hl => match us, hl with | [_, _], _ => rfl)) fun f fd F => ok_reading T H_Text_sounds_of F
  have H_Book___init__ : IHas P w K mg base CX0 CB 3 ["self"] (spBInit ⟨CF, CN, CW, CJ, CT, CB⟩) := IHas.of (m_Book___init__.i (fun _ _ _ _ _ _ us hl => match us, hl with | [_], _ => rfl) mk_Book kp_Book) fun f fd F => ok_bInit T H_Joins___init__ F
  have H_Book_begin : MHas P w K mg base CX0 CB "begin" 3 ["self"] (spBegin ⟨CF, CN, CW, CJ, CT, CB⟩) := MHas.of (m_Book_begin.m (fun _ _ _ _ _ _ us hl => match us, hl with | [_], _ => rfl)) fun f fd F => ok_begin T H_Joins___init__ F
  have H_Book_put_words : MHas P w K mg base CX0 CB "put_words" 1 ["self", "words"] (spPutW ⟨CF, CN, CW, CJ, CT, CB⟩) := MHas.of (m_Book_put_words.m (fun _ _ _ _ _ _ us hl => match us, hl with | [_, _], _ => rfl)) fun f fd F => ok_putW T N F
  have H_Book_put_joins : MHas P w K mg base CX0 CB "put_joins" 1 ["self", "joins"] (spPutJ ⟨CF, CN, CW, CJ, CT, CB⟩) := MHas.of (m_Book_put_joins.m (fun _ _ _ _ _ _ us hl => match us, hl with | [_, _], _ => rfl)) fun f fd F => ok_putJ T N F
  have H_Book_text : MHas P w K mg base CX0 CB "text" 4 ["self", "signs"] (spText ⟨CF, CN, CW, CJ, CT, CB⟩) := MHas.of (m_Book_text.m (fun _ _ _ _ _ _ us hl => match us, hl with | [_, _], _ => rfl)) fun f fd F => ok_text T N H_Text___init__ F
  have H_Book_ways : MHas P w K mg base CX0 CB "ways" 7 ["self", "signs"] (spBWays ⟨CF, CN, CW, CJ, CT, CB⟩) := MHas.of (m_Book_ways.m (fun _ _ _ _ _ _ us hl => match us, hl with | [_, _], _ => rfl)) fun f fd F => ok_bWays T N H_Book_text H_Text_in_order F
  have H_tell_words : Has P w K mg base CX0 "tell_words" 10 ["book", "some"] (spTellW ⟨CF, CN, CW, CJ, CT, CB⟩ K) := Has.of (d_tell_words.d X G (fun _ _ _ _ _ _ us hl => match us, hl with | [_, _], _ => rfl)) fun f fd F => ok_tellW T H_words_of H_Book_put_words F
  have H_tell_joins : Has P w K mg base CX0 "tell_joins" 10 ["book", "some"] (spTellJ ⟨CF, CN, CW, CJ, CT, CB⟩ K) := Has.of (d_tell_joins.d X G (fun _ _ _ _ _ _ us hl => match us, hl with | [_, _], _ => rfl)) fun f fd F => ok_tellJ T N H_joins_of H_Book_put_joins H_Joins_many F
  have H_refusal_of : Has P w K mg base CX0 "refusal_of" 5 ["book", "signs"] (spRefusal ⟨CF, CN, CW, CJ, CT, CB⟩) := Has.of (d_refusal_of.d X G (fun _ _ _ _ _ _ us hl => match us, hl with | [_, _], _ => rfl)) fun f fd F => ok_refusal T H_is_character H_Book_text H_Text_many F
  have H_ask : Has P w K mg base CX0 "ask" 8 ["book", "number", "some", "signs"] (spAsk ⟨CF, CN, CW, CJ, CT, CB⟩ K) := Has.of (d_ask.d X G (fun _ _ _ _ _ _ us hl => match us, hl with | [_, _, _, _], _ => rfl)) fun f fd F => ok_ask T H_refusal_of H_Book_ways H_Book_text H_Text_told H_Text_reading F
  have H_answer : Has P w K mg base CX0 "answer" 11 ["book", "number", "some", "row"] (spAnswer ⟨CF, CN, CW, CJ, CT, CB⟩) := Has.of (d_answer.d X G (fun _ _ _ _ _ _ us hl => match us, hl with | [_, _, _, _], _ => rfl)) fun f fd F => ok_answer T H_Book_begin H_tell_words H_tell_joins H_ask F
  exact ok_answers T N H_Book___init__ H_answer (fun_mk (st := sAnswers) fl fc fk)
/-- the last step: the numbers handed in, the answer due -/
theorem last_mk {K : PySem.W.Frag} {H : Hp} {c : Addr} {l : List Int} {Q : VK} {E : XK} (hc : SqL K H c (l.map V.int)) (hn : ∀ z ∈ l, 0 ≤ z) (hl : l.length ≤ 60000) (ha : PyWqaibp.answers_asked l = true)
    (k : ∀ H' p, H' p = some (.lst ((PyWqaibp.answers l).map V.int)) → Q (.ref p) H') : spAnswers K [.ref c] H Q E := by
  obtain ⟨e1, e2, e3⟩ := answers_run ha hn
  refine ⟨c, l.map Int.toNat, PyWqaibp.answers l, rfl, ?_, by rw [List.length_map]; exact hl, e2, e3, fun H' p _ _ hp => k H' p hp⟩
  have e : nv (l.map Int.toNat) = l.map V.int := by
    have e4 : ∀ ns : List Nat, nv ns = (itn ns).map V.int := fun ns => by
      unfold nv itn
      rw [List.map_map]
      rfl
    rw [e4, e1]
  rw [e]
  exact hc
end Sb
end
/-! The end 2: the statement (printed by genEnd.py) -/
open PySem PySem.W PyProof.Rows
set_option maxRecDepth 100000 in
set_option maxHeartbeats 8000000 in
theorem PySem.Challenge.cw_sayback_s01_answers_holds : PySem.Challenge.rw_sayback_s01_answers.Holds := by
  w_on; k_headS; (case hw => exact ⟨[.list []], by decide +kernel, by decide +kernel⟩)
  k_fillS
  refine L2.walk_specK (r := PySem.Challenge.rw_sayback_s01_answers) (k := 12) (CX := L2.CX0) (ps := ["calls"]) (sp := Sb.spAnswers) (by decide +kernel) rfl rfl ⟨rfl, by decide, by decide⟩ (fun w h Y => PySem.W.kIn_of Y) ?F ?S (fun _ _ _ _ z => z)
  case F =>
    intro w mg fa h Y KX G hmg
    refine' Sb.all_mk KX G hmg ?z_len ?z_enumerate ?z_all ?z_tuple ?z_sorted ?z_range ?z_sum ?z_int ?z_list ?i_LINE_END ?i_BLANK ?i_ZERO ?i_DELETED ?i_FIRST_ODD ?i_LAST_ODD ?i_LAST_CHARACTER ?i_MOST_SIGNS_lexicons ?i_MOST_SORT ?i_MOST_COST ?i_MOST_WORDS ?i_NO_LINE ?i_TOO_MUCH ?i_AGAIN ?i_ONE_TOO_MANY ?i_BY_ITSELF ?i_EDGE ?i_WRONG_SIZE ?i_FAULTY ?i_NO_CHARACTER ?i_NONE_SUCH ?i_TOO_MANY ?i_MOST_BYTES ?i_MOST_SIGNS_readings ?i_MOST_WAYS ?i_DEAREST ?i_BEGIN ?t_LEASTS ?t_BOUNDS ?t_SIZES ?gN ?xN ?kN ?bN ?tN ?iN ?sN ?gF ?xL ?saF ?bF ?tF ?kF ?gaF ?ggF ?hdF ?nFl ?nFk ?iF ?sF ?sFN ?m_Fault___init__ ?ty_Fault ?g_Word ?cl_Word ?mk_Word ?kp_Word ?n_Word_sounds ?n_Word_signs ?n_Word_left ?n_Word_right ?n_Word_cost ?g_Joins ?cl_Joins ?mk_Joins ?kp_Joins ?n_Joins_by_itself ?n_Joins_costs ?g_Text ?cl_Text ?mk_Text ?kp_Text ?n_Text_words ?n_Text_joins ?n_Text_signs ?n_Text_starting ?g_Book ?cl_Book ?mk_Book ?kp_Book ?n_Book_words ?n_Book_joins ?n_Book_known ?nbw ?nbj ?ntw ?d_want ?d_parted ?d_is_character ?d_may_stand ?d_lines_of ?d_width_of ?d_character_at ?d_characters_of ?d_number_of ?d_parts_of ?d_row_in ?m_Word___init__ ?m_Word_is_within ?m_Word_name ?m_Word_rank ?d_rank_of ?d_word_of ?d_word_in ?d_words_of ?d_numbers_in ?d_by_itself_in ?d_join_in ?m_Joins___init__ ?m_Joins_join ?m_Joins_many ?d_joins_of ?m_Text_pieces_at ?m_Text___init__ ?m_Text_width ?m_Text_sorts_of ?m_Text_cost_of ?m_Text_many ?m_Text_ways ?m_Text_total ?m_Text_piece_rank ?m_Text_rank ?m_Text_in_order ?m_Text_sounds_of ?m_Text_told ?m_Text_reading ?m_Book___init__ ?m_Book_begin ?m_Book_put_words ?m_Book_put_joins ?m_Book_text ?m_Book_ways ?d_tell_words ?d_tell_joins ?d_refusal_of ?d_ask ?d_answer ?d_answers ?bm
    (case z_len => k_is)
    (case z_enumerate => k_is)
    (case z_all => k_is)
    (case z_tuple => k_is)
    (case z_sorted => k_is)
    (case z_range => k_is)
    (case z_sum => k_is)
    (case z_int => k_is)
    (case z_list => k_is)
    (case i_LINE_END => refine' Sb.int_mk ?j; (case j => k_is))
    (case i_BLANK => refine' Sb.int_mk ?j; (case j => k_is))
    (case i_ZERO => refine' Sb.int_mk ?j; (case j => k_is))
    (case i_DELETED => refine' Sb.int_mk ?j; (case j => k_is))
    (case i_FIRST_ODD => refine' Sb.int_mk ?j; (case j => k_is))
    (case i_LAST_ODD => refine' Sb.int_mk ?j; (case j => k_is))
    (case i_LAST_CHARACTER => refine' Sb.int_mk ?j; (case j => k_is))
    (case i_MOST_SIGNS_lexicons => refine' Sb.int_mk ?j; (case j => k_is))
    (case i_MOST_SORT => refine' Sb.int_mk ?j; (case j => k_is))
    (case i_MOST_COST => refine' Sb.int_mk ?j; (case j => k_is))
    (case i_MOST_WORDS => refine' Sb.int_mk ?j; (case j => k_is))
    (case i_NO_LINE => refine' Sb.int_mk ?j; (case j => k_is))
    (case i_TOO_MUCH => refine' Sb.int_mk ?j; (case j => k_is))
    (case i_AGAIN => refine' Sb.int_mk ?j; (case j => k_is))
    (case i_ONE_TOO_MANY => refine' Sb.int_mk ?j; (case j => k_is))
    (case i_BY_ITSELF => refine' Sb.int_mk ?j; (case j => k_is))
    (case i_EDGE => refine' Sb.int_mk ?j; (case j => k_is))
    (case i_WRONG_SIZE => refine' Sb.int_mk ?j; (case j => k_is))
    (case i_FAULTY => refine' Sb.int_mk ?j; (case j => k_is))
    (case i_NO_CHARACTER => refine' Sb.int_mk ?j; (case j => k_is))
    (case i_NONE_SUCH => refine' Sb.int_mk ?j; (case j => k_is))
    (case i_TOO_MANY => refine' Sb.int_mk ?j; (case j => k_is))
    (case i_MOST_BYTES => refine' Sb.int_mk ?j; (case j => k_is))
    (case i_MOST_SIGNS_readings => refine' Sb.int_mk ?j; (case j => k_is))
    (case i_MOST_WAYS => refine' Sb.int_mk ?j; (case j => k_is))
    (case i_DEAREST => refine' Sb.int_mk ?j; (case j => k_is))
    (case i_BEGIN => refine' Sb.int_mk ?j; (case j => k_is))
    (case t_LEASTS => refine' Sb.tup_mk4 ?a ?l; (case a => k_is); (case l => k_is))
    (case t_BOUNDS => refine' Sb.tup_mk5 ?a ?l; (case a => k_is); (case l => k_is))
    (case t_SIZES => refine' Sb.tup_mk7 ?a ?l; (case a => k_is); (case l => k_is))
    (case gN => k_is)
    (case xN => k_exc)
    (case kN => k_is)
    (case bN => k_is)
    (case tN => k_is)
    (case iN => k_is)
    (case sN => first | rfl | k_is)
    (case gF => k_is)
    (case xL => refine' Sb.exc_mk ?j; (case j => k_is))
    (case saF => k_is)
    (case bF => k_is)
    (case tF => k_is)
    (case kF => k_is)
    (case gaF => k_is)
    (case ggF => k_is)
    (case hdF => k_is)
    (case nFl => k_is)
    (case nFk => k_is)
    (case iF => k_is)
    (case sF => first | rfl | k_is)
    (case sFN => k_is)
    (case m_Fault___init__ => refine' Sb.meth_mk ?a ?i ?l ?c ?k; (case a => k_is); (case i => k_is); (case l => k_is); (case c => k_is); (case k => k_is))
    (case ty_Fault => refine' Sb.fnt_mk ?a ?t; (case a => k_is); (case t => k_is))
    (case g_Word => k_is)
    (case cl_Word => refine' ⟨?a, ?b, ?c, ?d⟩; (case a => k_is); (case b => k_is); (case c => k_is); (case d => k_is))
    (case mk_Word => k_is)
    (case kp_Word => k_is)
    (case n_Word_sounds => k_is)
    (case n_Word_signs => k_is)
    (case n_Word_left => k_is)
    (case n_Word_right => k_is)
    (case n_Word_cost => k_is)
    (case g_Joins => k_is)
    (case cl_Joins => refine' ⟨?a, ?b, ?c, ?d⟩; (case a => k_is); (case b => k_is); (case c => k_is); (case d => k_is))
    (case mk_Joins => k_is)
    (case kp_Joins => k_is)
    (case n_Joins_by_itself => k_is)
    (case n_Joins_costs => k_is)
    (case g_Text => k_is)
    (case cl_Text => refine' ⟨?a, ?b, ?c, ?d⟩; (case a => k_is); (case b => k_is); (case c => k_is); (case d => k_is))
    (case mk_Text => k_is)
    (case kp_Text => k_is)
    (case n_Text_words => k_is)
    (case n_Text_joins => k_is)
    (case n_Text_signs => k_is)
    (case n_Text_starting => k_is)
    (case g_Book => k_is)
    (case cl_Book => refine' ⟨?a, ?b, ?c, ?d⟩; (case a => k_is); (case b => k_is); (case c => k_is); (case d => k_is))
    (case mk_Book => k_is)
    (case kp_Book => k_is)
    (case n_Book_words => k_is)
    (case n_Book_joins => k_is)
    (case n_Book_known => k_is)
    (case nbw => decide)
    (case nbj => decide)
    (case ntw => decide)
    (case d_want => refine' Sb.deff_mk ?a ?l ?c ?k; (case a => k_is); (case l => k_is); (case c => k_is); (case k => k_is))
    (case d_parted => refine' Sb.deff_mk ?a ?l ?c ?k; (case a => k_is); (case l => k_is); (case c => k_is); (case k => k_is))
    (case d_is_character => refine' Sb.deff_mk ?a ?l ?c ?k; (case a => k_is); (case l => k_is); (case c => k_is); (case k => k_is))
    (case d_may_stand => refine' Sb.deff_mk ?a ?l ?c ?k; (case a => k_is); (case l => k_is); (case c => k_is); (case k => k_is))
    (case d_lines_of => refine' Sb.deff_mk ?a ?l ?c ?k; (case a => k_is); (case l => k_is); (case c => k_is); (case k => k_is))
    (case d_width_of => refine' Sb.deff_mk ?a ?l ?c ?k; (case a => k_is); (case l => k_is); (case c => k_is); (case k => k_is))
    (case d_character_at => refine' Sb.deff_mk ?a ?l ?c ?k; (case a => k_is); (case l => k_is); (case c => k_is); (case k => k_is))
    (case d_characters_of => refine' Sb.deff_mk ?a ?l ?c ?k; (case a => k_is); (case l => k_is); (case c => k_is); (case k => k_is))
    (case d_number_of => refine' Sb.deff_mk ?a ?l ?c ?k; (case a => k_is); (case l => k_is); (case c => k_is); (case k => k_is))
    (case d_parts_of => refine' Sb.deff_mk ?a ?l ?c ?k; (case a => k_is); (case l => k_is); (case c => k_is); (case k => k_is))
    (case d_row_in => refine' Sb.deff_mk ?a ?l ?c ?k; (case a => k_is); (case l => k_is); (case c => k_is); (case k => k_is))
    (case m_Word___init__ => refine' Sb.meth_mk ?a ?i ?l ?c ?k; (case a => k_is); (case i => k_is); (case l => k_is); (case c => k_is); (case k => k_is))
    (case m_Word_is_within => refine' Sb.meth_mk ?a ?i ?l ?c ?k; (case a => k_is); (case i => k_is); (case l => k_is); (case c => k_is); (case k => k_is))
    (case m_Word_name => refine' Sb.meth_mk ?a ?i ?l ?c ?k; (case a => k_is); (case i => k_is); (case l => k_is); (case c => k_is); (case k => k_is))
    (case m_Word_rank => refine' Sb.meth_mk ?a ?i ?l ?c ?k; (case a => k_is); (case i => k_is); (case l => k_is); (case c => k_is); (case k => k_is))
    (case d_rank_of => refine' Sb.deff_mk ?a ?l ?c ?k; (case a => k_is); (case l => k_is); (case c => k_is); (case k => k_is))
    (case d_word_of => refine' Sb.deff_mk ?a ?l ?c ?k; (case a => k_is); (case l => k_is); (case c => k_is); (case k => k_is))
    (case d_word_in => refine' Sb.deff_mk ?a ?l ?c ?k; (case a => k_is); (case l => k_is); (case c => k_is); (case k => k_is))
    (case d_words_of => refine' Sb.deff_mk ?a ?l ?c ?k; (case a => k_is); (case l => k_is); (case c => k_is); (case k => k_is))
    (case d_numbers_in => refine' Sb.deff_mk ?a ?l ?c ?k; (case a => k_is); (case l => k_is); (case c => k_is); (case k => k_is))
    (case d_by_itself_in => refine' Sb.deff_mk ?a ?l ?c ?k; (case a => k_is); (case l => k_is); (case c => k_is); (case k => k_is))
    (case d_join_in => refine' Sb.deff_mk ?a ?l ?c ?k; (case a => k_is); (case l => k_is); (case c => k_is); (case k => k_is))
    (case m_Joins___init__ => refine' Sb.meth_mk ?a ?i ?l ?c ?k; (case a => k_is); (case i => k_is); (case l => k_is); (case c => k_is); (case k => k_is))
    (case m_Joins_join => refine' Sb.meth_mk ?a ?i ?l ?c ?k; (case a => k_is); (case i => k_is); (case l => k_is); (case c => k_is); (case k => k_is))
    (case m_Joins_many => refine' Sb.meth_mk ?a ?i ?l ?c ?k; (case a => k_is); (case i => k_is); (case l => k_is); (case c => k_is); (case k => k_is))
    (case d_joins_of => refine' Sb.deff_mk ?a ?l ?c ?k; (case a => k_is); (case l => k_is); (case c => k_is); (case k => k_is))
    (case m_Text_pieces_at => refine' Sb.meth_mk ?a ?i ?l ?c ?k; (case a => k_is); (case i => k_is); (case l => k_is); (case c => k_is); (case k => k_is))
    (case m_Text___init__ => refine' Sb.meth_mk ?a ?i ?l ?c ?k; (case a => k_is); (case i => k_is); (case l => k_is); (case c => k_is); (case k => k_is))
    (case m_Text_width => refine' Sb.meth_mk ?a ?i ?l ?c ?k; (case a => k_is); (case i => k_is); (case l => k_is); (case c => k_is); (case k => k_is))
    (case m_Text_sorts_of => refine' Sb.meth_mk ?a ?i ?l ?c ?k; (case a => k_is); (case i => k_is); (case l => k_is); (case c => k_is); (case k => k_is))
    (case m_Text_cost_of => refine' Sb.meth_mk ?a ?i ?l ?c ?k; (case a => k_is); (case i => k_is); (case l => k_is); (case c => k_is); (case k => k_is))
    (case m_Text_many => refine' Sb.meth_mk ?a ?i ?l ?c ?k; (case a => k_is); (case i => k_is); (case l => k_is); (case c => k_is); (case k => k_is))
    (case m_Text_ways => refine' Sb.meth_mk ?a ?i ?l ?c ?k; (case a => k_is); (case i => k_is); (case l => k_is); (case c => k_is); (case k => k_is))
    (case m_Text_total => refine' Sb.meth_mk ?a ?i ?l ?c ?k; (case a => k_is); (case i => k_is); (case l => k_is); (case c => k_is); (case k => k_is))
    (case m_Text_piece_rank => refine' Sb.meth_mk ?a ?i ?l ?c ?k; (case a => k_is); (case i => k_is); (case l => k_is); (case c => k_is); (case k => k_is))
    (case m_Text_rank => refine' Sb.meth_mk ?a ?i ?l ?c ?k; (case a => k_is); (case i => k_is); (case l => k_is); (case c => k_is); (case k => k_is))
    (case m_Text_in_order => refine' Sb.meth_mk ?a ?i ?l ?c ?k; (case a => k_is); (case i => k_is); (case l => k_is); (case c => k_is); (case k => k_is))
    (case m_Text_sounds_of => refine' Sb.meth_mk ?a ?i ?l ?c ?k; (case a => k_is); (case i => k_is); (case l => k_is); (case c => k_is); (case k => k_is))
    (case m_Text_told => refine' Sb.meth_mk ?a ?i ?l ?c ?k; (case a => k_is); (case i => k_is); (case l => k_is); (case c => k_is); (case k => k_is))
    (case m_Text_reading => refine' Sb.meth_mk ?a ?i ?l ?c ?k; (case a => k_is); (case i => k_is); (case l => k_is); (case c => k_is); (case k => k_is))
    (case m_Book___init__ => refine' Sb.meth_mk ?a ?i ?l ?c ?k; (case a => k_is); (case i => k_is); (case l => k_is); (case c => k_is); (case k => k_is))
    (case m_Book_begin => refine' Sb.meth_mk ?a ?i ?l ?c ?k; (case a => k_is); (case i => k_is); (case l => k_is); (case c => k_is); (case k => k_is))
    (case m_Book_put_words => refine' Sb.meth_mk ?a ?i ?l ?c ?k; (case a => k_is); (case i => k_is); (case l => k_is); (case c => k_is); (case k => k_is))
    (case m_Book_put_joins => refine' Sb.meth_mk ?a ?i ?l ?c ?k; (case a => k_is); (case i => k_is); (case l => k_is); (case c => k_is); (case k => k_is))
    (case m_Book_text => refine' Sb.meth_mk ?a ?i ?l ?c ?k; (case a => k_is); (case i => k_is); (case l => k_is); (case c => k_is); (case k => k_is))
    (case m_Book_ways => refine' Sb.meth_mk ?a ?i ?l ?c ?k; (case a => k_is); (case i => k_is); (case l => k_is); (case c => k_is); (case k => k_is))
    (case d_tell_words => refine' Sb.deff_mk ?a ?l ?c ?k; (case a => k_is); (case l => k_is); (case c => k_is); (case k => k_is))
    (case d_tell_joins => refine' Sb.deff_mk ?a ?l ?c ?k; (case a => k_is); (case l => k_is); (case c => k_is); (case k => k_is))
    (case d_refusal_of => refine' Sb.deff_mk ?a ?l ?c ?k; (case a => k_is); (case l => k_is); (case c => k_is); (case k => k_is))
    (case d_ask => refine' Sb.deff_mk ?a ?l ?c ?k; (case a => k_is); (case l => k_is); (case c => k_is); (case k => k_is))
    (case d_answer => refine' Sb.deff_mk ?a ?l ?c ?k; (case a => k_is); (case l => k_is); (case c => k_is); (case k => k_is))
    (case d_answers => refine' Sb.deff_mk ?a ?l ?c ?k; (case a => k_is); (case l => k_is); (case c => k_is); (case k => k_is))
    (case bm => refine' Sb.bm_mk ?a ?b ?c ?d; (case a => k_is); (case b => k_is); (case c => k_is); (case d => k_is))
  case S =>
    intro K H xs a hO hwi hask hx
    cases hx with
    | cons h1 h2 =>
      cases h2
      cases h1 with
      | lst hs ha =>
        have e := L2.ints_dw a.1 _ ha
        subst e
        have q : ((Codec.inLen 0 30000 a.1 && a.1.all (Codec.inInt 0 4294967295)) && true) = true := hwi
        rw [Bool.and_eq_true, Bool.and_eq_true] at q
        have hl := (Codec.inNat_iff.mp q.1.1).2
        refine Sb.last_mk hs (fun z hz => ?_) (Nat.le_trans hl (by decide)) hask fun H' p hp => .lst (L2.SqL.of hp) (L2.dw_ints _)
        have := List.all_eq_true.mp q.1.2 z hz
        exact (Codec.inInt_iff.mp this).1
#print axioms PySem.Challenge.cw_sayback_s01_answers_holds
