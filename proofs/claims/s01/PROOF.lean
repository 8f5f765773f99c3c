import PyProof.Rows.All
import Wide.All
import OpenK.AllK
import Wide.FinOn
import Open.SpecLaws
import KE.OsGo
import KE.GoesEnum
import HandS.ForSpec
import HandS.Comp
import HandS.Iter
import HandS.Wide
import HandS.NoneIn
import HandS.Walk
import PySem.Challenge.RW_steadyweight_s01_answers
set_option Elab.async false
set_option linter.all false
set_option maxRecDepth 100000
set_option maxHeartbeats 4000000
/-! # Steady1: the plain law. A mirror of the program over plain lists, and that the mirror is the specification. No program in sight. -/
namespace Steady
open Kv190 (tap smooth greatest least)

/-! ### the mirror -/
/-- what a start sets, as the program holds it -/
structure S4 where
  zero : Int
  span : Int
  most : Int
  window : Int

def OkS (q : S4) : Prop := (-4194304 ≤ q.zero ∧ q.zero ≤ 4194304) ∧ (1000 ≤ q.span ∧ q.span ≤ 8388608) ∧ (100 ≤ q.most ∧ q.most ≤ 100000) ∧ (1 ≤ q.window ∧ q.window ≤ 1048576)
instance (q : S4) : Decidable (OkS q) := inferInstanceAs (Decidable (_ ∧ _))

def isRd (x : Int) : Bool := decide (-8388608 ≤ x) && decide (x ≤ 8388607)

/-- the last 94 -/
def lastOnes (l : List Int) : List Int := l.drop (l.length - 94)
/-- the sum behind n turns -/
def smF (l : List Int) (n : Nat) : Int := ((List.range n).map fun k => tap k * l.getD k 0).sum
/-- the smooth one that begins at f -/
def smAt (rs : List Int) (f : Nat) : Int := smF ((rs.drop f).take 63) 63
def smooths (rs : List Int) (n : Nat) : List Int := (List.range n).map (smAt rs)
def weightM (q : S4) (y : Int) : Int := (2 * ((y - 1024 * q.zero) * q.most) + 1024 * q.span) / (2 * (1024 * q.span))
def flag (b : Bool) : Int := if b then 1 else 0
def toldM (q : S4) (rs : List Int) : List Int := if rs.length < 94 then [0, 0, 0, 0, 0] else
  [weightM q (smAt rs 31), 1, flag (decide (greatest (smooths rs 32) - least (smooths rs 32) ≤ 1024 * q.window)), flag (decide (weightM q (smAt rs 31) < -20)), flag (decide (q.most + 9 < weightM q (smAt rs 31)))]

abbrev MS := Option (S4 × List Int)
def startM (s : MS) (q : S4) : MS × List Int := if OkS q then (some (q, []), [0]) else (s, [-22])
def feedM (s : MS) (r : List Int) : MS × List Int := match s with
  | none => (none, [-11])
  | some (q, rs) => if r.length ≤ 1024 ∧ r.all isRd = true then (some (q, lastOnes (rs ++ r)), 0 :: toldM q (lastOnes (rs ++ r))) else (some (q, rs), [-22])
/-- an answer, its length ahead -/
def told1 (a : List Int) : List Int := (a.length : Int) :: a

/-! ### lists -/
theorem lastOnes_len (l : List Int) : (lastOnes l).length = min l.length 94 := by
  unfold lastOnes
  rw [List.length_drop]
  omega
theorem lastOnes_app (l r : List Int) : lastOnes (lastOnes l ++ r) = lastOnes (l ++ r) := by
  have e : lastOnes l ++ r = (l ++ r).drop (l.length - 94) := by
    unfold lastOnes
    rw [List.drop_append_of_le_length (by omega)]
  rw [e]
  unfold lastOnes
  rw [List.drop_drop, List.length_drop, List.length_append]
  have h : l.length - 94 + (l.length + r.length - (l.length - 94) - 94) = l.length + r.length - 94 := by omega
  rw [h]
theorem getD_drop (l : List Int) (n k : Nat) : (l.drop n).getD k 0 = l.getD (n + k) 0 := by
  rw [List.getD_eq_getElem?_getD, List.getD_eq_getElem?_getD, List.getElem?_drop]
theorem getD_take (l : List Int) {n k : Nat} (h : k < n) : (l.take n).getD k 0 = l.getD k 0 := by
  rw [List.getD_eq_getElem?_getD, List.getD_eq_getElem?_getD, List.getElem?_take, if_pos h]
theorem sum_congr {f g : Nat → Int} {n : Nat} (h : ∀ k, k < n → f k = g k) : ((List.range n).map f).sum = ((List.range n).map g).sum := by
  congr 1
  apply List.map_congr_left
  intro k hk
  exact h k (List.mem_range.mp hk)
theorem smF_zero (l : List Int) : smF l 0 = 0 := rfl
theorem smF_succ (l : List Int) (n : Nat) : smF l (n + 1) = smF l n + tap n * l.getD n 0 := by
  unfold smF
  rw [List.range_succ, List.map_append, List.sum_append]
  simp
theorem smAt_is {l : List Int} {f : Nat} (hl : 94 ≤ l.length) (hf : f < 32) : smAt (lastOnes l) f = smooth l (31 - f) := by
  unfold smAt smF smooth lastOnes
  apply sum_congr
  intro k hk
  have hk' : k < 63 := hk
  rw [getD_take _ hk', getD_drop, getD_drop]
  have e : l.length - 94 + (f + k) = l.length - Kv190.TAPS - (31 - f) + k := by
    show l.length - 94 + (f + k) = l.length - 63 - (31 - f) + k
    omega
  rw [e]

/-! ### the greatest and the least -/
theorem foldmax : ∀ (l : List Int) (a : Int), a ≤ l.foldl max a ∧ (∀ y ∈ l, y ≤ l.foldl max a) ∧ (l.foldl max a = a ∨ l.foldl max a ∈ l)
  | [], a => ⟨Int.le_refl _, by simp, .inl rfl⟩
  | x :: r, a => by
    obtain ⟨h1, h2, h3⟩ := foldmax r (max a x)
    rw [List.foldl_cons]
    refine ⟨by omega, ?_, ?_⟩
    · intro y hy
      rcases List.mem_cons.mp hy with rfl | hy
      · omega
      · exact h2 y hy
    · rcases h3 with h3 | h3
      · rw [h3]
        by_cases c : a ≤ x
        · right; rw [show max a x = x by omega]; exact List.mem_cons_self
        · left; omega
      · right; exact List.mem_cons_of_mem _ h3
theorem foldmin : ∀ (l : List Int) (a : Int), l.foldl min a ≤ a ∧ (∀ y ∈ l, l.foldl min a ≤ y) ∧ (l.foldl min a = a ∨ l.foldl min a ∈ l)
  | [], a => ⟨Int.le_refl _, by simp, .inl rfl⟩
  | x :: r, a => by
    obtain ⟨h1, h2, h3⟩ := foldmin r (min a x)
    rw [List.foldl_cons]
    refine ⟨by omega, ?_, ?_⟩
    · intro y hy
      rcases List.mem_cons.mp hy with rfl | hy
      · omega
      · exact h2 y hy
    · rcases h3 with h3 | h3
      · rw [h3]
        by_cases c : x ≤ a
        · right; rw [show min a x = x by omega]; exact List.mem_cons_self
        · left; omega
      · right; exact List.mem_cons_of_mem _ h3
theorem greatest_max {l : List Int} (h : l ≠ []) : greatest l ∈ l ∧ ∀ y ∈ l, y ≤ greatest l := by
  cases l with
  | nil => exact absurd rfl h
  | cons x r =>
    obtain ⟨h1, h2, h3⟩ := foldmax (x :: r) x
    refine ⟨?_, h2⟩
    show (x :: r).foldl max x ∈ x :: r
    rcases h3 with e | e
    · rw [e]; exact List.mem_cons_self
    · exact e
theorem least_min {l : List Int} (h : l ≠ []) : least l ∈ l ∧ ∀ y ∈ l, least l ≤ y := by
  cases l with
  | nil => exact absurd rfl h
  | cons x r =>
    obtain ⟨h1, h2, h3⟩ := foldmin (x :: r) x
    refine ⟨?_, h2⟩
    show (x :: r).foldl min x ∈ x :: r
    rcases h3 with e | e
    · rw [e]; exact List.mem_cons_self
    · exact e
theorem greatest_of {l : List Int} {m : Int} (h1 : m ∈ l) (h2 : ∀ y ∈ l, y ≤ m) : m = greatest l := by
  obtain ⟨a, b⟩ := greatest_max (List.ne_nil_of_mem h1)
  have c := h2 _ a
  have d := b _ h1
  omega
theorem least_of {l : List Int} {m : Int} (h1 : m ∈ l) (h2 : ∀ y ∈ l, m ≤ y) : m = least l := by
  obtain ⟨a, b⟩ := least_min (List.ne_nil_of_mem h1)
  have c := h2 _ a
  have d := b _ h1
  omega
theorem smooths_mem {l : List Int} (hl : 94 ≤ l.length) (y : Int) : y ∈ smooths (lastOnes l) 32 ↔ y ∈ (List.range Kv190.STILL).map (smooth l) := by
  unfold smooths
  rw [List.mem_map, List.mem_map]
  constructor
  · rintro ⟨f, hf, rfl⟩
    have hf' : f < 32 := List.mem_range.mp hf
    refine ⟨31 - f, List.mem_range.mpr (show 31 - f < 32 by omega), ?_⟩
    rw [smAt_is hl hf']
  · rintro ⟨b, hb, rfl⟩
    have hb' : b < 32 := List.mem_range.mp hb
    refine ⟨31 - b, List.mem_range.mpr (by omega), ?_⟩
    rw [smAt_is hl (by omega)]
    congr 1
    omega
theorem smooths_ne (rs : List Int) : smooths rs 32 ≠ [] := by
  intro e
  have q := congrArg List.length e
  unfold smooths at q
  rw [List.length_map, List.length_range] at q
  exact absurd q (by decide)
theorem great_same {l : List Int} (hl : 94 ≤ l.length) : greatest (smooths (lastOnes l) 32) = greatest ((List.range Kv190.STILL).map (smooth l)) := by
  obtain ⟨a, b⟩ := greatest_max (smooths_ne (lastOnes l))
  exact greatest_of ((smooths_mem hl _).mp a) fun y hy => b y ((smooths_mem hl y).mpr hy)
theorem least_same {l : List Int} (hl : 94 ≤ l.length) : least (smooths (lastOnes l) 32) = least ((List.range Kv190.STILL).map (smooth l)) := by
  obtain ⟨a, b⟩ := least_min (smooths_ne (lastOnes l))
  exact least_of ((smooths_mem hl _).mp a) fun y hy => b y ((smooths_mem hl y).mpr hy)

/-! ### one call -/
def toSet (q : S4) : Kv190.Set_ := ⟨q.zero, q.span.toNat, q.most.toNat, q.window.toNat⟩
inductive Rel : Kv190.State → MS → Prop
  | none : Rel none none
  | some (q : S4) (l : List Int) : OkS q → Rel (some ⟨toSet q, l⟩) (some (q, lastOnes l))

theorem weight_same {q : S4} (h : OkS q) (y : Int) : weightM q y = Kv190.weightOf (toSet q) y := by
  obtain ⟨_, ⟨h1, _⟩, ⟨h2, _⟩, _⟩ := h
  have e1 : ((q.span.toNat : Nat) : Int) = q.span := Int.toNat_of_nonneg (by omega)
  have e2 : ((q.most.toNat : Nat) : Int) = q.most := Int.toNat_of_nonneg (by omega)
  show _ = (2 * ((y - 1024 * q.zero) * ((q.most.toNat : Nat) : Int)) + 1024 * ((q.span.toNat : Nat) : Int)) / (2 * (1024 * ((q.span.toNat : Nat) : Int)))
  rw [e1, e2]
  rfl
theorem told_same {q : S4} (h : OkS q) (l : List Int) : (0 : Int) :: toldM q (lastOnes l) = Kv190Neutral.row (Kv190Script.say ⟨0, some (Kv190.Abs.told ⟨toSet q, l⟩)⟩) := by
  have hm : ((q.most.toNat : Nat) : Int) = q.most := Int.toNat_of_nonneg (by obtain ⟨_, _, ⟨h2, _⟩, _⟩ := h; omega)
  have hw : ((q.window.toNat : Nat) : Int) = q.window := Int.toNat_of_nonneg (by obtain ⟨_, _, _, h2, _⟩ := h; omega)
  by_cases c : l.length < 94
  · have e1 : toldM q (lastOnes l) = [0, 0, 0, 0, 0] := if_pos (by rw [lastOnes_len]; omega)
    have e2 : Kv190.Abs.told ⟨toSet q, l⟩ = {} := if_pos c
    rw [e1, e2]
    rfl
  · have hl : 94 ≤ l.length := by omega
    have e1 : toldM q (lastOnes l) = _ := if_neg (by rw [lastOnes_len]; omega)
    have e2 : Kv190.Abs.told ⟨toSet q, l⟩ = _ := if_neg c
    have e3 : smAt (lastOnes l) 31 = smooth l 0 := smAt_is hl (by omega)
    rw [e1, e2, great_same hl, least_same hl, e3, weight_same h]
    show (0 : Int) :: [_, 1, flag (decide (_ ≤ 1024 * q.window)), _, flag (decide (q.most + 9 < _))] = 0 :: [_, 1, flag (decide (_ ≤ 1024 * ((q.window.toNat : Nat) : Int))), _, flag (decide (((q.most.toNat : Nat) : Int) + 9 < _))]
    rw [hm, hw]
    rfl
theorem right_is {q : S4} : (toSet q).right = true ↔ OkS q := by
  unfold Kv190.Set_.right OkS toSet
  simp only [Bool.and_eq_true, decide_eq_true_eq]
  omega
theorem all_rd (r : List Int) : r.all Kv190.isReading = r.all isRd := rfl

theorem step_start {s : Kv190.State} {m : MS} (R : Rel s m) (q : S4) :
    Rel (Kv190Neutral.step s [[0, q.zero, q.span, q.most, q.window]]).1 (startM m q).1 ∧ (Kv190Neutral.step s [[0, q.zero, q.span, q.most, q.window]]).2 = (startM m q).2 := by
  have e : Kv190Neutral.step s [[0, q.zero, q.span, q.most, q.window]] = (let x := Kv190.act s (.start (toSet q)); (x.1, Kv190Neutral.row (Kv190Script.say x.2))) := by
    cases s <;> rfl
  rw [e]
  by_cases c : OkS q
  · have e2 : Kv190.act s (.start (toSet q)) = (some ⟨toSet q, []⟩, ⟨0, none⟩) := if_pos (right_is.mpr c)
    have e3 : startM m q = (some (q, []), [0]) := if_pos c
    rw [e2, e3]
    exact ⟨Rel.some q [] c, rfl⟩
  · have e2 : Kv190.act s (.start (toSet q)) = (s, ⟨-22, none⟩) := if_neg fun z => c (right_is.mp z)
    have e3 : startM m q = (m, [-22]) := if_neg c
    rw [e2, e3]
    exact ⟨R, rfl⟩
theorem step_feed {s : Kv190.State} {m : MS} (R : Rel s m) (r : List Int) :
    Rel (Kv190Neutral.step s [[1], r]).1 (feedM m r).1 ∧ (Kv190Neutral.step s [[1], r]).2 = (feedM m r).2 := by
  cases R with
  | none => exact ⟨.none, rfl⟩
  | some q l hq =>
    have e : Kv190Neutral.step (some ⟨toSet q, l⟩) [[1], r] = (let x := Kv190.act (some ⟨toSet q, l⟩) (.feed (if r.length ≤ Kv190.MANY then some r else none)); (x.1, Kv190Neutral.row (Kv190Script.say x.2))) := rfl
    rw [e]
    by_cases c : r.length ≤ 1024
    · rw [if_pos (show r.length ≤ Kv190.MANY from c)]
      by_cases d : r.all isRd = true
      · have e2 : Kv190.act (some ⟨toSet q, l⟩) (.feed (some r)) = (some ⟨toSet q, l ++ r⟩, ⟨0, some (Kv190.Abs.told ⟨toSet q, l ++ r⟩)⟩) := if_pos d
        have e3 : feedM (some (q, lastOnes l)) r = (some (q, lastOnes (lastOnes l ++ r)), 0 :: toldM q (lastOnes (lastOnes l ++ r))) := if_pos ⟨c, d⟩
        rw [e2, e3, lastOnes_app]
        exact ⟨.some q _ hq, (told_same hq _).symm⟩
      · have e2 : Kv190.act (some ⟨toSet q, l⟩) (.feed (some r)) = (some ⟨toSet q, l⟩, ⟨-22, none⟩) := if_neg d
        have e3 : feedM (some (q, lastOnes l)) r = (some (q, lastOnes l), [-22]) := if_neg fun z => d z.2
        rw [e2, e3]
        exact ⟨.some q _ hq, rfl⟩
    · rw [if_neg (show ¬ r.length ≤ Kv190.MANY from c)]
      have e3 : feedM (some (q, lastOnes l)) r = (some (q, lastOnes l), [-22]) := if_neg fun z => c z.1
      rw [e3]
      exact ⟨.some q _ hq, rfl⟩
theorem startM_len (m : MS) (q : S4) : (startM m q).2.length ≤ 6 := by
  unfold startM
  split <;> simp
theorem toldM_len (q : S4) (rs : List Int) : (toldM q rs).length = 5 := by
  unfold toldM
  split <;> rfl
theorem feedM_len (m : MS) (r : List Int) : (feedM m r).2.length ≤ 6 := by
  unfold feedM
  split
  · simp
  · split
    · show (toldM _ _).length + 1 ≤ 6
      rw [toldM_len]
      omega
    · simp

/-! ### the line -/
/-- at the place a of the line l the answers so far are out, and the object is m -/
structure Now (l : List Int) (a : Nat) (out : List Int) (m : MS) : Prop where
  le : a ≤ l.length
  ex : ∃ (s : Kv190.State) (f : Nat) (cs : List (List (List Int))), Rel s m ∧ PyFlat.calls PyKv190.shape f (l.drop a) = some cs ∧ PyInside.calls PyKv190.bound cs = true ∧
    out ++ PyFlat.told (PyFlat.played Kv190Neutral.step s (cs.map PyKv190.whole)) = PyKv190.answers l ∧ out.length + 7 * cs.length ≤ 1792
theorem Now.size {l : List Int} {a : Nat} {out : List Int} {m : MS} (h : Now l a out m) : out.length ≤ 1792 := by
  obtain ⟨_, _, _, cs, _, _, _, _, h⟩ := h
  omega
theorem now_start {l : List Int} (h : PyKv190.answers_asked l = true) : Now l 0 [] none := by
  refine ⟨Nat.zero_le _, ?_⟩
  unfold PyKv190.answers_asked at h
  cases e : PyFlat.calls PyKv190.shape l.length l with
  | none =>
    rw [e] at h
    cases h
  | some cs =>
    rw [e] at h
    simp only [Bool.and_eq_true] at h
    obtain ⟨⟨⟨⟨_, h2⟩, h3⟩, _⟩, _⟩ := h
    refine ⟨none, l.length, cs, .none, e, h3, ?_, ?_⟩
    · show PyFlat.told _ = PyKv190.answers l
      unfold PyKv190.answers PyKv190.calls
      rw [e]
      rfl
    · have q : cs.length ≤ 256 := of_decide_eq_true h2
      show 0 + 7 * cs.length ≤ 1792
      omega
theorem now_done {l : List Int} {a : Nat} {out : List Int} {m : MS} (h : Now l a out m) (ha : ¬ a < l.length) : out = PyKv190.answers l := by
  obtain ⟨_, s, f, cs, _, h2, _, h4, _⟩ := h
  rw [List.drop_eq_nil_of_le (by omega)] at h2
  have e : cs = [] := by
    cases f <;> exact (Option.some.inj h2).symm
  subst e
  have q : out ++ [] = PyKv190.answers l := h4
  rw [List.append_nil] at q
  exact q
theorem calls_inv {f : Nat} {x : Int} {r : List Int} {cs : List (List (List Int))} (h : PyFlat.calls PyKv190.shape f (x :: r) = some cs) :
    ∃ f' c t cs', PyFlat.call PyKv190.shape (x :: r) = some (c, t) ∧ PyFlat.calls PyKv190.shape f' t = some cs' ∧ cs = c :: cs' := by
  cases f with
  | zero => cases h
  | succ f =>
    have h' : (match PyFlat.call PyKv190.shape (x :: r) with
      | none => none
      | some (c, t) => match PyFlat.calls PyKv190.shape f t with
        | none => none
        | some cs => some (c :: cs)) = some cs := h
    cases e : PyFlat.call PyKv190.shape (x :: r) with
    | none => rw [e] at h'; cases h'
    | some q =>
      obtain ⟨c, t⟩ := q
      rw [e] at h'
      have h2 : (match PyFlat.calls PyKv190.shape f t with
        | none => none
        | some cs => some (c :: cs)) = some cs := h'
      cases e2 : PyFlat.calls PyKv190.shape f t with
      | none => rw [e2] at h2; cases h2
      | some cs' =>
        rw [e2] at h2
        exact ⟨f, c, t, cs', rfl, e2, (Option.some.inj h2).symm⟩
theorem call_inv {x : Int} {r : List Int} {c : List (List Int)} {t : List Int} (h : PyFlat.call PyKv190.shape (x :: r) = some (c, t)) :
    (∃ a b d e, x = 0 ∧ r = a :: b :: d :: e :: t ∧ c = [[0, a, b, d, e]]) ∨ (∃ w, x = 1 ∧ r = (w.length : Int) :: (w ++ t) ∧ c = [[1], w]) := by
  by_cases c0 : x = 0
  · subst c0
    have h' : (if r.length < 4 then none else some (((0 : Int) :: r.take 4) :: [], r.drop 4)) = some (c, t) := h
    by_cases hl : r.length < 4
    · rw [if_pos hl] at h'; cases h'
    · rw [if_neg hl] at h'
      obtain ⟨e1, e2⟩ := Prod.mk.inj (Option.some.inj h')
      match r, hl, e1, e2 with
      | a :: b :: d :: e :: t', _, e1, e2 => exact .inl ⟨a, b, d, e, rfl, by rw [← e2]; rfl, e1.symm⟩
      | [], hl, _, _ => exact absurd (by simp) hl
      | [_], hl, _, _ => exact absurd (by simp) hl
      | [_, _], hl, _, _ => exact absurd (by simp) hl
      | [_, _, _], hl, _, _ => exact absurd (by simp) hl
  · by_cases c1 : x = 1
    · subst c1
      have h' : (if r.length < 0 then none else match (match PyFlat.row r with
        | none => none
        | some (x, s) => some ([x], s)) with
        | none => none
        | some (xs, t) => some (((1 : Int) :: r.take 0) :: xs, t)) = some (c, t) := h
      rw [if_neg (by omega)] at h'
      cases r with
      | nil => cases h'
      | cons n r =>
        have e0 : PyFlat.row (n :: r) = if 0 ≤ n ∧ n.toNat ≤ r.length then some (r.take n.toNat, r.drop n.toNat) else none := rfl
        by_cases k : 0 ≤ n ∧ n.toNat ≤ r.length
        · rw [e0, if_pos k] at h'
          obtain ⟨e1, e2⟩ := Prod.mk.inj (Option.some.inj h')
          refine .inr ⟨r.take n.toNat, rfl, ?_, e1.symm⟩
          rw [← e2, List.take_append_drop, List.length_take]
          have : ((min n.toNat r.length : Nat) : Int) = n := by omega
          rw [this]
        · rw [e0, if_neg k] at h'; cases h'
    · have e0 : PyKv190.shape x = none := by
        unfold PyKv190.shape
        rw [if_neg c0, if_neg c1]
      have h' : (match PyKv190.shape x with
        | none => none
        | some (n, k) => if r.length < n then none else match PyFlat.rows k (r.drop n) with
          | none => none
          | some (xs, t) => some ((x :: r.take n) :: xs, t)) = some (c, t) := h
      rw [e0] at h'
      cases h'
theorem now_turn {l : List Int} {a : Nat} {out : List Int} {m : MS} (h : Now l a out m) (ha : a < l.length) :
    (∃ (q : S4) (t : List Int), l.drop a = 0 :: q.zero :: q.span :: q.most :: q.window :: t ∧ Now l (a + 5) (out ++ told1 (startM m q).2) (startM m q).1) ∨
    (∃ r t : List Int, l.drop a = 1 :: (r.length : Int) :: (r ++ t) ∧ Now l (a + 2 + r.length) (out ++ told1 (feedM m r).2) (feedM m r).1) := by
  obtain ⟨_, s, f, cs, R, h2, h3, h4, h5⟩ := h
  have ed : l.drop a = l[a] :: l.drop (a + 1) := List.drop_eq_getElem_cons ha
  rw [ed] at h2
  obtain ⟨f', c, t, cs', k1, k2, rfl⟩ := calls_inv h2
  have h3' : PyInside.call PyKv190.bound c = true ∧ PyInside.calls PyKv190.bound cs' = true := by
    unfold PyInside.calls at h3
    rw [List.all_cons, Bool.and_eq_true] at h3
    exact h3
  have lt : ∀ (u : List Int), l.drop a = u ++ t → l.drop (a + u.length) = t ∧ a + u.length ≤ l.length := by
    intro u e
    constructor
    · rw [← List.drop_drop, e, List.drop_left]
    · have q := congrArg List.length e
      rw [List.length_drop, List.length_append] at q
      omega
  rcases call_inv k1 with ⟨x1, x2, x3, x4, e0, er, rfl⟩ | ⟨w, e0, er, rfl⟩
  · left
    have e1 : l.drop a = 0 :: x1 :: x2 :: x3 :: x4 :: t := by rw [ed, e0, er]
    obtain ⟨d1, d2⟩ := lt [0, x1, x2, x3, x4] e1
    obtain ⟨R', eq⟩ := step_start R ⟨x1, x2, x3, x4⟩
    refine ⟨⟨x1, x2, x3, x4⟩, t, e1, d2, _, f', cs', R', by rw [show a + 5 = a + [0, x1, x2, x3, x4].length from rfl, d1]; exact k2, h3'.2, ?_, ?_⟩
    · rw [← h4, List.append_assoc]
      congr 1
      rw [← eq]
      rfl
    · have q := startM_len m ⟨x1, x2, x3, x4⟩
      have h5' : out.length + 7 * (cs'.length + 1) ≤ 1792 := h5
      rw [List.length_append]
      show out.length + ((startM m ⟨x1, x2, x3, x4⟩).2.length + 1) + 7 * cs'.length ≤ 1792
      omega
  · right
    have e1 : l.drop a = 1 :: (w.length : Int) :: (w ++ t) := by rw [ed, e0, er]
    obtain ⟨d1, d2⟩ := lt (1 :: (w.length : Int) :: w) e1
    obtain ⟨R', eq⟩ := step_feed R w
    have ea : a + 2 + w.length = a + (1 :: (w.length : Int) :: w).length := by
      show a + 2 + w.length = a + (w.length + 1 + 1)
      omega
    refine ⟨w, t, e1, ?_⟩
    rw [ea]
    refine ⟨d2, _, f', cs', R', by rw [d1]; exact k2, h3'.2, ?_, ?_⟩
    · rw [← h4, List.append_assoc]
      congr 1
      rw [← eq]
      rfl
    · have q := feedM_len m w
      have h5' : out.length + 7 * (cs'.length + 1) ≤ 1792 := h5
      rw [List.length_append]
      show out.length + ((feedM m w).2.length + 1) + 7 * cs'.length ≤ 1792
      omega
end Steady

/-! # Steady2: zip of a list and a tuple, walked by a for; small words over the hand layer -/
namespace Steady
open PySem PySem.Spec PyProof.Rows L2

/-! ### zip(list, tuple) -/
/-- turn i: a new pair of the list's and the tuple's i-th -/
def ItM (K : PySem.W.Frag) (a b : Addr) : It where
  go i H := ∃ (xs ys : List V) (x y : V), (SqL K H a xs ∧ SqT K H b ys) ∧ xs[i]? = some x ∧ ys[i]? = some y
  yld i H v H' := ∃ T x y, (v = .ref T ∧ H T = none ∧ H' = upd H T (.tup [x, y])) ∧ (∀ xs, SqL K H a xs → xs[i]? = some x) ∧ (∀ ys, SqT K H b ys → ys[i]? = some y)
  stop i H := ∃ xs ys : List V, (SqL K H a xs ∧ SqT K H b ys) ∧ i = xs.length ∧ i = ys.length

/-- the state of such a walk -/
def StM (a b z TI TO i1 i2 : Addr) (i : Nat) (h : Heap) : Prop :=
  IsZip h z TI TO .none ∧ IsTupOf2 h TI (.ref i1) (.ref i2) ∧ (∃ x y, IsTupOf2 h TO x y) ∧ h.IsListIter i1 a i ∧ h.IsTupleIter i2 b i

theorem five {z TI TO i1 i2 c : Addr} (h : c ∈ [z, TI, TO, i1, i2]) : c = z ∨ c = TI ∨ c = TO ∨ c = i1 ∨ c = i2 := by simpa using h
theorem not5 {z TI TO i1 i2 c : Addr} (h : c ∉ [z, TI, TO, i1, i2]) : c ≠ z ∧ c ≠ TI ∧ c ≠ TO ∧ c ≠ i1 ∧ c ≠ i2 := by simpa using h

theorem stM_there {a b z TI TO i1 i2 : Addr} {i : Nat} {h : Heap} (st : StM a b z TI TO i1 i2 i h) {c : Addr} (hc : c ∈ [z, TI, TO, i1, i2]) : ∃ o, h.get? c = some o ∧ ∀ v, o.data ≠ .cell v := by
  obtain ⟨hz, hI, ⟨x, y, hO⟩, ⟨o1, e1, k1, d1⟩, ⟨o2, e2, k2, d2⟩⟩ := st
  rcases five hc with rfl | rfl | rfl | rfl | rfl
  · exact ⟨_, hz, fun v q => nomatch q⟩
  · exact ⟨_, hI, fun v q => nomatch q⟩
  · exact ⟨_, hO, fun v q => nomatch q⟩
  · exact ⟨o1, e1, fun v q => by rw [d1] at q; cases q⟩
  · exact ⟨o2, e2, fun v q => by rw [d2] at q; cases q⟩

theorem turn_M {P : Program} {w : World} {K : PySem.W.Frag} {elts : List Expr} {kk : Nat} {tpos : Pos} {a b z TI TO i1 i2 : Addr} (S : ZipSep2 z TI TO i1 i2 [i1, a] [i2, b]) (n1 : a ≠ i1) (n2 : b ≠ i2) :
    Turn P w K (.Tuple elts kk tpos) (ItM K a b) [z, TI, TO, i1, i2] z (StM a b z TI TO i1 i2) where
  mem := List.mem_cons_self
  obj i h st c hc := stM_there st hc
  keep i h h' st k := by
    obtain ⟨hz, hI, ⟨x, y, hO⟩, h1, h2⟩ := st
    refine ⟨k z (by simp) _ hz, k TI (by simp) _ hI, ⟨x, y, k TO (by simp) _ hO⟩, h1.at fun o q => ?_, h2.at fun o q => ?_⟩
    · exact k i1 (by simp) o q
    · exact k i2 (by simp) o q
  item := by
    intro X hP hw hK hc i pins s σ H E I hf st hg
    subst hP hw hK
    have hh := I.ok.hd hc
    obtain ⟨hz, hI, ⟨x0, y0, hO⟩, h1, h2⟩ := st
    obtain ⟨xs, ys, x, y, ⟨qx, qy⟩, hx, hy⟩ := hg
    obtain ⟨us, rv, p, _⟩ := I.list qx
    obtain ⟨ws, rw2, p2, _⟩ := I.tuple qy
    obtain ⟨u, hu, ru⟩ := rv.get hx
    obtain ⟨u2, hu2, ru2⟩ := rw2.get hy
    have zlt : z < s.heap.objs.size := Heap.lt_size hz
    have D1 := Draws.list (prog := X.prog) (w := X.w) (A := X.A.in1) hh i1 a n1 us.toArray
    have D2 := Draws.tuple (prog := X.prog) (w := X.w) (A := X.A.in1) hh i2 b n2 ws.toArray
    have l1 : i < us.toArray.size := by
      rw [List.size_toArray]
      exact (List.getElem?_eq_some_iff.mp hu).1
    have l2 : i < ws.toArray.size := by
      rw [List.size_toArray]
      exact (List.getElem?_eq_some_iff.mp hu2).1
    refine wpAny_pyNext_zipD2_item S D1 D2 hz hI hO ⟨h1, p.isList⟩ ⟨h2, p2⟩ l1 l2 fun v1 v2 h' tk e1 e2 z' O' s1 s2 hT hsz hk => ?_
    have e1' : v1 = u := by
      rw [List.getElem?_toArray, hu] at e1
      exact (Option.some.inj e1).symm
    have e2' : v2 = u2 := by
      rw [List.getElem?_toArray, hu2] at e2
      exact (Option.some.inj e2).symm
    subst e1' e2'
    refine ⟨_, rfl, wpAny_letOwnedTupleGo_zip (s := { s with heap := h', toks := tk }) z' fun h'' z'' sb => ?_⟩
    have hT2 : h''.get? s.heap.objs.size = some { cls := .type "tuple", data := .seq #[v1, v2] } := (sb.2 _ (Nat.ne_of_gt zlt)).trans hT
    have new : ObjOk X.prog X.w (upd H s.heap.objs.size (.tup [x, y])) h'' s.heap.objs.size (.tup [x, y]) := by
      refine ⟨by show 2 ≤ sizeLine; decide, [v1, v2], .cons ru (.cons ru2 .nil), ?_⟩
      exact ⟨_, hT2, rfl, _, rfl⟩
    have I1 : Inv X pins σ (upd H s.heap.objs.size (.tup [x, y])) { s with heap := h'', toks := tk } := by
      refine I.turnedNew (ch := [z, TI, TO, i1, i2]) (fun c o hb q => ?_) hf (Nat.le_refl _) new
      obtain ⟨m1, m2, m3, m4, m5⟩ := not5 hb
      exact (sb.2 c m1).trans (hk c o m1 m3 m4 m5 q)
    have fr : H s.heap.objs.size = none := I.hok.fresh (Nat.le_refl _)
    refine ⟨.ref s.heap.objs.size, _, I1, rfl, ⟨_, x, y, ⟨rfl, fr, rfl⟩, fun l hl => ?_, fun l hl => ?_⟩, ⟨z'', ?_, ⟨v1, v2, ?_⟩, ?_, ?_⟩, fun c hcm => ?_⟩
    · rw [I.list_inj hl qx]
      exact hx
    · rw [I.tuple_inj hl qy]
      exact hy
    · exact (sb.2 _ S.TIz).trans (hk _ _ S.TIz S.TITO S.TIi1 S.TIi2 hI)
    · exact (sb.2 _ S.TOz).trans O'
    · exact s1.1.at fun o q => (sb.2 _ S.zi1.symm).trans q
    · exact s2.1.at fun o q => (sb.2 _ S.zi2.symm).trans q
    · obtain ⟨o, eo, _⟩ := stM_there (i := i) ⟨hz, hI, ⟨x0, y0, hO⟩, h1, h2⟩ hcm
      rw [upd_ne (Nat.ne_of_lt (Heap.lt_size eo))]
      exact (hf c hcm).1
  done := by
    intro X hP hw hK hc i pins s σ H E I hf st hg
    subst hP hw hK
    have hh := I.ok.hd hc
    obtain ⟨hz, hI, ⟨x0, y0, hO⟩, h1, h2⟩ := st
    obtain ⟨xs, ys, ⟨qx, qy⟩, hx, hy⟩ := hg
    obtain ⟨us, rv, p, _⟩ := I.list qx
    obtain ⟨ws, rw2, p2, _⟩ := I.tuple qy
    have D1 := Draws.list (prog := X.prog) (w := X.w) (A := X.A.in1) hh i1 a n1 us.toArray
    have D2 := Draws.tuple (prog := X.prog) (w := X.w) (A := X.A.in1) hh i2 b n2 ws.toArray
    have l1 : i = us.toArray.size := by
      rw [List.size_toArray, ← rv.length]
      exact hx
    have l2 : i = ws.toArray.size := by
      rw [List.size_toArray, ← rw2.length]
      exact hy
    refine wpAny_pyNext_zipD2_end S D1 D2 hz hI hO ⟨h1, p.isList⟩ ⟨h2, p2⟩ (Nat.le_of_eq l1) (Nat.le_of_eq l2) (.inl l1) fun h' tk hk => ⟨rfl, ?_⟩
    refine I.turnedL (ch := [z, TI, TO, i1, i2]) (fun c o hb q => ?_) hf
    obtain ⟨m1, m2, m3, m4, m5⟩ := not5 hb
    exact hk c o m1 m3 m4 m5 q
  self A i s Q E st h := wpAny_pyIter_zip st.1 h

def iZipM (K : PySem.W.Frag) (ta : TA) : TI := fun σ H R => ta σ H fun vs H1 => ∃ a b xs ys, vs = [.ref a, .ref b] ∧ (SqL K H1 a xs ∧ SqT K H1 b ys) ∧ R (ItM K a b) H1
theorem pi_zipM {X : Cx} {e e2 : Expr} {ta : TA} {p pos tpos : Pos} {elts : List Expr} {kk : Nat} (hg : Gl X "zip") (hm : X.mg "zip" = none) (ha : PA X [e, e2] ta)
    (hs : starEach [e, e2] X.env = (false, eval e X.env) :: starEach [e2] X.env := by rfl)
    (hpl : (backTo pos (starEach [e2] X.env)).any (·.1) = false := by rfl) :
    PI X (.Tuple elts kk tpos) (.Call (.Name "zip" p) [e, e2] [] pos) (iZipM X.K ta) := by
  refine ⟨fun pins s σ H R I h => Call_ (ld_blt I hg hm PyProof.Rows.boot_zip ?_)⟩
  refine PyProof.Rows.callWith_type1 (thn (ha.run pos pins s σ H _ I h) fun us s1 ⟨vs, H1, I1, r1, q1⟩ => ?_) hs hpl
  obtain ⟨a, b, xs, ys, rfl, ⟨qx, qy⟩, q⟩ := q1
  obtain ⟨u1, u2, rfl, ra, rb⟩ := vals2 r1
  cases ra
  cases rb
  obtain ⟨is1, rv, p1, _⟩ := I1.list qx
  obtain ⟨is2, rw2, p2, _⟩ := I1.tuple qy
  have la : a < s1.heap.objs.size := p1.lt
  have lb : b < s1.heap.objs.size := by
    obtain ⟨o, ho, _⟩ := p2
    exact Heap.lt_size ho
  refine zip_begins2 (begins_list a is1.toArray) (begins_tuple b is2.toArray) p1.isList p2 fun h' hz hI hO hi1 hi2 hsz hk => ?_
  refine wpAny_pyIter_zip hz ?_
  have I2 : Inv X pins σ H1 { s1 with heap := h' } := I1.kept (t' := s1.toks) hk
  have S := zip_sep2 (N := s1.heap.objs.size) (fp1 := [a]) (fp2 := [b]) (fun c hc => by rw [List.mem_singleton.mp hc]; exact la) (fun c hc => by rw [List.mem_singleton.mp hc]; exact lb)
  refine ⟨s1.heap.objs.size + 4, _, _, _, H1, rfl, I2, turn_M S (Nat.ne_of_lt la) (Nat.ne_of_lt (Nat.lt_succ_of_lt lb)), ⟨hz, hI, ⟨_, _, hO⟩, ⟨_, hi1, rfl, rfl⟩, ⟨_, hi2, rfl, rfl⟩⟩, fun c hcm => ?_, q⟩
  have hle : s1.heap.objs.size ≤ c := by
    rcases five hcm with e | e | e | e | e <;> rw [e]
    · exact Nat.le_add_right _ _
    · exact Nat.le_add_right _ _
    · exact Nat.le_add_right _ _
    · exact Nat.le_refl _
    · exact Nat.le_add_right _ _
  exact I1.fpOk hle (I1.hok.fresh hle)

/-- a for over it -/
theorem walk_M {K : PySem.W.Frag} {a b : Addr} {xs ys : List V} (hl : xs.length = ys.length) :
    Walk (ItM K a b) xs.length (fun H => SqL K H a xs ∧ SqT K H b ys) (YPair (fun i => xs[i]?) (fun i => ys[i]?)) where
  goes i H hi q := ⟨xs, ys, xs[i], ys[i]'(by omega), q, List.getElem?_eq_getElem hi, List.getElem?_eq_getElem (by omega)⟩
  stops H q := ⟨xs, ys, q, rfl, hl⟩
  yields i H x H' hi q y := by
    obtain ⟨T, u, v, ⟨h1, h2, h3⟩, h4, h5⟩ := y
    exact ⟨T, u, v, h1, h2, h3, h4 xs q.1, h5 ys q.2⟩

/-! ### small words -/
theorem if_t {c : Bool} {A B : Prop} (hc : c = true) (h : A) : if c = true then A else B := by
  subst hc
  exact iteT h
theorem if_f {c : Bool} {A B : Prop} (hc : c = false) (h : B) : if c = true then A else B := by
  subst hc
  exact iteF h
/-- a name of the module that holds an int -/
def GI (mg : Str → Option Value) (x : Str) (i : Int) : Prop := ∃ t, mg x = some (.int i t)
theorem pe_gi {X : Cx} {x : Str} {i : Int} {pos : Pos} (h : GI X.mg x i) (hg : Gl X x := by rfl) (hd : (x == ("__debug__" : Str)) = false := by decide) : PE X (.Name x pos) (tC (.int i)) := by
  obtain ⟨t, h⟩ := h
  exact pe_glob hg h ⟨t, rfl⟩ hd

/-- a def that may be called by its name -/
structure Cal (P : Program) (w : World) (K : PySem.W.Frag) (mg : Str → Option Value) (base : Heap) (x : Str) (k : Nat) (f : Addr) (fd : FuncData) (ps : List Str) (sp : Sp) : Prop where
  ok : FnOk P w K mg base CX0 k f fd ps sp
  g : mg x = some (.ref f)
  kp : PySem.W.keepIn K (.ref f) = true
  b : Binds K fd ps []

/-- a tuple of the written part -/
def TupK (K : PySem.W.Frag) (a : Addr) (xs : List V) : Prop :=
  ∃ (o : Obj) (its : Array Value) (n : Nat), K.lookup a = some o ∧ o.cls = .type "tuple" ∧ o.data = .seq its n ∧ its.size ≤ sizeLine ∧ Vals xs its.toList
theorem TupK.sq {K : PySem.W.Frag} {a : Addr} {xs : List V} (h : TupK K a xs) (H : Hp) : SqT K H a xs := .inr h

theorem at_map {l : List Int} {i : Nat} {y : V} (h : (l.map V.int)[i]? = some y) : ∃ z, l[i]? = some z ∧ y = V.int z := by
  rw [List.getElem?_map] at h
  cases e : l[i]? with
  | none =>
    rw [e] at h
    cases h
  | some z =>
    rw [e] at h
    exact ⟨z, rfl, (Option.some.inj h).symm⟩
theorem same_new {H : Hp} {p : Addr} {o : HO} (h : H p = none) : Same H (upd H p o) := fun b u e => by
  rw [upd_ne (ne_of_none e h)]
  exact e
theorem len31 {n : Nat} (h : n ≤ 40000) : n < sizeLine := Nat.lt_of_le_of_lt h (by decide)
/-- all but what stands at f is as it was -/
def Off (f : Addr) (H H' : Hp) : Prop := ∀ b o, H b = some o → b ≠ f → H' b = some o
theorem Off.upd {f : Addr} {H : Hp} {o : HO} : Off f H (upd H f o) := fun b u e n => by
  rw [upd_ne n]
  exact e
theorem Off.same {f : Addr} {H H1 H2 : Hp} (a : Off f H H1) (b : Same H1 H2) : Off f H H2 := fun c o e n => b c o (a c o e n)
theorem Off.of {f : Addr} {H H1 H2 : Hp} (a : Same H H1) (b : Off f H1 H2) : Off f H H2 := fun c o e n => b c o (a c o e) n
end Steady

/-! # Steady3: the module smooth, def by def -/
namespace Steady
open PySem PySem.Spec PyProof.Rows L2

/-- the i-th statement of the program -/
def top (i : Nat) : Stmt := PySem.Challenge.pw_steadyweight_s01_answers.main.body.getD i (.Pass ⟨0, 0, 0, 0⟩)
abbrev sIsReading : Stmt := top 8
abbrev sAreReadings : Stmt := top 9
abbrev sTimes : Stmt := top 10
abbrev sSmooth : Stmt := top 11
abbrev sLastSmooth : Stmt := top 12
abbrev sLastOnes : Stmt := top 13

section
variable {P : Program} {w : World} {K : PySem.W.Frag} {mg : Str → Option Value} {base : Heap} {f : Addr} {fd : FuncData}

/-! ### is_reading -/
def spIsReading : Sp := fun vs H Q _ => ∃ n : Int, vs = [.int n] ∧ Q (.bl (isRd n)) H
theorem scIsReading : FnScope ["number"] ["number"] (defScope sIsReading) := ⟨rfl, rfl, rfl, by decide +kernel, rfl, by decide +kernel, by decide +kernel⟩
theorem okIsReading (F : Fun K "is_reading" "is_reading" sIsReading f fd) (c1 : GI mg "LEAST_READING" (-8388608)) (c2 : GI mg "GREATEST_READING" 8388607) :
    FnOk P w K mg base CX0 1 f fd ["number"] spIsReading := by
  refine F.ok scIsReading (fun vs H Q E h => ?_) (fun cdv A outer s H vs Q E hr h => ?_)
  · obtain ⟨n, rfl, _⟩ := h
    rfl
  · refine ⟨_, pss_one (ps_ret (pe_and (pe_cmp (pc_le (pe_gi c1) (pv 0)) rfl) (pe_one (pe_cmp (pc_le (pv 0) (pe_gi c2)) rfl)))), ?_⟩
    obtain ⟨n, rfl, q⟩ := h
    refine ⟨_, rfl, _, _, rfl, rfl, _, rfl, ?_⟩
    unfold isRd at q
    by_cases c : -8388608 ≤ n
    · rw [decide_eq_true c] at q
      exact if_t (decide_eq_true c) ⟨_, rfl, _, _, rfl, rfl, q⟩
    · rw [decide_eq_false c] at q
      exact if_f (decide_eq_false c) q

/-! ### are_readings -/
def spAreReadings (K : PySem.W.Frag) : Sp := fun vs H Q _ => ∃ (a : Addr) (ns : List Int), vs = [.ref a] ∧ SqL K H a (ns.map V.int) ∧ ns.length ≤ 40000 ∧ ∀ H', Same H H' → Q (.bl (ns.all isRd)) H'
theorem scAreReadings : FnScope ["row", "number"] ["row"] (defScope sAreReadings) := ⟨rfl, rfl, rfl, by decide +kernel, rfl, by decide +kernel, by decide +kernel⟩
/-- the numbers that are no readings -/
def bad (l : List Int) : List Int := l.filter fun n => !isRd n
theorem bad_more {l : List Int} {i : Nat} {z : Int} (h : l[i]? = some z) : bad (l.take (i + 1)) = if isRd z then bad (l.take i) else bad (l.take i) ++ [z] := by
  unfold bad
  rw [List.take_add_one, h]
  show ((l.take i) ++ [z]).filter _ = _
  rw [List.filter_append]
  cases e : isRd z with
  | true => simp [List.filter, e]
  | false => simp [List.filter, e]
theorem bad_all (l : List Int) : PyData.eqv (.list ((bad l).map PyData.int)) (.list []) = l.all isRd := by
  have h : bad l = [] ↔ l.all isRd = true := by
    unfold bad
    rw [List.filter_eq_nil_iff, List.all_eq_true]
    constructor
    · intro q x hx
      simpa using q x hx
    · intro q x hx
      simpa using q x hx
  cases e : bad l with
  | nil =>
    rw [h.mp e]
    rfl
  | cons x r =>
    have n : l.all isRd = false := by
      cases e2 : l.all isRd with
      | false => rfl
      | true =>
        rw [h.mpr e2] at e
        cases e
    rw [n]
    rfl
theorem dp_ints {K : PySem.W.Frag} {H : Hp} : ∀ ns : List Int, DpAll K H (ns.map V.int) (ns.map PyData.int)
  | [] => .nil
  | n :: r => .cons (.int n) (dp_ints r)
theorem okAreReadings (F : Fun K "are_readings" "are_readings" sAreReadings f fd) {g : Addr} {gd : FuncData} (C : Cal P w K mg base "is_reading" 1 g gd ["number"] spIsReading) :
    FnOk P w K mg base CX0 2 f fd ["row"] (spAreReadings K) := by
  refine F.ok scAreReadings (fun vs H Q E h => ?_) (fun cdv A outer s H vs Q E hr h => ?_)
  · obtain ⟨a, ns, rfl, _⟩ := h
    rfl
  · refine ⟨_, pss_one (ps_ret (pe_cmpR (op_eqD hr.units)
      (pe_lc (own := [("number", 1)]) (g := gName 1) rfl scAreReadings.nd (pi_list (pv 0)) (blkOk_by (N := ["row", "number"]) (sc := defScope sAreReadings) (by decide +kernel))
        (fun _ _ _ _ _ => pg_name (i := 1) scAreReadings.nd rfl (Or.inl rfl)) (fun _ _ _ _ _ => pts_one (pt_not (pt_val (pe_call C.ok hr rfl C.g C.kp C.b .nil pass0 (pa_cons (pv 1) pa_nil))))) (fun _ _ _ _ _ => pv 1))
      (pe_lst pa_nil) (nomark _))), ?_⟩
    obtain ⟨a, ns, rfl, hs, hl, q⟩ := h
    refine ⟨_, rfl, a, rfl, ⟨_, hs⟩, fun D hD => lc_list (K := K) (a := a) (xs := ns.map V.int) (fun i H' => Same H H' ∧ H' D = some (.lst ((bad (ns.take i)).map V.int))) ⟨same_new hD, upd_same⟩ (fun i H' _ p => p.1.seq hs) ?_ ?_⟩
    · rintro i x H' hx ⟨sm, hD'⟩
      obtain ⟨z, hz, rfl⟩ := at_map hx
      have more := bad_more hz
      have hb : (bad (ns.take i)).length ≤ ns.length := by
        unfold bad
        exact Nat.le_trans (List.length_filter_le _ _) (by rw [List.length_take]; exact Nat.min_le_right _ _)
      refine ⟨rfl, _, rfl, z, rfl, _, rfl, ?_⟩
      cases e : isRd z with
      | true =>
        rw [e, if_pos rfl] at more
        refine iteF ⟨sm, ?_⟩
        rw [more]
        exact hD'
      | false =>
        rw [e, if_neg Bool.false_ne_true] at more
        refine iteT ⟨_, rfl, _, hD', len31 (by rw [List.length_map]; omega), ?_, ?_⟩
        · intro b o eb
          by_cases c : b = D
          · subst c
            rw [hD] at eb
            cases eb
          · rw [upd_ne c]
            exact sm b o eb
        · rw [upd_same, more, List.map_append]
          rfl
    · rintro H' ⟨sm, hD'⟩
      rw [List.length_map, List.take_length] at hD'
      refine ⟨by show 0 ≤ sizeLine; decide, fun p hp => ?_⟩
      refine ⟨_, _, .lst (SqL.of ((upd_ne (ne_of_none hD' hp)).trans hD')) (dp_ints _), .lst (SqL.of upd_same) .nil, PySem.W.ke_shaped_ints _, rfl, ?_⟩
      rw [bad_all]
      exact q _ (sm.trans (same_new hp))

/-! ### times_of -/
def spTimes : Sp := fun vs H Q _ => ∃ k : Nat, vs = [.int k] ∧ Q (.int (Kv190.tap k)) H
theorem scTimes : FnScope ["place"] ["place"] (defScope sTimes) := ⟨rfl, rfl, rfl, by decide +kernel, rfl, by decide +kernel, by decide +kernel⟩
theorem okTimes (F : Fun K "times_of" "times_of" sTimes f fd) (c1 : GI mg "TOP" 32) (c2 : GI mg "TAKEN" 63) : FnOk P w K mg base CX0 1 f fd ["place"] spTimes := by
  refine F.ok scTimes (fun vs H Q E h => ?_) (fun cdv A outer s H vs Q E hr h => ?_)
  · obtain ⟨n, rfl, _⟩ := h
    rfl
  · refine ⟨_, pss_cons (ps_if (pt_cmpR op_lt (pv 0) (pe_gi c1) (nomark _)) (pss_one (ps_ret (pe_op op_add (pv 0) pe_int))) pss_nil)
      (pss_one (ps_ret (pe_op op_sub (pe_gi c2) (pv 0)))), ?_⟩
    obtain ⟨k, rfl, q⟩ := h
    refine ⟨_, rfl, _, _, rfl, rfl, _, rfl, ?_⟩
    unfold Kv190.tap at q
    by_cases c : k < 32
    · rw [if_pos c] at q
      rw [decide_eq_true (show (k : Int) < 32 by omega)]
      exact iteT ⟨_, rfl, _, _, rfl, rfl, q⟩
    · rw [if_neg c] at q
      rw [decide_eq_false (show ¬ (k : Int) < 32 by omega)]
      exact iteF ⟨_, rfl, _, _, rfl, rfl, q⟩

/-! ### smooth_of -/
def spSmooth (K : PySem.W.Frag) : Sp := fun vs H Q _ => ∃ (a : Addr) (ns : List Int), vs = [.ref a] ∧ SqL K H a (ns.map V.int) ∧ ns.length = 63 ∧ ∀ H', Same H H' → Q (.int (smF ns 63)) H'
theorem scSmooth : FnScope ["some", "total", "place", "number"] ["some"] (defScope sSmooth) := ⟨rfl, rfl, rfl, by decide +kernel, rfl, by decide +kernel, by decide +kernel⟩
theorem tap_small {k : Nat} (h : k < 63) : 1 ≤ Kv190.tap k ∧ Kv190.tap k ≤ 32 := by
  unfold Kv190.tap
  split <;> omega
theorem okSmooth (F : Fun K "smooth_of" "smooth_of" sSmooth f fd) (bE : mg "enumerate" = none) {g : Addr} {gd : FuncData} (C : Cal P w K mg base "times_of" 1 g gd ["place"] spTimes) :
    FnOk P w K mg base CX0 2 f fd ["some"] (spSmooth K) := by
  refine F.ok scSmooth (fun vs H Q E h => ?_) (fun cdv A outer s H vs Q E hr h => ?_)
  · obtain ⟨a, ns, rfl, _⟩ := h
    rfl
  · refine ⟨_, pss_cons (ps_set (i := 1) scSmooth.nd rfl (Or.inl rfl) pe_int)
      (pss_cons (ps_for PassesOwn.never rfl (pi_enum (by rfl) bE (pa_cons (pv 0) pa_nil)) (pg_tup rfl (pgs_cons (pg_name (i := 2) scSmooth.nd rfl (Or.inl rfl)) (pgs_cons (pg_name (i := 3) scSmooth.nd rfl (Or.inl rfl)) pgs_nil)))
        (pss_one (ps_aug (i := 1) scSmooth.nd rfl (Or.inl rfl) (pe_op op_mul (pe_call C.ok hr rfl C.g C.kp C.b .nil pass0 (pa_cons (pv 2) pa_nil)) (pv 3)) ip_add)))
      (pss_one (ps_ret (pv 1)))), ?_⟩
    obtain ⟨a, ns, rfl, hs, hl, q⟩ := h
    refine ⟨_, rfl, a, ns.map V.int, rfl, hs, for_it walk_enum (fun i σ H' => ∃ v2 v3 : Option V, σ = [some (.ref a), some (.int (smF ns i)), v2, v3] ∧ Same H H') ⟨none, none, rfl, Same.refl H⟩ (fun i σ H' _ ⟨_, _, _, sm⟩ => sm.seq hs) ?_ ?_⟩
    · rintro i x σ H1 H2 hi ⟨v2, v3, rfl, sm⟩ ⟨T, x1, x2, rfl, hT, rfl, e1, e2⟩
      cases e1
      obtain ⟨z, hz, rfl⟩ := at_map e2
      have hi' : i < 63 := by
        rw [List.length_map] at hi
        omega
      obtain ⟨t1, t2⟩ := tap_small hi'
      refine ⟨T, _, rfl, SqT.of upd_same, rfl, _, _, rfl, _, _, rfl, rfl, ?_⟩
      refine ⟨_, rfl, _, rfl, i, rfl, _, rfl, _, _, rfl, rfl, .inl ⟨by omega, by omega⟩, _, _, rfl, rfl, ?_⟩
      have ez : ns.getD i 0 = z := by
        rw [List.getD_eq_getElem?_getD, hz]
        rfl
      refine ⟨some (.int (i : Nat)), some (.int z), ?_, sm.trans (same_new hT)⟩
      rw [smF_succ, ez]
      rfl
    · rintro σ H1 ⟨v2, v3, rfl, sm⟩
      rw [List.length_map, hl]
      exact ⟨_, rfl, q _ sm⟩

/-! ### last_smooth_ones -/
def spLastSmooth (K : PySem.W.Frag) : Sp := fun vs H Q _ => ∃ (a : Addr) (rs : List Int), vs = [.ref a] ∧ SqL K H a (rs.map V.int) ∧ rs.length = 94 ∧
  ∀ H' p, Same H H' → H p = none → H' p = some (.lst ((smooths rs 32).map V.int)) → Q (.ref p) H'
theorem scLastSmooth : FnScope ["readings", "found", "first"] ["readings"] (defScope sLastSmooth) := ⟨rfl, rfl, rfl, by decide +kernel, rfl, by decide +kernel, by decide +kernel⟩
theorem cut_63 {rs : List Int} {i : Nat} (h : rs.length = 94) (hi : i < 32) : cutV (rs.map V.int) (some (0 + (i : Int))) (some (0 + (i : Int) + 63)) = (((rs.drop i).take 63).map V.int) := by
  unfold cutV
  have e1 : (0 + (i : Int)) = ((i : Nat) : Int) := by omega
  have e2 : ((i : Nat) : Int) + 63 = ((i + 63 : Nat) : Int) := by omega
  rw [e1, e2, HT.sIx_nat, HT.sIx_nat, List.length_map, h]
  have e3 : min i 94 = i := by omega
  have e4 : min (i + 63) 94 - i = 63 := by omega
  rw [e3, e4, ← List.map_drop, ← List.map_take]
theorem okLastSmooth (F : Fun K "last_smooth_ones" "last_smooth_ones" sLastSmooth f fd) (bR : mg "range" = none) (c1 : GI mg "LOOKED_AT" 32) (c2 : GI mg "TAKEN" 63) {g : Addr} {gd : FuncData} (C : Cal P w K mg base "smooth_of" 2 g gd ["some"] (spSmooth K)) :
    FnOk P w K mg base CX0 3 f fd ["readings"] (spLastSmooth K) := by
  refine F.ok scLastSmooth (fun vs H Q E h => ?_) (fun cdv A outer s H vs Q E hr h => ?_)
  · obtain ⟨a, ns, rfl, _⟩ := h
    rfl
  · refine ⟨_, pss_cons (ps_set (i := 1) scLastSmooth.nd rfl (Or.inl rfl) (pe_lst pa_nil))
      (pss_cons (ps_for PassesOwn.never rfl (pi_range1 rfl bR (pa_cons (pe_gi c1) pa_nil)) (pg_name (i := 2) scLastSmooth.nd rfl (Or.inl rfl))
        (pss_one (ps_expr (pe_bm PySem.F.plainAttrs_list PySem.F.slot_list_append PySem.F.type_list_append mt_append (pv 1)
          (pa_cons (pe_call C.ok hr rfl C.g C.kp C.b .nil pass0 (pa_cons (pe_slice sl_list (pv 0) (po_some (pv 2)) (po_some (pe_op op_add (pv 2) (pe_gi c2)))) pa_nil)) pa_nil)))))
      (pss_one (ps_ret (pv 1)))), ?_⟩
    obtain ⟨a, rs, rfl, hs, hl, q⟩ := h
    refine ⟨by show 0 ≤ sizeLine; decide, fun p hp => ?_⟩
    refine ⟨32, rfl, by decide, by decide, for_range (lo := 0) (n := 32) (fun i σ H' => ∃ v : Option V, σ = [some (.ref a), some (.ref p), v] ∧ Same H H' ∧ H' p = some (.lst ((smooths rs i).map V.int))) ⟨none, rfl, same_new hp, upd_same⟩ ?_ ?_⟩
    · rintro i σ H1 hi ⟨v, rfl, sm, h1⟩
      refine ⟨_, rfl, .inl ⟨rfl, _, SqL.of h1⟩, _, rfl, _, rfl, _, rfl, _, rfl, _, _, rfl, rfl, _, rfl, a, _, rfl, sm.seq hs, fun r hr2 => ?_⟩
      rw [cut_63 hl hi]
      refine ⟨r, _, rfl, SqL.of upd_same, ?_, fun H2 s2 => ?_⟩
      · rw [List.length_take, List.length_drop]
        omega
      · have h2 : H2 p = some (.lst ((smooths rs i).map V.int)) := s2 p _ ((upd_ne (ne_of_none h1 hr2)).trans h1)
        refine ⟨p, _, _, rfl, rfl, h2, len31 ?_, some (.int (0 + i)), rfl, ?_, ?_⟩
        · unfold smooths
          rw [List.length_map, List.length_map, List.length_range]
          omega
        · intro b o eb
          rw [upd_ne (ne_of_none eb hp)]
          exact s2 b o ((same_new hr2) b o (sm b o eb))
        · rw [upd_same]
          unfold smooths
          rw [List.range_succ, List.map_append, List.map_append]
          rfl
    · rintro σ H1 ⟨v, rfl, sm, h1⟩
      exact ⟨_, rfl, q _ _ sm hp h1⟩

/-! ### last_ones -/
def spLastOnes (K : PySem.W.Frag) : Sp := fun vs H Q _ => ∃ (a : Addr) (l : List Int), vs = [.ref a] ∧ SqL K H a (l.map V.int) ∧ ∀ p, H p = none → Q (.ref p) (upd H p (.lst ((lastOnes l).map V.int)))
theorem scLastOnes : FnScope ["readings"] ["readings"] (defScope sLastOnes) := ⟨rfl, rfl, rfl, by decide +kernel, rfl, by decide +kernel, by decide +kernel⟩
theorem cut_last {l : List Int} (h : 94 < l.length) : cutV (l.map V.int) (some ((l.length : Int) - 94)) none = (lastOnes l).map V.int := by
  unfold cutV lastOnes
  have e1 : (l.length : Int) - 94 = ((l.length - 94 : Nat) : Int) := by omega
  rw [e1, HT.sIx_nat, HT.sIx_none, List.length_map]
  have e3 : min (l.length - 94) l.length = l.length - 94 := by omega
  rw [e3, ← List.map_drop, ← List.map_take, List.take_of_length_le]
  rw [List.length_drop]
  omega
theorem okLastOnes (F : Fun K "last_ones" "last_ones" sLastOnes f fd) (bL : mg "len" = none) (bT : mg "list" = none) (c1 : GI mg "NEEDED" 94) : FnOk P w K mg base CX0 1 f fd ["readings"] (spLastOnes K) := by
  refine F.ok scLastOnes (fun vs H Q E h => ?_) (fun cdv A outer s H vs Q E hr h => ?_)
  · obtain ⟨a, ns, rfl, _⟩ := h
    rfl
  · refine ⟨_, pss_cons (ps_if (pt_cmpR op_le (pe_callB call_len_seq (by rfl) bL PySem.boot_len (pa_cons (pv 0) pa_nil)) (pe_gi c1) (nomark _))
        (pss_one (ps_ret (pe_callTy call_list_of (by rfl) bT (by decide +kernel) (pa_cons (pv 0) pa_nil)))) pss_nil)
      (pss_one (ps_ret (pe_slice sl_list (pv 0) (po_some (pe_op op_sub (pe_callB call_len_seq (by rfl) bL PySem.boot_len (pa_cons (pv 0) pa_nil)) (pe_gi c1))) po_none))), ?_⟩
    obtain ⟨a, l, rfl, hs, q⟩ := h
    refine ⟨_, rfl, a, _, rfl, .inl hs, _, _, rfl, rfl, _, rfl, ?_⟩
    by_cases c : l.length ≤ 94
    · rw [decide_eq_true (show (((l.map V.int).length : Nat) : Int) ≤ 94 by rw [List.length_map]; omega)]
      refine iteT ⟨_, rfl, a, _, rfl, .inl hs, fun p hp => ?_⟩
      have e : lastOnes l = l := by
        unfold lastOnes
        rw [show l.length - 94 = 0 by omega]
        rfl
      have q2 := q p hp
      rw [e] at q2
      exact q2
    · rw [decide_eq_false (show ¬ (((l.map V.int).length : Nat) : Int) ≤ 94 by rw [List.length_map]; omega)]
      refine iteF ⟨_, rfl, _, rfl, a, _, rfl, .inl hs, _, _, rfl, rfl, _, rfl, a, _, rfl, hs, fun p hp => ?_⟩
      rw [List.length_map, cut_last (by omega)]
      exact q p hp
end
end Steady

/-! # Steady4: the module weights, def by def -/
namespace Steady
open PySem PySem.Spec PyProof.Rows L2

abbrev sSetInit : Stmt := inClass (top 17) 0
abbrev sAreSettings : Stmt := top 19
abbrev sNearest : Stmt := top 20
abbrev sWeight : Stmt := top 21
abbrev sStill : Stmt := top 22
abbrev sUnder : Stmt := top 23
abbrev sOver : Stmt := top 24

/-! ### a Setting in the heap -/
def sF (q : S4) : List (Str × V) := [("zero", .int q.zero), ("span", .int q.span), ("most", .int q.most), ("window", .int q.window)]
def SetAt (CS : Addr) (H : Hp) (a : Addr) (q : S4) : Prop := ∃ dx, H a = some (.ins CS dx (sF q))
theorem lk_here {k : Str} {v : V} {r : List (Str × V)} : List.lookup k ((k, v) :: r) = some v := by
  have e : (k == k) = true := beq_self_eq_true k
  simp only [List.lookup, e]
theorem lk_past {k g : Str} {v : V} {r : List (Str × V)} (h : (k == g) = false) : List.lookup k ((g, v) :: r) = List.lookup k r := by
  simp only [List.lookup, h]
theorem put_here {f : Str} {v x : V} {r : List (Str × V)} : putF f v ((f, x) :: r) = (f, v) :: r := if_pos rfl
theorem put_past {f g : Str} {v x : V} {r : List (Str × V)} (h : ¬ g = f) : putF f v ((g, x) :: r) = (g, x) :: putF f v r := if_neg h
theorem sF_zero (q : S4) : (sF q).lookup ("zero" : Str) = some (.int q.zero) := lk_here
theorem sF_span (q : S4) : (sF q).lookup ("span" : Str) = some (.int q.span) := (lk_past (by decide +kernel)).trans lk_here
theorem sF_most (q : S4) : (sF q).lookup ("most" : Str) = some (.int q.most) := (lk_past (by decide +kernel)).trans ((lk_past (by decide +kernel)).trans lk_here)
theorem sF_window (q : S4) : (sF q).lookup ("window" : Str) = some (.int q.window) :=
  (lk_past (by decide +kernel)).trans ((lk_past (by decide +kernel)).trans ((lk_past (by decide +kernel)).trans lk_here))
theorem sF_new (z s m w : Int) : putF "window" (.int w) (putF "most" (.int m) (putF "span" (.int s) (putF "zero" (.int z) []))) = sF ⟨z, s, m, w⟩ := by
  have e1 : putF "zero" (.int z) [] = ([("zero", .int z)] : List (Str × V)) := rfl
  have e2 : putF "span" (.int s) ([("zero", .int z)] : List (Str × V)) = ([("zero", .int z), ("span", .int s)] : List (Str × V)) := (put_past (by decide +kernel)).trans rfl
  have e3 : putF "most" (.int m) ([("zero", .int z), ("span", .int s)] : List (Str × V)) = ([("zero", .int z), ("span", .int s), ("most", .int m)] : List (Str × V)) :=
    (put_past (by decide +kernel)).trans (congrArg _ ((put_past (by decide +kernel)).trans rfl))
  have e4 : putF "window" (.int w) ([("zero", .int z), ("span", .int s), ("most", .int m)] : List (Str × V)) = sF ⟨z, s, m, w⟩ :=
    (put_past (by decide +kernel)).trans (congrArg _ ((put_past (by decide +kernel)).trans (congrArg _ ((put_past (by decide +kernel)).trans rfl))))
  rw [e1, e2, e3, e4]
/-- what the top has written of Setting -/
structure TxtS (K : PySem.W.Frag) (CS : Addr) : Prop where
  cl : Cls K CS
  n1 : NoAttr K CS "zero"
  n2 : NoAttr K CS "span"
  n3 : NoAttr K CS "most"
  n4 : NoAttr K CS "window"

section
variable {P : Program} {w : World} {K : PySem.W.Frag} {mg : Str → Option Value} {base : Heap} {f : Addr} {fd : FuncData} {CS : Addr}

/-! ### Setting.__init__ -/
def spSetInit (CS : Addr) : Sp := fun vs H Q _ => ∃ (p dx : Addr) (q : S4), vs = [.ref p, .int q.zero, .int q.span, .int q.most, .int q.window] ∧ H p = some (.ins CS dx []) ∧
  ∀ H', SetAt CS H' p q → Off p H H' → Q .non H'
theorem scSetInit : FnScope ["self", "zero", "span", "most", "window"] ["self", "zero", "span", "most", "window"] (defScope sSetInit) := ⟨rfl, rfl, rfl, by decide +kernel, rfl, by decide +kernel, by decide +kernel⟩
theorem okSetInit (F : Fun K "__init__" "Setting.__init__" sSetInit f fd) (T : TxtS K CS) : FnOk P w K mg base CX0 1 f fd ["self", "zero", "span", "most", "window"] (spSetInit CS) := by
  refine F.ok scSetInit (fun vs H Q E h => ?_) (fun cdv A outer s H vs Q E hr h => ?_)
  · obtain ⟨p, dx, q, rfl, _⟩ := h
    rfl
  · refine ⟨_, pss_cons (ps_fld (pv 0) (pv 1) rfl) (pss_cons (ps_fld (pv 0) (pv 2) rfl) (pss_cons (ps_fld (pv 0) (pv 3) rfl) (pss_one (ps_fld (pv 0) (pv 4) rfl)))), ?_⟩
    obtain ⟨p, dx, q, rfl, hp, k⟩ := h
    refine ⟨_, rfl, _, rfl, p, CS, dx, _, rfl, hp, T.cl, T.n1, (by show 0 < 1000; decide), ?_⟩
    refine ⟨_, rfl, _, rfl, p, CS, dx, _, rfl, upd_same, T.cl, T.n2, (by show 1 < 1000; decide), ?_⟩
    refine ⟨_, rfl, _, rfl, p, CS, dx, _, rfl, upd_same, T.cl, T.n3, (by show 2 < 1000; decide), ?_⟩
    refine ⟨_, rfl, _, rfl, p, CS, dx, _, rfl, upd_same, T.cl, T.n4, (by show 3 < 1000; decide), ?_⟩
    refine k _ ⟨dx, upd_same.trans (congrArg (fun z => some (HO.ins CS dx z)) (sF_new q.zero q.span q.most q.window))⟩ fun b o e hb => ?_
    rw [upd_ne hb, upd_ne hb, upd_ne hb, upd_ne hb]
    exact e

/-! ### are_settings -/
def spAreSettings (K : PySem.W.Frag) : Sp := fun vs H Q _ => ∃ (a : Addr) (q : S4), vs = [.ref a] ∧ SqL K H a [.int q.zero, .int q.span, .int q.most, .int q.window] ∧ ∀ H', Same H H' → Q (.bl (decide (OkS q))) H'
theorem scAreSettings : FnScope ["numbers", "number", "share"] ["numbers"] (defScope sAreSettings) := ⟨rfl, rfl, rfl, by decide +kernel, rfl, by decide +kernel, by decide +kernel⟩
/-- the first i numbers may be set -/
def ok1 (q : S4) : Nat → Prop
  | 0 => True
  | 1 => -4194304 ≤ q.zero ∧ q.zero ≤ 4194304
  | 2 => (-4194304 ≤ q.zero ∧ q.zero ≤ 4194304) ∧ (1000 ≤ q.span ∧ q.span ≤ 8388608)
  | 3 => (-4194304 ≤ q.zero ∧ q.zero ≤ 4194304) ∧ (1000 ≤ q.span ∧ q.span ≤ 8388608) ∧ (100 ≤ q.most ∧ q.most ≤ 100000)
  | _ => OkS q
theorem ok1_of {q : S4} (i : Nat) (h : OkS q) : ok1 q i := by
  obtain ⟨a, b, c, d⟩ := h
  match i with
  | 0 => exact trivial
  | 1 => exact a
  | 2 => exact ⟨a, b⟩
  | 3 => exact ⟨a, b, c⟩
  | _ + 4 => exact ⟨a, b, c, d⟩
/-- the body's reading -/
def tShare (K : PySem.W.Frag) : TS :=
  tIfS (tOr (tTest (tOp (rI0 fun i j => .bl (decide (i < j))) (tVar 1) (tOp (rIxT K) (tVar 2) (tC (.int 0))))) (tTest (tOp (rI0 fun i j => .bl (decide (j < i))) (tVar 1) (tOp (rIxT K) (tVar 2) (tC (.int 1)))))) (tRet (tC (.bl false))) tNext
/-- a turn: number n, share (lo, hi) -/
theorem turnS {K : PySem.W.Frag} {a p T : Addr} {n lo hi : Int} {v1 v2 : Option V} {H1 : Hp} {D : Ends} (tp : TupK K p [.int lo, .int hi])
    (hf : ¬ (lo ≤ n ∧ n ≤ hi) → D.rt (.bl false) (upd H1 T (.tup [.int n, .ref p]))) (hg : lo ≤ n ∧ n ≤ hi → D.nx [some (.ref a), some (.int n), some (.ref p)] (upd H1 T (.tup [.int n, .ref p]))) :
    gTup K 2 (gCons (gName 1) (gCons (gName 2) gNil)) (.ref T) [some (.ref a), v1, v2] (upd H1 T (.tup [.int n, .ref p])) (tShare K D) := by
  refine ⟨T, _, rfl, SqT.of upd_same, rfl, _, _, rfl, _, _, rfl, rfl, ?_⟩
  refine ⟨_, rfl, _, rfl, p, _, _, _, rfl, rfl, tp.sq _, rfl, _, _, rfl, rfl, _, rfl, ?_⟩
  by_cases c : n < lo
  · refine if_t (decide_eq_true c) ?_
    exact hf (by omega)
  · refine if_f (decide_eq_false c) ⟨_, rfl, _, rfl, p, _, _, _, rfl, rfl, tp.sq _, rfl, _, _, rfl, rfl, _, rfl, ?_⟩
    by_cases d : hi < n
    · exact if_t (decide_eq_true d) (hf (by omega))
    · exact if_f (decide_eq_false d) (hg (by omega))
theorem okAreSettings (F : Fun K "are_settings" "are_settings" sAreSettings f fd) (bZ : mg "zip" = none) {SH s1 s2 s3 s4 : Addr} (gS : mg "SHARES" = some (.ref SH)) (tS : TupK K SH [.ref s1, .ref s2, .ref s3, .ref s4])
    (t1 : TupK K s1 [.int (-4194304), .int 4194304]) (t2 : TupK K s2 [.int 1000, .int 8388608]) (t3 : TupK K s3 [.int 100, .int 100000]) (t4 : TupK K s4 [.int 1, .int 1048576]) :
    FnOk P w K mg base CX0 1 f fd ["numbers"] (spAreSettings K) := by
  refine F.ok scAreSettings (fun vs H Q E h => ?_) (fun cdv A outer s H vs Q E hr h => ?_)
  · obtain ⟨a, q, rfl, _⟩ := h
    rfl
  · refine ⟨_, pss_cons (ps_for PassesOwn.never rfl (pi_zipM (by rfl) bZ (pa_cons (pv 0) (pa_cons (pe_glob (v := .ref SH) rfl gS rfl) pa_nil)))
        (pg_tup rfl (pgs_cons (pg_name (i := 1) scAreSettings.nd rfl (Or.inl rfl)) (pgs_cons (pg_name (i := 2) scAreSettings.nd rfl (Or.inl rfl)) pgs_nil)))
        (pss_one (ps_if (PW.pt (pw_or (pt_cmpR op_lt (pv 1) (pe_ix ix_tup (pv 2) pe_int (fun _ _ => rfl)) (nomark _)) (pw_or1 (pt_cmpR op_gt (pv 1) (pe_ix ix_tup (pv 2) pe_int (fun _ _ => rfl)) (nomark _)))))
          (pss_one (ps_ret pe_bl)) pss_nil)))
      (pss_one (ps_ret pe_bl)), ?_⟩
    obtain ⟨a, q, rfl, hs, k⟩ := h
    have no : ∀ {H' : Hp}, Same H H' → ¬ OkS q → Q (.bl false) H' := fun {H'} sm c => by
      have z := k H' sm
      rw [decide_eq_false c] at z
      exact z
    refine ⟨_, rfl, a, SH, _, _, rfl, ⟨hs, tS.sq _⟩, for_it (walk_M (K := K) (a := a) (b := SH) (xs := [.int q.zero, .int q.span, .int q.most, .int q.window]) (ys := [.ref s1, .ref s2, .ref s3, .ref s4]) rfl)
      (fun i σ H' => ∃ v1 v2 : Option V, σ = [some (.ref a), v1, v2] ∧ Same H H' ∧ ok1 q i) ⟨none, none, rfl, Same.refl H, trivial⟩ (fun i σ H' _ ⟨_, _, _, sm, _⟩ => ⟨sm.seq hs, tS.sq _⟩) ?_ ?_⟩
    · rintro i x σ H1 H2 hi ⟨v1, v2, rfl, sm, hok⟩ ⟨T, x1, x2, rfl, hT, rfl, e1, e2⟩
      have sm2 : ∀ o, Same H (upd H1 T o) := fun o => sm.trans (same_new hT)
      have hi' : i < 4 := hi
      have four : i = 0 ∨ i = 1 ∨ i = 2 ∨ i = 3 := by omega
      rcases four with rfl | rfl | rfl | rfl
      · obtain rfl : V.int q.zero = x1 := Option.some.inj e1
        obtain rfl : V.ref s1 = x2 := Option.some.inj e2
        exact turnS t1 (fun c => no (sm2 _) fun z => c z.1) fun c => ⟨_, _, rfl, sm2 _, c⟩
      · obtain rfl : V.int q.span = x1 := Option.some.inj e1
        obtain rfl : V.ref s2 = x2 := Option.some.inj e2
        exact turnS t2 (fun c => no (sm2 _) fun z => c z.2.1) fun c => ⟨_, _, rfl, sm2 _, hok, c⟩
      · obtain rfl : V.int q.most = x1 := Option.some.inj e1
        obtain rfl : V.ref s3 = x2 := Option.some.inj e2
        exact turnS t3 (fun c => no (sm2 _) fun z => c z.2.2.1) fun c => ⟨_, _, rfl, sm2 _, hok.1, hok.2, c⟩
      · obtain rfl : V.int q.window = x1 := Option.some.inj e1
        obtain rfl : V.ref s4 = x2 := Option.some.inj e2
        exact turnS t4 (fun c => no (sm2 _) fun z => c z.2.2.2) fun c => ⟨_, _, rfl, sm2 _, hok.1, hok.2.1, hok.2.2, c⟩
    · rintro σ H1 ⟨v1, v2, rfl, sm, hok⟩
      have z := k H1 sm
      rw [decide_eq_true (show OkS q from hok)] at z
      exact z

/-! ### nearest -/
def spNearest : Sp := fun vs H Q _ => ∃ n b : Int, vs = [.int n, .int b] ∧ (0 < b ∧ b < 2 ^ 60) ∧ Q (.int ((2 * n + b) / (2 * b))) H
theorem scNearest : FnScope ["number", "by"] ["number", "by"] (defScope sNearest) := ⟨rfl, rfl, rfl, by decide +kernel, rfl, by decide +kernel, by decide +kernel⟩
theorem okNearest (F : Fun K "nearest" "nearest" sNearest f fd) : FnOk P w K mg base CX0 1 f fd ["number", "by"] spNearest := by
  refine F.ok scNearest (fun vs H Q E h => ?_) (fun cdv A outer s H vs Q E hr h => ?_)
  · obtain ⟨n, b, rfl, _⟩ := h
    rfl
  · refine ⟨_, pss_one (ps_ret (pe_op op_fdivW (pe_op op_add (pe_op op_mul pe_int (pv 0)) (pv 1)) (pe_op op_mul pe_int (pv 1)))), ?_⟩
    obtain ⟨n, b, rfl, ⟨h1, h2⟩, q⟩ := h
    have two : CMul 2 n := .inl ⟨by decide, by decide⟩
    have two' : CMul 2 b := .inl ⟨by decide, by decide⟩
    refine ⟨_, rfl, _, _, rfl, rfl, two, _, rfl, _, _, rfl, rfl, _, rfl, _, _, rfl, rfl, two', _, _, rfl, rfl, wide_div (b := 61) (by omega) (by omega) (by decide) (by decide), q⟩

/-! ### weight_of -/
def spWeight (CS : Addr) : Sp := fun vs H Q _ => ∃ (a : Addr) (q : S4) (y : Int), vs = [.ref a, .int y] ∧ SetAt CS H a q ∧ OkS q ∧ Q (.int (weightM q y)) H
theorem scWeight : FnScope ["setting", "smooth", "above"] ["setting", "smooth"] (defScope sWeight) := ⟨rfl, rfl, rfl, by decide +kernel, rfl, by decide +kernel, by decide +kernel⟩
theorem okWeight (F : Fun K "weight_of" "weight_of" sWeight f fd) (T : TxtS K CS) (c1 : GI mg "GAIN" 1024) {g : Addr} {gd : FuncData} (C : Cal P w K mg base "nearest" 1 g gd ["number", "by"] spNearest) :
    FnOk P w K mg base CX0 2 f fd ["setting", "smooth"] (spWeight CS) := by
  refine F.ok scWeight (fun vs H Q E h => ?_) (fun cdv A outer s H vs Q E hr h => ?_)
  · obtain ⟨a, q, y, rfl, _⟩ := h
    rfl
  · refine ⟨_, pss_cons (ps_set (i := 2) scWeight.nd rfl (Or.inl rfl) (pe_op op_sub (pv 1) (pe_op op_mul (pe_gi c1) (pe_fld (pv 0) rfl))))
      (pss_one (ps_ret (pe_call C.ok hr rfl C.g C.kp C.b .nil pass0 (pa_cons (pe_op op_mul (pv 2) (pe_fld (pv 0) rfl)) (pa_cons (pe_op op_mul (pe_gi c1) (pe_fld (pv 0) rfl)) pa_nil))))), ?_⟩
    obtain ⟨a, q, y, rfl, ⟨dx, ha⟩, ok, k⟩ := h
    have ok' := ok
    obtain ⟨_, ⟨b1, b2⟩, ⟨b3, b4⟩, _⟩ := ok'
    refine ⟨_, rfl, _, rfl, a, CS, dx, _, _, rfl, ha, T.cl, T.n1, sF_zero q, _, _, rfl, rfl, .inl ⟨by decide, by decide⟩, _, _, rfl, rfl, ?_⟩
    refine ⟨_, rfl, _, rfl, a, CS, dx, _, _, rfl, ha, T.cl, T.n3, sF_most q, _, _, rfl, rfl, .inr ⟨by omega, by omega⟩, ?_⟩
    refine ⟨_, rfl, a, CS, dx, _, _, rfl, ha, T.cl, T.n2, sF_span q, _, _, rfl, rfl, .inl ⟨by decide, by decide⟩, ?_⟩
    exact ⟨_, _, rfl, ⟨by omega, by omega⟩, k⟩

/-! ### is_still, is_under, is_over -/
def spStill (K : PySem.W.Frag) (CS : Addr) : Sp := fun vs H Q _ => ∃ (a p : Addr) (q : S4) (ys : List Int), vs = [.ref a, .ref p] ∧ SetAt CS H a q ∧ SqL K H p (ys.map V.int) ∧ 0 < ys.length ∧
  Q (.bl (decide (Kv190.greatest ys - Kv190.least ys ≤ 1024 * q.window))) H
theorem scStill : FnScope ["setting", "some"] ["setting", "some"] (defScope sStill) := ⟨rfl, rfl, rfl, by decide +kernel, rfl, by decide +kernel, by decide +kernel⟩
theorem okStill (F : Fun K "is_still" "is_still" sStill f fd) (T : TxtS K CS) (bX : mg "max" = none) (bN : mg "min" = none) (c1 : GI mg "GAIN" 1024) : FnOk P w K mg base CX0 1 f fd ["setting", "some"] (spStill K CS) := by
  refine F.ok scStill (fun vs H Q E h => ?_) (fun cdv A outer s H vs Q E hr h => ?_)
  · obtain ⟨a, p, q, y, rfl, _⟩ := h
    rfl
  · refine ⟨_, pss_one (ps_ret (pe_cmp (pc_le (pe_op op_sub (pe_callB (cr_max rfl) (by rfl) bX (by decide +kernel) (pa_cons (pv 1) pa_nil)) (pe_callB (cr_min rfl) (by rfl) bN (by decide +kernel) (pa_cons (pv 1) pa_nil)))
      (pe_op op_mul (pe_gi c1) (pe_fld (pv 0) rfl))) rfl)), ?_⟩
    obtain ⟨a, p, q, ys, rfl, ⟨dx, ha⟩, hs, hl, k⟩ := h
    refine ⟨_, rfl, p, ys, rfl, hs, hl, fun m m1 m2 => ?_⟩
    refine ⟨_, rfl, p, ys, rfl, hs, hl, fun n n1 n2 => ?_⟩
    refine ⟨_, _, rfl, rfl, _, rfl, a, CS, dx, _, _, rfl, ha, T.cl, T.n4, sF_window q, _, _, rfl, rfl, .inl ⟨by decide, by decide⟩, _, _, rfl, rfl, ?_⟩
    rw [greatest_of m1 m2, least_of n1 n2]
    exact k

def spUnder : Sp := fun vs H Q _ => ∃ n : Int, vs = [.int n] ∧ Q (.bl (decide (n < -20))) H
theorem scUnder : FnScope ["weight"] ["weight"] (defScope sUnder) := ⟨rfl, rfl, rfl, by decide +kernel, rfl, by decide +kernel, by decide +kernel⟩
theorem okUnder (F : Fun K "is_under" "is_under" sUnder f fd) (c1 : GI mg "LOWEST" (-20)) : FnOk P w K mg base CX0 1 f fd ["weight"] spUnder := by
  refine F.ok scUnder (fun vs H Q E h => ?_) (fun cdv A outer s H vs Q E hr h => ?_)
  · obtain ⟨n, rfl, _⟩ := h
    rfl
  · refine ⟨_, pss_one (ps_ret (pe_cmp (pc_lt (pv 0) (pe_gi c1)) rfl)), ?_⟩
    obtain ⟨n, rfl, q⟩ := h
    exact ⟨_, rfl, _, _, rfl, rfl, q⟩
def spOver (CS : Addr) : Sp := fun vs H Q _ => ∃ (a : Addr) (q : S4) (n : Int), vs = [.ref a, .int n] ∧ SetAt CS H a q ∧ Q (.bl (decide (q.most + 9 < n))) H
theorem scOver : FnScope ["setting", "weight"] ["setting", "weight"] (defScope sOver) := ⟨rfl, rfl, rfl, by decide +kernel, rfl, by decide +kernel, by decide +kernel⟩
theorem okOver (F : Fun K "is_over" "is_over" sOver f fd) (T : TxtS K CS) (c1 : GI mg "BEYOND" 9) : FnOk P w K mg base CX0 1 f fd ["setting", "weight"] (spOver CS) := by
  refine F.ok scOver (fun vs H Q E h => ?_) (fun cdv A outer s H vs Q E hr h => ?_)
  · obtain ⟨a, q, n, rfl, _⟩ := h
    rfl
  · refine ⟨_, pss_one (ps_ret (pe_cmp (pc_gt (pv 1) (pe_op op_add (pe_fld (pv 0) rfl) (pe_gi c1))) rfl)), ?_⟩
    obtain ⟨a, q, n, rfl, ⟨dx, ha⟩, k⟩ := h
    exact ⟨_, rfl, _, rfl, a, CS, dx, _, _, rfl, ha, T.cl, T.n3, sF_most q, _, _, rfl, rfl, _, _, rfl, rfl, k⟩
end
end Steady

/-! # Steady5: the module cell, def by def -/
namespace Steady
open PySem PySem.Spec PyProof.Rows L2

abbrev sCellInit : Stmt := inClass (top 27) 0
abbrev sBegin : Stmt := top 28
abbrev sHasBegun : Stmt := top 29
abbrev sTake : Stmt := top 30
abbrev sTold : Stmt := top 31

/-! ### a Cell in the heap -/
def cF (v : V) (l : Addr) : List (Str × V) := [("setting", v), ("readings", .ref l)]
theorem cF_setting (v : V) (l : Addr) : (cF v l).lookup ("setting" : Str) = some v := lk_here
theorem cF_readings (v : V) (l : Addr) : (cF v l).lookup ("readings" : Str) = some (.ref l) := (lk_past (by decide +kernel)).trans lk_here
theorem cF_new (v : V) (l : Addr) : putF "readings" (.ref l) (putF "setting" v []) = cF v l := (put_past (by decide +kernel)).trans rfl
theorem cF_put1 (v y : V) (l : Addr) : putF "setting" y (cF v l) = cF y l := put_here
theorem cF_put2 (v : V) (l k : Addr) : putF "readings" (.ref k) (cF v l) = cF v k := (put_past (by decide +kernel)).trans (congrArg _ put_here)
/-- the readings since -/
def rsOf : MS → List Int
  | none => []
  | some (_, rs) => rs
def SetV (CS : Addr) (H : Hp) (v : V) : MS → Prop
  | none => v = .non
  | some (q, rs) => ∃ s, v = .ref s ∧ SetAt CS H s q ∧ OkS q ∧ rs.length ≤ 94
/-- the cell c, whose readings stand at l, is m -/
def CellAt (CC CS : Addr) (H : Hp) (c l : Addr) (m : MS) : Prop := ∃ dx v, H c = some (.ins CC dx (cF v l)) ∧ H l = some (.lst ((rsOf m).map V.int)) ∧ SetV CS H v m
theorem SetV.off {CS f : Addr} {H H' : Hp} {v : V} {m : MS} {xs : List V} (h : SetV CS H v m) (o : Off f H H') (hf : H f = some (.lst xs)) : SetV CS H' v m := by
  cases m with
  | none => exact h
  | some p =>
    obtain ⟨s, rfl, ⟨dx, hs⟩, r⟩ := h
    exact ⟨s, rfl, ⟨dx, o _ _ hs (ne_of hs hf fun z => by cases z)⟩, r⟩
theorem CellAt.off {CC CS f c l : Addr} {H H' : Hp} {m : MS} {xs : List V} (h : CellAt CC CS H c l m) (o : Off f H H') (hf : H f = some (.lst xs)) (hl : l ≠ f) : CellAt CC CS H' c l m := by
  obtain ⟨dx, v, h1, h2, h3⟩ := h
  exact ⟨dx, v, o _ _ h1 (ne_of h1 hf fun z => by cases z), o _ _ h2 hl, h3.off o hf⟩
theorem CellAt.same {CC CS c l : Addr} {H H' : Hp} {m : MS} (h : CellAt CC CS H c l m) (o : Same H H') : CellAt CC CS H' c l m := by
  obtain ⟨dx, v, h1, h2, h3⟩ := h
  refine ⟨dx, v, o _ _ h1, o _ _ h2, ?_⟩
  cases m with
  | none => exact h3
  | some p =>
    obtain ⟨s, rfl, ⟨dx2, hs⟩, r⟩ := h3
    exact ⟨s, rfl, ⟨dx2, o _ _ hs⟩, r⟩
/-- what the top has written of Cell -/
structure TxtC (K : PySem.W.Frag) (CC : Addr) : Prop where
  cl : Cls K CC
  n1 : NoAttr K CC "setting"
  n2 : NoAttr K CC "readings"

section
variable {P : Program} {w : World} {K : PySem.W.Frag} {mg : Str → Option Value} {base : Heap} {f : Addr} {fd : FuncData} {CC CS : Addr}

/-! ### Cell.__init__ -/
def spCellInit (CC : Addr) : Sp := fun vs H Q _ => ∃ (p dx : Addr), vs = [.ref p] ∧ H p = some (.ins CC dx []) ∧
  ∀ H' l, H l = none → H' p = some (.ins CC dx (cF .non l)) → H' l = some (.lst []) → Off p H H' → Q .non H'
theorem scCellInit : FnScope ["self"] ["self"] (defScope sCellInit) := ⟨rfl, rfl, rfl, by decide +kernel, rfl, by decide +kernel, by decide +kernel⟩
theorem okCellInit (F : Fun K "__init__" "Cell.__init__" sCellInit f fd) (T : TxtC K CC) : FnOk P w K mg base CX0 1 f fd ["self"] (spCellInit CC) := by
  refine F.ok scCellInit (fun vs H Q E h => ?_) (fun cdv A outer s H vs Q E hr h => ?_)
  · obtain ⟨p, dx, rfl, _⟩ := h
    rfl
  · refine ⟨_, pss_cons (ps_fld (pv 0) pe_non rfl) (pss_one (ps_fld (pv 0) (pe_lst pa_nil) rfl)), ?_⟩
    obtain ⟨p, dx, rfl, hp, k⟩ := h
    refine ⟨_, rfl, p, CC, dx, _, rfl, hp, T.cl, T.n1, (by show 0 < 1000; decide), ?_⟩
    refine ⟨by show 0 ≤ sizeLine; decide, fun l hl => ?_⟩
    have np : l ≠ p := fun e => by
      rw [e, upd_same] at hl
      cases hl
    refine ⟨_, rfl, p, CC, dx, _, rfl, (upd_ne (Ne.symm np)).trans upd_same, T.cl, T.n2, (by show 1 < 1000; decide), ?_⟩
    refine k _ l ?_ (upd_same.trans (congrArg (fun z => some (HO.ins CC dx z)) (cF_new .non l))) ((upd_ne np).trans upd_same) fun b o e hb => ?_
    · rw [upd_ne np] at hl
      exact hl
    · have hbl : b ≠ l := fun z => by
        rw [z] at e
        rw [upd_ne np, e] at hl
        cases hl
      rw [upd_ne hb, upd_ne hbl, upd_ne hb]
      exact e

/-! ### begin -/
def spBegin (CC : Addr) : Sp := fun vs H Q _ => ∃ (c s dx l0 : Addr) (v : V), vs = [.ref c, .ref s] ∧ H c = some (.ins CC dx (cF v l0)) ∧
  ∀ H' l, H l = none → H' c = some (.ins CC dx (cF (.ref s) l)) → H' l = some (.lst []) → Off c H H' → Q .non H'
theorem scBegin : FnScope ["cell", "setting"] ["cell", "setting"] (defScope sBegin) := ⟨rfl, rfl, rfl, by decide +kernel, rfl, by decide +kernel, by decide +kernel⟩
theorem okBegin (F : Fun K "begin" "begin" sBegin f fd) (T : TxtC K CC) : FnOk P w K mg base CX0 1 f fd ["cell", "setting"] (spBegin CC) := by
  refine F.ok scBegin (fun vs H Q E h => ?_) (fun cdv A outer s H vs Q E hr h => ?_)
  · obtain ⟨c, s, dx, l0, v, rfl, _⟩ := h
    rfl
  · refine ⟨_, pss_cons (ps_fld (pv 0) (pv 1) rfl) (pss_one (ps_fld (pv 0) (pe_lst pa_nil) rfl)), ?_⟩
    obtain ⟨c, s, dx, l0, v, rfl, hc, k⟩ := h
    refine ⟨_, rfl, _, rfl, c, CC, dx, _, rfl, hc, T.cl, T.n1, (by show 2 < 1000; decide), ?_⟩
    refine ⟨by show 0 ≤ sizeLine; decide, fun l hl => ?_⟩
    have np : l ≠ c := fun e => by
      rw [e, upd_same] at hl
      cases hl
    refine ⟨_, rfl, c, CC, dx, _, rfl, (upd_ne (Ne.symm np)).trans upd_same, T.cl, T.n2, (by rw [cF_put1]; show 2 < 1000; decide), ?_⟩
    refine k _ l ?_ (upd_same.trans (congrArg (fun z => some (HO.ins CC dx z)) (by rw [cF_put1, cF_put2]))) ((upd_ne np).trans upd_same) fun b o e hb => ?_
    · rw [upd_ne np] at hl
      exact hl
    · have hbl : b ≠ l := fun z => by
        rw [z] at e
        rw [upd_ne np, e] at hl
        cases hl
      rw [upd_ne hb, upd_ne hbl, upd_ne hb]
      exact e

/-! ### has_begun -/
def spHasBegun (CC CS : Addr) : Sp := fun vs H Q _ => ∃ (c l : Addr) (m : MS), vs = [.ref c] ∧ CellAt CC CS H c l m ∧ Q (.bl m.isSome) H
theorem scHasBegun : FnScope ["cell"] ["cell"] (defScope sHasBegun) := ⟨rfl, rfl, rfl, by decide +kernel, rfl, by decide +kernel, by decide +kernel⟩
theorem okHasBegun (F : Fun K "has_begun" "has_begun" sHasBegun f fd) (T : TxtC K CC) : FnOk P w K mg base CX0 1 f fd ["cell"] (spHasBegun CC CS) := by
  refine F.ok scHasBegun (fun vs H Q E h => ?_) (fun cdv A outer s H vs Q E hr h => ?_)
  · obtain ⟨c, l, m, rfl, _⟩ := h
    rfl
  · refine ⟨_, pss_one (ps_ret (pe_cmp (pc_notN (pe_fld (pv 0) rfl)) rfl)), ?_⟩
    obtain ⟨c, l, m, rfl, ⟨dx, v, h1, h2, h3⟩, k⟩ := h
    refine ⟨_, rfl, c, CC, dx, _, _, rfl, h1, T.cl, T.n1, cF_setting v l, ?_⟩
    cases m with
    | none =>
      have e : v = .non := h3
      subst e
      exact k
    | some p =>
      obtain ⟨s, rfl, _⟩ := h3
      exact k

/-! ### take -/
def spTake (CC CS : Addr) : Sp := fun vs H Q _ => ∃ (c l a : Addr) (q : S4) (rs r : List Int), vs = [.ref c, .ref a] ∧ CellAt CC CS H c l (some (q, rs)) ∧ H a = some (.lst (r.map V.int)) ∧ r.length ≤ 1024 ∧
  ∀ H' l', H l' = none → CellAt CC CS H' c l' (some (q, lastOnes (rs ++ r))) → Off c H H' → Q .non H'
theorem scTake : FnScope ["cell", "row"] ["cell", "row"] (defScope sTake) := ⟨rfl, rfl, rfl, by decide +kernel, rfl, by decide +kernel, by decide +kernel⟩
theorem okTake (F : Fun K "take" "take" sTake f fd) (T : TxtC K CC) {g : Addr} {gd : FuncData} (C : Cal P w K mg base "last_ones" 1 g gd ["readings"] (spLastOnes K)) :
    FnOk P w K mg base CX0 2 f fd ["cell", "row"] (spTake CC CS) := by
  refine F.ok scTake (fun vs H Q E h => ?_) (fun cdv A outer s H vs Q E hr h => ?_)
  · obtain ⟨c, l, a, q, rs, r, rfl, _⟩ := h
    rfl
  · refine ⟨_, pss_one (ps_fld (pv 0) (pe_call C.ok hr rfl C.g C.kp C.b .nil pass0 (pa_cons (pe_op op_cat (pe_fld (pv 0) rfl) (pv 1)) pa_nil)) rfl), ?_⟩
    obtain ⟨c, l, a, q, rs, r, rfl, ⟨dx, v, h1, h2, h3⟩, ha, hl, k⟩ := h
    have hrs : rs.length ≤ 94 := by
      obtain ⟨_, _, _, _, z⟩ := h3
      exact z
    refine ⟨_, rfl, c, CC, dx, _, _, rfl, h1, T.cl, T.n2, cF_readings v l, _, rfl, l, a, _, _, rfl, rfl, h2, ha, ?_, fun p hp => ?_⟩
    · show (rs.map V.int).length + (r.map V.int).length ≤ sizeLine
      rw [List.length_map, List.length_map]
      exact Nat.le_of_lt (len31 (by omega))
    · refine ⟨p, rs ++ r, rfl, ?_, fun l' hl' => ?_⟩
      · rw [List.map_append]
        exact SqL.of upd_same
      · have np : l' ≠ p := fun e => by
          rw [e, upd_same] at hl'
          cases hl'
        have hl2 : H l' = none := by
          rw [upd_ne np] at hl'
          exact hl'
        have s2 : Same H (upd (upd H p (.lst (rs.map V.int ++ r.map V.int))) l' (.lst ((lastOnes (rs ++ r)).map V.int))) := (same_new hp).trans (same_new hl')
        have lc : l' ≠ c := Ne.symm (ne_of_none h1 hl2)
        refine ⟨_, rfl, c, CC, dx, _, rfl, s2 _ _ h1, T.cl, T.n2, (by show 2 < 1000; decide), ?_⟩
        rw [cF_put2]
        have off : Off c H (upd (upd (upd H p (.lst (rs.map V.int ++ r.map V.int))) l' (.lst ((lastOnes (rs ++ r)).map V.int))) c (.ins CC dx (cF v l'))) := Off.of s2 Off.upd
        refine k _ l' hl2 ⟨dx, v, upd_same, ?_, ?_⟩ off
        · rw [upd_ne lc, upd_same]
          rfl
        · obtain ⟨s, rfl, ⟨dx2, hs⟩, o, _⟩ := h3
          refine ⟨s, rfl, ⟨dx2, off _ _ hs (ne_of hs h1 fun z => by cases z)⟩, o, ?_⟩
          rw [lastOnes_len]
          omega

/-! ### told -/
def spTold (CC CS : Addr) : Sp := fun vs H Q _ => ∃ (c l : Addr) (q : S4) (rs : List Int), vs = [.ref c] ∧ CellAt CC CS H c l (some (q, rs)) ∧
  ∀ H' p, Same H H' → H p = none → H' p = some (.lst ((toldM q rs).map V.int)) → Q (.ref p) H'
theorem scTold : FnScope ["cell", "some", "weight", "still"] ["cell"] (defScope sTold) := ⟨rfl, rfl, rfl, by decide +kernel, rfl, by decide +kernel, by decide +kernel⟩
theorem last_smooth (rs : List Int) : atI ((smooths rs 32).map V.int) (-1) = some (.int (smAt rs 31)) := by
  unfold smooths
  rw [List.range_succ, List.map_append, List.map_append]
  exact atI_last _ _
theorem flag_is (b : Bool) : flag b = if b then 1 else 0 := rfl
theorem okTold (F : Fun K "told" "told" sTold f fd) (T : TxtC K CC) (bL : mg "len" = none) (bT : mg "list" = none) (bI : mg "int" = none) (c1 : GI mg "NEEDED" 94)
    {NO : Addr} (gN : mg "NOTHING" = some (.ref NO)) (tN : TupK K NO [.int 0, .int 0, .int 0, .int 0, .int 0])
    {g1 g2 g3 g4 g5 : Addr} {d1 d2 d3 d4 d5 : FuncData} (C1 : Cal P w K mg base "last_smooth_ones" 3 g1 d1 ["readings"] (spLastSmooth K)) (C2 : Cal P w K mg base "weight_of" 2 g2 d2 ["setting", "smooth"] (spWeight CS))
    (C3 : Cal P w K mg base "is_still" 1 g3 d3 ["setting", "some"] (spStill K CS)) (C4 : Cal P w K mg base "is_under" 1 g4 d4 ["weight"] spUnder) (C5 : Cal P w K mg base "is_over" 1 g5 d5 ["setting", "weight"] (spOver CS)) :
    FnOk P w K mg base CX0 4 f fd ["cell"] (spTold CC CS) := by
  refine F.ok scTold (fun vs H Q E h => ?_) (fun cdv A outer s H vs Q E hr h => ?_)
  · obtain ⟨c, l, q, rs, rfl, _⟩ := h
    rfl
  · have hr1 : Room 1 _ := hr.mono (by decide)
    have hr2 : Room 2 _ := hr.mono (by decide)
    refine ⟨_, pss_cons (ps_if (pt_cmpR op_lt (pe_callB call_len_seq (by rfl) bL PySem.boot_len (pa_cons (pe_fld (pv 0) rfl) pa_nil)) (pe_gi c1) (nomark _))
        (pss_one (ps_ret (pe_callTy call_list_of (by rfl) bT (by decide +kernel) (pa_cons (pe_glob (v := .ref NO) rfl gN rfl) pa_nil)))) pss_nil)
      (pss_cons (ps_set (i := 1) scTold.nd rfl (Or.inl rfl) (pe_call C1.ok hr rfl C1.g C1.kp C1.b .nil pass0 (pa_cons (pe_fld (pv 0) rfl) pa_nil)))
      (pss_cons (ps_set (i := 2) scTold.nd rfl (Or.inl rfl) (pe_call C2.ok hr2 rfl C2.g C2.kp C2.b .nil pass0 (pa_cons (pe_fld (pv 0) rfl) (pa_cons (pe_ix ix_list (pv 1) (pe_un un_neg pe_int) (fun _ _ => rfl)) pa_nil))))
      (pss_cons (ps_set (i := 3) scTold.nd rfl (Or.inl rfl) (pe_callTy call_int1 (by rfl) bI (by decide +kernel) (pa_cons (pe_call C3.ok hr1 rfl C3.g C3.kp C3.b .nil pass0 (pa_cons (pe_fld (pv 0) rfl) (pa_cons (pv 1) pa_nil))) pa_nil)))
      (pss_one (ps_ret (pe_lst (pa_cons (pv 2) (pa_cons pe_int (pa_cons (pv 3)
        (pa_cons (pe_callTy call_int1 (by rfl) bI (by decide +kernel) (pa_cons (pe_call C4.ok hr1 rfl C4.g C4.kp C4.b .nil pass0 (pa_cons (pv 2) pa_nil)) pa_nil))
        (pa_cons (pe_callTy call_int1 (by rfl) bI (by decide +kernel) (pa_cons (pe_call C5.ok hr1 rfl C5.g C5.kp C5.b .nil pass0 (pa_cons (pe_fld (pv 0) rfl) (pa_cons (pv 2) pa_nil))) pa_nil)) pa_nil))))))))))), ?_⟩
    obtain ⟨c, l, q, rs, rfl, ⟨dx, v, h1, h2, h3⟩, k⟩ := h
    refine ⟨_, rfl, c, CC, dx, _, _, rfl, h1, T.cl, T.n2, cF_readings v l, l, _, rfl, .inl (SqL.of h2), _, _, rfl, rfl, _, rfl, ?_⟩
    have hlen : (((rsOf (some (q, rs))).map V.int).length : Int) = (rs.length : Int) := by
      rw [List.length_map]
      rfl
    by_cases cl : rs.length < 94
    · refine if_t (decide_eq_true (by rw [hlen]; omega)) ⟨NO, _, rfl, .inr (tN.sq _), fun p hp => ?_⟩
      refine k _ p (same_new hp) hp ?_
      rw [upd_same]
      have e : toldM q rs = [0, 0, 0, 0, 0] := if_pos cl
      rw [e]
      rfl
    · refine if_f (decide_eq_false (by rw [hlen]; omega)) ?_
      obtain ⟨st, rfl, ⟨dx2, hs⟩, ok, hle⟩ := h3
      have hrs : rs.length = 94 := by
        have z : rs.length ≤ 94 := hle
        omega
      refine ⟨_, rfl, c, CC, dx, _, _, rfl, h1, T.cl, T.n2, cF_readings _ l, l, rs, rfl, SqL.of h2, hrs, fun H1 p1 s1 np hp1 => ?_⟩
      have hc1 := s1 _ _ h1
      refine ⟨_, rfl, c, CC, dx, _, _, rfl, hc1, T.cl, T.n1, cF_setting _ l, _, rfl, _, rfl, p1, _, _, _, rfl, rfl, SqL.of hp1, last_smooth rs, ?_⟩
      refine ⟨st, q, _, rfl, ⟨dx2, s1 _ _ hs⟩, ok, ?_⟩
      refine ⟨_, rfl, c, CC, dx, _, _, rfl, hc1, T.cl, T.n1, cF_setting _ l, _, rfl, ?_⟩
      refine ⟨st, p1, q, smooths rs 32, rfl, ⟨dx2, s1 _ _ hs⟩, SqL.of hp1, ?_, ?_⟩
      · unfold smooths
        rw [List.length_map, List.length_range]
        decide
      refine .inr ⟨_, rfl, ?_⟩
      refine ⟨_, rfl, _, rfl, _, rfl, _, rfl, .inr ⟨_, rfl, ?_⟩⟩
      refine ⟨_, rfl, c, CC, dx, _, _, rfl, hc1, T.cl, T.n1, cF_setting _ l, _, rfl, st, q, _, rfl, ⟨dx2, s1 _ _ hs⟩, .inr ⟨_, rfl, ?_⟩⟩
      refine ⟨by show 5 ≤ sizeLine; decide, fun p hp => ?_⟩
      refine k _ p (s1.trans (same_new hp)) (s1.free hp) ?_
      rw [upd_same]
      have e : toldM q rs = _ := if_neg cl
      rw [e]
      rfl
end
end Steady

/-! # Steady6: the module pan, def by def -/
namespace Steady
open PySem PySem.Spec PyProof.Rows L2

abbrev sStart : Stmt := top 38
abbrev sFeed : Stmt := top 39
abbrev sCallEnd : Stmt := top 40
abbrev sAnswer : Stmt := top 41
abbrev sAnswers : Stmt := top 42

section
variable {P : Program} {w : World} {K : PySem.W.Frag} {mg : Str → Option Value} {base : Heap} {f : Addr} {fd : FuncData} {CC CS : Addr}

/-- what a call leaves: the cell, the answer at p, all else as it was -/
def Left (CC CS : Addr) (H : Hp) (c l : Addr) (m : MS) (o : List Int) (Q : VK) : Prop :=
  ∀ H' p l', H p = none → (l' = l ∨ H l' = none) → CellAt CC CS H' c l' m → H' p = some (.lst (o.map V.int)) → Off c H H' → Q (.ref p) H'
/-- a call that leaves the cell as it is -/
theorem Left.as {H H' : Hp} {c l p : Addr} {m : MS} {o : List Int} {Q : VK} (k : Left CC CS H c l m o Q) (h : CellAt CC CS H c l m) (s : Same H H') (hp : H p = none) (e : H' p = some (.lst (o.map V.int))) : Q (.ref p) H' :=
  k H' p l hp (.inl rfl) (h.same s) e fun b u z _ => s b u z

/-! ### start -/
def spStart (K : PySem.W.Frag) (CC CS : Addr) : Sp := fun vs H Q _ => ∃ (c l a : Addr) (m : MS) (q : S4), vs = [.ref c, .ref a] ∧ CellAt CC CS H c l m ∧ SqL K H a [.int q.zero, .int q.span, .int q.most, .int q.window] ∧
  Left CC CS H c l (startM m q).1 (startM m q).2 Q
theorem scStart : FnScope ["cell", "numbers", "zero", "span", "most", "window"] ["cell", "numbers"] (defScope sStart) := ⟨rfl, rfl, rfl, by decide +kernel, rfl, by decide +kernel, by decide +kernel⟩
theorem okStart (F : Fun K "start" "start" sStart f fd) (c1 : GI mg "OUT_OF_RANGE" (-22)) (gS : mg "Setting" = some (.ref CS)) {g1 g2 g3 : Addr} {d1 d2 d3 : FuncData}
    (C1 : Cal P w K mg base "are_settings" 1 g1 d1 ["numbers"] (spAreSettings K)) (C2 : Cal P w K mg base "begin" 1 g2 d2 ["cell", "setting"] (spBegin CC))
    (M : Mk K CS g3) (GI : FnOk P w K mg base CX0 1 g3 d3 ["self", "zero", "span", "most", "window"] (spSetInit CS)) (bI : Binds K d3 ["self", "zero", "span", "most", "window"] []) :
    FnOk P w K mg base CX0 3 f fd ["cell", "numbers"] (spStart K CC CS) := by
  refine F.ok scStart (fun vs H Q E h => ?_) (fun cdv A outer s H vs Q E hr h => ?_)
  · obtain ⟨c, l, a, m, q, rfl, _⟩ := h
    rfl
  · have hr1 : Room 1 _ := hr.mono (by decide)
    refine ⟨_, pss_cons (ps_if (pt_not (pt_val (pe_call C1.ok hr1 rfl C1.g C1.kp C1.b .nil pass0 (pa_cons (pv 1) pa_nil)))) (pss_one (ps_ret (pe_lst (pa_cons (pe_gi c1) pa_nil)))) pss_nil)
      (pss_cons (ps_asg (pv 1) (pg_unl rfl (pgs_cons (pg_name (i := 2) scStart.nd rfl (Or.inl rfl)) (pgs_cons (pg_name (i := 3) scStart.nd rfl (Or.inl rfl)) (pgs_cons (pg_name (i := 4) scStart.nd rfl (Or.inl rfl)) (pgs_cons (pg_name (i := 5) scStart.nd rfl (Or.inl rfl)) pgs_nil))))))
      (pss_cons (ps_expr (pe_call C2.ok hr1 rfl C2.g C2.kp C2.b .nil pass0 (pa_cons (pv 0) (pa_cons
        (pe_make M GI hr rfl gS bI .nil pass0 (pa_cons (pv 2) (pa_cons (pv 3) (pa_cons (pv 4) (pa_cons (pv 5) pa_nil))))) pa_nil))))
      (pss_one (ps_ret (pe_lst (pa_cons pe_int pa_nil)))))), ?_⟩
    obtain ⟨c, l, a, m, q, rfl, hc, hs, k⟩ := h
    refine ⟨_, rfl, a, q, rfl, hs, fun H1 s1 => ⟨_, rfl, ?_⟩⟩
    by_cases ok : OkS q
    · refine if_f (by rw [decide_eq_true ok]; rfl) ?_
      have e : startM m q = (some (q, []), [0]) := if_pos ok
      rw [e] at k
      refine ⟨_, rfl, a, _, rfl, s1.seq hs, rfl, _, _, rfl, _, _, rfl, _, _, rfl, _, _, rfl, rfl, ?_⟩
      refine ⟨_, rfl, _, rfl, _, rfl, _, rfl, _, rfl, fun x dx nx nd ne => ?_⟩
      refine ⟨x, dx, q, rfl, upd_same, fun H2 hx off => ⟨rfl, ?_⟩⟩
      have s2 : Same H1 H2 := Same.made nx nd off
      obtain ⟨cx, v, h1, h2, _⟩ := hc
      have hc2 := s2 _ _ (s1 _ _ h1)
      refine ⟨c, x, cx, l, v, rfl, hc2, fun H3 l' hl hc3 hl3 off3 => ?_⟩
      refine ⟨by show 1 ≤ sizeLine; decide, fun p hp => ?_⟩
      have sm : Same H H2 := s1.trans s2
      have cl : l' ≠ c := Ne.symm (ne_of_none hc2 hl)
      have fr : ∀ b, H2 b = none → H b = none := fun b z => sm.free z
      have pc : p ≠ c := Ne.symm (ne_of_none hc3 hp)
      have pn : H p = none := by
        cases z : H p with
        | none => rfl
        | some o =>
          rw [off3 p o (sm p o z) pc] at hp
          cases hp
      have xc : x ≠ c := by
        intro z
        rw [z, s1 _ _ h1] at nx
        cases nx
      obtain ⟨dq, hq⟩ := hx
      have s3 := same_new (o := HO.lst [V.int 0]) hp
      refine k _ p l' pn (.inr (fr _ hl)) ⟨cx, _, s3 _ _ hc3, s3 _ _ hl3, ⟨x, rfl, ⟨dq, s3 _ _ (off3 _ _ hq xc)⟩, ok, Nat.zero_le _⟩⟩ upd_same ?_
      exact (Off.of sm off3).same s3
    · refine if_t (by rw [decide_eq_false ok]; rfl) ?_
      have e : startM m q = (m, [-22]) := if_neg ok
      rw [e] at k
      refine ⟨by show 1 ≤ sizeLine; decide, fun p hp => ?_⟩
      exact k.as hc (s1.trans (same_new hp)) (s1.free hp) upd_same

/-! ### feed -/
def spFeed (CC CS : Addr) : Sp := fun vs H Q _ => ∃ (c l a : Addr) (m : MS) (r : List Int), vs = [.ref c, .ref a] ∧ CellAt CC CS H c l m ∧ H a = some (.lst (r.map V.int)) ∧ r.length ≤ 40000 ∧
  Left CC CS H c l (feedM m r).1 (feedM m r).2 Q
theorem scFeed : FnScope ["cell", "row"] ["cell", "row"] (defScope sFeed) := ⟨rfl, rfl, rfl, by decide +kernel, rfl, by decide +kernel, by decide +kernel⟩
theorem okFeed (F : Fun K "feed" "feed" sFeed f fd) (bL : mg "len" = none) (c1 : GI mg "NOT_BEGUN" (-11)) (c2 : GI mg "MOST" 1024) (c3 : GI mg "OUT_OF_RANGE" (-22)) {g1 g2 g3 g4 : Addr} {d1 d2 d3 d4 : FuncData}
    (C1 : Cal P w K mg base "has_begun" 1 g1 d1 ["cell"] (spHasBegun CC CS)) (C2 : Cal P w K mg base "are_readings" 2 g2 d2 ["row"] (spAreReadings K))
    (C3 : Cal P w K mg base "take" 2 g3 d3 ["cell", "row"] (spTake CC CS)) (C4 : Cal P w K mg base "told" 4 g4 d4 ["cell"] (spTold CC CS)) :
    FnOk P w K mg base CX0 5 f fd ["cell", "row"] (spFeed CC CS) := by
  refine F.ok scFeed (fun vs H Q E h => ?_) (fun cdv A outer s H vs Q E hr h => ?_)
  · obtain ⟨c, l, a, m, r, rfl, _⟩ := h
    rfl
  · have hr1 : Room 1 _ := hr.mono (by decide)
    have hr2 : Room 2 _ := hr.mono (by decide)
    refine ⟨_, pss_cons (ps_if (pt_not (pt_val (pe_call C1.ok hr1 rfl C1.g C1.kp C1.b .nil pass0 (pa_cons (pv 0) pa_nil)))) (pss_one (ps_ret (pe_lst (pa_cons (pe_gi c1) pa_nil)))) pss_nil)
      (pss_cons (ps_if (PW.pt (pw_or (pt_cmpR op_gt (pe_callB call_len_seq (by rfl) bL PySem.boot_len (pa_cons (pv 1) pa_nil)) (pe_gi c2) (nomark _))
          (pw_or1 (pt_not (pt_val (pe_call C2.ok hr2 rfl C2.g C2.kp C2.b .nil pass0 (pa_cons (pv 1) pa_nil))))))) (pss_one (ps_ret (pe_lst (pa_cons (pe_gi c3) pa_nil)))) pss_nil)
      (pss_cons (ps_expr (pe_call C3.ok hr2 rfl C3.g C3.kp C3.b .nil pass0 (pa_cons (pv 0) (pa_cons (pv 1) pa_nil))))
      (pss_one (ps_ret (pe_op op_cat (pe_lst (pa_cons pe_int pa_nil)) (pe_call C4.ok hr rfl C4.g C4.kp C4.b .nil pass0 (pa_cons (pv 0) pa_nil))))))), ?_⟩
    obtain ⟨c, l, a, m, r, rfl, hc, ha, hl, k⟩ := h
    refine ⟨_, rfl, c, l, m, rfl, hc, _, rfl, ?_⟩
    cases m with
    | none =>
      refine if_t rfl ⟨by show 1 ≤ sizeLine; decide, fun p hp => ?_⟩
      exact k.as hc (same_new hp) hp upd_same
    | some qr =>
      obtain ⟨q, rs⟩ := qr
      refine if_f rfl ?_
      have eL : (((r.map V.int).length : Nat) : Int) = (r.length : Int) := by rw [List.length_map]
      refine ⟨_, rfl, a, _, rfl, .inl (SqL.of ha), _, _, rfl, rfl, _, rfl, ?_⟩
      by_cases c4 : r.length ≤ 1024
      · refine if_f (decide_eq_false (by rw [eL]; omega)) ?_
        refine ⟨_, rfl, a, r, rfl, SqL.of ha, hl, fun H1 s1 => ⟨_, rfl, ?_⟩⟩
        cases c5 : r.all isRd with
        | true =>
          refine if_f rfl ?_
          have e : feedM (some (q, rs)) r = (some (q, lastOnes (rs ++ r)), 0 :: toldM q (lastOnes (rs ++ r))) := if_pos ⟨c4, c5⟩
          rw [e] at k
          refine ⟨_, rfl, _, rfl, c, l, a, q, rs, r, rfl, hc.same s1, s1 _ _ ha, c4, fun H2 l' hl' hc2 off2 => ?_⟩
          refine ⟨by show 1 ≤ sizeLine; decide, fun z hz => ?_⟩
          have s3 := same_new (o := HO.lst [V.int 0]) hz
          refine ⟨_, rfl, c, l', q, _, rfl, hc2.same s3, fun H3 t s4 ht e4 => ?_⟩
          refine ⟨z, t, _, _, rfl, rfl, s4 _ _ upd_same, e4, ?_, fun p hp => ?_⟩
          · rw [List.length_map, toldM_len]
            decide
          · have s5 := same_new (o := HO.lst ([V.int 0] ++ (toldM q (lastOnes (rs ++ r))).map V.int)) hp
            have s6 := (s3.trans s4).trans s5
            obtain ⟨dx, v, h1, _, _⟩ := id hc2
            have pn2 : H2 p = none := (s3.trans s4).free hp
            have pc : p ≠ c := Ne.symm (ne_of_none h1 pn2)
            have pn : H p = none := by
              cases z : H p with
              | none => rfl
              | some o =>
                rw [off2 p o (s1 p o z) pc] at pn2
                cases pn2
            refine k _ p l' pn (.inr (s1.free hl')) (hc2.same s6) upd_same ?_
            exact (Off.of s1 off2).same s6
        | false =>
          refine if_t rfl ⟨by show 1 ≤ sizeLine; decide, fun p hp => ?_⟩
          have e : feedM (some (q, rs)) r = (some (q, rs), [-22]) := if_neg fun z => by rw [c5] at z; cases z.2
          rw [e] at k
          exact k.as hc (s1.trans (same_new hp)) (s1.free hp) upd_same
      · refine if_t (decide_eq_true (by rw [eL]; omega)) (if_t rfl ⟨by show 1 ≤ sizeLine; decide, fun p hp => ?_⟩)
        have e : feedM (some (q, rs)) r = (some (q, rs), [-22]) := if_neg fun z => c4 z.1
        rw [e] at k
        exact k.as hc (same_new hp) hp upd_same

/-! ### call_end -/
def spCallEnd (K : PySem.W.Frag) : Sp := fun vs H Q _ => ∃ (a : Addr) (l : List Int) (i : Nat), vs = [.ref a, .int i] ∧ SqL K H a (l.map V.int) ∧
  ((∃ t, l.drop i = 0 :: t ∧ Q (.int ((i + 5 : Nat) : Int)) H) ∨ ∃ (r : List Int) (t : List Int), l.drop i = 1 :: (r.length : Int) :: t ∧ Q (.int ((i + 2 + r.length : Nat) : Int)) H)
theorem scCallEnd : FnScope ["calls", "at"] ["calls", "at"] (defScope sCallEnd) := ⟨rfl, rfl, rfl, by decide +kernel, rfl, by decide +kernel, by decide +kernel⟩
theorem drop_at {l : List Int} {i : Nat} {x : Int} {t : List Int} (h : l.drop i = x :: t) : (l.map V.int)[i]? = some (.int x) := by
  have q := congrArg (fun z => z[0]?) h
  have q' : (l.drop i)[0]? = some x := q
  rw [List.getElem?_drop] at q'
  rw [List.getElem?_map, show l[i]? = some x from q']
  rfl
theorem drop_at1 {l : List Int} {i : Nat} {x y : Int} {t : List Int} (h : l.drop i = x :: y :: t) : (l.map V.int)[i + 1]? = some (.int y) := by
  have q := congrArg (fun z => z[1]?) h
  have q' : (l.drop i)[1]? = some y := q
  rw [List.getElem?_drop] at q'
  rw [List.getElem?_map, q']
  rfl
theorem okCallEnd (F : Fun K "call_end" "call_end" sCallEnd f fd) (c1 : GI mg "START" 0) (c2 : GI mg "SETTINGS" 4) : FnOk P w K mg base CX0 1 f fd ["calls", "at"] (spCallEnd K) := by
  refine F.ok scCallEnd (fun vs H Q E h => ?_) (fun cdv A outer s H vs Q E hr h => ?_)
  · obtain ⟨a, l, i, rfl, _⟩ := h
    rfl
  · refine ⟨_, pss_cons (ps_if (pt_cmp (pc_eqI (pe_ix ix_list (pv 0) (pv 1) (fun _ _ => rfl)) (pe_gi c1)) (nomark _)) (pss_one (ps_ret (pe_op op_add (pe_op op_add (pv 1) pe_int) (pe_gi c2)))) pss_nil)
      (pss_one (ps_ret (pe_op op_add (pe_op op_add (pv 1) pe_int) (pe_ix ix_list (pv 0) (pe_op op_add (pv 1) pe_int) (fun _ _ => rfl))))), ?_⟩
    obtain ⟨a, l, i, rfl, hs, ⟨t, e, k⟩ | ⟨r, t, e, k⟩⟩ := h
    · refine ⟨_, rfl, _, rfl, a, _, _, _, rfl, rfl, hs, atI_nat (drop_at e), _, _, rfl, rfl, _, rfl, if_t (decide_eq_true rfl) ?_⟩
      refine ⟨_, rfl, _, _, rfl, rfl, _, _, rfl, rfl, ?_⟩
      have z : ((i : Nat) : Int) + 1 + 4 = ((i + 5 : Nat) : Int) := by omega
      rw [← z] at k
      exact k
    · refine ⟨_, rfl, _, rfl, a, _, _, _, rfl, rfl, hs, atI_nat (drop_at e), _, _, rfl, rfl, _, rfl, if_f (decide_eq_false (by decide)) ?_⟩
      refine ⟨_, rfl, _, _, rfl, rfl, _, rfl, _, rfl, _, _, rfl, rfl, a, _, _, _, rfl, rfl, hs, at_of (j := i + 1) (by omega) (drop_at1 e), _, _, rfl, rfl, ?_⟩
      have z : ((i : Nat) : Int) + 2 + (r.length : Int) = ((i + 2 + r.length : Nat) : Int) := by omega
      rw [← z] at k
      exact k

/-! ### answer -/
/-- what a call of these numbers leaves and answers -/
inductive Act (m : MS) : List Int → MS × List Int → Prop
  | start (q : S4) : Act m [0, q.zero, q.span, q.most, q.window] (startM m q)
  | feed (n : Int) (r : List Int) : r.length ≤ 40000 → Act m (1 :: n :: r) (feedM m r)
def spAnswer (CC CS : Addr) : Sp := fun vs H Q _ => ∃ (c l a : Addr) (m : MS) (u : List Int) (o : MS × List Int), vs = [.ref c, .ref a] ∧ CellAt CC CS H c l m ∧ H a = some (.lst (u.map V.int)) ∧ Act m u o ∧ Left CC CS H c l o.1 o.2 Q
theorem scAnswer : FnScope ["cell", "call"] ["cell", "call"] (defScope sAnswer) := ⟨rfl, rfl, rfl, by decide +kernel, rfl, by decide +kernel, by decide +kernel⟩
theorem cut_1 (x : V) (xs : List V) : cutV (x :: xs) (some 1) none = xs := by
  have e : (1 : Int) = ((1 : Nat) : Int) := rfl
  unfold cutV
  rw [e, HT.sIx_nat, HT.sIx_none, List.length_cons, show min 1 (xs.length + 1) = 1 by omega]
  show xs.take (xs.length + 1 - 1) = xs
  exact List.take_length
theorem cut_2 (x y : V) (xs : List V) : cutV (x :: y :: xs) (some 2) none = xs := by
  have e : (2 : Int) = ((2 : Nat) : Int) := rfl
  unfold cutV
  rw [e, HT.sIx_nat, HT.sIx_none, List.length_cons, List.length_cons, show min 2 (xs.length + 1 + 1) = 2 by omega]
  show xs.take (xs.length + 1 + 1 - 2) = xs
  exact List.take_length
/-- what is left of a fresh list's heap is left of the heap ahead of it -/
theorem Left.new {H : Hp} {c l p : Addr} {m : MS} {o : List Int} {Q : VK} {u : HO} (k : Left CC CS H c l m o Q) (hp : H p = none) : Left CC CS (upd H p u) c l m o Q := by
  intro H' t l' ht hl hc e off
  have s := same_new (o := u) hp
  refine k H' t l' (s.free ht) ?_ hc e (Off.of s off)
  rcases hl with z | z
  · exact .inl z
  · exact .inr (s.free z)
theorem okAnswer (F : Fun K "answer" "answer" sAnswer f fd) (c1 : GI mg "START" 0) {g1 g2 : Addr} {d1 d2 : FuncData} (C1 : Cal P w K mg base "start" 3 g1 d1 ["cell", "numbers"] (spStart K CC CS))
    (C2 : Cal P w K mg base "feed" 5 g2 d2 ["cell", "row"] (spFeed CC CS)) : FnOk P w K mg base CX0 6 f fd ["cell", "call"] (spAnswer CC CS) := by
  refine F.ok scAnswer (fun vs H Q E h => ?_) (fun cdv A outer s H vs Q E hr h => ?_)
  · obtain ⟨c, l, a, m, u, o, rfl, _⟩ := h
    rfl
  · have hr3 : Room 3 _ := hr.mono (by decide)
    refine ⟨_, pss_cons (ps_if (pt_cmp (pc_eqI (pe_ix ix_list (pv 1) pe_int (fun _ _ => rfl)) (pe_gi c1)) (nomark _)) (pss_one (ps_ret (pe_call C1.ok hr3 rfl C1.g C1.kp C1.b .nil pass0 (pa_cons (pv 0) (pa_cons (pe_slice sl_list (pv 1) (po_some pe_int) po_none) pa_nil))))) pss_nil)
      (pss_one (ps_ret (pe_call C2.ok hr rfl C2.g C2.kp C2.b .nil pass0 (pa_cons (pv 0) (pa_cons (pe_slice sl_list (pv 1) (po_some pe_int) po_none) pa_nil))))), ?_⟩
    obtain ⟨c, l, a, m, u, o, rfl, hc, ha, act, k⟩ := h
    cases act with
    | start q =>
      refine ⟨_, rfl, a, _, _, _, rfl, rfl, SqL.of ha, rfl, _, _, rfl, rfl, _, rfl, if_t (decide_eq_true rfl) ?_⟩
      refine ⟨_, rfl, _, rfl, _, rfl, a, _, rfl, SqL.of ha, fun p hp => ?_⟩
      refine ⟨c, l, p, m, q, rfl, hc.same (same_new hp), SqL.of (upd_same.trans (congrArg (fun z => some (HO.lst z)) (cut_1 _ _))), k.new hp⟩
    | feed n r hl =>
      refine ⟨_, rfl, a, _, _, _, rfl, rfl, SqL.of ha, atI_nat (j := 0) rfl, _, _, rfl, rfl, _, rfl, if_f (decide_eq_false (by decide)) ?_⟩
      refine ⟨_, rfl, _, rfl, _, rfl, a, _, rfl, SqL.of ha, fun p hp => ?_⟩
      refine ⟨c, l, p, m, r, rfl, hc.same (same_new hp), upd_same.trans (congrArg (fun z => some (HO.lst z)) (cut_2 _ _ _)), hl, k.new hp⟩

/-! ### answers -/
/-- a list that nobody writes -/
def SqF (K : PySem.W.Frag) (H : Hp) (a : Addr) (xs : List V) : Prop :=
  (∃ o, H a = some (.frz o (.lst xs))) ∨ ∃ (o : Obj) (its : Array Value) (n : Nat), K.lookup a = some o ∧ o.cls = .type "list" ∧ o.dict = none ∧ o.data = .seq its n ∧ its.size ≤ sizeLine ∧ Vals xs its.toList
theorem SqF.sq {K : PySem.W.Frag} {H : Hp} {a : Addr} {xs : List V} (h : SqF K H a xs) : SqL K H a xs := by
  rcases h with ⟨o, h⟩ | h
  · exact .inl (.inr ⟨o, h⟩)
  · exact .inr h
theorem SqF.same {K : PySem.W.Frag} {H H' : Hp} {a : Addr} {xs : List V} (h : SqF K H a xs) (s : Same H H') : SqF K H' a xs := by
  rcases h with ⟨o, h⟩ | h
  · exact .inl ⟨o, s _ _ h⟩
  · exact .inr h
theorem SqF.offL {K : PySem.W.Frag} {H H' : Hp} {a f : Addr} {xs ys : List V} (h : SqF K H a xs) (s : Off f H H') (hf : H f = some (.lst ys)) : SqF K H' a xs := by
  rcases h with ⟨o, h⟩ | h
  · exact .inl ⟨o, s _ _ h (ne_of h hf fun z => by cases z)⟩
  · exact .inr h
theorem SqF.offI {K : PySem.W.Frag} {H H' : Hp} {a f C dx : Addr} {xs : List V} {fs : List (Str × V)} (h : SqF K H a xs) (s : Off f H H') (hf : H f = some (.ins C dx fs)) : SqF K H' a xs := by
  rcases h with ⟨o, h⟩ | h
  · exact .inl ⟨o, s _ _ h (ne_of h hf fun z => by cases z)⟩
  · exact .inr h
/-- a list of ints is handed in, the specification's list comes out -/
def spAnswers (K : PySem.W.Frag) : Sp := fun vs H Q _ => ∃ (a : Addr) (l : List Int), vs = [.ref a] ∧ SqF K H a (l.map V.int) ∧ l.length ≤ 31000 ∧ PyKv190.answers_asked l = true ∧
  ∀ (H' : Hp) (p : Addr), H' p = some (.lst ((PyKv190.answers l).map V.int)) → Q (.ref p) H'
theorem scAnswers : FnScope ["calls", "cell", "found", "at", "end", "outcome"] ["calls"] (defScope sAnswers) := ⟨rfl, rfl, rfl, by decide +kernel, rfl, by decide +kernel, by decide +kernel⟩
theorem cut_at {l u t : List Int} {i n : Nat} (h : l.drop i = u ++ t) (hn : u.length = n) : cutV (l.map V.int) (some (i : Int)) (some ((i + n : Nat) : Int)) = u.map V.int := by
  have q := congrArg List.length h
  rw [List.length_drop, List.length_append] at q
  unfold cutV
  rw [HT.sIx_nat, HT.sIx_nat, List.length_map]
  by_cases c : i ≤ l.length
  · have e1 : min i l.length = i := by omega
    have e2 : min (i + n) l.length - i = u.length := by omega
    rw [e1, e2, ← List.map_drop, h, ← List.map_take, List.take_left]
  · have z : u = [] := List.eq_nil_of_length_eq_zero (by omega)
    subst z
    have z2 : n = 0 := by
      rw [← hn]
      rfl
    subst z2
    rw [show min (i + 0) l.length - min i l.length = 0 by omega, List.take_zero]
    rfl
/-- the loop's body behind end = call_end(calls, at) -/
def tRest (K : PySem.W.Frag) (sp : Sp) : TS :=
  tSeq (tAsg (tCall sp [] E0 (tCons (tVar 1) (tCons (tSl (rSlL K) (tVar 0) (tPart (tVar 3)) (tPart (tVar 4))) tNil))) (gName 5))
    (tSeq (tDrop (tBM K "list" rAppend (tVar 2) (tCons (tCB (fun xs H Q => ∃ p ys, xs = [.ref p] ∧ (SqL K H p ys ∨ SqT K H p ys) ∧ Q (.int ys.length) H) (tCons (tVar 5) tNil)) tNil)))
    (tSeq (tDrop (tBM K "list" rExtend (tVar 2) (tCons (tVar 5) tNil))) (tAsg (tVar 4) (gName 3))))
theorem restA {D : Ends} {H2 : Hp} {a x p r : Addr} {l u t out : List Int} {i j : Nat} {m : MS} {o : MS × List Int} {v5 : Option V} (hsq : SqF K H2 a (l.map V.int)) (hc : CellAt CC CS H2 x r m) (hf : H2 p = some (.lst (out.map V.int))) (hrp : r ≠ p)
    (hd : l.drop i = u ++ t) (hj : j = i + u.length) (act : Act m u o) (hsz : out.length + (o.2.length + 1) ≤ 40000)
    (hD : ∀ H3 r' v5', SqF K H3 a (l.map V.int) → CellAt CC CS H3 x r' o.1 → H3 p = some (.lst ((out ++ told1 o.2).map V.int)) → r' ≠ p → D.nx [some (.ref a), some (.ref x), some (.ref p), some (.int (j : Nat)), some (.int (j : Nat)), v5'] H3) :
    tRest K (spAnswer CC CS) D [some (.ref a), some (.ref x), some (.ref p), some (.int (i : Nat)), some (.int (j : Nat)), v5] H2 := by
  subst hj
  refine ⟨_, rfl, _, rfl, _, rfl, _, rfl, _, rfl, _, rfl, a, _, rfl, hsq.sq, fun s hs => ?_⟩
  rw [cut_at hd rfl]
  have s1 := same_new (o := HO.lst (u.map V.int)) hs
  refine ⟨x, r, s, m, u, o, rfl, hc.same s1, upd_same, act, fun H3 y r' hy hr' hc3 hy3 off3 => ?_⟩
  obtain ⟨dx, v, h1, h2, _⟩ := id hc
  have xp : p ≠ x := ne_of hf h1 fun z => by cases z
  have hf3 : H3 p = some (.lst (out.map V.int)) := off3 _ _ (s1 _ _ hf) xp
  have ys : y ≠ p := Ne.symm (ne_of_none (s1 _ _ hf) hy)
  have rp : r' ≠ p := by
    rcases hr' with z | z
    · rw [z]
      exact hrp
    · exact Ne.symm (ne_of_none (s1 _ _ hf) z)
  refine ⟨_, rfl, .inl ⟨rfl, _, SqL.of hf3⟩, _, rfl, y, _, rfl, .inl (SqL.of hy3), p, _, _, rfl, rfl, hf3, len31 (by rw [List.length_map]; omega), ?_⟩
  have hy4 := (upd_ne (o := HO.lst (out.map V.int ++ [V.int ((o.2.map V.int).length : Nat)])) ys).trans hy3
  refine ⟨_, rfl, .inl ⟨rfl, _, SqL.of upd_same⟩, _, rfl, p, y, _, _, rfl, rfl, upd_same, hy4, ?_, ?_⟩
  · rw [List.length_append, List.length_map, List.length_map, List.length_singleton]
    exact Nat.le_of_lt (len31 (by omega))
  · refine ⟨_, rfl, ?_⟩
    have off4 : Off p H3 (upd (upd H3 p (.lst (out.map V.int ++ [V.int ((o.2.map V.int).length : Nat)]))) p (.lst (out.map V.int ++ [V.int ((o.2.map V.int).length : Nat)] ++ o.2.map V.int))) := fun b w e n => by
      rw [upd_ne n, upd_ne n]
      exact e
    refine hD _ r' _ ?_ (hc3.off off4 hf3 rp) ?_ rp
    · exact ((hsq.same s1).offI off3 (s1 _ _ h1)).offL off4 hf3
    · rw [upd_same, List.length_map, List.map_append, List.append_assoc]
      rfl
/-- how much is left of the line -/
def left (n : Nat) (σ : L2.St) : Nat := match σ[3]? with
  | some (some (V.int i)) => n - i.toNat
  | _ => 0
theorem okAnswers (F : Fun K "answers" "answers" sAnswers f fd) (bL : mg "len" = none) (gC : mg "Cell" = some (.ref CC)) {g1 g2 g3 : Addr} {d1 d2 d3 : FuncData}
    (C1 : Cal P w K mg base "call_end" 1 g1 d1 ["calls", "at"] (spCallEnd K)) (C2 : Cal P w K mg base "answer" 6 g2 d2 ["cell", "call"] (spAnswer CC CS))
    (M : Mk K CC g3) (G3 : FnOk P w K mg base CX0 1 g3 d3 ["self"] (spCellInit CC)) (bI : Binds K d3 ["self"] []) :
    FnOk P w K mg base CX0 7 f fd ["calls"] (spAnswers K) := by
  refine F.ok scAnswers (fun vs H Q E h => ?_) (fun cdv A outer s H vs Q E hr h => ?_)
  · obtain ⟨a, l, rfl, _⟩ := h
    rfl
  · have hr1 : Room 1 _ := hr.mono (by decide)
    have hr2 : Room 2 _ := hr.mono (by decide)
    refine ⟨_, pss_cons (ps_set (i := 1) scAnswers.nd rfl (Or.inl rfl) (pe_make0 M G3 hr2 rfl gC bI .nil pass0))
      (pss_cons (ps_set (i := 2) scAnswers.nd rfl (Or.inl rfl) (pe_lst pa_nil))
      (pss_cons (ps_set (i := 3) scAnswers.nd rfl (Or.inl rfl) pe_int)
      (pss_cons (ps_while PassesOwn.never (pt_cmpR op_lt (pv 3) (pe_callB call_len_seq (by rfl) bL PySem.boot_len (pa_cons (pv 0) pa_nil)) (nomark _))
        (pss_cons (ps_set (i := 4) scAnswers.nd rfl (Or.inl rfl) (pe_call C1.ok hr1 rfl C1.g C1.kp C1.b .nil pass0 (pa_cons (pv 0) (pa_cons (pv 3) pa_nil))))
        (pss_cons (ps_set (i := 5) scAnswers.nd rfl (Or.inl rfl) (pe_call C2.ok hr rfl C2.g C2.kp C2.b .nil pass0 (pa_cons (pv 1) (pa_cons (pe_slice sl_list (pv 0) (po_some (pv 3)) (po_some (pv 4))) pa_nil))))
        (pss_cons (ps_expr (pe_bm PySem.F.plainAttrs_list PySem.F.slot_list_append PySem.F.type_list_append mt_append (pv 2) (pa_cons (pe_callB call_len_seq (by rfl) bL PySem.boot_len (pa_cons (pv 5) pa_nil)) pa_nil)))
        (pss_cons (ps_expr (pe_bm PySem.F.plainAttrs_list PySem.F.slot_list_extend PySem.F.type_list_extend mt_extend (pv 2) (pa_cons (pv 5) pa_nil)))
        (pss_one (ps_set (i := 3) scAnswers.nd rfl (Or.inl rfl) (pv 4))))))))
      (pss_one (ps_ret (pv 2)))))), ?_⟩
    obtain ⟨a, l, rfl, hs, hl, ask, k⟩ := h
    intro x dx nx nd ne
    refine ⟨x, dx, rfl, upd_same, fun H1 r0 hr0 hx1 hr1' off1 => ⟨rfl, ?_⟩⟩
    have s1 : Same H H1 := Same.made nx nd off1
    refine ⟨by show 0 ≤ sizeLine; decide, fun p hp => ?_⟩
    have hs1 : Same H (upd H1 p (.lst [])) := s1.trans (same_new hp)
    -- the invariant: calls, cell, found as they stand at the place i
    refine while_by (fun σ H' => ∃ (i : Nat) (out : List Int) (m : MS) (r : Addr) (v4 v5 : Option V), σ = [some (.ref a), some (.ref x), some (.ref p), some (.int (i : Nat)), v4, v5] ∧ SqF K H' a (l.map V.int) ∧ Now l i out m ∧
        CellAt CC CS H' x r m ∧ H' p = some (.lst (out.map V.int)) ∧ r ≠ p)
      (fun σ _ => left l.length σ) ?_ ?_ ?_
    · refine ⟨0, [], none, r0, none, none, rfl, hs.same hs1, now_start ask, ⟨dx, .non, ?_, ?_, rfl⟩, upd_same, ne_of_none hr1' hp⟩
      · exact (upd_ne (ne_of_none hx1 hp)).trans hx1
      · exact (upd_ne (ne_of_none hr1' hp)).trans hr1'
    · rintro σ H2 ⟨i, out, m, r, v4, v5, rfl, hsq, now, hc, hf, hrp⟩
      refine ⟨_, rfl, _, rfl, a, _, rfl, .inl hsq.sq, _, _, rfl, rfl, _, rfl, ?_⟩
      have eL : (((l.map V.int).length : Nat) : Int) = (l.length : Int) := by rw [List.length_map]
      by_cases lt : i < l.length
      · refine if_t (decide_eq_true (by rw [eL]; omega)) ?_
        rcases now_turn now lt with ⟨q, t, e, now2⟩ | ⟨u, t, e, now2⟩
        · refine ⟨_, rfl, _, rfl, a, l, i, rfl, hsq.sq, .inl ⟨_, e, ?_⟩⟩
          refine restA (j := i + 5) (u := [0, q.zero, q.span, q.most, q.window]) (t := t) hsq hc hf hrp e rfl (.start q) ?_ fun H3 r' v5' e1 e2 e3 e4 => ⟨⟨i + 5, _, _, r', _, _, rfl, e1, now2, e2, e3, e4⟩, ?_⟩
          · have z := now2.size
            rw [List.length_append] at z
            exact Nat.le_trans (show _ ≤ 1792 from z) (by decide)
          · show l.length - (i + 5) < l.length - i
            omega
        · have hd : l.drop i = (1 :: (u.length : Int) :: u) ++ t := e
          have ul : u.length ≤ 40000 := by
            have z := congrArg List.length hd
            rw [List.length_drop, List.length_append] at z
            have z2 : (1 :: (u.length : Int) :: u).length = u.length + 2 := rfl
            omega
          refine ⟨_, rfl, _, rfl, a, l, i, rfl, hsq.sq, .inr ⟨u, _, e, ?_⟩⟩
          refine restA (j := i + 2 + u.length) (u := 1 :: (u.length : Int) :: u) (t := t) hsq hc hf hrp hd ?_ (.feed _ u ul) ?_ fun H3 r' v5' e1 e2 e3 e4 => ⟨⟨i + 2 + u.length, _, _, r', _, _, rfl, e1, now2, e2, e3, e4⟩, ?_⟩
          · show i + 2 + u.length = i + (u.length + 1 + 1)
            omega
          · have z := now2.size
            rw [List.length_append] at z
            exact Nat.le_trans (show _ ≤ 1792 from z) (by decide)
          · show l.length - (i + 2 + u.length) < l.length - i
            omega
      · refine if_f (decide_eq_false (by rw [eL]; omega)) ⟨_, rfl, ?_⟩
        have e := now_done now lt
        rw [e] at hf
        exact k _ _ hf
    · intro σ H2 Q1 Q2 mono q
      obtain ⟨v, e, v2, e2, y, ys, e3, hs, n, j, e4, e5, b, e6, z⟩ := q
      exact ⟨v, e, v2, e2, y, ys, e3, hs, n, j, e4, e5, b, e6, mono _ _ z⟩
end
end Steady

/-! # Steady7: what the top has written, collected (printed by gen7.py) -/
namespace Steady
open PySem PySem.Spec PyProof.Rows L2

theorem all_mk {P : Program} {w : World} {K : PySem.W.Frag} {h : Heap} {mg : Str → Option Value} {fa CC CS SH NO s1 s2 s3 s4 f1 f2 f3 f4 f5 f6 f7 f8 f9 f10 f11 f12 f13 f14 f15 f16 f17 f18 f19 f20 f21 f22 f23 : Addr}
    (X : K.In h) (G : h.Ns mainGlobals mg) (hfa : mg "answers" = some (.ref fa))
    {od1 an1 : Option Addr} {sl1 : Array (Option Value)} {oc1 kV1 dc1 pm1 cd1 ct1 : Value}
    {od2 an2 : Option Addr} {sl2 : Array (Option Value)} {oc2 kV2 dc2 pm2 cd2 ct2 : Value}
    {od3 an3 : Option Addr} {sl3 : Array (Option Value)} {oc3 kV3 dc3 pm3 cd3 ct3 : Value}
    {od4 an4 : Option Addr} {sl4 : Array (Option Value)} {oc4 kV4 dc4 pm4 cd4 ct4 : Value}
    {od5 an5 : Option Addr} {sl5 : Array (Option Value)} {oc5 kV5 dc5 pm5 cd5 ct5 : Value}
    {od6 an6 : Option Addr} {sl6 : Array (Option Value)} {oc6 kV6 dc6 pm6 cd6 ct6 : Value}
    {od7 an7 : Option Addr} {sl7 : Array (Option Value)} {oc7 kV7 dc7 pm7 cd7 ct7 : Value}
    {od8 an8 : Option Addr} {sl8 : Array (Option Value)} {oc8 kV8 dc8 pm8 cd8 ct8 : Value}
    {od9 an9 : Option Addr} {sl9 : Array (Option Value)} {oc9 kV9 dc9 pm9 cd9 ct9 : Value}
    {od10 an10 : Option Addr} {sl10 : Array (Option Value)} {oc10 kV10 dc10 pm10 cd10 ct10 : Value}
    {od11 an11 : Option Addr} {sl11 : Array (Option Value)} {oc11 kV11 dc11 pm11 cd11 ct11 : Value}
    {od12 an12 : Option Addr} {sl12 : Array (Option Value)} {oc12 kV12 dc12 pm12 cd12 ct12 : Value}
    {od13 an13 : Option Addr} {sl13 : Array (Option Value)} {oc13 kV13 dc13 pm13 cd13 ct13 : Value}
    {od14 an14 : Option Addr} {sl14 : Array (Option Value)} {oc14 kV14 dc14 pm14 cd14 ct14 : Value}
    {od15 an15 : Option Addr} {sl15 : Array (Option Value)} {oc15 kV15 dc15 pm15 cd15 ct15 : Value}
    {od16 an16 : Option Addr} {sl16 : Array (Option Value)} {oc16 kV16 dc16 pm16 cd16 ct16 : Value}
    {od17 an17 : Option Addr} {sl17 : Array (Option Value)} {oc17 kV17 dc17 pm17 cd17 ct17 : Value}
    {od18 an18 : Option Addr} {sl18 : Array (Option Value)} {oc18 kV18 dc18 pm18 cd18 ct18 : Value}
    {od19 an19 : Option Addr} {sl19 : Array (Option Value)} {oc19 kV19 dc19 pm19 cd19 ct19 : Value}
    {od20 an20 : Option Addr} {sl20 : Array (Option Value)} {oc20 kV20 dc20 pm20 cd20 ct20 : Value}
    {od21 an21 : Option Addr} {sl21 : Array (Option Value)} {oc21 kV21 dc21 pm21 cd21 ct21 : Value}
    {od22 an22 : Option Addr} {sl22 : Array (Option Value)} {oc22 kV22 dc22 pm22 cd22 ct22 : Value}
    {od23 an23 : Option Addr} {sl23 : Array (Option Value)} {oc23 kV23 dc23 pm23 cd23 ct23 : Value}
    {dTSH : Option Addr} {nTSH : Nat} {zTSH : Array (Option Value)}
    {u1 w1 : Tok}
    {dTs1 : Option Addr} {nTs1 : Nat} {zTs1 : Array (Option Value)}
    {u2 w2 : Tok}
    {dTs2 : Option Addr} {nTs2 : Nat} {zTs2 : Array (Option Value)}
    {u3 w3 : Tok}
    {dTs3 : Option Addr} {nTs3 : Nat} {zTs3 : Array (Option Value)}
    {u4 w4 : Tok}
    {dTs4 : Option Addr} {nTs4 : Nat} {zTs4 : Array (Option Value)}
    {x1 x2 x3 x4 x5 : Tok}
    {dTNO : Option Addr} {nTNO : Nat} {zTNO : Array (Option Value)}
    {tLEASTREADING tGREATESTREADING tTOP tTAKEN tLOOKEDAT tNEEDED tGAIN tLOWEST tBEYOND tSTART tSETTINGS tMOST tNOTBEGUN tOUTOFRANGE : Tok}
    (a1 : PySem.W.nsIn K mainGlobals "is_reading" = some (some (.ref f1)))
    (l1 : K.lookup f1 = some ⟨oc1, od1, .func (PySem.W.fnOf "is_reading" "is_reading" (defArgs sIsReading) (defBody sIsReading) (defScope sIsReading) .none kV1 dc1 pm1 an1 cd1 ct1), sl1⟩)
    (c1 : PySem.W.codeIn K cd1 "is_reading" = true)
    (k1 : PySem.W.keepIn K (.ref f1) = true)
    (a2 : PySem.W.nsIn K mainGlobals "are_readings" = some (some (.ref f2)))
    (l2 : K.lookup f2 = some ⟨oc2, od2, .func (PySem.W.fnOf "are_readings" "are_readings" (defArgs sAreReadings) (defBody sAreReadings) (defScope sAreReadings) .none kV2 dc2 pm2 an2 cd2 ct2), sl2⟩)
    (c2 : PySem.W.codeIn K cd2 "are_readings" = true)
    (k2 : PySem.W.keepIn K (.ref f2) = true)
    (a3 : PySem.W.nsIn K mainGlobals "times_of" = some (some (.ref f3)))
    (l3 : K.lookup f3 = some ⟨oc3, od3, .func (PySem.W.fnOf "times_of" "times_of" (defArgs sTimes) (defBody sTimes) (defScope sTimes) .none kV3 dc3 pm3 an3 cd3 ct3), sl3⟩)
    (c3 : PySem.W.codeIn K cd3 "times_of" = true)
    (k3 : PySem.W.keepIn K (.ref f3) = true)
    (a4 : PySem.W.nsIn K mainGlobals "smooth_of" = some (some (.ref f4)))
    (l4 : K.lookup f4 = some ⟨oc4, od4, .func (PySem.W.fnOf "smooth_of" "smooth_of" (defArgs sSmooth) (defBody sSmooth) (defScope sSmooth) .none kV4 dc4 pm4 an4 cd4 ct4), sl4⟩)
    (c4 : PySem.W.codeIn K cd4 "smooth_of" = true)
    (k4 : PySem.W.keepIn K (.ref f4) = true)
    (a5 : PySem.W.nsIn K mainGlobals "last_smooth_ones" = some (some (.ref f5)))
    (l5 : K.lookup f5 = some ⟨oc5, od5, .func (PySem.W.fnOf "last_smooth_ones" "last_smooth_ones" (defArgs sLastSmooth) (defBody sLastSmooth) (defScope sLastSmooth) .none kV5 dc5 pm5 an5 cd5 ct5), sl5⟩)
    (c5 : PySem.W.codeIn K cd5 "last_smooth_ones" = true)
    (k5 : PySem.W.keepIn K (.ref f5) = true)
    (a6 : PySem.W.nsIn K mainGlobals "last_ones" = some (some (.ref f6)))
    (l6 : K.lookup f6 = some ⟨oc6, od6, .func (PySem.W.fnOf "last_ones" "last_ones" (defArgs sLastOnes) (defBody sLastOnes) (defScope sLastOnes) .none kV6 dc6 pm6 an6 cd6 ct6), sl6⟩)
    (c6 : PySem.W.codeIn K cd6 "last_ones" = true)
    (k6 : PySem.W.keepIn K (.ref f6) = true)
    (a7 : PySem.W.nsIn K mainGlobals "are_settings" = some (some (.ref f7)))
    (l7 : K.lookup f7 = some ⟨oc7, od7, .func (PySem.W.fnOf "are_settings" "are_settings" (defArgs sAreSettings) (defBody sAreSettings) (defScope sAreSettings) .none kV7 dc7 pm7 an7 cd7 ct7), sl7⟩)
    (c7 : PySem.W.codeIn K cd7 "are_settings" = true)
    (k7 : PySem.W.keepIn K (.ref f7) = true)
    (a8 : PySem.W.nsIn K mainGlobals "nearest" = some (some (.ref f8)))
    (l8 : K.lookup f8 = some ⟨oc8, od8, .func (PySem.W.fnOf "nearest" "nearest" (defArgs sNearest) (defBody sNearest) (defScope sNearest) .none kV8 dc8 pm8 an8 cd8 ct8), sl8⟩)
    (c8 : PySem.W.codeIn K cd8 "nearest" = true)
    (k8 : PySem.W.keepIn K (.ref f8) = true)
    (a9 : PySem.W.nsIn K mainGlobals "weight_of" = some (some (.ref f9)))
    (l9 : K.lookup f9 = some ⟨oc9, od9, .func (PySem.W.fnOf "weight_of" "weight_of" (defArgs sWeight) (defBody sWeight) (defScope sWeight) .none kV9 dc9 pm9 an9 cd9 ct9), sl9⟩)
    (c9 : PySem.W.codeIn K cd9 "weight_of" = true)
    (k9 : PySem.W.keepIn K (.ref f9) = true)
    (a10 : PySem.W.nsIn K mainGlobals "is_still" = some (some (.ref f10)))
    (l10 : K.lookup f10 = some ⟨oc10, od10, .func (PySem.W.fnOf "is_still" "is_still" (defArgs sStill) (defBody sStill) (defScope sStill) .none kV10 dc10 pm10 an10 cd10 ct10), sl10⟩)
    (c10 : PySem.W.codeIn K cd10 "is_still" = true)
    (k10 : PySem.W.keepIn K (.ref f10) = true)
    (a11 : PySem.W.nsIn K mainGlobals "is_under" = some (some (.ref f11)))
    (l11 : K.lookup f11 = some ⟨oc11, od11, .func (PySem.W.fnOf "is_under" "is_under" (defArgs sUnder) (defBody sUnder) (defScope sUnder) .none kV11 dc11 pm11 an11 cd11 ct11), sl11⟩)
    (c11 : PySem.W.codeIn K cd11 "is_under" = true)
    (k11 : PySem.W.keepIn K (.ref f11) = true)
    (a12 : PySem.W.nsIn K mainGlobals "is_over" = some (some (.ref f12)))
    (l12 : K.lookup f12 = some ⟨oc12, od12, .func (PySem.W.fnOf "is_over" "is_over" (defArgs sOver) (defBody sOver) (defScope sOver) .none kV12 dc12 pm12 an12 cd12 ct12), sl12⟩)
    (c12 : PySem.W.codeIn K cd12 "is_over" = true)
    (k12 : PySem.W.keepIn K (.ref f12) = true)
    (a13 : PySem.W.nsIn K mainGlobals "begin" = some (some (.ref f13)))
    (l13 : K.lookup f13 = some ⟨oc13, od13, .func (PySem.W.fnOf "begin" "begin" (defArgs sBegin) (defBody sBegin) (defScope sBegin) .none kV13 dc13 pm13 an13 cd13 ct13), sl13⟩)
    (c13 : PySem.W.codeIn K cd13 "begin" = true)
    (k13 : PySem.W.keepIn K (.ref f13) = true)
    (a14 : PySem.W.nsIn K mainGlobals "has_begun" = some (some (.ref f14)))
    (l14 : K.lookup f14 = some ⟨oc14, od14, .func (PySem.W.fnOf "has_begun" "has_begun" (defArgs sHasBegun) (defBody sHasBegun) (defScope sHasBegun) .none kV14 dc14 pm14 an14 cd14 ct14), sl14⟩)
    (c14 : PySem.W.codeIn K cd14 "has_begun" = true)
    (k14 : PySem.W.keepIn K (.ref f14) = true)
    (a15 : PySem.W.nsIn K mainGlobals "take" = some (some (.ref f15)))
    (l15 : K.lookup f15 = some ⟨oc15, od15, .func (PySem.W.fnOf "take" "take" (defArgs sTake) (defBody sTake) (defScope sTake) .none kV15 dc15 pm15 an15 cd15 ct15), sl15⟩)
    (c15 : PySem.W.codeIn K cd15 "take" = true)
    (k15 : PySem.W.keepIn K (.ref f15) = true)
    (a16 : PySem.W.nsIn K mainGlobals "told" = some (some (.ref f16)))
    (l16 : K.lookup f16 = some ⟨oc16, od16, .func (PySem.W.fnOf "told" "told" (defArgs sTold) (defBody sTold) (defScope sTold) .none kV16 dc16 pm16 an16 cd16 ct16), sl16⟩)
    (c16 : PySem.W.codeIn K cd16 "told" = true)
    (k16 : PySem.W.keepIn K (.ref f16) = true)
    (a17 : PySem.W.nsIn K mainGlobals "start" = some (some (.ref f17)))
    (l17 : K.lookup f17 = some ⟨oc17, od17, .func (PySem.W.fnOf "start" "start" (defArgs sStart) (defBody sStart) (defScope sStart) .none kV17 dc17 pm17 an17 cd17 ct17), sl17⟩)
    (c17 : PySem.W.codeIn K cd17 "start" = true)
    (k17 : PySem.W.keepIn K (.ref f17) = true)
    (a18 : PySem.W.nsIn K mainGlobals "feed" = some (some (.ref f18)))
    (l18 : K.lookup f18 = some ⟨oc18, od18, .func (PySem.W.fnOf "feed" "feed" (defArgs sFeed) (defBody sFeed) (defScope sFeed) .none kV18 dc18 pm18 an18 cd18 ct18), sl18⟩)
    (c18 : PySem.W.codeIn K cd18 "feed" = true)
    (k18 : PySem.W.keepIn K (.ref f18) = true)
    (a19 : PySem.W.nsIn K mainGlobals "call_end" = some (some (.ref f19)))
    (l19 : K.lookup f19 = some ⟨oc19, od19, .func (PySem.W.fnOf "call_end" "call_end" (defArgs sCallEnd) (defBody sCallEnd) (defScope sCallEnd) .none kV19 dc19 pm19 an19 cd19 ct19), sl19⟩)
    (c19 : PySem.W.codeIn K cd19 "call_end" = true)
    (k19 : PySem.W.keepIn K (.ref f19) = true)
    (a20 : PySem.W.nsIn K mainGlobals "answer" = some (some (.ref f20)))
    (l20 : K.lookup f20 = some ⟨oc20, od20, .func (PySem.W.fnOf "answer" "answer" (defArgs sAnswer) (defBody sAnswer) (defScope sAnswer) .none kV20 dc20 pm20 an20 cd20 ct20), sl20⟩)
    (c20 : PySem.W.codeIn K cd20 "answer" = true)
    (k20 : PySem.W.keepIn K (.ref f20) = true)
    (a21 : PySem.W.nsIn K mainGlobals "answers" = some (some (.ref f21)))
    (l21 : K.lookup f21 = some ⟨oc21, od21, .func (PySem.W.fnOf "answers" "answers" (defArgs sAnswers) (defBody sAnswers) (defScope sAnswers) .none kV21 dc21 pm21 an21 cd21 ct21), sl21⟩)
    (c21 : PySem.W.codeIn K cd21 "answers" = true)
    (k21 : PySem.W.keepIn K (.ref f21) = true)
    (aCCS : PySem.W.nsIn K mainGlobals "Setting" = some (some (.ref CS)))
    (a22 : PySem.W.findIn K (.ref CS) "__init__" = some (some (.ref f22)))
    (i22 : PySem.W.isFn K (.ref f22) = true)
    (l22 : K.lookup f22 = some ⟨oc22, od22, .func (PySem.W.fnOf "__init__" "Setting.__init__" (defArgs sSetInit) (defBody sSetInit) (defScope sSetInit) .none kV22 dc22 pm22 an22 cd22 ct22), sl22⟩)
    (c22 : PySem.W.codeIn K cd22 "Setting.__init__" = true)
    (k22 : PySem.W.keepIn K (.ref f22) = true)
    (pgCS : PySem.W.plainGet K CS Str.empty = true)
    (hdCS : PySem.W.hasDictIn K CS = true)
    (poCS : PySem.W.plainOver K CS = true)
    (saCS : PySem.W.findIn K (.ref CS) "__setattr__" = some (some (.builtin "object.__setattr__")))
    (mkCS : PySem.W.makesIn K CS = true)
    (kcCS : PySem.W.keepIn K (.ref CS) = true)
    (nCS1 : PySem.W.findIn K (.ref CS) "zero" = some none)
    (nCS2 : PySem.W.findIn K (.ref CS) "span" = some none)
    (nCS3 : PySem.W.findIn K (.ref CS) "most" = some none)
    (nCS4 : PySem.W.findIn K (.ref CS) "window" = some none)
    (aCCC : PySem.W.nsIn K mainGlobals "Cell" = some (some (.ref CC)))
    (a23 : PySem.W.findIn K (.ref CC) "__init__" = some (some (.ref f23)))
    (i23 : PySem.W.isFn K (.ref f23) = true)
    (l23 : K.lookup f23 = some ⟨oc23, od23, .func (PySem.W.fnOf "__init__" "Cell.__init__" (defArgs sCellInit) (defBody sCellInit) (defScope sCellInit) .none kV23 dc23 pm23 an23 cd23 ct23), sl23⟩)
    (c23 : PySem.W.codeIn K cd23 "Cell.__init__" = true)
    (k23 : PySem.W.keepIn K (.ref f23) = true)
    (pgCC : PySem.W.plainGet K CC Str.empty = true)
    (hdCC : PySem.W.hasDictIn K CC = true)
    (poCC : PySem.W.plainOver K CC = true)
    (saCC : PySem.W.findIn K (.ref CC) "__setattr__" = some (some (.builtin "object.__setattr__")))
    (mkCC : PySem.W.makesIn K CC = true)
    (kcCC : PySem.W.keepIn K (.ref CC) = true)
    (nCC1 : PySem.W.findIn K (.ref CC) "setting" = some none)
    (nCC2 : PySem.W.findIn K (.ref CC) "readings" = some none)
    (vLEASTREADING : PySem.W.nsIn K mainGlobals "LEAST_READING" = some (some (.int (-8388608) tLEASTREADING)))
    (vGREATESTREADING : PySem.W.nsIn K mainGlobals "GREATEST_READING" = some (some (.int 8388607 tGREATESTREADING)))
    (vTOP : PySem.W.nsIn K mainGlobals "TOP" = some (some (.int 32 tTOP)))
    (vTAKEN : PySem.W.nsIn K mainGlobals "TAKEN" = some (some (.int 63 tTAKEN)))
    (vLOOKEDAT : PySem.W.nsIn K mainGlobals "LOOKED_AT" = some (some (.int 32 tLOOKEDAT)))
    (vNEEDED : PySem.W.nsIn K mainGlobals "NEEDED" = some (some (.int 94 tNEEDED)))
    (vGAIN : PySem.W.nsIn K mainGlobals "GAIN" = some (some (.int 1024 tGAIN)))
    (vLOWEST : PySem.W.nsIn K mainGlobals "LOWEST" = some (some (.int (-20) tLOWEST)))
    (vBEYOND : PySem.W.nsIn K mainGlobals "BEYOND" = some (some (.int 9 tBEYOND)))
    (vSTART : PySem.W.nsIn K mainGlobals "START" = some (some (.int 0 tSTART)))
    (vSETTINGS : PySem.W.nsIn K mainGlobals "SETTINGS" = some (some (.int 4 tSETTINGS)))
    (vMOST : PySem.W.nsIn K mainGlobals "MOST" = some (some (.int 1024 tMOST)))
    (vNOTBEGUN : PySem.W.nsIn K mainGlobals "NOT_BEGUN" = some (some (.int (-11) tNOTBEGUN)))
    (vOUTOFRANGE : PySem.W.nsIn K mainGlobals "OUT_OF_RANGE" = some (some (.int (-22) tOUTOFRANGE)))
    (benumerate : PySem.W.nsIn K mainGlobals "enumerate" = some none)
    (brange : PySem.W.nsIn K mainGlobals "range" = some none)
    (blen : PySem.W.nsIn K mainGlobals "len" = some none)
    (blist : PySem.W.nsIn K mainGlobals "list" = some none)
    (bzip : PySem.W.nsIn K mainGlobals "zip" = some none)
    (bmax : PySem.W.nsIn K mainGlobals "max" = some none)
    (bmin : PySem.W.nsIn K mainGlobals "min" = some none)
    (bint : PySem.W.nsIn K mainGlobals "int" = some none)
    (gSH : PySem.W.nsIn K mainGlobals "SHARES" = some (some (.ref SH)))
    (gNO : PySem.W.nsIn K mainGlobals "NOTHING" = some (some (.ref NO)))
    (tlSH : K.lookup SH = some ⟨.type "tuple", dTSH, .seq #[.ref s1, .ref s2, .ref s3, .ref s4] nTSH, zTSH⟩)
    (tls1 : K.lookup s1 = some ⟨.type "tuple", dTs1, .seq #[.int (-4194304) u1, .int 4194304 w1] nTs1, zTs1⟩)
    (tls2 : K.lookup s2 = some ⟨.type "tuple", dTs2, .seq #[.int 1000 u2, .int 8388608 w2] nTs2, zTs2⟩)
    (tls3 : K.lookup s3 = some ⟨.type "tuple", dTs3, .seq #[.int 100 u3, .int 100000 w3] nTs3, zTs3⟩)
    (tls4 : K.lookup s4 = some ⟨.type "tuple", dTs4, .seq #[.int 1 u4, .int 1048576 w4] nTs4, zTs4⟩)
    (tlNO : K.lookup NO = some ⟨.type "tuple", dTNO, .seq #[.int 0 x1, .int 0 x2, .int 0 x3, .int 0 x4, .int 0 x5] nTNO, zTNO⟩)
    : ∃ fd : FuncData, (∀ (s : Shared) (us : List Value), us.length = (["calls"] : List Str).length → BindsTo s fd ⟨us, []⟩ ((["calls"] : List Str).zip us)) ∧ ∀ base : Heap, K.In base → base.Ns mainGlobals mg → FnOk P w K mg base CX0 7 fa fd ["calls"] (spAnswers K) := by
  have e := hfa.symm.trans (PySem.W.mg_of X G a21)
  cases e
  have F1 := fun_mk (st := sIsReading) l1 c1 k1
  have b1 := F1.binds (ps := ["number"]) fun _ _ _ _ _ _ us hl => match us, hl with | [_], _ => rfl
  have F2 := fun_mk (st := sAreReadings) l2 c2 k2
  have b2 := F2.binds (ps := ["row"]) fun _ _ _ _ _ _ us hl => match us, hl with | [_], _ => rfl
  have F3 := fun_mk (st := sTimes) l3 c3 k3
  have b3 := F3.binds (ps := ["place"]) fun _ _ _ _ _ _ us hl => match us, hl with | [_], _ => rfl
  have F4 := fun_mk (st := sSmooth) l4 c4 k4
  have b4 := F4.binds (ps := ["some"]) fun _ _ _ _ _ _ us hl => match us, hl with | [_], _ => rfl
  have F5 := fun_mk (st := sLastSmooth) l5 c5 k5
  have b5 := F5.binds (ps := ["readings"]) fun _ _ _ _ _ _ us hl => match us, hl with | [_], _ => rfl
  have F6 := fun_mk (st := sLastOnes) l6 c6 k6
  have b6 := F6.binds (ps := ["readings"]) fun _ _ _ _ _ _ us hl => match us, hl with | [_], _ => rfl
  have F7 := fun_mk (st := sAreSettings) l7 c7 k7
  have b7 := F7.binds (ps := ["numbers"]) fun _ _ _ _ _ _ us hl => match us, hl with | [_], _ => rfl
  have F8 := fun_mk (st := sNearest) l8 c8 k8
  have b8 := F8.binds (ps := ["number", "by"]) fun _ _ _ _ _ _ us hl => match us, hl with | [_, _], _ => rfl
  have F9 := fun_mk (st := sWeight) l9 c9 k9
  have b9 := F9.binds (ps := ["setting", "smooth"]) fun _ _ _ _ _ _ us hl => match us, hl with | [_, _], _ => rfl
  have F10 := fun_mk (st := sStill) l10 c10 k10
  have b10 := F10.binds (ps := ["setting", "some"]) fun _ _ _ _ _ _ us hl => match us, hl with | [_, _], _ => rfl
  have F11 := fun_mk (st := sUnder) l11 c11 k11
  have b11 := F11.binds (ps := ["weight"]) fun _ _ _ _ _ _ us hl => match us, hl with | [_], _ => rfl
  have F12 := fun_mk (st := sOver) l12 c12 k12
  have b12 := F12.binds (ps := ["setting", "weight"]) fun _ _ _ _ _ _ us hl => match us, hl with | [_, _], _ => rfl
  have F13 := fun_mk (st := sBegin) l13 c13 k13
  have b13 := F13.binds (ps := ["cell", "setting"]) fun _ _ _ _ _ _ us hl => match us, hl with | [_, _], _ => rfl
  have F14 := fun_mk (st := sHasBegun) l14 c14 k14
  have b14 := F14.binds (ps := ["cell"]) fun _ _ _ _ _ _ us hl => match us, hl with | [_], _ => rfl
  have F15 := fun_mk (st := sTake) l15 c15 k15
  have b15 := F15.binds (ps := ["cell", "row"]) fun _ _ _ _ _ _ us hl => match us, hl with | [_, _], _ => rfl
  have F16 := fun_mk (st := sTold) l16 c16 k16
  have b16 := F16.binds (ps := ["cell"]) fun _ _ _ _ _ _ us hl => match us, hl with | [_], _ => rfl
  have F17 := fun_mk (st := sStart) l17 c17 k17
  have b17 := F17.binds (ps := ["cell", "numbers"]) fun _ _ _ _ _ _ us hl => match us, hl with | [_, _], _ => rfl
  have F18 := fun_mk (st := sFeed) l18 c18 k18
  have b18 := F18.binds (ps := ["cell", "row"]) fun _ _ _ _ _ _ us hl => match us, hl with | [_, _], _ => rfl
  have F19 := fun_mk (st := sCallEnd) l19 c19 k19
  have b19 := F19.binds (ps := ["calls", "at"]) fun _ _ _ _ _ _ us hl => match us, hl with | [_, _], _ => rfl
  have F20 := fun_mk (st := sAnswer) l20 c20 k20
  have b20 := F20.binds (ps := ["cell", "call"]) fun _ _ _ _ _ _ us hl => match us, hl with | [_, _], _ => rfl
  have F21 := fun_mk (st := sAnswers) l21 c21 k21
  have b21 := F21.binds (ps := ["calls"]) fun _ _ _ _ _ _ us hl => match us, hl with | [_], _ => rfl
  have F22 := fun_mk (st := sSetInit) l22 c22 k22
  have b22 := F22.binds (ps := ["self", "zero", "span", "most", "window"]) fun _ _ _ _ _ _ us hl => match us, hl with | [_, _, _, _, _], _ => rfl
  have F23 := fun_mk (st := sCellInit) l23 c23 k23
  have b23 := F23.binds (ps := ["self"]) fun _ _ _ _ _ _ us hl => match us, hl with | [_], _ => rfl
  have CLEASTREADING : GI mg "LEAST_READING" (-8388608) := ⟨_, PySem.W.mg_of X G vLEASTREADING⟩
  have CGREATESTREADING : GI mg "GREATEST_READING" 8388607 := ⟨_, PySem.W.mg_of X G vGREATESTREADING⟩
  have CTOP : GI mg "TOP" 32 := ⟨_, PySem.W.mg_of X G vTOP⟩
  have CTAKEN : GI mg "TAKEN" 63 := ⟨_, PySem.W.mg_of X G vTAKEN⟩
  have CLOOKEDAT : GI mg "LOOKED_AT" 32 := ⟨_, PySem.W.mg_of X G vLOOKEDAT⟩
  have CNEEDED : GI mg "NEEDED" 94 := ⟨_, PySem.W.mg_of X G vNEEDED⟩
  have CGAIN : GI mg "GAIN" 1024 := ⟨_, PySem.W.mg_of X G vGAIN⟩
  have CLOWEST : GI mg "LOWEST" (-20) := ⟨_, PySem.W.mg_of X G vLOWEST⟩
  have CBEYOND : GI mg "BEYOND" 9 := ⟨_, PySem.W.mg_of X G vBEYOND⟩
  have CSTART : GI mg "START" 0 := ⟨_, PySem.W.mg_of X G vSTART⟩
  have CSETTINGS : GI mg "SETTINGS" 4 := ⟨_, PySem.W.mg_of X G vSETTINGS⟩
  have CMOST : GI mg "MOST" 1024 := ⟨_, PySem.W.mg_of X G vMOST⟩
  have CNOTBEGUN : GI mg "NOT_BEGUN" (-11) := ⟨_, PySem.W.mg_of X G vNOTBEGUN⟩
  have COUTOFRANGE : GI mg "OUT_OF_RANGE" (-22) := ⟨_, PySem.W.mg_of X G vOUTOFRANGE⟩
  have Nenumerate := PySem.W.mg_none_of X G benumerate
  have Nrange := PySem.W.mg_none_of X G brange
  have Nlen := PySem.W.mg_none_of X G blen
  have Nlist := PySem.W.mg_none_of X G blist
  have Nzip := PySem.W.mg_none_of X G bzip
  have Nmax := PySem.W.mg_none_of X G bmax
  have Nmin := PySem.W.mg_none_of X G bmin
  have Nint := PySem.W.mg_none_of X G bint
  have TSH : TupK K SH [.ref s1, .ref s2, .ref s3, .ref s4] := ⟨_, _, _, tlSH, rfl, rfl, (by show 4 ≤ sizeLine; decide), .cons rfl (.cons rfl (.cons rfl (.cons rfl (.nil))))⟩
  have Ts1 : TupK K s1 [.int (-4194304), .int 4194304] := ⟨_, _, _, tls1, rfl, rfl, (by show 2 ≤ sizeLine; decide), .cons ⟨_, rfl⟩ (.cons ⟨_, rfl⟩ (.nil))⟩
  have Ts2 : TupK K s2 [.int 1000, .int 8388608] := ⟨_, _, _, tls2, rfl, rfl, (by show 2 ≤ sizeLine; decide), .cons ⟨_, rfl⟩ (.cons ⟨_, rfl⟩ (.nil))⟩
  have Ts3 : TupK K s3 [.int 100, .int 100000] := ⟨_, _, _, tls3, rfl, rfl, (by show 2 ≤ sizeLine; decide), .cons ⟨_, rfl⟩ (.cons ⟨_, rfl⟩ (.nil))⟩
  have Ts4 : TupK K s4 [.int 1, .int 1048576] := ⟨_, _, _, tls4, rfl, rfl, (by show 2 ≤ sizeLine; decide), .cons ⟨_, rfl⟩ (.cons ⟨_, rfl⟩ (.nil))⟩
  have TNO : TupK K NO [.int 0, .int 0, .int 0, .int 0, .int 0] := ⟨_, _, _, tlNO, rfl, rfl, (by show 5 ≤ sizeLine; decide), .cons ⟨_, rfl⟩ (.cons ⟨_, rfl⟩ (.cons ⟨_, rfl⟩ (.cons ⟨_, rfl⟩ (.cons ⟨_, rfl⟩ (.nil)))))⟩
  have TS : TxtS K CS := ⟨⟨pgCS, hdCS, poCS, saCS⟩, nCS1, nCS2, nCS3, nCS4⟩
  have TC : TxtC K CC := ⟨⟨pgCC, hdCC, poCC, saCC⟩, nCC1, nCC2⟩
  refine ⟨PySem.W.fnOf "answers" "answers" (defArgs sAnswers) (defBody sAnswers) (defScope sAnswers) .none kV21 dc21 pm21 an21 cd21 ct21, fun s us hu => match us, hu with | [_], _ => .of_eq rfl, fun base _ _ => ?_⟩
  have G1 : Cal P w K mg base "is_reading" 1 f1 _ ["number"] spIsReading := ⟨okIsReading F1 CLEASTREADING CGREATESTREADING, PySem.W.mg_of X G a1, k1, b1⟩
  have G2 : Cal P w K mg base "are_readings" 2 f2 _ ["row"] (spAreReadings K) := ⟨okAreReadings F2 G1, PySem.W.mg_of X G a2, k2, b2⟩
  have G3 : Cal P w K mg base "times_of" 1 f3 _ ["place"] spTimes := ⟨okTimes F3 CTOP CTAKEN, PySem.W.mg_of X G a3, k3, b3⟩
  have G4 : Cal P w K mg base "smooth_of" 2 f4 _ ["some"] (spSmooth K) := ⟨okSmooth F4 Nenumerate G3, PySem.W.mg_of X G a4, k4, b4⟩
  have G5 : Cal P w K mg base "last_smooth_ones" 3 f5 _ ["readings"] (spLastSmooth K) := ⟨okLastSmooth F5 Nrange CLOOKEDAT CTAKEN G4, PySem.W.mg_of X G a5, k5, b5⟩
  have G6 : Cal P w K mg base "last_ones" 1 f6 _ ["readings"] (spLastOnes K) := ⟨okLastOnes F6 Nlen Nlist CNEEDED, PySem.W.mg_of X G a6, k6, b6⟩
  have G7 : Cal P w K mg base "are_settings" 1 f7 _ ["numbers"] (spAreSettings K) := ⟨okAreSettings F7 Nzip (PySem.W.mg_of X G gSH) TSH Ts1 Ts2 Ts3 Ts4, PySem.W.mg_of X G a7, k7, b7⟩
  have G8 : Cal P w K mg base "nearest" 1 f8 _ ["number", "by"] spNearest := ⟨okNearest F8, PySem.W.mg_of X G a8, k8, b8⟩
  have G9 : Cal P w K mg base "weight_of" 2 f9 _ ["setting", "smooth"] (spWeight CS) := ⟨okWeight F9 TS CGAIN G8, PySem.W.mg_of X G a9, k9, b9⟩
  have G10 : Cal P w K mg base "is_still" 1 f10 _ ["setting", "some"] (spStill K CS) := ⟨okStill F10 TS Nmax Nmin CGAIN, PySem.W.mg_of X G a10, k10, b10⟩
  have G11 : Cal P w K mg base "is_under" 1 f11 _ ["weight"] spUnder := ⟨okUnder F11 CLOWEST, PySem.W.mg_of X G a11, k11, b11⟩
  have G12 : Cal P w K mg base "is_over" 1 f12 _ ["setting", "weight"] (spOver CS) := ⟨okOver F12 TS CBEYOND, PySem.W.mg_of X G a12, k12, b12⟩
  have G13 : Cal P w K mg base "begin" 1 f13 _ ["cell", "setting"] (spBegin CC) := ⟨okBegin F13 TC, PySem.W.mg_of X G a13, k13, b13⟩
  have G14 : Cal P w K mg base "has_begun" 1 f14 _ ["cell"] (spHasBegun CC CS) := ⟨okHasBegun F14 TC, PySem.W.mg_of X G a14, k14, b14⟩
  have G15 : Cal P w K mg base "take" 2 f15 _ ["cell", "row"] (spTake CC CS) := ⟨okTake F15 TC G6, PySem.W.mg_of X G a15, k15, b15⟩
  have G16 : Cal P w K mg base "told" 4 f16 _ ["cell"] (spTold CC CS) := ⟨okTold F16 TC Nlen Nlist Nint CNEEDED (PySem.W.mg_of X G gNO) TNO G5 G9 G10 G11 G12, PySem.W.mg_of X G a16, k16, b16⟩
  have G17 : Cal P w K mg base "start" 3 f17 _ ["cell", "numbers"] (spStart K CC CS) := ⟨okStart F17 COUTOFRANGE (PySem.W.mg_of X G aCCS) G7 G13 ⟨mkCS, a22, i22, kcCS⟩ (okSetInit F22 TS) b22, PySem.W.mg_of X G a17, k17, b17⟩
  have G18 : Cal P w K mg base "feed" 5 f18 _ ["cell", "row"] (spFeed CC CS) := ⟨okFeed F18 Nlen CNOTBEGUN CMOST COUTOFRANGE G14 G2 G15 G16, PySem.W.mg_of X G a18, k18, b18⟩
  have G19 : Cal P w K mg base "call_end" 1 f19 _ ["calls", "at"] (spCallEnd K) := ⟨okCallEnd F19 CSTART CSETTINGS, PySem.W.mg_of X G a19, k19, b19⟩
  have G20 : Cal P w K mg base "answer" 6 f20 _ ["cell", "call"] (spAnswer CC CS) := ⟨okAnswer F20 CSTART G17 G18, PySem.W.mg_of X G a20, k20, b20⟩
  exact okAnswers F21 Nlen (PySem.W.mg_of X G aCCC) G19 G20 ⟨mkCC, a23, i23, kcCC⟩ (okCellInit F23 TC) b23
end Steady
open PySem PySem.W PyProof.Rows
set_option maxRecDepth 100000 in
set_option maxHeartbeats 8000000 in
theorem PySem.Challenge.cw_steadyweight_s01_answers_holds : PySem.Challenge.rw_steadyweight_s01_answers.Holds := by
  w_on; k_headS; (case hw => exact ⟨[.list [.int 1, .int 0]], by decide +kernel, by decide +kernel⟩)
  k_fillS
  refine L2.walk_specK (r := PySem.Challenge.rw_steadyweight_s01_answers) (k := 7) (CX := L2.CX0) (ps := ["calls"]) (sp := Steady.spAnswers) (by decide +kernel) rfl rfl ⟨rfl, by decide, by decide⟩ (fun w h Y => PySem.W.kIn_of Y) ?F ?S (fun _ _ _ _ z => z)
  case F =>
    intro w mg fa h Y KX G hmg
    refine' Steady.all_mk KX G hmg ?a1 ?l1 ?c1 ?k1 ?a2 ?l2 ?c2 ?k2 ?a3 ?l3 ?c3 ?k3 ?a4 ?l4 ?c4 ?k4 ?a5 ?l5 ?c5 ?k5 ?a6 ?l6 ?c6 ?k6 ?a7 ?l7 ?c7 ?k7 ?a8 ?l8 ?c8 ?k8 ?a9 ?l9 ?c9 ?k9 ?a10 ?l10 ?c10 ?k10 ?a11 ?l11 ?c11 ?k11 ?a12 ?l12 ?c12 ?k12 ?a13 ?l13 ?c13 ?k13 ?a14 ?l14 ?c14 ?k14 ?a15 ?l15 ?c15 ?k15 ?a16 ?l16 ?c16 ?k16 ?a17 ?l17 ?c17 ?k17 ?a18 ?l18 ?c18 ?k18 ?a19 ?l19 ?c19 ?k19 ?a20 ?l20 ?c20 ?k20 ?a21 ?l21 ?c21 ?k21 ?aCCS ?a22 ?i22 ?l22 ?c22 ?k22 ?pgCS ?hdCS ?poCS ?saCS ?mkCS ?kcCS ?nCS1 ?nCS2 ?nCS3 ?nCS4 ?aCCC ?a23 ?i23 ?l23 ?c23 ?k23 ?pgCC ?hdCC ?poCC ?saCC ?mkCC ?kcCC ?nCC1 ?nCC2 ?vLEASTREADING ?vGREATESTREADING ?vTOP ?vTAKEN ?vLOOKEDAT ?vNEEDED ?vGAIN ?vLOWEST ?vBEYOND ?vSTART ?vSETTINGS ?vMOST ?vNOTBEGUN ?vOUTOFRANGE ?benumerate ?brange ?blen ?blist ?bzip ?bmax ?bmin ?bint ?gSH ?gNO ?tlSH ?tls1 ?tls2 ?tls3 ?tls4 ?tlNO
    (case a1 => k_is); (case l1 => k_is); (case c1 => k_is); (case k1 => k_is); (case a2 => k_is); (case l2 => k_is); (case c2 => k_is); (case k2 => k_is); (case a3 => k_is); (case l3 => k_is)
    (case c3 => k_is); (case k3 => k_is); (case a4 => k_is); (case l4 => k_is); (case c4 => k_is); (case k4 => k_is); (case a5 => k_is); (case l5 => k_is); (case c5 => k_is); (case k5 => k_is)
    (case a6 => k_is); (case l6 => k_is); (case c6 => k_is); (case k6 => k_is); (case a7 => k_is); (case l7 => k_is); (case c7 => k_is); (case k7 => k_is); (case a8 => k_is); (case l8 => k_is)
    (case c8 => k_is); (case k8 => k_is); (case a9 => k_is); (case l9 => k_is); (case c9 => k_is); (case k9 => k_is); (case a10 => k_is); (case l10 => k_is); (case c10 => k_is); (case k10 => k_is)
    (case a11 => k_is); (case l11 => k_is); (case c11 => k_is); (case k11 => k_is); (case a12 => k_is); (case l12 => k_is); (case c12 => k_is); (case k12 => k_is); (case a13 => k_is)
    (case l13 => k_is); (case c13 => k_is); (case k13 => k_is); (case a14 => k_is); (case l14 => k_is); (case c14 => k_is); (case k14 => k_is); (case a15 => k_is); (case l15 => k_is)
    (case c15 => k_is); (case k15 => k_is); (case a16 => k_is); (case l16 => k_is); (case c16 => k_is); (case k16 => k_is); (case a17 => k_is); (case l17 => k_is); (case c17 => k_is)
    (case k17 => k_is); (case a18 => k_is); (case l18 => k_is); (case c18 => k_is); (case k18 => k_is); (case a19 => k_is); (case l19 => k_is); (case c19 => k_is); (case k19 => k_is)
    (case a20 => k_is); (case l20 => k_is); (case c20 => k_is); (case k20 => k_is); (case a21 => k_is); (case l21 => k_is); (case c21 => k_is); (case k21 => k_is); (case aCCS => k_is)
    (case a22 => k_is); (case i22 => k_is); (case l22 => k_is); (case c22 => k_is); (case k22 => k_is); (case pgCS => k_is); (case hdCS => k_is); (case poCS => k_is); (case saCS => k_is)
    (case mkCS => k_is); (case kcCS => k_is); (case nCS1 => k_is); (case nCS2 => k_is); (case nCS3 => k_is); (case nCS4 => k_is); (case aCCC => k_is); (case a23 => k_is); (case i23 => k_is)
    (case l23 => k_is); (case c23 => k_is); (case k23 => k_is); (case pgCC => k_is); (case hdCC => k_is); (case poCC => k_is); (case saCC => k_is); (case mkCC => k_is); (case kcCC => k_is)
    (case nCC1 => k_is); (case nCC2 => k_is); (case vLEASTREADING => k_is); (case vGREATESTREADING => k_is); (case vTOP => k_is); (case vTAKEN => k_is); (case vLOOKEDAT => k_is); (case vNEEDED => k_is)
    (case vGAIN => k_is); (case vLOWEST => k_is); (case vBEYOND => k_is); (case vSTART => k_is); (case vSETTINGS => k_is); (case vMOST => k_is); (case vNOTBEGUN => k_is); (case vOUTOFRANGE => k_is)
    (case benumerate => k_is); (case brange => k_is); (case blen => k_is); (case blist => k_is); (case bzip => k_is); (case bmax => k_is); (case bmin => k_is); (case bint => k_is)
    (case gSH => k_is); (case gNO => k_is); (case tlSH => k_is); (case tls1 => k_is); (case tls2 => k_is); (case tls3 => k_is); (case tls4 => k_is); (case tlNO => k_is)
  case S =>
    intro K H xs a hO hwi hask hx
    cases hx with
    | cons h1 h2 =>
      cases h2
      cases h1 with
      | @lst b _ _ hs ha =>
        have e := L2.ints_dw a.1 _ ha
        subst e
        have q : ((Codec.inLen 0 31000 a.1 && a.1.all (Codec.inInt (-2147483648) 4294967295)) && true) = true := hwi
        rw [Bool.and_eq_true, Bool.and_eq_true] at q
        have sf : Steady.SqF K H b (a.1.map L2.V.int) := by
          rcases hs with (z | z) | z
          · rcases hO b with y | ⟨ob, u, y⟩
            · rw [z] at y
              cases y
            · rw [z] at y
              cases y
          · exact .inl z
          · exact .inr z
        exact ⟨_, a.1, rfl, sf, (Codec.inNat_iff.mp q.1.1).2, hask, fun H' p hp => .lst (L2.SqL.of hp) (L2.dw_ints _)⟩
#print axioms PySem.Challenge.cw_steadyweight_s01_answers_holds
