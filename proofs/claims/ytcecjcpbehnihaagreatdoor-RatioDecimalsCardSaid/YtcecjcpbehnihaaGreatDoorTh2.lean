/- What the told functions answer, part 2. No condition. -/
import Derived.Test.YtcecjcpbehnihaaGreatDoorTh1
import Derived.Laws.RangeAny
import Derived.Laws.RangeString
set_option linter.all false
namespace Go.DI.Th
open Go Go.RowKit Go.DI

def Le {α : Type} (a b : Option α) : Prop := ∀ r, a = some r → b = some r
theorem Le.refl {α : Type} (a : Option α) : Le a a := fun _ h => h
theorem Le.none {α : Type} (b : Option α) : Le none b := fun _ h => by cases h
theorem Le.eqs {α : Type} {a b c d : Option α} (h : a = c) (h' : b = d) (k : Le c d) : Le a b := by subst h; subst h'; exact k
theorem Le.bind {α β : Type} {a b : Option α} {f g : α → Option β} (h : Le a b) (k : ∀ v, Le (f v) (g v)) : Le (a.bind f) (b.bind g) := by
  intro r hr
  cases ha : a with
  | none => rw [ha] at hr; cases hr
  | some v =>
    rw [ha] at hr
    rw [h v ha]
    exact k v r hr
theorem Le.ite {α : Type} {c : Prop} [Decidable c] {a b a' b' : Option α} (h : Le a a') (k : Le b b') : Le (if c then a else b) (if c then a' else b') := by
  split
  · exact h
  · exact k
theorem Ev.mono {α : Type} {g : Nat → Option α} (h : ∀ k, Le (g k) (g (k + 1))) {K : Nat} {r : α} (hk : g K = some r) : Ev g r := by
  refine ⟨K, fun n hn => ?_⟩
  induction hn with
  | refl => exact hk
  | step _ ih => exact h _ r ih
theorem nat_trim.monoL (k : Nat) : (∀ x0 x1, Le (nat_trim.l0 k x0 x1) (nat_trim.l0 (k + 1) x0 x1)) := by
  induction k with
  | zero => exact fun _ _ => Le.none _
  | succ k ih =>
    intro x0 x1
    refine Le.eqs (nat_trim.l0.eq_2 ..) (nat_trim.l0.eq_2 ..) ?_
    repeat' (first
      | with_reducible exact Le.refl _
      | with_reducible refine Le.ite ?_ ?_
      | with_reducible exact ih _ _
      | with_reducible refine Le.bind (ih _ _) (fun _ => ?_)
      | with_reducible refine Le.bind (Le.refl _) (fun _ => ?_)
      | split)
theorem nat_trim.mono (k : Nat) : ∀ x0, Le (nat_trim.f k x0) (nat_trim.f (k + 1) x0) := by
  intro x0
  unfold nat_trim.f
  repeat' (first
    | with_reducible exact Le.refl _
    | with_reducible refine Le.ite ?_ ?_
    | with_reducible exact (nat_trim.monoL k) _ _
    | with_reducible refine Le.bind (Le.refl _) (fun _ => ?_)
    | split)
theorem nat_Clean.monoL (k : Nat) : (∀ x0 x1 x2 x3, Le (nat_Clean.l0 k x0 x1 x2 x3) (nat_Clean.l0 (k + 1) x0 x1 x2 x3)) := by
  induction k with
  | zero => exact fun _ _ _ _ => Le.none _
  | succ k ih =>
    intro x0 x1 x2 x3
    refine Le.eqs (nat_Clean.l0.eq_2 ..) (nat_Clean.l0.eq_2 ..) ?_
    repeat' (first
      | with_reducible exact Le.refl _
      | with_reducible refine Le.ite ?_ ?_
      | with_reducible exact ih _ _ _ _
      | with_reducible refine Le.bind (ih _ _ _ _) (fun _ => ?_)
      | with_reducible refine Le.bind (nat_trim.mono k _) (fun _ => ?_)
      | with_reducible exact nat_trim.mono k _
      | with_reducible refine Le.bind (Le.refl _) (fun _ => ?_)
      | split)
theorem nat_Clean.mono (k : Nat) : ∀ x0, Le (nat_Clean.f k x0) (nat_Clean.f (k + 1) x0) := by
  intro x0
  unfold nat_Clean.f
  repeat' (first
    | with_reducible exact Le.refl _
    | with_reducible refine Le.ite ?_ ?_
    | with_reducible exact (nat_Clean.monoL k) _ _ _ _
    | with_reducible refine Le.bind (Le.refl _) (fun _ => ?_)
    | split)
theorem whole_Clean.mono (k : Nat) : ∀ x0 x1, Le (whole_Clean.f k x0 x1) (whole_Clean.f (k + 1) x0 x1) := by
  intro x0 x1
  unfold whole_Clean.f
  repeat' (first
    | with_reducible exact Le.refl _
    | with_reducible refine Le.ite ?_ ?_
    | with_reducible refine Le.bind (nat_Clean.mono k _) (fun _ => ?_)
    | with_reducible exact nat_Clean.mono k _
    | with_reducible refine Le.bind (Le.refl _) (fun _ => ?_)
    | split)
theorem whole_Sign.mono (k : Nat) : ∀ x0 x1, Le (whole_Sign.f k x0 x1) (whole_Sign.f (k + 1) x0 x1) := by
  intro x0 x1
  unfold whole_Sign.f
  repeat' (first
    | with_reducible exact Le.refl _
    | with_reducible refine Le.ite ?_ ?_
    | with_reducible refine Le.bind (whole_Clean.mono k _ _) (fun _ => ?_)
    | with_reducible exact whole_Clean.mono k _ _
    | with_reducible refine Le.bind (Le.refl _) (fun _ => ?_)
    | split)
theorem whole_Neg.mono (k : Nat) : ∀ x0 x1, Le (whole_Neg.f k x0 x1) (whole_Neg.f (k + 1) x0 x1) := by
  intro x0 x1
  unfold whole_Neg.f
  repeat' (first
    | with_reducible exact Le.refl _
    | with_reducible refine Le.ite ?_ ?_
    | with_reducible refine Le.bind (whole_Clean.mono k _ _) (fun _ => ?_)
    | with_reducible exact whole_Clean.mono k _ _
    | with_reducible refine Le.bind (Le.refl _) (fun _ => ?_)
    | split)
theorem nat_Of.mono (k : Nat) : ∀ x0, Le (nat_Of.f k x0) (nat_Of.f (k + 1) x0) := by
  intro x0
  unfold nat_Of.f
  repeat' (first
    | with_reducible exact Le.refl _
    | with_reducible refine Le.ite ?_ ?_
    | with_reducible refine Le.bind (nat_trim.mono k _) (fun _ => ?_)
    | with_reducible exact nat_trim.mono k _
    | with_reducible refine Le.bind (Le.refl _) (fun _ => ?_)
    | split)
theorem nat_order.monoL (k : Nat) : (∀ x0 x1 x2, Le (nat_order.l0 k x0 x1 x2) (nat_order.l0 (k + 1) x0 x1 x2)) := by
  induction k with
  | zero => exact fun _ _ _ => Le.none _
  | succ k ih =>
    intro x0 x1 x2
    refine Le.eqs (nat_order.l0.eq_2 ..) (nat_order.l0.eq_2 ..) ?_
    repeat' (first
      | with_reducible exact Le.refl _
      | with_reducible refine Le.ite ?_ ?_
      | with_reducible exact ih _ _ _
      | with_reducible refine Le.bind (ih _ _ _) (fun _ => ?_)
      | with_reducible refine Le.bind (Le.refl _) (fun _ => ?_)
      | split)
theorem nat_order.mono (k : Nat) : ∀ x0 x1, Le (nat_order.f k x0 x1) (nat_order.f (k + 1) x0 x1) := by
  intro x0 x1
  unfold nat_order.f
  repeat' (first
    | with_reducible exact Le.refl _
    | with_reducible refine Le.ite ?_ ?_
    | with_reducible exact (nat_order.monoL k) _ _ _
    | with_reducible refine Le.bind (Le.refl _) (fun _ => ?_)
    | split)
theorem nat_To.mono (k : Nat) : ∀ x0, Le (nat_To.f k x0) (nat_To.f (k + 1) x0) := by
  intro x0
  unfold nat_To.f
  repeat' (first
    | with_reducible exact Le.refl _
    | with_reducible refine Le.ite ?_ ?_
    | with_reducible refine Le.bind (nat_Clean.mono k _) (fun _ => ?_)
    | with_reducible exact nat_Clean.mono k _
    | with_reducible refine Le.bind (Le.refl _) (fun _ => ?_)
    | split)
theorem nat_euclid.monoL (k : Nat) : (∀ x0 x1, Le (nat_euclid.l0 k x0 x1) (nat_euclid.l0 (k + 1) x0 x1)) := by
  induction k with
  | zero => exact fun _ _ => Le.none _
  | succ k ih =>
    intro x0 x1
    refine Le.eqs (nat_euclid.l0.eq_2 ..) (nat_euclid.l0.eq_2 ..) ?_
    repeat' (first
      | with_reducible exact Le.refl _
      | with_reducible refine Le.ite ?_ ?_
      | with_reducible exact ih _ _
      | with_reducible refine Le.bind (ih _ _) (fun _ => ?_)
      | with_reducible refine Le.bind (nat_Of.mono k _) (fun _ => ?_)
      | with_reducible exact nat_Of.mono k _
      | with_reducible refine Le.bind (Le.refl _) (fun _ => ?_)
      | split)
theorem nat_euclid.mono (k : Nat) : ∀ x0 x1, Le (nat_euclid.f k x0 x1) (nat_euclid.f (k + 1) x0 x1) := by
  intro x0 x1
  unfold nat_euclid.f
  repeat' (first
    | with_reducible exact Le.refl _
    | with_reducible refine Le.ite ?_ ?_
    | with_reducible exact (nat_euclid.monoL k) _ _
    | with_reducible refine Le.bind (nat_To.mono k _) (fun _ => ?_)
    | with_reducible exact nat_To.mono k _
    | with_reducible refine Le.bind (Le.refl _) (fun _ => ?_)
    | split)
theorem nat_zeros.monoL (k : Nat) : (∀ x0 x1 x2 x3, Le (nat_zeros.l0 k x0 x1 x2 x3) (nat_zeros.l0 (k + 1) x0 x1 x2 x3)) := by
  induction k with
  | zero => exact fun _ _ _ _ => Le.none _
  | succ k ih =>
    intro x0 x1 x2 x3
    refine Le.eqs (nat_zeros.l0.eq_2 ..) (nat_zeros.l0.eq_2 ..) ?_
    repeat' (first
      | with_reducible exact Le.refl _
      | with_reducible refine Le.ite ?_ ?_
      | with_reducible exact ih _ _ _ _
      | with_reducible refine Le.bind (ih _ _ _ _) (fun _ => ?_)
      | with_reducible refine Le.bind (Le.refl _) (fun _ => ?_)
      | split)
theorem nat_zeros.mono (k : Nat) : ∀ x0, Le (nat_zeros.f k x0) (nat_zeros.f (k + 1) x0) := by
  intro x0
  unfold nat_zeros.f
  repeat' (first
    | with_reducible exact Le.refl _
    | with_reducible refine Le.ite ?_ ?_
    | with_reducible exact (nat_zeros.monoL k) _ _ _ _
    | with_reducible refine Le.bind (Le.refl _) (fun _ => ?_)
    | split)
theorem nat_shr.monoL (k : Nat) : (∀ x0 x1 x2 x3 x4 x5, Le (nat_shr.l0 k x0 x1 x2 x3 x4 x5) (nat_shr.l0 (k + 1) x0 x1 x2 x3 x4 x5)) := by
  induction k with
  | zero => exact fun _ _ _ _ _ _ => Le.none _
  | succ k ih =>
    intro x0 x1 x2 x3 x4 x5
    refine Le.eqs (nat_shr.l0.eq_2 ..) (nat_shr.l0.eq_2 ..) ?_
    repeat' (first
      | with_reducible exact Le.refl _
      | with_reducible refine Le.ite ?_ ?_
      | with_reducible exact ih _ _ _ _ _ _
      | with_reducible refine Le.bind (ih _ _ _ _ _ _) (fun _ => ?_)
      | with_reducible refine Le.bind (nat_trim.mono k _) (fun _ => ?_)
      | with_reducible exact nat_trim.mono k _
      | with_reducible refine Le.bind (Le.refl _) (fun _ => ?_)
      | split)
theorem nat_shr.mono (k : Nat) : ∀ x0 x1, Le (nat_shr.f k x0 x1) (nat_shr.f (k + 1) x0 x1) := by
  intro x0 x1
  unfold nat_shr.f
  repeat' (first
    | with_reducible exact Le.refl _
    | with_reducible refine Le.ite ?_ ?_
    | with_reducible exact (nat_shr.monoL k) _ _ _ _ _ _
    | with_reducible refine Le.bind (Le.refl _) (fun _ => ?_)
    | split)
theorem nat_trimM.monoL (k : Nat) : (∀ x0 x1, Le (nat_trimM.l0 k x0 x1) (nat_trimM.l0 (k + 1) x0 x1)) := by
  induction k with
  | zero => exact fun _ _ => Le.none _
  | succ k ih =>
    intro x0 x1
    refine Le.eqs (nat_trimM.l0.eq_2 ..) (nat_trimM.l0.eq_2 ..) ?_
    repeat' (first
      | with_reducible exact Le.refl _
      | with_reducible refine Le.ite ?_ ?_
      | with_reducible exact ih _ _
      | with_reducible refine Le.bind (ih _ _) (fun _ => ?_)
      | with_reducible refine Le.bind (Le.refl _) (fun _ => ?_)
      | split)
theorem nat_trimM.mono (k : Nat) : ∀ x0, Le (nat_trimM.f k x0) (nat_trimM.f (k + 1) x0) := by
  intro x0
  unfold nat_trimM.f
  repeat' (first
    | with_reducible exact Le.refl _
    | with_reducible refine Le.ite ?_ ?_
    | with_reducible exact (nat_trimM.monoL k) _ _
    | with_reducible refine Le.bind (Le.refl _) (fun _ => ?_)
    | split)
theorem nat_shl.monoL (k : Nat) : (∀ x0 x1 x2 x3 x4 x5, Le (nat_shl.l0 k x0 x1 x2 x3 x4 x5) (nat_shl.l0 (k + 1) x0 x1 x2 x3 x4 x5)) := by
  induction k with
  | zero => exact fun _ _ _ _ _ _ => Le.none _
  | succ k ih =>
    intro x0 x1 x2 x3 x4 x5
    refine Le.eqs (nat_shl.l0.eq_2 ..) (nat_shl.l0.eq_2 ..) ?_
    repeat' (first
      | with_reducible exact Le.refl _
      | with_reducible refine Le.ite ?_ ?_
      | with_reducible exact ih _ _ _ _ _ _
      | with_reducible refine Le.bind (ih _ _ _ _ _ _) (fun _ => ?_)
      | with_reducible refine Le.bind (nat_trimM.mono k _) (fun _ => ?_)
      | with_reducible exact nat_trimM.mono k _
      | with_reducible refine Le.bind (Le.refl _) (fun _ => ?_)
      | split)
theorem nat_shl.mono (k : Nat) : ∀ x0 x1, Le (nat_shl.f k x0 x1) (nat_shl.f (k + 1) x0 x1) := by
  intro x0 x1
  unfold nat_shl.f
  repeat' (first
    | with_reducible exact Le.refl _
    | with_reducible refine Le.ite ?_ ?_
    | with_reducible exact (nat_shl.monoL k) _ _ _ _ _ _
    | with_reducible refine Le.bind (Le.refl _) (fun _ => ?_)
    | split)
theorem nat_small.monoL (k : Nat) : (∀ x0 x1 x2 x3 x4, Le (nat_small.l0 k x0 x1 x2 x3 x4) (nat_small.l0 (k + 1) x0 x1 x2 x3 x4)) := by
  induction k with
  | zero => exact fun _ _ _ _ _ => Le.none _
  | succ k ih =>
    intro x0 x1 x2 x3 x4
    refine Le.eqs (nat_small.l0.eq_2 ..) (nat_small.l0.eq_2 ..) ?_
    repeat' (first
      | with_reducible exact Le.refl _
      | with_reducible refine Le.ite ?_ ?_
      | with_reducible exact ih _ _ _ _ _
      | with_reducible refine Le.bind (ih _ _ _ _ _) (fun _ => ?_)
      | with_reducible refine Le.bind (nat_trim.mono k _) (fun _ => ?_)
      | with_reducible exact nat_trim.mono k _
      | with_reducible refine Le.bind (Le.refl _) (fun _ => ?_)
      | split)
theorem nat_small.mono (k : Nat) : ∀ x0 x1, Le (nat_small.f k x0 x1) (nat_small.f (k + 1) x0 x1) := by
  intro x0 x1
  unfold nat_small.f
  repeat' (first
    | with_reducible exact Le.refl _
    | with_reducible refine Le.ite ?_ ?_
    | with_reducible exact (nat_small.monoL k) _ _ _ _ _
    | with_reducible refine Le.bind (Le.refl _) (fun _ => ?_)
    | split)
theorem nat_take.monoL (k : Nat) : (∀ x0 x1 x2 x3 x4 x5 x6, Le (nat_take.l0 k x0 x1 x2 x3 x4 x5 x6) (nat_take.l0 (k + 1) x0 x1 x2 x3 x4 x5 x6)) := by
  induction k with
  | zero => exact fun _ _ _ _ _ _ _ => Le.none _
  | succ k ih =>
    intro x0 x1 x2 x3 x4 x5 x6
    refine Le.eqs (nat_take.l0.eq_2 ..) (nat_take.l0.eq_2 ..) ?_
    repeat' (first
      | with_reducible exact Le.refl _
      | with_reducible refine Le.ite ?_ ?_
      | with_reducible exact ih _ _ _ _ _ _ _
      | with_reducible refine Le.bind (ih _ _ _ _ _ _ _) (fun _ => ?_)
      | with_reducible refine Le.bind (Le.refl _) (fun _ => ?_)
      | split)
theorem nat_take.mono (k : Nat) : ∀ x0 x1 x2, Le (nat_take.f k x0 x1 x2) (nat_take.f (k + 1) x0 x1 x2) := by
  intro x0 x1 x2
  unfold nat_take.f
  repeat' (first
    | with_reducible exact Le.refl _
    | with_reducible refine Le.ite ?_ ?_
    | with_reducible exact (nat_take.monoL k) _ _ _ _ _ _ _
    | with_reducible refine Le.bind (Le.refl _) (fun _ => ?_)
    | split)
theorem nat_give.monoL (k : Nat) : (∀ x0 x1 x2 x3 x4, Le (nat_give.l0 k x0 x1 x2 x3 x4) (nat_give.l0 (k + 1) x0 x1 x2 x3 x4)) := by
  induction k with
  | zero => exact fun _ _ _ _ _ => Le.none _
  | succ k ih =>
    intro x0 x1 x2 x3 x4
    refine Le.eqs (nat_give.l0.eq_2 ..) (nat_give.l0.eq_2 ..) ?_
    repeat' (first
      | with_reducible exact Le.refl _
      | with_reducible refine Le.ite ?_ ?_
      | with_reducible exact ih _ _ _ _ _
      | with_reducible refine Le.bind (ih _ _ _ _ _) (fun _ => ?_)
      | with_reducible refine Le.bind (Le.refl _) (fun _ => ?_)
      | split)
theorem nat_give.mono (k : Nat) : ∀ x0 x1, Le (nat_give.f k x0 x1) (nat_give.f (k + 1) x0 x1) := by
  intro x0 x1
  unfold nat_give.f
  repeat' (first
    | with_reducible exact Le.refl _
    | with_reducible refine Le.ite ?_ ?_
    | with_reducible exact (nat_give.monoL k) _ _ _ _ _
    | with_reducible refine Le.bind (Le.refl _) (fun _ => ?_)
    | split)
theorem nat_digit.monoL (k : Nat) : (∀ x0 x1 x2 x3 x4, Le (nat_digit.l0 k x0 x1 x2 x3 x4) (nat_digit.l0 (k + 1) x0 x1 x2 x3 x4)) := by
  induction k with
  | zero => exact fun _ _ _ _ _ => Le.none _
  | succ k ih =>
    intro x0 x1 x2 x3 x4
    refine Le.eqs (nat_digit.l0.eq_2 ..) (nat_digit.l0.eq_2 ..) ?_
    repeat' (first
      | with_reducible exact Le.refl _
      | with_reducible refine Le.ite ?_ ?_
      | with_reducible exact ih _ _ _ _ _
      | with_reducible refine Le.bind (ih _ _ _ _ _) (fun _ => ?_)
      | with_reducible refine Le.bind (nat_take.mono k _ _ _) (fun _ => ?_)
      | with_reducible refine Le.bind (nat_give.mono k _ _) (fun _ => ?_)
      | with_reducible exact nat_take.mono k _ _ _
      | with_reducible exact nat_give.mono k _ _
      | with_reducible refine Le.bind (Le.refl _) (fun _ => ?_)
      | split)
theorem nat_digit.mono (k : Nat) : ∀ x0 x1, Le (nat_digit.f k x0 x1) (nat_digit.f (k + 1) x0 x1) := by
  intro x0 x1
  unfold nat_digit.f
  repeat' (first
    | with_reducible exact Le.refl _
    | with_reducible refine Le.ite ?_ ?_
    | with_reducible exact (nat_digit.monoL k) _ _ _ _ _
    | with_reducible refine Le.bind (Le.refl _) (fun _ => ?_)
    | split)
theorem nat_long.monoL (k : Nat) : (∀ x0 x1 x2 x3 x4 x5, Le (nat_long.l0 k x0 x1 x2 x3 x4 x5) (nat_long.l0 (k + 1) x0 x1 x2 x3 x4 x5)) := by
  induction k with
  | zero => exact fun _ _ _ _ _ _ => Le.none _
  | succ k ih =>
    intro x0 x1 x2 x3 x4 x5
    refine Le.eqs (nat_long.l0.eq_2 ..) (nat_long.l0.eq_2 ..) ?_
    repeat' (first
      | with_reducible exact Le.refl _
      | with_reducible refine Le.ite ?_ ?_
      | with_reducible exact ih _ _ _ _ _ _
      | with_reducible refine Le.bind (ih _ _ _ _ _ _) (fun _ => ?_)
      | with_reducible refine Le.bind (nat_digit.mono k _ _) (fun _ => ?_)
      | with_reducible refine Le.bind (nat_trim.mono k _) (fun _ => ?_)
      | with_reducible refine Le.bind (nat_shr.mono k _ _) (fun _ => ?_)
      | with_reducible exact nat_digit.mono k _ _
      | with_reducible exact nat_trim.mono k _
      | with_reducible exact nat_shr.mono k _ _
      | with_reducible refine Le.bind (Le.refl _) (fun _ => ?_)
      | split)
theorem nat_long.mono (k : Nat) : ∀ x0 x1, Le (nat_long.f k x0 x1) (nat_long.f (k + 1) x0 x1) := by
  intro x0 x1
  unfold nat_long.f
  repeat' (first
    | with_reducible exact Le.refl _
    | with_reducible refine Le.ite ?_ ?_
    | with_reducible exact (nat_long.monoL k) _ _ _ _ _ _
    | with_reducible refine Le.bind (nat_shl.mono k _ _) (fun _ => ?_)
    | with_reducible exact nat_shl.mono k _ _
    | with_reducible refine Le.bind (Le.refl _) (fun _ => ?_)
    | split)
theorem nat_DivMod.mono (k : Nat) : ∀ x0 x1, Le (nat_DivMod.f k x0 x1) (nat_DivMod.f (k + 1) x0 x1) := by
  intro x0 x1
  unfold nat_DivMod.f
  repeat' (first
    | with_reducible exact Le.refl _
    | with_reducible refine Le.ite ?_ ?_
    | with_reducible refine Le.bind (nat_Clean.mono k _) (fun _ => ?_)
    | with_reducible refine Le.bind (nat_order.mono k _ _) (fun _ => ?_)
    | with_reducible refine Le.bind (nat_small.mono k _ _) (fun _ => ?_)
    | with_reducible refine Le.bind (nat_Of.mono k _) (fun _ => ?_)
    | with_reducible refine Le.bind (nat_long.mono k _ _) (fun _ => ?_)
    | with_reducible exact nat_Clean.mono k _
    | with_reducible exact nat_order.mono k _ _
    | with_reducible exact nat_small.mono k _ _
    | with_reducible exact nat_Of.mono k _
    | with_reducible exact nat_long.mono k _ _
    | with_reducible refine Le.bind (Le.refl _) (fun _ => ?_)
    | split)
theorem nat_rest.mono (k : Nat) : ∀ x0 x1, Le (nat_rest.f k x0 x1) (nat_rest.f (k + 1) x0 x1) := by
  intro x0 x1
  unfold nat_rest.f
  repeat' (first
    | with_reducible exact Le.refl _
    | with_reducible refine Le.ite ?_ ?_
    | with_reducible refine Le.bind (nat_DivMod.mono k _ _) (fun _ => ?_)
    | with_reducible exact nat_DivMod.mono k _ _
    | with_reducible refine Le.bind (Le.refl _) (fun _ => ?_)
    | split)
theorem nat_minus.monoL (k : Nat) : (∀ x0 x1 x2 x3 x4 x5, Le (nat_minus.l0 k x0 x1 x2 x3 x4 x5) (nat_minus.l0 (k + 1) x0 x1 x2 x3 x4 x5)) := by
  induction k with
  | zero => exact fun _ _ _ _ _ _ => Le.none _
  | succ k ih =>
    intro x0 x1 x2 x3 x4 x5
    refine Le.eqs (nat_minus.l0.eq_2 ..) (nat_minus.l0.eq_2 ..) ?_
    repeat' (first
      | with_reducible exact Le.refl _
      | with_reducible refine Le.ite ?_ ?_
      | with_reducible exact ih _ _ _ _ _ _
      | with_reducible refine Le.bind (ih _ _ _ _ _ _) (fun _ => ?_)
      | with_reducible refine Le.bind (nat_trim.mono k _) (fun _ => ?_)
      | with_reducible exact nat_trim.mono k _
      | with_reducible refine Le.bind (Le.refl _) (fun _ => ?_)
      | split)
theorem nat_minus.mono (k : Nat) : ∀ x0 x1, Le (nat_minus.f k x0 x1) (nat_minus.f (k + 1) x0 x1) := by
  intro x0 x1
  unfold nat_minus.f
  repeat' (first
    | with_reducible exact Le.refl _
    | with_reducible refine Le.ite ?_ ?_
    | with_reducible exact (nat_minus.monoL k) _ _ _ _ _ _
    | with_reducible refine Le.bind (Le.refl _) (fun _ => ?_)
    | split)
theorem nat_Gcd.monoL (k : Nat) : (∀ x0 x1 x2 x3, Le (nat_Gcd.l0 k x0 x1 x2 x3) (nat_Gcd.l0 (k + 1) x0 x1 x2 x3)) := by
  induction k with
  | zero => exact fun _ _ _ _ => Le.none _
  | succ k ih =>
    intro x0 x1 x2 x3
    refine Le.eqs (nat_Gcd.l0.eq_2 ..) (nat_Gcd.l0.eq_2 ..) ?_
    repeat' (first
      | with_reducible exact Le.refl _
      | with_reducible refine Le.ite ?_ ?_
      | with_reducible exact ih _ _ _ _
      | with_reducible refine Le.bind (ih _ _ _ _) (fun _ => ?_)
      | with_reducible refine Le.bind (nat_order.mono k _ _) (fun _ => ?_)
      | with_reducible refine Le.bind (nat_shl.mono k _ _) (fun _ => ?_)
      | with_reducible refine Le.bind (nat_rest.mono k _ _) (fun _ => ?_)
      | with_reducible refine Le.bind (nat_zeros.mono k _) (fun _ => ?_)
      | with_reducible refine Le.bind (nat_shr.mono k _ _) (fun _ => ?_)
      | with_reducible refine Le.bind (nat_minus.mono k _ _) (fun _ => ?_)
      | with_reducible exact nat_order.mono k _ _
      | with_reducible exact nat_shl.mono k _ _
      | with_reducible exact nat_rest.mono k _ _
      | with_reducible exact nat_zeros.mono k _
      | with_reducible exact nat_shr.mono k _ _
      | with_reducible exact nat_minus.mono k _ _
      | with_reducible refine Le.bind (Le.refl _) (fun _ => ?_)
      | split)
theorem nat_Gcd.mono (k : Nat) : ∀ x0 x1, Le (nat_Gcd.f k x0 x1) (nat_Gcd.f (k + 1) x0 x1) := by
  intro x0 x1
  unfold nat_Gcd.f
  repeat' (first
    | with_reducible exact Le.refl _
    | with_reducible refine Le.ite ?_ ?_
    | with_reducible exact (nat_Gcd.monoL k) _ _ _ _
    | with_reducible refine Le.bind (nat_Clean.mono k _) (fun _ => ?_)
    | with_reducible refine Le.bind (nat_euclid.mono k _ _) (fun _ => ?_)
    | with_reducible refine Le.bind (nat_zeros.mono k _) (fun _ => ?_)
    | with_reducible refine Le.bind (nat_shr.mono k _ _) (fun _ => ?_)
    | with_reducible exact nat_Clean.mono k _
    | with_reducible exact nat_euclid.mono k _ _
    | with_reducible exact nat_zeros.mono k _
    | with_reducible exact nat_shr.mono k _ _
    | with_reducible refine Le.bind (Le.refl _) (fun _ => ?_)
    | split)
theorem ratio_form.mono (k : Nat) : ∀ x0 x1 x2, Le (ratio_form.f k x0 x1 x2) (ratio_form.f (k + 1) x0 x1 x2) := by
  intro x0 x1 x2
  unfold ratio_form.f
  repeat' (first
    | with_reducible exact Le.refl _
    | with_reducible refine Le.ite ?_ ?_
    | with_reducible refine Le.bind (nat_Of.mono k _) (fun _ => ?_)
    | with_reducible refine Le.bind (nat_Gcd.mono k _ _) (fun _ => ?_)
    | with_reducible refine Le.bind (nat_DivMod.mono k _ _) (fun _ => ?_)
    | with_reducible exact nat_Of.mono k _
    | with_reducible exact nat_Gcd.mono k _ _
    | with_reducible exact nat_DivMod.mono k _ _
    | with_reducible refine Le.bind (Le.refl _) (fun _ => ?_)
    | split)
theorem ratio_Make.mono (k : Nat) : ∀ x0 x1 x2 x3, Le (ratio_Make.f k x0 x1 x2 x3) (ratio_Make.f (k + 1) x0 x1 x2 x3) := by
  intro x0 x1 x2 x3
  unfold ratio_Make.f
  repeat' (first
    | with_reducible exact Le.refl _
    | with_reducible refine Le.ite ?_ ?_
    | with_reducible refine Le.bind (whole_Clean.mono k _ _) (fun _ => ?_)
    | with_reducible refine Le.bind (whole_Sign.mono k _ _) (fun _ => ?_)
    | with_reducible refine Le.bind (whole_Neg.mono k _ _) (fun _ => ?_)
    | with_reducible refine Le.bind (ratio_form.mono k _ _ _) (fun _ => ?_)
    | with_reducible exact whole_Clean.mono k _ _
    | with_reducible exact whole_Sign.mono k _ _
    | with_reducible exact whole_Neg.mono k _ _
    | with_reducible exact ratio_form.mono k _ _ _
    | with_reducible refine Le.bind (Le.refl _) (fun _ => ?_)
    | split)
theorem ratio_Zero.mono (k : Nat) : Le (ratio_Zero.f k ) (ratio_Zero.f (k + 1) ) := by
  unfold ratio_Zero.f
  repeat' (first
    | with_reducible exact Le.refl _
    | with_reducible refine Le.ite ?_ ?_
    | with_reducible refine Le.bind (nat_Of.mono k _) (fun _ => ?_)
    | with_reducible exact nat_Of.mono k _
    | with_reducible refine Le.bind (Le.refl _) (fun _ => ?_)
    | split)
theorem whole_Of.mono (k : Nat) : ∀ x0, Le (whole_Of.f k x0) (whole_Of.f (k + 1) x0) := by
  intro x0
  unfold whole_Of.f
  repeat' (first
    | with_reducible exact Le.refl _
    | with_reducible refine Le.ite ?_ ?_
    | with_reducible refine Le.bind (nat_Of.mono k _) (fun _ => ?_)
    | with_reducible exact nat_Of.mono k _
    | with_reducible refine Le.bind (Le.refl _) (fun _ => ?_)
    | split)
theorem ratio_Of.mono (k : Nat) : ∀ x0, Le (ratio_Of.f k x0) (ratio_Of.f (k + 1) x0) := by
  intro x0
  unfold ratio_Of.f
  repeat' (first
    | with_reducible exact Le.refl _
    | with_reducible refine Le.ite ?_ ?_
    | with_reducible refine Le.bind (whole_Of.mono k _) (fun _ => ?_)
    | with_reducible refine Le.bind (nat_Of.mono k _) (fun _ => ?_)
    | with_reducible exact whole_Of.mono k _
    | with_reducible exact nat_Of.mono k _
    | with_reducible refine Le.bind (Le.refl _) (fun _ => ?_)
    | split)
theorem ratio_One.mono (k : Nat) : Le (ratio_One.f k ) (ratio_One.f (k + 1) ) := by
  unfold ratio_One.f
  repeat' (first
    | with_reducible exact Le.refl _
    | with_reducible refine Le.ite ?_ ?_
    | with_reducible refine Le.bind (ratio_Of.mono k _) (fun _ => ?_)
    | with_reducible exact ratio_Of.mono k _
    | with_reducible refine Le.bind (Le.refl _) (fun _ => ?_)
    | split)
theorem ratio_Int.mono (k : Nat) : ∀ x0 x1, Le (ratio_Int.f k x0 x1) (ratio_Int.f (k + 1) x0 x1) := by
  intro x0 x1
  unfold ratio_Int.f
  repeat' (first
    | with_reducible exact Le.refl _
    | with_reducible refine Le.ite ?_ ?_
    | with_reducible refine Le.bind (whole_Clean.mono k _ _) (fun _ => ?_)
    | with_reducible refine Le.bind (nat_Of.mono k _) (fun _ => ?_)
    | with_reducible exact whole_Clean.mono k _ _
    | with_reducible exact nat_Of.mono k _
    | with_reducible refine Le.bind (Le.refl _) (fun _ => ?_)
    | split)
theorem ratio_Clean.mono (k : Nat) : ∀ x0 x1 x2, Le (ratio_Clean.f k x0 x1 x2) (ratio_Clean.f (k + 1) x0 x1 x2) := by
  intro x0 x1 x2
  unfold ratio_Clean.f
  repeat' (first
    | with_reducible exact Le.refl _
    | with_reducible refine Le.ite ?_ ?_
    | with_reducible refine Le.bind (nat_Clean.mono k _) (fun _ => ?_)
    | with_reducible refine Le.bind (ratio_Zero.mono k ) (fun _ => ?_)
    | with_reducible refine Le.bind (whole_Clean.mono k _ _) (fun _ => ?_)
    | with_reducible refine Le.bind (ratio_form.mono k _ _ _) (fun _ => ?_)
    | with_reducible exact nat_Clean.mono k _
    | with_reducible exact ratio_Zero.mono k 
    | with_reducible exact whole_Clean.mono k _ _
    | with_reducible exact ratio_form.mono k _ _ _
    | with_reducible refine Le.bind (Le.refl _) (fun _ => ?_)
    | split)
theorem ratio_Frac.mono (k : Nat) : ∀ x0 x1, Le (ratio_Frac.f k x0 x1) (ratio_Frac.f (k + 1) x0 x1) := by
  intro x0 x1
  unfold ratio_Frac.f
  repeat' (first
    | with_reducible exact Le.refl _
    | with_reducible refine Le.ite ?_ ?_
    | with_reducible refine Le.bind (whole_Of.mono k _) (fun _ => ?_)
    | with_reducible refine Le.bind (ratio_Make.mono k _ _ _ _) (fun _ => ?_)
    | with_reducible refine Le.bind (ratio_Clean.mono k _ _ _) (fun _ => ?_)
    | with_reducible exact whole_Of.mono k _
    | with_reducible exact ratio_Make.mono k _ _ _ _
    | with_reducible exact ratio_Clean.mono k _ _ _
    | with_reducible refine Le.bind (Le.refl _) (fun _ => ?_)
    | split)
theorem nat_Add.monoL (k : Nat) : (∀ x0 x1 x2 x3 x4 x5, Le (nat_Add.l0 k x0 x1 x2 x3 x4 x5) (nat_Add.l0 (k + 1) x0 x1 x2 x3 x4 x5)) := by
  induction k with
  | zero => exact fun _ _ _ _ _ _ => Le.none _
  | succ k ih =>
    intro x0 x1 x2 x3 x4 x5
    refine Le.eqs (nat_Add.l0.eq_2 ..) (nat_Add.l0.eq_2 ..) ?_
    repeat' (first
      | with_reducible exact Le.refl _
      | with_reducible refine Le.ite ?_ ?_
      | with_reducible exact ih _ _ _ _ _ _
      | with_reducible refine Le.bind (ih _ _ _ _ _ _) (fun _ => ?_)
      | with_reducible refine Le.bind (nat_trim.mono k _) (fun _ => ?_)
      | with_reducible exact nat_trim.mono k _
      | with_reducible refine Le.bind (Le.refl _) (fun _ => ?_)
      | split)
theorem nat_Add.mono (k : Nat) : ∀ x0 x1, Le (nat_Add.f k x0 x1) (nat_Add.f (k + 1) x0 x1) := by
  intro x0 x1
  unfold nat_Add.f
  repeat' (first
    | with_reducible exact Le.refl _
    | with_reducible refine Le.ite ?_ ?_
    | with_reducible exact (nat_Add.monoL k) _ _ _ _ _ _
    | with_reducible refine Le.bind (nat_Clean.mono k _) (fun _ => ?_)
    | with_reducible exact nat_Clean.mono k _
    | with_reducible refine Le.bind (Le.refl _) (fun _ => ?_)
    | split)
theorem nat_Sub.mono (k : Nat) : ∀ x0 x1, Le (nat_Sub.f k x0 x1) (nat_Sub.f (k + 1) x0 x1) := by
  intro x0 x1
  unfold nat_Sub.f
  repeat' (first
    | with_reducible exact Le.refl _
    | with_reducible refine Le.ite ?_ ?_
    | with_reducible refine Le.bind (nat_Clean.mono k _) (fun _ => ?_)
    | with_reducible refine Le.bind (nat_order.mono k _ _) (fun _ => ?_)
    | with_reducible refine Le.bind (nat_minus.mono k _ _) (fun _ => ?_)
    | with_reducible exact nat_Clean.mono k _
    | with_reducible exact nat_order.mono k _ _
    | with_reducible exact nat_minus.mono k _ _
    | with_reducible refine Le.bind (Le.refl _) (fun _ => ?_)
    | split)
theorem whole_DivMod.mono (k : Nat) : ∀ x0 x1 x2 x3, Le (whole_DivMod.f k x0 x1 x2 x3) (whole_DivMod.f (k + 1) x0 x1 x2 x3) := by
  intro x0 x1 x2 x3
  unfold whole_DivMod.f
  repeat' (first
    | with_reducible exact Le.refl _
    | with_reducible refine Le.ite ?_ ?_
    | with_reducible refine Le.bind (whole_Clean.mono k _ _) (fun _ => ?_)
    | with_reducible refine Le.bind (nat_DivMod.mono k _ _) (fun _ => ?_)
    | with_reducible refine Le.bind (nat_Of.mono k _) (fun _ => ?_)
    | with_reducible refine Le.bind (nat_Add.mono k _ _) (fun _ => ?_)
    | with_reducible refine Le.bind (nat_Sub.mono k _ _) (fun _ => ?_)
    | with_reducible exact whole_Clean.mono k _ _
    | with_reducible exact nat_DivMod.mono k _ _
    | with_reducible exact nat_Of.mono k _
    | with_reducible exact nat_Add.mono k _ _
    | with_reducible exact nat_Sub.mono k _ _
    | with_reducible refine Le.bind (Le.refl _) (fun _ => ?_)
    | split)
theorem ratio_Floor.mono (k : Nat) : ∀ x0 x1 x2, Le (ratio_Floor.f k x0 x1 x2) (ratio_Floor.f (k + 1) x0 x1 x2) := by
  intro x0 x1 x2
  unfold ratio_Floor.f
  repeat' (first
    | with_reducible exact Le.refl _
    | with_reducible refine Le.ite ?_ ?_
    | with_reducible refine Le.bind (ratio_Clean.mono k _ _ _) (fun _ => ?_)
    | with_reducible refine Le.bind (whole_DivMod.mono k _ _ _ _) (fun _ => ?_)
    | with_reducible exact ratio_Clean.mono k _ _ _
    | with_reducible exact whole_DivMod.mono k _ _ _ _
    | with_reducible refine Le.bind (Le.refl _) (fun _ => ?_)
    | split)
theorem ratio_Neg.mono (k : Nat) : ∀ x0 x1 x2, Le (ratio_Neg.f k x0 x1 x2) (ratio_Neg.f (k + 1) x0 x1 x2) := by
  intro x0 x1 x2
  unfold ratio_Neg.f
  repeat' (first
    | with_reducible exact Le.refl _
    | with_reducible refine Le.ite ?_ ?_
    | with_reducible refine Le.bind (ratio_Clean.mono k _ _ _) (fun _ => ?_)
    | with_reducible refine Le.bind (whole_Neg.mono k _ _) (fun _ => ?_)
    | with_reducible exact ratio_Clean.mono k _ _ _
    | with_reducible exact whole_Neg.mono k _ _
    | with_reducible refine Le.bind (Le.refl _) (fun _ => ?_)
    | split)
theorem ratio_Ceil.mono (k : Nat) : ∀ x0 x1 x2, Le (ratio_Ceil.f k x0 x1 x2) (ratio_Ceil.f (k + 1) x0 x1 x2) := by
  intro x0 x1 x2
  unfold ratio_Ceil.f
  repeat' (first
    | with_reducible exact Le.refl _
    | with_reducible refine Le.ite ?_ ?_
    | with_reducible refine Le.bind (ratio_Neg.mono k _ _ _) (fun _ => ?_)
    | with_reducible refine Le.bind (ratio_Floor.mono k _ _ _) (fun _ => ?_)
    | with_reducible refine Le.bind (whole_Neg.mono k _ _) (fun _ => ?_)
    | with_reducible exact ratio_Neg.mono k _ _ _
    | with_reducible exact ratio_Floor.mono k _ _ _
    | with_reducible exact whole_Neg.mono k _ _
    | with_reducible refine Le.bind (Le.refl _) (fun _ => ?_)
    | split)
theorem nat_Cmp.mono (k : Nat) : ∀ x0 x1, Le (nat_Cmp.f k x0 x1) (nat_Cmp.f (k + 1) x0 x1) := by
  intro x0 x1
  unfold nat_Cmp.f
  repeat' (first
    | with_reducible exact Le.refl _
    | with_reducible refine Le.ite ?_ ?_
    | with_reducible refine Le.bind (nat_Clean.mono k _) (fun _ => ?_)
    | with_reducible refine Le.bind (nat_order.mono k _ _) (fun _ => ?_)
    | with_reducible exact nat_Clean.mono k _
    | with_reducible exact nat_order.mono k _ _
    | with_reducible refine Le.bind (Le.refl _) (fun _ => ?_)
    | split)
theorem whole_Cmp.mono (k : Nat) : ∀ x0 x1 x2 x3, Le (whole_Cmp.f k x0 x1 x2 x3) (whole_Cmp.f (k + 1) x0 x1 x2 x3) := by
  intro x0 x1 x2 x3
  unfold whole_Cmp.f
  repeat' (first
    | with_reducible exact Le.refl _
    | with_reducible refine Le.ite ?_ ?_
    | with_reducible refine Le.bind (whole_Clean.mono k _ _) (fun _ => ?_)
    | with_reducible refine Le.bind (nat_Cmp.mono k _ _) (fun _ => ?_)
    | with_reducible exact whole_Clean.mono k _ _
    | with_reducible exact nat_Cmp.mono k _ _
    | with_reducible refine Le.bind (Le.refl _) (fun _ => ?_)
    | split)
theorem nat_Mul.monoL (k : Nat) : (∀ x0 x1 x2 x3 x4, Le (nat_Mul.l0 k x0 x1 x2 x3 x4) (nat_Mul.l0 (k + 1) x0 x1 x2 x3 x4)) ∧ (∀ x0 x1 x2 x3 x4 x5 x6 x7 x8 x9 x10, Le (nat_Mul.l1 k x0 x1 x2 x3 x4 x5 x6 x7 x8 x9 x10) (nat_Mul.l1 (k + 1) x0 x1 x2 x3 x4 x5 x6 x7 x8 x9 x10)) := by
  induction k with
  | zero => exact ⟨fun _ _ _ _ _ => Le.none _, fun _ _ _ _ _ _ _ _ _ _ _ => Le.none _⟩
  | succ k ih =>
    refine ⟨?_, ?_⟩
    · intro x0 x1 x2 x3 x4
      refine Le.eqs (nat_Mul.l0.eq_2 ..) (nat_Mul.l0.eq_2 ..) ?_
      repeat' (first
        | with_reducible exact Le.refl _
        | with_reducible refine Le.ite ?_ ?_
        | with_reducible exact ih.2 _ _ _ _ _ _ _ _ _ _ _
        | with_reducible refine Le.bind (ih.2 _ _ _ _ _ _ _ _ _ _ _) (fun _ => ?_)
        | with_reducible refine Le.bind (nat_trim.mono k _) (fun _ => ?_)
        | with_reducible exact nat_trim.mono k _
        | with_reducible refine Le.bind (Le.refl _) (fun _ => ?_)
        | split)
    · intro x0 x1 x2 x3 x4 x5 x6 x7 x8 x9 x10
      refine Le.eqs (nat_Mul.l1.eq_2 ..) (nat_Mul.l1.eq_2 ..) ?_
      repeat' (first
        | with_reducible exact Le.refl _
        | with_reducible refine Le.ite ?_ ?_
        | with_reducible exact ih.1 _ _ _ _ _
        | with_reducible refine Le.bind (ih.1 _ _ _ _ _) (fun _ => ?_)
        | with_reducible exact ih.2 _ _ _ _ _ _ _ _ _ _ _
        | with_reducible refine Le.bind (ih.2 _ _ _ _ _ _ _ _ _ _ _) (fun _ => ?_)
        | with_reducible refine Le.bind (Le.refl _) (fun _ => ?_)
        | split)
theorem nat_Mul.mono (k : Nat) : ∀ x0 x1, Le (nat_Mul.f k x0 x1) (nat_Mul.f (k + 1) x0 x1) := by
  intro x0 x1
  unfold nat_Mul.f
  repeat' (first
    | with_reducible exact Le.refl _
    | with_reducible refine Le.ite ?_ ?_
    | with_reducible exact (nat_Mul.monoL k).1 _ _ _ _ _
    | with_reducible refine Le.bind (nat_Clean.mono k _) (fun _ => ?_)
    | with_reducible exact nat_Clean.mono k _
    | with_reducible refine Le.bind (Le.refl _) (fun _ => ?_)
    | split)
theorem whole_Mul.mono (k : Nat) : ∀ x0 x1 x2 x3, Le (whole_Mul.f k x0 x1 x2 x3) (whole_Mul.f (k + 1) x0 x1 x2 x3) := by
  intro x0 x1 x2 x3
  unfold whole_Mul.f
  repeat' (first
    | with_reducible exact Le.refl _
    | with_reducible refine Le.ite ?_ ?_
    | with_reducible refine Le.bind (whole_Clean.mono k _ _) (fun _ => ?_)
    | with_reducible refine Le.bind (nat_Mul.mono k _ _) (fun _ => ?_)
    | with_reducible exact whole_Clean.mono k _ _
    | with_reducible exact nat_Mul.mono k _ _
    | with_reducible refine Le.bind (Le.refl _) (fun _ => ?_)
    | split)
theorem ratio_Cmp.mono (k : Nat) : ∀ x0 x1 x2 x3 x4 x5, Le (ratio_Cmp.f k x0 x1 x2 x3 x4 x5) (ratio_Cmp.f (k + 1) x0 x1 x2 x3 x4 x5) := by
  intro x0 x1 x2 x3 x4 x5
  unfold ratio_Cmp.f
  repeat' (first
    | with_reducible exact Le.refl _
    | with_reducible refine Le.ite ?_ ?_
    | with_reducible refine Le.bind (ratio_Clean.mono k _ _ _) (fun _ => ?_)
    | with_reducible refine Le.bind (whole_Mul.mono k _ _ _ _) (fun _ => ?_)
    | with_reducible refine Le.bind (whole_Cmp.mono k _ _ _ _) (fun _ => ?_)
    | with_reducible exact ratio_Clean.mono k _ _ _
    | with_reducible exact whole_Mul.mono k _ _ _ _
    | with_reducible exact whole_Cmp.mono k _ _ _ _
    | with_reducible refine Le.bind (Le.refl _) (fun _ => ?_)
    | split)
theorem whole_Add.mono (k : Nat) : ∀ x0 x1 x2 x3, Le (whole_Add.f k x0 x1 x2 x3) (whole_Add.f (k + 1) x0 x1 x2 x3) := by
  intro x0 x1 x2 x3
  unfold whole_Add.f
  repeat' (first
    | with_reducible exact Le.refl _
    | with_reducible refine Le.ite ?_ ?_
    | with_reducible refine Le.bind (whole_Clean.mono k _ _) (fun _ => ?_)
    | with_reducible refine Le.bind (nat_Add.mono k _ _) (fun _ => ?_)
    | with_reducible refine Le.bind (nat_Cmp.mono k _ _) (fun _ => ?_)
    | with_reducible refine Le.bind (nat_Sub.mono k _ _) (fun _ => ?_)
    | with_reducible exact whole_Clean.mono k _ _
    | with_reducible exact nat_Add.mono k _ _
    | with_reducible exact nat_Cmp.mono k _ _
    | with_reducible exact nat_Sub.mono k _ _
    | with_reducible refine Le.bind (Le.refl _) (fun _ => ?_)
    | split)
theorem ratio_Add.mono (k : Nat) : ∀ x0 x1 x2 x3 x4 x5, Le (ratio_Add.f k x0 x1 x2 x3 x4 x5) (ratio_Add.f (k + 1) x0 x1 x2 x3 x4 x5) := by
  intro x0 x1 x2 x3 x4 x5
  unfold ratio_Add.f
  repeat' (first
    | with_reducible exact Le.refl _
    | with_reducible refine Le.ite ?_ ?_
    | with_reducible refine Le.bind (ratio_Clean.mono k _ _ _) (fun _ => ?_)
    | with_reducible refine Le.bind (whole_Mul.mono k _ _ _ _) (fun _ => ?_)
    | with_reducible refine Le.bind (whole_Add.mono k _ _ _ _) (fun _ => ?_)
    | with_reducible refine Le.bind (nat_Mul.mono k _ _) (fun _ => ?_)
    | with_reducible refine Le.bind (ratio_form.mono k _ _ _) (fun _ => ?_)
    | with_reducible exact ratio_Clean.mono k _ _ _
    | with_reducible exact whole_Mul.mono k _ _ _ _
    | with_reducible exact whole_Add.mono k _ _ _ _
    | with_reducible exact nat_Mul.mono k _ _
    | with_reducible exact ratio_form.mono k _ _ _
    | with_reducible refine Le.bind (Le.refl _) (fun _ => ?_)
    | split)
theorem ratio_Sub.mono (k : Nat) : ∀ x0 x1 x2 x3 x4 x5, Le (ratio_Sub.f k x0 x1 x2 x3 x4 x5) (ratio_Sub.f (k + 1) x0 x1 x2 x3 x4 x5) := by
  intro x0 x1 x2 x3 x4 x5
  unfold ratio_Sub.f
  repeat' (first
    | with_reducible exact Le.refl _
    | with_reducible refine Le.ite ?_ ?_
    | with_reducible refine Le.bind (ratio_Neg.mono k _ _ _) (fun _ => ?_)
    | with_reducible refine Le.bind (ratio_Add.mono k _ _ _ _ _ _) (fun _ => ?_)
    | with_reducible exact ratio_Neg.mono k _ _ _
    | with_reducible exact ratio_Add.mono k _ _ _ _ _ _
    | with_reducible refine Le.bind (Le.refl _) (fun _ => ?_)
    | split)
theorem ratio_Sign.mono (k : Nat) : ∀ x0 x1 x2, Le (ratio_Sign.f k x0 x1 x2) (ratio_Sign.f (k + 1) x0 x1 x2) := by
  intro x0 x1 x2
  unfold ratio_Sign.f
  repeat' (first
    | with_reducible exact Le.refl _
    | with_reducible refine Le.ite ?_ ?_
    | with_reducible refine Le.bind (ratio_Clean.mono k _ _ _) (fun _ => ?_)
    | with_reducible refine Le.bind (whole_Sign.mono k _ _) (fun _ => ?_)
    | with_reducible exact ratio_Clean.mono k _ _ _
    | with_reducible exact whole_Sign.mono k _ _
    | with_reducible refine Le.bind (Le.refl _) (fun _ => ?_)
    | split)
theorem ratio_Mul.mono (k : Nat) : ∀ x0 x1 x2 x3 x4 x5, Le (ratio_Mul.f k x0 x1 x2 x3 x4 x5) (ratio_Mul.f (k + 1) x0 x1 x2 x3 x4 x5) := by
  intro x0 x1 x2 x3 x4 x5
  unfold ratio_Mul.f
  repeat' (first
    | with_reducible exact Le.refl _
    | with_reducible refine Le.ite ?_ ?_
    | with_reducible refine Le.bind (ratio_Clean.mono k _ _ _) (fun _ => ?_)
    | with_reducible refine Le.bind (whole_Mul.mono k _ _ _ _) (fun _ => ?_)
    | with_reducible refine Le.bind (nat_Mul.mono k _ _) (fun _ => ?_)
    | with_reducible refine Le.bind (ratio_form.mono k _ _ _) (fun _ => ?_)
    | with_reducible exact ratio_Clean.mono k _ _ _
    | with_reducible exact whole_Mul.mono k _ _ _ _
    | with_reducible exact nat_Mul.mono k _ _
    | with_reducible exact ratio_form.mono k _ _ _
    | with_reducible refine Le.bind (Le.refl _) (fun _ => ?_)
    | split)
theorem ratio_Inv.mono (k : Nat) : ∀ x0 x1 x2, Le (ratio_Inv.f k x0 x1 x2) (ratio_Inv.f (k + 1) x0 x1 x2) := by
  intro x0 x1 x2
  unfold ratio_Inv.f
  repeat' (first
    | with_reducible exact Le.refl _
    | with_reducible refine Le.ite ?_ ?_
    | with_reducible refine Le.bind (ratio_Clean.mono k _ _ _) (fun _ => ?_)
    | with_reducible refine Le.bind (ratio_Make.mono k _ _ _ _) (fun _ => ?_)
    | with_reducible exact ratio_Clean.mono k _ _ _
    | with_reducible exact ratio_Make.mono k _ _ _ _
    | with_reducible refine Le.bind (Le.refl _) (fun _ => ?_)
    | split)
theorem ratio_Div.mono (k : Nat) : ∀ x0 x1 x2 x3 x4 x5, Le (ratio_Div.f k x0 x1 x2 x3 x4 x5) (ratio_Div.f (k + 1) x0 x1 x2 x3 x4 x5) := by
  intro x0 x1 x2 x3 x4 x5
  unfold ratio_Div.f
  repeat' (first
    | with_reducible exact Le.refl _
    | with_reducible refine Le.ite ?_ ?_
    | with_reducible refine Le.bind (ratio_Inv.mono k _ _ _) (fun _ => ?_)
    | with_reducible refine Le.bind (ratio_Mul.mono k _ _ _ _ _ _) (fun _ => ?_)
    | with_reducible exact ratio_Inv.mono k _ _ _
    | with_reducible exact ratio_Mul.mono k _ _ _ _ _ _
    | with_reducible refine Le.bind (Le.refl _) (fun _ => ?_)
    | split)
theorem ratio_over.mono (k : Nat) : ∀ x0 x1 x2 x3 x4 x5, Le (ratio_over.f k x0 x1 x2 x3 x4 x5) (ratio_over.f (k + 1) x0 x1 x2 x3 x4 x5) := by
  intro x0 x1 x2 x3 x4 x5
  unfold ratio_over.f
  repeat' (first
    | with_reducible exact Le.refl _
    | with_reducible refine Le.ite ?_ ?_
    | with_reducible refine Le.bind (ratio_Div.mono k _ _ _ _ _ _) (fun _ => ?_)
    | with_reducible exact ratio_Div.mono k _ _ _ _ _ _
    | with_reducible refine Le.bind (Le.refl _) (fun _ => ?_)
    | split)
theorem ratio_unfold.monoL (k : Nat) : (∀ x0 x1 x2 x3 x4 x5, Le (ratio_unfold.l0 k x0 x1 x2 x3 x4 x5) (ratio_unfold.l0 (k + 1) x0 x1 x2 x3 x4 x5)) := by
  induction k with
  | zero => exact fun _ _ _ _ _ _ => Le.none _
  | succ k ih =>
    intro x0 x1 x2 x3 x4 x5
    refine Le.eqs (ratio_unfold.l0.eq_2 ..) (ratio_unfold.l0.eq_2 ..) ?_
    repeat' (first
      | with_reducible exact Le.refl _
      | with_reducible refine Le.ite ?_ ?_
      | with_reducible exact ih _ _ _ _ _ _
      | with_reducible refine Le.bind (ih _ _ _ _ _ _) (fun _ => ?_)
      | with_reducible refine Le.bind (ratio_One.mono k ) (fun _ => ?_)
      | with_reducible refine Le.bind (ratio_over.mono k _ _ _ _ _ _) (fun _ => ?_)
      | with_reducible refine Le.bind (ratio_Add.mono k _ _ _ _ _ _) (fun _ => ?_)
      | with_reducible exact ratio_One.mono k 
      | with_reducible exact ratio_over.mono k _ _ _ _ _ _
      | with_reducible exact ratio_Add.mono k _ _ _ _ _ _
      | with_reducible refine Le.bind (Le.refl _) (fun _ => ?_)
      | split)
theorem ratio_unfold.mono (k : Nat) : ∀ x0 x1 x2 x3, Le (ratio_unfold.f k x0 x1 x2 x3) (ratio_unfold.f (k + 1) x0 x1 x2 x3) := by
  intro x0 x1 x2 x3
  unfold ratio_unfold.f
  repeat' (first
    | with_reducible exact Le.refl _
    | with_reducible refine Le.ite ?_ ?_
    | with_reducible exact (ratio_unfold.monoL k) _ _ _ _ _ _
    | with_reducible refine Le.bind (Le.refl _) (fun _ => ?_)
    | split)
theorem ratio_Simplest.monoL (k : Nat) : (∀ x0 x1 x2 x3 x4 x5 x6 x7, Le (ratio_Simplest.l0 k x0 x1 x2 x3 x4 x5 x6 x7) (ratio_Simplest.l0 (k + 1) x0 x1 x2 x3 x4 x5 x6 x7)) ∧ (∀ x0 x1 x2 x3 x4 x5, Le (ratio_Simplest.f k x0 x1 x2 x3 x4 x5) (ratio_Simplest.f (k + 1) x0 x1 x2 x3 x4 x5)) := by
  induction k with
  | zero => exact ⟨fun _ _ _ _ _ _ _ _ => Le.none _, fun _ _ _ _ _ _ => Le.none _⟩
  | succ k ih =>
    refine ⟨?_, ?_⟩
    · intro x0 x1 x2 x3 x4 x5 x6 x7
      refine Le.eqs (ratio_Simplest.l0.eq_2 ..) (ratio_Simplest.l0.eq_2 ..) ?_
      repeat' (first
        | with_reducible exact Le.refl _
        | with_reducible refine Le.ite ?_ ?_
        | with_reducible exact ih.1 _ _ _ _ _ _ _ _
        | with_reducible refine Le.bind (ih.1 _ _ _ _ _ _ _ _) (fun _ => ?_)
        | with_reducible refine Le.bind (ratio_Ceil.mono k _ _ _) (fun _ => ?_)
        | with_reducible refine Le.bind (ratio_Int.mono k _ _) (fun _ => ?_)
        | with_reducible refine Le.bind (ratio_Cmp.mono k _ _ _ _ _ _) (fun _ => ?_)
        | with_reducible refine Le.bind (ratio_unfold.mono k _ _ _ _) (fun _ => ?_)
        | with_reducible refine Le.bind (ratio_Floor.mono k _ _ _) (fun _ => ?_)
        | with_reducible refine Le.bind (ratio_One.mono k ) (fun _ => ?_)
        | with_reducible refine Le.bind (ratio_Sub.mono k _ _ _ _ _ _) (fun _ => ?_)
        | with_reducible refine Le.bind (ratio_over.mono k _ _ _ _ _ _) (fun _ => ?_)
        | with_reducible exact ratio_Ceil.mono k _ _ _
        | with_reducible exact ratio_Int.mono k _ _
        | with_reducible exact ratio_Cmp.mono k _ _ _ _ _ _
        | with_reducible exact ratio_unfold.mono k _ _ _ _
        | with_reducible exact ratio_Floor.mono k _ _ _
        | with_reducible exact ratio_One.mono k 
        | with_reducible exact ratio_Sub.mono k _ _ _ _ _ _
        | with_reducible exact ratio_over.mono k _ _ _ _ _ _
        | with_reducible refine Le.bind (Le.refl _) (fun _ => ?_)
        | split)
    · intro x0 x1 x2 x3 x4 x5
      refine Le.eqs (ratio_Simplest.f.eq_2 ..) (ratio_Simplest.f.eq_2 ..) ?_
      repeat' (first
        | with_reducible exact Le.refl _
        | with_reducible refine Le.ite ?_ ?_
        | with_reducible exact ih.1 _ _ _ _ _ _ _ _
        | with_reducible refine Le.bind (ih.1 _ _ _ _ _ _ _ _) (fun _ => ?_)
        | with_reducible exact ih.2 _ _ _ _ _ _
        | with_reducible refine Le.bind (ih.2 _ _ _ _ _ _) (fun _ => ?_)
        | with_reducible refine Le.bind (ratio_Clean.mono k _ _ _) (fun _ => ?_)
        | with_reducible refine Le.bind (ratio_Cmp.mono k _ _ _ _ _ _) (fun _ => ?_)
        | with_reducible refine Le.bind (ratio_Sign.mono k _ _ _) (fun _ => ?_)
        | with_reducible refine Le.bind (ratio_Zero.mono k ) (fun _ => ?_)
        | with_reducible refine Le.bind (ratio_Neg.mono k _ _ _) (fun _ => ?_)
        | with_reducible exact ratio_Clean.mono k _ _ _
        | with_reducible exact ratio_Cmp.mono k _ _ _ _ _ _
        | with_reducible exact ratio_Sign.mono k _ _ _
        | with_reducible exact ratio_Zero.mono k 
        | with_reducible exact ratio_Neg.mono k _ _ _
        | with_reducible refine Le.bind (Le.refl _) (fun _ => ?_)
        | split)
theorem ratio_Simplest.mono (k : Nat) : ∀ x0 x1 x2 x3 x4 x5, Le (ratio_Simplest.f k x0 x1 x2 x3 x4 x5) (ratio_Simplest.f (k + 1) x0 x1 x2 x3 x4 x5) := (ratio_Simplest.monoL k).2
theorem ratio_Same.mono (k : Nat) : ∀ x0 x1 x2 x3 x4 x5, Le (ratio_Same.f k x0 x1 x2 x3 x4 x5) (ratio_Same.f (k + 1) x0 x1 x2 x3 x4 x5) := by
  intro x0 x1 x2 x3 x4 x5
  unfold ratio_Same.f
  repeat' (first
    | with_reducible exact Le.refl _
    | with_reducible refine Le.ite ?_ ?_
    | with_reducible refine Le.bind (ratio_Cmp.mono k _ _ _ _ _ _) (fun _ => ?_)
    | with_reducible exact ratio_Cmp.mono k _ _ _ _ _ _
    | with_reducible refine Le.bind (Le.refl _) (fun _ => ?_)
    | split)
theorem ratio_middle.mono (k : Nat) : ∀ x0 x1 x2 x3 x4 x5, Le (ratio_middle.f k x0 x1 x2 x3 x4 x5) (ratio_middle.f (k + 1) x0 x1 x2 x3 x4 x5) := by
  intro x0 x1 x2 x3 x4 x5
  unfold ratio_middle.f
  repeat' (first
    | with_reducible exact Le.refl _
    | with_reducible refine Le.ite ?_ ?_
    | with_reducible refine Le.bind (whole_Add.mono k _ _ _ _) (fun _ => ?_)
    | with_reducible refine Le.bind (nat_Add.mono k _ _) (fun _ => ?_)
    | with_reducible refine Le.bind (ratio_form.mono k _ _ _) (fun _ => ?_)
    | with_reducible exact whole_Add.mono k _ _ _ _
    | with_reducible exact nat_Add.mono k _ _
    | with_reducible exact ratio_form.mono k _ _ _
    | with_reducible refine Le.bind (Le.refl _) (fun _ => ?_)
    | split)
theorem ratio_Near.monoL (k : Nat) : (∀ x0 x1 x2 x3 x4 x5 x6 x7 x8 x9 x10, Le (ratio_Near.l0 k x0 x1 x2 x3 x4 x5 x6 x7 x8 x9 x10) (ratio_Near.l0 (k + 1) x0 x1 x2 x3 x4 x5 x6 x7 x8 x9 x10)) := by
  induction k with
  | zero => exact fun _ _ _ _ _ _ _ _ _ _ _ => Le.none _
  | succ k ih =>
    intro x0 x1 x2 x3 x4 x5 x6 x7 x8 x9 x10
    refine Le.eqs (ratio_Near.l0.eq_2 ..) (ratio_Near.l0.eq_2 ..) ?_
    repeat' (first
      | with_reducible exact Le.refl _
      | with_reducible refine Le.ite ?_ ?_
      | with_reducible exact ih _ _ _ _ _ _ _ _ _ _ _
      | with_reducible refine Le.bind (ih _ _ _ _ _ _ _ _ _ _ _) (fun _ => ?_)
      | with_reducible refine Le.bind (nat_Add.mono k _ _) (fun _ => ?_)
      | with_reducible refine Le.bind (nat_Cmp.mono k _ _) (fun _ => ?_)
      | with_reducible refine Le.bind (ratio_middle.mono k _ _ _ _ _ _) (fun _ => ?_)
      | with_reducible refine Le.bind (ratio_Cmp.mono k _ _ _ _ _ _) (fun _ => ?_)
      | with_reducible refine Le.bind (ratio_Sub.mono k _ _ _ _ _ _) (fun _ => ?_)
      | with_reducible exact nat_Add.mono k _ _
      | with_reducible exact nat_Cmp.mono k _ _
      | with_reducible exact ratio_middle.mono k _ _ _ _ _ _
      | with_reducible exact ratio_Cmp.mono k _ _ _ _ _ _
      | with_reducible exact ratio_Sub.mono k _ _ _ _ _ _
      | with_reducible refine Le.bind (Le.refl _) (fun _ => ?_)
      | split)
theorem ratio_Near.mono (k : Nat) : ∀ x0 x1 x2 x3, Le (ratio_Near.f k x0 x1 x2 x3) (ratio_Near.f (k + 1) x0 x1 x2 x3) := by
  intro x0 x1 x2 x3
  unfold ratio_Near.f
  repeat' (first
    | with_reducible exact Le.refl _
    | with_reducible refine Le.ite ?_ ?_
    | with_reducible exact (ratio_Near.monoL k) _ _ _ _ _ _ _ _ _ _ _
    | with_reducible refine Le.bind (ratio_Clean.mono k _ _ _) (fun _ => ?_)
    | with_reducible refine Le.bind (ratio_Floor.mono k _ _ _) (fun _ => ?_)
    | with_reducible refine Le.bind (ratio_Int.mono k _ _) (fun _ => ?_)
    | with_reducible refine Le.bind (ratio_One.mono k ) (fun _ => ?_)
    | with_reducible refine Le.bind (ratio_Add.mono k _ _ _ _ _ _) (fun _ => ?_)
    | with_reducible refine Le.bind (ratio_Same.mono k _ _ _ _ _ _) (fun _ => ?_)
    | with_reducible refine Le.bind (nat_Of.mono k _) (fun _ => ?_)
    | with_reducible exact ratio_Clean.mono k _ _ _
    | with_reducible exact ratio_Floor.mono k _ _ _
    | with_reducible exact ratio_Int.mono k _ _
    | with_reducible exact ratio_One.mono k 
    | with_reducible exact ratio_Add.mono k _ _ _ _ _ _
    | with_reducible exact ratio_Same.mono k _ _ _ _ _ _
    | with_reducible exact nat_Of.mono k _
    | with_reducible refine Le.bind (Le.refl _) (fun _ => ?_)
    | split)
theorem ratio_ten.monoL (k : Nat) : (∀ x0 x1 x2, Le (ratio_ten.l0 k x0 x1 x2) (ratio_ten.l0 (k + 1) x0 x1 x2)) := by
  induction k with
  | zero => exact fun _ _ _ => Le.none _
  | succ k ih =>
    intro x0 x1 x2
    refine Le.eqs (ratio_ten.l0.eq_2 ..) (ratio_ten.l0.eq_2 ..) ?_
    repeat' (first
      | with_reducible exact Le.refl _
      | with_reducible refine Le.ite ?_ ?_
      | with_reducible exact ih _ _ _
      | with_reducible refine Le.bind (ih _ _ _) (fun _ => ?_)
      | with_reducible refine Le.bind (nat_Of.mono k _) (fun _ => ?_)
      | with_reducible refine Le.bind (nat_Mul.mono k _ _) (fun _ => ?_)
      | with_reducible exact nat_Of.mono k _
      | with_reducible exact nat_Mul.mono k _ _
      | with_reducible refine Le.bind (Le.refl _) (fun _ => ?_)
      | split)
theorem ratio_ten.mono (k : Nat) : ∀ x0, Le (ratio_ten.f k x0) (ratio_ten.f (k + 1) x0) := by
  intro x0
  unfold ratio_ten.f
  repeat' (first
    | with_reducible exact Le.refl _
    | with_reducible refine Le.ite ?_ ?_
    | with_reducible exact (ratio_ten.monoL k) _ _ _
    | with_reducible refine Le.bind (nat_Of.mono k _) (fun _ => ?_)
    | with_reducible exact nat_Of.mono k _
    | with_reducible refine Le.bind (Le.refl _) (fun _ => ?_)
    | split)
theorem stringslite_Index.mono (k : Nat) : ∀ x0 x1, Le (stringslite_Index.f k x0 x1) (stringslite_Index.f (k + 1) x0 x1) := by
  intro x0 x1
  unfold stringslite_Index.f
  repeat' (first
    | with_reducible exact Le.refl _
    | with_reducible refine Le.ite ?_ ?_
    | with_reducible refine Le.bind (Le.refl _) (fun _ => ?_)
    | split)
theorem stringslite_Cut.mono (k : Nat) : ∀ x0 x1, Le (stringslite_Cut.f k x0 x1) (stringslite_Cut.f (k + 1) x0 x1) := by
  intro x0 x1
  unfold stringslite_Cut.f
  repeat' (first
    | with_reducible exact Le.refl _
    | with_reducible refine Le.ite ?_ ?_
    | with_reducible refine Le.bind (stringslite_Index.mono k _ _) (fun _ => ?_)
    | with_reducible exact stringslite_Index.mono k _ _
    | with_reducible refine Le.bind (Le.refl _) (fun _ => ?_)
    | split)
theorem strings_Cut.mono (k : Nat) : ∀ x0 x1, Le (strings_Cut.f k x0 x1) (strings_Cut.f (k + 1) x0 x1) := by
  intro x0 x1
  unfold strings_Cut.f
  repeat' (first
    | with_reducible exact Le.refl _
    | with_reducible refine Le.ite ?_ ?_
    | with_reducible refine Le.bind (stringslite_Cut.mono k _ _) (fun _ => ?_)
    | with_reducible exact stringslite_Cut.mono k _ _
    | with_reducible refine Le.bind (Le.refl _) (fun _ => ?_)
    | split)
theorem nat_plus.monoL (k : Nat) : (∀ x0 x1 x2 x3 x4, Le (nat_plus.l0 k x0 x1 x2 x3 x4) (nat_plus.l0 (k + 1) x0 x1 x2 x3 x4)) := by
  induction k with
  | zero => exact fun _ _ _ _ _ => Le.none _
  | succ k ih =>
    intro x0 x1 x2 x3 x4
    refine Le.eqs (nat_plus.l0.eq_2 ..) (nat_plus.l0.eq_2 ..) ?_
    repeat' (first
      | with_reducible exact Le.refl _
      | with_reducible refine Le.ite ?_ ?_
      | with_reducible exact ih _ _ _ _ _
      | with_reducible refine Le.bind (ih _ _ _ _ _) (fun _ => ?_)
      | with_reducible refine Le.bind (nat_trim.mono k _) (fun _ => ?_)
      | with_reducible exact nat_trim.mono k _
      | with_reducible refine Le.bind (Le.refl _) (fun _ => ?_)
      | split)
theorem nat_plus.mono (k : Nat) : ∀ x0 x1, Le (nat_plus.f k x0 x1) (nat_plus.f (k + 1) x0 x1) := by
  intro x0 x1
  unfold nat_plus.f
  repeat' (first
    | with_reducible exact Le.refl _
    | with_reducible refine Le.ite ?_ ?_
    | with_reducible exact (nat_plus.monoL k) _ _ _ _ _
    | with_reducible refine Le.bind (Le.refl _) (fun _ => ?_)
    | split)
theorem nat_Parse.monoL (k : Nat) : (∀ x0 x1 x2, Le (nat_Parse.l0 k x0 x1 x2) (nat_Parse.l0 (k + 1) x0 x1 x2)) ∧ (∀ x0 x1, Le (nat_Parse.l1 k x0 x1) (nat_Parse.l1 (k + 1) x0 x1)) ∧ (∀ x0 x1 x2 x3 x4 x5 x6, Le (nat_Parse.l2 k x0 x1 x2 x3 x4 x5 x6) (nat_Parse.l2 (k + 1) x0 x1 x2 x3 x4 x5 x6)) := by
  induction k with
  | zero => exact ⟨fun _ _ _ => Le.none _, fun _ _ => Le.none _, fun _ _ _ _ _ _ _ => Le.none _⟩
  | succ k ih =>
    refine ⟨?_, ?_, ?_⟩
    · intro x0 x1 x2
      refine Le.eqs (nat_Parse.l0.eq_2 ..) (nat_Parse.l0.eq_2 ..) ?_
      repeat' (first
        | with_reducible exact Le.refl _
        | with_reducible refine Le.ite ?_ ?_
        | with_reducible exact ih.1 _ _ _
        | with_reducible refine Le.bind (ih.1 _ _ _) (fun _ => ?_)
        | with_reducible exact ih.2.1 _ _
        | with_reducible refine Le.bind (ih.2.1 _ _) (fun _ => ?_)
        | with_reducible refine Le.bind (Le.refl _) (fun _ => ?_)
        | split)
    · intro x0 x1
      refine Le.eqs (nat_Parse.l1.eq_2 ..) (nat_Parse.l1.eq_2 ..) ?_
      repeat' (first
        | with_reducible exact Le.refl _
        | with_reducible refine Le.ite ?_ ?_
        | with_reducible exact ih.2.2 _ _ _ _ _ _ _
        | with_reducible refine Le.bind (ih.2.2 _ _ _ _ _ _ _) (fun _ => ?_)
        | with_reducible refine Le.bind (Le.refl _) (fun _ => ?_)
        | split)
    · intro x0 x1 x2 x3 x4 x5 x6
      refine Le.eqs (nat_Parse.l2.eq_2 ..) (nat_Parse.l2.eq_2 ..) ?_
      repeat' (first
        | with_reducible exact Le.refl _
        | with_reducible refine Le.ite ?_ ?_
        | with_reducible exact ih.2.1 _ _
        | with_reducible refine Le.bind (ih.2.1 _ _) (fun _ => ?_)
        | with_reducible exact ih.2.2 _ _ _ _ _ _ _
        | with_reducible refine Le.bind (ih.2.2 _ _ _ _ _ _ _) (fun _ => ?_)
        | with_reducible refine Le.bind (nat_plus.mono k _ _) (fun _ => ?_)
        | with_reducible exact nat_plus.mono k _ _
        | with_reducible refine Le.bind (Le.refl _) (fun _ => ?_)
        | split)
theorem nat_Parse.mono (k : Nat) : ∀ x0, Le (nat_Parse.f k x0) (nat_Parse.f (k + 1) x0) := by
  intro x0
  unfold nat_Parse.f
  repeat' (first
    | with_reducible exact Le.refl _
    | with_reducible refine Le.ite ?_ ?_
    | with_reducible exact (nat_Parse.monoL k).1 _ _ _
    | with_reducible refine Le.bind (Le.refl _) (fun _ => ?_)
    | split)
theorem ratio_plain.mono (k : Nat) : ∀ x0, Le (ratio_plain.f k x0) (ratio_plain.f (k + 1) x0) := by
  intro x0
  unfold ratio_plain.f
  repeat' (first
    | with_reducible exact Le.refl _
    | with_reducible refine Le.ite ?_ ?_
    | with_reducible refine Le.bind (strings_Cut.mono k _ _) (fun _ => ?_)
    | with_reducible refine Le.bind (nat_Parse.mono k _) (fun _ => ?_)
    | with_reducible refine Le.bind (ratio_form.mono k _ _ _) (fun _ => ?_)
    | with_reducible refine Le.bind (ratio_ten.mono k _) (fun _ => ?_)
    | with_reducible refine Le.bind (nat_Mul.mono k _ _) (fun _ => ?_)
    | with_reducible refine Le.bind (nat_Add.mono k _ _) (fun _ => ?_)
    | with_reducible refine Le.bind (nat_Of.mono k _) (fun _ => ?_)
    | with_reducible exact strings_Cut.mono k _ _
    | with_reducible exact nat_Parse.mono k _
    | with_reducible exact ratio_form.mono k _ _ _
    | with_reducible exact ratio_ten.mono k _
    | with_reducible exact nat_Mul.mono k _ _
    | with_reducible exact nat_Add.mono k _ _
    | with_reducible exact nat_Of.mono k _
    | with_reducible refine Le.bind (Le.refl _) (fun _ => ?_)
    | split)
theorem ratio_Parse.mono (k : Nat) : ∀ x0, Le (ratio_Parse.f k x0) (ratio_Parse.f (k + 1) x0) := by
  intro x0
  unfold ratio_Parse.f
  repeat' (first
    | with_reducible exact Le.refl _
    | with_reducible refine Le.ite ?_ ?_
    | with_reducible refine Le.bind (ratio_plain.mono k _) (fun _ => ?_)
    | with_reducible refine Le.bind (ratio_Neg.mono k _ _ _) (fun _ => ?_)
    | with_reducible exact ratio_plain.mono k _
    | with_reducible exact ratio_Neg.mono k _ _ _
    | with_reducible refine Le.bind (Le.refl _) (fun _ => ?_)
    | split)
theorem nat_Bit.mono (k : Nat) : ∀ x0 x1, Le (nat_Bit.f k x0 x1) (nat_Bit.f (k + 1) x0 x1) := by
  intro x0 x1
  unfold nat_Bit.f
  repeat' (first
    | with_reducible exact Le.refl _
    | with_reducible refine Le.ite ?_ ?_
    | with_reducible refine Le.bind (nat_Clean.mono k _) (fun _ => ?_)
    | with_reducible exact nat_Clean.mono k _
    | with_reducible refine Le.bind (Le.refl _) (fun _ => ?_)
    | split)
theorem nat_Even.mono (k : Nat) : ∀ x0, Le (nat_Even.f k x0) (nat_Even.f (k + 1) x0) := by
  intro x0
  unfold nat_Even.f
  repeat' (first
    | with_reducible exact Le.refl _
    | with_reducible refine Le.ite ?_ ?_
    | with_reducible refine Le.bind (nat_Bit.mono k _ _) (fun _ => ?_)
    | with_reducible exact nat_Bit.mono k _ _
    | with_reducible refine Le.bind (Le.refl _) (fun _ => ?_)
    | split)
theorem ratio_Round.mono (k : Nat) : ∀ x0 x1 x2, Le (ratio_Round.f k x0 x1 x2) (ratio_Round.f (k + 1) x0 x1 x2) := by
  intro x0 x1 x2
  unfold ratio_Round.f
  repeat' (first
    | with_reducible exact Le.refl _
    | with_reducible refine Le.ite ?_ ?_
    | with_reducible refine Le.bind (ratio_Floor.mono k _ _ _) (fun _ => ?_)
    | with_reducible refine Le.bind (ratio_Int.mono k _ _) (fun _ => ?_)
    | with_reducible refine Le.bind (ratio_Sub.mono k _ _ _ _ _ _) (fun _ => ?_)
    | with_reducible refine Le.bind (ratio_Frac.mono k _ _) (fun _ => ?_)
    | with_reducible refine Le.bind (ratio_Cmp.mono k _ _ _ _ _ _) (fun _ => ?_)
    | with_reducible refine Le.bind (nat_Even.mono k _) (fun _ => ?_)
    | with_reducible refine Le.bind (whole_Of.mono k _) (fun _ => ?_)
    | with_reducible refine Le.bind (whole_Add.mono k _ _ _ _) (fun _ => ?_)
    | with_reducible exact ratio_Floor.mono k _ _ _
    | with_reducible exact ratio_Int.mono k _ _
    | with_reducible exact ratio_Sub.mono k _ _ _ _ _ _
    | with_reducible exact ratio_Frac.mono k _ _
    | with_reducible exact ratio_Cmp.mono k _ _ _ _ _ _
    | with_reducible exact nat_Even.mono k _
    | with_reducible exact whole_Of.mono k _
    | with_reducible exact whole_Add.mono k _ _ _ _
    | with_reducible refine Le.bind (Le.refl _) (fun _ => ?_)
    | split)
theorem nat_nine.monoL (k : Nat) : (∀ x0 x1 x2, Le (nat_nine.l0 k x0 x1 x2) (nat_nine.l0 (k + 1) x0 x1 x2)) := by
  induction k with
  | zero => exact fun _ _ _ => Le.none _
  | succ k ih =>
    intro x0 x1 x2
    refine Le.eqs (nat_nine.l0.eq_2 ..) (nat_nine.l0.eq_2 ..) ?_
    repeat' (first
      | with_reducible exact Le.refl _
      | with_reducible refine Le.ite ?_ ?_
      | with_reducible exact ih _ _ _
      | with_reducible refine Le.bind (ih _ _ _) (fun _ => ?_)
      | with_reducible refine Le.bind (Le.refl _) (fun _ => ?_)
      | split)
theorem nat_nine.mono (k : Nat) : ∀ x0, Le (nat_nine.f k x0) (nat_nine.f (k + 1) x0) := by
  intro x0
  unfold nat_nine.f
  repeat' (first
    | with_reducible exact Le.refl _
    | with_reducible refine Le.ite ?_ ?_
    | with_reducible exact (nat_nine.monoL k) _ _ _
    | with_reducible refine Le.bind (Le.refl _) (fun _ => ?_)
    | split)
theorem nat_Print.monoL (k : Nat) : (∀ x0 x1, Le (nat_Print.l0 k x0 x1) (nat_Print.l0 (k + 1) x0 x1)) ∧ (∀ x0 x1 x2, Le (nat_Print.l1 k x0 x1 x2) (nat_Print.l1 (k + 1) x0 x1 x2)) ∧ (∀ x0 x1, Le (nat_Print.l2 k x0 x1) (nat_Print.l2 (k + 1) x0 x1)) := by
  induction k with
  | zero => exact ⟨fun _ _ => Le.none _, fun _ _ _ => Le.none _, fun _ _ => Le.none _⟩
  | succ k ih =>
    refine ⟨?_, ?_, ?_⟩
    · intro x0 x1
      refine Le.eqs (nat_Print.l0.eq_2 ..) (nat_Print.l0.eq_2 ..) ?_
      repeat' (first
        | with_reducible exact Le.refl _
        | with_reducible refine Le.ite ?_ ?_
        | with_reducible exact ih.1 _ _
        | with_reducible refine Le.bind (ih.1 _ _) (fun _ => ?_)
        | with_reducible exact ih.2.1 _ _ _
        | with_reducible refine Le.bind (ih.2.1 _ _ _) (fun _ => ?_)
        | with_reducible refine Le.bind (nat_small.mono k _ _) (fun _ => ?_)
        | with_reducible exact nat_small.mono k _ _
        | with_reducible refine Le.bind (Le.refl _) (fun _ => ?_)
        | split)
    · intro x0 x1 x2
      refine Le.eqs (nat_Print.l1.eq_2 ..) (nat_Print.l1.eq_2 ..) ?_
      repeat' (first
        | with_reducible exact Le.refl _
        | with_reducible refine Le.ite ?_ ?_
        | with_reducible exact ih.2.1 _ _ _
        | with_reducible refine Le.bind (ih.2.1 _ _ _) (fun _ => ?_)
        | with_reducible exact ih.2.2 _ _
        | with_reducible refine Le.bind (ih.2.2 _ _) (fun _ => ?_)
        | with_reducible refine Le.bind (nat_nine.mono k _) (fun _ => ?_)
        | with_reducible exact nat_nine.mono k _
        | with_reducible refine Le.bind (Le.refl _) (fun _ => ?_)
        | split)
    · intro x0 x1
      refine Le.eqs (nat_Print.l2.eq_2 ..) (nat_Print.l2.eq_2 ..) ?_
      repeat' (first
        | with_reducible exact Le.refl _
        | with_reducible refine Le.ite ?_ ?_
        | with_reducible exact ih.2.2 _ _
        | with_reducible refine Le.bind (ih.2.2 _ _) (fun _ => ?_)
        | with_reducible refine Le.bind (Le.refl _) (fun _ => ?_)
        | split)
theorem nat_Print.mono (k : Nat) : ∀ x0, Le (nat_Print.f k x0) (nat_Print.f (k + 1) x0) := by
  intro x0
  unfold nat_Print.f
  repeat' (first
    | with_reducible exact Le.refl _
    | with_reducible refine Le.ite ?_ ?_
    | with_reducible exact (nat_Print.monoL k).1 _ _
    | with_reducible refine Le.bind (nat_Clean.mono k _) (fun _ => ?_)
    | with_reducible exact nat_Clean.mono k _
    | with_reducible refine Le.bind (Le.refl _) (fun _ => ?_)
    | split)
theorem ratio_Decimal.mono (k : Nat) : ∀ x0 x1 x2 x3, Le (ratio_Decimal.f k x0 x1 x2 x3) (ratio_Decimal.f (k + 1) x0 x1 x2 x3) := by
  intro x0 x1 x2 x3
  unfold ratio_Decimal.f
  repeat' (first
    | with_reducible exact Le.refl _
    | with_reducible refine Le.ite ?_ ?_
    | with_reducible refine Le.bind (ratio_ten.mono k _) (fun _ => ?_)
    | with_reducible refine Le.bind (ratio_Int.mono k _ _) (fun _ => ?_)
    | with_reducible refine Le.bind (ratio_Mul.mono k _ _ _ _ _ _) (fun _ => ?_)
    | with_reducible refine Le.bind (ratio_Round.mono k _ _ _) (fun _ => ?_)
    | with_reducible refine Le.bind (nat_Print.mono k _) (fun _ => ?_)
    | with_reducible exact ratio_ten.mono k _
    | with_reducible exact ratio_Int.mono k _ _
    | with_reducible exact ratio_Mul.mono k _ _ _ _ _ _
    | with_reducible exact ratio_Round.mono k _ _ _
    | with_reducible exact nat_Print.mono k _
    | with_reducible refine Le.bind (Le.refl _) (fun _ => ?_)
    | split)
theorem whole_Print.mono (k : Nat) : ∀ x0 x1, Le (whole_Print.f k x0 x1) (whole_Print.f (k + 1) x0 x1) := by
  intro x0 x1
  unfold whole_Print.f
  repeat' (first
    | with_reducible exact Le.refl _
    | with_reducible refine Le.ite ?_ ?_
    | with_reducible refine Le.bind (whole_Clean.mono k _ _) (fun _ => ?_)
    | with_reducible refine Le.bind (nat_Print.mono k _) (fun _ => ?_)
    | with_reducible exact whole_Clean.mono k _ _
    | with_reducible exact nat_Print.mono k _
    | with_reducible refine Le.bind (Le.refl _) (fun _ => ?_)
    | split)
theorem ratio_Print.mono (k : Nat) : ∀ x0 x1 x2, Le (ratio_Print.f k x0 x1 x2) (ratio_Print.f (k + 1) x0 x1 x2) := by
  intro x0 x1 x2
  unfold ratio_Print.f
  repeat' (first
    | with_reducible exact Le.refl _
    | with_reducible refine Le.ite ?_ ?_
    | with_reducible refine Le.bind (ratio_Clean.mono k _ _ _) (fun _ => ?_)
    | with_reducible refine Le.bind (whole_Print.mono k _ _) (fun _ => ?_)
    | with_reducible refine Le.bind (nat_Of.mono k _) (fun _ => ?_)
    | with_reducible refine Le.bind (nat_Cmp.mono k _ _) (fun _ => ?_)
    | with_reducible refine Le.bind (nat_Print.mono k _) (fun _ => ?_)
    | with_reducible exact ratio_Clean.mono k _ _ _
    | with_reducible exact whole_Print.mono k _ _
    | with_reducible exact nat_Of.mono k _
    | with_reducible exact nat_Cmp.mono k _ _
    | with_reducible exact nat_Print.mono k _
    | with_reducible refine Le.bind (Le.refl _) (fun _ => ?_)
    | split)
theorem dendronlaw03_awake.mono (k : Nat) : Le (dendronlaw03_awake.f k ) (dendronlaw03_awake.f (k + 1) ) := by
  unfold dendronlaw03_awake.f
  repeat' (first
    | with_reducible exact Le.refl _
    | with_reducible refine Le.ite ?_ ?_
    | with_reducible refine Le.bind (ratio_Parse.mono k _) (fun _ => ?_)
    | with_reducible refine Le.bind (ratio_Frac.mono k _ _) (fun _ => ?_)
    | with_reducible refine Le.bind (ratio_Simplest.mono k _ _ _ _ _ _) (fun _ => ?_)
    | with_reducible refine Le.bind (ratio_Near.mono k _ _ _ _) (fun _ => ?_)
    | with_reducible refine Le.bind (ratio_Decimal.mono k _ _ _ _) (fun _ => ?_)
    | with_reducible refine Le.bind (ratio_Print.mono k _ _ _) (fun _ => ?_)
    | with_reducible exact ratio_Parse.mono k _
    | with_reducible exact ratio_Frac.mono k _ _
    | with_reducible exact ratio_Simplest.mono k _ _ _ _ _ _
    | with_reducible exact ratio_Near.mono k _ _ _ _
    | with_reducible exact ratio_Decimal.mono k _ _ _ _
    | with_reducible exact ratio_Print.mono k _ _ _
    | with_reducible refine Le.bind (Le.refl _) (fun _ => ?_)
    | split)
end Go.DI.Th
namespace Go.DI.Th
open Go Go.RowKit Go.DI
theorem awake03_ev : Ev (fun k => dendronlaw03_awake.f k) true := Ev.mono (K := 400) dendronlaw03_awake.mono (by decide +kernel)
end Go.DI.Th
namespace Go.DI.Th
open Go Go.RowKit Go.DI

def tinyR (r : Rt) : Rt := (r.1, r.2.1.take 2, r.2.2.take 2)
theorem tiny3_eq (b : Bool) (n d : List Int) : dendronlaw03_tiny.f b n d = some (tinyR (b, n, d)) := by
  unfold dendronlaw03_tiny.f tinyR
  have t : ∀ l : List Int, ¬ (l.length : Int) > 2 → l.take 2 = l := fun l h => List.take_of_length_le (by omega)
  by_cases h1 : (n.length : Int) > 2
  · rw [if_pos h1, if_pos (by omega)]
    by_cases h2 : (d.length : Int) > 2
    · rw [if_pos h2, if_pos (by omega)]
    · rw [if_neg h2]; dsimp only; rw [t d h2]
  · rw [if_neg h1]
    by_cases h2 : (d.length : Int) > 2
    · rw [if_pos h2, if_pos (by omega)]; dsimp only; rw [t n h1]
    · rw [if_neg h2]; dsimp only; rw [t n h1, t d h2]
theorem tiny3_ev (b : Bool) (n d : List Int) : Ev (fun _ => dendronlaw03_tiny.f b n d) (tinyR (b, n, d)) := Ev.congr (fun _ => tiny3_eq b n d) (Ev.now _)
theorem U.takeN {l : List Int} (h : U l) (n : Nat) : U (l.take n) := fun x hx => h x (List.mem_of_mem_take hx)
def RtU (r : Rt) : Prop := U r.2.1 ∧ U r.2.2
theorem tinyB {r : Rt} (h : RtU r) : RtB 2 (tinyR r) := ⟨h.1.takeN 2, h.2.takeN 2, by show (List.take 2 _).length ≤ 2; rw [List.length_take]; omega, by show (List.take 2 _).length ≤ 2; rw [List.length_take]; omega⟩
theorem aw3 : Ev (fun k => (dendronlaw03_awake.f k).bind fun v => some v) true := Ev.bind awake03_ev (Ev.now _)
end Go.DI.Th
namespace Go.DI.Th
open Go Go.RowKit Go.DI

theorem Sz_div64 (n d : Int) (hn : -9223372036854775808 ≤ n ∧ n ≤ 9223372036854775807) (hd : -9223372036854775808 ≤ d ∧ d ≤ 9223372036854775807) (h0 : d ≠ 0) : Sz (Rat.divInt n d) ≤ 2 := by
  rw [← mk_over n d h0]
  have h1 := Sz_mk (over n d) d.natAbs (by omega)
  rw [over_abs] at h1
  have h2 := len_small (n := n.natAbs) (by omega)
  have h3 := len_small (n := d.natAbs) (by omega)
  omega
end Go.DI.Th
namespace Go.DI.Th
open Go Go.RowKit Go.DI

def half : Rat := Rat.divInt 1 2
theorem half_eq : half = (1 : Rat) / 2 := by
  unfold half
  rw [Rat.divInt_eq_div]
  rfl
theorem even_ev (z : Int) (h : len z.natAbs ≤ 35184372088832) : Ev (fun k => nat_Even.f k (wl z).2) (decide (z % 2 = 0)) := by
  unfold nat_Even.f nat_Bit.f
  have e2 : (wl z).2 = lm z.natAbs := rfl
  rw [e2]
  have key : Ev (fun k => (nat_Clean.f k (lm z.natAbs)).bind fun v2 => (if (0 : Int) < 0 then (some 0) else (if (wrap64 (Int.tdiv 0 32)) ≥ (v2.length : Int) then (some 0) else (if 0 ≤ (wrap64 (Int.tdiv 0 32)) then (if (wrap64 (Int.tdiv 0 32)) < (v2.length : Int) then (if 0 ≤ (Int.tmod 0 32) then (some (wrap64 ((Go.bits .and .u64 (shr .u64 (rd v2 (wrap64 (Int.tdiv 0 32))) (Int.tmod 0 32)) 1)))) else none) else none) else none)))) (z % 2) := by
    refine Ev.bind (clean_lm z.natAbs h) (Ev.if_neg (by decide) ?_)
    have ew : wrap64 (Int.tdiv 0 32) = 0 := by rw [wrap_id (by decide) (by decide)]; rfl
    rw [ew]
    by_cases h0 : z.natAbs = 0
    · refine Ev.if_pos (by rw [h0, lm_zero]; decide) ((Ev.now _).of_eq ?_)
      omega
    · have hp := len_eq_zero (n := z.natAbs)
      have hd : rd (lm z.natAbs) 0 = ((z.natAbs % 4294967296 : Nat) : Int) := by
        rw [lm_pos h0]
        rfl
      refine Ev.if_neg (by rw [lm_length]; omega) (Ev.if_pos (by decide) (Ev.if_pos (by rw [lm_length]; omega) (Ev.if_pos (by decide) ((Ev.now _).of_eq ?_))))
      rw [hd]
      have es : shr .u64 ((z.natAbs % 4294967296 : Nat) : Int) (Int.tmod 0 32) = ((z.natAbs % 4294967296 : Nat) : Int) := by
        show ((z.natAbs % 4294967296 : Nat) : Int) / 2 ^ min (Int.tmod 0 32).toNat (IntKind.u64.bits) = _
        have : min (Int.tmod 0 32).toNat (IntKind.u64.bits) = 0 := by rfl
        rw [this]
        simp
      rw [es]
      have eb := bits_and_u64_nat (z.natAbs % 4294967296) 1 (by omega) (by omega)
      rw [show ((1 : Nat) : Int) = 1 from rfl] at eb
      rw [eb, Nat.and_one_is_mod, wrap_id (by omega) (by omega)]
      omega
  refine (Ev.bind (f := fun _ v2 => some (v2 == 0)) key (Ev.now _)).of_eq ?_
  rw [Bool.eq_iff_iff, beq_iff_eq, decide_eq_true_iff]
def roundQ (x : Rat) : Int := if x - (x.floor : Rat) < half then x.floor else if x - (x.floor : Rat) = half then (if x.floor % 2 = 0 then x.floor else x.floor + 1) else x.floor + 1
theorem Sz_half : Sz half ≤ 2 := Sz_div64 1 2 (by decide) (by decide) (by decide)
theorem round_cn (r : Rt) {b : Nat} (h : RtB b r) (hb : b ≤ 100000000) : Ev (fun k => ratio_Round.f k r.1 r.2.1 r.2.2) (wl (roundQ (rv r))) := by
  unfold ratio_Round.f
  have hz := h.sz
  have hf := floor_cn r h (by omega)
  have hl := floor_len (rv r) hz
  have hi := intz_cn (rv r).floor (by omega)
  have zi : Sz ((rv r).floor : Rat) ≤ b + 1 := by rw [Sz_int]; omega
  have hs := sub_cn r (cn ((rv r).floor : Rat)) h (cnB _ zi) (by omega)
  rw [rv_cn] at hs
  have hfr : Ev (fun k => ratio_Frac.f k 1 2) (cn half) := frac_cn 1 2 (by decide) (by decide)
  have zs := Sz_sub (rv r) ((rv r).floor : Rat)
  have hc := cmp_cn (cn (rv r - ((rv r).floor : Rat))) (cn half) (cnB _ (Nat.le_refl _)) (cnB _ Sz_half) (by omega) (by decide)
  rw [rv_cn, rv_cn] at hc
  refine Ev.bind hf (Ev.bind hi (Ev.bind hs (Ev.bind hfr (Ev.bind hc ?_))))
  have up : Ev (fun k => (whole_Of.f k 1).bind fun v25 => (whole_Add.f k (wl (rv r).floor).1 (wl (rv r).floor).2 v25.1 v25.2).bind fun v26 => some (v26.1, v26.2)) (wl ((rv r).floor + 1)) := by
    have ha := wadd_ev (wl (rv r).floor).1 (wl (rv r).floor).2 (wl 1).1 (wl 1).2 (lm_ok _).U (lm_ok _).U (by rw [wl_lens]; omega) (by rw [wl_lens]; have := len_small (n := (1 : Int).natAbs) (by decide); omega)
    rw [wv_wl, wv_wl] at ha
    exact Ev.bind (wof_ev 1 (by decide) (by decide)) (Ev.bind ha (Ev.now _))
  unfold roundQ
  by_cases h1 : rv r - ((rv r).floor : Rat) < half
  · rw [if_pos h1]
    exact Ev.if_pos (cmpQ_neg.2 h1) (Ev.now _)
  · rw [if_neg h1]
    refine Ev.if_neg (fun e => h1 (cmpQ_neg.1 e)) ?_
    by_cases h2 : rv r - ((rv r).floor : Rat) = half
    · rw [if_pos h2]
      refine Ev.if_pos (cmpQ_zero.2 h2) (Ev.bind (even_ev (rv r).floor (by omega)) ?_)
      by_cases h3 : (rv r).floor % 2 = 0
      · rw [if_pos h3]
        exact Ev.if_pos (decide_eq_true h3) (Ev.now _)
      · rw [if_neg h3]
        exact Ev.if_neg (by simp [h3]) up
    · rw [if_neg h2]
      exact Ev.if_neg (fun e => h2 (cmpQ_zero.1 e)) up
theorem round_near (x : Rat) : -half ≤ x - (roundQ x : Rat) ∧ x - (roundQ x : Rat) ≤ half ∧ ((-half < x - (roundQ x : Rat) ∧ x - (roundQ x : Rat) < half) ∨ roundQ x % 2 = 0) := by
  have hf := Rat.floor_le x
  have hg := Rat.lt_floor_add_one x
  rw [Rat.intCast_add] at hg
  have e1 : ((1 : Int) : Rat) = 1 := rfl
  rw [e1] at hg
  rw [half_eq]
  unfold roundQ
  rw [half_eq]
  by_cases h1 : x - (x.floor : Rat) < 1 / 2
  · rw [if_pos h1]
    refine ⟨by grind, by grind, Or.inl ⟨by grind, by grind⟩⟩
  · rw [if_neg h1]
    by_cases h2 : x - (x.floor : Rat) = 1 / 2
    · rw [if_pos h2]
      have h4 : x - (x.floor : Rat) ≤ 1 / 2 := by rw [h2]; exact Rat.le_refl
      have h5 : (1 : Rat) / 2 ≤ x - (x.floor : Rat) := by rw [h2]; exact Rat.le_refl
      clear h2
      by_cases h3 : x.floor % 2 = 0
      · rw [if_pos h3]
        exact ⟨by grind, h4, Or.inr h3⟩
      · rw [if_neg h3, Rat.intCast_add, e1]
        exact ⟨by grind, by grind, Or.inr (by omega)⟩
    · rw [if_neg h2, Rat.intCast_add, e1]
      exact ⟨by grind, by grind, Or.inl ⟨by grind, by grind⟩⟩
theorem roundQ_len (x : Rat) {b : Nat} (h : Sz x ≤ b) : len (roundQ x).natAbs ≤ b + 1 := by
  have hl := floor_len x h
  have hp : len (x.floor + 1).natAbs ≤ b + 1 := by
    have h1 := len_mono (Int.natAbs_add_le x.floor 1)
    have h2 := len_add x.floor.natAbs (1 : Int).natAbs
    have h3 : len (1 : Int).natAbs = 1 := len_one
    have h4 := Sz_pos x
    omega
  unfold roundQ
  split
  · omega
  · split
    · split <;> omega
    · exact hp
theorem mk_half : mkRat 1 2 = half ∧ mkRat (-1) 2 = -half := by
  constructor
  · unfold half
    exact (Rat.divInt_ofNat 1 2).symm
  · unfold half
    rw [show Rat.divInt 1 2 = mkRat 1 2 from Rat.divInt_ofNat 1 2, Rat.neg_mkRat]
end Go.DI.Th
namespace Go.DI.Th
open Go Go.RowKit Go.DI

theorem plus_limb (x c : Int) (hx : 0 ≤ x ∧ x < 4294967296) (hc : 0 ≤ c ∧ c < 1000000000) :
    ∃ y z : Int, (0 ≤ y ∧ y < 4294967296) ∧ (0 ≤ z ∧ z < 1000000000) ∧ y + 4294967296 * z = c + x * 1000000000 ∧ Go.bits .and .u64 (IntKind.u64.wrap (c + (IntKind.u64.wrap (x * 1000000000)))) 4294967295 = y ∧ (IntKind.u64.wrap (c + (IntKind.u64.wrap (x * 1000000000)))) / 4294967296 = z := by
  have e : IntKind.u64.wrap (c + (IntKind.u64.wrap (x * 1000000000))) = c + x * 1000000000 := by
    simp only [w64]
    omega
  rw [e, and_low (by omega) (by omega)]
  exact ⟨_, _, ⟨Int.emod_nonneg _ (by decide), Int.emod_lt_of_pos _ (by decide)⟩, by omega, by omega, rfl, rfl⟩
theorem plus_val (p vd vt x y z c : Int) (h : vd + p * c = vt) (hs : y + 4294967296 * z = c + x * 1000000000) : vd + p * y + p * 4294967296 * z = vt + p * x * 1000000000 := by grind
theorem plus_loop (a : List Int) (ha : Ok a) (v : Nat) (N : Nat) (hN : N ≤ 35184372088832) (hla : a.length + 1 = N) (hs : val a * 1000000000 + v < 4294967296 ^ N) (d : Nat) : ∀ (done : List Int) (c : Int), Ok done → done.length + d = N → (0 ≤ c ∧ c < 1000000000) →
    val done + 4294967296 ^ done.length * c = (val (a.take done.length) : Int) * 1000000000 + v →
    Ev (fun k => nat_plus.l0 k a c (done ++ List.replicate d 0) (N : Int) (done.length : Int)) (lm (val a * 1000000000 + v)) := by
  induction d with
  | zero =>
    intro done c hd hl hc hv
    have hl' : done.length = N := by omega
    rw [List.take_of_length_le (by omega)] at hv
    have hz : val done = val a * 1000000000 + v := by
      have e : (4294967296 : Int) ^ done.length = ((4294967296 ^ done.length : Nat) : Int) := by rw [Int.natCast_pow]; rfl
      have hc0 : c = 0 := by
        apply Classical.byContradiction
        intro h0
        have h1 : (4294967296 : Int) ^ done.length * 1 ≤ 4294967296 ^ done.length * c := Int.mul_le_mul_of_nonneg_left (by omega) (by rw [e]; exact Int.natCast_nonneg _)
        rw [Int.mul_one, e, hl'] at h1
        rw [hl'] at e
        rw [hl', e] at hv
        omega
      rw [hc0] at hv
      omega
    refine Ev.step (f := fun k => (nat_trim.f k done).bind fun t => some t) (fun k => ?_) (Ev.bind ?_ (Ev.now _))
    · simp only [nat_plus.l0]
      rw [if_neg (by omega)]
      simp
    · have := trim_ev done hd (by omega)
      rwa [hz] at this
  | succ d ih =>
    intro done c hd hl hc hv
    have va := val_take_rd a ha done.length
    obtain ⟨y, nd, hy, hnd, hsum, e1, e2⟩ := plus_limb (rd a (done.length : Int)) c (rd_ok ha _) hc
    refine Ev.step (fun k => ?_) (ih (done ++ [y]) nd (hd.append (Ok.cons hy Ok.nil)) (by simp; omega) hnd ?_)
    · simp only [nat_plus.l0]
      rw [if_pos (by omega), limb_eq a _ (by omega)]
      simp only [Option.bind_some]
      rw [if_pos (by omega), if_pos (by simp; omega), e1, e2, wrap_id (by omega) (by omega), show ((done.length : Int)).toNat = done.length by omega, fill]
      simp
    · rw [List.length_append, List.length_singleton, va, val_snoc_int done y hy, Int.pow_succ]
      have := plus_val (4294967296 ^ done.length) (val done) _ (rd a (done.length : Int)) y nd c hv hsum
      rw [this, Int.add_mul]
      omega
theorem nplus_ev (n v : Nat) (hv : v < 1000000000) (hl : len n ≤ 35184372088830) : Ev (fun k => nat_plus.f k (lm n) (v : Int)) (lm (n * 1000000000 + v)) := by
  have hN : val (lm n) * 1000000000 + v < 4294967296 ^ (len n + 1) := by
    rw [val_lm]
    have := lt_pow_len n
    rw [Nat.pow_succ]
    have h1 : n + 1 ≤ 4294967296 ^ len n := this
    have h2 : (n + 1) * 4294967296 ≤ 4294967296 ^ len n * 4294967296 := Nat.mul_le_mul_right _ h1
    omega
  have h := plus_loop (lm n) (lm_ok n) v (len n + 1) (by omega) (by rw [lm_length]) hN (len n + 1) [] (v : Int) Ok.nil (by simp) (by omega) (by simp [val])
  rw [val_lm] at h
  unfold nat_plus.f
  simp only [lm_length, wr_succ _ (show len n ≤ 1125899906842624 by omega), Int.toNat_natCast, List.length_replicate]
  exact Ev.if_pos (by omega) (Ev.if_pos (by omega) h)
def isD (c : UInt8) : Prop := 48 ≤ c.toNat ∧ c.toNat ≤ 57
instance (c : UInt8) : Decidable (isD c) := by unfold isD; infer_instance
def dgv (a : Nat) (l : List UInt8) : Nat := l.foldl (fun a c => 10 * a + (c.toNat - 48)) a
theorem dgv_cons (a : Nat) (c : UInt8) (l : List UInt8) : dgv a (c :: l) = dgv (10 * a + (c.toNat - 48)) l := by unfold dgv; rw [List.foldl_cons]
theorem dgv_nil (a : Nat) : dgv a [] = a := by unfold dgv; rw [List.foldl_nil]
theorem dgv_append (a : Nat) (l m : List UInt8) : dgv a (l ++ m) = dgv (dgv a l) m := List.foldl_append
theorem dgv_shift : ∀ (l : List UInt8) (a : Nat), dgv a l = a * 10 ^ l.length + dgv 0 l
  | [], a => by rw [dgv_nil, dgv_nil, List.length_nil, Nat.pow_zero]; omega
  | c :: l, a => by
    rw [dgv_cons, dgv_cons, dgv_shift l (10 * a + (c.toNat - 48)), dgv_shift l (10 * 0 + (c.toNat - 48)), List.length_cons, Nat.pow_succ, Nat.add_mul, Nat.mul_zero, Nat.zero_add, Nat.mul_comm 10 a, Nat.mul_assoc, Nat.mul_comm 10 (10 ^ l.length)]
    omega
theorem dgv_step (a d p x : Nat) (h3 : 10 * a + d + 1 ≤ (a + 1) * 10) (h : x < (10 * a + d + 1) * p) : x < (a + 1) * (10 * p) := by
  rw [← Nat.mul_assoc]
  exact Nat.lt_of_lt_of_le h (Nat.mul_le_mul_right _ h3)
theorem dgv_lt : ∀ (l : List UInt8) (a : Nat), (∀ c ∈ l, isD c) → dgv a l < (a + 1) * 10 ^ l.length
  | [], a, _ => by rw [dgv_nil, List.length_nil, Nat.pow_zero]; omega
  | c :: l, a, h => by
    have h1 := h c List.mem_cons_self
    have h2 := dgv_lt l (10 * a + (c.toNat - 48)) fun x hx => h x (List.mem_cons_of_mem _ hx)
    have h3 : 10 * a + (c.toNat - 48) + 1 ≤ (a + 1) * 10 := by unfold isD at h1; omega
    rw [dgv_cons, List.length_cons, Nat.pow_succ, Nat.mul_comm (10 ^ l.length) 10]
    exact dgv_step a (c.toNat - 48) (10 ^ l.length) _ h3 h2
def pE (w : List UInt8) : Int := if w = [] then 4 else if ∀ c ∈ w, isD c then (if w.length > 10000 then 5 else 0) else 4
def pR (w : List UInt8) : List Int × Int := if pE w = 0 then (lm (dgv 0 w), 0) else ([], pE w)
theorem pE_zero {w : List UInt8} : pE w = 0 ↔ w ≠ [] ∧ (∀ c ∈ w, isD c) ∧ w.length ≤ 10000 := by
  unfold pE
  by_cases h : w = []
  · rw [if_pos h]
    exact ⟨fun e => (by cases e), fun e => absurd h e.1⟩
  · rw [if_neg h]
    by_cases h1 : ∀ c ∈ w, isD c
    · rw [if_pos h1]
      by_cases h2 : w.length > 10000
      · rw [if_pos h2]
        exact ⟨fun e => (by cases e), fun e => by omega⟩
      · rw [if_neg h2]
        exact ⟨fun _ => ⟨h, h1, by omega⟩, fun _ => rfl⟩
    · rw [if_neg h1]
      exact ⟨fun e => (by cases e), fun e => absurd e.2.1 h1⟩
theorem ext_drop {s : ByteArray} {a b : List UInt8} (h : toL s = a ++ b) : s.extract a.length s.size = ofL b := by
  apply toL_inj
  rw [toL_extract, h, List.drop_left, toL_ofL, List.take_of_length_le]
  rw [size_toL, h, List.length_append]
  omega
theorem ext_take {s : ByteArray} {a b : List UInt8} (h : toL s = a ++ b) : s.extract 0 a.length = ofL a := by
  apply toL_inj
  rw [toL_extract, h, toL_ofL, List.drop_zero, Nat.sub_zero, List.take_left]
theorem at_byte {s : ByteArray} {a : List UInt8} {c : UInt8} {b : List UInt8} (h : toL s = a ++ c :: b) (hp : a.length < s.size) : s[a.length]'hp = c := by
  have e : (s[a.length]'hp) = (toL s)[a.length]'(by rw [← size_toL]; exact hp) := rfl
  rw [e]
  have : ∀ (l : List UInt8) (hl : a.length < l.length), l = a ++ c :: b → l[a.length]'hl = c := by
    intro l hl e
    subst e
    rw [List.getElem_append_right (Nat.le_refl _)]
    simp
  exact this _ _ h
theorem toBytes_eq (w : List UInt8) : toBytes (ofL w) = w.map fun c => (c.toNat : Int) := rfl
theorem parse_l2 (rest : ByteArray) (x0 : ByteArray) (x7 : Nat) (hx0 : x7 ≤ x0.size) (hrest : x0.extract x7 x0.size = rest) (acc : Nat) (hacc : len acc ≤ 35184372088830) (w : List UInt8) (hw : ∀ c ∈ w, isD c) (hl : w.length ≤ 9) (R : List Int × Int)
    (hend : Ev (fun k => nat_Parse.l1 k rest (lm (acc * 1000000000 + dgv 0 w))) R) : ∀ (b a : List UInt8), w = a ++ b →
    Ev (fun k => nat_Parse.l2 k x0 (lm acc) (x7 : Int) ((dgv 0 a : Nat) : Int) (w.map fun c => (c.toNat : Int)) (w.length : Int) (a.length : Int)) R := by
  intro b
  induction b with
  | nil =>
    intro a hr
    rw [List.append_nil] at hr
    subst hr
    refine Ev.succ ?_
    simp only [nat_Parse.l2]
    have hlt := dgv_lt w 0 hw
    have h9 : 10 ^ w.length ≤ 10 ^ 9 := Nat.pow_le_pow_right (by decide) hl
    refine Ev.if_neg (by omega) (Ev.bind (nplus_ev acc (dgv 0 w) (by omega) hacc) (Ev.if_pos (nn0 _) (Ev.if_pos (by omega) ?_)))
    rw [Int.toNat_natCast, hrest]
    exact hend
  | cons c b ih =>
    intro a hr
    have hc : isD c := hw c (by rw [hr]; simp)
    have hlen : w.length = a.length + (b.length + 1) := by rw [hr, List.length_append, List.length_cons]
    have ha : ∀ x ∈ a, isD x := fun x hx => hw x (by rw [hr]; exact List.mem_append_left _ hx)
    have hlt := dgv_lt a 0 ha
    have h9 : 10 ^ a.length ≤ 10 ^ 8 := Nat.pow_le_pow_right (by decide) (by omega)
    have hih := ih (a ++ [c]) (by rw [hr]; simp)
    rw [dgv_append] at hih
    have er : rd (w.map fun c => (c.toNat : Int)) (a.length : Int) = (c.toNat : Int) := by
      rw [hr, List.map_append, List.map_cons]
      have := rd_at (a.map fun c => (c.toNat : Int)) (c.toNat : Int) (b.map fun c => (c.toNat : Int))
      rwa [List.length_map] at this
    have e8 : IntKind.u8.wrap ((c.toNat : Int) - 48) = ((c.toNat - 48 : Nat) : Int) := by
      unfold isD at hc
      rw [IntKind.wrap_u8]
      omega
    have e9 : IntKind.u64.wrap ((IntKind.u64.wrap (10 * ((dgv 0 a : Nat) : Int))) + (IntKind.u64.wrap ((c.toNat - 48 : Nat) : Int))) = ((dgv (dgv 0 a) [c] : Nat) : Int) := by
      have : dgv (dgv 0 a) [c] = 10 * dgv 0 a + (c.toNat - 48) := by rw [dgv_cons, dgv_nil]
      rw [this]
      unfold isD at hc
      simp only [w64]
      omega
    refine Ev.succ ?_
    simp only [nat_Parse.l2, er, e8, e9, wr_at a c (show a.length ≤ 1125899906842624 by omega)]
    exact Ev.if_pos (by omega) (Ev.if_pos (nn0 _) (Ev.if_pos (by rw [List.length_map]; omega) hih))
theorem len_ten (n : Nat) : len (10 ^ n) ≤ n + 1 := by
  refine len_le ?_
  have : 10 ^ n ≤ 4294967296 ^ n := Nat.pow_le_pow_left (by decide) n
  rw [Nat.pow_succ]
  have := Nat.pow_pos (n := n) (show 0 < 4294967296 by decide)
  omega
theorem len_dgv (w : List UInt8) (h : ∀ c ∈ w, isD c) : len (dgv 0 w) ≤ w.length + 1 := by
  have h1 := dgv_lt w 0 h
  rw [Nat.zero_add, Nat.one_mul] at h1
  exact Nat.le_trans (len_mono (Nat.le_of_lt h1)) (len_ten _)
theorem parse_l1 : ∀ (m : Nat) (a b : List UInt8), b.length ≤ m → (∀ c ∈ a ++ b, isD c) → (a ++ b).length ≤ 10000 → (a = [] ∨ b.length % 9 = 0) →
    Ev (fun k => nat_Parse.l1 k (ofL b) (lm (dgv 0 a))) (lm (dgv 0 (a ++ b)), 0) := by
  intro m
  induction m with
  | zero =>
    intro a b hb hd hl h9
    obtain rfl : b = [] := List.length_eq_zero_iff.1 (by omega)
    refine Ev.succ ?_
    simp only [nat_Parse.l1]
    rw [List.append_nil]
    exact Ev.if_neg (by decide) (Ev.now _)
  | succ m ih =>
    intro a b hb hd hl h9
    have hsz : (ofL b).size = b.length := by rw [size_toL]; rfl
    refine Ev.succ ?_
    simp only [nat_Parse.l1]
    rw [hsz]
    by_cases h0 : b = []
    · subst h0
      rw [List.append_nil]
      exact Ev.if_neg (by decide) (Ev.now _)
    · have hp := List.length_pos_iff.2 h0
      rw [List.length_append] at hl
      have em : Int.tmod (b.length : Int) 9 = ((b.length % 9 : Nat) : Int) := rfl
      rw [em, Int.toNat_natCast]
      refine Ev.if_pos (by omega) ?_
      have step : ∀ n : Nat, 0 < n → n ≤ 9 → n ≤ b.length → (b.length - n) % 9 = 0 → (a ≠ [] → n = 9) → Ev (fun k => nat_Parse.l2 k (ofL b) (lm (dgv 0 a)) (n : Int) 0 (toBytes ((ofL b).extract 0 n)) ((toBytes ((ofL b).extract 0 n)).length : Int) 0) (lm (dgv 0 (a ++ b)), 0) := by
        intro n n0 n9 nb hm hn
        obtain ⟨u, v, rfl, hu⟩ : ∃ u v : List UInt8, b = u ++ v ∧ u.length = n := ⟨b.take n, b.drop n, (List.take_append_drop n b).symm, by rw [List.length_take]; omega⟩
        have e1 : (ofL (u ++ v)).extract 0 n = ofL u := by rw [← hu]; exact ext_take rfl
        have e2 : (ofL (u ++ v)).extract n (ofL (u ++ v)).size = ofL v := by rw [← hu]; exact ext_drop rfl
        rw [List.length_append] at hm hb hl
        have hdu : ∀ c ∈ u, isD c := fun c hc => hd c (by simp [hc])
        have hda : ∀ c ∈ a, isD c := fun c hc => hd c (by simp [hc])
        have hih := ih (a ++ u) v (by omega) (by rw [List.append_assoc]; exact hd) (by rw [List.append_assoc, List.length_append, List.length_append]; omega) (Or.inr (by
          have e : u.length + v.length - n = v.length := by omega
          rwa [e] at hm))
        have ea : dgv 0 (a ++ u) = dgv 0 a * 1000000000 + dgv 0 u := by
          rw [dgv_append, dgv_shift u (dgv 0 a)]
          by_cases h : a = []
          · rw [h]
            have : dgv 0 ([] : List UInt8) = 0 := dgv_nil 0
            rw [this, Nat.zero_mul, Nat.zero_mul]
          · rw [hu, hn h]
        rw [ea, List.append_assoc] at hih
        rw [e1, toBytes_eq, List.length_map]
        have hla := len_dgv a hda
        exact parse_l2 (ofL v) (ofL (u ++ v)) n (by rw [size_toL, toL_ofL, List.length_append]; omega) e2 (dgv 0 a) (by omega) u hdu (by omega) _ hih u [] rfl
      by_cases hm : b.length % 9 = 0
      · refine Ev.if_pos (by omega) (Ev.if_pos (by omega) (Ev.if_pos ?_ (step 9 (by decide) (by decide) (by omega) (by omega) (fun _ => rfl))))
        rw [size_toL, toL_extract, List.length_take]
        have : lim = 140737488355328 := rfl
        omega
      · refine Ev.if_neg (by omega) (Ev.if_pos (by omega) (Ev.if_pos (by omega) (Ev.if_pos ?_ (step (b.length % 9) (by omega) (by omega) (by omega) (by omega) (fun h => by
          rcases h9 with e | e
          · exact absurd e h
          · exact absurd e hm)))))
        rw [size_toL, toL_extract, List.length_take]
        have : lim = 140737488355328 := rfl
        omega
theorem parse_l0 (s : ByteArray) (w : List UInt8) (hw : toL s = w) (R : List Int × Int)
    (hend : (∀ c ∈ w, isD c) → Ev (fun k => if (s.size : Int) > 10000 then some (([] : List Int), 5) else nat_Parse.l1 k s []) R) (hbad : (¬ ∀ c ∈ w, isD c) → R = ([], 4)) : ∀ (b a : List UInt8), w = a ++ b → (∀ c ∈ a, isD c) →
    Ev (fun k => nat_Parse.l0 k s s a.length) R := by
  intro b
  induction b with
  | nil =>
    intro a hr ha
    rw [List.append_nil] at hr
    subst hr
    refine Ev.succ ?_
    simp only [nat_Parse.l0]
    exact Ev.if_neg (by rw [size_toL, hw]; omega) (hend ha)
  | cons c b ih =>
    intro a hr ha
    have hp : a.length < s.size := by rw [size_toL, hw, hr, List.length_append, List.length_cons]; omega
    have hat := at_byte (hw.trans hr) hp
    refine Ev.succ ?_
    simp only [nat_Parse.l0]
    refine Ev.if_pos hp ?_
    by_cases hc : isD c
    · have hde := decode_ascii s a.length hp (by rw [hat]; unfold isD at hc; omega)
      rw [hat] at hde
      rw [hde]
      have hih := ih (a ++ [c]) (by rw [hr]; simp) (fun x hx => by
        rcases List.mem_append.1 hx with h | h
        · exact ha x h
        · rw [List.mem_singleton.1 h]; exact hc)
      rw [List.length_append, List.length_singleton] at hih
      unfold isD at hc
      exact Ev.if_neg (by show ¬ ((c.toNat : Int) < 48); omega) (Ev.if_neg (by show ¬ ((c.toNat : Int) > 57); omega) hih)
    · have hR := hbad fun h => hc (h c (by rw [hr]; simp))
      rw [hR]
      by_cases h128 : c.toNat < 128
      · have hde := decode_ascii s a.length hp (by rw [hat]; exact h128)
        rw [hat] at hde
        rw [hde]
        unfold isD at hc
        by_cases h48 : c.toNat < 48
        · exact Ev.if_pos (by show (c.toNat : Int) < 48; omega) (Ev.now _)
        · exact Ev.if_neg (by show ¬ ((c.toNat : Int) < 48); omega) (Ev.if_pos (by show (c.toNat : Int) > 57; omega) (Ev.now _))
      · have hde := decode_high s a.length hp (by rw [hat]; omega)
        exact Ev.if_neg (by omega) (Ev.if_pos (by omega) (Ev.now _))
theorem nparse_ev (s : ByteArray) : Ev (fun k => nat_Parse.f k s) (pR (toL s)) := by
  unfold nat_Parse.f
  by_cases h0 : s = ByteArray.empty
  · have e : pR (toL s) = ([], 4) := by rw [h0]; rfl
    rw [e]
    exact Ev.if_pos h0 (Ev.now _)
  · have hne : toL s ≠ [] := fun e => h0 (toL_inj e)
    refine Ev.if_neg h0 (parse_l0 s (toL s) rfl _ (fun hd => ?_) (fun hb => ?_) (toL s) [] rfl (fun c hc => by cases hc))
    · by_cases hl : (toL s).length > 10000
      · have e : pE (toL s) = 5 := by unfold pE; rw [if_neg hne, if_pos hd, if_pos hl]
        have e2 : pR (toL s) = ([], 5) := by unfold pR; rw [e]; rfl
        rw [e2]
        exact Ev.if_pos (by rw [size_toL]; omega) (Ev.now _)
      · have e : pE (toL s) = 0 := pE_zero.2 ⟨hne, hd, by omega⟩
        have e2 : pR (toL s) = (lm (dgv 0 (toL s)), 0) := by unfold pR; rw [if_pos e]
        rw [e2]
        have h1 := parse_l1 (toL s).length [] (toL s) (Nat.le_refl _) hd (by rw [List.nil_append]; omega) (Or.inl rfl)
        have e3 : lm (dgv 0 []) = [] := by rw [dgv_nil]; exact lm_zero
        rw [e3] at h1
        exact Ev.if_neg (by rw [size_toL]; omega) h1
    · have e : pE (toL s) = 4 := by unfold pE; rw [if_neg hne, if_neg hb]
      unfold pR
      rw [e]
      rfl
end Go.DI.Th
namespace Go.DI.Th
open Go Go.RowKit Go.DI

def cutL (x : UInt8) : List UInt8 → Option (List UInt8 × List UInt8)
  | [] => none
  | c :: w => if c = x then some ([], w) else (cutL x w).map fun p => (c :: p.1, p.2)
theorem cutL_some {x : UInt8} : ∀ {w a b : List UInt8}, cutL x w = some (a, b) → w = a ++ x :: b ∧ x ∉ a
  | [], a, b, h => by cases h
  | c :: w, a, b, h => by
    rw [cutL] at h
    by_cases hc : c = x
    · rw [if_pos hc] at h
      cases h
      rw [hc]
      exact ⟨rfl, List.not_mem_nil⟩
    · rw [if_neg hc] at h
      cases hw : cutL x w with
      | none => rw [hw] at h; cases h
      | some p =>
        rw [hw] at h
        cases h
        obtain ⟨h1, h2⟩ := cutL_some (a := p.1) (b := p.2) hw
        refine ⟨by rw [List.cons_append, ← h1], fun hm => ?_⟩
        rcases List.mem_cons.1 hm with e | hm
        · exact hc e.symm
        · exact h2 hm
theorem cutL_none {x : UInt8} : ∀ {w : List UInt8}, cutL x w = none → x ∉ w
  | [], _ => List.not_mem_nil
  | c :: w, h => by
    rw [cutL] at h
    by_cases hc : c = x
    · rw [if_pos hc] at h; cases h
    · rw [if_neg hc] at h
      cases hw : cutL x w with
      | some p => rw [hw] at h; cases h
      | none =>
        intro hm
        rcases List.mem_cons.1 hm with e | hm
        · exact hc e.symm
        · exact cutL_none hw hm
theorem cutL_of {x : UInt8} : ∀ {a b : List UInt8}, x ∉ a → cutL x (a ++ x :: b) = some (a, b)
  | [], b, _ => by rw [List.nil_append, cutL, if_pos rfl]
  | c :: a, b, h => by
    rw [List.cons_append, cutL, if_neg (fun e => h (by rw [e]; exact List.mem_cons_self)), cutL_of (fun hm => h (List.mem_cons_of_mem _ hm))]
    rfl
theorem cutL_not {x : UInt8} : ∀ {w : List UInt8}, x ∉ w → cutL x w = none
  | [], _ => rfl
  | c :: w, h => by
    rw [cutL, if_neg (fun e => h (by rw [e]; exact List.mem_cons_self)), cutL_not (fun hm => h (List.mem_cons_of_mem _ hm))]
    rfl
theorem get_bang {s : ByteArray} {i : Nat} (h : i < s.size) : s[i]! = s[i]'h := getElem!_pos s i h
theorem fIdx_at {s : ByteArray} {a b : List UInt8} {x : UInt8} (h : toL s = a ++ x :: b) (hn : x ∉ a) : fIdx s x = (a.length : Int) := by
  have hsz : s.size = a.length + (b.length + 1) := by rw [size_toL, h, List.length_append, List.length_cons]
  unfold fIdx
  have hf : (List.range s.size).find? (fun i => s[i]! == x) = some a.length := by
    rw [List.find?_range_eq_some]
    refine ⟨?_, by simp; omega, fun j hj => ?_⟩
    · rw [get_bang (by omega), at_byte h (by omega)]
      simp
    · have hjs : j < s.size := by omega
      rw [get_bang hjs]
      have e : s[j]'hjs = (toL s)[j]'(by rw [← size_toL]; exact hjs) := rfl
      have e2 : s[j]'hjs ∈ a := by
        rw [e]
        have : ∀ (l : List UInt8) (hl : j < l.length), l = a ++ x :: b → l[j]'hl ∈ a := by
          intro l hl e
          subst e
          rw [List.getElem_append_left hj]
          exact List.getElem_mem hj
        exact this _ _ h
      simp only [Bool.not_eq_true', beq_eq_false_iff_ne, ne_eq]
      intro e3
      exact hn (e3 ▸ e2)
  rw [hf]
theorem fIdx_none {s : ByteArray} {x : UInt8} (hn : x ∉ toL s) : fIdx s x = -1 := by
  unfold fIdx
  have hf : (List.range s.size).find? (fun i => s[i]! == x) = none := by
    rw [List.find?_eq_none]
    intro j hj
    have hjs : j < s.size := List.mem_range.1 hj
    rw [get_bang hjs]
    have e : s[j]'hjs = (toL s)[j]'(by rw [← size_toL]; exact hjs) := rfl
    simp only [beq_iff_eq]
    intro e2
    apply hn
    rw [← e2, e]
    exact List.getElem_mem _
  rw [hf]
def cutR (s : ByteArray) (x : UInt8) : ByteArray × ByteArray × Bool := match cutL x (toL s) with
  | some (a, b) => (ofL a, ofL b, true)
  | none => (s, ByteArray.empty, false)
theorem cut_ev (s : ByteArray) (hs : s.size ≤ 1125899906842624) (x : UInt8) (sep : ByteArray) (hsep : sep = ⟨#[x]⟩) : Ev (fun k => strings_Cut.f k s sep) (cutR s x) := by
  subst hsep
  have hsz : (⟨#[x]⟩ : ByteArray).size = 1 := rfl
  have hbt : bt (⟨#[x]⟩ : ByteArray) 0 = (x.toNat : Int) := bt_at (b := ⟨#[x]⟩) (p := []) (c := x) (r := []) rfl
  have hix : Ev (fun k => stringslite_Index.f k s ⟨#[x]⟩) (fIdx s x) := by
    unfold stringslite_Index.f
    rw [hsz, hbt]
    refine Ev.if_neg (by decide) ?_
    by_cases he : (⟨#[x]⟩ : ByteArray) = s
    · refine Ev.if_pos he ((Ev.now _).of_eq ?_)
      have : toL s = [] ++ x :: [] := by rw [← he]; rfl
      rw [fIdx_at this List.not_mem_nil]
      rfl
    · refine Ev.if_neg he (Ev.if_pos (by decide) (Ev.if_pos (by decide) ((Ev.now _).of_eq ?_)))
      congr 1
      rw [Int.toNat_natCast]
      exact UInt8.ofNat_toNat
  have hc : Ev (fun k => stringslite_Cut.f k s ⟨#[x]⟩) (cutR s x) := by
    unfold stringslite_Cut.f
    rw [hsz]
    refine Ev.bind hix ?_
    unfold cutR
    cases hx : cutL x (toL s) with
    | none =>
      rw [fIdx_none (cutL_none hx)]
      exact Ev.if_neg (by decide) (Ev.now _)
    | some p =>
      obtain ⟨a, b⟩ := p
      obtain ⟨h1, h2⟩ := cutL_some hx
      have hsize : s.size = a.length + (b.length + 1) := by rw [size_toL, h1, List.length_append, List.length_cons]
      rw [fIdx_at h1 h2]
      have ew : wrap64 ((a.length : Int) + ((1 : Nat) : Int)) = ((a.length + 1 : Nat) : Int) := by rw [wrap_id (by omega) (by omega)]; omega
      have e2 : s.extract (a.length + 1) s.size = ofL b := by
        have h3 : toL s = (a ++ [x]) ++ b := by rw [h1]; simp
        have := ext_drop h3
        rwa [List.length_append, List.length_singleton] at this
      rw [ew, Int.toNat_natCast, Int.toNat_natCast, ext_take h1, e2]
      exact Ev.if_pos (nn0 _) (Ev.if_pos (by omega) (Ev.if_pos (nn0 _) (Ev.if_pos (by omega) (Ev.now _))))
  unfold strings_Cut.f
  exact Ev.bind hc (Ev.now _)
def isPre (x : UInt8) : List UInt8 → Bool
  | [] => false
  | c :: _ => c == x
theorem prefix_ev (s : ByteArray) (x : UInt8) : strings_HasPrefix.f s ⟨#[x]⟩ = some (isPre x (toL s)) := by
  unfold strings_HasPrefix.f stringslite_HasPrefix.f
  have hsz : (⟨#[x]⟩ : ByteArray).size = 1 := rfl
  rw [hsz]
  cases hw : toL s with
  | nil =>
    have h0 : s.size = 0 := by rw [size_toL, hw]; rfl
    rw [if_neg (by omega)]
    rfl
  | cons c t =>
    have h1 : s.size = t.length + 1 := by rw [size_toL, hw]; rfl
    rw [if_pos (by omega), if_pos (by decide)]
    have e1 : s.extract 0 1 = ofL [c] := ext_take (a := [c]) (b := t) hw
    simp only [Option.bind_some, Int.toNat_natCast]
    rw [e1, Option.some.injEq]
    show ((ofL [c]).toList == (⟨#[x]⟩ : ByteArray).toList) = (c == x)
    by_cases h : c = x
    · subst h
      have e : (ofL [c]) = (⟨#[c]⟩ : ByteArray) := rfl
      rw [@str_t ⟨[], 0, 0⟩ _ _ e]
      simp
    · have e : ¬ (ofL [c]) = (⟨#[x]⟩ : ByteArray) := fun e => h (by
        have := congrArg toL e
        have e2 : ([c] : List UInt8) = [x] := this
        exact (List.cons.inj e2).1)
      rw [@str_f ⟨[], 0, 0⟩ _ _ e]
      symm
      simpa using h
theorem ten_l0 (n : Nat) (hn : n ≤ 20000) : ∀ d i : Nat, i + d = n → Ev (fun k => ratio_ten.l0 k (lm (10 ^ i)) (n : Int) (i : Int)) (lm (10 ^ n)) := by
  intro d
  induction d with
  | zero =>
    intro i hi
    obtain rfl : i = n := by omega
    refine Ev.succ ?_
    simp only [ratio_ten.l0]
    exact Ev.if_neg (by omega) (Ev.now _)
  | succ d ih =>
    intro i hi
    have hih := ih (i + 1) (by omega)
    have hl := len_ten i
    have hm := mul_ev (lm (10 ^ i)) (lm 10) (lm_ok _).U (lm_ok _).U (by rw [lm_length, lm_length]; have := len_small (n := 10) (by decide); omega)
    rw [val_lm, val_lm, ← Nat.pow_succ] at hm
    refine Ev.succ ?_
    simp only [ratio_ten.l0, wr_succ i (show i ≤ 1125899906842624 by omega)]
    exact Ev.if_pos (by omega) (Ev.bind (ofN_ev 10 (by decide)) (Ev.bind hm hih))
theorem ten_ev (n : Nat) (hn : n ≤ 20000) : Ev (fun k => ratio_ten.f k (n : Int)) (lm (10 ^ n)) := by
  unfold ratio_ten.f
  exact Ev.bind (ofN_ev 1 (by decide)) (ten_l0 n hn n 0 (by omega))
def plE (w : List UInt8) : Int := match cutL 47 w with
  | some (a, b) => if pE a ≠ 0 then pE a else if pE b ≠ 0 then pE b else if dgv 0 b = 0 then 2 else 0
  | none => match cutL 46 w with
    | some (a, b) => if pE a ≠ 0 then pE a else pE b
    | none => pE w
def plV (w : List UInt8) : Rat := match cutL 47 w with
  | some (a, b) => mkRat (dgv 0 a : Int) (dgv 0 b)
  | none => match cutL 46 w with
    | some (a, b) => mkRat ((dgv 0 a * 10 ^ b.length + dgv 0 b : Nat) : Int) (10 ^ b.length)
    | none => ((dgv 0 w : Int) : Rat)
def rR (e : Int) (x : Rat) : Bool × List Int × List Int × Int := if e = 0 then ((cn x).1, (cn x).2.1, (cn x).2.2, 0) else (false, [], [], e)
theorem form_nat (n q : Nat) (hq : q ≠ 0) (h1 : len n ≤ 549755813888) (h2 : len q ≤ 549755813888) : Ev (fun k => ratio_form.f k false (lm n) (lm q)) (cn (mkRat (n : Int) q)) := by
  have := form_cn (n : Int) q hq (by rw [Int.natAbs_natCast]; exact h1) h2
  rwa [Int.natAbs_natCast, decide_eq_false (show ¬ ((n : Int) < 0) by omega)] at this
theorem pE_len {w : List UInt8} (h : pE w = 0) : len (dgv 0 w) ≤ 10001 := by
  obtain ⟨_, h2, h3⟩ := pE_zero.1 h
  have := len_dgv w h2
  omega
theorem plain_ev (s : ByteArray) (hs : s.size ≤ 1125899906842624) : Ev (fun k => ratio_plain.f k s) (rR (plE (toL s)) (plV (toL s))) := by
  unfold ratio_plain.f
  refine Ev.bind (cut_ev s hs 47 _ rfl) ?_
  unfold cutR plE plV
  cases h1 : cutL 47 (toL s) with
  | some p =>
    obtain ⟨a, b⟩ := p
    dsimp only
    refine Ev.if_pos rfl ?_
    have pa := nparse_ev (ofL a)
    have pb := nparse_ev (ofL b)
    rw [toL_ofL] at pa pb
    unfold pR at pa pb
    by_cases ha : pE a = 0
    · rw [if_pos ha] at pa
      rw [if_neg (fun h => h ha)]
      refine Ev.bind pa (Ev.if_neg (fun h => h rfl) ?_)
      by_cases hb : pE b = 0
      · rw [if_pos hb] at pb
        rw [if_neg (fun h => h hb)]
        refine Ev.bind pb (Ev.if_neg (fun h => h rfl) ?_)
        by_cases h0 : dgv 0 b = 0
        · rw [if_pos h0]
          exact Ev.if_pos (by show ((lm (dgv 0 b)).length : Int) = 0; rw [h0, lm_zero]; rfl) (Ev.now _)
        · rw [if_neg h0]
          have hp := len_eq_zero (n := dgv 0 b)
          have la := pE_len ha
          have lb := pE_len hb
          refine Ev.if_neg (by show ¬ ((lm (dgv 0 b)).length : Int) = 0; rw [lm_length]; omega) ?_
          exact Ev.bind (form_nat (dgv 0 a) (dgv 0 b) h0 (by omega) (by omega)) (Ev.now _)
      · rw [if_neg hb] at pb
        rw [if_pos hb]
        unfold rR
        rw [if_neg hb]
        exact Ev.bind pb (Ev.if_pos hb (Ev.now _))
    · rw [if_neg ha] at pa
      rw [if_pos ha]
      unfold rR
      rw [if_neg ha]
      exact Ev.bind pa (Ev.if_pos ha (Ev.now _))
  | none =>
    dsimp only
    refine Ev.if_neg (by decide) (Ev.bind (cut_ev s hs 46 _ rfl) ?_)
    unfold cutR
    cases h2 : cutL 46 (toL s) with
    | some p =>
      obtain ⟨a, b⟩ := p
      dsimp only
      refine Ev.if_pos rfl ?_
      have pa := nparse_ev (ofL a)
      have pb := nparse_ev (ofL b)
      rw [toL_ofL] at pa pb
      unfold pR at pa pb
      by_cases ha : pE a = 0
      · rw [if_pos ha] at pa
        rw [if_neg (fun h => h ha)]
        refine Ev.bind pa (Ev.if_neg (fun h => h rfl) ?_)
        by_cases hb : pE b = 0
        · rw [if_pos hb] at pb
          refine Ev.bind pb (Ev.if_neg (fun h => h rfl) ?_)
          have hbl := (pE_zero.1 hb).2.2
          have la := pE_len ha
          have lb := pE_len hb
          have lt := len_ten b.length
          have hsz : (ofL b).size = b.length := by rw [size_toL]; rfl
          rw [hsz]
          have hm := mul_ev (lm (dgv 0 a)) (lm (10 ^ b.length)) (lm_ok _).U (lm_ok _).U (by rw [lm_length, lm_length]; omega)
          rw [val_lm, val_lm] at hm
          have lm1 := len_mul (dgv 0 a) (10 ^ b.length)
          have hadd := nadd_ev (lm (dgv 0 a * 10 ^ b.length)) (lm (dgv 0 b)) (lm_ok _).U (lm_ok _).U (by rw [lm_length]; omega) (by rw [lm_length]; omega)
          rw [val_lm, val_lm] at hadd
          have la2 := len_add (dgv 0 a * 10 ^ b.length) (dgv 0 b)
          rw [hb]
          have hf := form_nat (dgv 0 a * 10 ^ b.length + dgv 0 b) (10 ^ b.length) (Nat.pos_iff_ne_zero.1 (Nat.pow_pos (by decide))) (by omega) (by omega)
          exact Ev.bind (ten_ev b.length (by omega)) (Ev.bind hm (Ev.bind hadd (Ev.bind hf (Ev.now _))))
        · rw [if_neg hb] at pb
          unfold rR
          rw [if_neg hb]
          exact Ev.bind pb (Ev.if_pos hb (Ev.now _))
      · rw [if_neg ha] at pa
        rw [if_pos ha]
        unfold rR
        rw [if_neg ha]
        exact Ev.bind pa (Ev.if_pos ha (Ev.now _))
    | none =>
      dsimp only
      refine Ev.if_neg (by decide) ?_
      have pa := nparse_ev s
      unfold pR at pa
      unfold rR
      by_cases ha : pE (toL s) = 0
      · rw [if_pos ha] at pa
        rw [if_pos ha]
        have la := pE_len ha
        have hf := form_nat (dgv 0 (toL s)) 1 (by decide) (by omega) (by rw [len_one]; decide)
        have e : mkRat (dgv 0 (toL s) : Int) 1 = ((dgv 0 (toL s) : Int) : Rat) := Rat.mkRat_self ((dgv 0 (toL s) : Int) : Rat)
        rw [e] at hf
        exact Ev.bind pa (Ev.if_neg (fun h => h rfl) (Ev.bind (ofN_ev 1 (by decide)) (Ev.bind hf (Ev.now _))))
      · rw [if_neg ha] at pa
        rw [if_neg ha]
        exact Ev.bind pa (Ev.if_pos ha (Ev.now _))
end Go.DI.Th
namespace Go.DI.Th
open Go Go.RowKit Go.DI

def sgQ (neg : Bool) (x : Rat) : Rat := if neg = true then -x else x
def unm (w : List UInt8) : Bool × List UInt8 := if isPre 45 w = true then (true, w.drop 1) else (false, w)
def prE (w : List UInt8) : Int := plE (unm w).2
def prV (w : List UInt8) : Rat := sgQ (unm w).1 (plV (unm w).2)
theorem plV_sz {w : List UInt8} (h : plE w = 0) : Sz (plV w) ≤ 20100 := by
  unfold plE at h
  unfold plV
  cases h1 : cutL 47 w with
  | some p =>
    obtain ⟨a, b⟩ := p
    rw [h1] at h
    dsimp only at h ⊢
    by_cases ha : pE a = 0
    · rw [if_neg (fun e => e ha)] at h
      by_cases hb : pE b = 0
      · rw [if_neg (fun e => e hb)] at h
        by_cases h0 : dgv 0 b = 0
        · rw [if_pos h0] at h; cases h
        · have := Sz_mk (dgv 0 a : Int) (dgv 0 b) h0
          rw [Int.natAbs_natCast] at this
          have la := pE_len ha
          have lb := pE_len hb
          omega
      · rw [if_pos hb] at h; exact absurd h hb
    · rw [if_pos ha] at h; exact absurd h ha
  | none =>
    rw [h1] at h
    dsimp only at h ⊢
    cases h2 : cutL 46 w with
    | some p =>
      obtain ⟨a, b⟩ := p
      rw [h2] at h
      dsimp only at h ⊢
      by_cases ha : pE a = 0
      · rw [if_neg (fun e => e ha)] at h
        have := Sz_mk ((dgv 0 a * 10 ^ b.length + dgv 0 b : Nat) : Int) (10 ^ b.length) (Nat.pos_iff_ne_zero.1 (Nat.pow_pos (by decide)))
        rw [Int.natAbs_natCast] at this
        have la := pE_len ha
        have lb := pE_len h
        have hbl := (pE_zero.1 h).2.2
        have lt := len_ten b.length
        have lm1 := len_mul (dgv 0 a) (10 ^ b.length)
        have la2 := len_add (dgv 0 a * 10 ^ b.length) (dgv 0 b)
        omega
      · rw [if_pos ha] at h; exact absurd h ha
    | none =>
      rw [h2] at h
      dsimp only at h ⊢
      rw [Sz_int, Int.natAbs_natCast]
      have la := pE_len h
      omega
theorem unm_drop {s : ByteArray} (h : isPre 45 (toL s) = true) : s.extract 1 s.size = ofL ((toL s).drop 1) ∧ 1 ≤ s.size := by
  cases hw : toL s with
  | nil => rw [hw] at h; cases h
  | cons c t =>
    have e : s.extract ([c] : List UInt8).length s.size = ofL t := ext_drop (a := [c]) (b := t) hw
    refine ⟨e, ?_⟩
    have := size_toL s
    rw [hw, List.length_cons] at this
    omega
theorem rparse_ev (s : ByteArray) (hs : s.size ≤ 1125899906842624) : Ev (fun k => ratio_Parse.f k s) (rR (prE (toL s)) (prV (toL s))) := by
  unfold ratio_Parse.f
  rw [prefix_ev]
  unfold prE prV unm
  by_cases hp : isPre 45 (toL s) = true
  · rw [if_pos hp, hp]
    obtain ⟨e1, e2⟩ := unm_drop hp
    rw [e1]
    have hsz : (ofL ((toL s).drop 1)).size ≤ 1125899906842624 := by
      rw [size_toL, toL_ofL, List.length_drop, ← size_toL]
      omega
    have h1 := plain_ev (ofL ((toL s).drop 1)) hsz
    rw [toL_ofL] at h1
    refine Ev.bind (Ev.now true) (Ev.if_pos rfl (Ev.if_pos (by omega) (Ev.bind h1 ?_)))
    dsimp only
    have hsz := plV_sz (w := (toL s).drop 1)
    generalize plE ((toL s).drop 1) = e at hsz ⊢
    generalize plV ((toL s).drop 1) = x at hsz ⊢
    unfold rR
    by_cases h0 : e = 0
    · rw [if_pos h0, if_pos h0]
      have hn := neg_cn (cn x) (cnB x (hsz h0)) (by decide)
      rw [rv_cn] at hn
      exact Ev.if_neg (fun h => h rfl) (Ev.bind hn (Ev.now _))
    · rw [if_neg h0, if_neg h0]
      exact Ev.if_pos h0 (Ev.now _)
  · rw [if_neg hp]
    have hp' : isPre 45 (toL s) = false := by simpa using hp
    rw [hp']
    refine Ev.bind (Ev.now false) (Ev.if_neg (by decide) (Ev.bind (plain_ev s hs) ?_))
    dsimp only
    generalize plE (toL s) = e
    generalize plV (toL s) = x
    unfold rR
    by_cases h0 : e = 0
    · rw [if_pos h0, if_pos h0]
      exact Ev.if_neg (fun h => h rfl) (Ev.now _)
    · rw [if_neg h0, if_neg h0]
      exact Ev.if_pos h0 (Ev.now _)
end Go.DI.Th
namespace Go.DI.Th.D
open Go Go.RowKit Go.DI Go.DI.Th

theorem pw4 (j : Nat) : 10 ^ (4 * j) = 10000 ^ j := by rw [Nat.pow_mul]
theorem dig_step (a c : Nat) (ha : a < 10000) (hc : 48 ≤ c ∧ c ≤ 57) : wrap64 ((wrap64 ((wrap64 (10 * (a : Int))) + (wrap64 (c : Int)))) - 48) = ((10 * a + (c - 48) : Nat) : Int) := by
  rw [wrap_id (i := 10 * (a : Int)) (by omega) (by omega), wrap_id (i := (c : Int)) (by omega) (by omega), wrap_id (i := 10 * (a : Int) + (c : Int)) (by omega) (by omega), wrap_id (by omega) (by omega)]
  omega
theorem chunk_l2 (s : ByteArray) (pre w post : List UInt8) (hs : toL s = pre ++ (w ++ post)) (hl : (toL s).length ≤ 10000) (hw : ∀ c ∈ w, isD c) (h4 : w.length ≤ 4) (out : List Int) (e : Int) (he : e = ((pre.length + w.length : Nat) : Int)) (R : List Int × Int)
    (hend : Ev (fun k => if out.length < 17592186044416 then dendronref01_Parse.l1 k s (out ++ [((dgv 0 w : Nat) : Int)]) (wrap64 (e - 4)) else none) R) : ∀ (b a : List UInt8), w = a ++ b →
    Ev (fun k => dendronref01_Parse.l2 k s out e ((dgv 0 a : Nat) : Int) ((pre.length + a.length : Nat) : Int)) R := by
  intro b
  have hlen : (toL s).length = pre.length + (w.length + post.length) := by rw [hs, List.length_append, List.length_append]
  induction b with
  | nil =>
    intro a hr
    rw [List.append_nil] at hr
    subst hr
    refine Ev.succ ?_
    simp only [dendronref01_Parse.l2]
    exact Ev.if_neg (by omega) hend
  | cons c b ih =>
    intro a hr
    have hc : isD c := hw c (by rw [hr]; simp)
    have hwl : w.length = a.length + (b.length + 1) := by rw [hr, List.length_append, List.length_cons]
    have ha : ∀ x ∈ a, isD x := fun x hx => hw x (by rw [hr]; exact List.mem_append_left _ hx)
    have hsz := size_toL s
    have hin : ((pre.length + a.length : Nat) : Int) < e := by omega
    have hin2 : ((pre.length + a.length : Nat) : Int) < (s.size : Int) := by omega
    have hlt := dgv_lt a 0 ha
    have h9 : 10 ^ a.length ≤ 10 ^ 3 := Nat.pow_le_pow_right (by decide) (by omega)
    have hih := ih (a ++ [c]) (by rw [hr]; simp)
    rw [dgv_append] at hih
    have eb : bt s ((pre.length + a.length : Nat) : Int) = (c.toNat : Int) := by
      have : toL s = (pre ++ a) ++ c :: (b ++ post) := by rw [hs, hr]; simp
      have := bt_at this
      rwa [List.length_append] at this
    have e9 : wrap64 ((wrap64 ((wrap64 (10 * ((dgv 0 a : Nat) : Int))) + (wrap64 ((c.toNat : Int))))) - 48) = ((dgv (dgv 0 a) [c] : Nat) : Int) := by
      have : dgv (dgv 0 a) [c] = 10 * dgv 0 a + (c.toNat - 48) := by rw [dgv_cons, dgv_nil]
      rw [this]
      exact dig_step _ _ (by omega) hc
    have ew : wrap64 (((pre.length + a.length : Nat) : Int) + 1) = ((pre.length + (a ++ [c]).length : Nat) : Int) := by
      rw [List.length_append, List.length_singleton, wrap_id (by omega) (by omega)]; omega
    refine Ev.succ ?_
    simp only [dendronref01_Parse.l2, eb, e9, ew]
    exact Ev.if_pos hin (Ev.if_pos (nn0 _) (Ev.if_pos hin2 hih))
theorem parse_l1 (s : ByteArray) (hd : ∀ c ∈ toL s, isD c) (hl : (toL s).length ≤ 10000) : ∀ (m e : Nat) (out : List Int), e ≤ m → e ≤ (toL s).length → Ok out → (toL s).length = e + 4 * out.length → val out = dgv 0 ((toL s).drop e) →
    Ev (fun k => dendronref01_Parse.l1 k s out (e : Int)) (lm (dgv 0 (toL s)), 0) := by
  intro m
  induction m with
  | zero =>
    intro e out hm he ho hlen hv
    obtain rfl : e = 0 := by omega
    refine Ev.succ ?_
    simp only [dendronref01_Parse.l1]
    have ht := trim_ev out ho (by omega)
    rw [hv, List.drop_zero] at ht
    exact Ev.if_neg (by decide) (Ev.bind ht (Ev.now _))
  | succ m ih =>
    intro e out hm he ho hlen hv
    refine Ev.succ ?_
    simp only [dendronref01_Parse.l1]
    by_cases h0 : e = 0
    · subst h0
      have ht := trim_ev out ho (by omega)
      rw [hv, List.drop_zero] at ht
      exact Ev.if_neg (by decide) (Ev.bind ht (Ev.now _))
    · refine Ev.if_pos (by omega) ?_
      have ew : wrap64 ((e : Int) - 4) = (e : Int) - 4 := wrap_id (by omega) (by omega)
      rw [ew]
      have hpost : ((toL s).drop e).length = 4 * out.length := by rw [List.length_drop]; omega
      by_cases h4 : e < 4
      · refine Ev.if_pos (by omega) ?_
        have hsplit : toL s = [] ++ ((toL s).take e ++ (toL s).drop e) := by rw [List.nil_append, List.take_append_drop]
        have hwl : ((toL s).take e).length = e := by rw [List.length_take]; omega
        have hdw : ∀ c ∈ (toL s).take e, isD c := fun c hc => hd c (List.mem_of_mem_take hc)
        have hlt := dgv_lt _ 0 hdw
        have h9 : 10 ^ ((toL s).take e).length ≤ 10 ^ 4 := Nat.pow_le_pow_right (by decide) (by omega)
        refine chunk_l2 s [] ((toL s).take e) ((toL s).drop e) hsplit hl hdw (by omega) out (e : Int) (by rw [hwl]; simp) _ ?_ ((toL s).take e) [] rfl
        refine Ev.if_pos (by omega) ?_
        have hval : val (out ++ [((dgv 0 ((toL s).take e) : Nat) : Int)]) = dgv 0 (toL s) := by
          rw [val_snoc, hv]
          have e5 : ((((dgv 0 ((toL s).take e) : Nat) : Int)) % 10000).toNat = dgv 0 ((toL s).take e) := by omega
          rw [e5]
          have e6 : dgv 0 (toL s) = dgv 0 ((toL s).take e ++ (toL s).drop e) := by rw [List.take_append_drop]
          rw [e6, dgv_append, dgv_shift ((toL s).drop e) (dgv 0 ((toL s).take e)), hpost, pw4, Nat.mul_comm]
          omega
        refine Ev.succ ?_
        simp only [dendronref01_Parse.l1, ew]
        have ht := trim_ev (out ++ [((dgv 0 ((toL s).take e) : Nat) : Int)]) (ho.append (Ok.cons (by omega) Ok.nil)) (by rw [List.length_append, List.length_singleton]; omega)
        rw [hval] at ht
        exact Ev.if_neg (by omega) (Ev.bind ht (Ev.now _))
      · refine Ev.if_neg (by omega) ?_
        have hsplit : toL s = (toL s).take (e - 4) ++ (((toL s).take e).drop (e - 4) ++ (toL s).drop e) := by
          have h1 : (toL s).take (e - 4) ++ ((toL s).take e).drop (e - 4) = (toL s).take e := by
            have h2 : (toL s).take (e - 4) = ((toL s).take e).take (e - 4) := by rw [List.take_take]; congr 1; omega
            rw [h2, List.take_append_drop]
          rw [← List.append_assoc, h1, List.take_append_drop]
        have hwl : (((toL s).take e).drop (e - 4)).length = 4 := by rw [List.length_drop, List.length_take]; omega
        have hpl : ((toL s).take (e - 4)).length = e - 4 := by rw [List.length_take]; omega
        have hdw : ∀ c ∈ ((toL s).take e).drop (e - 4), isD c := fun c hc => hd c (List.mem_of_mem_take (List.mem_of_mem_drop hc))
        have hlt := dgv_lt _ 0 hdw
        have h9 : 10 ^ (((toL s).take e).drop (e - 4)).length ≤ 10 ^ 4 := Nat.pow_le_pow_right (by decide) (by omega)
        have key := chunk_l2 s ((toL s).take (e - 4)) (((toL s).take e).drop (e - 4)) ((toL s).drop e) hsplit hl hdw (by omega) out (e : Int) (by rw [hpl, hwl]; omega) (lm (dgv 0 (toL s)), 0) (by
          refine Ev.if_pos (by omega) ?_
          rw [ew, show (e : Int) - 4 = ((e - 4 : Nat) : Int) by omega]
          refine ih (e - 4) _ (by omega) (by omega) (ho.append (Ok.cons (by omega) Ok.nil)) (by rw [List.length_append, List.length_singleton]; omega) ?_
          rw [val_snoc, hv]
          have e5 : ((((dgv 0 (((toL s).take e).drop (e - 4)) : Nat) : Int)) % 10000).toNat = dgv 0 (((toL s).take e).drop (e - 4)) := by omega
          rw [e5]
          have e6 : (toL s).drop (e - 4) = ((toL s).take e).drop (e - 4) ++ (toL s).drop e := by
            have h1 := congrArg (List.drop (e - 4)) hsplit
            rw [List.drop_left' hpl] at h1
            exact h1
          rw [e6, dgv_append, dgv_shift ((toL s).drop e) (dgv 0 (((toL s).take e).drop (e - 4))), hpost, pw4, Nat.mul_comm]
          omega) (((toL s).take e).drop (e - 4)) [] rfl
        have e7 : (((toL s).take (e - 4)).length + ([] : List UInt8).length : Nat) = e - 4 := by rw [hpl]; rfl
        rw [e7, dgv_nil] at key
        rwa [show (e : Int) - 4 = ((e - 4 : Nat) : Int) by omega]
theorem parse_l0 (s : ByteArray) (w : List UInt8) (hw : toL s = w) (hl0 : w.length ≤ 1125899906842624) (R : List Int × Int)
    (hend : (∀ c ∈ w, isD c) → Ev (fun k => if (s.size : Int) > 10000 then some (([] : List Int), 5) else dendronref01_Parse.l1 k s ([] : List Int) (s.size : Int)) R) (hbad : (¬ ∀ c ∈ w, isD c) → R = ([], 4)) : ∀ (b a : List UInt8), w = a ++ b → (∀ c ∈ a, isD c) →
    Ev (fun k => dendronref01_Parse.l0 k s (a.length : Int)) R := by
  intro b
  induction b with
  | nil =>
    intro a hr ha
    rw [List.append_nil] at hr
    subst hr
    refine Ev.succ ?_
    simp only [dendronref01_Parse.l0]
    exact Ev.if_neg (by rw [size_toL, hw]; omega) (hend ha)
  | cons c b ih =>
    intro a hr ha
    have eb := bt_at (hw.trans hr)
    have es := sz_at (hw.trans hr)
    have hlen : w.length = a.length + (b.length + 1) := by rw [hr, List.length_append, List.length_cons]
    refine Ev.succ ?_
    simp only [dendronref01_Parse.l0, eb, wr_at a c (show a.length ≤ 1125899906842624 by omega)]
    refine Ev.if_pos es (Ev.if_pos (nn0 _) ?_)
    by_cases hc : isD c
    · have hih := ih (a ++ [c]) (by rw [hr]; simp) (fun x hx => by
        rcases List.mem_append.1 hx with h | h
        · exact ha x h
        · rw [List.mem_singleton.1 h]; exact hc)
      unfold isD at hc
      exact Ev.if_neg (by omega) (Ev.if_neg (by omega) hih)
    · have hR := hbad fun h => hc (h c (by rw [hr]; simp))
      rw [hR]
      unfold isD at hc
      by_cases h48 : c.toNat < 48
      · exact Ev.if_pos (by omega) (Ev.now _)
      · exact Ev.if_neg (by omega) (Ev.if_pos (by omega) (Ev.now _))
def pRD (w : List UInt8) : List Int × Int := if pE w = 0 then (lm (dgv 0 w), 0) else ([], pE w)
theorem nparse_ev (s : ByteArray) (hs : s.size ≤ 1125899906842624) : Ev (fun k => dendronref01_Parse.f k s) (pRD (toL s)) := by
  unfold dendronref01_Parse.f
  by_cases h0 : s = ByteArray.empty
  · have e : pRD (toL s) = ([], 4) := by rw [h0]; rfl
    rw [e]
    exact Ev.if_pos h0 (Ev.now _)
  · have hne : toL s ≠ [] := fun e => h0 (toL_inj e)
    refine Ev.if_neg h0 (parse_l0 s (toL s) rfl (by rw [← size_toL]; exact hs) _ (fun hd => ?_) (fun hb => ?_) (toL s) [] rfl (fun c hc => by cases hc))
    · by_cases hl : (toL s).length > 10000
      · have e : pE (toL s) = 5 := by unfold pE; rw [if_neg hne, if_pos hd, if_pos hl]
        have e2 : pRD (toL s) = ([], 5) := by unfold pRD; rw [e]; rfl
        rw [e2]
        exact Ev.if_pos (by rw [size_toL]; omega) (Ev.now _)
      · have e : pE (toL s) = 0 := pE_zero.2 ⟨hne, hd, by omega⟩
        have e2 : pRD (toL s) = (lm (dgv 0 (toL s)), 0) := by unfold pRD; rw [if_pos e]
        rw [e2]
        have h1 := parse_l1 s hd (by omega) (toL s).length (toL s).length [] (Nat.le_refl _) (Nat.le_refl _) Ok.nil (by simp) (by rw [List.drop_length, dgv_nil]; rfl)
        rw [← size_toL] at h1
        exact Ev.if_neg (by rw [size_toL]; omega) h1
    · have e : pE (toL s) = 4 := by unfold pE; rw [if_neg hne, if_neg hb]
      unfold pRD
      rw [e]
      rfl
def cutI (x : UInt8) (w : List UInt8) : Int := match cutL x w with
  | some p => (p.1.length : Int)
  | none => -1
theorem cut_l0 (s : ByteArray) (x : UInt8) (hs : (toL s).length ≤ 1125899906842624) : ∀ b a : List UInt8, toL s = a ++ b → x ∉ a → Ev (fun k => dendronref03_cut.l0 k s (x.toNat : Int) (a.length : Int)) (cutI x (toL s)) := by
  intro b
  induction b with
  | nil =>
    intro a hr ha
    rw [List.append_nil] at hr
    have e : cutI x (toL s) = -1 := by unfold cutI; rw [hr, cutL_not ha]
    rw [e]
    refine Ev.succ ?_
    simp only [dendronref03_cut.l0]
    exact Ev.if_neg (by rw [size_toL, hr]; omega) (Ev.now _)
  | cons c b ih =>
    intro a hr ha
    have eb := bt_at hr
    have es := sz_at hr
    have hlen : (toL s).length = a.length + (b.length + 1) := by rw [hr, List.length_append, List.length_cons]
    refine Ev.succ ?_
    simp only [dendronref03_cut.l0, eb, wr_at a c (show a.length ≤ 1125899906842624 by omega)]
    refine Ev.if_pos es (Ev.if_pos (nn0 _) ?_)
    by_cases hc : c = x
    · subst hc
      have e : cutI c (toL s) = (a.length : Int) := by unfold cutI; rw [hr, cutL_of ha]
      rw [e]
      exact Ev.if_pos rfl (Ev.now _)
    · refine Ev.if_neg (fun e => hc (UInt8.toNat_inj.1 (by omega))) (ih (a ++ [c]) (by rw [hr]; simp) (fun h => ?_))
      rcases List.mem_append.1 h with h | h
      · exact ha h
      · exact hc (List.mem_singleton.1 h).symm
theorem cut_ev (s : ByteArray) (x : UInt8) (hs : s.size ≤ 1125899906842624) : Ev (fun k => dendronref03_cut.f k s (x.toNat : Int)) (cutI x (toL s)) := cut_l0 s x (by rw [← size_toL]; exact hs) (toL s) [] rfl List.not_mem_nil
theorem len_ten (n : Nat) : len (10 ^ n) ≤ n + 1 := by
  refine len_le ?_
  have : 10 ^ n ≤ 10000 ^ n := Nat.pow_le_pow_left (by decide) n
  rw [Nat.pow_succ]
  have := Nat.pow_pos (n := n) (show 0 < 10000 by decide)
  omega
theorem len_dgv {w : List UInt8} (h : pE w = 0) : len (dgv 0 w) ≤ 10001 := by
  obtain ⟨_, h2, h3⟩ := pE_zero.1 h
  have h1 := dgv_lt w 0 h2
  rw [Nat.zero_add, Nat.one_mul] at h1
  have := Nat.le_trans (len_mono (Nat.le_of_lt h1)) (len_ten _)
  omega
theorem power_l0 (n : Nat) (hn : n ≤ 20000) : ∀ d i : Nat, i + d = n → Ev (fun k => dendronref01_Power.l0 k (lm 10) (n : Int) (lm (10 ^ i)) (i : Int)) (lm (10 ^ n)) := by
  intro d
  induction d with
  | zero =>
    intro i hi
    obtain rfl : i = n := by omega
    refine Ev.succ ?_
    simp only [dendronref01_Power.l0]
    exact Ev.if_neg (by omega) (Ev.now _)
  | succ d ih =>
    intro i hi
    have hih := ih (i + 1) (by omega)
    have hl := len_ten i
    have hl1 := len_le (n := 10) (k := 1) (by decide)
    have hm := times_ev (10 ^ i) 10 (by omega)
    rw [← Nat.pow_succ] at hm
    refine Ev.succ ?_
    simp only [dendronref01_Power.l0, wr_succ i (show i ≤ 1125899906842624 by omega)]
    exact Ev.if_pos (by omega) (Ev.bind hm hih)
theorem power_ev (n : Nat) (hn : n ≤ 20000) : Ev (fun k => dendronref01_Power.f k (lm 10) (n : Int)) (lm (10 ^ n)) := by
  unfold dendronref01_Power.f
  exact Ev.bind (small_ev 1 (by decide)) (power_l0 n hn n 0 (by omega))
theorem mk_sg (neg : Bool) (n q : Nat) : mkRat (sg neg n) q = sgQ neg (mkRat (n : Int) q) := by
  unfold sg sgQ
  split
  · rw [Rat.neg_mkRat]
  · rfl
theorem dec_bounds {bl la lb lt lm la2 : Nat} (hbl : bl ≤ 10000) (h1 : la ≤ 10001) (h2 : lb ≤ 10001) (h3 : lt ≤ bl + 1) (h4 : lm ≤ la + lt) (h5 : la2 ≤ max lm lb + 1) : la2 ≤ 30100 ∧ lt ≤ 30100 ∧ bl ≤ 20000 ∧ la + lt ≤ 35184372088832 ∧ lm ≤ 1099511627776 ∧ lb ≤ 1099511627776 := by omega
def RdOk (neg : Bool) (w : List UInt8) (r : Bool × List Int × List Int × Int) : Prop := r.2.2.2 = plE w ∧ (plE w = 0 → FL (sgQ neg (plV w)) 30100 (r.1, r.2.1, r.2.2.1))
theorem tail_ev (s : ByteArray) (neg : Bool) (hs : s.size ≤ 1000000) : ∃ r, RdOk neg (toL s) r ∧ Ev (fun k => ((dendronref03_cut.f k s 47).bind fun v12 => ((dendronref03_cut.f k s 46).bind fun v15 => (if v12 < 0 then (if v15 < 0 then ((dendronref01_Parse.f k s).bind fun v26 => ((dendronref02_Make.f neg v26.1).bind fun v34 => ((dendronref01_Small.f k 1).bind fun v35 => (some (v34.1, v34.2, v35, v26.2))))) else (if 0 ≤ v15 then (if v15 ≤ (s.size : Int) then ((dendronref01_Parse.f k (s.extract 0 ((v15 : Int).toNat))).bind fun v28 => (if v28.2 ≠ 0 then (some (false, ([] : List Int), ([] : List Int), v28.2)) else (if 0 ≤ (wrap64 (v15 + 1)) then (if (wrap64 (v15 + 1)) ≤ (s.size : Int) then ((dendronref01_Parse.f k (s.extract (((wrap64 (v15 + 1)) : Int).toNat) s.size)).bind fun v40 => (if v40.2 ≠ 0 then (some (false, ([] : List Int), ([] : List Int), v40.2)) else (if v12 ≥ 0 then (if (v40.1.length : Int) = 0 then (some (false, ([] : List Int), ([] : List Int), 2)) else ((dendronref02_Make.f neg v28.1).bind fun v55 => (some (v55.1, v55.2, v40.1, 0)))) else ((dendronref01_Small.f k 10).bind fun v50 => ((dendronref01_Power.f k v50 (wrap64 ((wrap64 ((s.size : Int) - v15)) - 1))).bind fun v56 => ((dendronref01_Times.f k v28.1 v56).bind fun v61 => ((dendronref01_Plus.f k v61 v40.1).bind fun v63 => ((dendronref02_Make.f neg v63).bind fun v64 => (some (v64.1, v64.2, v56, 0)))))))))) else none) else none))) else none) else none)) else (if v12 < 0 then ((dendronref01_Parse.f k s).bind fun v24 => ((dendronref02_Make.f neg v24.1).bind fun v32 => ((dendronref01_Small.f k 1).bind fun v33 => (some (v32.1, v32.2, v33, v24.2))))) else (if 0 ≤ v12 then (if v12 ≤ (s.size : Int) then ((dendronref01_Parse.f k (s.extract 0 ((v12 : Int).toNat))).bind fun v26 => (if v26.2 ≠ 0 then (some (false, ([] : List Int), ([] : List Int), v26.2)) else (if 0 ≤ (wrap64 (v12 + 1)) then (if (wrap64 (v12 + 1)) ≤ (s.size : Int) then ((dendronref01_Parse.f k (s.extract (((wrap64 (v12 + 1)) : Int).toNat) s.size)).bind fun v38 => (if v38.2 ≠ 0 then (some (false, ([] : List Int), ([] : List Int), v38.2)) else (if v12 ≥ 0 then (if (v38.1.length : Int) = 0 then (some (false, ([] : List Int), ([] : List Int), 2)) else ((dendronref02_Make.f neg v26.1).bind fun v53 => (some (v53.1, v53.2, v38.1, 0)))) else ((dendronref01_Small.f k 10).bind fun v48 => ((dendronref01_Power.f k v48 (wrap64 ((wrap64 ((s.size : Int) - v12)) - 1))).bind fun v54 => ((dendronref01_Times.f k v26.1 v54).bind fun v59 => ((dendronref01_Plus.f k v59 v38.1).bind fun v61 => ((dendronref02_Make.f neg v61).bind fun v62 => (some (v62.1, v62.2, v54, 0)))))))))) else none) else none))) else none) else none)))))) r := by
  have c1 := cut_ev s 47 (by omega)
  have c2 := cut_ev s 46 (by omega)
  have t47 : ((47 : UInt8).toNat : Int) = 47 := rfl
  have t46 : ((46 : UInt8).toNat : Int) = 46 := rfl
  rw [t47] at c1
  rw [t46] at c2
  have hsz := size_toL s
  -- a text cut in two
  have parts : ∀ (x : UInt8) (a b : List UInt8), cutL x (toL s) = some (a, b) → s.extract 0 a.length = ofL a ∧ s.extract (a.length + 1) s.size = ofL b ∧ s.size = a.length + (b.length + 1) := fun x a b h => by
    obtain ⟨h1, _⟩ := cutL_some h
    have h3 : toL s = (a ++ [x]) ++ b := by rw [h1]; simp
    have h4 := ext_drop h3
    rw [List.length_append, List.length_singleton] at h4
    exact ⟨ext_take h1, h4, by rw [size_toL, h1, List.length_append, List.length_cons]⟩
  have pp : ∀ a : List UInt8, a.length ≤ 1000000 → Ev (fun k => dendronref01_Parse.f k (ofL a)) (pRD a) := fun a h => by
    have := nparse_ev (ofL a) (by rw [size_toL]; show a.length ≤ _; omega)
    rwa [toL_ofL] at this
  cases h1 : cutL 47 (toL s) with
  | some p =>
    obtain ⟨a, b⟩ := p
    obtain ⟨x1, x2, x3⟩ := parts 47 a b h1
    have ei : cutI 47 (toL s) = (a.length : Int) := by unfold cutI; rw [h1]
    rw [ei] at c1
    have eE : plE (toL s) = if pE a ≠ 0 then pE a else if pE b ≠ 0 then pE b else if dgv 0 b = 0 then 2 else 0 := by unfold plE; rw [h1]
    have eV : plV (toL s) = mkRat (dgv 0 a : Int) (dgv 0 b) := by unfold plV; rw [h1]
    have pa := pp a (by omega)
    have pb := pp b (by omega)
    have q1 : (a.length : Int) ≤ (s.size : Int) := by omega
    have q2 : ((a.length + 1 : Nat) : Int) ≤ (s.size : Int) := by omega
    have q3 : ¬ ((a.length : Int) < 0) := by omega
    have ew : wrap64 ((a.length : Int) + 1) = ((a.length + 1 : Nat) : Int) := by rw [wrap_id (by omega) (by omega)]; omega
    clear hsz x3
    unfold pRD at pa pb
    by_cases ha : pE a = 0
    · rw [if_pos ha] at pa
      rw [if_neg (fun e => e ha)] at eE
      by_cases hb : pE b = 0
      · rw [if_pos hb] at pb
        rw [if_neg (fun e => e hb)] at eE
        by_cases h0 : dgv 0 b = 0
        · rw [if_pos h0] at eE
          refine ⟨(false, [], [], 2), ⟨eE.symm, fun e => by rw [eE] at e; cases e⟩, ?_⟩
          refine Ev.bind c1 (Ev.bind c2 (Ev.if_neg q3 (Ev.if_neg q3 (Ev.if_pos (nn0 _) (Ev.if_pos q1 ?_)))))
          rw [Int.toNat_natCast, x1, ew, Int.toNat_natCast, x2]
          exact Ev.bind pa (Ev.if_neg (fun h => h rfl) (Ev.if_pos (nn0 _) (Ev.if_pos q2 (Ev.bind pb (Ev.if_neg (fun h => h rfl) (Ev.if_pos (nn0 _) (Ev.if_pos (lm_nil'.2 h0) (Ev.now _))))))))
        · rw [if_neg h0] at eE
          refine ⟨((il (sg neg (dgv 0 a))).1, (il (sg neg (dgv 0 a))).2, lm (dgv 0 b), 0), ⟨eE.symm, fun _ => ⟨sg neg (dgv 0 a), dgv 0 b, rfl, h0, by rw [eV, mk_sg], ?_, ?_⟩⟩, ?_⟩
          · show len (sg neg (dgv 0 a)).natAbs ≤ _
            rw [sg_abs]
            have := len_dgv ha
            omega
          · have := len_dgv hb
            omega
          · refine Ev.bind c1 (Ev.bind c2 (Ev.if_neg q3 (Ev.if_neg q3 (Ev.if_pos (nn0 _) (Ev.if_pos q1 ?_)))))
            rw [Int.toNat_natCast, x1, ew, Int.toNat_natCast, x2]
            exact Ev.bind pa (Ev.if_neg (fun h => h rfl) (Ev.if_pos (nn0 _) (Ev.if_pos q2 (Ev.bind pb (Ev.if_neg (fun h => h rfl) (Ev.if_pos (nn0 _) (Ev.if_neg (fun e => h0 (lm_nil'.1 e)) (Ev.bind (make_ev neg (dgv 0 a)) (Ev.now _)))))))))
      · rw [if_neg hb] at pb
        rw [if_pos hb] at eE
        refine ⟨(false, [], [], pE b), ⟨eE.symm, fun e => absurd (eE.symm.trans e) hb⟩, ?_⟩
        refine Ev.bind c1 (Ev.bind c2 (Ev.if_neg q3 (Ev.if_neg q3 (Ev.if_pos (nn0 _) (Ev.if_pos q1 ?_)))))
        rw [Int.toNat_natCast, x1, ew, Int.toNat_natCast, x2]
        exact Ev.bind pa (Ev.if_neg (fun h => h rfl) (Ev.if_pos (nn0 _) (Ev.if_pos q2 (Ev.bind pb (Ev.if_pos hb (Ev.now _))))))
    · rw [if_neg ha] at pa
      rw [if_pos ha] at eE
      refine ⟨(false, [], [], pE a), ⟨eE.symm, fun e => absurd (eE.symm.trans e) ha⟩, ?_⟩
      refine Ev.bind c1 (Ev.bind c2 (Ev.if_neg q3 (Ev.if_neg q3 (Ev.if_pos (nn0 _) (Ev.if_pos q1 ?_)))))
      rw [Int.toNat_natCast, x1]
      exact Ev.bind pa (Ev.if_pos ha (Ev.now _))
  | none =>
    have ei : cutI 47 (toL s) = -1 := by unfold cutI; rw [h1]
    rw [ei] at c1
    cases h2 : cutL 46 (toL s) with
    | some p =>
      obtain ⟨a, b⟩ := p
      obtain ⟨x1, x2, x3⟩ := parts 46 a b h2
      have ei2 : cutI 46 (toL s) = (a.length : Int) := by unfold cutI; rw [h2]
      rw [ei2] at c2
      have eE : plE (toL s) = if pE a ≠ 0 then pE a else pE b := by unfold plE; rw [h1]; dsimp only; rw [h2]
      have eV : plV (toL s) = mkRat ((dgv 0 a * 10 ^ b.length + dgv 0 b : Nat) : Int) (10 ^ b.length) := by unfold plV; rw [h1]; dsimp only; rw [h2]
      have pa := pp a (by omega)
      have pb := pp b (by omega)
      have q1 : (a.length : Int) ≤ (s.size : Int) := by omega
      have q2 : ((a.length + 1 : Nat) : Int) ≤ (s.size : Int) := by omega
      have q3 : ¬ ((a.length : Int) < 0) := by omega
      have ew : wrap64 ((a.length : Int) + 1) = ((a.length + 1 : Nat) : Int) := by rw [wrap_id (by omega) (by omega)]; omega
      have ew2 : wrap64 ((wrap64 ((s.size : Int) - (a.length : Int))) - 1) = (b.length : Int) := by
        rw [wrap_id (i := (s.size : Int) - (a.length : Int)) (by clear ew; omega) (by clear ew; omega), wrap_id (by clear ew; omega) (by clear ew; omega)]; clear ew; omega
      clear hsz x3
      unfold pRD at pa pb
      by_cases ha : pE a = 0
      · rw [if_pos ha] at pa
        rw [if_neg (fun e => e ha)] at eE
        by_cases hb : pE b = 0
        · rw [if_pos hb] at pb
          rw [hb] at eE
          have hbl := (pE_zero.1 hb).2.2
          have la := len_dgv ha
          have lb := len_dgv hb
          have lt := len_ten b.length
          have lmm := len_mul (dgv 0 a) (10 ^ b.length)
          have laa := len_add (dgv 0 a * 10 ^ b.length) (dgv 0 b)
          obtain ⟨w1, w2, w3, w4, w5, w6⟩ := dec_bounds hbl la lb lt lmm laa
          clear lt lmm laa
          refine ⟨((il (sg neg (dgv 0 a * 10 ^ b.length + dgv 0 b))).1, (il (sg neg (dgv 0 a * 10 ^ b.length + dgv 0 b))).2, lm (10 ^ b.length), 0), ⟨eE.symm, fun _ => ⟨sg neg (dgv 0 a * 10 ^ b.length + dgv 0 b), 10 ^ b.length, rfl, Nat.pos_iff_ne_zero.1 (Nat.pow_pos (by decide)), by rw [eV, mk_sg], ?_, ?_⟩⟩, ?_⟩
          · show len (sg neg _).natAbs ≤ _
            rw [sg_abs]
            exact w1
          · exact w2
          · refine Ev.bind c1 (Ev.bind c2 (Ev.if_pos (by decide) (Ev.if_neg q3 (Ev.if_pos (nn0 _) (Ev.if_pos q1 ?_)))))
            rw [Int.toNat_natCast, x1, ew, Int.toNat_natCast, x2, ew2]
            exact Ev.bind pa (Ev.if_neg (fun h => h rfl) (Ev.if_pos (nn0 _) (Ev.if_pos q2 (Ev.bind pb (Ev.if_neg (fun h => h rfl) (Ev.if_neg (by decide) (Ev.bind (small_ev 10 (by decide)) (Ev.bind (power_ev b.length w3) (Ev.bind (times_ev (dgv 0 a) (10 ^ b.length) w4) (Ev.bind (plus_ev (dgv 0 a * 10 ^ b.length) (dgv 0 b) w5 w6) (Ev.bind (make_ev neg _) (Ev.now _))))))))))))
        · rw [if_neg hb] at pb
          refine ⟨(false, [], [], pE b), ⟨eE.symm, fun e => absurd (eE.symm.trans e) hb⟩, ?_⟩
          refine Ev.bind c1 (Ev.bind c2 (Ev.if_pos (by decide) (Ev.if_neg q3 (Ev.if_pos (nn0 _) (Ev.if_pos q1 ?_)))))
          rw [Int.toNat_natCast, x1, ew, Int.toNat_natCast, x2]
          exact Ev.bind pa (Ev.if_neg (fun h => h rfl) (Ev.if_pos (nn0 _) (Ev.if_pos q2 (Ev.bind pb (Ev.if_pos hb (Ev.now _))))))
      · rw [if_neg ha] at pa
        rw [if_pos ha] at eE
        refine ⟨(false, [], [], pE a), ⟨eE.symm, fun e => absurd (eE.symm.trans e) ha⟩, ?_⟩
        refine Ev.bind c1 (Ev.bind c2 (Ev.if_pos (by decide) (Ev.if_neg q3 (Ev.if_pos (nn0 _) (Ev.if_pos q1 ?_)))))
        rw [Int.toNat_natCast, x1]
        exact Ev.bind pa (Ev.if_pos ha (Ev.now _))
    | none =>
      have ei2 : cutI 46 (toL s) = -1 := by unfold cutI; rw [h2]
      rw [ei2] at c2
      have eE : plE (toL s) = pE (toL s) := by unfold plE; rw [h1]; dsimp only; rw [h2]
      have eV : plV (toL s) = ((dgv 0 (toL s) : Int) : Rat) := by unfold plV; rw [h1]; dsimp only; rw [h2]
      have pa := nparse_ev s (by omega)
      unfold pRD at pa
      have key : ∀ (n : Nat) (e : Int), Ev (fun k => dendronref01_Parse.f k s) (lm n, e) → Ev (fun k => ((dendronref03_cut.f k s 47).bind fun v12 => ((dendronref03_cut.f k s 46).bind fun v15 => (if v12 < 0 then (if v15 < 0 then ((dendronref01_Parse.f k s).bind fun v26 => ((dendronref02_Make.f neg v26.1).bind fun v34 => ((dendronref01_Small.f k 1).bind fun v35 => (some (v34.1, v34.2, v35, v26.2))))) else (if 0 ≤ v15 then (if v15 ≤ (s.size : Int) then ((dendronref01_Parse.f k (s.extract 0 ((v15 : Int).toNat))).bind fun v28 => (if v28.2 ≠ 0 then (some (false, ([] : List Int), ([] : List Int), v28.2)) else (if 0 ≤ (wrap64 (v15 + 1)) then (if (wrap64 (v15 + 1)) ≤ (s.size : Int) then ((dendronref01_Parse.f k (s.extract (((wrap64 (v15 + 1)) : Int).toNat) s.size)).bind fun v40 => (if v40.2 ≠ 0 then (some (false, ([] : List Int), ([] : List Int), v40.2)) else (if v12 ≥ 0 then (if (v40.1.length : Int) = 0 then (some (false, ([] : List Int), ([] : List Int), 2)) else ((dendronref02_Make.f neg v28.1).bind fun v55 => (some (v55.1, v55.2, v40.1, 0)))) else ((dendronref01_Small.f k 10).bind fun v50 => ((dendronref01_Power.f k v50 (wrap64 ((wrap64 ((s.size : Int) - v15)) - 1))).bind fun v56 => ((dendronref01_Times.f k v28.1 v56).bind fun v61 => ((dendronref01_Plus.f k v61 v40.1).bind fun v63 => ((dendronref02_Make.f neg v63).bind fun v64 => (some (v64.1, v64.2, v56, 0)))))))))) else none) else none))) else none) else none)) else (if v12 < 0 then ((dendronref01_Parse.f k s).bind fun v24 => ((dendronref02_Make.f neg v24.1).bind fun v32 => ((dendronref01_Small.f k 1).bind fun v33 => (some (v32.1, v32.2, v33, v24.2))))) else (if 0 ≤ v12 then (if v12 ≤ (s.size : Int) then ((dendronref01_Parse.f k (s.extract 0 ((v12 : Int).toNat))).bind fun v26 => (if v26.2 ≠ 0 then (some (false, ([] : List Int), ([] : List Int), v26.2)) else (if 0 ≤ (wrap64 (v12 + 1)) then (if (wrap64 (v12 + 1)) ≤ (s.size : Int) then ((dendronref01_Parse.f k (s.extract (((wrap64 (v12 + 1)) : Int).toNat) s.size)).bind fun v38 => (if v38.2 ≠ 0 then (some (false, ([] : List Int), ([] : List Int), v38.2)) else (if v12 ≥ 0 then (if (v38.1.length : Int) = 0 then (some (false, ([] : List Int), ([] : List Int), 2)) else ((dendronref02_Make.f neg v26.1).bind fun v53 => (some (v53.1, v53.2, v38.1, 0)))) else ((dendronref01_Small.f k 10).bind fun v48 => ((dendronref01_Power.f k v48 (wrap64 ((wrap64 ((s.size : Int) - v12)) - 1))).bind fun v54 => ((dendronref01_Times.f k v26.1 v54).bind fun v59 => ((dendronref01_Plus.f k v59 v38.1).bind fun v61 => ((dendronref02_Make.f neg v61).bind fun v62 => (some (v62.1, v62.2, v54, 0)))))))))) else none) else none))) else none) else none)))))) ((il (sg neg n)).1, (il (sg neg n)).2, lm 1, e) := fun n e h =>
        Ev.bind c1 (Ev.bind c2 (Ev.if_pos (by decide) (Ev.if_pos (by decide) (Ev.bind h (Ev.bind (make_ev neg n) (Ev.bind (small_ev 1 (by decide)) (Ev.now _)))))))
      by_cases ha : pE (toL s) = 0
      · rw [if_pos ha] at pa
        refine ⟨_, ⟨by rw [eE, ha], fun _ => ⟨sg neg (dgv 0 (toL s)), 1, rfl, by decide, ?_, ?_, ?_⟩⟩, key _ 0 pa⟩
        · rw [mk_sg, eV]
          congr 1
          exact Rat.mkRat_self ((dgv 0 (toL s) : Int) : Rat)
        · show len (sg neg _).natAbs ≤ _
          rw [sg_abs]
          have := len_dgv ha
          omega
        · have := len_le (n := 1) (k := 1) (by decide)
          omega
      · rw [if_neg ha] at pa
        refine ⟨_, ⟨eE.symm, fun e => absurd (eE.symm.trans e) ha⟩, key 0 (pE (toL s)) (by rw [lm_zero]; exact pa)⟩
theorem rparse_ev (s : ByteArray) (hs : s.size ≤ 1000000) : ∃ r : Bool × List Int × List Int × Int, (r.2.2.2 = prE (toL s) ∧ (prE (toL s) = 0 → FL (prV (toL s)) 30100 (r.1, r.2.1, r.2.2.1))) ∧ Ev (fun k => dendronref03_Parse.f k s) r := by
  unfold dendronref03_Parse.f prE prV unm
  cases hw : toL s with
  | nil =>
    obtain ⟨r, h1, h2⟩ := tail_ev s false hs
    rw [hw] at h1
    have h0 : s.size = 0 := by rw [size_toL, hw]; rfl
    exact ⟨r, h1, Ev.if_neg (by omega) h2⟩
  | cons c t =>
    have hsz : s.size = t.length + 1 := by rw [size_toL, hw]; rfl
    have eb : bt s 0 = (c.toNat : Int) := bt_at (p := []) hw
    by_cases hc : c = 45
    · subst hc
      have hp : isPre 45 ((45 : UInt8) :: t) = true := rfl
      rw [if_pos hp]
      obtain ⟨e1, e2⟩ := unm_drop (s := s) (by rw [hw]; rfl)
      rw [hw, List.drop_succ_cons, List.drop_zero] at e1
      obtain ⟨r, h1, h2⟩ := tail_ev (ofL t) true (by rw [size_toL, toL_ofL]; omega)
      rw [toL_ofL] at h1
      refine ⟨r, h1, Ev.if_pos (by omega) (Ev.if_pos (by rw [eb]; rfl) (Ev.if_pos (by omega) ?_))⟩
      rw [e1]
      exact h2
    · have hp : ¬ isPre 45 (c :: t) = true := by
        show ¬ (c == 45) = true
        simpa using hc
      rw [if_neg hp]
      obtain ⟨r, h1, h2⟩ := tail_ev s false hs
      rw [hw] at h1
      refine ⟨r, h1, Ev.if_pos (by omega) (Ev.if_neg (fun e => hc (UInt8.toNat_inj.1 (by rw [eb] at e; have : (45 : UInt8).toNat = 45 := rfl; omega))) h2)⟩
end Go.DI.Th.D
namespace Go.DI.Th
open Go Go.RowKit Go.DI

def dec (n : Nat) : List Int := if n < 10 then [48 + (n : Int)] else dec (n / 10) ++ [48 + ((n % 10 : Nat) : Int)]
def pad : Nat → Nat → List Int
  | 0, _ => []
  | w + 1, n => pad w (n / 10) ++ [48 + ((n % 10 : Nat) : Int)]
theorem pad_length : ∀ w n, (pad w n).length = w
  | 0, _ => rfl
  | w + 1, n => by rw [pad, List.length_append, pad_length w]; rfl
theorem pad_add (a : Nat) : ∀ b n, pad (a + b) n = pad a (n / 10 ^ b) ++ pad b n
  | 0, n => by rw [Nat.pow_zero, Nat.div_one]; exact (List.append_nil _).symm
  | b + 1, n => by
    rw [← Nat.add_assoc, pad, pad_add a b, pad, Nat.div_div_eq_div_mul, Nat.pow_succ, Nat.mul_comm 10, List.append_assoc]
theorem pad_mod : ∀ w n, pad w (n % 10 ^ w) = pad w n
  | 0, _ => rfl
  | w + 1, n => by
    have h1 : n % 10 ^ (w + 1) / 10 = n / 10 % 10 ^ w := by
      rw [Nat.pow_succ, Nat.mul_comm, Nat.mod_mul_right_div_self]
    have h2 : n % 10 ^ (w + 1) % 10 = n % 10 := Nat.mod_mod_of_dvd n ⟨10 ^ w, by rw [Nat.pow_succ, Nat.mul_comm]⟩
    rw [pad, pad, h1, h2, pad_mod w]
theorem dec_small {n : Nat} (h : n < 10) : dec n = [48 + (n : Int)] := by rw [dec, if_pos h]
theorem dec_big {n : Nat} (h : ¬ n < 10) : dec n = dec (n / 10) ++ [48 + ((n % 10 : Nat) : Int)] := by rw [dec, if_neg h]
theorem pad_zero : ∀ w, pad w 0 = List.replicate w 48
  | 0 => rfl
  | w + 1 => by
    rw [pad, Nat.zero_div, pad_zero w, List.replicate_succ']
    rfl
theorem pad_dec : ∀ w n, n ≠ 0 → n < 10 ^ w → ∃ z, pad w n = List.replicate z 48 ++ dec n
  | 0, n, h0, h => by rw [Nat.pow_zero] at h; omega
  | w + 1, n, h0, h => by
    rw [pad]
    by_cases h1 : n < 10
    · refine ⟨w, ?_⟩
      rw [Nat.div_eq_of_lt h1, pad_zero, dec_small h1, Nat.mod_eq_of_lt h1]
    · rw [Nat.pow_succ] at h
      obtain ⟨z, hz⟩ := pad_dec w (n / 10) (by omega) (by rw [Nat.div_lt_iff_lt_mul (by decide)]; exact h)
      exact ⟨z, by rw [hz, dec_big h1, List.append_assoc]⟩
theorem dec_byte (n : Nat) : ∀ x ∈ dec n, 48 ≤ x ∧ x ≤ 57 := by
  induction n using Nat.strongRecOn with
  | ind n ih =>
    intro x h
    by_cases h1 : n < 10
    · rw [dec_small h1, List.mem_singleton] at h
      subst h
      omega
    · rw [dec_big h1, List.mem_append] at h
      rcases h with h | h
      · exact ih (n / 10) (by omega) x h
      · rw [List.mem_singleton] at h
        subst h
        have := Nat.mod_lt n (show 0 < 10 by decide)
        omega
theorem dec_head (n : Nat) (h0 : n ≠ 0) : ∃ x r, dec n = x :: r ∧ x ≠ 48 := by
  induction n using Nat.strongRecOn with
  | ind n ih =>
    by_cases h1 : n < 10
    · exact ⟨_, _, dec_small h1, by omega⟩
    · obtain ⟨x, r, e, hx⟩ := ih (n / 10) (by omega) (by omega)
      exact ⟨x, r ++ [48 + ((n % 10 : Nat) : Int)], by rw [dec_big h1, e]; rfl, hx⟩
theorem bl_tenth (n d : Nat) (h0 : n ≠ 0) (hd : 2 ≤ d) : bl (n / d) + 1 ≤ bl n := by
  have hb : 1 ≤ bl n := by unfold bl; rw [if_neg h0]; omega
  by_cases hz : n / d = 0
  · rw [hz]; exact hb
  · have h1 := bl_le hz
    have h2 := bl_lt n
    have h3 : n / d * 2 ≤ n := Nat.le_trans (Nat.mul_le_mul_left _ hd) (Nat.div_mul_le_self n d)
    have hb2 : 1 ≤ bl (n / d) := by unfold bl; rw [if_neg hz]; omega
    have h4 : 2 ^ bl (n / d) ≤ n := by
      have e : 2 ^ bl (n / d) = 2 ^ (bl (n / d) - 1) * 2 := by rw [← Nat.pow_succ]; congr 1; omega
      rw [e]
      exact Nat.le_trans (Nat.mul_le_mul_right _ h1) h3
    apply Classical.byContradiction
    intro hc
    have := Nat.pow_le_pow_right (n := 2) (by decide) (show bl n ≤ bl (n / d) by omega)
    omega
theorem dec_length (n : Nat) : (dec n).length ≤ bl n + 1 := by
  induction n using Nat.strongRecOn with
  | ind n ih =>
    by_cases h1 : n < 10
    · rw [dec_small h1, List.length_singleton]; omega
    · have := ih (n / 10) (by omega)
      have := bl_tenth n 10 (by omega) (by decide)
      rw [dec_big h1, List.length_append, List.length_singleton]
      omega
theorem bl_len (n : Nat) : bl n ≤ 32 * len n := by
  by_cases h0 : n = 0
  · subst h0; exact Nat.zero_le _
  · have h1 := lt_pow_len n
    rw [show (4294967296 : Nat) = 2 ^ 32 from rfl, ← Nat.pow_mul] at h1
    have h2 := bl_le h0
    apply Classical.byContradiction
    intro hc
    have := Nat.pow_le_pow_right (n := 2) (by decide) (show 32 * len n ≤ bl n - 1 by omega)
    omega
theorem lt_ten_pow (n m : Nat) (h : n / 10 ^ m = 0) : n < 10 ^ m := by
  have hp : 0 < 10 ^ m := Nat.pow_pos (by decide)
  apply Classical.byContradiction
  intro hc
  have := (Nat.le_div_iff_mul_le hp (x := 1) (y := n)).2 (by omega)
  omega

theorem nine_loop (n0 : Nat) (h : n0 < 18446744073709551616) : ∀ (i n : Nat) (done : List Int), n < 18446744073709551616 → i + done.length = 9 → pad 9 n0 = pad i n ++ done →
    Ev (fun k => nat_nine.l0 k (n : Int) (List.replicate i 0 ++ done) ((i : Int) - 1)) (pad 9 n0) := by
  intro i
  induction i with
  | zero =>
    intro n done hn hl hp
    refine Ev.step (fun k => ?_) (Ev.now _)
    rw [nat_nine.l0, if_neg (by omega), hp]
    rfl
  | succ i ih =>
    intro n done hn hl hp
    rw [show pad (i + 1) n = pad i (n / 10) ++ [48 + ((n % 10 : Nat) : Int)] from rfl, List.append_assoc] at hp
    have e1 : (((i + 1 : Nat) : Int) - 1).toNat = i := by omega
    have c1 : (((i + 1 : Nat) : Int) - 1) ≥ 0 := by omega
    have c2 : (((i + 1 : Nat) : Int) - 1) < ((List.replicate (i + 1) (0 : Int) ++ done).length : Int) := by
      rw [List.length_append, List.length_replicate]; omega
    have e2 : Int.tdiv (n : Int) 10 = ((n / 10 : Nat) : Int) := rfl
    have e3 : Int.tmod (n : Int) 10 = ((n % 10 : Nat) : Int) := rfl
    have hm := Nat.mod_lt n (show 0 < 10 by decide)
    have e4 : IntKind.u8.wrap (IntKind.u64.wrap (48 + ((n % 10 : Nat) : Int))) = 48 + ((n % 10 : Nat) : Int) := by
      generalize n % 10 = d at hm ⊢
      rw [w64, IntKind.wrap_u8]; omega
    have e5 : IntKind.u64.wrap ((n / 10 : Nat) : Int) = ((n / 10 : Nat) : Int) := by
      clear e4
      rw [w64]; omega
    have e6 : wrap64 ((((i + 1 : Nat) : Int) - 1) - 1) = (i : Int) - 1 := by
      clear e4 e5
      rw [wrap_id (by omega) (by omega)]; omega
    refine Ev.step (fun k => ?_) (ih (n / 10) ((48 + ((n % 10 : Nat) : Int)) :: done) (by clear e4 e5 e6; omega) (by rw [List.length_cons]; omega) hp)
    rw [nat_nine.l0, if_pos c1, if_pos c2, e1, e2, e3, e4, e5, e6, fillr]
theorem nine_ev (n : Nat) (h : n < 18446744073709551616) : Ev (fun k => nat_nine.f k (n : Int)) (pad 9 n) := by
  have h1 := nine_loop n h 9 n [] h rfl (by rw [List.append_nil])
  rw [List.append_nil] at h1
  exact h1

def p9 (i : Nat) : Nat := 10 ^ (9 * i)
theorem p9_succ (i : Nat) : p9 (i + 1) = p9 i * 1000000000 := by
  unfold p9
  rw [Nat.mul_add, Nat.pow_add]
def parts (n : Nat) : Nat → List Int
  | 0 => []
  | i + 1 => parts n i ++ [((n / p9 i % 1000000000 : Nat) : Int)]
theorem parts_length (n : Nat) : ∀ i, (parts n i).length = i
  | 0 => rfl
  | i + 1 => by rw [parts, List.length_append, parts_length n i]; rfl
theorem parts_rd (n : Nat) : ∀ m i, i < m → rd (parts n m) (i : Int) = ((n / p9 i % 1000000000 : Nat) : Int)
  | 0, i, h => by omega
  | m + 1, i, h => by
    rw [parts]
    by_cases hi : i = m
    · subst hi
      have := rd_at (parts n i) (((n / p9 i % 1000000000 : Nat) : Int)) []
      rwa [parts_length] at this
    · have ih := parts_rd n m i (by omega)
      rw [rd_nat] at ih ⊢
      rw [List.getD_eq_getElem?_getD, List.getElem?_append_left (by rw [parts_length]; omega), ← List.getD_eq_getElem?_getD]
      exact ih
theorem bytesOk_of {l : List Int} (h : ∀ x ∈ l, 48 ≤ x ∧ x ≤ 57) : bytesOk l = true := by
  unfold bytesOk
  rw [List.all_eq_true]
  intro x hx
  have := h x hx
  simp only [Bool.and_eq_true, decide_eq_true_eq]
  omega
theorem print_l2 (r : List Int) (x : Int) (hx : x ≠ 48) (hb : ∀ y ∈ x :: r, 48 ≤ y ∧ y ≤ 57) (z : Nat) (hz : z + r.length ≤ 1125899906842624) : ∀ d i : Nat, i + d = z →
    Ev (fun k => nat_Print.l2 k (List.replicate z 48 ++ x :: r) (i : Int)) (ofBytes (x :: r)) := by
  have hl : (List.replicate z (48 : Int) ++ x :: r).length = z + r.length + 1 := by rw [List.length_append, List.length_replicate, List.length_cons]; omega
  intro d
  induction d with
  | zero =>
    intro i hi
    obtain rfl : i = z := by omega
    have hr : rd (List.replicate i 48 ++ x :: r) (i : Int) = x := by
      have := rd_at (List.replicate i 48) x r
      rwa [List.length_replicate] at this
    have hd : (List.replicate i (48 : Int) ++ x :: r).drop i = x :: r := by
      rw [List.drop_append_of_le_length (by rw [List.length_replicate]; exact Nat.le_refl _), List.drop_of_length_le (by rw [List.length_replicate]; exact Nat.le_refl _), List.nil_append]
    refine Ev.step (fun k => ?_) (Ev.now _)
    rw [nat_Print.l2, if_pos (Int.natCast_nonneg _), if_pos (by rw [hl]; omega), hr, if_neg hx, Int.toNat_natCast, hd, if_pos (bytesOk_of hb)]
  | succ d ih =>
    intro i hi
    have hr : rd (List.replicate z 48 ++ x :: r) (i : Int) = 48 := by
      rw [rd_nat, List.getD_eq_getElem?_getD, List.getElem?_append_left (by rw [List.length_replicate]; omega), List.getElem?_replicate, if_pos (by omega)]
      rfl
    refine Ev.step (fun k => ?_) (ih (i + 1) (by omega))
    rw [nat_Print.l2, if_pos (Int.natCast_nonneg _), if_pos (by rw [hl]; clear hr; omega), if_pos hr, wr_succ i (by omega)]
theorem print_l1 (n m : Nat) (hm : m ≤ 1099511627776) (R : ByteArray) (hend : Ev (fun k => nat_Print.l2 k (pad (9 * m) n) 0) R) : ∀ i : Nat, i ≤ m →
    Ev (fun k => nat_Print.l1 k (parts n m) (pad (9 * (m - i)) (n / p9 i)) ((i : Int) - 1)) R := by
  intro i
  induction i with
  | zero =>
    intro _
    refine Ev.step (fun k => ?_) hend
    rw [nat_Print.l1, if_neg (by omega), Nat.sub_zero, show p9 0 = 1 from rfl, Nat.div_one]
  | succ i ih =>
    intro hi
    have e0 : (((i + 1 : Nat) : Int) - 1) = (i : Int) := by omega
    have hp := parts_rd n m i (by omega)
    have hlt := Nat.mod_lt (n / p9 i) (show 0 < 1000000000 by decide)
    have e9 := nine_ev (n / p9 i % 1000000000) (by omega)
    have hpad : pad (9 * (m - (i + 1))) (n / p9 (i + 1)) ++ pad 9 (n / p9 i % 1000000000) = pad (9 * (m - i)) (n / p9 i) := by
      have h1 := pad_mod 9 (n / p9 i)
      have h2 := pad_add (9 * (m - (i + 1))) 9 (n / p9 i)
      rw [show (10 : Nat) ^ 9 = 1000000000 from rfl] at h1 h2
      rw [h1, p9_succ, ← Nat.div_div_eq_div_mul, ← h2]
      congr 1
      omega
    have hw : wrap64 ((i : Int) - 1) = (i : Int) - 1 := wrap_id (by omega) (by omega)
    refine Ev.step (f := fun k => (nat_nine.f k (((n / p9 i % 1000000000 : Nat) : Int))).bind fun v7 => if (pad (9 * (m - (i + 1))) (n / p9 (i + 1))).length + v7.length < 140737488355329 then nat_Print.l1 k (parts n m) (pad (9 * (m - (i + 1))) (n / p9 (i + 1)) ++ v7) ((i : Int) - 1) else none) (fun k => ?_) (Ev.bind e9 ?_)
    · rw [nat_Print.l1, e0, if_pos (by exact Int.natCast_nonneg _), if_pos (by rw [parts_length]; exact Int.ofNat_lt.2 (by omega)), hp, hw]
    · refine Ev.if_pos ?_ ?_
      · rw [pad_length, pad_length]; omega
      · rw [hpad]
        exact ih (by omega)
theorem print_l0 (n : Nat) (h0 : n ≠ 0) (hl : len n ≤ 17179869184) : ∀ (x i : Nat), x = n / p9 i → i + bl x ≤ 549755813888 →
    Ev (fun k => nat_Print.l0 k (lm x) (parts n i)) (ofBytes (dec n)) := by
  intro x
  induction x using Nat.strongRecOn with
  | ind x ih =>
    intro i hx hb
    by_cases hz : x = 0
    · have hlt : n < 10 ^ (9 * i) := lt_ten_pow n (9 * i) (by rw [← hz, hx]; rfl)
      obtain ⟨z, hpad⟩ := pad_dec (9 * i) n h0 hlt
      obtain ⟨y, r, hd, hy⟩ := dec_head n h0
      have hby := dec_byte n
      rw [hd] at hpad hby
      have hlen : z + (r.length + 1) = 9 * i := by
        have := congrArg List.length hpad
        rw [pad_length, List.length_append, List.length_replicate, List.length_cons] at this
        exact this.symm
      have hend := print_l2 r y hy hby z (by omega) z 0 (by omega)
      rw [← hpad, ← hd] at hend
      have h1 := print_l1 n i (by omega) (ofBytes (dec n)) hend i (Nat.le_refl _)
      rw [Nat.sub_self, Nat.mul_zero] at h1
      have hw : wrap64 ((i : Int) - 1) = (i : Int) - 1 := wrap_id (by omega) (by omega)
      refine Ev.step (fun k => ?_) h1
      rw [nat_Print.l0, hz, lm_zero, if_neg (by simp), parts_length, hw]
      rfl
    · have hbx := bl_tenth x 1000000000 hz (by decide)
      have hlx : len x ≤ 17179869184 := Nat.le_trans (len_mono (by rw [hx]; exact Nat.div_le_self _ _)) hl
      have es := small_ev (lm x) (lm_ok x) (by rw [lm_length]; omega) 1000000000 (by decide) (by decide)
      rw [val_lm] at es
      have hl0 : len x ≠ 0 := fun e => hz (len_eq_zero.1 e)
      refine Ev.step (f := fun k => (nat_small.f k (lm x) 1000000000).bind fun v5 => if (parts n i).length < 17592186044416 then nat_Print.l0 k v5.1 (parts n i ++ [v5.2]) else none) (fun k => ?_) (Ev.bind es ?_)
      · rw [nat_Print.l0, if_pos (by rw [lm_length]; omega)]
      · refine Ev.if_pos (by rw [parts_length]; omega) ?_
        have hn : x / 1000000000 = n / p9 (i + 1) := by rw [hx, p9_succ, Nat.div_div_eq_div_mul]
        have := ih (x / 1000000000) (by omega) (i + 1) hn (by omega)
        rw [parts, ← hx] at this
        exact this
theorem obs_size (xs : List Int) : (ofBytes xs).size = xs.length := by simp [ofBytes, ByteArray.size]
def prN (n : Nat) : ByteArray := ofBytes (dec n)
theorem prN_size (n : Nat) : (prN n).size ≤ 32 * len n + 1 := by
  have h1 := dec_length n
  have h2 := bl_len n
  unfold prN
  rw [obs_size]
  omega
theorem print_ev (a : List Int) (ha : U a) (hl : a.length ≤ 17179869184) : Ev (fun k => nat_Print.f k a) (prN (val a)) := by
  have lv := val_len a
  refine Ev.bind (clean_ev a ha (by omega)) ?_
  generalize val a = n at lv ⊢
  by_cases h0 : n = 0
  · subst h0
    refine Ev.if_pos (by rw [lm_zero]; rfl) ((Ev.now _).of_eq ?_)
    decide +kernel
  · have hl0 : len n ≠ 0 := fun e => h0 (len_eq_zero.1 e)
    have hb := bl_len n
    refine Ev.if_neg (by rw [lm_length]; omega) ?_
    exact print_l0 n h0 (by omega) n 0 (by rw [show p9 0 = 1 from rfl, Nat.div_one]) (by omega)
end Go.DI.Th
namespace Go.DI.Th
open Go Go.RowKit Go.DI

def minus : ByteArray := ⟨#[45]⟩
end Go.DI.Th
namespace Go.DI.Th
open Go Go.RowKit Go.DI

end Go.DI.Th
namespace Go.DI.Th
open Go Go.RowKit Go.DI

def Dig (c : UInt8) : Prop := 48 ≤ c.toNat ∧ c.toNat ≤ 57
theorem Dig.n47 {c : UInt8} (h : Dig c) : c ≠ 47 := fun e => by subst e; exact absurd h.1 (by decide)
theorem toL_ofBytes (l : List Int) : toL (ofBytes l) = l.map fun n => UInt8.ofNat n.toNat := by unfold toL ofBytes; rfl
theorem prN_dig (n : Nat) : ∀ c ∈ toL (prN n), Dig c := by
  intro c hc
  unfold prN at hc
  rw [toL_ofBytes, List.mem_map] at hc
  obtain ⟨x, hx, e⟩ := hc
  have := dec_byte n x hx
  subst e
  unfold Dig
  rw [UInt8.toNat_ofNat', Nat.mod_eq_of_lt (by omega)]
  omega
def vb (l : List UInt8) : Nat := l.foldl (fun a c => 10 * a + (c.toNat - 48)) 0
theorem vb_prN (n : Nat) : vb (toL (prN n)) = n := by
  unfold prN
  rw [toL_ofBytes]
  induction n using Nat.strongRecOn with
  | ind n ih =>
    by_cases h : n < 10
    · rw [dec_small h]
      show 10 * 0 + ((UInt8.ofNat (48 + (n : Int)).toNat).toNat - 48) = n
      rw [UInt8.toNat_ofNat', Nat.mod_eq_of_lt (by omega)]
      omega
    · rw [dec_big h, List.map_append]
      unfold vb at ih ⊢
      rw [List.foldl_append, ih (n / 10) (by omega)]
      show 10 * (n / 10) + ((UInt8.ofNat (48 + ((n % 10 : Nat) : Int)).toNat).toNat - 48) = n
      have hm : n % 10 < 10 := Nat.mod_lt _ (by decide)
      have hd := Nat.div_add_mod n 10
      generalize n % 10 = m at hm hd ⊢
      rw [UInt8.toNat_ofNat', Nat.mod_eq_of_lt (by omega)]
      omega
end Go.DI.Th
namespace Go.DI.Th
open Go Go.RowKit Go.DI

def decP (m d : Nat) : List UInt8 := List.replicate (d + 1 - (toL (prN m)).length) 48 ++ toL (prN m)
def bdy (P : List UInt8) (d : Nat) : List UInt8 := if d = 0 then P else P.take (P.length - d) ++ 46 :: P.drop (P.length - d)
def decT (n : Int) (d : Nat) : List UInt8 := (if n < 0 then [45] else []) ++ bdy (decP n.natAbs d) d
theorem dgv_zeros : ∀ k : Nat, dgv 0 (List.replicate k 48) = 0
  | 0 => dgv_nil 0
  | k + 1 => by
    rw [List.replicate_succ, dgv_cons]
    exact dgv_zeros k
theorem vb_dgv' (l : List UInt8) : vb l = dgv 0 l := rfl
theorem decP_val (m d : Nat) : dgv 0 (decP m d) = m := by
  unfold decP
  rw [dgv_append, dgv_zeros, ← vb_dgv', vb_prN]
theorem decP_dig (m d : Nat) : ∀ c ∈ decP m d, isD c := by
  intro c hc
  unfold decP at hc
  rcases List.mem_append.1 hc with h | h
  · rw [(List.mem_replicate.1 h).2]; decide
  · exact prN_dig m c h
theorem decP_len (m d : Nat) : d + 1 ≤ (decP m d).length ∧ (decP m d).length ≤ d + 1 + (toL (prN m)).length := by
  unfold decP
  rw [List.length_append, List.length_replicate]
  omega
theorem unm_of (neg : Bool) (c : UInt8) (u : List UInt8) (hc : c ≠ 45) : unm ((if neg = true then [45] else []) ++ c :: u) = (neg, c :: u) := by
  unfold unm
  cases neg
  · have : ¬ isPre 45 ((if false = true then [45] else []) ++ c :: u) = true := by
      show ¬ (c == 45) = true
      simpa using hc
    rw [if_neg this]
    rfl
  · have : isPre 45 ((if true = true then [45] else []) ++ c :: u) = true := rfl
    rw [if_pos this]
    rfl
theorem dig_ne {c : UInt8} (h : isD c) : c ≠ 45 ∧ c ≠ 46 ∧ c ≠ 47 := by
  unfold isD at h
  refine ⟨?_, ?_, ?_⟩ <;> (intro e; subst e; exact absurd h (by decide))
theorem bdy_parse (P : List UInt8) (d : Nat) (hP : ∀ c ∈ P, isD c) (hd : d + 1 ≤ P.length) (hl : P.length ≤ 10000) : plE (bdy P d) = 0 ∧ plV (bdy P d) = mkRat (dgv 0 P : Int) (10 ^ d) := by
  unfold bdy
  by_cases h0 : d = 0
  · subst h0
    rw [if_pos rfl]
    have n47 : (47 : UInt8) ∉ P := fun h => (dig_ne (hP _ h)).2.2 rfl
    have n46 : (46 : UInt8) ∉ P := fun h => (dig_ne (hP _ h)).2.1 rfl
    unfold plE plV
    rw [cutL_not n47, cutL_not n46]
    refine ⟨pE_zero.2 ⟨fun e => by rw [e] at hd; exact absurd hd (by decide), hP, hl⟩, ?_⟩
    show ((dgv 0 P : Int) : Rat) = _
    exact (Rat.mkRat_self ((dgv 0 P : Int) : Rat)).symm
  · rw [if_neg h0]
    have hu : ∀ c ∈ P.take (P.length - d), isD c := fun c hc => hP c (List.mem_of_mem_take hc)
    have hv : ∀ c ∈ P.drop (P.length - d), isD c := fun c hc => hP c (List.mem_of_mem_drop hc)
    have lu : (P.take (P.length - d)).length = P.length - d := by rw [List.length_take]; omega
    have lv : (P.drop (P.length - d)).length = d := by rw [List.length_drop]; omega
    have n47 : (47 : UInt8) ∉ P.take (P.length - d) ++ 46 :: P.drop (P.length - d) := fun h => by
      rcases List.mem_append.1 h with h | h
      · exact (dig_ne (hu _ h)).2.2 rfl
      · rcases List.mem_cons.1 h with h | h
        · exact absurd h (by decide)
        · exact (dig_ne (hv _ h)).2.2 rfl
    have n46 : (46 : UInt8) ∉ P.take (P.length - d) := fun h => (dig_ne (hu _ h)).2.1 rfl
    unfold plE plV
    rw [cutL_not n47]
    dsimp only
    rw [cutL_of n46]
    dsimp only
    have pu : pE (P.take (P.length - d)) = 0 := pE_zero.2 ⟨fun e => by rw [e] at lu; have : ([] : List UInt8).length = 0 := rfl; omega, hu, by omega⟩
    have pv : pE (P.drop (P.length - d)) = 0 := pE_zero.2 ⟨fun e => by rw [e] at lv; have : ([] : List UInt8).length = 0 := rfl; omega, hv, by omega⟩
    rw [pu, pv, if_neg (fun h => h rfl), lv]
    refine ⟨rfl, ?_⟩
    have hs : dgv 0 P = dgv 0 (P.take (P.length - d)) * 10 ^ d + dgv 0 (P.drop (P.length - d)) := by
      have e : dgv 0 P = dgv 0 (P.take (P.length - d) ++ P.drop (P.length - d)) := by rw [List.take_append_drop]
      rw [e, dgv_append, dgv_shift _ (dgv 0 (P.take (P.length - d))), lv]
    rw [hs]
theorem bdy_head (P : List UInt8) (d : Nat) (hd : d + 1 ≤ P.length) (hP : ∀ c ∈ P, isD c) : ∃ c u, bdy P d = c :: u ∧ c ≠ 45 := by
  cases P with
  | nil => exact absurd hd (by simp)
  | cons c P =>
    have hc := (dig_ne (hP c List.mem_cons_self)).1
    unfold bdy
    by_cases h0 : d = 0
    · rw [if_pos h0]; exact ⟨c, P, rfl, hc⟩
    · rw [if_neg h0]
      rw [List.length_cons] at hd ⊢
      rw [show P.length + 1 - d = (P.length - d) + 1 by omega, List.take_succ_cons]
      exact ⟨c, _, rfl, hc⟩
theorem decT_parse (n : Int) (d : Nat) (hl : (decP n.natAbs d).length ≤ 10000) : prE (decT n d) = 0 ∧ prV (decT n d) = mkRat n (10 ^ d) := by
  have hP := decP_dig n.natAbs d
  have hd := (decP_len n.natAbs d).1
  obtain ⟨h1, h2⟩ := bdy_parse (decP n.natAbs d) d hP hd hl
  obtain ⟨c, u, e, hc⟩ := bdy_head (decP n.natAbs d) d hd hP
  have eu : unm (decT n d) = (decide (n < 0), bdy (decP n.natAbs d) d) := by
    unfold decT
    rw [e]
    have := unm_of (decide (n < 0)) c u hc
    by_cases hn : n < 0
    · rw [decide_eq_true hn] at this ⊢
      rw [if_pos hn]
      exact this
    · rw [decide_eq_false hn] at this ⊢
      rw [if_neg hn]
      exact this
  unfold prE prV
  rw [eu]
  refine ⟨h1, ?_⟩
  dsimp only
  rw [h2, decP_val]
  unfold sgQ
  by_cases hn : n < 0
  · rw [if_pos (decide_eq_true hn), Rat.neg_mkRat, show -((n.natAbs : Nat) : Int) = n by omega]
  · rw [if_neg (by simp [hn]), show ((n.natAbs : Nat) : Int) = n by omega]
theorem dec_tail (S : ByteArray) (neg : Bool) (d : Nat) (hd : d + 1 ≤ (toL S).length) (hl : (toL S).length ≤ 10000) (hd2 : d ≤ 20) : (if (d : Int) > 0 then (if 0 ≤ (wrap64 ((S.size : Int) - (d : Int))) then (if (wrap64 ((S.size : Int) - (d : Int))) ≤ (S.size : Int) then (if (S.extract 0 (((wrap64 ((S.size : Int) - (d : Int))) : Int).toNat)).size + (⟨#[46]⟩ : ByteArray).size ≤ 9223372036854775807 then (if ((S.extract 0 (((wrap64 ((S.size : Int) - (d : Int))) : Int).toNat)) ++ (⟨#[46]⟩ : ByteArray)).size + (S.extract (((wrap64 ((S.size : Int) - (d : Int))) : Int).toNat) S.size).size ≤ 9223372036854775807 then (if neg = true then (if (⟨#[45]⟩ : ByteArray).size + (((S.extract 0 (((wrap64 ((S.size : Int) - (d : Int))) : Int).toNat)) ++ (⟨#[46]⟩ : ByteArray)) ++ (S.extract (((wrap64 ((S.size : Int) - (d : Int))) : Int).toNat) S.size)).size ≤ 9223372036854775807 then (some (((⟨#[45]⟩ : ByteArray) ++ (((S.extract 0 (((wrap64 ((S.size : Int) - (d : Int))) : Int).toNat)) ++ (⟨#[46]⟩ : ByteArray)) ++ (S.extract (((wrap64 ((S.size : Int) - (d : Int))) : Int).toNat) S.size))), 0)) else none) else (some ((((S.extract 0 (((wrap64 ((S.size : Int) - (d : Int))) : Int).toNat)) ++ (⟨#[46]⟩ : ByteArray)) ++ (S.extract (((wrap64 ((S.size : Int) - (d : Int))) : Int).toNat) S.size)), 0))) else none) else none) else none) else none) else (if neg = true then (if (⟨#[45]⟩ : ByteArray).size + S.size ≤ 9223372036854775807 then (some (((⟨#[45]⟩ : ByteArray) ++ S), 0)) else none) else (some (S, 0)))) = some (ofL ((if neg = true then [45] else []) ++ bdy (toL S) d), (0 : Int)) := by
  have hsz := size_toL S
  have z1 : (⟨#[45]⟩ : ByteArray).size = 1 := rfl
  have z2 : (⟨#[46]⟩ : ByteArray).size = 1 := rfl
  by_cases h0 : d = 0
  · subst h0
    rw [if_neg (by decide)]
    have eb : bdy (toL S) 0 = toL S := if_pos rfl
    rw [eb]
    cases neg
    · rw [if_neg (by decide)]
      rfl
    · rw [if_pos rfl, if_pos (by omega)]
      congr 2
  · rw [if_pos (by omega)]
    have ew : wrap64 ((S.size : Int) - (d : Int)) = (((toL S).length - d : Nat) : Int) := by rw [wrap_id (by omega) (by omega)]; omega
    have q1 : (((toL S).length - d : Nat) : Int) ≤ (S.size : Int) := by omega
    have s1 : (S.extract 0 ((toL S).length - d)).size ≤ 10000 := by rw [size_toL, toL_extract, List.length_take, List.length_drop]; omega
    have s2 : (S.extract ((toL S).length - d) S.size).size ≤ 10000 := by rw [size_toL, toL_extract, List.length_take, List.length_drop]; omega
    rw [ew, Int.toNat_natCast, if_pos (nn0 _), if_pos q1]
    have hA : toL (S.extract 0 ((toL S).length - d)) = (toL S).take ((toL S).length - d) := by rw [toL_extract, List.drop_zero, Nat.sub_zero]
    have hB : toL (S.extract ((toL S).length - d) S.size) = (toL S).drop ((toL S).length - d) := by
      rw [toL_extract, List.take_of_length_le]
      rw [List.length_drop]
      omega
    have eb : bdy (toL S) d = (toL S).take ((toL S).length - d) ++ 46 :: (toL S).drop ((toL S).length - d) := if_neg h0
    clear ew
    generalize S.extract 0 ((toL S).length - d) = A at hA s1 ⊢
    generalize S.extract ((toL S).length - d) S.size = B at hB s2 ⊢
    have e46 : toL (⟨#[46]⟩ : ByteArray) = [46] := rfl
    have e45 : toL (⟨#[45]⟩ : ByteArray) = [45] := rfl
    rw [if_pos (by omega), if_pos (by rw [ByteArray.size_append]; omega)]
    rw [eb, ← hA, ← hB]
    cases neg
    · rw [if_neg (by decide)]
      congr 2
      apply toL_inj
      rw [toL_append, toL_append, e46, toL_ofL]
      simp
    · rw [if_pos rfl, if_pos (by rw [ByteArray.size_append, ByteArray.size_append]; omega)]
      congr 2
      apply toL_inj
      rw [toL_append, toL_append, toL_append, e46, e45, toL_ofL]
      simp
theorem repL_rep : ∀ k : Nat, repL [48] k = List.replicate k 48
  | 0 => rfl
  | k + 1 => by rw [repL, repL_rep k, List.replicate_succ]; rfl
theorem decimal_ev (r : Rt) (h : RtB 2 r) (d : Nat) (hd : d ≤ 20) : Ev (fun k => ratio_Decimal.f k r.1 r.2.1 r.2.2 (d : Int)) (ofL (decT (roundQ (rv r * (((10 ^ d : Nat) : Int) : Rat))) d), 0) ∧ (decP (roundQ (rv r * (((10 ^ d : Nat) : Int) : Rat))).natAbs d).length ≤ 5000 ∧ len (roundQ (rv r * (((10 ^ d : Nat) : Int) : Rat))).natAbs ≤ 40 := by
  have hz := h.sz
  have l10 := len_ten d
  have z10 : Sz (((10 ^ d : Nat) : Int) : Rat) ≤ 22 := by
    rw [Sz_int, Int.natAbs_natCast]
    omega
  have hint := int_cn false (lm (10 ^ d)) (lm_ok _).U (by rw [lm_length]; omega)
  have ewv : wv false (lm (10 ^ d)) = ((10 ^ d : Nat) : Int) := by
    unfold wv
    rw [val_lm]
    rfl
  rw [ewv] at hint
  have hm := mul_cn r (cn (((10 ^ d : Nat) : Int) : Rat)) h (cnB _ z10) (by decide)
  rw [rv_cn] at hm
  have zm := Sz_mul (rv r) (((10 ^ d : Nat) : Int) : Rat)
  have hr := round_cn (cn (rv r * (((10 ^ d : Nat) : Int) : Rat))) (cnB (b := 30) _ (by omega)) (by decide)
  rw [rv_cn] at hr
  have lr := roundQ_len (rv r * (((10 ^ d : Nat) : Int) : Rat)) (b := 30) (by omega)
  have hten := ten_ev d (by omega)
  generalize roundQ (rv r * (((10 ^ d : Nat) : Int) : Rat)) = n at hr lr ⊢
  have hp := print_ev (wl n).2 (lm_ok _).U (by rw [wl_lens]; omega)
  have evn : val (wl n).2 = n.natAbs := val_lm _
  rw [evn] at hp
  have hps := prN_size n.natAbs
  have hlen := decP_len n.natAbs d
  have hsz := size_toL (prN n.natAbs)
  have b1 : (decP n.natAbs d).length ≤ 5000 := by omega
  refine ⟨?_, b1, by omega⟩
  unfold ratio_Decimal.f
  refine Ev.if_neg (by omega) (Ev.if_neg (by omega) (Ev.bind hten (Ev.bind hint (Ev.bind hm (Ev.bind hr (Ev.bind hp ?_))))))
  have ew1 : wrap64 (((d + 1 : Nat) : Int) - ((prN n.natAbs).size : Int)) = ((d + 1 : Nat) : Int) - ((prN n.natAbs).size : Int) := wrap_id (by omega) (by omega)
  have ew0 : wrap64 ((d : Int) + 1) = ((d + 1 : Nat) : Int) := wr_succ d (by clear ew1; omega)
  rw [ew0, ew1]
  clear ew0 ew1
  have eT : ∀ P : List UInt8, P = decP n.natAbs d → ofL ((if (wl n).1 = true then [45] else []) ++ bdy P d) = ofL (decT n d) := fun P e => by
    subst e
    unfold decT
    have e1 : (wl n).1 = decide (n < 0) := rfl
    rw [e1]
    by_cases hn : n < 0
    · rw [if_pos (decide_eq_true hn), if_pos hn]
    · rw [if_neg (by simp [hn]), if_neg hn]
  by_cases hc : ((d + 1 : Nat) : Int) - ((prN n.natAbs).size : Int) > 0
  · refine Ev.if_pos hc ?_
    obtain ⟨c, hcc⟩ : ∃ c : Nat, ((d + 1 : Nat) : Int) - ((prN n.natAbs).size : Int) = (c : Int) := ⟨(((d + 1 : Nat) : Int) - ((prN n.natAbs).size : Int)).toNat, by omega⟩
    rw [hcc]
    have hrep : strings_Repeat.f (⟨#[48]⟩ : ByteArray) (c : Int) = some (ofL (List.replicate c 48)) := by
      unfold strings_Repeat.f
      have z : (⟨#[48]⟩ : ByteArray).size = 1 := rfl
      rw [if_pos (nn0 c), Int.toNat_natCast, z, if_pos ⟨by omega, by omega⟩]
      congr 1
      show (⟨(repL [48] c).toArray⟩ : ByteArray) = _
      rw [repL_rep]
      rfl
    rw [hrep]
    have hS : toL (ofL (List.replicate c 48) ++ prN n.natAbs) = decP n.natAbs d := by
      rw [toL_append, toL_ofL]
      unfold decP
      rw [show d + 1 - (toL (prN n.natAbs)).length = c by omega]
    have hk : (ofL (List.replicate c 48)).size = c := by rw [size_toL, toL_ofL, List.length_replicate]
    refine Ev.bind (Ev.now _) (Ev.if_pos (by omega) ?_)
    rw [dec_tail (ofL (List.replicate c 48) ++ prN n.natAbs) (wl n).1 d (by rw [hS]; omega) (by rw [hS]; omega) hd]
    rw [hS, eT _ rfl]
    exact Ev.now _
  · refine Ev.if_neg hc ?_
    have hS : toL (prN n.natAbs) = decP n.natAbs d := by
      unfold decP
      rw [show d + 1 - (toL (prN n.natAbs)).length = 0 by omega]
      rfl
    rw [dec_tail (prN n.natAbs) (wl n).1 d (by rw [hS]; omega) (by rw [hS]; omega) hd, hS, eT _ rfl]
    exact Ev.now _
theorem decimal_out (r : Rt) (n : Int) (h : n < 0 ∨ n > 10000) : Ev (fun k => ratio_Decimal.f k r.1 r.2.1 r.2.2 n) (.empty, 8) := by
  unfold ratio_Decimal.f
  by_cases h1 : n < 0
  · exact Ev.if_pos h1 (Ev.now _)
  · exact Ev.if_neg h1 (Ev.if_pos (by omega) (Ev.now _))
def ptOf (p : Nat) : List UInt8 → Nat
  | [] => p
  | c :: t => if c = 46 then ptOf t.length t else ptOf p t
theorem ptOf_dig : ∀ (l : List UInt8) (p : Nat), (∀ c ∈ l, c ≠ 46) → ptOf p l = p
  | [], _, _ => rfl
  | c :: l, p, h => by rw [ptOf, if_neg (h c List.mem_cons_self), ptOf_dig l p fun x hx => h x (List.mem_cons_of_mem _ hx)]
theorem ptOf_app : ∀ (a b : List UInt8) (p : Nat), (∀ c ∈ a, c ≠ 46) → ptOf p (a ++ b) = ptOf p b
  | [], _, _, _ => rfl
  | c :: a, b, p, h => by rw [List.cons_append, ptOf, if_neg (h c List.mem_cons_self), ptOf_app a b p fun x hx => h x (List.mem_cons_of_mem _ hx)]
theorem ptOf_dec (n : Int) (d : Nat) : ptOf 0 (decT n d) = d := by
  have hP := decP_dig n.natAbs d
  have hd := (decP_len n.natAbs d).1
  unfold decT
  rw [ptOf_app _ _ _ (by split <;> simp)]
  unfold bdy
  by_cases h0 : d = 0
  · rw [if_pos h0, ptOf_dig _ _ fun c hc => (dig_ne (hP c hc)).2.1, h0]
  · rw [if_neg h0, ptOf_app _ _ _ fun c hc => (dig_ne (hP c (List.mem_of_mem_take hc))).2.1, ptOf, if_pos rfl, ptOf_dig _ _ fun c hc => (dig_ne (hP c (List.mem_of_mem_drop hc))).2.1, List.length_drop]
    omega
theorem pt_loop (s : ByteArray) (hs : (toL s).length ≤ 100000) (x1 : Int) (A B C : Rt) (R : Bool) : ∀ (b a : List UInt8) (p : Nat), toL s = a ++ b →
    (Ev (fun k => dendronlaw03_RatioDecimals.l0 k x1 s (ptOf p b : Int) ((toL s).length : Int) A.1 A.2.1 A.2.2 B.1 B.2.1 B.2.2 C.1 C.2.1 C.2.2) R) →
    Ev (fun k => dendronlaw03_RatioDecimals.l0 k x1 s (p : Int) (a.length : Int) A.1 A.2.1 A.2.2 B.1 B.2.1 B.2.2 C.1 C.2.1 C.2.2) R := by
  intro b
  induction b with
  | nil =>
    intro a p hr he
    rw [List.append_nil] at hr
    rw [hr] at he
    exact he
  | cons c b ih =>
    intro a p hr he
    have eb := bt_at hr
    have es := sz_at hr
    have hlen : (toL s).length = a.length + (b.length + 1) := by rw [hr, List.length_append, List.length_cons]
    have hsz := size_toL s
    have ew : wrap64 ((wrap64 ((s.size : Int) - (a.length : Int))) - 1) = (b.length : Int) := by
      rw [wrap_id (i := (s.size : Int) - (a.length : Int)) (by omega) (by omega), wrap_id (by omega) (by omega)]; omega
    refine Ev.succ ?_
    simp only [dendronlaw03_RatioDecimals.l0, eb, ew, wr_at a c (show a.length ≤ 1125899906842624 by omega)]
    clear ew
    refine Ev.if_pos es (Ev.if_pos (nn0 _) ?_)
    rw [ptOf] at he
    by_cases hc : c = 46
    · subst hc
      rw [if_pos rfl] at he
      exact Ev.if_pos rfl (ih (a ++ [46]) b.length (by rw [hr]; simp) he)
    · rw [if_neg hc] at he
      exact Ev.if_neg (fun e => hc (UInt8.toNat_inj.1 (by have : (46 : UInt8).toNat = 46 := rfl; omega))) (ih (a ++ [c]) p (by rw [hr]; simp) he)
theorem abs3_ev {x : Rat} {a : Nat} {r : Rt} (h : D.FL x a r) : ∃ t, D.FL (absQ x) a t ∧ Ev (fun _ => dendronlaw03_abs.f r.1 r.2.1 r.2.2) t := by
  unfold absQ dendronlaw03_abs.f
  obtain ⟨t, ht, et⟩ := h.minus
  by_cases hx : x < 0
  · rw [if_pos hx]
    exact ⟨t, ht, Ev.if_pos (h.neg_N.2 hx) (Ev.bind et (Ev.now _))⟩
  · rw [if_neg hx]
    exact ⟨r, h, Ev.if_neg (fun e => hx (h.neg_N.1 e)) (Ev.now _)⟩
theorem ten_pos (d : Nat) : (0 : Rat) < (((10 ^ d : Nat) : Int) : Rat) := Rat.intCast_pos.2 (by have := Nat.pow_pos (n := d) (show 0 < 10 by decide); omega)
theorem mk_ten (n : Int) (d : Nat) : mkRat n (10 ^ d) * (((10 ^ d : Nat) : Int) : Rat) = (n : Rat) := by
  have h := ten_pos d
  rw [← Rat.divInt_ofNat, Rat.divInt_eq_div]
  exact Rat.div_mul_cancel (fun e => by rw [e] at h; exact Rat.lt_irrefl h)
theorem bdy_len (P : List UInt8) (d : Nat) : (bdy P d).length ≤ P.length + 1 := by
  unfold bdy
  by_cases h : d = 0
  · rw [if_pos h]; omega
  · rw [if_neg h, List.length_append, List.length_cons, List.length_take, List.length_drop]; omega
theorem decT_len (n : Int) (d : Nat) : (decT n d).length ≤ (decP n.natAbs d).length + 2 := by
  have h1 := bdy_len (decP n.natAbs d) d
  unfold decT
  rw [List.length_append]
  have e1 : (if n < 0 then [45] else [] : List UInt8).length ≤ 1 := by
    by_cases h : n < 0
    · rw [if_pos h]; decide
    · rw [if_neg h]; decide
  omega
theorem ratioDecimals_ev (r : Rt) (n : Int) (hr : RtU r) (hn : -9223372036854775808 ≤ n ∧ n ≤ 9223372036854775807) : Ev (fun k => dendronlaw03_RatioDecimals.f k r.1 r.2.1 r.2.2 n) true := by
  unfold dendronlaw03_RatioDecimals.f
  refine Ev.bind (tiny3_ev _ _ _) ?_
  have ha := tinyB hr
  have za := ha.sz
  generalize tinyR (r.1, r.2.1, r.2.2) = a at ha za ⊢
  by_cases h20 : n > 20
  · refine Ev.if_pos h20 ?_
    by_cases h1 : n ≤ 10000
    · exact Ev.if_pos h1 aw3
    · exact Ev.if_neg h1 (Ev.bind (decimal_out a n (Or.inr (by omega))) (Ev.if_neg (by omega) (Ev.if_pos (by omega) (Ev.if_pos rfl (Ev.if_pos rfl aw3)))))
  · refine Ev.if_neg h20 ?_
    by_cases h0 : n < 0
    · exact Ev.bind (decimal_out a n (Or.inl h0)) (Ev.if_pos h0 (Ev.if_pos rfl (Ev.if_pos rfl aw3)))
    · obtain ⟨d, rfl⟩ : ∃ d : Nat, n = (d : Int) := ⟨n.toNat, by omega⟩
      have hd : d ≤ 20 := by omega
      obtain ⟨h1, h2, h3⟩ := decimal_ev a ha d hd
      have hnear := round_near (rv a * (((10 ^ d : Nat) : Int) : Rat))
      generalize roundQ (rv a * (((10 ^ d : Nat) : Int) : Rat)) = m at h1 h2 h3 hnear
      obtain ⟨p1, p2⟩ := decT_parse m d (by omega)
      have hlT : (decT m d).length ≤ 5002 := by
        have := decT_len m d
        omega
      have eT : toL (ofL (decT m d)) = decT m d := toL_ofL _
      obtain ⟨q, ⟨q1, q2⟩, q3⟩ := D.rparse_ev (ofL (decT m d)) (by rw [size_toL, eT]; omega)
      rw [eT] at q1 q2
      have hq := q2 p1
      rw [p2] at hq
      have s10 := D.small_ev 10 (by decide)
      have hpow := D.power_ev d (by omega)
      have hmk := D.il_ev (b := false) (n := 10 ^ d) (z := ((10 ^ d : Nat) : Int)) rfl
      have l10 := D.len_ten d
      obtain ⟨w, hw, ew⟩ := D.FL.whole ((10 ^ d : Nat) : Int) (s := 30) (by rw [D.L_nat]; omega) (by decide)
      obtain ⟨y, hy, ey⟩ := hq.times hw (by decide)
      rw [mk_ten] at hy
      obtain ⟨x, hx, ex⟩ := D.FL.from ha (by decide)
      obtain ⟨u, hu, eu⟩ := hx.times hw (by decide)
      obtain ⟨v, hv, ev⟩ := hy.minus
      obtain ⟨g, hg, eg⟩ := hu.plus hv (by decide)
      rw [← Rat.sub_eq_add_neg] at hg
      obtain ⟨b, hb, eb⟩ := abs3_ev hg
      obtain ⟨hf, hhf, ehf⟩ := D.FL.small 1 2 (by decide) (by decide) (by decide)
      rw [mk_half.1] at hhf
      have hord := hb.order hhf (by decide)
      have hfl := hy.floor (by decide)
      rw [Rat.floor_intCast] at hfl
      have lm3 : D.L m ≤ 200 := Nat.le_trans (D.len_of_len _) (by omega)
      have hov := D.wover_ev m 2 (by decide) (by omega) (by have := D.len_le (n := 2) (k := 1) (by decide); omega)
      have two := D.wsmall_ev 2 (by decide) (by decide)
      refine Ev.bind h1 (Ev.if_neg h0 (Ev.if_neg (by omega) (Ev.bind q3 (Ev.bind s10 (Ev.bind hpow (Ev.bind hmk (Ev.bind ew (Ev.if_neg (fun h => h rfl) (Ev.if_neg (fun h => h (q1.trans p1)) ?_)))))))))
      have loop := pt_loop (ofL (decT m d)) (by rw [eT]; omega) (d : Int) a (q.1, q.2.1, q.2.2.1) w true (decT m d) [] 0 eT
      refine loop ?_
      rw [ptOf_dec, eT]
      refine Ev.succ ?_
      simp only [dendronlaw03_RatioDecimals.l0]
      obtain ⟨n1, n2, n3⟩ := hnear
      have hle : absQ (rv a * (((10 ^ d : Nat) : Int) : Rat) - (m : Rat)) ≤ half := by
        unfold absQ
        split
        · rw [Rat.neg_le_iff]; exact n1
        · exact n2
      refine Ev.if_neg (by rw [size_toL, eT]; omega) (Ev.bind ey (Ev.bind ex (Ev.bind eu (Ev.bind ev (Ev.bind eg (Ev.bind eb (Ev.bind ehf (Ev.bind hord (Ev.bind hfl (Ev.bind two (Ev.bind hov (Ev.if_pos trivial (Ev.if_pos ?_ ?_)))))))))))))
      · have : ¬ 0 < cmpQ (absQ (rv a * (((10 ^ d : Nat) : Int) : Rat) - (m : Rat))) half := fun e => Rat.not_lt.2 hle (cmpQ_pos.1 e)
        omega
      · by_cases hlt : cmpQ (absQ (rv a * (((10 ^ d : Nat) : Int) : Rat) - (m : Rat))) half < 0
        · exact Ev.if_pos hlt aw3
        · refine Ev.if_neg hlt (Ev.if_pos ?_ aw3)
          have hev : m % 2 = 0 := by
            rcases n3 with ⟨k1, k2⟩ | k
            · exfalso
              apply hlt
              apply cmpQ_neg.2
              unfold absQ
              split
              · rw [Rat.neg_lt_iff]; exact k1
              · exact k2
            · exact k
          have e0 : (m % ((2 : Nat) : Int)) = 0 := hev
          exact D.lm_nil'.2 (by rw [e0]; rfl)
end Go.DI.Th
