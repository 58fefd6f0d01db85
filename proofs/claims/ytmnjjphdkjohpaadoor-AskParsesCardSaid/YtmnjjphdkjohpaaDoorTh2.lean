/- What the told functions answer, part 2. No condition. -/
import Derived.Test.YtmnjjphdkjohpaaDoorTh1
set_option linter.all false
namespace Go.DI.Th
open Go Go.RowKit Go.DI
def Le {α : Type} (a b : Option α) : Prop := ∀ r, a = some r → b = some r
theorem Le.refl {α : Type} (a : Option α) : Le a a := fun _ h => h
theorem Le.none {α : Type} (b : Option α) : Le none b := fun _ h => by cases h
theorem Le.eqs {α : Type} {a b c d : Option α} (h : a = c) (h' : b = d) (k : Le c d) : Le a b := by subst h; subst h'; exact k
theorem Le.bind {α β : Type} {a b : Option α} {f g : α → Option β} (h : Le a b) (k : ∀ v, Le (f v) (g v)) : Le (a.bind f) (b.bind g) := by
  intro r hr
  cases ha : a with
  | none => rw [ha] at hr; cases hr
  | some v =>
    rw [ha] at hr
    rw [h v ha]
    exact k v r hr
theorem Le.ite {α : Type} {c : Prop} [Decidable c] {a b a' b' : Option α} (h : Le a a') (k : Le b b') : Le (if c then a else b) (if c then a' else b') := by
  split
  · exact h
  · exact k
theorem Ev.mono {α : Type} {g : Nat → Option α} (h : ∀ k, Le (g k) (g (k + 1))) {K : Nat} {r : α} (hk : g K = some r) : Ev g r := by
  refine ⟨K, fun n hn => ?_⟩
  induction hn with
  | refl => exact hk
  | step _ ih => exact h _ r ih
theorem nat_trim.monoL (k : Nat) : (∀ x0 x1, Le (nat_trim.l0 k x0 x1) (nat_trim.l0 (k + 1) x0 x1)) := by
  induction k with
  | zero => exact fun _ _ => Le.none _
  | succ k ih =>
    intro x0 x1
    refine Le.eqs (nat_trim.l0.eq_2 ..) (nat_trim.l0.eq_2 ..) ?_
    repeat' (first
      | with_reducible exact Le.refl _
      | with_reducible refine Le.ite ?_ ?_
      | with_reducible exact ih _ _
      | with_reducible refine Le.bind (ih _ _) (fun _ => ?_)
      | with_reducible refine Le.bind (Le.refl _) (fun _ => ?_)
      | split)
theorem nat_trim.mono (k : Nat) : ∀ x0, Le (nat_trim.f k x0) (nat_trim.f (k + 1) x0) := by
  intro x0
  unfold nat_trim.f
  repeat' (first
    | with_reducible exact Le.refl _
    | with_reducible refine Le.ite ?_ ?_
    | with_reducible exact (nat_trim.monoL k) _ _
    | with_reducible refine Le.bind (Le.refl _) (fun _ => ?_)
    | split)
theorem nat_Clean.monoL (k : Nat) : (∀ x0 x1 x2 x3, Le (nat_Clean.l0 k x0 x1 x2 x3) (nat_Clean.l0 (k + 1) x0 x1 x2 x3)) := by
  induction k with
  | zero => exact fun _ _ _ _ => Le.none _
  | succ k ih =>
    intro x0 x1 x2 x3
    refine Le.eqs (nat_Clean.l0.eq_2 ..) (nat_Clean.l0.eq_2 ..) ?_
    repeat' (first
      | with_reducible exact Le.refl _
      | with_reducible refine Le.ite ?_ ?_
      | with_reducible exact ih _ _ _ _
      | with_reducible refine Le.bind (ih _ _ _ _) (fun _ => ?_)
      | with_reducible refine Le.bind (nat_trim.mono k _) (fun _ => ?_)
      | with_reducible exact nat_trim.mono k _
      | with_reducible refine Le.bind (Le.refl _) (fun _ => ?_)
      | split)
theorem nat_Clean.mono (k : Nat) : ∀ x0, Le (nat_Clean.f k x0) (nat_Clean.f (k + 1) x0) := by
  intro x0
  unfold nat_Clean.f
  repeat' (first
    | with_reducible exact Le.refl _
    | with_reducible refine Le.ite ?_ ?_
    | with_reducible exact (nat_Clean.monoL k) _ _ _ _
    | with_reducible refine Le.bind (Le.refl _) (fun _ => ?_)
    | split)
theorem whole_Clean.mono (k : Nat) : ∀ x0 x1, Le (whole_Clean.f k x0 x1) (whole_Clean.f (k + 1) x0 x1) := by
  intro x0 x1
  unfold whole_Clean.f
  repeat' (first
    | with_reducible exact Le.refl _
    | with_reducible refine Le.ite ?_ ?_
    | with_reducible refine Le.bind (nat_Clean.mono k _) (fun _ => ?_)
    | with_reducible exact nat_Clean.mono k _
    | with_reducible refine Le.bind (Le.refl _) (fun _ => ?_)
    | split)
theorem whole_Neg.mono (k : Nat) : ∀ x0 x1, Le (whole_Neg.f k x0 x1) (whole_Neg.f (k + 1) x0 x1) := by
  intro x0 x1
  unfold whole_Neg.f
  repeat' (first
    | with_reducible exact Le.refl _
    | with_reducible refine Le.ite ?_ ?_
    | with_reducible refine Le.bind (whole_Clean.mono k _ _) (fun _ => ?_)
    | with_reducible exact whole_Clean.mono k _ _
    | with_reducible refine Le.bind (Le.refl _) (fun _ => ?_)
    | split)
theorem nat_Of.mono (k : Nat) : ∀ x0, Le (nat_Of.f k x0) (nat_Of.f (k + 1) x0) := by
  intro x0
  unfold nat_Of.f
  repeat' (first
    | with_reducible exact Le.refl _
    | with_reducible refine Le.ite ?_ ?_
    | with_reducible refine Le.bind (nat_trim.mono k _) (fun _ => ?_)
    | with_reducible exact nat_trim.mono k _
    | with_reducible refine Le.bind (Le.refl _) (fun _ => ?_)
    | split)
theorem nat_order.monoL (k : Nat) : (∀ x0 x1 x2, Le (nat_order.l0 k x0 x1 x2) (nat_order.l0 (k + 1) x0 x1 x2)) := by
  induction k with
  | zero => exact fun _ _ _ => Le.none _
  | succ k ih =>
    intro x0 x1 x2
    refine Le.eqs (nat_order.l0.eq_2 ..) (nat_order.l0.eq_2 ..) ?_
    repeat' (first
      | with_reducible exact Le.refl _
      | with_reducible refine Le.ite ?_ ?_
      | with_reducible exact ih _ _ _
      | with_reducible refine Le.bind (ih _ _ _) (fun _ => ?_)
      | with_reducible refine Le.bind (Le.refl _) (fun _ => ?_)
      | split)
theorem nat_order.mono (k : Nat) : ∀ x0 x1, Le (nat_order.f k x0 x1) (nat_order.f (k + 1) x0 x1) := by
  intro x0 x1
  unfold nat_order.f
  repeat' (first
    | with_reducible exact Le.refl _
    | with_reducible refine Le.ite ?_ ?_
    | with_reducible exact (nat_order.monoL k) _ _ _
    | with_reducible refine Le.bind (Le.refl _) (fun _ => ?_)
    | split)
theorem nat_To.mono (k : Nat) : ∀ x0, Le (nat_To.f k x0) (nat_To.f (k + 1) x0) := by
  intro x0
  unfold nat_To.f
  repeat' (first
    | with_reducible exact Le.refl _
    | with_reducible refine Le.ite ?_ ?_
    | with_reducible refine Le.bind (nat_Clean.mono k _) (fun _ => ?_)
    | with_reducible exact nat_Clean.mono k _
    | with_reducible refine Le.bind (Le.refl _) (fun _ => ?_)
    | split)
theorem nat_euclid.monoL (k : Nat) : (∀ x0 x1, Le (nat_euclid.l0 k x0 x1) (nat_euclid.l0 (k + 1) x0 x1)) := by
  induction k with
  | zero => exact fun _ _ => Le.none _
  | succ k ih =>
    intro x0 x1
    refine Le.eqs (nat_euclid.l0.eq_2 ..) (nat_euclid.l0.eq_2 ..) ?_
    repeat' (first
      | with_reducible exact Le.refl _
      | with_reducible refine Le.ite ?_ ?_
      | with_reducible exact ih _ _
      | with_reducible refine Le.bind (ih _ _) (fun _ => ?_)
      | with_reducible refine Le.bind (nat_Of.mono k _) (fun _ => ?_)
      | with_reducible exact nat_Of.mono k _
      | with_reducible refine Le.bind (Le.refl _) (fun _ => ?_)
      | split)
theorem nat_euclid.mono (k : Nat) : ∀ x0 x1, Le (nat_euclid.f k x0 x1) (nat_euclid.f (k + 1) x0 x1) := by
  intro x0 x1
  unfold nat_euclid.f
  repeat' (first
    | with_reducible exact Le.refl _
    | with_reducible refine Le.ite ?_ ?_
    | with_reducible exact (nat_euclid.monoL k) _ _
    | with_reducible refine Le.bind (nat_To.mono k _) (fun _ => ?_)
    | with_reducible exact nat_To.mono k _
    | with_reducible refine Le.bind (Le.refl _) (fun _ => ?_)
    | split)
theorem nat_zeros.monoL (k : Nat) : (∀ x0 x1 x2 x3, Le (nat_zeros.l0 k x0 x1 x2 x3) (nat_zeros.l0 (k + 1) x0 x1 x2 x3)) := by
  induction k with
  | zero => exact fun _ _ _ _ => Le.none _
  | succ k ih =>
    intro x0 x1 x2 x3
    refine Le.eqs (nat_zeros.l0.eq_2 ..) (nat_zeros.l0.eq_2 ..) ?_
    repeat' (first
      | with_reducible exact Le.refl _
      | with_reducible refine Le.ite ?_ ?_
      | with_reducible exact ih _ _ _ _
      | with_reducible refine Le.bind (ih _ _ _ _) (fun _ => ?_)
      | with_reducible refine Le.bind (Le.refl _) (fun _ => ?_)
      | split)
theorem nat_zeros.mono (k : Nat) : ∀ x0, Le (nat_zeros.f k x0) (nat_zeros.f (k + 1) x0) := by
  intro x0
  unfold nat_zeros.f
  repeat' (first
    | with_reducible exact Le.refl _
    | with_reducible refine Le.ite ?_ ?_
    | with_reducible exact (nat_zeros.monoL k) _ _ _ _
    | with_reducible refine Le.bind (Le.refl _) (fun _ => ?_)
    | split)
theorem nat_shr.monoL (k : Nat) : (∀ x0 x1 x2 x3 x4 x5, Le (nat_shr.l0 k x0 x1 x2 x3 x4 x5) (nat_shr.l0 (k + 1) x0 x1 x2 x3 x4 x5)) := by
  induction k with
  | zero => exact fun _ _ _ _ _ _ => Le.none _
  | succ k ih =>
    intro x0 x1 x2 x3 x4 x5
    refine Le.eqs (nat_shr.l0.eq_2 ..) (nat_shr.l0.eq_2 ..) ?_
    repeat' (first
      | with_reducible exact Le.refl _
      | with_reducible refine Le.ite ?_ ?_
      | with_reducible exact ih _ _ _ _ _ _
      | with_reducible refine Le.bind (ih _ _ _ _ _ _) (fun _ => ?_)
      | with_reducible refine Le.bind (nat_trim.mono k _) (fun _ => ?_)
      | with_reducible exact nat_trim.mono k _
      | with_reducible refine Le.bind (Le.refl _) (fun _ => ?_)
      | split)
theorem nat_shr.mono (k : Nat) : ∀ x0 x1, Le (nat_shr.f k x0 x1) (nat_shr.f (k + 1) x0 x1) := by
  intro x0 x1
  unfold nat_shr.f
  repeat' (first
    | with_reducible exact Le.refl _
    | with_reducible refine Le.ite ?_ ?_
    | with_reducible exact (nat_shr.monoL k) _ _ _ _ _ _
    | with_reducible refine Le.bind (Le.refl _) (fun _ => ?_)
    | split)
theorem nat_trimM.monoL (k : Nat) : (∀ x0 x1, Le (nat_trimM.l0 k x0 x1) (nat_trimM.l0 (k + 1) x0 x1)) := by
  induction k with
  | zero => exact fun _ _ => Le.none _
  | succ k ih =>
    intro x0 x1
    refine Le.eqs (nat_trimM.l0.eq_2 ..) (nat_trimM.l0.eq_2 ..) ?_
    repeat' (first
      | with_reducible exact Le.refl _
      | with_reducible refine Le.ite ?_ ?_
      | with_reducible exact ih _ _
      | with_reducible refine Le.bind (ih _ _) (fun _ => ?_)
      | with_reducible refine Le.bind (Le.refl _) (fun _ => ?_)
      | split)
theorem nat_trimM.mono (k : Nat) : ∀ x0, Le (nat_trimM.f k x0) (nat_trimM.f (k + 1) x0) := by
  intro x0
  unfold nat_trimM.f
  repeat' (first
    | with_reducible exact Le.refl _
    | with_reducible refine Le.ite ?_ ?_
    | with_reducible exact (nat_trimM.monoL k) _ _
    | with_reducible refine Le.bind (Le.refl _) (fun _ => ?_)
    | split)
theorem nat_shl.monoL (k : Nat) : (∀ x0 x1 x2 x3 x4 x5, Le (nat_shl.l0 k x0 x1 x2 x3 x4 x5) (nat_shl.l0 (k + 1) x0 x1 x2 x3 x4 x5)) := by
  induction k with
  | zero => exact fun _ _ _ _ _ _ => Le.none _
  | succ k ih =>
    intro x0 x1 x2 x3 x4 x5
    refine Le.eqs (nat_shl.l0.eq_2 ..) (nat_shl.l0.eq_2 ..) ?_
    repeat' (first
      | with_reducible exact Le.refl _
      | with_reducible refine Le.ite ?_ ?_
      | with_reducible exact ih _ _ _ _ _ _
      | with_reducible refine Le.bind (ih _ _ _ _ _ _) (fun _ => ?_)
      | with_reducible refine Le.bind (nat_trimM.mono k _) (fun _ => ?_)
      | with_reducible exact nat_trimM.mono k _
      | with_reducible refine Le.bind (Le.refl _) (fun _ => ?_)
      | split)
theorem nat_shl.mono (k : Nat) : ∀ x0 x1, Le (nat_shl.f k x0 x1) (nat_shl.f (k + 1) x0 x1) := by
  intro x0 x1
  unfold nat_shl.f
  repeat' (first
    | with_reducible exact Le.refl _
    | with_reducible refine Le.ite ?_ ?_
    | with_reducible exact (nat_shl.monoL k) _ _ _ _ _ _
    | with_reducible refine Le.bind (Le.refl _) (fun _ => ?_)
    | split)
theorem nat_small.monoL (k : Nat) : (∀ x0 x1 x2 x3 x4, Le (nat_small.l0 k x0 x1 x2 x3 x4) (nat_small.l0 (k + 1) x0 x1 x2 x3 x4)) := by
  induction k with
  | zero => exact fun _ _ _ _ _ => Le.none _
  | succ k ih =>
    intro x0 x1 x2 x3 x4
    refine Le.eqs (nat_small.l0.eq_2 ..) (nat_small.l0.eq_2 ..) ?_
    repeat' (first
      | with_reducible exact Le.refl _
      | with_reducible refine Le.ite ?_ ?_
      | with_reducible exact ih _ _ _ _ _
      | with_reducible refine Le.bind (ih _ _ _ _ _) (fun _ => ?_)
      | with_reducible refine Le.bind (nat_trim.mono k _) (fun _ => ?_)
      | with_reducible exact nat_trim.mono k _
      | with_reducible refine Le.bind (Le.refl _) (fun _ => ?_)
      | split)
theorem nat_small.mono (k : Nat) : ∀ x0 x1, Le (nat_small.f k x0 x1) (nat_small.f (k + 1) x0 x1) := by
  intro x0 x1
  unfold nat_small.f
  repeat' (first
    | with_reducible exact Le.refl _
    | with_reducible refine Le.ite ?_ ?_
    | with_reducible exact (nat_small.monoL k) _ _ _ _ _
    | with_reducible refine Le.bind (Le.refl _) (fun _ => ?_)
    | split)
theorem nat_take.monoL (k : Nat) : (∀ x0 x1 x2 x3 x4 x5 x6, Le (nat_take.l0 k x0 x1 x2 x3 x4 x5 x6) (nat_take.l0 (k + 1) x0 x1 x2 x3 x4 x5 x6)) := by
  induction k with
  | zero => exact fun _ _ _ _ _ _ _ => Le.none _
  | succ k ih =>
    intro x0 x1 x2 x3 x4 x5 x6
    refine Le.eqs (nat_take.l0.eq_2 ..) (nat_take.l0.eq_2 ..) ?_
    repeat' (first
      | with_reducible exact Le.refl _
      | with_reducible refine Le.ite ?_ ?_
      | with_reducible exact ih _ _ _ _ _ _ _
      | with_reducible refine Le.bind (ih _ _ _ _ _ _ _) (fun _ => ?_)
      | with_reducible refine Le.bind (Le.refl _) (fun _ => ?_)
      | split)
theorem nat_take.mono (k : Nat) : ∀ x0 x1 x2, Le (nat_take.f k x0 x1 x2) (nat_take.f (k + 1) x0 x1 x2) := by
  intro x0 x1 x2
  unfold nat_take.f
  repeat' (first
    | with_reducible exact Le.refl _
    | with_reducible refine Le.ite ?_ ?_
    | with_reducible exact (nat_take.monoL k) _ _ _ _ _ _ _
    | with_reducible refine Le.bind (Le.refl _) (fun _ => ?_)
    | split)
theorem nat_give.monoL (k : Nat) : (∀ x0 x1 x2 x3 x4, Le (nat_give.l0 k x0 x1 x2 x3 x4) (nat_give.l0 (k + 1) x0 x1 x2 x3 x4)) := by
  induction k with
  | zero => exact fun _ _ _ _ _ => Le.none _
  | succ k ih =>
    intro x0 x1 x2 x3 x4
    refine Le.eqs (nat_give.l0.eq_2 ..) (nat_give.l0.eq_2 ..) ?_
    repeat' (first
      | with_reducible exact Le.refl _
      | with_reducible refine Le.ite ?_ ?_
      | with_reducible exact ih _ _ _ _ _
      | with_reducible refine Le.bind (ih _ _ _ _ _) (fun _ => ?_)
      | with_reducible refine Le.bind (Le.refl _) (fun _ => ?_)
      | split)
theorem nat_give.mono (k : Nat) : ∀ x0 x1, Le (nat_give.f k x0 x1) (nat_give.f (k + 1) x0 x1) := by
  intro x0 x1
  unfold nat_give.f
  repeat' (first
    | with_reducible exact Le.refl _
    | with_reducible refine Le.ite ?_ ?_
    | with_reducible exact (nat_give.monoL k) _ _ _ _ _
    | with_reducible refine Le.bind (Le.refl _) (fun _ => ?_)
    | split)
theorem nat_digit.monoL (k : Nat) : (∀ x0 x1 x2 x3 x4, Le (nat_digit.l0 k x0 x1 x2 x3 x4) (nat_digit.l0 (k + 1) x0 x1 x2 x3 x4)) := by
  induction k with
  | zero => exact fun _ _ _ _ _ => Le.none _
  | succ k ih =>
    intro x0 x1 x2 x3 x4
    refine Le.eqs (nat_digit.l0.eq_2 ..) (nat_digit.l0.eq_2 ..) ?_
    repeat' (first
      | with_reducible exact Le.refl _
      | with_reducible refine Le.ite ?_ ?_
      | with_reducible exact ih _ _ _ _ _
      | with_reducible refine Le.bind (ih _ _ _ _ _) (fun _ => ?_)
      | with_reducible refine Le.bind (nat_take.mono k _ _ _) (fun _ => ?_)
      | with_reducible refine Le.bind (nat_give.mono k _ _) (fun _ => ?_)
      | with_reducible exact nat_take.mono k _ _ _
      | with_reducible exact nat_give.mono k _ _
      | with_reducible refine Le.bind (Le.refl _) (fun _ => ?_)
      | split)
theorem nat_digit.mono (k : Nat) : ∀ x0 x1, Le (nat_digit.f k x0 x1) (nat_digit.f (k + 1) x0 x1) := by
  intro x0 x1
  unfold nat_digit.f
  repeat' (first
    | with_reducible exact Le.refl _
    | with_reducible refine Le.ite ?_ ?_
    | with_reducible exact (nat_digit.monoL k) _ _ _ _ _
    | with_reducible refine Le.bind (Le.refl _) (fun _ => ?_)
    | split)
theorem nat_long.monoL (k : Nat) : (∀ x0 x1 x2 x3 x4 x5, Le (nat_long.l0 k x0 x1 x2 x3 x4 x5) (nat_long.l0 (k + 1) x0 x1 x2 x3 x4 x5)) := by
  induction k with
  | zero => exact fun _ _ _ _ _ _ => Le.none _
  | succ k ih =>
    intro x0 x1 x2 x3 x4 x5
    refine Le.eqs (nat_long.l0.eq_2 ..) (nat_long.l0.eq_2 ..) ?_
    repeat' (first
      | with_reducible exact Le.refl _
      | with_reducible refine Le.ite ?_ ?_
      | with_reducible exact ih _ _ _ _ _ _
      | with_reducible refine Le.bind (ih _ _ _ _ _ _) (fun _ => ?_)
      | with_reducible refine Le.bind (nat_digit.mono k _ _) (fun _ => ?_)
      | with_reducible refine Le.bind (nat_trim.mono k _) (fun _ => ?_)
      | with_reducible refine Le.bind (nat_shr.mono k _ _) (fun _ => ?_)
      | with_reducible exact nat_digit.mono k _ _
      | with_reducible exact nat_trim.mono k _
      | with_reducible exact nat_shr.mono k _ _
      | with_reducible refine Le.bind (Le.refl _) (fun _ => ?_)
      | split)
theorem nat_long.mono (k : Nat) : ∀ x0 x1, Le (nat_long.f k x0 x1) (nat_long.f (k + 1) x0 x1) := by
  intro x0 x1
  unfold nat_long.f
  repeat' (first
    | with_reducible exact Le.refl _
    | with_reducible refine Le.ite ?_ ?_
    | with_reducible exact (nat_long.monoL k) _ _ _ _ _ _
    | with_reducible refine Le.bind (nat_shl.mono k _ _) (fun _ => ?_)
    | with_reducible exact nat_shl.mono k _ _
    | with_reducible refine Le.bind (Le.refl _) (fun _ => ?_)
    | split)
theorem nat_DivMod.mono (k : Nat) : ∀ x0 x1, Le (nat_DivMod.f k x0 x1) (nat_DivMod.f (k + 1) x0 x1) := by
  intro x0 x1
  unfold nat_DivMod.f
  repeat' (first
    | with_reducible exact Le.refl _
    | with_reducible refine Le.ite ?_ ?_
    | with_reducible refine Le.bind (nat_Clean.mono k _) (fun _ => ?_)
    | with_reducible refine Le.bind (nat_order.mono k _ _) (fun _ => ?_)
    | with_reducible refine Le.bind (nat_small.mono k _ _) (fun _ => ?_)
    | with_reducible refine Le.bind (nat_Of.mono k _) (fun _ => ?_)
    | with_reducible refine Le.bind (nat_long.mono k _ _) (fun _ => ?_)
    | with_reducible exact nat_Clean.mono k _
    | with_reducible exact nat_order.mono k _ _
    | with_reducible exact nat_small.mono k _ _
    | with_reducible exact nat_Of.mono k _
    | with_reducible exact nat_long.mono k _ _
    | with_reducible refine Le.bind (Le.refl _) (fun _ => ?_)
    | split)
theorem nat_rest.mono (k : Nat) : ∀ x0 x1, Le (nat_rest.f k x0 x1) (nat_rest.f (k + 1) x0 x1) := by
  intro x0 x1
  unfold nat_rest.f
  repeat' (first
    | with_reducible exact Le.refl _
    | with_reducible refine Le.ite ?_ ?_
    | with_reducible refine Le.bind (nat_DivMod.mono k _ _) (fun _ => ?_)
    | with_reducible exact nat_DivMod.mono k _ _
    | with_reducible refine Le.bind (Le.refl _) (fun _ => ?_)
    | split)
theorem nat_minus.monoL (k : Nat) : (∀ x0 x1 x2 x3 x4 x5, Le (nat_minus.l0 k x0 x1 x2 x3 x4 x5) (nat_minus.l0 (k + 1) x0 x1 x2 x3 x4 x5)) := by
  induction k with
  | zero => exact fun _ _ _ _ _ _ => Le.none _
  | succ k ih =>
    intro x0 x1 x2 x3 x4 x5
    refine Le.eqs (nat_minus.l0.eq_2 ..) (nat_minus.l0.eq_2 ..) ?_
    repeat' (first
      | with_reducible exact Le.refl _
      | with_reducible refine Le.ite ?_ ?_
      | with_reducible exact ih _ _ _ _ _ _
      | with_reducible refine Le.bind (ih _ _ _ _ _ _) (fun _ => ?_)
      | with_reducible refine Le.bind (nat_trim.mono k _) (fun _ => ?_)
      | with_reducible exact nat_trim.mono k _
      | with_reducible refine Le.bind (Le.refl _) (fun _ => ?_)
      | split)
theorem nat_minus.mono (k : Nat) : ∀ x0 x1, Le (nat_minus.f k x0 x1) (nat_minus.f (k + 1) x0 x1) := by
  intro x0 x1
  unfold nat_minus.f
  repeat' (first
    | with_reducible exact Le.refl _
    | with_reducible refine Le.ite ?_ ?_
    | with_reducible exact (nat_minus.monoL k) _ _ _ _ _ _
    | with_reducible refine Le.bind (Le.refl _) (fun _ => ?_)
    | split)
theorem nat_Gcd.monoL (k : Nat) : (∀ x0 x1 x2 x3, Le (nat_Gcd.l0 k x0 x1 x2 x3) (nat_Gcd.l0 (k + 1) x0 x1 x2 x3)) := by
  induction k with
  | zero => exact fun _ _ _ _ => Le.none _
  | succ k ih =>
    intro x0 x1 x2 x3
    refine Le.eqs (nat_Gcd.l0.eq_2 ..) (nat_Gcd.l0.eq_2 ..) ?_
    repeat' (first
      | with_reducible exact Le.refl _
      | with_reducible refine Le.ite ?_ ?_
      | with_reducible exact ih _ _ _ _
      | with_reducible refine Le.bind (ih _ _ _ _) (fun _ => ?_)
      | with_reducible refine Le.bind (nat_order.mono k _ _) (fun _ => ?_)
      | with_reducible refine Le.bind (nat_shl.mono k _ _) (fun _ => ?_)
      | with_reducible refine Le.bind (nat_rest.mono k _ _) (fun _ => ?_)
      | with_reducible refine Le.bind (nat_zeros.mono k _) (fun _ => ?_)
      | with_reducible refine Le.bind (nat_shr.mono k _ _) (fun _ => ?_)
      | with_reducible refine Le.bind (nat_minus.mono k _ _) (fun _ => ?_)
      | with_reducible exact nat_order.mono k _ _
      | with_reducible exact nat_shl.mono k _ _
      | with_reducible exact nat_rest.mono k _ _
      | with_reducible exact nat_zeros.mono k _
      | with_reducible exact nat_shr.mono k _ _
      | with_reducible exact nat_minus.mono k _ _
      | with_reducible refine Le.bind (Le.refl _) (fun _ => ?_)
      | split)
theorem nat_Gcd.mono (k : Nat) : ∀ x0 x1, Le (nat_Gcd.f k x0 x1) (nat_Gcd.f (k + 1) x0 x1) := by
  intro x0 x1
  unfold nat_Gcd.f
  repeat' (first
    | with_reducible exact Le.refl _
    | with_reducible refine Le.ite ?_ ?_
    | with_reducible exact (nat_Gcd.monoL k) _ _ _ _
    | with_reducible refine Le.bind (nat_Clean.mono k _) (fun _ => ?_)
    | with_reducible refine Le.bind (nat_euclid.mono k _ _) (fun _ => ?_)
    | with_reducible refine Le.bind (nat_zeros.mono k _) (fun _ => ?_)
    | with_reducible refine Le.bind (nat_shr.mono k _ _) (fun _ => ?_)
    | with_reducible exact nat_Clean.mono k _
    | with_reducible exact nat_euclid.mono k _ _
    | with_reducible exact nat_zeros.mono k _
    | with_reducible exact nat_shr.mono k _ _
    | with_reducible refine Le.bind (Le.refl _) (fun _ => ?_)
    | split)
theorem ratio_form.mono (k : Nat) : ∀ x0 x1 x2, Le (ratio_form.f k x0 x1 x2) (ratio_form.f (k + 1) x0 x1 x2) := by
  intro x0 x1 x2
  unfold ratio_form.f
  repeat' (first
    | with_reducible exact Le.refl _
    | with_reducible refine Le.ite ?_ ?_
    | with_reducible refine Le.bind (nat_Of.mono k _) (fun _ => ?_)
    | with_reducible refine Le.bind (nat_Gcd.mono k _ _) (fun _ => ?_)
    | with_reducible refine Le.bind (nat_DivMod.mono k _ _) (fun _ => ?_)
    | with_reducible exact nat_Of.mono k _
    | with_reducible exact nat_Gcd.mono k _ _
    | with_reducible exact nat_DivMod.mono k _ _
    | with_reducible refine Le.bind (Le.refl _) (fun _ => ?_)
    | split)
theorem ratio_Zero.mono (k : Nat) : Le (ratio_Zero.f k ) (ratio_Zero.f (k + 1) ) := by
  unfold ratio_Zero.f
  repeat' (first
    | with_reducible exact Le.refl _
    | with_reducible refine Le.ite ?_ ?_
    | with_reducible refine Le.bind (nat_Of.mono k _) (fun _ => ?_)
    | with_reducible exact nat_Of.mono k _
    | with_reducible refine Le.bind (Le.refl _) (fun _ => ?_)
    | split)
theorem ratio_Clean.mono (k : Nat) : ∀ x0 x1 x2, Le (ratio_Clean.f k x0 x1 x2) (ratio_Clean.f (k + 1) x0 x1 x2) := by
  intro x0 x1 x2
  unfold ratio_Clean.f
  repeat' (first
    | with_reducible exact Le.refl _
    | with_reducible refine Le.ite ?_ ?_
    | with_reducible refine Le.bind (nat_Clean.mono k _) (fun _ => ?_)
    | with_reducible refine Le.bind (ratio_Zero.mono k ) (fun _ => ?_)
    | with_reducible refine Le.bind (whole_Clean.mono k _ _) (fun _ => ?_)
    | with_reducible refine Le.bind (ratio_form.mono k _ _ _) (fun _ => ?_)
    | with_reducible exact nat_Clean.mono k _
    | with_reducible exact ratio_Zero.mono k 
    | with_reducible exact whole_Clean.mono k _ _
    | with_reducible exact ratio_form.mono k _ _ _
    | with_reducible refine Le.bind (Le.refl _) (fun _ => ?_)
    | split)
theorem nat_Add.monoL (k : Nat) : (∀ x0 x1 x2 x3 x4 x5, Le (nat_Add.l0 k x0 x1 x2 x3 x4 x5) (nat_Add.l0 (k + 1) x0 x1 x2 x3 x4 x5)) := by
  induction k with
  | zero => exact fun _ _ _ _ _ _ => Le.none _
  | succ k ih =>
    intro x0 x1 x2 x3 x4 x5
    refine Le.eqs (nat_Add.l0.eq_2 ..) (nat_Add.l0.eq_2 ..) ?_
    repeat' (first
      | with_reducible exact Le.refl _
      | with_reducible refine Le.ite ?_ ?_
      | with_reducible exact ih _ _ _ _ _ _
      | with_reducible refine Le.bind (ih _ _ _ _ _ _) (fun _ => ?_)
      | with_reducible refine Le.bind (nat_trim.mono k _) (fun _ => ?_)
      | with_reducible exact nat_trim.mono k _
      | with_reducible refine Le.bind (Le.refl _) (fun _ => ?_)
      | split)
theorem nat_Add.mono (k : Nat) : ∀ x0 x1, Le (nat_Add.f k x0 x1) (nat_Add.f (k + 1) x0 x1) := by
  intro x0 x1
  unfold nat_Add.f
  repeat' (first
    | with_reducible exact Le.refl _
    | with_reducible refine Le.ite ?_ ?_
    | with_reducible exact (nat_Add.monoL k) _ _ _ _ _ _
    | with_reducible refine Le.bind (nat_Clean.mono k _) (fun _ => ?_)
    | with_reducible exact nat_Clean.mono k _
    | with_reducible refine Le.bind (Le.refl _) (fun _ => ?_)
    | split)
theorem ratio_Neg.mono (k : Nat) : ∀ x0 x1 x2, Le (ratio_Neg.f k x0 x1 x2) (ratio_Neg.f (k + 1) x0 x1 x2) := by
  intro x0 x1 x2
  unfold ratio_Neg.f
  repeat' (first
    | with_reducible exact Le.refl _
    | with_reducible refine Le.ite ?_ ?_
    | with_reducible refine Le.bind (ratio_Clean.mono k _ _ _) (fun _ => ?_)
    | with_reducible refine Le.bind (whole_Neg.mono k _ _) (fun _ => ?_)
    | with_reducible exact ratio_Clean.mono k _ _ _
    | with_reducible exact whole_Neg.mono k _ _
    | with_reducible refine Le.bind (Le.refl _) (fun _ => ?_)
    | split)
theorem nat_Mul.monoL (k : Nat) : (∀ x0 x1 x2 x3 x4, Le (nat_Mul.l0 k x0 x1 x2 x3 x4) (nat_Mul.l0 (k + 1) x0 x1 x2 x3 x4)) ∧ (∀ x0 x1 x2 x3 x4 x5 x6 x7 x8 x9 x10, Le (nat_Mul.l1 k x0 x1 x2 x3 x4 x5 x6 x7 x8 x9 x10) (nat_Mul.l1 (k + 1) x0 x1 x2 x3 x4 x5 x6 x7 x8 x9 x10)) := by
  induction k with
  | zero => exact ⟨fun _ _ _ _ _ => Le.none _, fun _ _ _ _ _ _ _ _ _ _ _ => Le.none _⟩
  | succ k ih =>
    refine ⟨?_, ?_⟩
    · intro x0 x1 x2 x3 x4
      refine Le.eqs (nat_Mul.l0.eq_2 ..) (nat_Mul.l0.eq_2 ..) ?_
      repeat' (first
        | with_reducible exact Le.refl _
        | with_reducible refine Le.ite ?_ ?_
        | with_reducible exact ih.2 _ _ _ _ _ _ _ _ _ _ _
        | with_reducible refine Le.bind (ih.2 _ _ _ _ _ _ _ _ _ _ _) (fun _ => ?_)
        | with_reducible refine Le.bind (nat_trim.mono k _) (fun _ => ?_)
        | with_reducible exact nat_trim.mono k _
        | with_reducible refine Le.bind (Le.refl _) (fun _ => ?_)
        | split)
    · intro x0 x1 x2 x3 x4 x5 x6 x7 x8 x9 x10
      refine Le.eqs (nat_Mul.l1.eq_2 ..) (nat_Mul.l1.eq_2 ..) ?_
      repeat' (first
        | with_reducible exact Le.refl _
        | with_reducible refine Le.ite ?_ ?_
        | with_reducible exact ih.1 _ _ _ _ _
        | with_reducible refine Le.bind (ih.1 _ _ _ _ _) (fun _ => ?_)
        | with_reducible exact ih.2 _ _ _ _ _ _ _ _ _ _ _
        | with_reducible refine Le.bind (ih.2 _ _ _ _ _ _ _ _ _ _ _) (fun _ => ?_)
        | with_reducible refine Le.bind (Le.refl _) (fun _ => ?_)
        | split)
theorem nat_Mul.mono (k : Nat) : ∀ x0 x1, Le (nat_Mul.f k x0 x1) (nat_Mul.f (k + 1) x0 x1) := by
  intro x0 x1
  unfold nat_Mul.f
  repeat' (first
    | with_reducible exact Le.refl _
    | with_reducible refine Le.ite ?_ ?_
    | with_reducible exact (nat_Mul.monoL k).1 _ _ _ _ _
    | with_reducible refine Le.bind (nat_Clean.mono k _) (fun _ => ?_)
    | with_reducible exact nat_Clean.mono k _
    | with_reducible refine Le.bind (Le.refl _) (fun _ => ?_)
    | split)
theorem ratio_ten.monoL (k : Nat) : (∀ x0 x1 x2, Le (ratio_ten.l0 k x0 x1 x2) (ratio_ten.l0 (k + 1) x0 x1 x2)) := by
  induction k with
  | zero => exact fun _ _ _ => Le.none _
  | succ k ih =>
    intro x0 x1 x2
    refine Le.eqs (ratio_ten.l0.eq_2 ..) (ratio_ten.l0.eq_2 ..) ?_
    repeat' (first
      | with_reducible exact Le.refl _
      | with_reducible refine Le.ite ?_ ?_
      | with_reducible exact ih _ _ _
      | with_reducible refine Le.bind (ih _ _ _) (fun _ => ?_)
      | with_reducible refine Le.bind (nat_Of.mono k _) (fun _ => ?_)
      | with_reducible refine Le.bind (nat_Mul.mono k _ _) (fun _ => ?_)
      | with_reducible exact nat_Of.mono k _
      | with_reducible exact nat_Mul.mono k _ _
      | with_reducible refine Le.bind (Le.refl _) (fun _ => ?_)
      | split)
theorem ratio_ten.mono (k : Nat) : ∀ x0, Le (ratio_ten.f k x0) (ratio_ten.f (k + 1) x0) := by
  intro x0
  unfold ratio_ten.f
  repeat' (first
    | with_reducible exact Le.refl _
    | with_reducible refine Le.ite ?_ ?_
    | with_reducible exact (ratio_ten.monoL k) _ _ _
    | with_reducible refine Le.bind (nat_Of.mono k _) (fun _ => ?_)
    | with_reducible exact nat_Of.mono k _
    | with_reducible refine Le.bind (Le.refl _) (fun _ => ?_)
    | split)
theorem stringslite_Index.mono (k : Nat) : ∀ x0 x1, Le (stringslite_Index.f k x0 x1) (stringslite_Index.f (k + 1) x0 x1) := by
  intro x0 x1
  unfold stringslite_Index.f
  repeat' (first
    | with_reducible exact Le.refl _
    | with_reducible refine Le.ite ?_ ?_
    | with_reducible refine Le.bind (Le.refl _) (fun _ => ?_)
    | split)
theorem stringslite_Cut.mono (k : Nat) : ∀ x0 x1, Le (stringslite_Cut.f k x0 x1) (stringslite_Cut.f (k + 1) x0 x1) := by
  intro x0 x1
  unfold stringslite_Cut.f
  repeat' (first
    | with_reducible exact Le.refl _
    | with_reducible refine Le.ite ?_ ?_
    | with_reducible refine Le.bind (stringslite_Index.mono k _ _) (fun _ => ?_)
    | with_reducible exact stringslite_Index.mono k _ _
    | with_reducible refine Le.bind (Le.refl _) (fun _ => ?_)
    | split)
theorem strings_Cut.mono (k : Nat) : ∀ x0 x1, Le (strings_Cut.f k x0 x1) (strings_Cut.f (k + 1) x0 x1) := by
  intro x0 x1
  unfold strings_Cut.f
  repeat' (first
    | with_reducible exact Le.refl _
    | with_reducible refine Le.ite ?_ ?_
    | with_reducible refine Le.bind (stringslite_Cut.mono k _ _) (fun _ => ?_)
    | with_reducible exact stringslite_Cut.mono k _ _
    | with_reducible refine Le.bind (Le.refl _) (fun _ => ?_)
    | split)
theorem nat_plus.monoL (k : Nat) : (∀ x0 x1 x2 x3 x4, Le (nat_plus.l0 k x0 x1 x2 x3 x4) (nat_plus.l0 (k + 1) x0 x1 x2 x3 x4)) := by
  induction k with
  | zero => exact fun _ _ _ _ _ => Le.none _
  | succ k ih =>
    intro x0 x1 x2 x3 x4
    refine Le.eqs (nat_plus.l0.eq_2 ..) (nat_plus.l0.eq_2 ..) ?_
    repeat' (first
      | with_reducible exact Le.refl _
      | with_reducible refine Le.ite ?_ ?_
      | with_reducible exact ih _ _ _ _ _
      | with_reducible refine Le.bind (ih _ _ _ _ _) (fun _ => ?_)
      | with_reducible refine Le.bind (nat_trim.mono k _) (fun _ => ?_)
      | with_reducible exact nat_trim.mono k _
      | with_reducible refine Le.bind (Le.refl _) (fun _ => ?_)
      | split)
theorem nat_plus.mono (k : Nat) : ∀ x0 x1, Le (nat_plus.f k x0 x1) (nat_plus.f (k + 1) x0 x1) := by
  intro x0 x1
  unfold nat_plus.f
  repeat' (first
    | with_reducible exact Le.refl _
    | with_reducible refine Le.ite ?_ ?_
    | with_reducible exact (nat_plus.monoL k) _ _ _ _ _
    | with_reducible refine Le.bind (Le.refl _) (fun _ => ?_)
    | split)
theorem nat_Parse.monoL (k : Nat) : (∀ x0 x1 x2, Le (nat_Parse.l0 k x0 x1 x2) (nat_Parse.l0 (k + 1) x0 x1 x2)) ∧ (∀ x0 x1, Le (nat_Parse.l1 k x0 x1) (nat_Parse.l1 (k + 1) x0 x1)) ∧ (∀ x0 x1 x2 x3 x4 x5 x6, Le (nat_Parse.l2 k x0 x1 x2 x3 x4 x5 x6) (nat_Parse.l2 (k + 1) x0 x1 x2 x3 x4 x5 x6)) := by
  induction k with
  | zero => exact ⟨fun _ _ _ => Le.none _, fun _ _ => Le.none _, fun _ _ _ _ _ _ _ => Le.none _⟩
  | succ k ih =>
    refine ⟨?_, ?_, ?_⟩
    · intro x0 x1 x2
      refine Le.eqs (nat_Parse.l0.eq_2 ..) (nat_Parse.l0.eq_2 ..) ?_
      repeat' (first
        | with_reducible exact Le.refl _
        | with_reducible refine Le.ite ?_ ?_
        | with_reducible exact ih.1 _ _ _
        | with_reducible refine Le.bind (ih.1 _ _ _) (fun _ => ?_)
        | with_reducible exact ih.2.1 _ _
        | with_reducible refine Le.bind (ih.2.1 _ _) (fun _ => ?_)
        | with_reducible refine Le.bind (Le.refl _) (fun _ => ?_)
        | split)
    · intro x0 x1
      refine Le.eqs (nat_Parse.l1.eq_2 ..) (nat_Parse.l1.eq_2 ..) ?_
      repeat' (first
        | with_reducible exact Le.refl _
        | with_reducible refine Le.ite ?_ ?_
        | with_reducible exact ih.2.2 _ _ _ _ _ _ _
        | with_reducible refine Le.bind (ih.2.2 _ _ _ _ _ _ _) (fun _ => ?_)
        | with_reducible refine Le.bind (Le.refl _) (fun _ => ?_)
        | split)
    · intro x0 x1 x2 x3 x4 x5 x6
      refine Le.eqs (nat_Parse.l2.eq_2 ..) (nat_Parse.l2.eq_2 ..) ?_
      repeat' (first
        | with_reducible exact Le.refl _
        | with_reducible refine Le.ite ?_ ?_
        | with_reducible exact ih.2.1 _ _
        | with_reducible refine Le.bind (ih.2.1 _ _) (fun _ => ?_)
        | with_reducible exact ih.2.2 _ _ _ _ _ _ _
        | with_reducible refine Le.bind (ih.2.2 _ _ _ _ _ _ _) (fun _ => ?_)
        | with_reducible refine Le.bind (nat_plus.mono k _ _) (fun _ => ?_)
        | with_reducible exact nat_plus.mono k _ _
        | with_reducible refine Le.bind (Le.refl _) (fun _ => ?_)
        | split)
theorem nat_Parse.mono (k : Nat) : ∀ x0, Le (nat_Parse.f k x0) (nat_Parse.f (k + 1) x0) := by
  intro x0
  unfold nat_Parse.f
  repeat' (first
    | with_reducible exact Le.refl _
    | with_reducible refine Le.ite ?_ ?_
    | with_reducible exact (nat_Parse.monoL k).1 _ _ _
    | with_reducible refine Le.bind (Le.refl _) (fun _ => ?_)
    | split)
theorem ratio_plain.mono (k : Nat) : ∀ x0, Le (ratio_plain.f k x0) (ratio_plain.f (k + 1) x0) := by
  intro x0
  unfold ratio_plain.f
  repeat' (first
    | with_reducible exact Le.refl _
    | with_reducible refine Le.ite ?_ ?_
    | with_reducible refine Le.bind (strings_Cut.mono k _ _) (fun _ => ?_)
    | with_reducible refine Le.bind (nat_Parse.mono k _) (fun _ => ?_)
    | with_reducible refine Le.bind (ratio_form.mono k _ _ _) (fun _ => ?_)
    | with_reducible refine Le.bind (ratio_ten.mono k _) (fun _ => ?_)
    | with_reducible refine Le.bind (nat_Mul.mono k _ _) (fun _ => ?_)
    | with_reducible refine Le.bind (nat_Add.mono k _ _) (fun _ => ?_)
    | with_reducible refine Le.bind (nat_Of.mono k _) (fun _ => ?_)
    | with_reducible exact strings_Cut.mono k _ _
    | with_reducible exact nat_Parse.mono k _
    | with_reducible exact ratio_form.mono k _ _ _
    | with_reducible exact ratio_ten.mono k _
    | with_reducible exact nat_Mul.mono k _ _
    | with_reducible exact nat_Add.mono k _ _
    | with_reducible exact nat_Of.mono k _
    | with_reducible refine Le.bind (Le.refl _) (fun _ => ?_)
    | split)
theorem ratio_Parse.mono (k : Nat) : ∀ x0, Le (ratio_Parse.f k x0) (ratio_Parse.f (k + 1) x0) := by
  intro x0
  unfold ratio_Parse.f
  repeat' (first
    | with_reducible exact Le.refl _
    | with_reducible refine Le.ite ?_ ?_
    | with_reducible refine Le.bind (ratio_plain.mono k _) (fun _ => ?_)
    | with_reducible refine Le.bind (ratio_Neg.mono k _ _ _) (fun _ => ?_)
    | with_reducible exact ratio_plain.mono k _
    | with_reducible exact ratio_Neg.mono k _ _ _
    | with_reducible refine Le.bind (Le.refl _) (fun _ => ?_)
    | split)
theorem lex_Words.monoL (k : Nat) : (∀ x0 x1 x2, Le (lex_Words.l0 k x0 x1 x2) (lex_Words.l0 (k + 1) x0 x1 x2)) ∧ (∀ x0 x1 x2 x3, Le (lex_Words.l1 k x0 x1 x2 x3) (lex_Words.l1 (k + 1) x0 x1 x2 x3)) := by
  induction k with
  | zero => exact ⟨fun _ _ _ => Le.none _, fun _ _ _ _ => Le.none _⟩
  | succ k ih =>
    refine ⟨?_, ?_⟩
    · intro x0 x1 x2
      refine Le.eqs (lex_Words.l0.eq_2 ..) (lex_Words.l0.eq_2 ..) ?_
      repeat' (first
        | with_reducible exact Le.refl _
        | with_reducible refine Le.ite ?_ ?_
        | with_reducible exact ih.1 _ _ _
        | with_reducible refine Le.bind (ih.1 _ _ _) (fun _ => ?_)
        | with_reducible exact ih.2 _ _ _ _
        | with_reducible refine Le.bind (ih.2 _ _ _ _) (fun _ => ?_)
        | with_reducible refine Le.bind (Le.refl _) (fun _ => ?_)
        | split)
    · intro x0 x1 x2 x3
      refine Le.eqs (lex_Words.l1.eq_2 ..) (lex_Words.l1.eq_2 ..) ?_
      repeat' (first
        | with_reducible exact Le.refl _
        | with_reducible refine Le.ite ?_ ?_
        | with_reducible exact ih.1 _ _ _
        | with_reducible refine Le.bind (ih.1 _ _ _) (fun _ => ?_)
        | with_reducible exact ih.2 _ _ _ _
        | with_reducible refine Le.bind (ih.2 _ _ _ _) (fun _ => ?_)
        | with_reducible refine Le.bind (Le.refl _) (fun _ => ?_)
        | split)
theorem lex_Words.mono (k : Nat) : ∀ x0, Le (lex_Words.f k x0) (lex_Words.f (k + 1) x0) := by
  intro x0
  unfold lex_Words.f
  repeat' (first
    | with_reducible exact Le.refl _
    | with_reducible refine Le.ite ?_ ?_
    | with_reducible exact (lex_Words.monoL k).1 _ _ _
    | with_reducible refine Le.bind (Le.refl _) (fun _ => ?_)
    | split)
theorem rows_Cell.mono (k : Nat) : ∀ x0, Le (rows_Cell.f k x0) (rows_Cell.f (k + 1) x0) := by
  intro x0
  unfold rows_Cell.f
  repeat' (first
    | with_reducible exact Le.refl _
    | with_reducible refine Le.ite ?_ ?_
    | with_reducible refine Le.bind (ratio_Parse.mono k _) (fun _ => ?_)
    | with_reducible exact ratio_Parse.mono k _
    | with_reducible refine Le.bind (Le.refl _) (fun _ => ?_)
    | split)
theorem rows_Words.monoL (k : Nat) : (∀ x0 x1 x2 x3, Le (rows_Words.l0 k x0 x1 x2 x3) (rows_Words.l0 (k + 1) x0 x1 x2 x3)) := by
  induction k with
  | zero => exact fun _ _ _ _ => Le.none _
  | succ k ih =>
    intro x0 x1 x2 x3
    refine Le.eqs (rows_Words.l0.eq_2 ..) (rows_Words.l0.eq_2 ..) ?_
    repeat' (first
      | with_reducible exact Le.refl _
      | with_reducible refine Le.ite ?_ ?_
      | with_reducible exact ih _ _ _ _
      | with_reducible refine Le.bind (ih _ _ _ _) (fun _ => ?_)
      | with_reducible refine Le.bind (rows_Cell.mono k _) (fun _ => ?_)
      | with_reducible exact rows_Cell.mono k _
      | with_reducible refine Le.bind (Le.refl _) (fun _ => ?_)
      | split)
theorem rows_Words.mono (k : Nat) : ∀ x0, Le (rows_Words.f k x0) (rows_Words.f (k + 1) x0) := by
  intro x0
  unfold rows_Words.f
  repeat' (first
    | with_reducible exact Le.refl _
    | with_reducible refine Le.ite ?_ ?_
    | with_reducible exact (rows_Words.monoL k) _ _ _ _
    | with_reducible refine Le.bind (Le.refl _) (fun _ => ?_)
    | split)
end Go.DI.Th
namespace Go.DI.Th
open Go Go.RowKit Go.DI
theorem ask_number.monoL (k : Nat) : (∀ x0 x1 x2 x3, Le (ask_number.l0 k x0 x1 x2 x3) (ask_number.l0 (k + 1) x0 x1 x2 x3)) := by
  induction k with
  | zero => exact fun _ _ _ _ => Le.none _
  | succ k ih =>
    intro x0 x1 x2 x3
    refine Le.eqs (ask_number.l0.eq_2 ..) (ask_number.l0.eq_2 ..) ?_
    repeat' (first
      | with_reducible exact Le.refl _
      | with_reducible refine Le.ite ?_ ?_
      | with_reducible exact ih _ _ _ _
      | with_reducible refine Le.bind (ih _ _ _ _) (fun _ => ?_)
      | with_reducible refine Le.bind (Le.refl _) (fun _ => ?_)
      | split)
theorem ask_number.mono (k : Nat) : ∀ x0, Le (ask_number.f k x0) (ask_number.f (k + 1) x0) := by
  intro x0
  unfold ask_number.f
  repeat' (first
    | with_reducible exact Le.refl _
    | with_reducible refine Le.ite ?_ ?_
    | with_reducible exact (ask_number.monoL k) _ _ _ _
    | with_reducible refine Le.bind (Le.refl _) (fun _ => ?_)
    | split)
theorem ask_extra.monoL (k : Nat) : (∀ x0 x1 x2 x3, Le (ask_extra.l0 k x0 x1 x2 x3) (ask_extra.l0 (k + 1) x0 x1 x2 x3)) := by
  induction k with
  | zero => exact fun _ _ _ _ => Le.none _
  | succ k ih =>
    intro x0 x1 x2 x3
    refine Le.eqs (ask_extra.l0.eq_2 ..) (ask_extra.l0.eq_2 ..) ?_
    repeat' (first
      | with_reducible exact Le.refl _
      | with_reducible refine Le.ite ?_ ?_
      | with_reducible exact ih _ _ _ _
      | with_reducible refine Le.bind (ih _ _ _ _) (fun _ => ?_)
      | with_reducible refine Le.bind (Le.refl _) (fun _ => ?_)
      | split)
theorem ask_extra.mono (k : Nat) : ∀ x0 x1, Le (ask_extra.f k x0 x1) (ask_extra.f (k + 1) x0 x1) := by
  intro x0 x1
  unfold ask_extra.f
  repeat' (first
    | with_reducible exact Le.refl _
    | with_reducible refine Le.ite ?_ ?_
    | with_reducible exact (ask_extra.monoL k) _ _ _ _
    | with_reducible refine Le.bind (Le.refl _) (fun _ => ?_)
    | split)
theorem ask_rest.monoL (k : Nat) : (∀ x0 x1 x2 x3 x4 x5 x6 x7 x8 x9, Le (ask_rest.l0 k x0 x1 x2 x3 x4 x5 x6 x7 x8 x9) (ask_rest.l0 (k + 1) x0 x1 x2 x3 x4 x5 x6 x7 x8 x9)) := by
  induction k with
  | zero => exact fun _ _ _ _ _ _ _ _ _ _ => Le.none _
  | succ k ih =>
    intro x0 x1 x2 x3 x4 x5 x6 x7 x8 x9
    refine Le.eqs (ask_rest.l0.eq_2 ..) (ask_rest.l0.eq_2 ..) ?_
    repeat' (first
      | with_reducible exact Le.refl _
      | with_reducible refine Le.ite ?_ ?_
      | with_reducible exact ih _ _ _ _ _ _ _ _ _ _
      | with_reducible refine Le.bind (ih _ _ _ _ _ _ _ _ _ _) (fun _ => ?_)
      | with_reducible refine Le.bind (rows_Words.mono k _) (fun _ => ?_)
      | with_reducible exact rows_Words.mono k _
      | with_reducible refine Le.bind (Le.refl _) (fun _ => ?_)
      | split)
theorem ask_rest.mono (k : Nat) : ∀ x0 x1 x2 x3 x4 x5, Le (ask_rest.f k x0 x1 x2 x3 x4 x5) (ask_rest.f (k + 1) x0 x1 x2 x3 x4 x5) := by
  intro x0 x1 x2 x3 x4 x5
  unfold ask_rest.f
  repeat' (first
    | with_reducible exact Le.refl _
    | with_reducible refine Le.ite ?_ ?_
    | with_reducible exact (ask_rest.monoL k) _ _ _ _ _ _ _ _ _ _
    | with_reducible refine Le.bind (ask_number.mono k _) (fun _ => ?_)
    | with_reducible refine Le.bind (rows_Words.mono k _) (fun _ => ?_)
    | with_reducible refine Le.bind (ask_extra.mono k _ _) (fun _ => ?_)
    | with_reducible exact ask_number.mono k _
    | with_reducible exact rows_Words.mono k _
    | with_reducible exact ask_extra.mono k _ _
    | with_reducible refine Le.bind (Le.refl _) (fun _ => ?_)
    | split)
theorem ask_Parse.mono (k : Nat) : ∀ x0, Le (ask_Parse.f k x0) (ask_Parse.f (k + 1) x0) := by
  intro x0
  unfold ask_Parse.f
  repeat' (first
    | with_reducible exact Le.refl _
    | with_reducible refine Le.ite ?_ ?_
    | with_reducible refine Le.bind (lex_Words.mono k _) (fun _ => ?_)
    | with_reducible refine Le.bind (ask_rest.mono k _ _ _ _ _ _) (fun _ => ?_)
    | with_reducible exact lex_Words.mono k _
    | with_reducible exact ask_rest.mono k _ _ _ _ _ _
    | with_reducible refine Le.bind (Le.refl _) (fun _ => ?_)
    | split)
theorem dendronlaw28_awake.mono (k : Nat) : Le (dendronlaw28_awake.f k ) (dendronlaw28_awake.f (k + 1) ) := by
  unfold dendronlaw28_awake.f
  repeat' (first
    | with_reducible exact Le.refl _
    | with_reducible refine Le.ite ?_ ?_
    | with_reducible refine Le.bind (ask_Parse.mono k _) (fun _ => ?_)
    | with_reducible exact ask_Parse.mono k _
    | with_reducible refine Le.bind (Le.refl _) (fun _ => ?_)
    | split)
end Go.DI.Th
namespace Go.DI.Th
open Go Go.RowKit Go.DI
theorem awake28_ev : Ev (fun k => dendronlaw28_awake.f k) true := Ev.mono (K := 400) dendronlaw28_awake.mono (by decide +kernel)
end Go.DI.Th
namespace Go.DI.Th
open Go Go.RowKit Go.DI

end Go.DI.Th
namespace Go.DI.Th
open Go Go.RowKit Go.DI

abbrev Ce := Bool × Rt
def sameC (a b : Ce) : Bool := if a.1 = true ∨ b.1 = true then a.1 == b.1 else decide (rv a.2 = rv b.2)
theorem sameC_refl (a : Ce) : sameC a a = true := by
  unfold sameC
  split
  · exact beq_self_eq_true _
  · exact decide_eq_true rfl
end Go.DI.Th
namespace Go.DI.Th
open Go Go.RowKit Go.DI

abbrev Tk := Int × Int × ByteArray
abbrev tk0 : Tk := (0, 0, ByteArray.empty)
def isBar (t : Tk) : Prop := t.2.2.toList = [124]
instance (t : Tk) : Decidable (isBar t) := by unfold isBar; infer_instance
theorem bar_eq (t : Tk) : t.2.2 = (⟨#[124]⟩ : ByteArray) ↔ isBar t := by
  unfold isBar
  have e : (⟨#[124]⟩ : ByteArray).toList = [124] := by decide +kernel
  constructor
  · intro h; rw [h]; exact e
  · intro h
    rw [ByteArray.toList_eq] at h
    exact toL_inj h
inductive Jn : List (List Tk) → List Tk → Prop
  | one (p : List Tk) : (∀ t ∈ p, ¬ isBar t) → Jn [p] p
  | more (p : List Tk) (t : Tk) (ps : List (List Tk)) (r : List Tk) : (∀ t ∈ p, ¬ isBar t) → isBar t → Jn ps r → Jn (p :: ps) (p ++ t :: r)
end Go.DI.Th
namespace Go.DI.Th
open Go Go.RowKit Go.DI

theorem dsame_evB (a b : Ce) (ha : RtB 30000 a.2) (hb : RtB 30000 b.2) : Ev (fun k => dendronref09_Same.f k a.1 a.2.1 a.2.2.1 a.2.2.2 b.1 b.2.1 b.2.2.1 b.2.2.2) (sameC a b) := by
  obtain ⟨x, hx, ex⟩ := D.FL.from ha (by decide)
  obtain ⟨y, hy, ey⟩ := D.FL.from hb (by decide)
  have ho := hx.order hy (by decide)
  have e1 : a.1 = true ∨ b.1 = true → sameC a b = (a.1 == b.1) := fun h => if_pos h
  have e2 : ¬ (a.1 = true ∨ b.1 = true) → sameC a b = decide (rv a.2 = rv b.2) := fun h => if_neg h
  unfold dendronref09_Same.f
  by_cases h1 : a.1 = true
  · rw [e1 (Or.inl h1)]
    exact Ev.if_pos h1 (Ev.if_pos h1 ((Ev.now _).of_eq (by rw [h1]; cases b.1 <;> rfl)))
  · by_cases h2 : b.1 = true
    · rw [e1 (Or.inr h2)]
      exact Ev.if_neg h1 (Ev.if_pos h2 (Ev.if_neg h1 ((Ev.now _).of_eq (by rw [h2, Bool.eq_false_iff.2 h1]; rfl))))
    · rw [e2 (fun h => h.elim h1 h2)]
      refine Ev.if_neg h1 (Ev.if_neg h2 (Ev.bind ex (Ev.bind ey (Ev.bind ho ((Ev.now _).of_eq ?_)))))
      rw [Bool.eq_iff_iff, beq_iff_eq, decide_eq_true_iff]
      exact cmpQ_zero
def qB : ByteArray := ⟨#[63]⟩
abbrev CRt := Bool × Bool × List Int × List Int × Int
def CR (s : ByteArray) : CRt := if s = qB then (true, false, [], [], 0) else if prE (toL s) = 0 then (false, (cn (prV (toL s))).1, (cn (prV (toL s))).2.1, (cn (prV (toL s))).2.2, 0) else (false, false, [], [], prE (toL s))
theorem cell_ev (s : ByteArray) (hs : s.size ≤ 1000000) : Ev (fun k => rows_Cell.f k s) (CR s) := by
  have hp := rparse_ev s (by omega)
  unfold rows_Cell.f CR
  by_cases h : s = qB
  · rw [if_pos h]
    exact Ev.if_pos h (Ev.now _)
  · rw [if_neg h]
    refine Ev.if_neg h (Ev.bind hp ?_)
    unfold rR
    by_cases he : prE (toL s) = 0
    · rw [if_pos he, if_pos he]
      exact Ev.if_neg (fun e => e rfl) (Ev.now _)
    · rw [if_neg he, if_neg he]
      exact Ev.if_pos he (Ev.now _)
theorem rtb_nil : RtB 30000 ((false, [], []) : Rt) := ⟨fun x hx => (by cases hx), fun x hx => (by cases hx), by decide, by decide⟩
theorem CR_B (s : ByteArray) : RtB 30000 ((CR s).2.1, (CR s).2.2.1, (CR s).2.2.2.1) := by
  unfold CR
  split
  · exact rtb_nil
  · split
    · rename_i h
      exact cnB _ (Nat.le_trans (prV_sz h) (by decide))
    · exact rtb_nil
end Go.DI.Th
namespace Go.DI.Th
open Go Go.RowKit Go.DI

abbrev WRes := List Ce × Int × Int
def WF (acc : List Ce) : List Tk → WRes
  | [] => (acc, 0, 0)
  | t :: r => if (CR t.2.2).2.2.2.2 ≠ 0 then ([], t.1, (CR t.2.2).2.2.2.2) else WF (acc ++ [((CR t.2.2).1, (CR t.2.2).2.1, (CR t.2.2).2.2.1, (CR t.2.2).2.2.2.1)]) r
def TkZ (l : List Tk) : Prop := ∀ t ∈ l, t.2.2.size ≤ 1000000
theorem words9_l0 (l : List Tk) (hz : TkZ l) (hl : l.length ≤ 100000) : ∀ (b a : List Tk) (acc : List Ce), l = a ++ b → acc.length = a.length → Ev (fun k => rows_Words.l0 k acc l (l.length : Int) (a.length : Int)) (WF acc b) := by
  intro b
  induction b with
  | nil =>
    intro a acc h ha
    rw [List.append_nil] at h
    refine Ev.succ ?_
    simp only [rows_Words.l0]
    exact Ev.if_neg (by rw [h]; omega) (Ev.now _)
  | cons t b ih =>
    intro a acc h ha
    have g : gt tk0 l (a.length : Int) = t := by rw [h]; exact gt_at _ a t b
    have hll : l.length = a.length + (b.length + 1) := by rw [h, List.length_append, List.length_cons]
    have hc := cell_ev t.2.2 (hz t (by rw [h]; simp))
    have hih := ih (a ++ [t]) (acc ++ [((CR t.2.2).1, (CR t.2.2).2.1, (CR t.2.2).2.2.1, (CR t.2.2).2.2.2.1)]) (by rw [h]; simp) (by rw [List.length_append, List.length_append, ha]; rfl)
    rw [List.length_append, List.length_singleton] at hih
    refine Ev.succ ?_
    simp only [rows_Words.l0, g, wr_succ a.length (show a.length ≤ 1125899906842624 by omega)]
    refine Ev.if_pos (by omega) (Ev.if_pos (nn0 _) (Ev.if_pos (by omega) (Ev.bind hc ?_)))
    rw [WF]
    by_cases he : (CR t.2.2).2.2.2.2 ≠ 0
    · rw [if_pos he]
      exact Ev.if_pos he (Ev.now _)
    · rw [if_neg he]
      exact Ev.if_neg he (Ev.if_pos (by omega) hih)
theorem words9_ev (l : List Tk) (hz : TkZ l) (hl : l.length ≤ 100000) : Ev (fun k => rows_Words.f k l) (WF [] l) := words9_l0 l hz hl l [] [] rfl rfl
abbrev RRes := List (List Ce) × Int × Int
def RF (acc : List (List Ce)) : List (List Tk) → RRes
  | [] => (acc, 0, 0)
  | p :: ps => if (WF [] p).2.2 ≠ 0 then ([], (WF [] p).2.1, (WF [] p).2.2) else RF (acc ++ [(WF [] p).1]) ps
def CeB' (c : Ce) : Prop := RtB 30000 c.2
theorem WF_B : ∀ (l : List Tk) (acc : List Ce), (∀ c ∈ acc, CeB' c) → ∀ c ∈ (WF acc l).1, CeB' c
  | [], acc, h => h
  | t :: r, acc, h => by
    rw [WF]
    split
    · intro c hc; cases hc
    · refine WF_B r _ fun c hc => ?_
      rcases List.mem_append.1 hc with k | k
      · exact h c k
      · rw [List.mem_singleton.1 k]; exact CR_B t.2.2
theorem WF_len : ∀ (l : List Tk) (acc : List Ce), (WF acc l).1.length ≤ acc.length + l.length
  | [], acc => by rw [WF]; exact Nat.le_refl _
  | t :: r, acc => by
    rw [WF]
    split
    · exact Nat.zero_le _
    · have := WF_len r (acc ++ [((CR t.2.2).1, (CR t.2.2).2.1, (CR t.2.2).2.2.1, (CR t.2.2).2.2.2.1)])
      rw [List.length_append, List.length_singleton] at this
      rw [List.length_cons]
      omega
theorem dequal_self (xs : List Ce) (hx : ∀ c ∈ xs, CeB' c) (hm : xs.length ≤ 1000000) : Ev (fun k => dendronref09_Equal.f k xs xs) true := by
  have loop : ∀ (b a : List Ce), xs = a ++ b → Ev (fun k => dendronref09_Equal.l0 k xs xs (a.length : Int)) true := by
    intro b
    induction b with
    | nil =>
      intro a h1
      rw [List.append_nil] at h1
      refine Ev.succ ?_
      simp only [dendronref09_Equal.l0]
      exact Ev.if_neg (by rw [h1]; omega) (Ev.now _)
    | cons u b ih =>
      intro a h1
      have g1 : gt (false, false, [], []) xs (a.length : Int) = u := by rw [h1]; exact gt_at _ a u b
      have hla : xs.length = a.length + (b.length + 1) := by rw [h1, List.length_append, List.length_cons]
      have hb := hx u (by rw [h1]; simp)
      have hs := dsame_evB u u hb hb
      rw [sameC_refl] at hs
      have hih := ih (a ++ [u]) (by rw [h1]; simp)
      rw [List.length_append, List.length_singleton] at hih
      refine Ev.succ ?_
      simp only [dendronref09_Equal.l0, g1, wr_succ a.length (show a.length ≤ 1125899906842624 by omega)]
      exact Ev.if_pos (by omega) (Ev.if_pos (nn0 _) (Ev.if_pos (by omega) (Ev.bind hs (Ev.if_pos rfl hih))))
  unfold dendronref09_Equal.f
  exact Ev.if_neg (fun e => e rfl) (loop xs [] rfl)
end Go.DI.Th
namespace Go.DI.Th
open Go Go.RowKit Go.DI

def GoodR (Rs : List (List Ce)) : Prop := ∀ r ∈ Rs, (∀ c ∈ r, CeB' c) ∧ r.length ≤ 1000000
theorem GoodR.snoc {Rs : List (List Ce)} (h : GoodR Rs) {cur : List Tk} (hl : cur.length ≤ 100000) : GoodR (Rs ++ [(WF [] cur).1]) := by
  intro r hr
  rcases List.mem_append.1 hr with k | k
  · exact h r k
  · rw [List.mem_singleton.1 k]
    have := WF_len cur []
    exact ⟨WF_B cur [] (fun c hc => by cases hc), by simp only [List.length_nil] at this; omega⟩
theorem split_parts (B : Nat) : ∀ (l cur : List Tk) (out : List (List Tk)), (∀ p ∈ out, TkZ p ∧ p.length ≤ B) → TkZ cur → TkZ l → cur.length + l.length ≤ B → out.length + l.length + 1 ≤ B → (∀ p ∈ splitG out cur l, TkZ p ∧ p.length ≤ B) ∧ (splitG out cur l).length ≤ B
  | [], cur, out, ho, hc, _, h1, h2 => by
    rw [splitG]
    refine ⟨fun p hp => ?_, by rw [List.length_append, List.length_singleton]; simp only [List.length_nil] at h2; omega⟩
    rcases List.mem_append.1 hp with k | k
    · exact ho p k
    · rw [List.mem_singleton.1 k]; exact ⟨hc, by simp only [List.length_nil] at h1; omega⟩
  | t :: r, cur, out, ho, hc, hl, h1, h2 => by
    rw [List.length_cons] at h1 h2
    rw [splitG]
    split
    · refine split_parts B r [] _ (fun p hp => ?_) (fun x hx => by cases hx) (fun x hx => hl x (List.mem_cons_of_mem _ hx)) (by rw [List.length_nil]; omega) (by rw [List.length_append, List.length_singleton]; omega)
      rcases List.mem_append.1 hp with k | k
      · exact ho p k
      · rw [List.mem_singleton.1 k]; exact ⟨hc, by omega⟩
    · refine split_parts B r _ out ho (fun x hx => ?_) (fun x hx => hl x (List.mem_cons_of_mem _ hx)) (by rw [List.length_append, List.length_singleton]; omega) (by omega)
      rcases List.mem_append.1 hx with k | k
      · exact hc x k
      · rw [List.mem_singleton.1 k]; exact hl t List.mem_cons_self
def LW (x : ByteArray) : List W × Int × Int := wordsS [] 0 (toL x)
theorem LW_ok (x : ByteArray) (hx : x.size ≤ 100000) : TkZ (LW x).1 ∧ (LW x).1.length ≤ 4096 := by
  have hs : (toL x).length ≤ 100000 := by rw [← size_toL]; exact hx
  have h1 := wordsS_sz 1000000 _ (toL x) [] 0 (Nat.le_refl _) (by omega) (fun w hw => by cases hw)
  have h2 := wordsS_bd 1000000 _ (toL x) [] 0 (Nat.le_refl _) (fun w hw => by cases hw) (by omega) (Nat.zero_le _)
  exact ⟨h1, h2.2.1⟩
def SP (l : List Tk) : List (List Tk) := if l = [] then [] else splitG [] [] l
theorem SP_ok {l : List Tk} (z : TkZ l) (hl : l.length ≤ 4096) : (∀ p ∈ SP l, TkZ p ∧ p.length ≤ 100000) ∧ (SP l).length ≤ 100000 := by
  unfold SP
  split
  · exact ⟨fun p hp => (by cases hp), Nat.zero_le _⟩
  · exact split_parts 100000 l [] [] (fun p hp => by cases hp) (fun x hx => by cases hx) z (by rw [List.length_nil]; omega) (by rw [List.length_nil]; omega)
end Go.DI.Th
namespace Go.DI.Th
open Go Go.RowKit Go.DI

end Go.DI.Th
namespace Go.DI.Th
open Go Go.RowKit Go.DI

def TX (cs : List UInt8) (ws : List (List UInt8)) : Prop := ∀ (acc : List W) (pos : Nat), acc.length + ws.length ≤ 4096 → ∃ toks : List W, wordsS acc pos cs = (acc ++ toks, 0, 0) ∧ toks.map (fun t => toL t.2.2) = ws
theorem TX.nil : TX [] [] := fun acc pos _ => ⟨[], by rw [wordsS, List.append_nil], rfl⟩
theorem TX.blank {cs : List UInt8} {ws : List (List UInt8)} (h : TX cs ws) : TX (32 :: cs) ws := fun acc pos ha => by
  obtain ⟨t, e1, e2⟩ := h acc (pos + 1) ha
  exact ⟨t, by rw [wordsS, if_pos (by decide)]; exact e1, e2⟩
end Go.DI.Th
namespace Go.DI.Th
open Go Go.RowKit Go.DI

end Go.DI.Th
namespace Go.DI.Th
open Go Go.RowKit Go.DI

end Go.DI.Th
namespace Go.DI.Th
open Go Go.RowKit Go.DI

end Go.DI.Th
namespace Go.DI.Th
open Go Go.RowKit Go.DI

def TkN (l : List W) : Prop := ∀ w ∈ l, w.2.2.size ≠ 0
theorem wordsS_ne : ∀ (n : Nat) (cs : List UInt8) (acc : List W) (pos : Nat), cs.length ≤ n → TkN acc → TkN (wordsS acc pos cs).1 := by
  intro n
  induction n with
  | zero =>
    intro cs acc pos hn ha
    have : cs = [] := List.eq_nil_of_length_eq_zero (by omega)
    subst this
    rw [wordsS]
    exact ha
  | succ n ih =>
    intro cs acc pos hn ha
    have hnil : TkN [] := fun w hw => by cases hw
    cases cs with
    | nil => rw [wordsS]; exact ha
    | cons c r =>
      rw [List.length_cons] at hn
      rw [wordsS]
      split
      · exact ih r acc (pos + 1) (by omega) ha
      · split
        · exact ha
        · split
          · split
            · exact hnil
            · have hsplit := congrArg List.length (List.takeWhile_append_dropWhile (p := inw) (l := r))
              rw [List.length_append] at hsplit
              refine ih (r.dropWhile inw) _ _ (by omega) ?_
              intro w hw
              rcases List.mem_append.1 hw with h | h
              · exact ha w h
              · have : w = ((pos : Int), 0, ofL (c :: r.takeWhile inw)) := by simpa using h
                rw [this]
                show (ofL (c :: r.takeWhile inw)).size ≠ 0
                rw [size_toL, toL_ofL, List.length_cons]
                omega
          · exact hnil
theorem LW_ne (x : ByteArray) : TkN (LW x).1 := wordsS_ne _ (toL x) [] 0 (Nat.le_refl _) (fun w hw => by cases hw)
def DL (n : Int) : List UInt8 → Int × Int
  | [] => if n > 999 then (0, 16) else (n, 0)
  | c :: r => if (c.toNat : Int) < 48 then (0, 4) else if (c.toNat : Int) > 57 then (0, 4) else DL (min (10 * n + ((c.toNat : Int) - 48)) 1000) r
def DG (s : ByteArray) : Int × Int := if s.size = 0 then (0, 4) else if 1 < s.size ∧ bt s 0 = 48 then (0, 4) else DL 0 (toL s)
theorem number_l0 (s : ByteArray) (hs : s.size ≤ 1000000) : ∀ (b a : List UInt8) (n : Int), toL s = a ++ b → 0 ≤ n → n ≤ 1000 → Ev (fun k => ask_number.l0 k n (toBytes s) ((toBytes s).length : Int) (a.length : Int)) (DL n b) := by
  have hlen : (toBytes s).length = s.size := by rw [toBytes_toL, List.length_map, size_toL]
  intro b
  induction b with
  | nil =>
    intro a n h h0 h1
    rw [List.append_nil] at h
    refine Ev.succ ?_
    simp only [ask_number.l0]
    refine Ev.if_neg (by rw [hlen, size_toL, h]; omega) ?_
    rw [DL]
    by_cases hn : n > 999
    · exact (Ev.if_pos hn (Ev.now _)).of_eq (if_pos hn).symm
    · exact (Ev.if_neg hn (Ev.now _)).of_eq (if_neg hn).symm
  | cons c b ih =>
    intro a n h h0 h1
    have g : rd (toBytes s) (a.length : Int) = (c.toNat : Int) := by
      have e : toBytes s = a.map (fun b => (b.toNat : Int)) ++ (c.toNat : Int) :: b.map (fun b => (b.toNat : Int)) := by rw [toBytes_toL, h]; simp
      rw [e]
      have := rd_at (a.map (fun b => (b.toNat : Int))) (c.toNat : Int) (b.map (fun b => (b.toNat : Int)))
      rwa [List.length_map] at this
    have hll : s.size = a.length + (b.length + 1) := by rw [size_toL, h, List.length_append, List.length_cons]
    have hih := fun n => ih (a ++ [c]) n (by rw [h]; simp)
    simp only [List.length_append, List.length_singleton] at hih
    refine Ev.succ ?_
    simp only [ask_number.l0, g, wr_succ a.length (show a.length ≤ 1125899906842624 by omega)]
    refine Ev.if_pos (by omega) (Ev.if_pos (nn0 _) (Ev.if_pos (by omega) ?_))
    rw [DL]
    by_cases c1 : (c.toNat : Int) < 48
    · rw [if_pos c1]; exact Ev.if_pos c1 (Ev.now _)
    rw [if_neg c1]
    refine Ev.if_neg c1 ?_
    by_cases c2 : (c.toNat : Int) > 57
    · rw [if_pos c2]; exact Ev.if_pos c2 (Ev.now _)
    rw [if_neg c2]
    refine Ev.if_neg c2 ?_
    have e1 : IntKind.u8.wrap ((c.toNat : Int) - 48) = (c.toNat : Int) - 48 := by
      show ((c.toNat : Int) - 48) % 256 = _
      omega
    have e2 : mn (wrap64 ((wrap64 (10 * n)) + (wrap64 ((IntKind.u8.wrap ((c.toNat : Int) - 48)))))) 1000 = min (10 * n + ((c.toNat : Int) - 48)) 1000 := by
      rw [e1, wrap_id (i := 10 * n) (by omega) (by omega), wrap_id (i := (c.toNat : Int) - 48) (by omega) (by omega), wrap_id (by omega) (by omega)]
      show (if (1000 : Int) < _ then _ else _) = _
      split <;> omega
    rw [e2]
    exact hih _ (by omega) (by omega)
theorem empty_iff (s : ByteArray) : s = ByteArray.empty ↔ s.size = 0 := by
  constructor
  · intro h; rw [h]; rfl
  · intro h
    apply toL_inj
    rw [show toL s = [] from List.eq_nil_of_length_eq_zero (by rw [← size_toL]; exact h)]
    rfl
theorem anumber_ev (s : ByteArray) (hs : s.size ≤ 1000000) : Ev (fun k => ask_number.f k s) (DG s) := by
  have hl := number_l0 s hs (toL s) [] 0 rfl (by omega) (by omega)
  unfold ask_number.f DG
  have hlim : s.size ≤ lim := Nat.le_trans hs (by decide)
  by_cases h0 : s.size = 0
  · rw [if_pos h0]; exact Ev.if_pos ((empty_iff s).2 h0) (Ev.now _)
  rw [if_neg h0]
  refine Ev.if_neg (fun e => h0 ((empty_iff s).1 e)) ?_
  by_cases h1 : (s.size : Int) > 1
  · refine Ev.if_pos h1 (Ev.if_pos (by omega) ?_)
    by_cases h2 : bt s 0 = 48
    · rw [if_pos ⟨by omega, h2⟩]; exact Ev.if_pos h2 (Ev.now _)
    · rw [if_neg fun e => h2 e.2]; exact Ev.if_neg h2 (Ev.if_pos hlim hl)
  · rw [if_neg fun e => h1 (by omega)]
    exact Ev.if_neg h1 (Ev.if_pos hlim hl)
theorem digits_l0 (s : ByteArray) (hs : s.size ≤ 1000000) (hz : ¬ (1 < s.size ∧ bt s 0 = 48)) : ∀ (b a : List UInt8) (n : Int), toL s = a ++ b → 0 ≤ n → n ≤ 1000 → Ev (fun k => dendronlaw28_digits.l0 k s n (a.length : Int)) (DL n b) := by
  intro b
  induction b with
  | nil =>
    intro a n h h0 h1
    rw [List.append_nil] at h
    refine Ev.succ ?_
    simp only [dendronlaw28_digits.l0]
    refine Ev.if_neg (by rw [size_toL, h]; omega) ?_
    rw [DL]
    by_cases hn : n > 999
    · exact (Ev.if_pos hn (Ev.now _)).of_eq (if_pos hn).symm
    · exact (Ev.if_neg hn (Ev.now _)).of_eq (if_neg hn).symm
  | cons c b ih =>
    intro a n h h0 h1
    have g : bt s (a.length : Int) = (c.toNat : Int) := bt_at h
    have hll : s.size = a.length + (b.length + 1) := by rw [size_toL, h, List.length_append, List.length_cons]
    have hih := fun n => ih (a ++ [c]) n (by rw [h]; simp)
    simp only [List.length_append, List.length_singleton] at hih
    refine Ev.succ ?_
    simp only [dendronlaw28_digits.l0, g, wr_succ a.length (show a.length ≤ 1125899906842624 by omega)]
    refine Ev.if_pos (by omega) (Ev.if_pos (nn0 _) ?_)
    rw [DL]
    by_cases c1 : (c.toNat : Int) < 48
    · rw [if_pos c1]; exact Ev.if_pos c1 (Ev.now _)
    rw [if_neg c1]
    refine Ev.if_neg c1 ?_
    by_cases c2 : (c.toNat : Int) > 57
    · rw [if_pos c2]; exact Ev.if_pos c2 (Ev.now _)
    rw [if_neg c2]
    refine Ev.if_neg c2 ?_
    have e2 : wrap64 ((wrap64 ((wrap64 (10 * n)) + (wrap64 (c.toNat : Int)))) - 48) = 10 * n + ((c.toNat : Int) - 48) := by
      rw [wrap_id (i := 10 * n) (by omega) (by omega), wrap_id (i := (c.toNat : Int)) (by omega) (by omega), wrap_id (i := 10 * n + (c.toNat : Int)) (by omega) (by omega), wrap_id (by omega) (by omega)]
      omega
    rw [e2]
    have fin : Ev (fun k => if 10 * n + ((c.toNat : Int) - 48) > 1000 then dendronlaw28_digits.l0 k s 1000 ((a.length + 1 : Nat) : Int) else dendronlaw28_digits.l0 k s (10 * n + ((c.toNat : Int) - 48)) ((a.length + 1 : Nat) : Int)) (DL (min (10 * n + ((c.toNat : Int) - 48)) 1000) b) := by
      by_cases hb : 10 * n + ((c.toNat : Int) - 48) > 1000
      · rw [show min (10 * n + ((c.toNat : Int) - 48)) 1000 = 1000 by omega]
        exact Ev.if_pos hb (hih _ (by omega) (by omega))
      · rw [show min (10 * n + ((c.toNat : Int) - 48)) 1000 = 10 * n + ((c.toNat : Int) - 48) by omega]
        exact Ev.if_neg hb (hih _ (by omega) (by omega))
    by_cases h1 : (s.size : Int) > 1
    · exact Ev.if_pos h1 (Ev.if_pos (by omega) (Ev.if_neg (fun e => hz ⟨by omega, e⟩) fin))
    · exact Ev.if_neg h1 fin
theorem digits_ev (s : ByteArray) (hs : s.size ≤ 1000000) (hne : s.size ≠ 0) : Ev (fun k => dendronlaw28_digits.f k s) (DG s) := by
  unfold dendronlaw28_digits.f DG
  rw [if_neg hne]
  by_cases hz : 1 < s.size ∧ bt s 0 = 48
  · rw [if_pos hz]
    refine Ev.succ ?_
    simp only [dendronlaw28_digits.l0]
    refine Ev.if_pos (by omega) (Ev.if_pos (by decide) ?_)
    rw [hz.2]
    exact Ev.if_neg (by decide) (Ev.if_neg (by decide) (Ev.if_pos (by omega) (Ev.if_pos (by omega) (Ev.if_pos rfl (Ev.now _)))))
  · rw [if_neg hz]
    exact digits_l0 s hs hz (toL s) [] 0 rfl (by omega) (by omega)
def EX (b : Bool) : List Tk → Int
  | [] => 0
  | t :: r => if b = true then (if isBar t then t.1 else EX b r) else t.1
theorem extra_l0 (x : Bool) (l : List Tk) (hl : l.length ≤ 100000) : ∀ (b a : List Tk), l = a ++ b → Ev (fun k => ask_extra.l0 k x l (l.length : Int) (a.length : Int)) (EX x b) := by
  intro b
  induction b with
  | nil =>
    intro a h
    rw [List.append_nil] at h
    refine Ev.succ ?_
    simp only [ask_extra.l0]
    exact Ev.if_neg (by rw [h]; omega) (Ev.now _)
  | cons t b ih =>
    intro a h
    have g : gt tk0 l (a.length : Int) = t := by rw [h]; exact gt_at _ a t b
    have hll : l.length = a.length + (b.length + 1) := by rw [h, List.length_append, List.length_cons]
    have hih := ih (a ++ [t]) (by rw [h]; simp)
    rw [List.length_append, List.length_singleton] at hih
    refine Ev.succ ?_
    simp only [ask_extra.l0, g, wr_succ a.length (show a.length ≤ 1125899906842624 by omega)]
    refine Ev.if_pos (by omega) (Ev.if_pos (nn0 _) (Ev.if_pos (by omega) ?_))
    rw [EX]
    by_cases hx : x = true
    · rw [if_pos hx]
      refine Ev.if_pos hx ?_
      by_cases hb : isBar t
      · rw [if_pos hb]; exact Ev.if_pos ((bar_eq t).2 hb) (Ev.now _)
      · rw [if_neg hb]; exact Ev.if_neg (fun e => hb ((bar_eq t).1 e)) hih
    · rw [if_neg hx]; exact Ev.if_neg hx (Ev.now _)
theorem extra_ev (x : Bool) (l : List Tk) (hl : l.length ≤ 100000) : Ev (fun k => ask_extra.f k l x) (EX x l) := extra_l0 x l hl l [] rfl
theorem cut_l0 (l : List Tk) (hl : l.length ≤ 100000) (hne : l ≠ []) : ∀ (b a : List Tk) (out : List (List Tk)) (part : List Tk), l = a ++ b → out.length ≤ a.length → part.length ≤ a.length → Ev (fun k => dendronlaw28_cut.l0 k l out part (a.length : Int)) (splitG out part b) := by
  have hp := List.length_pos_iff.2 hne
  intro b
  induction b with
  | nil =>
    intro a out part h h1 h2
    rw [List.append_nil] at h
    refine Ev.succ ?_
    simp only [dendronlaw28_cut.l0]
    refine Ev.if_neg (by rw [h]; omega) (Ev.if_pos (by omega) (Ev.if_pos (by rw [h] at hl; omega) ?_))
    rw [splitG]
    exact Ev.now _
  | cons t b ih =>
    intro a out part h h1 h2
    have g : gt tk0 l (a.length : Int) = t := by rw [h]; exact gt_at _ a t b
    have hll : l.length = a.length + (b.length + 1) := by rw [h, List.length_append, List.length_cons]
    have hih := fun out part => ih (a ++ [t]) out part (by rw [h]; simp)
    simp only [List.length_append, List.length_singleton] at hih
    refine Ev.succ ?_
    simp only [dendronlaw28_cut.l0, g, wr_succ a.length (show a.length ≤ 1125899906842624 by omega)]
    refine Ev.if_pos (by omega) (Ev.if_pos (nn0 _) ?_)
    rw [splitG]
    by_cases hb : isBar t
    · rw [if_pos (show t.2.2.toList = [124] from hb)]
      exact Ev.if_pos ((bar_eq t).2 hb) (Ev.if_pos (by omega) (hih _ _ (by rw [List.length_append, List.length_singleton]; omega) (Nat.zero_le _)))
    · rw [if_neg (show ¬ t.2.2.toList = [124] from hb)]
      exact Ev.if_neg (fun e => hb ((bar_eq t).1 e)) (Ev.if_pos (by omega) (hih _ _ (by omega) (by rw [List.length_append, List.length_singleton]; omega)))
theorem acut_ev (l : List Tk) (hl : l.length ≤ 100000) : Ev (fun k => dendronlaw28_cut.f k l) (SP l) := by
  unfold dendronlaw28_cut.f SP
  by_cases h : l = []
  · rw [if_pos h, h]
    refine Ev.succ ?_
    simp only [dendronlaw28_cut.l0]
    exact Ev.if_neg (by decide) (Ev.if_neg (by decide) (Ev.now _))
  · rw [if_neg h]
    exact cut_l0 l hl h l [] [] [] rfl (Nat.le_refl _) (Nat.le_refl _)
end Go.DI.Th
namespace Go.DI.Th
open Go Go.RowKit Go.DI

abbrev AR := Int × Int × List Ce × List (List Ce) × List Ce × Int × Int
def AErr (a e : Int) : AR := (0, 0, [], [], [], a, e)
def FN (R : RRes) (kd ft : Int) (rw gr : List Ce) : AR := if R.2.2 ≠ 0 then AErr R.2.1 R.2.2 else (kd, ft, rw, R.1, gr, 0, 0)
def TL (ma x : Bool) (l : List Tk) (ps : List (List Tk)) (kd ft : Int) (rw gr : List Ce) : AR := if ma = false ∧ ps ≠ [] then AErr (EX x l) 10 else FN (RF [] ps) kd ft rw gr
def ART (kd ft : Int) (ro gr ma : Bool) (l : List Tk) : AR :=
  if ro = true ∨ gr = true then
    (if (WF [] ((SP l).headD [])).2.2 ≠ 0 then AErr (WF [] ((SP l).headD [])).2.1 (WF [] ((SP l).headD [])).2.2 else
      TL ma true l (SP l).tail kd ft (if ro = true then (WF [] ((SP l).headD [])).1 else []) (if ro = true then [] else (WF [] ((SP l).headD [])).1))
  else TL ma false l (SP l) kd ft [] []
theorem FN_cons {acc : List (List Ce)} {p : List Tk} {ps : List (List Tk)} (h : (WF [] p).2.2 ≠ 0) (kd ft : Int) (rw gr : List Ce) : FN (RF acc (p :: ps)) kd ft rw gr = AErr (WF [] p).2.1 (WF [] p).2.2 := by
  rw [RF, if_pos h, FN, if_pos h]
theorem rest_l0 (Ps : List (List Tk)) (hz : ∀ p ∈ Ps, TkZ p ∧ p.length ≤ 100000) (hl : Ps.length ≤ 100000) (kd ft : Int) (rw gr : List Ce) (u v : Int) : ∀ (b a : List (List Tk)) (acc : List (List Ce)), Ps = a ++ b → acc.length = a.length → Ev (fun k => ask_rest.l0 k Ps (Ps.length : Int) (a.length : Int) kd ft rw acc gr u v) (FN (RF acc b) kd ft rw gr) := by
  intro b
  induction b with
  | nil =>
    intro a acc h ha
    rw [List.append_nil] at h
    refine Ev.succ ?_
    simp only [ask_rest.l0]
    exact Ev.if_neg (by rw [h]; omega) (Ev.now _)
  | cons p b ih =>
    intro a acc h ha
    have g : gt [] Ps (a.length : Int) = p := by rw [h]; exact gt_at _ a p b
    have hll : Ps.length = a.length + (b.length + 1) := by rw [h, List.length_append, List.length_cons]
    obtain ⟨z1, z2⟩ := hz p (by rw [h]; simp)
    have hc := words9_ev p z1 z2
    have hih := ih (a ++ [p]) (acc ++ [(WF [] p).1]) (by rw [h]; simp) (by rw [List.length_append, List.length_append, ha]; rfl)
    rw [List.length_append, List.length_singleton] at hih
    refine Ev.succ ?_
    simp only [ask_rest.l0, g, wr_succ a.length (show a.length ≤ 1125899906842624 by omega)]
    refine Ev.if_pos (by omega) (Ev.if_pos (nn0 _) (Ev.if_pos (by omega) (Ev.bind hc ?_)))
    by_cases he : (WF [] p).2.2 ≠ 0
    · rw [FN_cons he]
      exact Ev.if_pos he (Ev.now _)
    · rw [RF, if_neg he]
      exact Ev.if_neg he (Ev.if_pos (by omega) hih)
theorem aparse_l1 (Ps : List (List Tk)) (hz : ∀ p ∈ Ps, TkZ p ∧ p.length ≤ 100000) (hl : Ps.length ≤ 100000) (kd ft : Int) (rw gr : List Ce) (u v : Int) : ∀ (b a : List (List Tk)) (acc : List (List Ce)), Ps = a ++ b → acc.length ≤ a.length → Ev (fun k => dendronlaw28_parse.l1 k Ps (a.length : Int) u v kd ft rw acc gr) (FN (RF acc b) kd ft rw gr) := by
  intro b
  induction b with
  | nil =>
    intro a acc h ha
    rw [List.append_nil] at h
    refine Ev.succ ?_
    simp only [dendronlaw28_parse.l1]
    exact Ev.if_neg (by rw [h]; omega) (Ev.now _)
  | cons p b ih =>
    intro a acc h ha
    have g : gt [] Ps (a.length : Int) = p := by rw [h]; exact gt_at _ a p b
    have hll : Ps.length = a.length + (b.length + 1) := by rw [h, List.length_append, List.length_cons]
    obtain ⟨z1, z2⟩ := hz p (by rw [h]; simp)
    have hc := words9_ev p z1 z2
    have hih := ih (a ++ [p]) (acc ++ [(WF [] p).1]) (by rw [h]; simp) (by rw [List.length_append, List.length_append]; simp only [List.length_singleton]; omega)
    rw [List.length_append, List.length_singleton] at hih
    refine Ev.succ ?_
    simp only [dendronlaw28_parse.l1, g, wr_succ a.length (show a.length ≤ 1125899906842624 by omega)]
    refine Ev.if_pos (by omega) (Ev.if_pos (nn0 _) (Ev.bind hc ?_))
    by_cases he : (WF [] p).2.2 ≠ 0
    · rw [FN_cons he]
      exact Ev.if_pos he (Ev.now _)
    · rw [RF, if_neg he]
      exact Ev.if_neg he (Ev.if_pos (by omega) hih)
theorem aparse_l0 (l : List Tk) (hl : l.length ≤ 100000) (Ps : List (List Tk)) (u v kd ft : Int) (rw gr : List Ce) : ∀ (b a : List Tk), l = a ++ b → (∃ t ∈ b, isBar t) → Ev (fun k => dendronlaw28_parse.l0 k l Ps 1 (a.length : Int) u v kd ft rw gr) (AErr (EX true b) 10) := by
  intro b
  induction b with
  | nil => intro a _ h; obtain ⟨t, ht, _⟩ := h; cases ht
  | cons t b ih =>
    intro a h hb
    have g : gt tk0 l (a.length : Int) = t := by rw [h]; exact gt_at _ a t b
    have hll : l.length = a.length + (b.length + 1) := by rw [h, List.length_append, List.length_cons]
    refine Ev.succ ?_
    simp only [dendronlaw28_parse.l0, g, wr_succ a.length (show a.length ≤ 1125899906842624 by omega)]
    refine Ev.if_pos (by omega) (Ev.if_neg (by decide) (Ev.if_pos (nn0 _) ?_))
    rw [EX, if_pos rfl]
    by_cases ht : isBar t
    · rw [if_pos ht]
      exact Ev.if_pos ((bar_eq t).2 ht) (Ev.now _)
    · rw [if_neg ht]
      have hih := ih (a ++ [t]) (by rw [h]; simp) (by
        obtain ⟨y, hy, hy2⟩ := hb
        rcases List.mem_cons.1 hy with rfl | k
        · exact absurd hy2 ht
        · exact ⟨y, k, hy2⟩)
      rw [List.length_append, List.length_singleton] at hih
      exact Ev.if_neg (fun e => ht ((bar_eq t).1 e)) hih
theorem aparse_l0z (l : List Tk) (hne : l ≠ []) (Ps : List (List Tk)) (u v kd ft : Int) (rw gr : List Ce) : Ev (fun k => dendronlaw28_parse.l0 k l Ps 0 0 u v kd ft rw gr) (AErr (EX false l) 10) := by
  have := List.length_pos_iff.2 hne
  obtain ⟨t, b, rfl⟩ := List.exists_cons_of_ne_nil hne
  refine Ev.succ ?_
  simp only [dendronlaw28_parse.l0]
  exact Ev.if_pos (by omega) (Ev.if_pos trivial (Ev.if_pos (by decide) (Ev.now _)))
theorem nobar_split : ∀ (l cur : List Tk), (∀ t ∈ l, ¬ isBar t) → splitG [] cur l = [cur ++ l]
  | [], cur, _ => by rw [splitG, List.append_nil]; rfl
  | t :: r, cur, h => by
    rw [splitG, if_neg (show ¬ t.2.2.toList = [124] from h t List.mem_cons_self), nobar_split r _ fun x hx => h x (List.mem_cons_of_mem _ hx), List.append_assoc]
    rfl
theorem SP_bar {l : List Tk} (h : (SP l).tail ≠ []) : ∃ t ∈ l, isBar t := by
  by_cases hb : ∃ t ∈ l, isBar t
  · exact hb
  · exfalso
    have hb' : ∀ t ∈ l, ¬ isBar t := fun t ht e => hb ⟨t, ht, e⟩
    apply h
    unfold SP
    split
    · rfl
    · rw [nobar_split l [] hb']; rfl
theorem SP_split {l : List Tk} (hl : l.length ≤ 1000000) : Ev (fun _ => rows_Split.f l) (SP l) := by
  refine Ev.congr (fun _ => ?_) (Ev.now _)
  unfold rows_Split.f SP
  rw [if_pos (by omega)]
  split <;> rfl
theorem rest_tail (l : List Tk) (hl : l.length ≤ 100000) (Ps : List (List Tk)) (hz : ∀ p ∈ Ps, TkZ p ∧ p.length ≤ 100000) (hP : Ps.length ≤ 100000) (v6 kd ft : Int) (ma x : Bool) (h8 : Go.bits .and .i64 v6 8 = 0 ↔ ma = false) (h6 : (Go.bits .and .i64 v6 6 != 0) = x) (rw gr : List Ce) :
    Ev (fun k => if Go.bits .and .i64 v6 8 = 0 then (if (Ps.length : Int) > 0 then ((ask_extra.f k l (Go.bits .and .i64 v6 6 != 0)).bind fun v => (some (AErr v 10))) else (ask_rest.l0 k Ps (Ps.length : Int) 0 kd ft rw ([] : List (List Ce)) gr 0 0)) else (ask_rest.l0 k Ps (Ps.length : Int) 0 kd ft rw ([] : List (List Ce)) gr 0 0)) (TL ma x l Ps kd ft rw gr) := by
  have hr := rest_l0 Ps hz hP kd ft rw gr 0 0 Ps [] [] rfl rfl
  unfold TL
  rw [h6]
  by_cases hm : ma = false
  · refine Ev.if_pos (h8.2 hm) ?_
    by_cases hp : Ps = []
    · refine Ev.if_neg (by rw [hp]; decide) (hr.of_eq ?_)
      rw [if_neg fun e => e.2 hp]
    · have := List.length_pos_iff.2 hp
      refine Ev.if_pos (by omega) (Ev.bind (extra_ev x l hl) ((Ev.now _).of_eq ?_))
      rw [if_pos ⟨hm, hp⟩]
  · refine Ev.if_neg (fun e => hm (h8.1 e)) (hr.of_eq ?_)
    rw [if_neg fun e => hm e.1]
theorem rest_split (l : List Tk) (z : TkZ l) (hl : l.length ≤ 4096) (v6 kd ft : Int) (ro gr ma : Bool) (h2 : Go.bits .and .i64 v6 2 ≠ 0 ↔ ro = true) (h6 : Go.bits .and .i64 v6 6 ≠ 0 ↔ (ro = true ∨ gr = true)) (h8 : Go.bits .and .i64 v6 8 = 0 ↔ ma = false) :
    Ev (fun k => ((rows_Split.f l).bind fun v12 => (if (Go.bits .and .i64 v6 6) ≠ 0 then (if (v12.length : Int) > 0 then (if 1 ≤ (v12.length : Int) then ((rows_Words.f k (gt [] v12 0)).bind fun v29 => (if v29.2.2 ≠ 0 then (some (0, 0, ([] : List Ce), ([] : List (List Ce)), ([] : List Ce), v29.2.1, v29.2.2)) else (if (Go.bits .and .i64 v6 2) ≠ 0 then (if (Go.bits .and .i64 v6 8) = 0 then (if ((v12.drop 1).length : Int) > 0 then ((ask_extra.f k l ((Go.bits .and .i64 v6 6) != 0)).bind fun v58 => (some (0, 0, ([] : List Ce), ([] : List (List Ce)), ([] : List Ce), v58, 10))) else (ask_rest.l0 k (v12.drop 1) ((v12.drop 1).length : Int) 0 kd ft v29.1 ([] : List (List Ce)) ([] : List Ce) 0 0)) else (ask_rest.l0 k (v12.drop 1) ((v12.drop 1).length : Int) 0 kd ft v29.1 ([] : List (List Ce)) ([] : List Ce) 0 0)) else (if (Go.bits .and .i64 v6 8) = 0 then (if ((v12.drop 1).length : Int) > 0 then ((ask_extra.f k l ((Go.bits .and .i64 v6 6) != 0)).bind fun v58 => (some (0, 0, ([] : List Ce), ([] : List (List Ce)), ([] : List Ce), v58, 10))) else (ask_rest.l0 k (v12.drop 1) ((v12.drop 1).length : Int) 0 kd ft ([] : List Ce) ([] : List (List Ce)) v29.1 0 0)) else (ask_rest.l0 k (v12.drop 1) ((v12.drop 1).length : Int) 0 kd ft ([] : List Ce) ([] : List (List Ce)) v29.1 0 0))))) else none) else ((rows_Words.f k ([] : List Tk)).bind fun v22 => (if v22.2.2 ≠ 0 then (some (0, 0, ([] : List Ce), ([] : List (List Ce)), ([] : List Ce), v22.2.1, v22.2.2)) else (if (Go.bits .and .i64 v6 2) ≠ 0 then (if (Go.bits .and .i64 v6 8) = 0 then (if (v12.length : Int) > 0 then ((ask_extra.f k l ((Go.bits .and .i64 v6 6) != 0)).bind fun v51 => (some (0, 0, ([] : List Ce), ([] : List (List Ce)), ([] : List Ce), v51, 10))) else (ask_rest.l0 k v12 (v12.length : Int) 0 kd ft v22.1 ([] : List (List Ce)) ([] : List Ce) 0 0)) else (ask_rest.l0 k v12 (v12.length : Int) 0 kd ft v22.1 ([] : List (List Ce)) ([] : List Ce) 0 0)) else (if (Go.bits .and .i64 v6 8) = 0 then (if (v12.length : Int) > 0 then ((ask_extra.f k l ((Go.bits .and .i64 v6 6) != 0)).bind fun v51 => (some (0, 0, ([] : List Ce), ([] : List (List Ce)), ([] : List Ce), v51, 10))) else (ask_rest.l0 k v12 (v12.length : Int) 0 kd ft ([] : List Ce) ([] : List (List Ce)) v22.1 0 0)) else (ask_rest.l0 k v12 (v12.length : Int) 0 kd ft ([] : List Ce) ([] : List (List Ce)) v22.1 0 0)))))) else (if (Go.bits .and .i64 v6 8) = 0 then (if (v12.length : Int) > 0 then ((ask_extra.f k l ((Go.bits .and .i64 v6 6) != 0)).bind fun v30 => (some (0, 0, ([] : List Ce), ([] : List (List Ce)), ([] : List Ce), v30, 10))) else (ask_rest.l0 k v12 (v12.length : Int) 0 kd ft ([] : List Ce) ([] : List (List Ce)) ([] : List Ce) 0 0)) else (ask_rest.l0 k v12 (v12.length : Int) 0 kd ft ([] : List Ce) ([] : List (List Ce)) ([] : List Ce) 0 0))))) (ART kd ft ro gr ma l) := by
  obtain ⟨s1, s2⟩ := SP_ok z hl
  refine Ev.bind (SP_split (by omega)) ?_
  unfold ART
  have hx : ∀ x : Bool, (Go.bits .and .i64 v6 6 ≠ 0 ↔ x = true) → (Go.bits .and .i64 v6 6 != 0) = x := fun x hx => by
    rw [Bool.eq_iff_iff, bne_iff_ne]; exact hx
  by_cases hrg : ro = true ∨ gr = true
  · rw [if_pos hrg]
    have hb := hx true (h6.trans ⟨fun _ => rfl, fun _ => hrg⟩)
    refine Ev.if_pos (h6.2 hrg) ?_
    by_cases hp : SP l = []
    · rw [hp]
      have hw : Ev (fun k => rows_Words.f k ([] : List Tk)) (WF [] []) := words9_ev [] (fun x hx => by cases hx) (Nat.zero_le _)
      have hT := fun rw gr => rest_tail l (by omega) [] (fun p hp => by cases hp) (Nat.zero_le _) v6 kd ft ma true h8 hb rw gr
      refine Ev.if_neg (by decide) (Ev.bind hw ?_)
      rw [if_neg (show ¬ (WF [] (List.headD [] ([] : List Tk))).2.2 ≠ 0 from fun e => e rfl)]
      refine Ev.if_neg (fun e => e rfl) ?_
      by_cases hro : ro = true
      · rw [if_pos hro, if_pos hro]; exact Ev.if_pos (h2.2 hro) (hT _ _)
      · rw [if_neg hro, if_neg hro]; exact Ev.if_neg (fun e => hro (h2.1 e)) (hT _ _)
    · obtain ⟨p, ps, hps⟩ := List.exists_cons_of_ne_nil hp
      rw [hps] at s1 s2 ⊢
      obtain ⟨z1, z2⟩ := s1 p List.mem_cons_self
      have hw := words9_ev p z1 z2
      have hT := fun rw gr => rest_tail l (by omega) ps (fun q hq => s1 q (List.mem_cons_of_mem _ hq)) (by rw [List.length_cons] at s2; omega) v6 kd ft ma true h8 hb rw gr
      refine Ev.if_pos (by rw [List.length_cons]; omega) (Ev.if_pos (by rw [List.length_cons]; omega) (Ev.bind (show Ev _ (WF [] p) from hw) ?_))
      show Ev _ (if (WF [] p).2.2 ≠ 0 then AErr (WF [] p).2.1 (WF [] p).2.2 else TL ma true l ps kd ft (if ro = true then (WF [] p).1 else []) (if ro = true then [] else (WF [] p).1))
      by_cases he : (WF [] p).2.2 ≠ 0
      · exact (Ev.if_pos he (Ev.now _)).of_eq (if_pos he).symm
      · rw [if_neg (c := (WF [] p).2.2 ≠ 0) he]
        refine Ev.if_neg he ?_
        by_cases hro : ro = true
        · rw [if_pos (c := ro = true) hro, if_pos (c := ro = true) hro]; exact Ev.if_pos (h2.2 hro) (hT _ _)
        · rw [if_neg (c := ro = true) hro, if_neg (c := ro = true) hro]; exact Ev.if_neg (fun e => hro (h2.1 e)) (hT _ _)
  · rw [if_neg hrg]
    have hb := hx false (h6.trans ⟨fun e => absurd e hrg, fun e => by cases e⟩)
    exact Ev.if_neg (fun e => hrg (h6.1 e)) (rest_tail l (by omega) (SP l) s1 s2 v6 kd ft ma false h8 hb [] [])
theorem parse_tail (l : List Tk) (hl : l.length ≤ 100000) (a b : List (List Tk)) (h : SP l = a ++ b) (ha : a.length ≤ 1) (hz : ∀ p ∈ SP l, TkZ p ∧ p.length ≤ 100000) (hP : (SP l).length ≤ 100000) (kd ft : Int) (ma x : Bool) (hx : x = true → b = [] ∨ a.length = 1) (hx0 : x = false → a.length = 0) (rw gr : List Ce) :
    Ev (fun k => (some ma).bind fun v => (if v = true then (dendronlaw28_parse.l1 k (SP l) (a.length : Int) 0 0 kd ft rw ([] : List (List Ce)) gr) else (if (a.length : Int) < ((SP l).length : Int) then (dendronlaw28_parse.l0 k l (SP l) (a.length : Int) 0 0 0 kd ft rw gr) else (dendronlaw28_parse.l1 k (SP l) (a.length : Int) 0 0 kd ft rw ([] : List (List Ce)) gr)))) (TL ma x l b kd ft rw gr) := by
  have hr := aparse_l1 (SP l) hz hP kd ft rw gr 0 0 b a [] h (Nat.zero_le _)
  refine Ev.congr (fun k => (show _ = _ from rfl)) (show Ev (fun k => (if ma = true then (dendronlaw28_parse.l1 k (SP l) (a.length : Int) 0 0 kd ft rw ([] : List (List Ce)) gr) else (if (a.length : Int) < ((SP l).length : Int) then (dendronlaw28_parse.l0 k l (SP l) (a.length : Int) 0 0 0 kd ft rw gr) else (dendronlaw28_parse.l1 k (SP l) (a.length : Int) 0 0 kd ft rw ([] : List (List Ce)) gr)))) _ from ?_)
  unfold TL
  have hlen : (SP l).length = a.length + b.length := by rw [h, List.length_append]
  by_cases hm : ma = true
  · refine Ev.if_pos hm (hr.of_eq ?_)
    rw [if_neg fun e => by rw [hm] at e; cases e.1]
  · refine Ev.if_neg hm ?_
    by_cases hb : b = []
    · refine Ev.if_neg (by rw [hlen, hb]; simp) (hr.of_eq ?_)
      rw [if_neg fun e => e.2 hb]
    · have := List.length_pos_iff.2 hb
      rw [if_pos (show ma = false ∧ b ≠ [] from ⟨by simpa using hm, hb⟩)]
      refine Ev.if_pos (by omega) ?_
      cases x with
      | true =>
        have h1 : a.length = 1 := (hx rfl).resolve_left hb
        rw [h1]
        refine aparse_l0 l hl (SP l) 0 0 kd ft rw gr l [] rfl (SP_bar ?_)
        obtain ⟨y, rfl⟩ := List.length_eq_one_iff.1 h1
        rw [h]; exact hb
      | false =>
        rw [hx0 rfl]
        refine aparse_l0z l (fun e => ?_) (SP l) 0 0 kd ft rw gr
        rw [e] at hlen
        have : (SP ([] : List Tk)).length = 0 := rfl
        omega
theorem parse_split (l : List Tk) (z : TkZ l) (hl : l.length ≤ 4096) (kd ft : Int) (ro gr ma : Bool) (h1 : dendronlaw28_row.f kd = some ro) (h2 : dendronlaw28_grid.f kd = some gr) (h3 : dendronlaw28_many.f kd = some ma) :
    Ev (fun k => ((dendronlaw28_cut.f k l).bind fun v35 => ((dendronlaw28_row.f kd).bind fun v40 => (if v40 = true then (if (v35.length : Int) > 0 then ((rows_Words.f k (gt [] v35 0)).bind fun v56 => (if v56.2.2 ≠ 0 then (some (0, 0, ([] : List Ce), ([] : List (List Ce)), ([] : List Ce), v56.2.1, v56.2.2)) else ((dendronlaw28_row.f kd).bind fun v68 => (if v68 = true then ((dendronlaw28_many.f kd).bind fun v74 => (if v74 = true then (dendronlaw28_parse.l1 k v35 1 0 0 kd ft v56.1 ([] : List (List Ce)) ([] : List Ce)) else (if 1 < (v35.length : Int) then (dendronlaw28_parse.l0 k l v35 1 0 0 0 kd ft v56.1 ([] : List Ce)) else (dendronlaw28_parse.l1 k v35 1 0 0 kd ft v56.1 ([] : List (List Ce)) ([] : List Ce))))) else ((dendronlaw28_many.f kd).bind fun v74 => (if v74 = true then (dendronlaw28_parse.l1 k v35 1 0 0 kd ft ([] : List Ce) ([] : List (List Ce)) v56.1) else (if 1 < (v35.length : Int) then (dendronlaw28_parse.l0 k l v35 1 0 0 0 kd ft ([] : List Ce) v56.1) else (dendronlaw28_parse.l1 k v35 1 0 0 kd ft ([] : List Ce) ([] : List (List Ce)) v56.1)))))))) else ((rows_Words.f k ([] : List Tk)).bind fun v51 => (if v51.2.2 ≠ 0 then (some (0, 0, ([] : List Ce), ([] : List (List Ce)), ([] : List Ce), v51.2.1, v51.2.2)) else ((dendronlaw28_row.f kd).bind fun v63 => (if v63 = true then ((dendronlaw28_many.f kd).bind fun v69 => (if v69 = true then (dendronlaw28_parse.l1 k v35 0 0 0 kd ft v51.1 ([] : List (List Ce)) ([] : List Ce)) else (if 0 < (v35.length : Int) then (dendronlaw28_parse.l0 k l v35 0 0 0 0 kd ft v51.1 ([] : List Ce)) else (dendronlaw28_parse.l1 k v35 0 0 0 kd ft v51.1 ([] : List (List Ce)) ([] : List Ce))))) else ((dendronlaw28_many.f kd).bind fun v69 => (if v69 = true then (dendronlaw28_parse.l1 k v35 0 0 0 kd ft ([] : List Ce) ([] : List (List Ce)) v51.1) else (if 0 < (v35.length : Int) then (dendronlaw28_parse.l0 k l v35 0 0 0 0 kd ft ([] : List Ce) v51.1) else (dendronlaw28_parse.l1 k v35 0 0 0 kd ft ([] : List Ce) ([] : List (List Ce)) v51.1))))))))) else ((dendronlaw28_grid.f kd).bind fun v44 => (if v44 = true then (if (v35.length : Int) > 0 then ((rows_Words.f k (gt [] v35 0)).bind fun v56 => (if v56.2.2 ≠ 0 then (some (0, 0, ([] : List Ce), ([] : List (List Ce)), ([] : List Ce), v56.2.1, v56.2.2)) else ((dendronlaw28_row.f kd).bind fun v68 => (if v68 = true then ((dendronlaw28_many.f kd).bind fun v74 => (if v74 = true then (dendronlaw28_parse.l1 k v35 1 0 0 kd ft v56.1 ([] : List (List Ce)) ([] : List Ce)) else (if 1 < (v35.length : Int) then (dendronlaw28_parse.l0 k l v35 1 0 0 0 kd ft v56.1 ([] : List Ce)) else (dendronlaw28_parse.l1 k v35 1 0 0 kd ft v56.1 ([] : List (List Ce)) ([] : List Ce))))) else ((dendronlaw28_many.f kd).bind fun v74 => (if v74 = true then (dendronlaw28_parse.l1 k v35 1 0 0 kd ft ([] : List Ce) ([] : List (List Ce)) v56.1) else (if 1 < (v35.length : Int) then (dendronlaw28_parse.l0 k l v35 1 0 0 0 kd ft ([] : List Ce) v56.1) else (dendronlaw28_parse.l1 k v35 1 0 0 kd ft ([] : List Ce) ([] : List (List Ce)) v56.1)))))))) else ((rows_Words.f k ([] : List Tk)).bind fun v51 => (if v51.2.2 ≠ 0 then (some (0, 0, ([] : List Ce), ([] : List (List Ce)), ([] : List Ce), v51.2.1, v51.2.2)) else ((dendronlaw28_row.f kd).bind fun v63 => (if v63 = true then ((dendronlaw28_many.f kd).bind fun v69 => (if v69 = true then (dendronlaw28_parse.l1 k v35 0 0 0 kd ft v51.1 ([] : List (List Ce)) ([] : List Ce)) else (if 0 < (v35.length : Int) then (dendronlaw28_parse.l0 k l v35 0 0 0 0 kd ft v51.1 ([] : List Ce)) else (dendronlaw28_parse.l1 k v35 0 0 0 kd ft v51.1 ([] : List (List Ce)) ([] : List Ce))))) else ((dendronlaw28_many.f kd).bind fun v69 => (if v69 = true then (dendronlaw28_parse.l1 k v35 0 0 0 kd ft ([] : List Ce) ([] : List (List Ce)) v51.1) else (if 0 < (v35.length : Int) then (dendronlaw28_parse.l0 k l v35 0 0 0 0 kd ft ([] : List Ce) v51.1) else (dendronlaw28_parse.l1 k v35 0 0 0 kd ft ([] : List Ce) ([] : List (List Ce)) v51.1))))))))) else ((dendronlaw28_many.f kd).bind fun v48 => (if v48 = true then (dendronlaw28_parse.l1 k v35 0 0 0 kd ft ([] : List Ce) ([] : List (List Ce)) ([] : List Ce)) else (if 0 < (v35.length : Int) then (dendronlaw28_parse.l0 k l v35 0 0 0 0 kd ft ([] : List Ce) ([] : List Ce)) else (dendronlaw28_parse.l1 k v35 0 0 0 kd ft ([] : List Ce) ([] : List (List Ce)) ([] : List Ce))))))))))) (ART kd ft ro gr ma l) := by
  obtain ⟨s1, s2⟩ := SP_ok z hl
  refine Ev.bind (acut_ev l (by omega)) ?_
  rw [h1, h2, h3]
  have body : ∀ (hrg : ro = true ∨ gr = true), Ev (fun k => (if ((SP l).length : Int) > 0 then ((rows_Words.f k (gt [] (SP l) 0)).bind fun v56 => (if v56.2.2 ≠ 0 then (some (0, 0, ([] : List Ce), ([] : List (List Ce)), ([] : List Ce), v56.2.1, v56.2.2)) else ((some ro).bind fun v68 => (if v68 = true then ((some ma).bind fun v74 => (if v74 = true then (dendronlaw28_parse.l1 k (SP l) 1 0 0 kd ft v56.1 ([] : List (List Ce)) ([] : List Ce)) else (if 1 < ((SP l).length : Int) then (dendronlaw28_parse.l0 k l (SP l) 1 0 0 0 kd ft v56.1 ([] : List Ce)) else (dendronlaw28_parse.l1 k (SP l) 1 0 0 kd ft v56.1 ([] : List (List Ce)) ([] : List Ce))))) else ((some ma).bind fun v74 => (if v74 = true then (dendronlaw28_parse.l1 k (SP l) 1 0 0 kd ft ([] : List Ce) ([] : List (List Ce)) v56.1) else (if 1 < ((SP l).length : Int) then (dendronlaw28_parse.l0 k l (SP l) 1 0 0 0 kd ft ([] : List Ce) v56.1) else (dendronlaw28_parse.l1 k (SP l) 1 0 0 kd ft ([] : List Ce) ([] : List (List Ce)) v56.1)))))))) else ((rows_Words.f k ([] : List Tk)).bind fun v51 => (if v51.2.2 ≠ 0 then (some (0, 0, ([] : List Ce), ([] : List (List Ce)), ([] : List Ce), v51.2.1, v51.2.2)) else ((some ro).bind fun v63 => (if v63 = true then ((some ma).bind fun v69 => (if v69 = true then (dendronlaw28_parse.l1 k (SP l) 0 0 0 kd ft v51.1 ([] : List (List Ce)) ([] : List Ce)) else (if 0 < ((SP l).length : Int) then (dendronlaw28_parse.l0 k l (SP l) 0 0 0 0 kd ft v51.1 ([] : List Ce)) else (dendronlaw28_parse.l1 k (SP l) 0 0 0 kd ft v51.1 ([] : List (List Ce)) ([] : List Ce))))) else ((some ma).bind fun v69 => (if v69 = true then (dendronlaw28_parse.l1 k (SP l) 0 0 0 kd ft ([] : List Ce) ([] : List (List Ce)) v51.1) else (if 0 < ((SP l).length : Int) then (dendronlaw28_parse.l0 k l (SP l) 0 0 0 0 kd ft ([] : List Ce) v51.1) else (dendronlaw28_parse.l1 k (SP l) 0 0 0 kd ft ([] : List Ce) ([] : List (List Ce)) v51.1)))))))))) (ART kd ft ro gr ma l) := by
    intro hrg
    unfold ART
    rw [if_pos hrg]
    by_cases hp : SP l = []
    · have hw : Ev (fun k => rows_Words.f k ([] : List Tk)) (WF [] []) := words9_ev [] (fun x hx => by cases hx) (Nat.zero_le _)
      have hT := fun rw gr => parse_tail l (by omega) [] [] (by rw [hp]; rfl) (Nat.zero_le _) s1 s2 kd ft ma true (fun _ => .inl rfl) (fun e => by cases e) rw gr
      have e0 : (SP l).headD [] = [] := by rw [hp]; rfl
      have e1 : (SP l).tail = [] := by rw [hp]; rfl
      rw [e0, e1, if_neg (show ¬ (WF [] ([] : List Tk)).2.2 ≠ 0 from fun e => e rfl)]
      refine Ev.if_neg (by rw [hp]; decide) (Ev.bind hw (Ev.if_neg (fun e => e rfl) ?_))
      cases ro with
      | true => exact hT _ _
      | false => exact hT _ _
    · obtain ⟨p, ps, hps⟩ := List.exists_cons_of_ne_nil hp
      obtain ⟨z1, z2⟩ := s1 p (by rw [hps]; exact List.mem_cons_self)
      have hw := words9_ev p z1 z2
      have hT := fun rw gr => parse_tail l (by omega) [p] ps hps (Nat.le_refl _) s1 s2 kd ft ma true (fun _ => .inr rfl) (fun e => by cases e) rw gr
      have e0 : (SP l).headD [] = p := by rw [hps]; rfl
      have e1 : (SP l).tail = ps := by rw [hps]; rfl
      have e2 : gt [] (SP l) 0 = p := by rw [hps]; rfl
      rw [e0, e1, e2]
      refine Ev.if_pos (by rw [hps, List.length_cons]; omega) (Ev.bind (show Ev _ (WF [] p) from hw) ?_)
      by_cases he : (WF [] p).2.2 ≠ 0
      · exact (Ev.if_pos he (Ev.now _)).of_eq (if_pos he).symm
      · rw [if_neg (c := (WF [] p).2.2 ≠ 0) he]
        refine Ev.if_neg he ?_
        cases ro with
        | true => exact hT _ _
        | false => exact hT _ _
  by_cases hro : ro = true
  · have hb := body (.inl hro)
    subst hro
    exact hb
  · by_cases hgr : gr = true
    · have hb := body (.inr hgr)
      have hro' : ro = false := by simpa using hro
      subst hro' hgr
      exact hb
    · have hT := parse_tail l (by omega) [] (SP l) rfl (Nat.zero_le _) s1 s2 kd ft ma false (fun e => by cases e) (fun _ => rfl) [] []
      have hro' : ro = false := by simpa using hro
      have hgr' : gr = false := by simpa using hgr
      subst hro' hgr'
      unfold ART
      rw [if_neg (by simp)]
      exact hT
end Go.DI.Th
namespace Go.DI.Th
open Go Go.RowKit Go.DI

def fe (k : Int) : Bool := decide (k = 7 ∨ k = 8)
def ro (k : Int) : Bool := decide (k = 1 ∨ k = 3 ∨ k = 4 ∨ k = 5 ∨ k = 6)
def gr (k : Int) : Bool := decide (k = 7 ∨ k = 8)
def ma (k : Int) : Bool := decide (k = 4 ∨ k = 8 ∨ k = 9)
theorem dfe (k : Int) : dendronlaw28_feature.f k = some (fe k) := by
  unfold dendronlaw28_feature.f fe
  by_cases h : k = 7
  · rw [if_pos h, decide_eq_true (.inl h)]
  · rw [if_neg h]; congr 1; rw [Bool.eq_iff_iff, beq_iff_eq, decide_eq_true_iff]; omega
theorem dgr (k : Int) : dendronlaw28_grid.f k = some (gr k) := by
  unfold dendronlaw28_grid.f gr
  by_cases h : k = 7
  · rw [if_pos h, decide_eq_true (.inl h)]
  · rw [if_neg h]; congr 1; rw [Bool.eq_iff_iff, beq_iff_eq, decide_eq_true_iff]; omega
theorem dro (k : Int) : dendronlaw28_row.f k = some (ro k) := by
  unfold dendronlaw28_row.f ro
  by_cases h : k = 1
  · rw [if_pos h, decide_eq_true (.inl h)]
  rw [if_neg h]
  by_cases h3 : k = 3
  · rw [if_pos h3, decide_eq_true (by omega)]
  rw [if_neg h3]
  by_cases h4 : k = 4
  · rw [if_pos h4, decide_eq_true (by omega)]
  rw [if_neg h4]
  by_cases h5 : k = 5
  · rw [if_pos h5, decide_eq_true (by omega)]
  rw [if_neg h5]; congr 1; rw [Bool.eq_iff_iff, beq_iff_eq, decide_eq_true_iff]; omega
theorem dma (k : Int) : dendronlaw28_many.f k = some (ma k) := by
  unfold dendronlaw28_many.f ma
  by_cases h : k = 4
  · rw [if_pos h, decide_eq_true (.inl h)]
  rw [if_neg h]
  by_cases h3 : k = 8
  · rw [if_pos h3, decide_eq_true (by omega)]
  rw [if_neg h3]; congr 1; rw [Bool.eq_iff_iff, beq_iff_eq, decide_eq_true_iff]; omega
theorem kinds {k : Int} (h1 : 1 ≤ k) (h9 : k ≤ 9) : k = 1 ∨ k = 2 ∨ k = 3 ∨ k = 4 ∨ k = 5 ∨ k = 6 ∨ k = 7 ∨ k = 8 ∨ k = 9 := by omega
structure FormOk (k v : Int) : Prop where
  e : ask_form.f k = some v
  b1 : Go.bits .and .i64 v 1 ≠ 0 ↔ fe k = true
  b2 : Go.bits .and .i64 v 2 ≠ 0 ↔ ro k = true
  b4 : Go.bits .and .i64 v 4 ≠ 0 ↔ gr k = true
  b6 : Go.bits .and .i64 v 6 ≠ 0 ↔ (ro k = true ∨ gr k = true)
  b8 : Go.bits .and .i64 v 8 = 0 ↔ ma k = false
theorem form_ok {k : Int} (h1 : 1 ≤ k) (h9 : k ≤ 9) : ∃ v, FormOk k v := by
  rcases kinds h1 h9 with rfl | rfl | rfl | rfl | rfl | rfl | rfl | rfl | rfl
  all_goals exact ⟨_, rfl, by decide +kernel, by decide +kernel, by decide +kernel, by decide +kernel, by decide +kernel⟩
theorem kindOf_range (s : ByteArray) : kindOf s = 0 ∨ (1 ≤ kindOf s ∧ kindOf s ≤ 9) := by
  unfold kindOf
  repeat' split
  all_goals decide
theorem dword_eq (k : Int) : dendronlaw28_word.f k = ask_word.f k := by
  by_cases h1 : k < 1
  · unfold dendronlaw28_word.f ask_word.f
    rw [if_pos h1, if_neg (by omega), if_neg (by omega), if_neg (by omega), if_neg (by omega), if_neg (by omega), if_neg (by omega), if_neg (by omega), if_neg (by omega), if_neg (by omega)]
  by_cases h9 : k > 9
  · unfold dendronlaw28_word.f ask_word.f
    rw [if_neg h1, if_pos h9, if_neg (by omega), if_neg (by omega), if_neg (by omega), if_neg (by omega), if_neg (by omega), if_neg (by omega), if_neg (by omega), if_neg (by omega), if_neg (by omega)]
  rcases kinds (k := k) (by omega) (by omega) with rfl | rfl | rfl | rfl | rfl | rfl | rfl | rfl | rfl
  all_goals decide +kernel
theorem word_some (k : Int) : ∃ s, ask_word.f k = some s ∧ (s = ByteArray.empty ∨ kindOf s = k) := by
  by_cases h1 : 1 ≤ k ∧ k ≤ 9
  · rcases kinds h1.1 h1.2 with rfl | rfl | rfl | rfl | rfl | rfl | rfl | rfl | rfl
    all_goals exact ⟨_, rfl, .inr (by decide +kernel)⟩
  · refine ⟨ByteArray.empty, ?_, .inl rfl⟩
    unfold ask_word.f
    rw [if_neg (by omega), if_neg (by omega), if_neg (by omega), if_neg (by omega), if_neg (by omega), if_neg (by omega), if_neg (by omega), if_neg (by omega), if_neg (by omega)]
theorem kind_step (s : ByteArray) (j : Nat) (h1 : 1 ≤ j) (h9 : j ≤ 9) {r : Int} (h : Ev (fun k => dendronlaw28_kind.l0 k s ((j + 1 : Nat) : Int)) r) : Ev (fun k => dendronlaw28_kind.l0 k s (j : Int)) (if s = wd j then (j : Int) else r) := by
  have hw : dendronlaw28_word.f (j : Int) = some (wd j) := by
    rw [dword_eq]
    unfold wd
    obtain ⟨v, hv, _⟩ := word_some (j : Int)
    rw [hv]; rfl
  refine Ev.succ ?_
  simp only [dendronlaw28_kind.l0, hw, wr_succ j (show j ≤ 1125899906842624 by omega)]
  refine Ev.if_pos (by omega) (Ev.bind (Ev.now _) ?_)
  by_cases e : s = wd j
  · rw [if_pos e]; exact Ev.if_pos e.symm (Ev.now _)
  · rw [if_neg e]; exact Ev.if_neg (fun h => e h.symm) h
theorem dkind_ev (s : ByteArray) : Ev (fun k => dendronlaw28_kind.f k s) (kindOf s) := by
  unfold dendronlaw28_kind.f
  have h10 : Ev (fun k => dendronlaw28_kind.l0 k s ((10 : Nat) : Int)) 0 := by
    refine Ev.succ ?_
    simp only [dendronlaw28_kind.l0]
    exact Ev.if_neg (by decide) (Ev.now _)
  exact kind_step s 1 (by decide) (by decide) (kind_step s 2 (by decide) (by decide) (kind_step s 3 (by decide) (by decide) (kind_step s 4 (by decide) (by decide) (kind_step s 5 (by decide) (by decide) (kind_step s 6 (by decide) (by decide) (kind_step s 7 (by decide) (by decide) (kind_step s 8 (by decide) (by decide) (kind_step s 9 (by decide) (by decide) h10))))))))
def PK (kd sz : Int) (l : List Tk) : AR := if fe kd = true then (match l with | [] => AErr sz 9 | t :: m => if (DG t.2.2).2 ≠ 0 then AErr t.1 (DG t.2.2).2 else ART kd (DG t.2.2).1 (ro kd) (gr kd) (ma kd) m) else ART kd 0 (ro kd) (gr kd) (ma kd) l
def PR (x : ByteArray) : AR := if (LW x).2.2 ≠ 0 then AErr (LW x).2.1 (LW x).2.2 else (match (LW x).1 with | [] => AErr (x.size : Int) 9 | t :: l => if kindOf t.2.2 = 0 then AErr t.1 7 else PK (kindOf t.2.2) (x.size : Int) l)
theorem arest_ev {kd : Int} (h1 : 1 ≤ kd) (h9 : kd ≤ 9) (sz : Int) (l : List Tk) (z : TkZ l) (hl : l.length ≤ 4096) : Ev (fun k => ask_rest.f k kd 0 ([] : List Ce) ([] : List Ce) l sz) (PK kd sz l) := by
  obtain ⟨v, F⟩ := form_ok h1 h9
  unfold ask_rest.f PK
  simp only [F.e, Option.bind_some]
  by_cases hf : fe kd = true
  · rw [if_pos hf]
    refine Ev.if_pos (F.b1.2 hf) ?_
    cases l with
    | nil => exact Ev.if_pos rfl (Ev.now _)
    | cons t m =>
      rw [List.length_cons] at hl
      have g : gt tk0 (t :: m) 0 = t := rfl
      have hn := anumber_ev t.2.2 (z t List.mem_cons_self)
      have hT := rest_split m (fun x hx => z x (List.mem_cons_of_mem _ hx)) (by omega) v kd (DG t.2.2).1 (ro kd) (gr kd) (ma kd) F.b2 F.b6 F.b8
      rw [g]
      refine Ev.if_neg (by rw [List.length_cons]; omega) (Ev.if_pos (by rw [List.length_cons]; omega) (Ev.bind hn ?_))
      by_cases he : (DG t.2.2).2 ≠ 0
      · exact (Ev.if_pos he (Ev.now _)).of_eq (if_pos he).symm
      · refine Ev.of_eq (Ev.if_neg he (Ev.if_pos (by rw [List.length_cons]; omega) ?_)) (if_neg he).symm
        exact hT
  · rw [if_neg hf]
    exact Ev.if_neg (fun e => hf (F.b1.1 e)) (rest_split l z hl v kd 0 (ro kd) (gr kd) (ma kd) F.b2 F.b6 F.b8)
theorem aparse_ev (x : ByteArray) (hx : x.size ≤ 100000) : Ev (fun k => ask_Parse.f k x) (PR x) := by
  obtain ⟨z, hl⟩ := LW_ok x hx
  have hw : Ev (fun k => lex_Words.f k x) (LW x) := words_ev x (by omega)
  have hK : ∀ s, ask_Kind.f s = some (kindOf s) := fun s => rfl
  unfold ask_Parse.f PR
  refine Ev.bind hw ?_
  by_cases he : (LW x).2.2 ≠ 0
  · exact (Ev.if_pos he (Ev.now _)).of_eq (if_pos he).symm
  rw [if_neg (c := (LW x).2.2 ≠ 0) he]
  refine Ev.if_neg he ?_
  revert z hl
  cases (LW x).1 with
  | nil => intro _ _; exact Ev.if_pos rfl (Ev.now _)
  | cons t l =>
    intro z hl
    rw [List.length_cons] at hl
    have g : gt tk0 (t :: l) 0 = t := rfl
    rw [g]
    simp only [hK, Option.bind_some]
    refine Ev.if_neg (by rw [List.length_cons]; omega) (Ev.if_pos (by rw [List.length_cons]; omega) ?_)
    by_cases h0 : kindOf t.2.2 = 0
    · exact (Ev.if_pos h0 (Ev.now _)).of_eq (if_pos h0).symm
    · obtain ⟨k1, k9⟩ := (kindOf_range t.2.2).resolve_left h0
      refine Ev.of_eq (Ev.if_neg h0 (Ev.if_pos (by rw [List.length_cons]; omega) ?_)) (if_neg h0).symm
      exact Ev.bind (arest_ev k1 k9 (x.size : Int) l (fun y hy => z y (List.mem_cons_of_mem _ hy)) (by omega)) (Ev.now _)
theorem dparse_ev (x : ByteArray) (hx : x.size ≤ 100000) : Ev (fun k => dendronlaw28_parse.f k x) (PR x) := by
  obtain ⟨z, hl⟩ := LW_ok x hx
  have n := LW_ne x
  have hw : Ev (fun k => lex_Words.f k x) (LW x) := words_ev x (by omega)
  unfold dendronlaw28_parse.f PR
  refine Ev.bind hw ?_
  by_cases he : (LW x).2.2 ≠ 0
  · exact (Ev.if_pos he (Ev.now _)).of_eq (if_pos he).symm
  rw [if_neg (c := (LW x).2.2 ≠ 0) he]
  refine Ev.if_neg he ?_
  revert z hl n
  cases (LW x).1 with
  | nil => intro _ _ _; exact Ev.if_pos rfl (Ev.now _)
  | cons t l =>
    intro z hl n
    rw [List.length_cons] at hl
    have g : gt tk0 (t :: l) 0 = t := rfl
    have gd : (t :: l).drop 1 = l := rfl
    rw [g, gd]
    refine Ev.if_neg (by rw [List.length_cons]; omega) (Ev.if_pos (by rw [List.length_cons]; omega) (Ev.bind (dkind_ev t.2.2) ?_))
    by_cases h0 : kindOf t.2.2 = 0
    · exact (Ev.if_pos h0 (Ev.now _)).of_eq (if_pos h0).symm
    · obtain ⟨k1, k9⟩ := (kindOf_range t.2.2).resolve_left h0
      refine Ev.of_eq (Ev.if_neg h0 (Ev.if_pos (by rw [List.length_cons]; omega) ?_)) (if_neg h0).symm
      have z2 : TkZ l := fun y hy => z y (List.mem_cons_of_mem _ hy)
      have n2 : TkN l := fun y hy => n y (List.mem_cons_of_mem _ hy)
      generalize kindOf t.2.2 = kd at k1 k9 ⊢
      unfold PK
      rw [dfe kd]
      by_cases hf : fe kd = true
      · rw [if_pos (c := fe kd = true) hf]
        refine Ev.bind (Ev.now _) (Ev.if_pos hf ?_)
        cases l with
        | nil => exact Ev.if_pos rfl (Ev.now _)
        | cons u m =>
          rw [List.length_cons] at hl
          have g : gt tk0 (u :: m) 0 = u := rfl
          have gd : (u :: m).drop 1 = m := rfl
          have hn := digits_ev u.2.2 (z2 u List.mem_cons_self) (n2 u List.mem_cons_self)
          have hT := parse_split m (fun x hx => z2 x (List.mem_cons_of_mem _ hx)) (by omega) kd (DG u.2.2).1 (ro kd) (gr kd) (ma kd) (dro kd) (dgr kd) (dma kd)
          rw [g, gd]
          refine Ev.if_neg (by rw [List.length_cons]; omega) (Ev.if_pos (by rw [List.length_cons]; omega) (Ev.bind hn ?_))
          by_cases he : (DG u.2.2).2 ≠ 0
          · exact (Ev.if_pos he (Ev.now _)).of_eq (if_pos he).symm
          · refine Ev.of_eq (Ev.if_neg he (Ev.if_pos (by rw [List.length_cons]; omega) ?_)) (if_neg he).symm
            exact hT
      · rw [if_neg (c := fe kd = true) hf]
        exact Ev.bind (Ev.now _) (Ev.if_neg hf (parse_split l z2 (by omega) kd 0 (ro kd) (gr kd) (ma kd) (dro kd) (dgr kd) (dma kd)))
structure AOk (a : AR) : Prop where
  r : (∀ c ∈ a.2.2.1, CeB' c) ∧ a.2.2.1.length ≤ 1000000
  g : (∀ c ∈ a.2.2.2.2.1, CeB' c) ∧ a.2.2.2.2.1.length ≤ 1000000
  m : GoodR a.2.2.2.1
  l : a.2.2.2.1.length ≤ 1000000
theorem nilC : (∀ c ∈ ([] : List Ce), CeB' c) ∧ ([] : List Ce).length ≤ 1000000 := ⟨fun c hc => (by cases hc), Nat.zero_le _⟩
theorem AErr_ok (a e : Int) : AOk (AErr a e) := ⟨nilC, nilC, fun r hr => (by cases hr), Nat.zero_le _⟩
theorem WF_ok (l : List Tk) (hl : l.length ≤ 100000) : (∀ c ∈ (WF [] l).1, CeB' c) ∧ (WF [] l).1.length ≤ 1000000 :=
  ⟨WF_B l [] fun c hc => (by cases hc), by have := WF_len l []; rw [List.length_nil] at this; omega⟩
theorem RF_ok : ∀ (ps : List (List Tk)) (acc : List (List Ce)), (∀ p ∈ ps, TkZ p ∧ p.length ≤ 100000) → GoodR acc → acc.length + ps.length ≤ 1000000 → GoodR (RF acc ps).1 ∧ (RF acc ps).1.length ≤ 1000000
  | [], acc, _, h, hl => ⟨h, by rw [List.length_nil] at hl; exact hl⟩
  | p :: ps, acc, hz, h, hl => by
    rw [RF]
    split
    · exact ⟨fun r hr => (by cases hr), Nat.zero_le _⟩
    · rw [List.length_cons] at hl
      exact RF_ok ps _ (fun q hq => hz q (List.mem_cons_of_mem _ hq)) (h.snoc (hz p List.mem_cons_self).2) (by rw [List.length_append, List.length_singleton]; omega)
theorem TL_ok {ma x : Bool} {l : List Tk} {ps : List (List Tk)} (hz : ∀ p ∈ ps, TkZ p ∧ p.length ≤ 100000) (hP : ps.length ≤ 100000) (kd ft : Int) {rw_ gr : List Ce} (h1 : (∀ c ∈ rw_, CeB' c) ∧ rw_.length ≤ 1000000) (h2 : (∀ c ∈ gr, CeB' c) ∧ gr.length ≤ 1000000) : AOk (TL ma x l ps kd ft rw_ gr) := by
  obtain ⟨r1, r2⟩ := RF_ok ps [] hz (fun r hr => by cases hr) (by rw [List.length_nil]; omega)
  unfold TL FN
  split
  · exact AErr_ok _ _
  · split
    · exact AErr_ok _ _
    · exact ⟨h1, h2, r1, r2⟩
theorem ART_ok (kd ft : Int) (ro gr ma : Bool) {l : List Tk} (z : TkZ l) (hl : l.length ≤ 4096) : AOk (ART kd ft ro gr ma l) := by
  obtain ⟨s1, s2⟩ := SP_ok z hl
  unfold ART
  split
  · have hh : ((SP l).headD []).length ≤ 100000 := by
      cases h : SP l with
      | nil => exact Nat.zero_le _
      | cons p ps => rw [h] at s1; exact (s1 p List.mem_cons_self).2
    have hw := WF_ok _ hh
    split
    · exact AErr_ok _ _
    · refine TL_ok (fun p hp => s1 p (List.mem_of_mem_tail hp)) (by rw [List.length_tail]; omega) kd ft ?_ ?_
      · split
        · exact hw
        · exact nilC
      · split
        · exact nilC
        · exact hw
  · exact TL_ok s1 s2 kd ft nilC nilC
theorem PK_ok (kd sz : Int) {l : List Tk} (z : TkZ l) (hl : l.length ≤ 4096) : AOk (PK kd sz l) := by
  unfold PK
  split
  · cases l with
    | nil => exact AErr_ok _ _
    | cons t m =>
      dsimp only
      split
      · exact AErr_ok _ _
      · rw [List.length_cons] at hl
        exact ART_ok _ _ _ _ _ (fun y hy => z y (List.mem_cons_of_mem _ hy)) (by omega)
  · exact ART_ok _ _ _ _ _ z hl
theorem PR_ok (x : ByteArray) (hx : x.size ≤ 100000) : AOk (PR x) := by
  obtain ⟨z, hl⟩ := LW_ok x hx
  unfold PR
  split
  · exact AErr_ok _ _
  · revert z hl
    cases (LW x).1 with
    | nil => intro _ _; exact AErr_ok _ _
    | cons t l =>
      intro z hl
      rw [List.length_cons] at hl
      dsimp only
      split
      · exact AErr_ok _ _
      · exact PK_ok _ _ (fun y hy => z y (List.mem_cons_of_mem _ hy)) (by omega)
theorem same28_l0 (Rs Ss : List (List Ce)) (u0 u1 v0 v1 : Int) (u2 u4 v2 v4 : List Ce) (hl : Rs.length ≤ 1000000) (hs : Rs.length = Ss.length) : ∀ (b a d c : List (List Ce)), Rs = a ++ b → Ss = c ++ d → a.length = c.length → (∀ p ∈ b.zip d, Ev (fun k => dendronref09_Equal.f k p.1 p.2) true) → Ev (fun k => dendronref28_Same.l0 k (a.length : Int) u0 u1 u2 Rs u4 v0 v1 v2 Ss v4) true := by
  intro b
  induction b with
  | nil =>
    intro a d c h _ _ _
    rw [List.append_nil] at h
    refine Ev.succ ?_
    simp only [dendronref28_Same.l0]
    exact Ev.if_neg (by rw [h]; omega) (Ev.now _)
  | cons r b ih =>
    intro a d c h h2 hac hE
    have hll : Rs.length = a.length + (b.length + 1) := by rw [h, List.length_append, List.length_cons]
    cases d with
    | nil => rw [List.append_nil] at h2; rw [h2] at hs; omega
    | cons s d =>
      have g : gt [] Rs (a.length : Int) = r := by rw [h]; exact gt_at _ a r b
      have g2 : gt [] Ss (a.length : Int) = s := by rw [h2, hac]; exact gt_at _ c s d
      have hih := ih (a ++ [r]) d (c ++ [s]) (by rw [h]; simp) (by rw [h2]; simp) (by rw [List.length_append, List.length_append, hac]; rfl) (fun p hp => hE p (by rw [List.zip_cons_cons]; exact List.mem_cons_of_mem _ hp))
      rw [List.length_append, List.length_singleton] at hih
      refine Ev.succ ?_
      simp only [dendronref28_Same.l0, g, g2, wr_succ a.length (show a.length ≤ 1125899906842624 by omega)]
      exact Ev.if_pos (by omega) (Ev.if_pos (nn0 _) (Ev.if_pos (by omega) (Ev.bind (hE (r, s) (by rw [List.zip_cons_cons]; exact List.mem_cons_self)) (Ev.if_pos rfl hih))))
theorem mem_zip_self {α : Type} : ∀ (l : List α) (p : α × α), p ∈ l.zip l → p.1 = p.2 ∧ p.1 ∈ l
  | [], p, h => by cases h
  | x :: l, p, h => by
    rw [List.zip_cons_cons] at h
    rcases List.mem_cons.1 h with rfl | h
    · exact ⟨rfl, List.mem_cons_self⟩
    · obtain ⟨h1, h2⟩ := mem_zip_self l p h
      exact ⟨h1, List.mem_cons_of_mem _ h2⟩
theorem same28_self (a : AR) (h : AOk a) : Ev (fun k => dendronref28_Same.f k a.1 a.2.1 a.2.2.1 a.2.2.2.1 a.2.2.2.2.1 a.1 a.2.1 a.2.2.1 a.2.2.2.1 a.2.2.2.2.1) true := by
  unfold dendronref28_Same.f
  refine Ev.if_neg (fun e => e rfl) (Ev.if_neg (fun e => e rfl) (Ev.bind (dequal_self _ h.r.1 h.r.2) (Ev.if_pos rfl (Ev.bind (dequal_self _ h.g.1 h.g.2) (Ev.if_pos rfl (Ev.if_neg (fun e => e rfl) ?_))))))
  refine same28_l0 _ _ _ _ _ _ _ _ _ _ h.l rfl _ [] _ [] rfl rfl rfl fun p hp => ?_
  obtain ⟨e, hm⟩ := mem_zip_self _ p hp
  rw [← e]
  exact dequal_self _ (h.m _ hm).1 (h.m _ hm).2
theorem askParses_tail (haw : Ev (fun k => dendronlaw28_awake.f k) true) (x : ByteArray) (hx : x.size ≤ 600) : Ev (fun k => (ask_Parse.f k x).bind fun v5 => ((dendronlaw28_parse.f k x).bind fun v15 => ((dendronref28_Same.f k v5.1 v5.2.1 v5.2.2.1 v5.2.2.2.1 v5.2.2.2.2.1 v15.1 v15.2.1 v15.2.2.1 v15.2.2.2.1 v15.2.2.2.2.1).bind fun v26 => (if v26 = true then (if v5.2.2.2.2.2.1 = v15.2.2.2.2.2.1 then (if v5.2.2.2.2.2.2 = v15.2.2.2.2.2.2 then ((dendronlaw28_awake.f k).bind fun v38 => (some v38)) else (some false)) else (some false)) else (some false))))) true :=
  Ev.bind (aparse_ev x (by omega)) (Ev.bind (dparse_ev x (by omega)) (Ev.bind (same28_self _ (PR_ok x (by omega))) (Ev.if_pos rfl (Ev.if_pos rfl (Ev.if_pos rfl (Ev.bind haw (Ev.now _)))))))
theorem askParses_ev0 (haw : Ev (fun k => dendronlaw28_awake.f k) true) (x : ByteArray) : Ev (fun k => dendronlaw28_AskParses.f k x) true := by
  unfold dendronlaw28_AskParses.f
  by_cases h : (x.size : Int) > 600
  · exact Ev.if_pos h (Ev.if_pos (by omega) (askParses_tail haw _ (by rw [ByteArray.size_extract]; omega)))
  · exact Ev.if_neg h (askParses_tail haw x (by omega))
end Go.DI.Th
