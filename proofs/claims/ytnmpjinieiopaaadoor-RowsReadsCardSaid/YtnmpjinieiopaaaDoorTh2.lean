/- What the told functions answer, part 2. No condition. -/
import Derived.Test.YtnmpjinieiopaaaDoorTh1
set_option linter.all false
namespace Go.DI.Th
open Go Go.RowKit Go.DI
def Le {α : Type} (a b : Option α) : Prop := ∀ r, a = some r → b = some r
theorem Le.refl {α : Type} (a : Option α) : Le a a := fun _ h => h
theorem Le.none {α : Type} (b : Option α) : Le none b := fun _ h => by cases h
theorem Le.eqs {α : Type} {a b c d : Option α} (h : a = c) (h' : b = d) (k : Le c d) : Le a b := by subst h; subst h'; exact k
theorem Le.bind {α β : Type} {a b : Option α} {f g : α → Option β} (h : Le a b) (k : ∀ v, Le (f v) (g v)) : Le (a.bind f) (b.bind g) := by
  intro r hr
  cases ha : a with
  | none => rw [ha] at hr; cases hr
  | some v =>
    rw [ha] at hr
    rw [h v ha]
    exact k v r hr
theorem Le.ite {α : Type} {c : Prop} [Decidable c] {a b a' b' : Option α} (h : Le a a') (k : Le b b') : Le (if c then a else b) (if c then a' else b') := by
  split
  · exact h
  · exact k
theorem Ev.mono {α : Type} {g : Nat → Option α} (h : ∀ k, Le (g k) (g (k + 1))) {K : Nat} {r : α} (hk : g K = some r) : Ev g r := by
  refine ⟨K, fun n hn => ?_⟩
  induction hn with
  | refl => exact hk
  | step _ ih => exact h _ r ih
theorem nat_trim.monoL (k : Nat) : (∀ x0 x1, Le (nat_trim.l0 k x0 x1) (nat_trim.l0 (k + 1) x0 x1)) := by
  induction k with
  | zero => exact fun _ _ => Le.none _
  | succ k ih =>
    intro x0 x1
    refine Le.eqs (nat_trim.l0.eq_2 ..) (nat_trim.l0.eq_2 ..) ?_
    repeat' (first
      | with_reducible exact Le.refl _
      | with_reducible refine Le.ite ?_ ?_
      | with_reducible exact ih _ _
      | with_reducible refine Le.bind (ih _ _) (fun _ => ?_)
      | with_reducible refine Le.bind (Le.refl _) (fun _ => ?_)
      | split)
theorem nat_trim.mono (k : Nat) : ∀ x0, Le (nat_trim.f k x0) (nat_trim.f (k + 1) x0) := by
  intro x0
  unfold nat_trim.f
  repeat' (first
    | with_reducible exact Le.refl _
    | with_reducible refine Le.ite ?_ ?_
    | with_reducible exact (nat_trim.monoL k) _ _
    | with_reducible refine Le.bind (Le.refl _) (fun _ => ?_)
    | split)
theorem nat_Clean.monoL (k : Nat) : (∀ x0 x1 x2 x3, Le (nat_Clean.l0 k x0 x1 x2 x3) (nat_Clean.l0 (k + 1) x0 x1 x2 x3)) := by
  induction k with
  | zero => exact fun _ _ _ _ => Le.none _
  | succ k ih =>
    intro x0 x1 x2 x3
    refine Le.eqs (nat_Clean.l0.eq_2 ..) (nat_Clean.l0.eq_2 ..) ?_
    repeat' (first
      | with_reducible exact Le.refl _
      | with_reducible refine Le.ite ?_ ?_
      | with_reducible exact ih _ _ _ _
      | with_reducible refine Le.bind (ih _ _ _ _) (fun _ => ?_)
      | with_reducible refine Le.bind (nat_trim.mono k _) (fun _ => ?_)
      | with_reducible exact nat_trim.mono k _
      | with_reducible refine Le.bind (Le.refl _) (fun _ => ?_)
      | split)
theorem nat_Clean.mono (k : Nat) : ∀ x0, Le (nat_Clean.f k x0) (nat_Clean.f (k + 1) x0) := by
  intro x0
  unfold nat_Clean.f
  repeat' (first
    | with_reducible exact Le.refl _
    | with_reducible refine Le.ite ?_ ?_
    | with_reducible exact (nat_Clean.monoL k) _ _ _ _
    | with_reducible refine Le.bind (Le.refl _) (fun _ => ?_)
    | split)
theorem whole_Clean.mono (k : Nat) : ∀ x0 x1, Le (whole_Clean.f k x0 x1) (whole_Clean.f (k + 1) x0 x1) := by
  intro x0 x1
  unfold whole_Clean.f
  repeat' (first
    | with_reducible exact Le.refl _
    | with_reducible refine Le.ite ?_ ?_
    | with_reducible refine Le.bind (nat_Clean.mono k _) (fun _ => ?_)
    | with_reducible exact nat_Clean.mono k _
    | with_reducible refine Le.bind (Le.refl _) (fun _ => ?_)
    | split)
theorem whole_Neg.mono (k : Nat) : ∀ x0 x1, Le (whole_Neg.f k x0 x1) (whole_Neg.f (k + 1) x0 x1) := by
  intro x0 x1
  unfold whole_Neg.f
  repeat' (first
    | with_reducible exact Le.refl _
    | with_reducible refine Le.ite ?_ ?_
    | with_reducible refine Le.bind (whole_Clean.mono k _ _) (fun _ => ?_)
    | with_reducible exact whole_Clean.mono k _ _
    | with_reducible refine Le.bind (Le.refl _) (fun _ => ?_)
    | split)
theorem nat_Of.mono (k : Nat) : ∀ x0, Le (nat_Of.f k x0) (nat_Of.f (k + 1) x0) := by
  intro x0
  unfold nat_Of.f
  repeat' (first
    | with_reducible exact Le.refl _
    | with_reducible refine Le.ite ?_ ?_
    | with_reducible refine Le.bind (nat_trim.mono k _) (fun _ => ?_)
    | with_reducible exact nat_trim.mono k _
    | with_reducible refine Le.bind (Le.refl _) (fun _ => ?_)
    | split)
theorem nat_order.monoL (k : Nat) : (∀ x0 x1 x2, Le (nat_order.l0 k x0 x1 x2) (nat_order.l0 (k + 1) x0 x1 x2)) := by
  induction k with
  | zero => exact fun _ _ _ => Le.none _
  | succ k ih =>
    intro x0 x1 x2
    refine Le.eqs (nat_order.l0.eq_2 ..) (nat_order.l0.eq_2 ..) ?_
    repeat' (first
      | with_reducible exact Le.refl _
      | with_reducible refine Le.ite ?_ ?_
      | with_reducible exact ih _ _ _
      | with_reducible refine Le.bind (ih _ _ _) (fun _ => ?_)
      | with_reducible refine Le.bind (Le.refl _) (fun _ => ?_)
      | split)
theorem nat_order.mono (k : Nat) : ∀ x0 x1, Le (nat_order.f k x0 x1) (nat_order.f (k + 1) x0 x1) := by
  intro x0 x1
  unfold nat_order.f
  repeat' (first
    | with_reducible exact Le.refl _
    | with_reducible refine Le.ite ?_ ?_
    | with_reducible exact (nat_order.monoL k) _ _ _
    | with_reducible refine Le.bind (Le.refl _) (fun _ => ?_)
    | split)
theorem nat_To.mono (k : Nat) : ∀ x0, Le (nat_To.f k x0) (nat_To.f (k + 1) x0) := by
  intro x0
  unfold nat_To.f
  repeat' (first
    | with_reducible exact Le.refl _
    | with_reducible refine Le.ite ?_ ?_
    | with_reducible refine Le.bind (nat_Clean.mono k _) (fun _ => ?_)
    | with_reducible exact nat_Clean.mono k _
    | with_reducible refine Le.bind (Le.refl _) (fun _ => ?_)
    | split)
theorem nat_euclid.monoL (k : Nat) : (∀ x0 x1, Le (nat_euclid.l0 k x0 x1) (nat_euclid.l0 (k + 1) x0 x1)) := by
  induction k with
  | zero => exact fun _ _ => Le.none _
  | succ k ih =>
    intro x0 x1
    refine Le.eqs (nat_euclid.l0.eq_2 ..) (nat_euclid.l0.eq_2 ..) ?_
    repeat' (first
      | with_reducible exact Le.refl _
      | with_reducible refine Le.ite ?_ ?_
      | with_reducible exact ih _ _
      | with_reducible refine Le.bind (ih _ _) (fun _ => ?_)
      | with_reducible refine Le.bind (nat_Of.mono k _) (fun _ => ?_)
      | with_reducible exact nat_Of.mono k _
      | with_reducible refine Le.bind (Le.refl _) (fun _ => ?_)
      | split)
theorem nat_euclid.mono (k : Nat) : ∀ x0 x1, Le (nat_euclid.f k x0 x1) (nat_euclid.f (k + 1) x0 x1) := by
  intro x0 x1
  unfold nat_euclid.f
  repeat' (first
    | with_reducible exact Le.refl _
    | with_reducible refine Le.ite ?_ ?_
    | with_reducible exact (nat_euclid.monoL k) _ _
    | with_reducible refine Le.bind (nat_To.mono k _) (fun _ => ?_)
    | with_reducible exact nat_To.mono k _
    | with_reducible refine Le.bind (Le.refl _) (fun _ => ?_)
    | split)
theorem nat_zeros.monoL (k : Nat) : (∀ x0 x1 x2 x3, Le (nat_zeros.l0 k x0 x1 x2 x3) (nat_zeros.l0 (k + 1) x0 x1 x2 x3)) := by
  induction k with
  | zero => exact fun _ _ _ _ => Le.none _
  | succ k ih =>
    intro x0 x1 x2 x3
    refine Le.eqs (nat_zeros.l0.eq_2 ..) (nat_zeros.l0.eq_2 ..) ?_
    repeat' (first
      | with_reducible exact Le.refl _
      | with_reducible refine Le.ite ?_ ?_
      | with_reducible exact ih _ _ _ _
      | with_reducible refine Le.bind (ih _ _ _ _) (fun _ => ?_)
      | with_reducible refine Le.bind (Le.refl _) (fun _ => ?_)
      | split)
theorem nat_zeros.mono (k : Nat) : ∀ x0, Le (nat_zeros.f k x0) (nat_zeros.f (k + 1) x0) := by
  intro x0
  unfold nat_zeros.f
  repeat' (first
    | with_reducible exact Le.refl _
    | with_reducible refine Le.ite ?_ ?_
    | with_reducible exact (nat_zeros.monoL k) _ _ _ _
    | with_reducible refine Le.bind (Le.refl _) (fun _ => ?_)
    | split)
theorem nat_shr.monoL (k : Nat) : (∀ x0 x1 x2 x3 x4 x5, Le (nat_shr.l0 k x0 x1 x2 x3 x4 x5) (nat_shr.l0 (k + 1) x0 x1 x2 x3 x4 x5)) := by
  induction k with
  | zero => exact fun _ _ _ _ _ _ => Le.none _
  | succ k ih =>
    intro x0 x1 x2 x3 x4 x5
    refine Le.eqs (nat_shr.l0.eq_2 ..) (nat_shr.l0.eq_2 ..) ?_
    repeat' (first
      | with_reducible exact Le.refl _
      | with_reducible refine Le.ite ?_ ?_
      | with_reducible exact ih _ _ _ _ _ _
      | with_reducible refine Le.bind (ih _ _ _ _ _ _) (fun _ => ?_)
      | with_reducible refine Le.bind (nat_trim.mono k _) (fun _ => ?_)
      | with_reducible exact nat_trim.mono k _
      | with_reducible refine Le.bind (Le.refl _) (fun _ => ?_)
      | split)
theorem nat_shr.mono (k : Nat) : ∀ x0 x1, Le (nat_shr.f k x0 x1) (nat_shr.f (k + 1) x0 x1) := by
  intro x0 x1
  unfold nat_shr.f
  repeat' (first
    | with_reducible exact Le.refl _
    | with_reducible refine Le.ite ?_ ?_
    | with_reducible exact (nat_shr.monoL k) _ _ _ _ _ _
    | with_reducible refine Le.bind (Le.refl _) (fun _ => ?_)
    | split)
theorem nat_trimM.monoL (k : Nat) : (∀ x0 x1, Le (nat_trimM.l0 k x0 x1) (nat_trimM.l0 (k + 1) x0 x1)) := by
  induction k with
  | zero => exact fun _ _ => Le.none _
  | succ k ih =>
    intro x0 x1
    refine Le.eqs (nat_trimM.l0.eq_2 ..) (nat_trimM.l0.eq_2 ..) ?_
    repeat' (first
      | with_reducible exact Le.refl _
      | with_reducible refine Le.ite ?_ ?_
      | with_reducible exact ih _ _
      | with_reducible refine Le.bind (ih _ _) (fun _ => ?_)
      | with_reducible refine Le.bind (Le.refl _) (fun _ => ?_)
      | split)
theorem nat_trimM.mono (k : Nat) : ∀ x0, Le (nat_trimM.f k x0) (nat_trimM.f (k + 1) x0) := by
  intro x0
  unfold nat_trimM.f
  repeat' (first
    | with_reducible exact Le.refl _
    | with_reducible refine Le.ite ?_ ?_
    | with_reducible exact (nat_trimM.monoL k) _ _
    | with_reducible refine Le.bind (Le.refl _) (fun _ => ?_)
    | split)
theorem nat_shl.monoL (k : Nat) : (∀ x0 x1 x2 x3 x4 x5, Le (nat_shl.l0 k x0 x1 x2 x3 x4 x5) (nat_shl.l0 (k + 1) x0 x1 x2 x3 x4 x5)) := by
  induction k with
  | zero => exact fun _ _ _ _ _ _ => Le.none _
  | succ k ih =>
    intro x0 x1 x2 x3 x4 x5
    refine Le.eqs (nat_shl.l0.eq_2 ..) (nat_shl.l0.eq_2 ..) ?_
    repeat' (first
      | with_reducible exact Le.refl _
      | with_reducible refine Le.ite ?_ ?_
      | with_reducible exact ih _ _ _ _ _ _
      | with_reducible refine Le.bind (ih _ _ _ _ _ _) (fun _ => ?_)
      | with_reducible refine Le.bind (nat_trimM.mono k _) (fun _ => ?_)
      | with_reducible exact nat_trimM.mono k _
      | with_reducible refine Le.bind (Le.refl _) (fun _ => ?_)
      | split)
theorem nat_shl.mono (k : Nat) : ∀ x0 x1, Le (nat_shl.f k x0 x1) (nat_shl.f (k + 1) x0 x1) := by
  intro x0 x1
  unfold nat_shl.f
  repeat' (first
    | with_reducible exact Le.refl _
    | with_reducible refine Le.ite ?_ ?_
    | with_reducible exact (nat_shl.monoL k) _ _ _ _ _ _
    | with_reducible refine Le.bind (Le.refl _) (fun _ => ?_)
    | split)
theorem nat_small.monoL (k : Nat) : (∀ x0 x1 x2 x3 x4, Le (nat_small.l0 k x0 x1 x2 x3 x4) (nat_small.l0 (k + 1) x0 x1 x2 x3 x4)) := by
  induction k with
  | zero => exact fun _ _ _ _ _ => Le.none _
  | succ k ih =>
    intro x0 x1 x2 x3 x4
    refine Le.eqs (nat_small.l0.eq_2 ..) (nat_small.l0.eq_2 ..) ?_
    repeat' (first
      | with_reducible exact Le.refl _
      | with_reducible refine Le.ite ?_ ?_
      | with_reducible exact ih _ _ _ _ _
      | with_reducible refine Le.bind (ih _ _ _ _ _) (fun _ => ?_)
      | with_reducible refine Le.bind (nat_trim.mono k _) (fun _ => ?_)
      | with_reducible exact nat_trim.mono k _
      | with_reducible refine Le.bind (Le.refl _) (fun _ => ?_)
      | split)
theorem nat_small.mono (k : Nat) : ∀ x0 x1, Le (nat_small.f k x0 x1) (nat_small.f (k + 1) x0 x1) := by
  intro x0 x1
  unfold nat_small.f
  repeat' (first
    | with_reducible exact Le.refl _
    | with_reducible refine Le.ite ?_ ?_
    | with_reducible exact (nat_small.monoL k) _ _ _ _ _
    | with_reducible refine Le.bind (Le.refl _) (fun _ => ?_)
    | split)
theorem nat_take.monoL (k : Nat) : (∀ x0 x1 x2 x3 x4 x5 x6, Le (nat_take.l0 k x0 x1 x2 x3 x4 x5 x6) (nat_take.l0 (k + 1) x0 x1 x2 x3 x4 x5 x6)) := by
  induction k with
  | zero => exact fun _ _ _ _ _ _ _ => Le.none _
  | succ k ih =>
    intro x0 x1 x2 x3 x4 x5 x6
    refine Le.eqs (nat_take.l0.eq_2 ..) (nat_take.l0.eq_2 ..) ?_
    repeat' (first
      | with_reducible exact Le.refl _
      | with_reducible refine Le.ite ?_ ?_
      | with_reducible exact ih _ _ _ _ _ _ _
      | with_reducible refine Le.bind (ih _ _ _ _ _ _ _) (fun _ => ?_)
      | with_reducible refine Le.bind (Le.refl _) (fun _ => ?_)
      | split)
theorem nat_take.mono (k : Nat) : ∀ x0 x1 x2, Le (nat_take.f k x0 x1 x2) (nat_take.f (k + 1) x0 x1 x2) := by
  intro x0 x1 x2
  unfold nat_take.f
  repeat' (first
    | with_reducible exact Le.refl _
    | with_reducible refine Le.ite ?_ ?_
    | with_reducible exact (nat_take.monoL k) _ _ _ _ _ _ _
    | with_reducible refine Le.bind (Le.refl _) (fun _ => ?_)
    | split)
theorem nat_give.monoL (k : Nat) : (∀ x0 x1 x2 x3 x4, Le (nat_give.l0 k x0 x1 x2 x3 x4) (nat_give.l0 (k + 1) x0 x1 x2 x3 x4)) := by
  induction k with
  | zero => exact fun _ _ _ _ _ => Le.none _
  | succ k ih =>
    intro x0 x1 x2 x3 x4
    refine Le.eqs (nat_give.l0.eq_2 ..) (nat_give.l0.eq_2 ..) ?_
    repeat' (first
      | with_reducible exact Le.refl _
      | with_reducible refine Le.ite ?_ ?_
      | with_reducible exact ih _ _ _ _ _
      | with_reducible refine Le.bind (ih _ _ _ _ _) (fun _ => ?_)
      | with_reducible refine Le.bind (Le.refl _) (fun _ => ?_)
      | split)
theorem nat_give.mono (k : Nat) : ∀ x0 x1, Le (nat_give.f k x0 x1) (nat_give.f (k + 1) x0 x1) := by
  intro x0 x1
  unfold nat_give.f
  repeat' (first
    | with_reducible exact Le.refl _
    | with_reducible refine Le.ite ?_ ?_
    | with_reducible exact (nat_give.monoL k) _ _ _ _ _
    | with_reducible refine Le.bind (Le.refl _) (fun _ => ?_)
    | split)
theorem nat_digit.monoL (k : Nat) : (∀ x0 x1 x2 x3 x4, Le (nat_digit.l0 k x0 x1 x2 x3 x4) (nat_digit.l0 (k + 1) x0 x1 x2 x3 x4)) := by
  induction k with
  | zero => exact fun _ _ _ _ _ => Le.none _
  | succ k ih =>
    intro x0 x1 x2 x3 x4
    refine Le.eqs (nat_digit.l0.eq_2 ..) (nat_digit.l0.eq_2 ..) ?_
    repeat' (first
      | with_reducible exact Le.refl _
      | with_reducible refine Le.ite ?_ ?_
      | with_reducible exact ih _ _ _ _ _
      | with_reducible refine Le.bind (ih _ _ _ _ _) (fun _ => ?_)
      | with_reducible refine Le.bind (nat_take.mono k _ _ _) (fun _ => ?_)
      | with_reducible refine Le.bind (nat_give.mono k _ _) (fun _ => ?_)
      | with_reducible exact nat_take.mono k _ _ _
      | with_reducible exact nat_give.mono k _ _
      | with_reducible refine Le.bind (Le.refl _) (fun _ => ?_)
      | split)
theorem nat_digit.mono (k : Nat) : ∀ x0 x1, Le (nat_digit.f k x0 x1) (nat_digit.f (k + 1) x0 x1) := by
  intro x0 x1
  unfold nat_digit.f
  repeat' (first
    | with_reducible exact Le.refl _
    | with_reducible refine Le.ite ?_ ?_
    | with_reducible exact (nat_digit.monoL k) _ _ _ _ _
    | with_reducible refine Le.bind (Le.refl _) (fun _ => ?_)
    | split)
theorem nat_long.monoL (k : Nat) : (∀ x0 x1 x2 x3 x4 x5, Le (nat_long.l0 k x0 x1 x2 x3 x4 x5) (nat_long.l0 (k + 1) x0 x1 x2 x3 x4 x5)) := by
  induction k with
  | zero => exact fun _ _ _ _ _ _ => Le.none _
  | succ k ih =>
    intro x0 x1 x2 x3 x4 x5
    refine Le.eqs (nat_long.l0.eq_2 ..) (nat_long.l0.eq_2 ..) ?_
    repeat' (first
      | with_reducible exact Le.refl _
      | with_reducible refine Le.ite ?_ ?_
      | with_reducible exact ih _ _ _ _ _ _
      | with_reducible refine Le.bind (ih _ _ _ _ _ _) (fun _ => ?_)
      | with_reducible refine Le.bind (nat_digit.mono k _ _) (fun _ => ?_)
      | with_reducible refine Le.bind (nat_trim.mono k _) (fun _ => ?_)
      | with_reducible refine Le.bind (nat_shr.mono k _ _) (fun _ => ?_)
      | with_reducible exact nat_digit.mono k _ _
      | with_reducible exact nat_trim.mono k _
      | with_reducible exact nat_shr.mono k _ _
      | with_reducible refine Le.bind (Le.refl _) (fun _ => ?_)
      | split)
theorem nat_long.mono (k : Nat) : ∀ x0 x1, Le (nat_long.f k x0 x1) (nat_long.f (k + 1) x0 x1) := by
  intro x0 x1
  unfold nat_long.f
  repeat' (first
    | with_reducible exact Le.refl _
    | with_reducible refine Le.ite ?_ ?_
    | with_reducible exact (nat_long.monoL k) _ _ _ _ _ _
    | with_reducible refine Le.bind (nat_shl.mono k _ _) (fun _ => ?_)
    | with_reducible exact nat_shl.mono k _ _
    | with_reducible refine Le.bind (Le.refl _) (fun _ => ?_)
    | split)
theorem nat_DivMod.mono (k : Nat) : ∀ x0 x1, Le (nat_DivMod.f k x0 x1) (nat_DivMod.f (k + 1) x0 x1) := by
  intro x0 x1
  unfold nat_DivMod.f
  repeat' (first
    | with_reducible exact Le.refl _
    | with_reducible refine Le.ite ?_ ?_
    | with_reducible refine Le.bind (nat_Clean.mono k _) (fun _ => ?_)
    | with_reducible refine Le.bind (nat_order.mono k _ _) (fun _ => ?_)
    | with_reducible refine Le.bind (nat_small.mono k _ _) (fun _ => ?_)
    | with_reducible refine Le.bind (nat_Of.mono k _) (fun _ => ?_)
    | with_reducible refine Le.bind (nat_long.mono k _ _) (fun _ => ?_)
    | with_reducible exact nat_Clean.mono k _
    | with_reducible exact nat_order.mono k _ _
    | with_reducible exact nat_small.mono k _ _
    | with_reducible exact nat_Of.mono k _
    | with_reducible exact nat_long.mono k _ _
    | with_reducible refine Le.bind (Le.refl _) (fun _ => ?_)
    | split)
theorem nat_rest.mono (k : Nat) : ∀ x0 x1, Le (nat_rest.f k x0 x1) (nat_rest.f (k + 1) x0 x1) := by
  intro x0 x1
  unfold nat_rest.f
  repeat' (first
    | with_reducible exact Le.refl _
    | with_reducible refine Le.ite ?_ ?_
    | with_reducible refine Le.bind (nat_DivMod.mono k _ _) (fun _ => ?_)
    | with_reducible exact nat_DivMod.mono k _ _
    | with_reducible refine Le.bind (Le.refl _) (fun _ => ?_)
    | split)
theorem nat_minus.monoL (k : Nat) : (∀ x0 x1 x2 x3 x4 x5, Le (nat_minus.l0 k x0 x1 x2 x3 x4 x5) (nat_minus.l0 (k + 1) x0 x1 x2 x3 x4 x5)) := by
  induction k with
  | zero => exact fun _ _ _ _ _ _ => Le.none _
  | succ k ih =>
    intro x0 x1 x2 x3 x4 x5
    refine Le.eqs (nat_minus.l0.eq_2 ..) (nat_minus.l0.eq_2 ..) ?_
    repeat' (first
      | with_reducible exact Le.refl _
      | with_reducible refine Le.ite ?_ ?_
      | with_reducible exact ih _ _ _ _ _ _
      | with_reducible refine Le.bind (ih _ _ _ _ _ _) (fun _ => ?_)
      | with_reducible refine Le.bind (nat_trim.mono k _) (fun _ => ?_)
      | with_reducible exact nat_trim.mono k _
      | with_reducible refine Le.bind (Le.refl _) (fun _ => ?_)
      | split)
theorem nat_minus.mono (k : Nat) : ∀ x0 x1, Le (nat_minus.f k x0 x1) (nat_minus.f (k + 1) x0 x1) := by
  intro x0 x1
  unfold nat_minus.f
  repeat' (first
    | with_reducible exact Le.refl _
    | with_reducible refine Le.ite ?_ ?_
    | with_reducible exact (nat_minus.monoL k) _ _ _ _ _ _
    | with_reducible refine Le.bind (Le.refl _) (fun _ => ?_)
    | split)
theorem nat_Gcd.monoL (k : Nat) : (∀ x0 x1 x2 x3, Le (nat_Gcd.l0 k x0 x1 x2 x3) (nat_Gcd.l0 (k + 1) x0 x1 x2 x3)) := by
  induction k with
  | zero => exact fun _ _ _ _ => Le.none _
  | succ k ih =>
    intro x0 x1 x2 x3
    refine Le.eqs (nat_Gcd.l0.eq_2 ..) (nat_Gcd.l0.eq_2 ..) ?_
    repeat' (first
      | with_reducible exact Le.refl _
      | with_reducible refine Le.ite ?_ ?_
      | with_reducible exact ih _ _ _ _
      | with_reducible refine Le.bind (ih _ _ _ _) (fun _ => ?_)
      | with_reducible refine Le.bind (nat_order.mono k _ _) (fun _ => ?_)
      | with_reducible refine Le.bind (nat_shl.mono k _ _) (fun _ => ?_)
      | with_reducible refine Le.bind (nat_rest.mono k _ _) (fun _ => ?_)
      | with_reducible refine Le.bind (nat_zeros.mono k _) (fun _ => ?_)
      | with_reducible refine Le.bind (nat_shr.mono k _ _) (fun _ => ?_)
      | with_reducible refine Le.bind (nat_minus.mono k _ _) (fun _ => ?_)
      | with_reducible exact nat_order.mono k _ _
      | with_reducible exact nat_shl.mono k _ _
      | with_reducible exact nat_rest.mono k _ _
      | with_reducible exact nat_zeros.mono k _
      | with_reducible exact nat_shr.mono k _ _
      | with_reducible exact nat_minus.mono k _ _
      | with_reducible refine Le.bind (Le.refl _) (fun _ => ?_)
      | split)
theorem nat_Gcd.mono (k : Nat) : ∀ x0 x1, Le (nat_Gcd.f k x0 x1) (nat_Gcd.f (k + 1) x0 x1) := by
  intro x0 x1
  unfold nat_Gcd.f
  repeat' (first
    | with_reducible exact Le.refl _
    | with_reducible refine Le.ite ?_ ?_
    | with_reducible exact (nat_Gcd.monoL k) _ _ _ _
    | with_reducible refine Le.bind (nat_Clean.mono k _) (fun _ => ?_)
    | with_reducible refine Le.bind (nat_euclid.mono k _ _) (fun _ => ?_)
    | with_reducible refine Le.bind (nat_zeros.mono k _) (fun _ => ?_)
    | with_reducible refine Le.bind (nat_shr.mono k _ _) (fun _ => ?_)
    | with_reducible exact nat_Clean.mono k _
    | with_reducible exact nat_euclid.mono k _ _
    | with_reducible exact nat_zeros.mono k _
    | with_reducible exact nat_shr.mono k _ _
    | with_reducible refine Le.bind (Le.refl _) (fun _ => ?_)
    | split)
theorem ratio_form.mono (k : Nat) : ∀ x0 x1 x2, Le (ratio_form.f k x0 x1 x2) (ratio_form.f (k + 1) x0 x1 x2) := by
  intro x0 x1 x2
  unfold ratio_form.f
  repeat' (first
    | with_reducible exact Le.refl _
    | with_reducible refine Le.ite ?_ ?_
    | with_reducible refine Le.bind (nat_Of.mono k _) (fun _ => ?_)
    | with_reducible refine Le.bind (nat_Gcd.mono k _ _) (fun _ => ?_)
    | with_reducible refine Le.bind (nat_DivMod.mono k _ _) (fun _ => ?_)
    | with_reducible exact nat_Of.mono k _
    | with_reducible exact nat_Gcd.mono k _ _
    | with_reducible exact nat_DivMod.mono k _ _
    | with_reducible refine Le.bind (Le.refl _) (fun _ => ?_)
    | split)
theorem ratio_Zero.mono (k : Nat) : Le (ratio_Zero.f k ) (ratio_Zero.f (k + 1) ) := by
  unfold ratio_Zero.f
  repeat' (first
    | with_reducible exact Le.refl _
    | with_reducible refine Le.ite ?_ ?_
    | with_reducible refine Le.bind (nat_Of.mono k _) (fun _ => ?_)
    | with_reducible exact nat_Of.mono k _
    | with_reducible refine Le.bind (Le.refl _) (fun _ => ?_)
    | split)
theorem ratio_Clean.mono (k : Nat) : ∀ x0 x1 x2, Le (ratio_Clean.f k x0 x1 x2) (ratio_Clean.f (k + 1) x0 x1 x2) := by
  intro x0 x1 x2
  unfold ratio_Clean.f
  repeat' (first
    | with_reducible exact Le.refl _
    | with_reducible refine Le.ite ?_ ?_
    | with_reducible refine Le.bind (nat_Clean.mono k _) (fun _ => ?_)
    | with_reducible refine Le.bind (ratio_Zero.mono k ) (fun _ => ?_)
    | with_reducible refine Le.bind (whole_Clean.mono k _ _) (fun _ => ?_)
    | with_reducible refine Le.bind (ratio_form.mono k _ _ _) (fun _ => ?_)
    | with_reducible exact nat_Clean.mono k _
    | with_reducible exact ratio_Zero.mono k 
    | with_reducible exact whole_Clean.mono k _ _
    | with_reducible exact ratio_form.mono k _ _ _
    | with_reducible refine Le.bind (Le.refl _) (fun _ => ?_)
    | split)
theorem nat_Add.monoL (k : Nat) : (∀ x0 x1 x2 x3 x4 x5, Le (nat_Add.l0 k x0 x1 x2 x3 x4 x5) (nat_Add.l0 (k + 1) x0 x1 x2 x3 x4 x5)) := by
  induction k with
  | zero => exact fun _ _ _ _ _ _ => Le.none _
  | succ k ih =>
    intro x0 x1 x2 x3 x4 x5
    refine Le.eqs (nat_Add.l0.eq_2 ..) (nat_Add.l0.eq_2 ..) ?_
    repeat' (first
      | with_reducible exact Le.refl _
      | with_reducible refine Le.ite ?_ ?_
      | with_reducible exact ih _ _ _ _ _ _
      | with_reducible refine Le.bind (ih _ _ _ _ _ _) (fun _ => ?_)
      | with_reducible refine Le.bind (nat_trim.mono k _) (fun _ => ?_)
      | with_reducible exact nat_trim.mono k _
      | with_reducible refine Le.bind (Le.refl _) (fun _ => ?_)
      | split)
theorem nat_Add.mono (k : Nat) : ∀ x0 x1, Le (nat_Add.f k x0 x1) (nat_Add.f (k + 1) x0 x1) := by
  intro x0 x1
  unfold nat_Add.f
  repeat' (first
    | with_reducible exact Le.refl _
    | with_reducible refine Le.ite ?_ ?_
    | with_reducible exact (nat_Add.monoL k) _ _ _ _ _ _
    | with_reducible refine Le.bind (nat_Clean.mono k _) (fun _ => ?_)
    | with_reducible exact nat_Clean.mono k _
    | with_reducible refine Le.bind (Le.refl _) (fun _ => ?_)
    | split)
theorem ratio_Neg.mono (k : Nat) : ∀ x0 x1 x2, Le (ratio_Neg.f k x0 x1 x2) (ratio_Neg.f (k + 1) x0 x1 x2) := by
  intro x0 x1 x2
  unfold ratio_Neg.f
  repeat' (first
    | with_reducible exact Le.refl _
    | with_reducible refine Le.ite ?_ ?_
    | with_reducible refine Le.bind (ratio_Clean.mono k _ _ _) (fun _ => ?_)
    | with_reducible refine Le.bind (whole_Neg.mono k _ _) (fun _ => ?_)
    | with_reducible exact ratio_Clean.mono k _ _ _
    | with_reducible exact whole_Neg.mono k _ _
    | with_reducible refine Le.bind (Le.refl _) (fun _ => ?_)
    | split)
theorem nat_Mul.monoL (k : Nat) : (∀ x0 x1 x2 x3 x4, Le (nat_Mul.l0 k x0 x1 x2 x3 x4) (nat_Mul.l0 (k + 1) x0 x1 x2 x3 x4)) ∧ (∀ x0 x1 x2 x3 x4 x5 x6 x7 x8 x9 x10, Le (nat_Mul.l1 k x0 x1 x2 x3 x4 x5 x6 x7 x8 x9 x10) (nat_Mul.l1 (k + 1) x0 x1 x2 x3 x4 x5 x6 x7 x8 x9 x10)) := by
  induction k with
  | zero => exact ⟨fun _ _ _ _ _ => Le.none _, fun _ _ _ _ _ _ _ _ _ _ _ => Le.none _⟩
  | succ k ih =>
    refine ⟨?_, ?_⟩
    · intro x0 x1 x2 x3 x4
      refine Le.eqs (nat_Mul.l0.eq_2 ..) (nat_Mul.l0.eq_2 ..) ?_
      repeat' (first
        | with_reducible exact Le.refl _
        | with_reducible refine Le.ite ?_ ?_
        | with_reducible exact ih.2 _ _ _ _ _ _ _ _ _ _ _
        | with_reducible refine Le.bind (ih.2 _ _ _ _ _ _ _ _ _ _ _) (fun _ => ?_)
        | with_reducible refine Le.bind (nat_trim.mono k _) (fun _ => ?_)
        | with_reducible exact nat_trim.mono k _
        | with_reducible refine Le.bind (Le.refl _) (fun _ => ?_)
        | split)
    · intro x0 x1 x2 x3 x4 x5 x6 x7 x8 x9 x10
      refine Le.eqs (nat_Mul.l1.eq_2 ..) (nat_Mul.l1.eq_2 ..) ?_
      repeat' (first
        | with_reducible exact Le.refl _
        | with_reducible refine Le.ite ?_ ?_
        | with_reducible exact ih.1 _ _ _ _ _
        | with_reducible refine Le.bind (ih.1 _ _ _ _ _) (fun _ => ?_)
        | with_reducible exact ih.2 _ _ _ _ _ _ _ _ _ _ _
        | with_reducible refine Le.bind (ih.2 _ _ _ _ _ _ _ _ _ _ _) (fun _ => ?_)
        | with_reducible refine Le.bind (Le.refl _) (fun _ => ?_)
        | split)
theorem nat_Mul.mono (k : Nat) : ∀ x0 x1, Le (nat_Mul.f k x0 x1) (nat_Mul.f (k + 1) x0 x1) := by
  intro x0 x1
  unfold nat_Mul.f
  repeat' (first
    | with_reducible exact Le.refl _
    | with_reducible refine Le.ite ?_ ?_
    | with_reducible exact (nat_Mul.monoL k).1 _ _ _ _ _
    | with_reducible refine Le.bind (nat_Clean.mono k _) (fun _ => ?_)
    | with_reducible exact nat_Clean.mono k _
    | with_reducible refine Le.bind (Le.refl _) (fun _ => ?_)
    | split)
theorem ratio_ten.monoL (k : Nat) : (∀ x0 x1 x2, Le (ratio_ten.l0 k x0 x1 x2) (ratio_ten.l0 (k + 1) x0 x1 x2)) := by
  induction k with
  | zero => exact fun _ _ _ => Le.none _
  | succ k ih =>
    intro x0 x1 x2
    refine Le.eqs (ratio_ten.l0.eq_2 ..) (ratio_ten.l0.eq_2 ..) ?_
    repeat' (first
      | with_reducible exact Le.refl _
      | with_reducible refine Le.ite ?_ ?_
      | with_reducible exact ih _ _ _
      | with_reducible refine Le.bind (ih _ _ _) (fun _ => ?_)
      | with_reducible refine Le.bind (nat_Of.mono k _) (fun _ => ?_)
      | with_reducible refine Le.bind (nat_Mul.mono k _ _) (fun _ => ?_)
      | with_reducible exact nat_Of.mono k _
      | with_reducible exact nat_Mul.mono k _ _
      | with_reducible refine Le.bind (Le.refl _) (fun _ => ?_)
      | split)
theorem ratio_ten.mono (k : Nat) : ∀ x0, Le (ratio_ten.f k x0) (ratio_ten.f (k + 1) x0) := by
  intro x0
  unfold ratio_ten.f
  repeat' (first
    | with_reducible exact Le.refl _
    | with_reducible refine Le.ite ?_ ?_
    | with_reducible exact (ratio_ten.monoL k) _ _ _
    | with_reducible refine Le.bind (nat_Of.mono k _) (fun _ => ?_)
    | with_reducible exact nat_Of.mono k _
    | with_reducible refine Le.bind (Le.refl _) (fun _ => ?_)
    | split)
theorem stringslite_Index.mono (k : Nat) : ∀ x0 x1, Le (stringslite_Index.f k x0 x1) (stringslite_Index.f (k + 1) x0 x1) := by
  intro x0 x1
  unfold stringslite_Index.f
  repeat' (first
    | with_reducible exact Le.refl _
    | with_reducible refine Le.ite ?_ ?_
    | with_reducible refine Le.bind (Le.refl _) (fun _ => ?_)
    | split)
theorem stringslite_Cut.mono (k : Nat) : ∀ x0 x1, Le (stringslite_Cut.f k x0 x1) (stringslite_Cut.f (k + 1) x0 x1) := by
  intro x0 x1
  unfold stringslite_Cut.f
  repeat' (first
    | with_reducible exact Le.refl _
    | with_reducible refine Le.ite ?_ ?_
    | with_reducible refine Le.bind (stringslite_Index.mono k _ _) (fun _ => ?_)
    | with_reducible exact stringslite_Index.mono k _ _
    | with_reducible refine Le.bind (Le.refl _) (fun _ => ?_)
    | split)
theorem strings_Cut.mono (k : Nat) : ∀ x0 x1, Le (strings_Cut.f k x0 x1) (strings_Cut.f (k + 1) x0 x1) := by
  intro x0 x1
  unfold strings_Cut.f
  repeat' (first
    | with_reducible exact Le.refl _
    | with_reducible refine Le.ite ?_ ?_
    | with_reducible refine Le.bind (stringslite_Cut.mono k _ _) (fun _ => ?_)
    | with_reducible exact stringslite_Cut.mono k _ _
    | with_reducible refine Le.bind (Le.refl _) (fun _ => ?_)
    | split)
theorem nat_plus.monoL (k : Nat) : (∀ x0 x1 x2 x3 x4, Le (nat_plus.l0 k x0 x1 x2 x3 x4) (nat_plus.l0 (k + 1) x0 x1 x2 x3 x4)) := by
  induction k with
  | zero => exact fun _ _ _ _ _ => Le.none _
  | succ k ih =>
    intro x0 x1 x2 x3 x4
    refine Le.eqs (nat_plus.l0.eq_2 ..) (nat_plus.l0.eq_2 ..) ?_
    repeat' (first
      | with_reducible exact Le.refl _
      | with_reducible refine Le.ite ?_ ?_
      | with_reducible exact ih _ _ _ _ _
      | with_reducible refine Le.bind (ih _ _ _ _ _) (fun _ => ?_)
      | with_reducible refine Le.bind (nat_trim.mono k _) (fun _ => ?_)
      | with_reducible exact nat_trim.mono k _
      | with_reducible refine Le.bind (Le.refl _) (fun _ => ?_)
      | split)
theorem nat_plus.mono (k : Nat) : ∀ x0 x1, Le (nat_plus.f k x0 x1) (nat_plus.f (k + 1) x0 x1) := by
  intro x0 x1
  unfold nat_plus.f
  repeat' (first
    | with_reducible exact Le.refl _
    | with_reducible refine Le.ite ?_ ?_
    | with_reducible exact (nat_plus.monoL k) _ _ _ _ _
    | with_reducible refine Le.bind (Le.refl _) (fun _ => ?_)
    | split)
theorem nat_Parse.monoL (k : Nat) : (∀ x0 x1 x2, Le (nat_Parse.l0 k x0 x1 x2) (nat_Parse.l0 (k + 1) x0 x1 x2)) ∧ (∀ x0 x1, Le (nat_Parse.l1 k x0 x1) (nat_Parse.l1 (k + 1) x0 x1)) ∧ (∀ x0 x1 x2 x3 x4 x5 x6, Le (nat_Parse.l2 k x0 x1 x2 x3 x4 x5 x6) (nat_Parse.l2 (k + 1) x0 x1 x2 x3 x4 x5 x6)) := by
  induction k with
  | zero => exact ⟨fun _ _ _ => Le.none _, fun _ _ => Le.none _, fun _ _ _ _ _ _ _ => Le.none _⟩
  | succ k ih =>
    refine ⟨?_, ?_, ?_⟩
    · intro x0 x1 x2
      refine Le.eqs (nat_Parse.l0.eq_2 ..) (nat_Parse.l0.eq_2 ..) ?_
      repeat' (first
        | with_reducible exact Le.refl _
        | with_reducible refine Le.ite ?_ ?_
        | with_reducible exact ih.1 _ _ _
        | with_reducible refine Le.bind (ih.1 _ _ _) (fun _ => ?_)
        | with_reducible exact ih.2.1 _ _
        | with_reducible refine Le.bind (ih.2.1 _ _) (fun _ => ?_)
        | with_reducible refine Le.bind (Le.refl _) (fun _ => ?_)
        | split)
    · intro x0 x1
      refine Le.eqs (nat_Parse.l1.eq_2 ..) (nat_Parse.l1.eq_2 ..) ?_
      repeat' (first
        | with_reducible exact Le.refl _
        | with_reducible refine Le.ite ?_ ?_
        | with_reducible exact ih.2.2 _ _ _ _ _ _ _
        | with_reducible refine Le.bind (ih.2.2 _ _ _ _ _ _ _) (fun _ => ?_)
        | with_reducible refine Le.bind (Le.refl _) (fun _ => ?_)
        | split)
    · intro x0 x1 x2 x3 x4 x5 x6
      refine Le.eqs (nat_Parse.l2.eq_2 ..) (nat_Parse.l2.eq_2 ..) ?_
      repeat' (first
        | with_reducible exact Le.refl _
        | with_reducible refine Le.ite ?_ ?_
        | with_reducible exact ih.2.1 _ _
        | with_reducible refine Le.bind (ih.2.1 _ _) (fun _ => ?_)
        | with_reducible exact ih.2.2 _ _ _ _ _ _ _
        | with_reducible refine Le.bind (ih.2.2 _ _ _ _ _ _ _) (fun _ => ?_)
        | with_reducible refine Le.bind (nat_plus.mono k _ _) (fun _ => ?_)
        | with_reducible exact nat_plus.mono k _ _
        | with_reducible refine Le.bind (Le.refl _) (fun _ => ?_)
        | split)
theorem nat_Parse.mono (k : Nat) : ∀ x0, Le (nat_Parse.f k x0) (nat_Parse.f (k + 1) x0) := by
  intro x0
  unfold nat_Parse.f
  repeat' (first
    | with_reducible exact Le.refl _
    | with_reducible refine Le.ite ?_ ?_
    | with_reducible exact (nat_Parse.monoL k).1 _ _ _
    | with_reducible refine Le.bind (Le.refl _) (fun _ => ?_)
    | split)
theorem ratio_plain.mono (k : Nat) : ∀ x0, Le (ratio_plain.f k x0) (ratio_plain.f (k + 1) x0) := by
  intro x0
  unfold ratio_plain.f
  repeat' (first
    | with_reducible exact Le.refl _
    | with_reducible refine Le.ite ?_ ?_
    | with_reducible refine Le.bind (strings_Cut.mono k _ _) (fun _ => ?_)
    | with_reducible refine Le.bind (nat_Parse.mono k _) (fun _ => ?_)
    | with_reducible refine Le.bind (ratio_form.mono k _ _ _) (fun _ => ?_)
    | with_reducible refine Le.bind (ratio_ten.mono k _) (fun _ => ?_)
    | with_reducible refine Le.bind (nat_Mul.mono k _ _) (fun _ => ?_)
    | with_reducible refine Le.bind (nat_Add.mono k _ _) (fun _ => ?_)
    | with_reducible refine Le.bind (nat_Of.mono k _) (fun _ => ?_)
    | with_reducible exact strings_Cut.mono k _ _
    | with_reducible exact nat_Parse.mono k _
    | with_reducible exact ratio_form.mono k _ _ _
    | with_reducible exact ratio_ten.mono k _
    | with_reducible exact nat_Mul.mono k _ _
    | with_reducible exact nat_Add.mono k _ _
    | with_reducible exact nat_Of.mono k _
    | with_reducible refine Le.bind (Le.refl _) (fun _ => ?_)
    | split)
theorem ratio_Parse.mono (k : Nat) : ∀ x0, Le (ratio_Parse.f k x0) (ratio_Parse.f (k + 1) x0) := by
  intro x0
  unfold ratio_Parse.f
  repeat' (first
    | with_reducible exact Le.refl _
    | with_reducible refine Le.ite ?_ ?_
    | with_reducible refine Le.bind (ratio_plain.mono k _) (fun _ => ?_)
    | with_reducible refine Le.bind (ratio_Neg.mono k _ _ _) (fun _ => ?_)
    | with_reducible exact ratio_plain.mono k _
    | with_reducible exact ratio_Neg.mono k _ _ _
    | with_reducible refine Le.bind (Le.refl _) (fun _ => ?_)
    | split)
theorem lex_Words.monoL (k : Nat) : (∀ x0 x1 x2, Le (lex_Words.l0 k x0 x1 x2) (lex_Words.l0 (k + 1) x0 x1 x2)) ∧ (∀ x0 x1 x2 x3, Le (lex_Words.l1 k x0 x1 x2 x3) (lex_Words.l1 (k + 1) x0 x1 x2 x3)) := by
  induction k with
  | zero => exact ⟨fun _ _ _ => Le.none _, fun _ _ _ _ => Le.none _⟩
  | succ k ih =>
    refine ⟨?_, ?_⟩
    · intro x0 x1 x2
      refine Le.eqs (lex_Words.l0.eq_2 ..) (lex_Words.l0.eq_2 ..) ?_
      repeat' (first
        | with_reducible exact Le.refl _
        | with_reducible refine Le.ite ?_ ?_
        | with_reducible exact ih.1 _ _ _
        | with_reducible refine Le.bind (ih.1 _ _ _) (fun _ => ?_)
        | with_reducible exact ih.2 _ _ _ _
        | with_reducible refine Le.bind (ih.2 _ _ _ _) (fun _ => ?_)
        | with_reducible refine Le.bind (Le.refl _) (fun _ => ?_)
        | split)
    · intro x0 x1 x2 x3
      refine Le.eqs (lex_Words.l1.eq_2 ..) (lex_Words.l1.eq_2 ..) ?_
      repeat' (first
        | with_reducible exact Le.refl _
        | with_reducible refine Le.ite ?_ ?_
        | with_reducible exact ih.1 _ _ _
        | with_reducible refine Le.bind (ih.1 _ _ _) (fun _ => ?_)
        | with_reducible exact ih.2 _ _ _ _
        | with_reducible refine Le.bind (ih.2 _ _ _ _) (fun _ => ?_)
        | with_reducible refine Le.bind (Le.refl _) (fun _ => ?_)
        | split)
theorem lex_Words.mono (k : Nat) : ∀ x0, Le (lex_Words.f k x0) (lex_Words.f (k + 1) x0) := by
  intro x0
  unfold lex_Words.f
  repeat' (first
    | with_reducible exact Le.refl _
    | with_reducible refine Le.ite ?_ ?_
    | with_reducible exact (lex_Words.monoL k).1 _ _ _
    | with_reducible refine Le.bind (Le.refl _) (fun _ => ?_)
    | split)
theorem rows_Cell.mono (k : Nat) : ∀ x0, Le (rows_Cell.f k x0) (rows_Cell.f (k + 1) x0) := by
  intro x0
  unfold rows_Cell.f
  repeat' (first
    | with_reducible exact Le.refl _
    | with_reducible refine Le.ite ?_ ?_
    | with_reducible refine Le.bind (ratio_Parse.mono k _) (fun _ => ?_)
    | with_reducible exact ratio_Parse.mono k _
    | with_reducible refine Le.bind (Le.refl _) (fun _ => ?_)
    | split)
theorem rows_Words.monoL (k : Nat) : (∀ x0 x1 x2 x3, Le (rows_Words.l0 k x0 x1 x2 x3) (rows_Words.l0 (k + 1) x0 x1 x2 x3)) := by
  induction k with
  | zero => exact fun _ _ _ _ => Le.none _
  | succ k ih =>
    intro x0 x1 x2 x3
    refine Le.eqs (rows_Words.l0.eq_2 ..) (rows_Words.l0.eq_2 ..) ?_
    repeat' (first
      | with_reducible exact Le.refl _
      | with_reducible refine Le.ite ?_ ?_
      | with_reducible exact ih _ _ _ _
      | with_reducible refine Le.bind (ih _ _ _ _) (fun _ => ?_)
      | with_reducible refine Le.bind (rows_Cell.mono k _) (fun _ => ?_)
      | with_reducible exact rows_Cell.mono k _
      | with_reducible refine Le.bind (Le.refl _) (fun _ => ?_)
      | split)
theorem rows_Words.mono (k : Nat) : ∀ x0, Le (rows_Words.f k x0) (rows_Words.f (k + 1) x0) := by
  intro x0
  unfold rows_Words.f
  repeat' (first
    | with_reducible exact Le.refl _
    | with_reducible refine Le.ite ?_ ?_
    | with_reducible exact (rows_Words.monoL k) _ _ _ _
    | with_reducible refine Le.bind (Le.refl _) (fun _ => ?_)
    | split)
theorem rows_Row.mono (k : Nat) : ∀ x0, Le (rows_Row.f k x0) (rows_Row.f (k + 1) x0) := by
  intro x0
  unfold rows_Row.f
  repeat' (first
    | with_reducible exact Le.refl _
    | with_reducible refine Le.ite ?_ ?_
    | with_reducible refine Le.bind (lex_Words.mono k _) (fun _ => ?_)
    | with_reducible refine Le.bind (rows_Words.mono k _) (fun _ => ?_)
    | with_reducible exact lex_Words.mono k _
    | with_reducible exact rows_Words.mono k _
    | with_reducible refine Le.bind (Le.refl _) (fun _ => ?_)
    | split)
theorem rows_Rows.monoL (k : Nat) : (∀ x0 x1 x2 x3, Le (rows_Rows.l0 k x0 x1 x2 x3) (rows_Rows.l0 (k + 1) x0 x1 x2 x3)) := by
  induction k with
  | zero => exact fun _ _ _ _ => Le.none _
  | succ k ih =>
    intro x0 x1 x2 x3
    refine Le.eqs (rows_Rows.l0.eq_2 ..) (rows_Rows.l0.eq_2 ..) ?_
    repeat' (first
      | with_reducible exact Le.refl _
      | with_reducible refine Le.ite ?_ ?_
      | with_reducible exact ih _ _ _ _
      | with_reducible refine Le.bind (ih _ _ _ _) (fun _ => ?_)
      | with_reducible refine Le.bind (rows_Words.mono k _) (fun _ => ?_)
      | with_reducible exact rows_Words.mono k _
      | with_reducible refine Le.bind (Le.refl _) (fun _ => ?_)
      | split)
theorem rows_Rows.mono (k : Nat) : ∀ x0, Le (rows_Rows.f k x0) (rows_Rows.f (k + 1) x0) := by
  intro x0
  unfold rows_Rows.f
  repeat' (first
    | with_reducible exact Le.refl _
    | with_reducible refine Le.ite ?_ ?_
    | with_reducible exact (rows_Rows.monoL k) _ _ _ _
    | with_reducible refine Le.bind (lex_Words.mono k _) (fun _ => ?_)
    | with_reducible exact lex_Words.mono k _
    | with_reducible refine Le.bind (Le.refl _) (fun _ => ?_)
    | split)
theorem dendronlaw09_awake.mono (k : Nat) : Le (dendronlaw09_awake.f k ) (dendronlaw09_awake.f (k + 1) ) := by
  unfold dendronlaw09_awake.f
  repeat' (first
    | with_reducible exact Le.refl _
    | with_reducible refine Le.ite ?_ ?_
    | with_reducible refine Le.bind (rows_Row.mono k _) (fun _ => ?_)
    | with_reducible refine Le.bind (rows_Rows.mono k _) (fun _ => ?_)
    | with_reducible exact rows_Row.mono k _
    | with_reducible exact rows_Rows.mono k _
    | with_reducible refine Le.bind (Le.refl _) (fun _ => ?_)
    | split)
end Go.DI.Th
namespace Go.DI.Th
open Go Go.RowKit Go.DI
theorem awake09_ev : Ev (fun k => dendronlaw09_awake.f k) true := Ev.mono (K := 400) dendronlaw09_awake.mono (by decide +kernel)
end Go.DI.Th
namespace Go.DI.Th
open Go Go.RowKit Go.DI

end Go.DI.Th
namespace Go.DI.Th
open Go Go.RowKit Go.DI

abbrev Ce := Bool × Rt
def sameC (a b : Ce) : Bool := if a.1 = true ∨ b.1 = true then a.1 == b.1 else decide (rv a.2 = rv b.2)
theorem sameC_refl (a : Ce) : sameC a a = true := by
  unfold sameC
  split
  · exact beq_self_eq_true _
  · exact decide_eq_true rfl
end Go.DI.Th
namespace Go.DI.Th
open Go Go.RowKit Go.DI

abbrev Tk := Int × Int × ByteArray
abbrev tk0 : Tk := (0, 0, ByteArray.empty)
def isBar (t : Tk) : Prop := t.2.2.toList = [124]
instance (t : Tk) : Decidable (isBar t) := by unfold isBar; infer_instance
theorem bar_eq (t : Tk) : t.2.2 = (⟨#[124]⟩ : ByteArray) ↔ isBar t := by
  unfold isBar
  have e : (⟨#[124]⟩ : ByteArray).toList = [124] := by decide +kernel
  constructor
  · intro h; rw [h]; exact e
  · intro h
    rw [ByteArray.toList_eq] at h
    exact toL_inj h
inductive Jn : List (List Tk) → List Tk → Prop
  | one (p : List Tk) : (∀ t ∈ p, ¬ isBar t) → Jn [p] p
  | more (p : List Tk) (t : Tk) (ps : List (List Tk)) (r : List Tk) : (∀ t ∈ p, ¬ isBar t) → isBar t → Jn ps r → Jn (p :: ps) (p ++ t :: r)
end Go.DI.Th
namespace Go.DI.Th
open Go Go.RowKit Go.DI

theorem dsame_evB (a b : Ce) (ha : RtB 30000 a.2) (hb : RtB 30000 b.2) : Ev (fun k => dendronref09_Same.f k a.1 a.2.1 a.2.2.1 a.2.2.2 b.1 b.2.1 b.2.2.1 b.2.2.2) (sameC a b) := by
  obtain ⟨x, hx, ex⟩ := D.FL.from ha (by decide)
  obtain ⟨y, hy, ey⟩ := D.FL.from hb (by decide)
  have ho := hx.order hy (by decide)
  have e1 : a.1 = true ∨ b.1 = true → sameC a b = (a.1 == b.1) := fun h => if_pos h
  have e2 : ¬ (a.1 = true ∨ b.1 = true) → sameC a b = decide (rv a.2 = rv b.2) := fun h => if_neg h
  unfold dendronref09_Same.f
  by_cases h1 : a.1 = true
  · rw [e1 (Or.inl h1)]
    exact Ev.if_pos h1 (Ev.if_pos h1 ((Ev.now _).of_eq (by rw [h1]; cases b.1 <;> rfl)))
  · by_cases h2 : b.1 = true
    · rw [e1 (Or.inr h2)]
      exact Ev.if_neg h1 (Ev.if_pos h2 (Ev.if_neg h1 ((Ev.now _).of_eq (by rw [h2, Bool.eq_false_iff.2 h1]; rfl))))
    · rw [e2 (fun h => h.elim h1 h2)]
      refine Ev.if_neg h1 (Ev.if_neg h2 (Ev.bind ex (Ev.bind ey (Ev.bind ho ((Ev.now _).of_eq ?_)))))
      rw [Bool.eq_iff_iff, beq_iff_eq, decide_eq_true_iff]
      exact cmpQ_zero
def qB : ByteArray := ⟨#[63]⟩
abbrev CRt := Bool × Bool × List Int × List Int × Int
def CR (s : ByteArray) : CRt := if s = qB then (true, false, [], [], 0) else if prE (toL s) = 0 then (false, (cn (prV (toL s))).1, (cn (prV (toL s))).2.1, (cn (prV (toL s))).2.2, 0) else (false, false, [], [], prE (toL s))
theorem cell_ev (s : ByteArray) (hs : s.size ≤ 1000000) : Ev (fun k => rows_Cell.f k s) (CR s) := by
  have hp := rparse_ev s (by omega)
  unfold rows_Cell.f CR
  by_cases h : s = qB
  · rw [if_pos h]
    exact Ev.if_pos h (Ev.now _)
  · rw [if_neg h]
    refine Ev.if_neg h (Ev.bind hp ?_)
    unfold rR
    by_cases he : prE (toL s) = 0
    · rw [if_pos he, if_pos he]
      exact Ev.if_neg (fun e => e rfl) (Ev.now _)
    · rw [if_neg he, if_neg he]
      exact Ev.if_pos he (Ev.now _)
theorem dcell_ev (s : ByteArray) (hs : s.size ≤ 1000000) : Ev (fun k => dendronlaw09_cell.f k s) (CR s) := by
  have hp := rparse_ev s (by omega)
  unfold dendronlaw09_cell.f CR
  by_cases h : s = qB
  · rw [if_pos h]
    exact Ev.if_pos h (Ev.now _)
  · rw [if_neg h]
    refine Ev.if_neg h (Ev.bind hp ((Ev.now _).of_eq ?_))
    unfold rR
    by_cases he : prE (toL s) = 0
    · rw [if_pos he, if_pos he]
    · rw [if_neg he, if_neg he]
theorem rtb_nil : RtB 30000 ((false, [], []) : Rt) := ⟨fun x hx => (by cases hx), fun x hx => (by cases hx), by decide, by decide⟩
theorem CR_B (s : ByteArray) : RtB 30000 ((CR s).2.1, (CR s).2.2.1, (CR s).2.2.2.1) := by
  unfold CR
  split
  · exact rtb_nil
  · split
    · rename_i h
      exact cnB _ (Nat.le_trans (prV_sz h) (by decide))
    · exact rtb_nil
end Go.DI.Th
namespace Go.DI.Th
open Go Go.RowKit Go.DI

abbrev WRes := List Ce × Int × Int
def WF (acc : List Ce) : List Tk → WRes
  | [] => (acc, 0, 0)
  | t :: r => if (CR t.2.2).2.2.2.2 ≠ 0 then ([], t.1, (CR t.2.2).2.2.2.2) else WF (acc ++ [((CR t.2.2).1, (CR t.2.2).2.1, (CR t.2.2).2.2.1, (CR t.2.2).2.2.2.1)]) r
def TkZ (l : List Tk) : Prop := ∀ t ∈ l, t.2.2.size ≤ 1000000
theorem words9_l0 (l : List Tk) (hz : TkZ l) (hl : l.length ≤ 100000) : ∀ (b a : List Tk) (acc : List Ce), l = a ++ b → acc.length = a.length → Ev (fun k => rows_Words.l0 k acc l (l.length : Int) (a.length : Int)) (WF acc b) := by
  intro b
  induction b with
  | nil =>
    intro a acc h ha
    rw [List.append_nil] at h
    refine Ev.succ ?_
    simp only [rows_Words.l0]
    exact Ev.if_neg (by rw [h]; omega) (Ev.now _)
  | cons t b ih =>
    intro a acc h ha
    have g : gt tk0 l (a.length : Int) = t := by rw [h]; exact gt_at _ a t b
    have hll : l.length = a.length + (b.length + 1) := by rw [h, List.length_append, List.length_cons]
    have hc := cell_ev t.2.2 (hz t (by rw [h]; simp))
    have hih := ih (a ++ [t]) (acc ++ [((CR t.2.2).1, (CR t.2.2).2.1, (CR t.2.2).2.2.1, (CR t.2.2).2.2.2.1)]) (by rw [h]; simp) (by rw [List.length_append, List.length_append, ha]; rfl)
    rw [List.length_append, List.length_singleton] at hih
    refine Ev.succ ?_
    simp only [rows_Words.l0, g, wr_succ a.length (show a.length ≤ 1125899906842624 by omega)]
    refine Ev.if_pos (by omega) (Ev.if_pos (nn0 _) (Ev.if_pos (by omega) (Ev.bind hc ?_)))
    rw [WF]
    by_cases he : (CR t.2.2).2.2.2.2 ≠ 0
    · rw [if_pos he]
      exact Ev.if_pos he (Ev.now _)
    · rw [if_neg he]
      exact Ev.if_neg he (Ev.if_pos (by omega) hih)
theorem words9_ev (l : List Tk) (hz : TkZ l) (hl : l.length ≤ 100000) : Ev (fun k => rows_Words.f k l) (WF [] l) := words9_l0 l hz hl l [] [] rfl rfl
theorem dwords9_l0 (l : List Tk) (hz : TkZ l) (hl : l.length ≤ 100000) : ∀ (b a : List Tk) (acc : List Ce), l = a ++ b → acc.length = a.length → Ev (fun k => dendronlaw09_words.l0 k l acc (a.length : Int)) (WF acc b) := by
  intro b
  induction b with
  | nil =>
    intro a acc h ha
    rw [List.append_nil] at h
    refine Ev.succ ?_
    simp only [dendronlaw09_words.l0]
    exact Ev.if_neg (by rw [h]; omega) (Ev.now _)
  | cons t b ih =>
    intro a acc h ha
    have g : gt tk0 l (a.length : Int) = t := by rw [h]; exact gt_at _ a t b
    have hll : l.length = a.length + (b.length + 1) := by rw [h, List.length_append, List.length_cons]
    have hc := dcell_ev t.2.2 (hz t (by rw [h]; simp))
    have hih := ih (a ++ [t]) (acc ++ [((CR t.2.2).1, (CR t.2.2).2.1, (CR t.2.2).2.2.1, (CR t.2.2).2.2.2.1)]) (by rw [h]; simp) (by rw [List.length_append, List.length_append, ha]; rfl)
    rw [List.length_append, List.length_singleton] at hih
    refine Ev.succ ?_
    simp only [dendronlaw09_words.l0, g, wr_succ a.length (show a.length ≤ 1125899906842624 by omega)]
    refine Ev.if_pos (by omega) (Ev.if_pos (nn0 _) (Ev.bind hc ?_))
    rw [WF]
    by_cases he : (CR t.2.2).2.2.2.2 ≠ 0
    · rw [if_pos he]
      exact Ev.if_pos he (Ev.now _)
    · rw [if_neg he]
      exact Ev.if_neg he (Ev.if_pos (by omega) hih)
theorem dwords9_ev (l : List Tk) (hz : TkZ l) (hl : l.length ≤ 100000) : Ev (fun k => dendronlaw09_words.f k l) (WF [] l) := dwords9_l0 l hz hl l [] [] rfl rfl
abbrev RRes := List (List Ce) × Int × Int
def RF (acc : List (List Ce)) : List (List Tk) → RRes
  | [] => (acc, 0, 0)
  | p :: ps => if (WF [] p).2.2 ≠ 0 then ([], (WF [] p).2.1, (WF [] p).2.2) else RF (acc ++ [(WF [] p).1]) ps
theorem rows9_l0 (Ps : List (List Tk)) (hz : ∀ p ∈ Ps, TkZ p ∧ p.length ≤ 100000) (hl : Ps.length ≤ 100000) : ∀ (b a : List (List Tk)) (acc : List (List Ce)), Ps = a ++ b → acc.length = a.length → Ev (fun k => rows_Rows.l0 k acc Ps (Ps.length : Int) (a.length : Int)) (RF acc b) := by
  intro b
  induction b with
  | nil =>
    intro a acc h ha
    rw [List.append_nil] at h
    refine Ev.succ ?_
    simp only [rows_Rows.l0]
    exact Ev.if_neg (by rw [h]; omega) (Ev.now _)
  | cons p b ih =>
    intro a acc h ha
    have g : gt [] Ps (a.length : Int) = p := by rw [h]; exact gt_at _ a p b
    have hll : Ps.length = a.length + (b.length + 1) := by rw [h, List.length_append, List.length_cons]
    obtain ⟨z1, z2⟩ := hz p (by rw [h]; simp)
    have hc := words9_ev p z1 z2
    have hih := ih (a ++ [p]) (acc ++ [(WF [] p).1]) (by rw [h]; simp) (by rw [List.length_append, List.length_append, ha]; rfl)
    rw [List.length_append, List.length_singleton] at hih
    refine Ev.succ ?_
    simp only [rows_Rows.l0, g, wr_succ a.length (show a.length ≤ 1125899906842624 by omega)]
    refine Ev.if_pos (by omega) (Ev.if_pos (nn0 _) (Ev.if_pos (by omega) (Ev.bind hc ?_)))
    rw [RF]
    by_cases he : (WF [] p).2.2 ≠ 0
    · rw [if_pos he]
      exact Ev.if_pos he (Ev.now _)
    · rw [if_neg he]
      exact Ev.if_neg he (Ev.if_pos (by omega) hih)
theorem splitG_out : ∀ (l : List Tk) (out : List (List Tk)) (cur : List Tk), splitG out cur l = out ++ splitG [] cur l
  | [], out, cur => by rw [splitG, splitG, List.nil_append]
  | t :: r, out, cur => by
    rw [splitG, splitG]
    split
    · rw [splitG_out r (out ++ [cur]) [], splitG_out r ([] ++ [cur]) [], List.append_assoc]
      simp
    · rw [splitG_out r out (cur ++ [t])]
def CeB' (c : Ce) : Prop := RtB 30000 c.2
theorem WF_B : ∀ (l : List Tk) (acc : List Ce), (∀ c ∈ acc, CeB' c) → ∀ c ∈ (WF acc l).1, CeB' c
  | [], acc, h => h
  | t :: r, acc, h => by
    rw [WF]
    split
    · intro c hc; cases hc
    · refine WF_B r _ fun c hc => ?_
      rcases List.mem_append.1 hc with k | k
      · exact h c k
      · rw [List.mem_singleton.1 k]; exact CR_B t.2.2
theorem WF_len : ∀ (l : List Tk) (acc : List Ce), (WF acc l).1.length ≤ acc.length + l.length
  | [], acc => by rw [WF]; exact Nat.le_refl _
  | t :: r, acc => by
    rw [WF]
    split
    · exact Nat.zero_le _
    · have := WF_len r (acc ++ [((CR t.2.2).1, (CR t.2.2).2.1, (CR t.2.2).2.2.1, (CR t.2.2).2.2.2.1)])
      rw [List.length_append, List.length_singleton] at this
      rw [List.length_cons]
      omega
theorem dequal_self (xs : List Ce) (hx : ∀ c ∈ xs, CeB' c) (hm : xs.length ≤ 1000000) : Ev (fun k => dendronref09_Equal.f k xs xs) true := by
  have loop : ∀ (b a : List Ce), xs = a ++ b → Ev (fun k => dendronref09_Equal.l0 k xs xs (a.length : Int)) true := by
    intro b
    induction b with
    | nil =>
      intro a h1
      rw [List.append_nil] at h1
      refine Ev.succ ?_
      simp only [dendronref09_Equal.l0]
      exact Ev.if_neg (by rw [h1]; omega) (Ev.now _)
    | cons u b ih =>
      intro a h1
      have g1 : gt (false, false, [], []) xs (a.length : Int) = u := by rw [h1]; exact gt_at _ a u b
      have hla : xs.length = a.length + (b.length + 1) := by rw [h1, List.length_append, List.length_cons]
      have hb := hx u (by rw [h1]; simp)
      have hs := dsame_evB u u hb hb
      rw [sameC_refl] at hs
      have hih := ih (a ++ [u]) (by rw [h1]; simp)
      rw [List.length_append, List.length_singleton] at hih
      refine Ev.succ ?_
      simp only [dendronref09_Equal.l0, g1, wr_succ a.length (show a.length ≤ 1125899906842624 by omega)]
      exact Ev.if_pos (by omega) (Ev.if_pos (nn0 _) (Ev.if_pos (by omega) (Ev.bind hs (Ev.if_pos rfl hih))))
  unfold dendronref09_Equal.f
  exact Ev.if_neg (fun e => e rfl) (loop xs [] rfl)
theorem reads_l1 (haw : Ev (fun k => dendronlaw09_awake.f k) true) (Rs : List (List Ce)) (hR : ∀ r ∈ Rs, (∀ c ∈ r, CeB' c) ∧ r.length ≤ 1000000) (hl : Rs.length ≤ 1000000) : ∀ (b a : List (List Ce)), Rs = a ++ b → Ev (fun k => dendronlaw09_RowsReads.l1 k Rs Rs (a.length : Int)) true := by
  intro b
  induction b with
  | nil =>
    intro a h1
    rw [List.append_nil] at h1
    refine Ev.succ ?_
    simp only [dendronlaw09_RowsReads.l1]
    exact Ev.if_neg (by rw [h1]; omega) (Ev.bind haw (Ev.now _))
  | cons u b ih =>
    intro a h1
    have g1 : gt [] Rs (a.length : Int) = u := by rw [h1]; exact gt_at _ a u b
    have g2 : Rs.getD ((a.length : Int).toNat) [] = u := g1
    have hla : Rs.length = a.length + (b.length + 1) := by rw [h1, List.length_append, List.length_cons]
    obtain ⟨r1, r2⟩ := hR u (by rw [h1]; simp)
    have hs := dequal_self u r1 r2
    have hih := ih (a ++ [u]) (by rw [h1]; simp)
    rw [List.length_append, List.length_singleton] at hih
    refine Ev.succ ?_
    simp only [dendronlaw09_RowsReads.l1, g1, g2, wr_succ a.length (show a.length ≤ 1125899906842624 by omega)]
    exact Ev.if_pos (by omega) (Ev.if_pos (nn0 _) (Ev.if_pos (by omega) (Ev.bind hs (Ev.if_pos rfl hih))))
end Go.DI.Th
namespace Go.DI.Th
open Go Go.RowKit Go.DI

theorem reads_step (haw : Ev (fun k => dendronlaw09_awake.f k) true) (R : RRes) (l : List Tk) (acc : List (List Ce)) (cur : List Tk) (ps : List (List Tk)) (i : Nat) (hz : TkZ cur) (hcl : cur.length ≤ 100000) (ha : acc.length ≤ 100000) (hR : RF acc (cur :: ps) = R)
    (hk : (WF [] cur).2.2 = 0 → Ev (fun k => dendronlaw09_RowsReads.l0 k R.1 R.2.1 R.2.2 l (acc ++ [(WF [] cur).1]) [] ((i + 1 : Nat) : Int)) true) :
    Ev (fun k => (dendronlaw09_words.f k cur).bind fun v20 => (if v20.2.2 ≠ 0 then (if (R.1.length : Int) = 0 then (if R.2.1 = v20.2.1 then (if R.2.2 = v20.2.2 then ((dendronlaw09_awake.f k).bind fun v44 => (some v44)) else (some false)) else (some false)) else (some false)) else (if acc.length < 5864062014805 then (dendronlaw09_RowsReads.l0 k R.1 R.2.1 R.2.2 l (acc ++ [v20.1]) ([] : List Tk) ((i + 1 : Nat) : Int)) else none))) true := by
  have hw := dwords9_ev cur hz hcl
  refine Ev.bind hw ?_
  rw [RF] at hR
  by_cases he : (WF [] cur).2.2 ≠ 0
  · rw [if_pos he] at hR
    rw [← hR]
    exact Ev.if_pos he (Ev.if_pos rfl (Ev.if_pos rfl (Ev.if_pos rfl (Ev.bind haw (Ev.now _)))))
  · exact Ev.if_neg he (Ev.if_pos (by omega) (hk (by omega)))
theorem RF_step {acc : List (List Ce)} {p : List Tk} {ps : List (List Tk)} (h : (WF [] p).2.2 = 0) : RF acc (p :: ps) = RF (acc ++ [(WF [] p).1]) ps := by
  rw [RF, if_neg (fun e => e h)]
theorem splitG_bar {cur r : List Tk} {t : Tk} (h : isBar t) : splitG [] cur (t :: r) = cur :: splitG [] [] r := by
  have h' : t.2.2.toList = [124] := h
  rw [splitG, if_pos h', splitG_out]
  rfl
def GoodR (Rs : List (List Ce)) : Prop := ∀ r ∈ Rs, (∀ c ∈ r, CeB' c) ∧ r.length ≤ 1000000
theorem GoodR.snoc {Rs : List (List Ce)} (h : GoodR Rs) {cur : List Tk} (hl : cur.length ≤ 100000) : GoodR (Rs ++ [(WF [] cur).1]) := by
  intro r hr
  rcases List.mem_append.1 hr with k | k
  · exact h r k
  · rw [List.mem_singleton.1 k]
    have := WF_len cur []
    exact ⟨WF_B cur [] (fun c hc => by cases hc), by simp only [List.length_nil] at this; omega⟩
theorem reads_end (haw : Ev (fun k => dendronlaw09_awake.f k) true) (l : List Tk) (Rs : List (List Ce)) (hg : GoodR Rs) (hl : Rs.length ≤ 100001) (cur : List Tk) : Ev (fun k => dendronlaw09_RowsReads.l0 k Rs 0 0 l Rs cur ((l.length + 1 : Nat) : Int)) true := by
  have h1 := reads_l1 haw Rs hg (by omega) Rs [] rfl
  refine Ev.succ ?_
  simp only [dendronlaw09_RowsReads.l0]
  exact Ev.if_neg (by omega) (Ev.if_neg (fun e => e rfl) (Ev.if_neg (fun e => e rfl) (Ev.if_neg (fun e => e rfl) h1)))
theorem reads_l0 (haw : Ev (fun k => dendronlaw09_awake.f k) true) (l : List Tk) (hne : l.length ≠ 0) (hz : TkZ l) (hl : l.length ≤ 100000) (R : RRes) : ∀ (b a : List Tk) (acc : List (List Ce)) (cur : List Tk), l = a ++ b → RF acc (splitG [] cur b) = R → GoodR acc → acc.length ≤ a.length → TkZ cur → cur.length ≤ a.length →
    Ev (fun k => dendronlaw09_RowsReads.l0 k R.1 R.2.1 R.2.2 l acc cur (a.length : Int)) true := by
  intro b
  induction b with
  | nil =>
    intro a acc cur h1 hR hg ha hzc hc
    rw [List.append_nil] at h1
    have hla : l.length = a.length := by rw [h1]
    rw [splitG, List.nil_append] at hR
    have hst := reads_step haw R l acc cur [] a.length hzc (by omega) (by omega) hR (fun h0 => by
      rw [RF_step h0, RF] at hR
      rw [← hR]
      have := reads_end haw l (acc ++ [(WF [] cur).1]) (hg.snoc (by omega)) (by rw [List.length_append, List.length_singleton]; omega) []
      rw [hla] at this
      exact this)
    refine Ev.succ ?_
    simp only [dendronlaw09_RowsReads.l0, wr_succ a.length (show a.length ≤ 1125899906842624 by omega)]
    exact Ev.if_pos (by omega) (Ev.if_neg (by omega) (Ev.if_neg (by omega) hst))
  | cons t b ih =>
    intro a acc cur h1 hR hg ha hzc hc
    have hla : l.length = a.length + (b.length + 1) := by rw [h1, List.length_append, List.length_cons]
    have g : gt tk0 l (a.length : Int) = t := by rw [h1]; exact gt_at _ a t b
    by_cases hb : isBar t
    · have hs := splitG_bar (cur := cur) (r := b) hb
      rw [hs] at hR
      have hst := reads_step haw R l acc cur (splitG [] [] b) a.length hzc (by omega) (by omega) hR (fun h0 => by
        rw [RF_step h0] at hR
        have := ih (a ++ [t]) (acc ++ [(WF [] cur).1]) [] (by rw [h1]; simp) hR (hg.snoc (by omega)) (by rw [List.length_append, List.length_append, List.length_singleton, List.length_singleton]; omega) (fun x hx => by cases hx) (Nat.zero_le _)
        rw [List.length_append, List.length_singleton] at this
        exact this)
      refine Ev.succ ?_
      simp only [dendronlaw09_RowsReads.l0, g, wr_succ a.length (show a.length ≤ 1125899906842624 by omega)]
      exact Ev.if_pos (by omega) (Ev.if_pos (by omega) (Ev.if_pos (nn0 _) (Ev.if_neg (fun e => e ((bar_eq t).2 hb)) (Ev.if_neg (by omega) hst))))
    · have hs : splitG [] cur (t :: b) = splitG [] (cur ++ [t]) b := by
        have hb' : ¬ t.2.2.toList = [124] := hb
        rw [splitG, if_neg hb']
      rw [hs] at hR
      have hih := ih (a ++ [t]) acc (cur ++ [t]) (by rw [h1]; simp) hR hg (by rw [List.length_append]; omega) (fun x hx => by
        rcases List.mem_append.1 hx with k | k
        · exact hzc x k
        · rw [List.mem_singleton.1 k]; exact hz t (by rw [h1]; simp)) (by simp only [List.length_append, List.length_singleton]; omega)
      rw [List.length_append, List.length_singleton] at hih
      refine Ev.succ ?_
      simp only [dendronlaw09_RowsReads.l0, g, wr_succ a.length (show a.length ≤ 1125899906842624 by omega)]
      exact Ev.if_pos (by omega) (Ev.if_pos (by omega) (Ev.if_pos (nn0 _) (Ev.if_pos (fun e => hb ((bar_eq t).1 e)) (Ev.if_pos (by omega) hih))))

theorem split_parts (B : Nat) : ∀ (l cur : List Tk) (out : List (List Tk)), (∀ p ∈ out, TkZ p ∧ p.length ≤ B) → TkZ cur → TkZ l → cur.length + l.length ≤ B → out.length + l.length + 1 ≤ B → (∀ p ∈ splitG out cur l, TkZ p ∧ p.length ≤ B) ∧ (splitG out cur l).length ≤ B
  | [], cur, out, ho, hc, _, h1, h2 => by
    rw [splitG]
    refine ⟨fun p hp => ?_, by rw [List.length_append, List.length_singleton]; simp only [List.length_nil] at h2; omega⟩
    rcases List.mem_append.1 hp with k | k
    · exact ho p k
    · rw [List.mem_singleton.1 k]; exact ⟨hc, by simp only [List.length_nil] at h1; omega⟩
  | t :: r, cur, out, ho, hc, hl, h1, h2 => by
    rw [List.length_cons] at h1 h2
    rw [splitG]
    split
    · refine split_parts B r [] _ (fun p hp => ?_) (fun x hx => by cases hx) (fun x hx => hl x (List.mem_cons_of_mem _ hx)) (by rw [List.length_nil]; omega) (by rw [List.length_append, List.length_singleton]; omega)
      rcases List.mem_append.1 hp with k | k
      · exact ho p k
      · rw [List.mem_singleton.1 k]; exact ⟨hc, by omega⟩
    · refine split_parts B r _ out ho (fun x hx => ?_) (fun x hx => hl x (List.mem_cons_of_mem _ hx)) (by rw [List.length_append, List.length_singleton]; omega) (by omega)
      rcases List.mem_append.1 hx with k | k
      · exact hc x k
      · rw [List.mem_singleton.1 k]; exact hl t List.mem_cons_self
def LW (x : ByteArray) : List W × Int × Int := wordsS [] 0 (toL x)
theorem LW_ok (x : ByteArray) (hx : x.size ≤ 100000) : TkZ (LW x).1 ∧ (LW x).1.length ≤ 4096 := by
  have hs : (toL x).length ≤ 100000 := by rw [← size_toL]; exact hx
  have h1 := wordsS_sz 1000000 _ (toL x) [] 0 (Nat.le_refl _) (by omega) (fun w hw => by cases hw)
  have h2 := wordsS_bd 1000000 _ (toL x) [] 0 (Nat.le_refl _) (fun w hw => by cases hw) (by omega) (Nat.zero_le _)
  exact ⟨h1, h2.2.1⟩
theorem row9_ev (x : ByteArray) (hx : x.size ≤ 100000) : Ev (fun k => rows_Row.f k x) (if (LW x).2.2 ≠ 0 then ([], (LW x).2.1, (LW x).2.2) else WF [] (LW x).1) := by
  obtain ⟨z, hl⟩ := LW_ok x hx
  have hw := words_ev x (by omega)
  unfold rows_Row.f
  refine Ev.bind (show Ev _ (LW x) from hw) ?_
  by_cases he : (LW x).2.2 ≠ 0
  · rw [if_pos he]
    exact Ev.if_pos he (Ev.now _)
  · rw [if_neg he]
    exact Ev.if_neg he (Ev.bind (words9_ev _ z (by omega)) ((Ev.now _).of_eq rfl))
def SP (l : List Tk) : List (List Tk) := if l = [] then [] else splitG [] [] l
theorem SP_ok {l : List Tk} (z : TkZ l) (hl : l.length ≤ 4096) : (∀ p ∈ SP l, TkZ p ∧ p.length ≤ 100000) ∧ (SP l).length ≤ 100000 := by
  unfold SP
  split
  · exact ⟨fun p hp => (by cases hp), Nat.zero_le _⟩
  · exact split_parts 100000 l [] [] (fun p hp => by cases hp) (fun x hx => by cases hx) z (by rw [List.length_nil]; omega) (by rw [List.length_nil]; omega)
theorem rows9_ev (x : ByteArray) (hx : x.size ≤ 100000) : Ev (fun k => rows_Rows.f k x) (if (LW x).2.2 ≠ 0 then ([], (LW x).2.1, (LW x).2.2) else RF [] (SP (LW x).1)) := by
  obtain ⟨z, hl⟩ := LW_ok x hx
  obtain ⟨s1, s2⟩ := SP_ok z hl
  have hw := words_ev x (by omega)
  unfold rows_Rows.f
  refine Ev.bind (show Ev _ (LW x) from hw) ?_
  by_cases he : (LW x).2.2 ≠ 0
  · rw [if_pos he]
    exact Ev.if_pos he (Ev.now _)
  · rw [if_neg he]
    have hs : Ev (fun _ => rows_Split.f (LW x).1) (SP (LW x).1) := by
      refine Ev.congr (fun _ => ?_) (Ev.now _)
      unfold rows_Split.f SP
      rw [if_pos (by omega)]
      split <;> rfl
    exact Ev.if_neg he (Ev.bind hs (rows9_l0 _ s1 s2 _ [] [] rfl rfl))
theorem reads_tail (haw : Ev (fun k => dendronlaw09_awake.f k) true) (x : ByteArray) (hx : x.size ≤ 600) : Ev (fun k => (rows_Row.f k x).bind fun v5 => ((rows_Rows.f k x).bind fun v14 => ((lex_Words.f k x).bind fun v23 => (if v23.2.2 ≠ 0 then (if (v5.1.length : Int) = 0 then (if v5.2.1 = v23.2.1 then (if v5.2.2 = v23.2.2 then (if (v14.1.length : Int) = 0 then (if v14.2.1 = v23.2.1 then (if v14.2.2 = v23.2.2 then ((dendronlaw09_awake.f k).bind fun v62 => (some v62)) else (some false)) else (some false)) else (some false)) else (some false)) else (some false)) else (some false)) else ((dendronlaw09_words.f k v23.1).bind fun v34 => (if v5.2.1 ≠ v34.2.1 then (some false) else (if v5.2.2 ≠ v34.2.2 then (some false) else ((dendronref09_Equal.f k v5.1 v34.1).bind fun v53 => (if v53 = true then (dendronlaw09_RowsReads.l0 k v14.1 v14.2.1 v14.2.2 v23.1 ([] : List (List (Bool × Bool × List Int × List Int))) ([] : List (Int × Int × ByteArray)) 0) else (some false)))))))))) true := by
  obtain ⟨z, hl⟩ := LW_ok x (by omega)
  have h1 := row9_ev x (by omega)
  have h2 := rows9_ev x (by omega)
  have h3 : Ev (fun k => lex_Words.f k x) (LW x) := words_ev x (by omega)
  by_cases he : (LW x).2.2 ≠ 0
  · rw [if_pos he] at h1 h2
    exact Ev.bind h1 (Ev.bind h2 (Ev.bind h3 (Ev.if_pos he (Ev.if_pos rfl (Ev.if_pos rfl (Ev.if_pos rfl (Ev.if_pos rfl (Ev.if_pos rfl (Ev.if_pos rfl (Ev.bind haw (Ev.now _)))))))))))
  · rw [if_neg he] at h1 h2
    have h4 := dwords9_ev (LW x).1 z (by omega)
    have wl := WF_len (LW x).1 []
    have h5 := dequal_self (WF [] (LW x).1).1 (WF_B _ [] (fun c hc => by cases hc)) (by simp only [List.length_nil] at wl; omega)
    refine Ev.bind h1 (Ev.bind h2 (Ev.bind h3 (Ev.if_neg he (Ev.bind h4 (Ev.if_neg (fun e => e rfl) (Ev.if_neg (fun e => e rfl) (Ev.bind h5 (Ev.if_pos rfl ?_))))))))
    by_cases hn : (LW x).1 = []
    · have e : SP (LW x).1 = [] := if_pos hn
      rw [e, hn]
      have hl1 := reads_l1 haw [] (fun r hr => by cases hr) (Nat.zero_le _) [] [] rfl
      refine Ev.succ ?_
      simp only [dendronlaw09_RowsReads.l0, RF]
      exact Ev.if_pos (by decide) (Ev.if_neg (by decide) (Ev.if_pos rfl (Ev.if_neg (fun e => e rfl) (Ev.if_neg (fun e => e rfl) (Ev.if_neg (fun e => e rfl) hl1)))))
    · have e : SP (LW x).1 = splitG [] [] (LW x).1 := if_neg hn
      rw [e]
      have hp := List.length_pos_iff.2 hn
      exact reads_l0 haw (LW x).1 (by omega) z (by omega) _ (LW x).1 [] [] [] rfl rfl (fun r hr => by cases hr) (Nat.le_refl _) (fun t ht => by cases ht) (Nat.le_refl _)
theorem rowsReads_ev0 (haw : Ev (fun k => dendronlaw09_awake.f k) true) (x : ByteArray) : Ev (fun k => dendronlaw09_RowsReads.f k x) true := by
  unfold dendronlaw09_RowsReads.f
  by_cases h : (x.size : Int) > 600
  · have hs : (x.extract 0 600).size ≤ 600 := by
      rw [size_toL, toL_extract, List.length_take]
      omega
    exact Ev.if_pos h (Ev.if_pos (by omega) (reads_tail haw _ hs))
  · exact Ev.if_neg h (reads_tail haw x (by omega))
end Go.DI.Th
