/- What the told functions answer, part 2. No condition. -/
import Derived.Test.YtcecjcpbehnihaaGreatDoorTh1
set_option linter.all false
namespace Go.DI.Th
open Go Go.RowKit Go.DI

def Le {α : Type} (a b : Option α) : Prop := ∀ r, a = some r → b = some r
theorem Le.refl {α : Type} (a : Option α) : Le a a := fun _ h => h
theorem Le.none {α : Type} (b : Option α) : Le none b := fun _ h => by cases h
theorem Le.eqs {α : Type} {a b c d : Option α} (h : a = c) (h' : b = d) (k : Le c d) : Le a b := by subst h; subst h'; exact k
theorem Le.bind {α β : Type} {a b : Option α} {f g : α → Option β} (h : Le a b) (k : ∀ v, Le (f v) (g v)) : Le (a.bind f) (b.bind g) := by
  intro r hr
  cases ha : a with
  | none => rw [ha] at hr; cases hr
  | some v =>
    rw [ha] at hr
    rw [h v ha]
    exact k v r hr
theorem Le.ite {α : Type} {c : Prop} [Decidable c] {a b a' b' : Option α} (h : Le a a') (k : Le b b') : Le (if c then a else b) (if c then a' else b') := by
  split
  · exact h
  · exact k
theorem Ev.mono {α : Type} {g : Nat → Option α} (h : ∀ k, Le (g k) (g (k + 1))) {K : Nat} {r : α} (hk : g K = some r) : Ev g r := by
  refine ⟨K, fun n hn => ?_⟩
  induction hn with
  | refl => exact hk
  | step _ ih => exact h _ r ih
theorem nat_trim.monoL (k : Nat) : (∀ x0 x1, Le (nat_trim.l0 k x0 x1) (nat_trim.l0 (k + 1) x0 x1)) := by
  induction k with
  | zero => exact fun _ _ => Le.none _
  | succ k ih =>
    intro x0 x1
    refine Le.eqs (nat_trim.l0.eq_2 ..) (nat_trim.l0.eq_2 ..) ?_
    repeat' (first
      | with_reducible exact Le.refl _
      | with_reducible refine Le.ite ?_ ?_
      | with_reducible exact ih _ _
      | with_reducible refine Le.bind (ih _ _) (fun _ => ?_)
      | with_reducible refine Le.bind (Le.refl _) (fun _ => ?_)
      | split)
theorem nat_trim.mono (k : Nat) : ∀ x0, Le (nat_trim.f k x0) (nat_trim.f (k + 1) x0) := by
  intro x0
  unfold nat_trim.f
  repeat' (first
    | with_reducible exact Le.refl _
    | with_reducible refine Le.ite ?_ ?_
    | with_reducible exact (nat_trim.monoL k) _ _
    | with_reducible refine Le.bind (Le.refl _) (fun _ => ?_)
    | split)
theorem nat_Clean.monoL (k : Nat) : (∀ x0 x1 x2 x3, Le (nat_Clean.l0 k x0 x1 x2 x3) (nat_Clean.l0 (k + 1) x0 x1 x2 x3)) := by
  induction k with
  | zero => exact fun _ _ _ _ => Le.none _
  | succ k ih =>
    intro x0 x1 x2 x3
    refine Le.eqs (nat_Clean.l0.eq_2 ..) (nat_Clean.l0.eq_2 ..) ?_
    repeat' (first
      | with_reducible exact Le.refl _
      | with_reducible refine Le.ite ?_ ?_
      | with_reducible exact ih _ _ _ _
      | with_reducible refine Le.bind (ih _ _ _ _) (fun _ => ?_)
      | with_reducible refine Le.bind (nat_trim.mono k _) (fun _ => ?_)
      | with_reducible exact nat_trim.mono k _
      | with_reducible refine Le.bind (Le.refl _) (fun _ => ?_)
      | split)
theorem nat_Clean.mono (k : Nat) : ∀ x0, Le (nat_Clean.f k x0) (nat_Clean.f (k + 1) x0) := by
  intro x0
  unfold nat_Clean.f
  repeat' (first
    | with_reducible exact Le.refl _
    | with_reducible refine Le.ite ?_ ?_
    | with_reducible exact (nat_Clean.monoL k) _ _ _ _
    | with_reducible refine Le.bind (Le.refl _) (fun _ => ?_)
    | split)
theorem whole_Clean.mono (k : Nat) : ∀ x0 x1, Le (whole_Clean.f k x0 x1) (whole_Clean.f (k + 1) x0 x1) := by
  intro x0 x1
  unfold whole_Clean.f
  repeat' (first
    | with_reducible exact Le.refl _
    | with_reducible refine Le.ite ?_ ?_
    | with_reducible refine Le.bind (nat_Clean.mono k _) (fun _ => ?_)
    | with_reducible exact nat_Clean.mono k _
    | with_reducible refine Le.bind (Le.refl _) (fun _ => ?_)
    | split)
theorem whole_Sign.mono (k : Nat) : ∀ x0 x1, Le (whole_Sign.f k x0 x1) (whole_Sign.f (k + 1) x0 x1) := by
  intro x0 x1
  unfold whole_Sign.f
  repeat' (first
    | with_reducible exact Le.refl _
    | with_reducible refine Le.ite ?_ ?_
    | with_reducible refine Le.bind (whole_Clean.mono k _ _) (fun _ => ?_)
    | with_reducible exact whole_Clean.mono k _ _
    | with_reducible refine Le.bind (Le.refl _) (fun _ => ?_)
    | split)
theorem whole_Neg.mono (k : Nat) : ∀ x0 x1, Le (whole_Neg.f k x0 x1) (whole_Neg.f (k + 1) x0 x1) := by
  intro x0 x1
  unfold whole_Neg.f
  repeat' (first
    | with_reducible exact Le.refl _
    | with_reducible refine Le.ite ?_ ?_
    | with_reducible refine Le.bind (whole_Clean.mono k _ _) (fun _ => ?_)
    | with_reducible exact whole_Clean.mono k _ _
    | with_reducible refine Le.bind (Le.refl _) (fun _ => ?_)
    | split)
theorem nat_Of.mono (k : Nat) : ∀ x0, Le (nat_Of.f k x0) (nat_Of.f (k + 1) x0) := by
  intro x0
  unfold nat_Of.f
  repeat' (first
    | with_reducible exact Le.refl _
    | with_reducible refine Le.ite ?_ ?_
    | with_reducible refine Le.bind (nat_trim.mono k _) (fun _ => ?_)
    | with_reducible exact nat_trim.mono k _
    | with_reducible refine Le.bind (Le.refl _) (fun _ => ?_)
    | split)
theorem nat_order.monoL (k : Nat) : (∀ x0 x1 x2, Le (nat_order.l0 k x0 x1 x2) (nat_order.l0 (k + 1) x0 x1 x2)) := by
  induction k with
  | zero => exact fun _ _ _ => Le.none _
  | succ k ih =>
    intro x0 x1 x2
    refine Le.eqs (nat_order.l0.eq_2 ..) (nat_order.l0.eq_2 ..) ?_
    repeat' (first
      | with_reducible exact Le.refl _
      | with_reducible refine Le.ite ?_ ?_
      | with_reducible exact ih _ _ _
      | with_reducible refine Le.bind (ih _ _ _) (fun _ => ?_)
      | with_reducible refine Le.bind (Le.refl _) (fun _ => ?_)
      | split)
theorem nat_order.mono (k : Nat) : ∀ x0 x1, Le (nat_order.f k x0 x1) (nat_order.f (k + 1) x0 x1) := by
  intro x0 x1
  unfold nat_order.f
  repeat' (first
    | with_reducible exact Le.refl _
    | with_reducible refine Le.ite ?_ ?_
    | with_reducible exact (nat_order.monoL k) _ _ _
    | with_reducible refine Le.bind (Le.refl _) (fun _ => ?_)
    | split)
theorem nat_To.mono (k : Nat) : ∀ x0, Le (nat_To.f k x0) (nat_To.f (k + 1) x0) := by
  intro x0
  unfold nat_To.f
  repeat' (first
    | with_reducible exact Le.refl _
    | with_reducible refine Le.ite ?_ ?_
    | with_reducible refine Le.bind (nat_Clean.mono k _) (fun _ => ?_)
    | with_reducible exact nat_Clean.mono k _
    | with_reducible refine Le.bind (Le.refl _) (fun _ => ?_)
    | split)
theorem nat_euclid.monoL (k : Nat) : (∀ x0 x1, Le (nat_euclid.l0 k x0 x1) (nat_euclid.l0 (k + 1) x0 x1)) := by
  induction k with
  | zero => exact fun _ _ => Le.none _
  | succ k ih =>
    intro x0 x1
    refine Le.eqs (nat_euclid.l0.eq_2 ..) (nat_euclid.l0.eq_2 ..) ?_
    repeat' (first
      | with_reducible exact Le.refl _
      | with_reducible refine Le.ite ?_ ?_
      | with_reducible exact ih _ _
      | with_reducible refine Le.bind (ih _ _) (fun _ => ?_)
      | with_reducible refine Le.bind (nat_Of.mono k _) (fun _ => ?_)
      | with_reducible exact nat_Of.mono k _
      | with_reducible refine Le.bind (Le.refl _) (fun _ => ?_)
      | split)
theorem nat_euclid.mono (k : Nat) : ∀ x0 x1, Le (nat_euclid.f k x0 x1) (nat_euclid.f (k + 1) x0 x1) := by
  intro x0 x1
  unfold nat_euclid.f
  repeat' (first
    | with_reducible exact Le.refl _
    | with_reducible refine Le.ite ?_ ?_
    | with_reducible exact (nat_euclid.monoL k) _ _
    | with_reducible refine Le.bind (nat_To.mono k _) (fun _ => ?_)
    | with_reducible exact nat_To.mono k _
    | with_reducible refine Le.bind (Le.refl _) (fun _ => ?_)
    | split)
theorem nat_zeros.monoL (k : Nat) : (∀ x0 x1 x2 x3, Le (nat_zeros.l0 k x0 x1 x2 x3) (nat_zeros.l0 (k + 1) x0 x1 x2 x3)) := by
  induction k with
  | zero => exact fun _ _ _ _ => Le.none _
  | succ k ih =>
    intro x0 x1 x2 x3
    refine Le.eqs (nat_zeros.l0.eq_2 ..) (nat_zeros.l0.eq_2 ..) ?_
    repeat' (first
      | with_reducible exact Le.refl _
      | with_reducible refine Le.ite ?_ ?_
      | with_reducible exact ih _ _ _ _
      | with_reducible refine Le.bind (ih _ _ _ _) (fun _ => ?_)
      | with_reducible refine Le.bind (Le.refl _) (fun _ => ?_)
      | split)
theorem nat_zeros.mono (k : Nat) : ∀ x0, Le (nat_zeros.f k x0) (nat_zeros.f (k + 1) x0) := by
  intro x0
  unfold nat_zeros.f
  repeat' (first
    | with_reducible exact Le.refl _
    | with_reducible refine Le.ite ?_ ?_
    | with_reducible exact (nat_zeros.monoL k) _ _ _ _
    | with_reducible refine Le.bind (Le.refl _) (fun _ => ?_)
    | split)
theorem nat_shr.monoL (k : Nat) : (∀ x0 x1 x2 x3 x4 x5, Le (nat_shr.l0 k x0 x1 x2 x3 x4 x5) (nat_shr.l0 (k + 1) x0 x1 x2 x3 x4 x5)) := by
  induction k with
  | zero => exact fun _ _ _ _ _ _ => Le.none _
  | succ k ih =>
    intro x0 x1 x2 x3 x4 x5
    refine Le.eqs (nat_shr.l0.eq_2 ..) (nat_shr.l0.eq_2 ..) ?_
    repeat' (first
      | with_reducible exact Le.refl _
      | with_reducible refine Le.ite ?_ ?_
      | with_reducible exact ih _ _ _ _ _ _
      | with_reducible refine Le.bind (ih _ _ _ _ _ _) (fun _ => ?_)
      | with_reducible refine Le.bind (nat_trim.mono k _) (fun _ => ?_)
      | with_reducible exact nat_trim.mono k _
      | with_reducible refine Le.bind (Le.refl _) (fun _ => ?_)
      | split)
theorem nat_shr.mono (k : Nat) : ∀ x0 x1, Le (nat_shr.f k x0 x1) (nat_shr.f (k + 1) x0 x1) := by
  intro x0 x1
  unfold nat_shr.f
  repeat' (first
    | with_reducible exact Le.refl _
    | with_reducible refine Le.ite ?_ ?_
    | with_reducible exact (nat_shr.monoL k) _ _ _ _ _ _
    | with_reducible refine Le.bind (Le.refl _) (fun _ => ?_)
    | split)
theorem nat_trimM.monoL (k : Nat) : (∀ x0 x1, Le (nat_trimM.l0 k x0 x1) (nat_trimM.l0 (k + 1) x0 x1)) := by
  induction k with
  | zero => exact fun _ _ => Le.none _
  | succ k ih =>
    intro x0 x1
    refine Le.eqs (nat_trimM.l0.eq_2 ..) (nat_trimM.l0.eq_2 ..) ?_
    repeat' (first
      | with_reducible exact Le.refl _
      | with_reducible refine Le.ite ?_ ?_
      | with_reducible exact ih _ _
      | with_reducible refine Le.bind (ih _ _) (fun _ => ?_)
      | with_reducible refine Le.bind (Le.refl _) (fun _ => ?_)
      | split)
theorem nat_trimM.mono (k : Nat) : ∀ x0, Le (nat_trimM.f k x0) (nat_trimM.f (k + 1) x0) := by
  intro x0
  unfold nat_trimM.f
  repeat' (first
    | with_reducible exact Le.refl _
    | with_reducible refine Le.ite ?_ ?_
    | with_reducible exact (nat_trimM.monoL k) _ _
    | with_reducible refine Le.bind (Le.refl _) (fun _ => ?_)
    | split)
theorem nat_shl.monoL (k : Nat) : (∀ x0 x1 x2 x3 x4 x5, Le (nat_shl.l0 k x0 x1 x2 x3 x4 x5) (nat_shl.l0 (k + 1) x0 x1 x2 x3 x4 x5)) := by
  induction k with
  | zero => exact fun _ _ _ _ _ _ => Le.none _
  | succ k ih =>
    intro x0 x1 x2 x3 x4 x5
    refine Le.eqs (nat_shl.l0.eq_2 ..) (nat_shl.l0.eq_2 ..) ?_
    repeat' (first
      | with_reducible exact Le.refl _
      | with_reducible refine Le.ite ?_ ?_
      | with_reducible exact ih _ _ _ _ _ _
      | with_reducible refine Le.bind (ih _ _ _ _ _ _) (fun _ => ?_)
      | with_reducible refine Le.bind (nat_trimM.mono k _) (fun _ => ?_)
      | with_reducible exact nat_trimM.mono k _
      | with_reducible refine Le.bind (Le.refl _) (fun _ => ?_)
      | split)
theorem nat_shl.mono (k : Nat) : ∀ x0 x1, Le (nat_shl.f k x0 x1) (nat_shl.f (k + 1) x0 x1) := by
  intro x0 x1
  unfold nat_shl.f
  repeat' (first
    | with_reducible exact Le.refl _
    | with_reducible refine Le.ite ?_ ?_
    | with_reducible exact (nat_shl.monoL k) _ _ _ _ _ _
    | with_reducible refine Le.bind (Le.refl _) (fun _ => ?_)
    | split)
theorem nat_small.monoL (k : Nat) : (∀ x0 x1 x2 x3 x4, Le (nat_small.l0 k x0 x1 x2 x3 x4) (nat_small.l0 (k + 1) x0 x1 x2 x3 x4)) := by
  induction k with
  | zero => exact fun _ _ _ _ _ => Le.none _
  | succ k ih =>
    intro x0 x1 x2 x3 x4
    refine Le.eqs (nat_small.l0.eq_2 ..) (nat_small.l0.eq_2 ..) ?_
    repeat' (first
      | with_reducible exact Le.refl _
      | with_reducible refine Le.ite ?_ ?_
      | with_reducible exact ih _ _ _ _ _
      | with_reducible refine Le.bind (ih _ _ _ _ _) (fun _ => ?_)
      | with_reducible refine Le.bind (nat_trim.mono k _) (fun _ => ?_)
      | with_reducible exact nat_trim.mono k _
      | with_reducible refine Le.bind (Le.refl _) (fun _ => ?_)
      | split)
theorem nat_small.mono (k : Nat) : ∀ x0 x1, Le (nat_small.f k x0 x1) (nat_small.f (k + 1) x0 x1) := by
  intro x0 x1
  unfold nat_small.f
  repeat' (first
    | with_reducible exact Le.refl _
    | with_reducible refine Le.ite ?_ ?_
    | with_reducible exact (nat_small.monoL k) _ _ _ _ _
    | with_reducible refine Le.bind (Le.refl _) (fun _ => ?_)
    | split)
theorem nat_take.monoL (k : Nat) : (∀ x0 x1 x2 x3 x4 x5 x6, Le (nat_take.l0 k x0 x1 x2 x3 x4 x5 x6) (nat_take.l0 (k + 1) x0 x1 x2 x3 x4 x5 x6)) := by
  induction k with
  | zero => exact fun _ _ _ _ _ _ _ => Le.none _
  | succ k ih =>
    intro x0 x1 x2 x3 x4 x5 x6
    refine Le.eqs (nat_take.l0.eq_2 ..) (nat_take.l0.eq_2 ..) ?_
    repeat' (first
      | with_reducible exact Le.refl _
      | with_reducible refine Le.ite ?_ ?_
      | with_reducible exact ih _ _ _ _ _ _ _
      | with_reducible refine Le.bind (ih _ _ _ _ _ _ _) (fun _ => ?_)
      | with_reducible refine Le.bind (Le.refl _) (fun _ => ?_)
      | split)
theorem nat_take.mono (k : Nat) : ∀ x0 x1 x2, Le (nat_take.f k x0 x1 x2) (nat_take.f (k + 1) x0 x1 x2) := by
  intro x0 x1 x2
  unfold nat_take.f
  repeat' (first
    | with_reducible exact Le.refl _
    | with_reducible refine Le.ite ?_ ?_
    | with_reducible exact (nat_take.monoL k) _ _ _ _ _ _ _
    | with_reducible refine Le.bind (Le.refl _) (fun _ => ?_)
    | split)
theorem nat_give.monoL (k : Nat) : (∀ x0 x1 x2 x3 x4, Le (nat_give.l0 k x0 x1 x2 x3 x4) (nat_give.l0 (k + 1) x0 x1 x2 x3 x4)) := by
  induction k with
  | zero => exact fun _ _ _ _ _ => Le.none _
  | succ k ih =>
    intro x0 x1 x2 x3 x4
    refine Le.eqs (nat_give.l0.eq_2 ..) (nat_give.l0.eq_2 ..) ?_
    repeat' (first
      | with_reducible exact Le.refl _
      | with_reducible refine Le.ite ?_ ?_
      | with_reducible exact ih _ _ _ _ _
      | with_reducible refine Le.bind (ih _ _ _ _ _) (fun _ => ?_)
      | with_reducible refine Le.bind (Le.refl _) (fun _ => ?_)
      | split)
theorem nat_give.mono (k : Nat) : ∀ x0 x1, Le (nat_give.f k x0 x1) (nat_give.f (k + 1) x0 x1) := by
  intro x0 x1
  unfold nat_give.f
  repeat' (first
    | with_reducible exact Le.refl _
    | with_reducible refine Le.ite ?_ ?_
    | with_reducible exact (nat_give.monoL k) _ _ _ _ _
    | with_reducible refine Le.bind (Le.refl _) (fun _ => ?_)
    | split)
theorem nat_digit.monoL (k : Nat) : (∀ x0 x1 x2 x3 x4, Le (nat_digit.l0 k x0 x1 x2 x3 x4) (nat_digit.l0 (k + 1) x0 x1 x2 x3 x4)) := by
  induction k with
  | zero => exact fun _ _ _ _ _ => Le.none _
  | succ k ih =>
    intro x0 x1 x2 x3 x4
    refine Le.eqs (nat_digit.l0.eq_2 ..) (nat_digit.l0.eq_2 ..) ?_
    repeat' (first
      | with_reducible exact Le.refl _
      | with_reducible refine Le.ite ?_ ?_
      | with_reducible exact ih _ _ _ _ _
      | with_reducible refine Le.bind (ih _ _ _ _ _) (fun _ => ?_)
      | with_reducible refine Le.bind (nat_take.mono k _ _ _) (fun _ => ?_)
      | with_reducible refine Le.bind (nat_give.mono k _ _) (fun _ => ?_)
      | with_reducible exact nat_take.mono k _ _ _
      | with_reducible exact nat_give.mono k _ _
      | with_reducible refine Le.bind (Le.refl _) (fun _ => ?_)
      | split)
theorem nat_digit.mono (k : Nat) : ∀ x0 x1, Le (nat_digit.f k x0 x1) (nat_digit.f (k + 1) x0 x1) := by
  intro x0 x1
  unfold nat_digit.f
  repeat' (first
    | with_reducible exact Le.refl _
    | with_reducible refine Le.ite ?_ ?_
    | with_reducible exact (nat_digit.monoL k) _ _ _ _ _
    | with_reducible refine Le.bind (Le.refl _) (fun _ => ?_)
    | split)
theorem nat_long.monoL (k : Nat) : (∀ x0 x1 x2 x3 x4 x5, Le (nat_long.l0 k x0 x1 x2 x3 x4 x5) (nat_long.l0 (k + 1) x0 x1 x2 x3 x4 x5)) := by
  induction k with
  | zero => exact fun _ _ _ _ _ _ => Le.none _
  | succ k ih =>
    intro x0 x1 x2 x3 x4 x5
    refine Le.eqs (nat_long.l0.eq_2 ..) (nat_long.l0.eq_2 ..) ?_
    repeat' (first
      | with_reducible exact Le.refl _
      | with_reducible refine Le.ite ?_ ?_
      | with_reducible exact ih _ _ _ _ _ _
      | with_reducible refine Le.bind (ih _ _ _ _ _ _) (fun _ => ?_)
      | with_reducible refine Le.bind (nat_digit.mono k _ _) (fun _ => ?_)
      | with_reducible refine Le.bind (nat_trim.mono k _) (fun _ => ?_)
      | with_reducible refine Le.bind (nat_shr.mono k _ _) (fun _ => ?_)
      | with_reducible exact nat_digit.mono k _ _
      | with_reducible exact nat_trim.mono k _
      | with_reducible exact nat_shr.mono k _ _
      | with_reducible refine Le.bind (Le.refl _) (fun _ => ?_)
      | split)
theorem nat_long.mono (k : Nat) : ∀ x0 x1, Le (nat_long.f k x0 x1) (nat_long.f (k + 1) x0 x1) := by
  intro x0 x1
  unfold nat_long.f
  repeat' (first
    | with_reducible exact Le.refl _
    | with_reducible refine Le.ite ?_ ?_
    | with_reducible exact (nat_long.monoL k) _ _ _ _ _ _
    | with_reducible refine Le.bind (nat_shl.mono k _ _) (fun _ => ?_)
    | with_reducible exact nat_shl.mono k _ _
    | with_reducible refine Le.bind (Le.refl _) (fun _ => ?_)
    | split)
theorem nat_DivMod.mono (k : Nat) : ∀ x0 x1, Le (nat_DivMod.f k x0 x1) (nat_DivMod.f (k + 1) x0 x1) := by
  intro x0 x1
  unfold nat_DivMod.f
  repeat' (first
    | with_reducible exact Le.refl _
    | with_reducible refine Le.ite ?_ ?_
    | with_reducible refine Le.bind (nat_Clean.mono k _) (fun _ => ?_)
    | with_reducible refine Le.bind (nat_order.mono k _ _) (fun _ => ?_)
    | with_reducible refine Le.bind (nat_small.mono k _ _) (fun _ => ?_)
    | with_reducible refine Le.bind (nat_Of.mono k _) (fun _ => ?_)
    | with_reducible refine Le.bind (nat_long.mono k _ _) (fun _ => ?_)
    | with_reducible exact nat_Clean.mono k _
    | with_reducible exact nat_order.mono k _ _
    | with_reducible exact nat_small.mono k _ _
    | with_reducible exact nat_Of.mono k _
    | with_reducible exact nat_long.mono k _ _
    | with_reducible refine Le.bind (Le.refl _) (fun _ => ?_)
    | split)
theorem nat_rest.mono (k : Nat) : ∀ x0 x1, Le (nat_rest.f k x0 x1) (nat_rest.f (k + 1) x0 x1) := by
  intro x0 x1
  unfold nat_rest.f
  repeat' (first
    | with_reducible exact Le.refl _
    | with_reducible refine Le.ite ?_ ?_
    | with_reducible refine Le.bind (nat_DivMod.mono k _ _) (fun _ => ?_)
    | with_reducible exact nat_DivMod.mono k _ _
    | with_reducible refine Le.bind (Le.refl _) (fun _ => ?_)
    | split)
theorem nat_minus.monoL (k : Nat) : (∀ x0 x1 x2 x3 x4 x5, Le (nat_minus.l0 k x0 x1 x2 x3 x4 x5) (nat_minus.l0 (k + 1) x0 x1 x2 x3 x4 x5)) := by
  induction k with
  | zero => exact fun _ _ _ _ _ _ => Le.none _
  | succ k ih =>
    intro x0 x1 x2 x3 x4 x5
    refine Le.eqs (nat_minus.l0.eq_2 ..) (nat_minus.l0.eq_2 ..) ?_
    repeat' (first
      | with_reducible exact Le.refl _
      | with_reducible refine Le.ite ?_ ?_
      | with_reducible exact ih _ _ _ _ _ _
      | with_reducible refine Le.bind (ih _ _ _ _ _ _) (fun _ => ?_)
      | with_reducible refine Le.bind (nat_trim.mono k _) (fun _ => ?_)
      | with_reducible exact nat_trim.mono k _
      | with_reducible refine Le.bind (Le.refl _) (fun _ => ?_)
      | split)
theorem nat_minus.mono (k : Nat) : ∀ x0 x1, Le (nat_minus.f k x0 x1) (nat_minus.f (k + 1) x0 x1) := by
  intro x0 x1
  unfold nat_minus.f
  repeat' (first
    | with_reducible exact Le.refl _
    | with_reducible refine Le.ite ?_ ?_
    | with_reducible exact (nat_minus.monoL k) _ _ _ _ _ _
    | with_reducible refine Le.bind (Le.refl _) (fun _ => ?_)
    | split)
theorem nat_Gcd.monoL (k : Nat) : (∀ x0 x1 x2 x3, Le (nat_Gcd.l0 k x0 x1 x2 x3) (nat_Gcd.l0 (k + 1) x0 x1 x2 x3)) := by
  induction k with
  | zero => exact fun _ _ _ _ => Le.none _
  | succ k ih =>
    intro x0 x1 x2 x3
    refine Le.eqs (nat_Gcd.l0.eq_2 ..) (nat_Gcd.l0.eq_2 ..) ?_
    repeat' (first
      | with_reducible exact Le.refl _
      | with_reducible refine Le.ite ?_ ?_
      | with_reducible exact ih _ _ _ _
      | with_reducible refine Le.bind (ih _ _ _ _) (fun _ => ?_)
      | with_reducible refine Le.bind (nat_order.mono k _ _) (fun _ => ?_)
      | with_reducible refine Le.bind (nat_shl.mono k _ _) (fun _ => ?_)
      | with_reducible refine Le.bind (nat_rest.mono k _ _) (fun _ => ?_)
      | with_reducible refine Le.bind (nat_zeros.mono k _) (fun _ => ?_)
      | with_reducible refine Le.bind (nat_shr.mono k _ _) (fun _ => ?_)
      | with_reducible refine Le.bind (nat_minus.mono k _ _) (fun _ => ?_)
      | with_reducible exact nat_order.mono k _ _
      | with_reducible exact nat_shl.mono k _ _
      | with_reducible exact nat_rest.mono k _ _
      | with_reducible exact nat_zeros.mono k _
      | with_reducible exact nat_shr.mono k _ _
      | with_reducible exact nat_minus.mono k _ _
      | with_reducible refine Le.bind (Le.refl _) (fun _ => ?_)
      | split)
theorem nat_Gcd.mono (k : Nat) : ∀ x0 x1, Le (nat_Gcd.f k x0 x1) (nat_Gcd.f (k + 1) x0 x1) := by
  intro x0 x1
  unfold nat_Gcd.f
  repeat' (first
    | with_reducible exact Le.refl _
    | with_reducible refine Le.ite ?_ ?_
    | with_reducible exact (nat_Gcd.monoL k) _ _ _ _
    | with_reducible refine Le.bind (nat_Clean.mono k _) (fun _ => ?_)
    | with_reducible refine Le.bind (nat_euclid.mono k _ _) (fun _ => ?_)
    | with_reducible refine Le.bind (nat_zeros.mono k _) (fun _ => ?_)
    | with_reducible refine Le.bind (nat_shr.mono k _ _) (fun _ => ?_)
    | with_reducible exact nat_Clean.mono k _
    | with_reducible exact nat_euclid.mono k _ _
    | with_reducible exact nat_zeros.mono k _
    | with_reducible exact nat_shr.mono k _ _
    | with_reducible refine Le.bind (Le.refl _) (fun _ => ?_)
    | split)
theorem ratio_form.mono (k : Nat) : ∀ x0 x1 x2, Le (ratio_form.f k x0 x1 x2) (ratio_form.f (k + 1) x0 x1 x2) := by
  intro x0 x1 x2
  unfold ratio_form.f
  repeat' (first
    | with_reducible exact Le.refl _
    | with_reducible refine Le.ite ?_ ?_
    | with_reducible refine Le.bind (nat_Of.mono k _) (fun _ => ?_)
    | with_reducible refine Le.bind (nat_Gcd.mono k _ _) (fun _ => ?_)
    | with_reducible refine Le.bind (nat_DivMod.mono k _ _) (fun _ => ?_)
    | with_reducible exact nat_Of.mono k _
    | with_reducible exact nat_Gcd.mono k _ _
    | with_reducible exact nat_DivMod.mono k _ _
    | with_reducible refine Le.bind (Le.refl _) (fun _ => ?_)
    | split)
theorem ratio_Make.mono (k : Nat) : ∀ x0 x1 x2 x3, Le (ratio_Make.f k x0 x1 x2 x3) (ratio_Make.f (k + 1) x0 x1 x2 x3) := by
  intro x0 x1 x2 x3
  unfold ratio_Make.f
  repeat' (first
    | with_reducible exact Le.refl _
    | with_reducible refine Le.ite ?_ ?_
    | with_reducible refine Le.bind (whole_Clean.mono k _ _) (fun _ => ?_)
    | with_reducible refine Le.bind (whole_Sign.mono k _ _) (fun _ => ?_)
    | with_reducible refine Le.bind (whole_Neg.mono k _ _) (fun _ => ?_)
    | with_reducible refine Le.bind (ratio_form.mono k _ _ _) (fun _ => ?_)
    | with_reducible exact whole_Clean.mono k _ _
    | with_reducible exact whole_Sign.mono k _ _
    | with_reducible exact whole_Neg.mono k _ _
    | with_reducible exact ratio_form.mono k _ _ _
    | with_reducible refine Le.bind (Le.refl _) (fun _ => ?_)
    | split)
theorem ratio_Zero.mono (k : Nat) : Le (ratio_Zero.f k ) (ratio_Zero.f (k + 1) ) := by
  unfold ratio_Zero.f
  repeat' (first
    | with_reducible exact Le.refl _
    | with_reducible refine Le.ite ?_ ?_
    | with_reducible refine Le.bind (nat_Of.mono k _) (fun _ => ?_)
    | with_reducible exact nat_Of.mono k _
    | with_reducible refine Le.bind (Le.refl _) (fun _ => ?_)
    | split)
theorem whole_Of.mono (k : Nat) : ∀ x0, Le (whole_Of.f k x0) (whole_Of.f (k + 1) x0) := by
  intro x0
  unfold whole_Of.f
  repeat' (first
    | with_reducible exact Le.refl _
    | with_reducible refine Le.ite ?_ ?_
    | with_reducible refine Le.bind (nat_Of.mono k _) (fun _ => ?_)
    | with_reducible exact nat_Of.mono k _
    | with_reducible refine Le.bind (Le.refl _) (fun _ => ?_)
    | split)
theorem ratio_Of.mono (k : Nat) : ∀ x0, Le (ratio_Of.f k x0) (ratio_Of.f (k + 1) x0) := by
  intro x0
  unfold ratio_Of.f
  repeat' (first
    | with_reducible exact Le.refl _
    | with_reducible refine Le.ite ?_ ?_
    | with_reducible refine Le.bind (whole_Of.mono k _) (fun _ => ?_)
    | with_reducible refine Le.bind (nat_Of.mono k _) (fun _ => ?_)
    | with_reducible exact whole_Of.mono k _
    | with_reducible exact nat_Of.mono k _
    | with_reducible refine Le.bind (Le.refl _) (fun _ => ?_)
    | split)
theorem ratio_One.mono (k : Nat) : Le (ratio_One.f k ) (ratio_One.f (k + 1) ) := by
  unfold ratio_One.f
  repeat' (first
    | with_reducible exact Le.refl _
    | with_reducible refine Le.ite ?_ ?_
    | with_reducible refine Le.bind (ratio_Of.mono k _) (fun _ => ?_)
    | with_reducible exact ratio_Of.mono k _
    | with_reducible refine Le.bind (Le.refl _) (fun _ => ?_)
    | split)
theorem ratio_Int.mono (k : Nat) : ∀ x0 x1, Le (ratio_Int.f k x0 x1) (ratio_Int.f (k + 1) x0 x1) := by
  intro x0 x1
  unfold ratio_Int.f
  repeat' (first
    | with_reducible exact Le.refl _
    | with_reducible refine Le.ite ?_ ?_
    | with_reducible refine Le.bind (whole_Clean.mono k _ _) (fun _ => ?_)
    | with_reducible refine Le.bind (nat_Of.mono k _) (fun _ => ?_)
    | with_reducible exact whole_Clean.mono k _ _
    | with_reducible exact nat_Of.mono k _
    | with_reducible refine Le.bind (Le.refl _) (fun _ => ?_)
    | split)
theorem ratio_Clean.mono (k : Nat) : ∀ x0 x1 x2, Le (ratio_Clean.f k x0 x1 x2) (ratio_Clean.f (k + 1) x0 x1 x2) := by
  intro x0 x1 x2
  unfold ratio_Clean.f
  repeat' (first
    | with_reducible exact Le.refl _
    | with_reducible refine Le.ite ?_ ?_
    | with_reducible refine Le.bind (nat_Clean.mono k _) (fun _ => ?_)
    | with_reducible refine Le.bind (ratio_Zero.mono k ) (fun _ => ?_)
    | with_reducible refine Le.bind (whole_Clean.mono k _ _) (fun _ => ?_)
    | with_reducible refine Le.bind (ratio_form.mono k _ _ _) (fun _ => ?_)
    | with_reducible exact nat_Clean.mono k _
    | with_reducible exact ratio_Zero.mono k 
    | with_reducible exact whole_Clean.mono k _ _
    | with_reducible exact ratio_form.mono k _ _ _
    | with_reducible refine Le.bind (Le.refl _) (fun _ => ?_)
    | split)
theorem ratio_Frac.mono (k : Nat) : ∀ x0 x1, Le (ratio_Frac.f k x0 x1) (ratio_Frac.f (k + 1) x0 x1) := by
  intro x0 x1
  unfold ratio_Frac.f
  repeat' (first
    | with_reducible exact Le.refl _
    | with_reducible refine Le.ite ?_ ?_
    | with_reducible refine Le.bind (whole_Of.mono k _) (fun _ => ?_)
    | with_reducible refine Le.bind (ratio_Make.mono k _ _ _ _) (fun _ => ?_)
    | with_reducible refine Le.bind (ratio_Clean.mono k _ _ _) (fun _ => ?_)
    | with_reducible exact whole_Of.mono k _
    | with_reducible exact ratio_Make.mono k _ _ _ _
    | with_reducible exact ratio_Clean.mono k _ _ _
    | with_reducible refine Le.bind (Le.refl _) (fun _ => ?_)
    | split)
theorem nat_Add.monoL (k : Nat) : (∀ x0 x1 x2 x3 x4 x5, Le (nat_Add.l0 k x0 x1 x2 x3 x4 x5) (nat_Add.l0 (k + 1) x0 x1 x2 x3 x4 x5)) := by
  induction k with
  | zero => exact fun _ _ _ _ _ _ => Le.none _
  | succ k ih =>
    intro x0 x1 x2 x3 x4 x5
    refine Le.eqs (nat_Add.l0.eq_2 ..) (nat_Add.l0.eq_2 ..) ?_
    repeat' (first
      | with_reducible exact Le.refl _
      | with_reducible refine Le.ite ?_ ?_
      | with_reducible exact ih _ _ _ _ _ _
      | with_reducible refine Le.bind (ih _ _ _ _ _ _) (fun _ => ?_)
      | with_reducible refine Le.bind (nat_trim.mono k _) (fun _ => ?_)
      | with_reducible exact nat_trim.mono k _
      | with_reducible refine Le.bind (Le.refl _) (fun _ => ?_)
      | split)
theorem nat_Add.mono (k : Nat) : ∀ x0 x1, Le (nat_Add.f k x0 x1) (nat_Add.f (k + 1) x0 x1) := by
  intro x0 x1
  unfold nat_Add.f
  repeat' (first
    | with_reducible exact Le.refl _
    | with_reducible refine Le.ite ?_ ?_
    | with_reducible exact (nat_Add.monoL k) _ _ _ _ _ _
    | with_reducible refine Le.bind (nat_Clean.mono k _) (fun _ => ?_)
    | with_reducible exact nat_Clean.mono k _
    | with_reducible refine Le.bind (Le.refl _) (fun _ => ?_)
    | split)
theorem nat_Sub.mono (k : Nat) : ∀ x0 x1, Le (nat_Sub.f k x0 x1) (nat_Sub.f (k + 1) x0 x1) := by
  intro x0 x1
  unfold nat_Sub.f
  repeat' (first
    | with_reducible exact Le.refl _
    | with_reducible refine Le.ite ?_ ?_
    | with_reducible refine Le.bind (nat_Clean.mono k _) (fun _ => ?_)
    | with_reducible refine Le.bind (nat_order.mono k _ _) (fun _ => ?_)
    | with_reducible refine Le.bind (nat_minus.mono k _ _) (fun _ => ?_)
    | with_reducible exact nat_Clean.mono k _
    | with_reducible exact nat_order.mono k _ _
    | with_reducible exact nat_minus.mono k _ _
    | with_reducible refine Le.bind (Le.refl _) (fun _ => ?_)
    | split)
theorem whole_DivMod.mono (k : Nat) : ∀ x0 x1 x2 x3, Le (whole_DivMod.f k x0 x1 x2 x3) (whole_DivMod.f (k + 1) x0 x1 x2 x3) := by
  intro x0 x1 x2 x3
  unfold whole_DivMod.f
  repeat' (first
    | with_reducible exact Le.refl _
    | with_reducible refine Le.ite ?_ ?_
    | with_reducible refine Le.bind (whole_Clean.mono k _ _) (fun _ => ?_)
    | with_reducible refine Le.bind (nat_DivMod.mono k _ _) (fun _ => ?_)
    | with_reducible refine Le.bind (nat_Of.mono k _) (fun _ => ?_)
    | with_reducible refine Le.bind (nat_Add.mono k _ _) (fun _ => ?_)
    | with_reducible refine Le.bind (nat_Sub.mono k _ _) (fun _ => ?_)
    | with_reducible exact whole_Clean.mono k _ _
    | with_reducible exact nat_DivMod.mono k _ _
    | with_reducible exact nat_Of.mono k _
    | with_reducible exact nat_Add.mono k _ _
    | with_reducible exact nat_Sub.mono k _ _
    | with_reducible refine Le.bind (Le.refl _) (fun _ => ?_)
    | split)
theorem ratio_Floor.mono (k : Nat) : ∀ x0 x1 x2, Le (ratio_Floor.f k x0 x1 x2) (ratio_Floor.f (k + 1) x0 x1 x2) := by
  intro x0 x1 x2
  unfold ratio_Floor.f
  repeat' (first
    | with_reducible exact Le.refl _
    | with_reducible refine Le.ite ?_ ?_
    | with_reducible refine Le.bind (ratio_Clean.mono k _ _ _) (fun _ => ?_)
    | with_reducible refine Le.bind (whole_DivMod.mono k _ _ _ _) (fun _ => ?_)
    | with_reducible exact ratio_Clean.mono k _ _ _
    | with_reducible exact whole_DivMod.mono k _ _ _ _
    | with_reducible refine Le.bind (Le.refl _) (fun _ => ?_)
    | split)
theorem ratio_Neg.mono (k : Nat) : ∀ x0 x1 x2, Le (ratio_Neg.f k x0 x1 x2) (ratio_Neg.f (k + 1) x0 x1 x2) := by
  intro x0 x1 x2
  unfold ratio_Neg.f
  repeat' (first
    | with_reducible exact Le.refl _
    | with_reducible refine Le.ite ?_ ?_
    | with_reducible refine Le.bind (ratio_Clean.mono k _ _ _) (fun _ => ?_)
    | with_reducible refine Le.bind (whole_Neg.mono k _ _) (fun _ => ?_)
    | with_reducible exact ratio_Clean.mono k _ _ _
    | with_reducible exact whole_Neg.mono k _ _
    | with_reducible refine Le.bind (Le.refl _) (fun _ => ?_)
    | split)
theorem ratio_Ceil.mono (k : Nat) : ∀ x0 x1 x2, Le (ratio_Ceil.f k x0 x1 x2) (ratio_Ceil.f (k + 1) x0 x1 x2) := by
  intro x0 x1 x2
  unfold ratio_Ceil.f
  repeat' (first
    | with_reducible exact Le.refl _
    | with_reducible refine Le.ite ?_ ?_
    | with_reducible refine Le.bind (ratio_Neg.mono k _ _ _) (fun _ => ?_)
    | with_reducible refine Le.bind (ratio_Floor.mono k _ _ _) (fun _ => ?_)
    | with_reducible refine Le.bind (whole_Neg.mono k _ _) (fun _ => ?_)
    | with_reducible exact ratio_Neg.mono k _ _ _
    | with_reducible exact ratio_Floor.mono k _ _ _
    | with_reducible exact whole_Neg.mono k _ _
    | with_reducible refine Le.bind (Le.refl _) (fun _ => ?_)
    | split)
theorem nat_Cmp.mono (k : Nat) : ∀ x0 x1, Le (nat_Cmp.f k x0 x1) (nat_Cmp.f (k + 1) x0 x1) := by
  intro x0 x1
  unfold nat_Cmp.f
  repeat' (first
    | with_reducible exact Le.refl _
    | with_reducible refine Le.ite ?_ ?_
    | with_reducible refine Le.bind (nat_Clean.mono k _) (fun _ => ?_)
    | with_reducible refine Le.bind (nat_order.mono k _ _) (fun _ => ?_)
    | with_reducible exact nat_Clean.mono k _
    | with_reducible exact nat_order.mono k _ _
    | with_reducible refine Le.bind (Le.refl _) (fun _ => ?_)
    | split)
theorem whole_Cmp.mono (k : Nat) : ∀ x0 x1 x2 x3, Le (whole_Cmp.f k x0 x1 x2 x3) (whole_Cmp.f (k + 1) x0 x1 x2 x3) := by
  intro x0 x1 x2 x3
  unfold whole_Cmp.f
  repeat' (first
    | with_reducible exact Le.refl _
    | with_reducible refine Le.ite ?_ ?_
    | with_reducible refine Le.bind (whole_Clean.mono k _ _) (fun _ => ?_)
    | with_reducible refine Le.bind (nat_Cmp.mono k _ _) (fun _ => ?_)
    | with_reducible exact whole_Clean.mono k _ _
    | with_reducible exact nat_Cmp.mono k _ _
    | with_reducible refine Le.bind (Le.refl _) (fun _ => ?_)
    | split)
theorem nat_Mul.monoL (k : Nat) : (∀ x0 x1 x2 x3 x4, Le (nat_Mul.l0 k x0 x1 x2 x3 x4) (nat_Mul.l0 (k + 1) x0 x1 x2 x3 x4)) ∧ (∀ x0 x1 x2 x3 x4 x5 x6 x7 x8 x9 x10, Le (nat_Mul.l1 k x0 x1 x2 x3 x4 x5 x6 x7 x8 x9 x10) (nat_Mul.l1 (k + 1) x0 x1 x2 x3 x4 x5 x6 x7 x8 x9 x10)) := by
  induction k with
  | zero => exact ⟨fun _ _ _ _ _ => Le.none _, fun _ _ _ _ _ _ _ _ _ _ _ => Le.none _⟩
  | succ k ih =>
    refine ⟨?_, ?_⟩
    · intro x0 x1 x2 x3 x4
      refine Le.eqs (nat_Mul.l0.eq_2 ..) (nat_Mul.l0.eq_2 ..) ?_
      repeat' (first
        | with_reducible exact Le.refl _
        | with_reducible refine Le.ite ?_ ?_
        | with_reducible exact ih.2 _ _ _ _ _ _ _ _ _ _ _
        | with_reducible refine Le.bind (ih.2 _ _ _ _ _ _ _ _ _ _ _) (fun _ => ?_)
        | with_reducible refine Le.bind (nat_trim.mono k _) (fun _ => ?_)
        | with_reducible exact nat_trim.mono k _
        | with_reducible refine Le.bind (Le.refl _) (fun _ => ?_)
        | split)
    · intro x0 x1 x2 x3 x4 x5 x6 x7 x8 x9 x10
      refine Le.eqs (nat_Mul.l1.eq_2 ..) (nat_Mul.l1.eq_2 ..) ?_
      repeat' (first
        | with_reducible exact Le.refl _
        | with_reducible refine Le.ite ?_ ?_
        | with_reducible exact ih.1 _ _ _ _ _
        | with_reducible refine Le.bind (ih.1 _ _ _ _ _) (fun _ => ?_)
        | with_reducible exact ih.2 _ _ _ _ _ _ _ _ _ _ _
        | with_reducible refine Le.bind (ih.2 _ _ _ _ _ _ _ _ _ _ _) (fun _ => ?_)
        | with_reducible refine Le.bind (Le.refl _) (fun _ => ?_)
        | split)
theorem nat_Mul.mono (k : Nat) : ∀ x0 x1, Le (nat_Mul.f k x0 x1) (nat_Mul.f (k + 1) x0 x1) := by
  intro x0 x1
  unfold nat_Mul.f
  repeat' (first
    | with_reducible exact Le.refl _
    | with_reducible refine Le.ite ?_ ?_
    | with_reducible exact (nat_Mul.monoL k).1 _ _ _ _ _
    | with_reducible refine Le.bind (nat_Clean.mono k _) (fun _ => ?_)
    | with_reducible exact nat_Clean.mono k _
    | with_reducible refine Le.bind (Le.refl _) (fun _ => ?_)
    | split)
theorem whole_Mul.mono (k : Nat) : ∀ x0 x1 x2 x3, Le (whole_Mul.f k x0 x1 x2 x3) (whole_Mul.f (k + 1) x0 x1 x2 x3) := by
  intro x0 x1 x2 x3
  unfold whole_Mul.f
  repeat' (first
    | with_reducible exact Le.refl _
    | with_reducible refine Le.ite ?_ ?_
    | with_reducible refine Le.bind (whole_Clean.mono k _ _) (fun _ => ?_)
    | with_reducible refine Le.bind (nat_Mul.mono k _ _) (fun _ => ?_)
    | with_reducible exact whole_Clean.mono k _ _
    | with_reducible exact nat_Mul.mono k _ _
    | with_reducible refine Le.bind (Le.refl _) (fun _ => ?_)
    | split)
theorem ratio_Cmp.mono (k : Nat) : ∀ x0 x1 x2 x3 x4 x5, Le (ratio_Cmp.f k x0 x1 x2 x3 x4 x5) (ratio_Cmp.f (k + 1) x0 x1 x2 x3 x4 x5) := by
  intro x0 x1 x2 x3 x4 x5
  unfold ratio_Cmp.f
  repeat' (first
    | with_reducible exact Le.refl _
    | with_reducible refine Le.ite ?_ ?_
    | with_reducible refine Le.bind (ratio_Clean.mono k _ _ _) (fun _ => ?_)
    | with_reducible refine Le.bind (whole_Mul.mono k _ _ _ _) (fun _ => ?_)
    | with_reducible refine Le.bind (whole_Cmp.mono k _ _ _ _) (fun _ => ?_)
    | with_reducible exact ratio_Clean.mono k _ _ _
    | with_reducible exact whole_Mul.mono k _ _ _ _
    | with_reducible exact whole_Cmp.mono k _ _ _ _
    | with_reducible refine Le.bind (Le.refl _) (fun _ => ?_)
    | split)
theorem whole_Add.mono (k : Nat) : ∀ x0 x1 x2 x3, Le (whole_Add.f k x0 x1 x2 x3) (whole_Add.f (k + 1) x0 x1 x2 x3) := by
  intro x0 x1 x2 x3
  unfold whole_Add.f
  repeat' (first
    | with_reducible exact Le.refl _
    | with_reducible refine Le.ite ?_ ?_
    | with_reducible refine Le.bind (whole_Clean.mono k _ _) (fun _ => ?_)
    | with_reducible refine Le.bind (nat_Add.mono k _ _) (fun _ => ?_)
    | with_reducible refine Le.bind (nat_Cmp.mono k _ _) (fun _ => ?_)
    | with_reducible refine Le.bind (nat_Sub.mono k _ _) (fun _ => ?_)
    | with_reducible exact whole_Clean.mono k _ _
    | with_reducible exact nat_Add.mono k _ _
    | with_reducible exact nat_Cmp.mono k _ _
    | with_reducible exact nat_Sub.mono k _ _
    | with_reducible refine Le.bind (Le.refl _) (fun _ => ?_)
    | split)
theorem ratio_Add.mono (k : Nat) : ∀ x0 x1 x2 x3 x4 x5, Le (ratio_Add.f k x0 x1 x2 x3 x4 x5) (ratio_Add.f (k + 1) x0 x1 x2 x3 x4 x5) := by
  intro x0 x1 x2 x3 x4 x5
  unfold ratio_Add.f
  repeat' (first
    | with_reducible exact Le.refl _
    | with_reducible refine Le.ite ?_ ?_
    | with_reducible refine Le.bind (ratio_Clean.mono k _ _ _) (fun _ => ?_)
    | with_reducible refine Le.bind (whole_Mul.mono k _ _ _ _) (fun _ => ?_)
    | with_reducible refine Le.bind (whole_Add.mono k _ _ _ _) (fun _ => ?_)
    | with_reducible refine Le.bind (nat_Mul.mono k _ _) (fun _ => ?_)
    | with_reducible refine Le.bind (ratio_form.mono k _ _ _) (fun _ => ?_)
    | with_reducible exact ratio_Clean.mono k _ _ _
    | with_reducible exact whole_Mul.mono k _ _ _ _
    | with_reducible exact whole_Add.mono k _ _ _ _
    | with_reducible exact nat_Mul.mono k _ _
    | with_reducible exact ratio_form.mono k _ _ _
    | with_reducible refine Le.bind (Le.refl _) (fun _ => ?_)
    | split)
theorem ratio_Sub.mono (k : Nat) : ∀ x0 x1 x2 x3 x4 x5, Le (ratio_Sub.f k x0 x1 x2 x3 x4 x5) (ratio_Sub.f (k + 1) x0 x1 x2 x3 x4 x5) := by
  intro x0 x1 x2 x3 x4 x5
  unfold ratio_Sub.f
  repeat' (first
    | with_reducible exact Le.refl _
    | with_reducible refine Le.ite ?_ ?_
    | with_reducible refine Le.bind (ratio_Neg.mono k _ _ _) (fun _ => ?_)
    | with_reducible refine Le.bind (ratio_Add.mono k _ _ _ _ _ _) (fun _ => ?_)
    | with_reducible exact ratio_Neg.mono k _ _ _
    | with_reducible exact ratio_Add.mono k _ _ _ _ _ _
    | with_reducible refine Le.bind (Le.refl _) (fun _ => ?_)
    | split)
theorem ratio_Sign.mono (k : Nat) : ∀ x0 x1 x2, Le (ratio_Sign.f k x0 x1 x2) (ratio_Sign.f (k + 1) x0 x1 x2) := by
  intro x0 x1 x2
  unfold ratio_Sign.f
  repeat' (first
    | with_reducible exact Le.refl _
    | with_reducible refine Le.ite ?_ ?_
    | with_reducible refine Le.bind (ratio_Clean.mono k _ _ _) (fun _ => ?_)
    | with_reducible refine Le.bind (whole_Sign.mono k _ _) (fun _ => ?_)
    | with_reducible exact ratio_Clean.mono k _ _ _
    | with_reducible exact whole_Sign.mono k _ _
    | with_reducible refine Le.bind (Le.refl _) (fun _ => ?_)
    | split)
theorem ratio_Mul.mono (k : Nat) : ∀ x0 x1 x2 x3 x4 x5, Le (ratio_Mul.f k x0 x1 x2 x3 x4 x5) (ratio_Mul.f (k + 1) x0 x1 x2 x3 x4 x5) := by
  intro x0 x1 x2 x3 x4 x5
  unfold ratio_Mul.f
  repeat' (first
    | with_reducible exact Le.refl _
    | with_reducible refine Le.ite ?_ ?_
    | with_reducible refine Le.bind (ratio_Clean.mono k _ _ _) (fun _ => ?_)
    | with_reducible refine Le.bind (whole_Mul.mono k _ _ _ _) (fun _ => ?_)
    | with_reducible refine Le.bind (nat_Mul.mono k _ _) (fun _ => ?_)
    | with_reducible refine Le.bind (ratio_form.mono k _ _ _) (fun _ => ?_)
    | with_reducible exact ratio_Clean.mono k _ _ _
    | with_reducible exact whole_Mul.mono k _ _ _ _
    | with_reducible exact nat_Mul.mono k _ _
    | with_reducible exact ratio_form.mono k _ _ _
    | with_reducible refine Le.bind (Le.refl _) (fun _ => ?_)
    | split)
theorem ratio_Inv.mono (k : Nat) : ∀ x0 x1 x2, Le (ratio_Inv.f k x0 x1 x2) (ratio_Inv.f (k + 1) x0 x1 x2) := by
  intro x0 x1 x2
  unfold ratio_Inv.f
  repeat' (first
    | with_reducible exact Le.refl _
    | with_reducible refine Le.ite ?_ ?_
    | with_reducible refine Le.bind (ratio_Clean.mono k _ _ _) (fun _ => ?_)
    | with_reducible refine Le.bind (ratio_Make.mono k _ _ _ _) (fun _ => ?_)
    | with_reducible exact ratio_Clean.mono k _ _ _
    | with_reducible exact ratio_Make.mono k _ _ _ _
    | with_reducible refine Le.bind (Le.refl _) (fun _ => ?_)
    | split)
theorem ratio_Div.mono (k : Nat) : ∀ x0 x1 x2 x3 x4 x5, Le (ratio_Div.f k x0 x1 x2 x3 x4 x5) (ratio_Div.f (k + 1) x0 x1 x2 x3 x4 x5) := by
  intro x0 x1 x2 x3 x4 x5
  unfold ratio_Div.f
  repeat' (first
    | with_reducible exact Le.refl _
    | with_reducible refine Le.ite ?_ ?_
    | with_reducible refine Le.bind (ratio_Inv.mono k _ _ _) (fun _ => ?_)
    | with_reducible refine Le.bind (ratio_Mul.mono k _ _ _ _ _ _) (fun _ => ?_)
    | with_reducible exact ratio_Inv.mono k _ _ _
    | with_reducible exact ratio_Mul.mono k _ _ _ _ _ _
    | with_reducible refine Le.bind (Le.refl _) (fun _ => ?_)
    | split)
theorem ratio_over.mono (k : Nat) : ∀ x0 x1 x2 x3 x4 x5, Le (ratio_over.f k x0 x1 x2 x3 x4 x5) (ratio_over.f (k + 1) x0 x1 x2 x3 x4 x5) := by
  intro x0 x1 x2 x3 x4 x5
  unfold ratio_over.f
  repeat' (first
    | with_reducible exact Le.refl _
    | with_reducible refine Le.ite ?_ ?_
    | with_reducible refine Le.bind (ratio_Div.mono k _ _ _ _ _ _) (fun _ => ?_)
    | with_reducible exact ratio_Div.mono k _ _ _ _ _ _
    | with_reducible refine Le.bind (Le.refl _) (fun _ => ?_)
    | split)
theorem ratio_unfold.monoL (k : Nat) : (∀ x0 x1 x2 x3 x4 x5, Le (ratio_unfold.l0 k x0 x1 x2 x3 x4 x5) (ratio_unfold.l0 (k + 1) x0 x1 x2 x3 x4 x5)) := by
  induction k with
  | zero => exact fun _ _ _ _ _ _ => Le.none _
  | succ k ih =>
    intro x0 x1 x2 x3 x4 x5
    refine Le.eqs (ratio_unfold.l0.eq_2 ..) (ratio_unfold.l0.eq_2 ..) ?_
    repeat' (first
      | with_reducible exact Le.refl _
      | with_reducible refine Le.ite ?_ ?_
      | with_reducible exact ih _ _ _ _ _ _
      | with_reducible refine Le.bind (ih _ _ _ _ _ _) (fun _ => ?_)
      | with_reducible refine Le.bind (ratio_One.mono k ) (fun _ => ?_)
      | with_reducible refine Le.bind (ratio_over.mono k _ _ _ _ _ _) (fun _ => ?_)
      | with_reducible refine Le.bind (ratio_Add.mono k _ _ _ _ _ _) (fun _ => ?_)
      | with_reducible exact ratio_One.mono k 
      | with_reducible exact ratio_over.mono k _ _ _ _ _ _
      | with_reducible exact ratio_Add.mono k _ _ _ _ _ _
      | with_reducible refine Le.bind (Le.refl _) (fun _ => ?_)
      | split)
theorem ratio_unfold.mono (k : Nat) : ∀ x0 x1 x2 x3, Le (ratio_unfold.f k x0 x1 x2 x3) (ratio_unfold.f (k + 1) x0 x1 x2 x3) := by
  intro x0 x1 x2 x3
  unfold ratio_unfold.f
  repeat' (first
    | with_reducible exact Le.refl _
    | with_reducible refine Le.ite ?_ ?_
    | with_reducible exact (ratio_unfold.monoL k) _ _ _ _ _ _
    | with_reducible refine Le.bind (Le.refl _) (fun _ => ?_)
    | split)
theorem ratio_Simplest.monoL (k : Nat) : (∀ x0 x1 x2 x3 x4 x5 x6 x7, Le (ratio_Simplest.l0 k x0 x1 x2 x3 x4 x5 x6 x7) (ratio_Simplest.l0 (k + 1) x0 x1 x2 x3 x4 x5 x6 x7)) ∧ (∀ x0 x1 x2 x3 x4 x5, Le (ratio_Simplest.f k x0 x1 x2 x3 x4 x5) (ratio_Simplest.f (k + 1) x0 x1 x2 x3 x4 x5)) := by
  induction k with
  | zero => exact ⟨fun _ _ _ _ _ _ _ _ => Le.none _, fun _ _ _ _ _ _ => Le.none _⟩
  | succ k ih =>
    refine ⟨?_, ?_⟩
    · intro x0 x1 x2 x3 x4 x5 x6 x7
      refine Le.eqs (ratio_Simplest.l0.eq_2 ..) (ratio_Simplest.l0.eq_2 ..) ?_
      repeat' (first
        | with_reducible exact Le.refl _
        | with_reducible refine Le.ite ?_ ?_
        | with_reducible exact ih.1 _ _ _ _ _ _ _ _
        | with_reducible refine Le.bind (ih.1 _ _ _ _ _ _ _ _) (fun _ => ?_)
        | with_reducible refine Le.bind (ratio_Ceil.mono k _ _ _) (fun _ => ?_)
        | with_reducible refine Le.bind (ratio_Int.mono k _ _) (fun _ => ?_)
        | with_reducible refine Le.bind (ratio_Cmp.mono k _ _ _ _ _ _) (fun _ => ?_)
        | with_reducible refine Le.bind (ratio_unfold.mono k _ _ _ _) (fun _ => ?_)
        | with_reducible refine Le.bind (ratio_Floor.mono k _ _ _) (fun _ => ?_)
        | with_reducible refine Le.bind (ratio_One.mono k ) (fun _ => ?_)
        | with_reducible refine Le.bind (ratio_Sub.mono k _ _ _ _ _ _) (fun _ => ?_)
        | with_reducible refine Le.bind (ratio_over.mono k _ _ _ _ _ _) (fun _ => ?_)
        | with_reducible exact ratio_Ceil.mono k _ _ _
        | with_reducible exact ratio_Int.mono k _ _
        | with_reducible exact ratio_Cmp.mono k _ _ _ _ _ _
        | with_reducible exact ratio_unfold.mono k _ _ _ _
        | with_reducible exact ratio_Floor.mono k _ _ _
        | with_reducible exact ratio_One.mono k 
        | with_reducible exact ratio_Sub.mono k _ _ _ _ _ _
        | with_reducible exact ratio_over.mono k _ _ _ _ _ _
        | with_reducible refine Le.bind (Le.refl _) (fun _ => ?_)
        | split)
    · intro x0 x1 x2 x3 x4 x5
      refine Le.eqs (ratio_Simplest.f.eq_2 ..) (ratio_Simplest.f.eq_2 ..) ?_
      repeat' (first
        | with_reducible exact Le.refl _
        | with_reducible refine Le.ite ?_ ?_
        | with_reducible exact ih.1 _ _ _ _ _ _ _ _
        | with_reducible refine Le.bind (ih.1 _ _ _ _ _ _ _ _) (fun _ => ?_)
        | with_reducible exact ih.2 _ _ _ _ _ _
        | with_reducible refine Le.bind (ih.2 _ _ _ _ _ _) (fun _ => ?_)
        | with_reducible refine Le.bind (ratio_Clean.mono k _ _ _) (fun _ => ?_)
        | with_reducible refine Le.bind (ratio_Cmp.mono k _ _ _ _ _ _) (fun _ => ?_)
        | with_reducible refine Le.bind (ratio_Sign.mono k _ _ _) (fun _ => ?_)
        | with_reducible refine Le.bind (ratio_Zero.mono k ) (fun _ => ?_)
        | with_reducible refine Le.bind (ratio_Neg.mono k _ _ _) (fun _ => ?_)
        | with_reducible exact ratio_Clean.mono k _ _ _
        | with_reducible exact ratio_Cmp.mono k _ _ _ _ _ _
        | with_reducible exact ratio_Sign.mono k _ _ _
        | with_reducible exact ratio_Zero.mono k 
        | with_reducible exact ratio_Neg.mono k _ _ _
        | with_reducible refine Le.bind (Le.refl _) (fun _ => ?_)
        | split)
theorem ratio_Simplest.mono (k : Nat) : ∀ x0 x1 x2 x3 x4 x5, Le (ratio_Simplest.f k x0 x1 x2 x3 x4 x5) (ratio_Simplest.f (k + 1) x0 x1 x2 x3 x4 x5) := (ratio_Simplest.monoL k).2
theorem ratio_Same.mono (k : Nat) : ∀ x0 x1 x2 x3 x4 x5, Le (ratio_Same.f k x0 x1 x2 x3 x4 x5) (ratio_Same.f (k + 1) x0 x1 x2 x3 x4 x5) := by
  intro x0 x1 x2 x3 x4 x5
  unfold ratio_Same.f
  repeat' (first
    | with_reducible exact Le.refl _
    | with_reducible refine Le.ite ?_ ?_
    | with_reducible refine Le.bind (ratio_Cmp.mono k _ _ _ _ _ _) (fun _ => ?_)
    | with_reducible exact ratio_Cmp.mono k _ _ _ _ _ _
    | with_reducible refine Le.bind (Le.refl _) (fun _ => ?_)
    | split)
theorem ratio_middle.mono (k : Nat) : ∀ x0 x1 x2 x3 x4 x5, Le (ratio_middle.f k x0 x1 x2 x3 x4 x5) (ratio_middle.f (k + 1) x0 x1 x2 x3 x4 x5) := by
  intro x0 x1 x2 x3 x4 x5
  unfold ratio_middle.f
  repeat' (first
    | with_reducible exact Le.refl _
    | with_reducible refine Le.ite ?_ ?_
    | with_reducible refine Le.bind (whole_Add.mono k _ _ _ _) (fun _ => ?_)
    | with_reducible refine Le.bind (nat_Add.mono k _ _) (fun _ => ?_)
    | with_reducible refine Le.bind (ratio_form.mono k _ _ _) (fun _ => ?_)
    | with_reducible exact whole_Add.mono k _ _ _ _
    | with_reducible exact nat_Add.mono k _ _
    | with_reducible exact ratio_form.mono k _ _ _
    | with_reducible refine Le.bind (Le.refl _) (fun _ => ?_)
    | split)
theorem ratio_Near.monoL (k : Nat) : (∀ x0 x1 x2 x3 x4 x5 x6 x7 x8 x9 x10, Le (ratio_Near.l0 k x0 x1 x2 x3 x4 x5 x6 x7 x8 x9 x10) (ratio_Near.l0 (k + 1) x0 x1 x2 x3 x4 x5 x6 x7 x8 x9 x10)) := by
  induction k with
  | zero => exact fun _ _ _ _ _ _ _ _ _ _ _ => Le.none _
  | succ k ih =>
    intro x0 x1 x2 x3 x4 x5 x6 x7 x8 x9 x10
    refine Le.eqs (ratio_Near.l0.eq_2 ..) (ratio_Near.l0.eq_2 ..) ?_
    repeat' (first
      | with_reducible exact Le.refl _
      | with_reducible refine Le.ite ?_ ?_
      | with_reducible exact ih _ _ _ _ _ _ _ _ _ _ _
      | with_reducible refine Le.bind (ih _ _ _ _ _ _ _ _ _ _ _) (fun _ => ?_)
      | with_reducible refine Le.bind (nat_Add.mono k _ _) (fun _ => ?_)
      | with_reducible refine Le.bind (nat_Cmp.mono k _ _) (fun _ => ?_)
      | with_reducible refine Le.bind (ratio_middle.mono k _ _ _ _ _ _) (fun _ => ?_)
      | with_reducible refine Le.bind (ratio_Cmp.mono k _ _ _ _ _ _) (fun _ => ?_)
      | with_reducible refine Le.bind (ratio_Sub.mono k _ _ _ _ _ _) (fun _ => ?_)
      | with_reducible exact nat_Add.mono k _ _
      | with_reducible exact nat_Cmp.mono k _ _
      | with_reducible exact ratio_middle.mono k _ _ _ _ _ _
      | with_reducible exact ratio_Cmp.mono k _ _ _ _ _ _
      | with_reducible exact ratio_Sub.mono k _ _ _ _ _ _
      | with_reducible refine Le.bind (Le.refl _) (fun _ => ?_)
      | split)
theorem ratio_Near.mono (k : Nat) : ∀ x0 x1 x2 x3, Le (ratio_Near.f k x0 x1 x2 x3) (ratio_Near.f (k + 1) x0 x1 x2 x3) := by
  intro x0 x1 x2 x3
  unfold ratio_Near.f
  repeat' (first
    | with_reducible exact Le.refl _
    | with_reducible refine Le.ite ?_ ?_
    | with_reducible exact (ratio_Near.monoL k) _ _ _ _ _ _ _ _ _ _ _
    | with_reducible refine Le.bind (ratio_Clean.mono k _ _ _) (fun _ => ?_)
    | with_reducible refine Le.bind (ratio_Floor.mono k _ _ _) (fun _ => ?_)
    | with_reducible refine Le.bind (ratio_Int.mono k _ _) (fun _ => ?_)
    | with_reducible refine Le.bind (ratio_One.mono k ) (fun _ => ?_)
    | with_reducible refine Le.bind (ratio_Add.mono k _ _ _ _ _ _) (fun _ => ?_)
    | with_reducible refine Le.bind (ratio_Same.mono k _ _ _ _ _ _) (fun _ => ?_)
    | with_reducible refine Le.bind (nat_Of.mono k _) (fun _ => ?_)
    | with_reducible exact ratio_Clean.mono k _ _ _
    | with_reducible exact ratio_Floor.mono k _ _ _
    | with_reducible exact ratio_Int.mono k _ _
    | with_reducible exact ratio_One.mono k 
    | with_reducible exact ratio_Add.mono k _ _ _ _ _ _
    | with_reducible exact ratio_Same.mono k _ _ _ _ _ _
    | with_reducible exact nat_Of.mono k _
    | with_reducible refine Le.bind (Le.refl _) (fun _ => ?_)
    | split)
theorem ratio_ten.monoL (k : Nat) : (∀ x0 x1 x2, Le (ratio_ten.l0 k x0 x1 x2) (ratio_ten.l0 (k + 1) x0 x1 x2)) := by
  induction k with
  | zero => exact fun _ _ _ => Le.none _
  | succ k ih =>
    intro x0 x1 x2
    refine Le.eqs (ratio_ten.l0.eq_2 ..) (ratio_ten.l0.eq_2 ..) ?_
    repeat' (first
      | with_reducible exact Le.refl _
      | with_reducible refine Le.ite ?_ ?_
      | with_reducible exact ih _ _ _
      | with_reducible refine Le.bind (ih _ _ _) (fun _ => ?_)
      | with_reducible refine Le.bind (nat_Of.mono k _) (fun _ => ?_)
      | with_reducible refine Le.bind (nat_Mul.mono k _ _) (fun _ => ?_)
      | with_reducible exact nat_Of.mono k _
      | with_reducible exact nat_Mul.mono k _ _
      | with_reducible refine Le.bind (Le.refl _) (fun _ => ?_)
      | split)
theorem ratio_ten.mono (k : Nat) : ∀ x0, Le (ratio_ten.f k x0) (ratio_ten.f (k + 1) x0) := by
  intro x0
  unfold ratio_ten.f
  repeat' (first
    | with_reducible exact Le.refl _
    | with_reducible refine Le.ite ?_ ?_
    | with_reducible exact (ratio_ten.monoL k) _ _ _
    | with_reducible refine Le.bind (nat_Of.mono k _) (fun _ => ?_)
    | with_reducible exact nat_Of.mono k _
    | with_reducible refine Le.bind (Le.refl _) (fun _ => ?_)
    | split)
theorem stringslite_Index.mono (k : Nat) : ∀ x0 x1, Le (stringslite_Index.f k x0 x1) (stringslite_Index.f (k + 1) x0 x1) := by
  intro x0 x1
  unfold stringslite_Index.f
  repeat' (first
    | with_reducible exact Le.refl _
    | with_reducible refine Le.ite ?_ ?_
    | with_reducible refine Le.bind (Le.refl _) (fun _ => ?_)
    | split)
theorem stringslite_Cut.mono (k : Nat) : ∀ x0 x1, Le (stringslite_Cut.f k x0 x1) (stringslite_Cut.f (k + 1) x0 x1) := by
  intro x0 x1
  unfold stringslite_Cut.f
  repeat' (first
    | with_reducible exact Le.refl _
    | with_reducible refine Le.ite ?_ ?_
    | with_reducible refine Le.bind (stringslite_Index.mono k _ _) (fun _ => ?_)
    | with_reducible exact stringslite_Index.mono k _ _
    | with_reducible refine Le.bind (Le.refl _) (fun _ => ?_)
    | split)
theorem strings_Cut.mono (k : Nat) : ∀ x0 x1, Le (strings_Cut.f k x0 x1) (strings_Cut.f (k + 1) x0 x1) := by
  intro x0 x1
  unfold strings_Cut.f
  repeat' (first
    | with_reducible exact Le.refl _
    | with_reducible refine Le.ite ?_ ?_
    | with_reducible refine Le.bind (stringslite_Cut.mono k _ _) (fun _ => ?_)
    | with_reducible exact stringslite_Cut.mono k _ _
    | with_reducible refine Le.bind (Le.refl _) (fun _ => ?_)
    | split)
theorem nat_plus.monoL (k : Nat) : (∀ x0 x1 x2 x3 x4, Le (nat_plus.l0 k x0 x1 x2 x3 x4) (nat_plus.l0 (k + 1) x0 x1 x2 x3 x4)) := by
  induction k with
  | zero => exact fun _ _ _ _ _ => Le.none _
  | succ k ih =>
    intro x0 x1 x2 x3 x4
    refine Le.eqs (nat_plus.l0.eq_2 ..) (nat_plus.l0.eq_2 ..) ?_
    repeat' (first
      | with_reducible exact Le.refl _
      | with_reducible refine Le.ite ?_ ?_
      | with_reducible exact ih _ _ _ _ _
      | with_reducible refine Le.bind (ih _ _ _ _ _) (fun _ => ?_)
      | with_reducible refine Le.bind (nat_trim.mono k _) (fun _ => ?_)
      | with_reducible exact nat_trim.mono k _
      | with_reducible refine Le.bind (Le.refl _) (fun _ => ?_)
      | split)
theorem nat_plus.mono (k : Nat) : ∀ x0 x1, Le (nat_plus.f k x0 x1) (nat_plus.f (k + 1) x0 x1) := by
  intro x0 x1
  unfold nat_plus.f
  repeat' (first
    | with_reducible exact Le.refl _
    | with_reducible refine Le.ite ?_ ?_
    | with_reducible exact (nat_plus.monoL k) _ _ _ _ _
    | with_reducible refine Le.bind (Le.refl _) (fun _ => ?_)
    | split)
theorem nat_Parse.monoL (k : Nat) : (∀ x0 x1 x2, Le (nat_Parse.l0 k x0 x1 x2) (nat_Parse.l0 (k + 1) x0 x1 x2)) ∧ (∀ x0 x1, Le (nat_Parse.l1 k x0 x1) (nat_Parse.l1 (k + 1) x0 x1)) ∧ (∀ x0 x1 x2 x3 x4 x5 x6, Le (nat_Parse.l2 k x0 x1 x2 x3 x4 x5 x6) (nat_Parse.l2 (k + 1) x0 x1 x2 x3 x4 x5 x6)) := by
  induction k with
  | zero => exact ⟨fun _ _ _ => Le.none _, fun _ _ => Le.none _, fun _ _ _ _ _ _ _ => Le.none _⟩
  | succ k ih =>
    refine ⟨?_, ?_, ?_⟩
    · intro x0 x1 x2
      refine Le.eqs (nat_Parse.l0.eq_2 ..) (nat_Parse.l0.eq_2 ..) ?_
      repeat' (first
        | with_reducible exact Le.refl _
        | with_reducible refine Le.ite ?_ ?_
        | with_reducible exact ih.1 _ _ _
        | with_reducible refine Le.bind (ih.1 _ _ _) (fun _ => ?_)
        | with_reducible exact ih.2.1 _ _
        | with_reducible refine Le.bind (ih.2.1 _ _) (fun _ => ?_)
        | with_reducible refine Le.bind (Le.refl _) (fun _ => ?_)
        | split)
    · intro x0 x1
      refine Le.eqs (nat_Parse.l1.eq_2 ..) (nat_Parse.l1.eq_2 ..) ?_
      repeat' (first
        | with_reducible exact Le.refl _
        | with_reducible refine Le.ite ?_ ?_
        | with_reducible exact ih.2.2 _ _ _ _ _ _ _
        | with_reducible refine Le.bind (ih.2.2 _ _ _ _ _ _ _) (fun _ => ?_)
        | with_reducible refine Le.bind (Le.refl _) (fun _ => ?_)
        | split)
    · intro x0 x1 x2 x3 x4 x5 x6
      refine Le.eqs (nat_Parse.l2.eq_2 ..) (nat_Parse.l2.eq_2 ..) ?_
      repeat' (first
        | with_reducible exact Le.refl _
        | with_reducible refine Le.ite ?_ ?_
        | with_reducible exact ih.2.1 _ _
        | with_reducible refine Le.bind (ih.2.1 _ _) (fun _ => ?_)
        | with_reducible exact ih.2.2 _ _ _ _ _ _ _
        | with_reducible refine Le.bind (ih.2.2 _ _ _ _ _ _ _) (fun _ => ?_)
        | with_reducible refine Le.bind (nat_plus.mono k _ _) (fun _ => ?_)
        | with_reducible exact nat_plus.mono k _ _
        | with_reducible refine Le.bind (Le.refl _) (fun _ => ?_)
        | split)
theorem nat_Parse.mono (k : Nat) : ∀ x0, Le (nat_Parse.f k x0) (nat_Parse.f (k + 1) x0) := by
  intro x0
  unfold nat_Parse.f
  repeat' (first
    | with_reducible exact Le.refl _
    | with_reducible refine Le.ite ?_ ?_
    | with_reducible exact (nat_Parse.monoL k).1 _ _ _
    | with_reducible refine Le.bind (Le.refl _) (fun _ => ?_)
    | split)
theorem ratio_plain.mono (k : Nat) : ∀ x0, Le (ratio_plain.f k x0) (ratio_plain.f (k + 1) x0) := by
  intro x0
  unfold ratio_plain.f
  repeat' (first
    | with_reducible exact Le.refl _
    | with_reducible refine Le.ite ?_ ?_
    | with_reducible refine Le.bind (strings_Cut.mono k _ _) (fun _ => ?_)
    | with_reducible refine Le.bind (nat_Parse.mono k _) (fun _ => ?_)
    | with_reducible refine Le.bind (ratio_form.mono k _ _ _) (fun _ => ?_)
    | with_reducible refine Le.bind (ratio_ten.mono k _) (fun _ => ?_)
    | with_reducible refine Le.bind (nat_Mul.mono k _ _) (fun _ => ?_)
    | with_reducible refine Le.bind (nat_Add.mono k _ _) (fun _ => ?_)
    | with_reducible refine Le.bind (nat_Of.mono k _) (fun _ => ?_)
    | with_reducible exact strings_Cut.mono k _ _
    | with_reducible exact nat_Parse.mono k _
    | with_reducible exact ratio_form.mono k _ _ _
    | with_reducible exact ratio_ten.mono k _
    | with_reducible exact nat_Mul.mono k _ _
    | with_reducible exact nat_Add.mono k _ _
    | with_reducible exact nat_Of.mono k _
    | with_reducible refine Le.bind (Le.refl _) (fun _ => ?_)
    | split)
theorem ratio_Parse.mono (k : Nat) : ∀ x0, Le (ratio_Parse.f k x0) (ratio_Parse.f (k + 1) x0) := by
  intro x0
  unfold ratio_Parse.f
  repeat' (first
    | with_reducible exact Le.refl _
    | with_reducible refine Le.ite ?_ ?_
    | with_reducible refine Le.bind (ratio_plain.mono k _) (fun _ => ?_)
    | with_reducible refine Le.bind (ratio_Neg.mono k _ _ _) (fun _ => ?_)
    | with_reducible exact ratio_plain.mono k _
    | with_reducible exact ratio_Neg.mono k _ _ _
    | with_reducible refine Le.bind (Le.refl _) (fun _ => ?_)
    | split)
theorem nat_Bit.mono (k : Nat) : ∀ x0 x1, Le (nat_Bit.f k x0 x1) (nat_Bit.f (k + 1) x0 x1) := by
  intro x0 x1
  unfold nat_Bit.f
  repeat' (first
    | with_reducible exact Le.refl _
    | with_reducible refine Le.ite ?_ ?_
    | with_reducible refine Le.bind (nat_Clean.mono k _) (fun _ => ?_)
    | with_reducible exact nat_Clean.mono k _
    | with_reducible refine Le.bind (Le.refl _) (fun _ => ?_)
    | split)
theorem nat_Even.mono (k : Nat) : ∀ x0, Le (nat_Even.f k x0) (nat_Even.f (k + 1) x0) := by
  intro x0
  unfold nat_Even.f
  repeat' (first
    | with_reducible exact Le.refl _
    | with_reducible refine Le.ite ?_ ?_
    | with_reducible refine Le.bind (nat_Bit.mono k _ _) (fun _ => ?_)
    | with_reducible exact nat_Bit.mono k _ _
    | with_reducible refine Le.bind (Le.refl _) (fun _ => ?_)
    | split)
theorem ratio_Round.mono (k : Nat) : ∀ x0 x1 x2, Le (ratio_Round.f k x0 x1 x2) (ratio_Round.f (k + 1) x0 x1 x2) := by
  intro x0 x1 x2
  unfold ratio_Round.f
  repeat' (first
    | with_reducible exact Le.refl _
    | with_reducible refine Le.ite ?_ ?_
    | with_reducible refine Le.bind (ratio_Floor.mono k _ _ _) (fun _ => ?_)
    | with_reducible refine Le.bind (ratio_Int.mono k _ _) (fun _ => ?_)
    | with_reducible refine Le.bind (ratio_Sub.mono k _ _ _ _ _ _) (fun _ => ?_)
    | with_reducible refine Le.bind (ratio_Frac.mono k _ _) (fun _ => ?_)
    | with_reducible refine Le.bind (ratio_Cmp.mono k _ _ _ _ _ _) (fun _ => ?_)
    | with_reducible refine Le.bind (nat_Even.mono k _) (fun _ => ?_)
    | with_reducible refine Le.bind (whole_Of.mono k _) (fun _ => ?_)
    | with_reducible refine Le.bind (whole_Add.mono k _ _ _ _) (fun _ => ?_)
    | with_reducible exact ratio_Floor.mono k _ _ _
    | with_reducible exact ratio_Int.mono k _ _
    | with_reducible exact ratio_Sub.mono k _ _ _ _ _ _
    | with_reducible exact ratio_Frac.mono k _ _
    | with_reducible exact ratio_Cmp.mono k _ _ _ _ _ _
    | with_reducible exact nat_Even.mono k _
    | with_reducible exact whole_Of.mono k _
    | with_reducible exact whole_Add.mono k _ _ _ _
    | with_reducible refine Le.bind (Le.refl _) (fun _ => ?_)
    | split)
theorem nat_nine.monoL (k : Nat) : (∀ x0 x1 x2, Le (nat_nine.l0 k x0 x1 x2) (nat_nine.l0 (k + 1) x0 x1 x2)) := by
  induction k with
  | zero => exact fun _ _ _ => Le.none _
  | succ k ih =>
    intro x0 x1 x2
    refine Le.eqs (nat_nine.l0.eq_2 ..) (nat_nine.l0.eq_2 ..) ?_
    repeat' (first
      | with_reducible exact Le.refl _
      | with_reducible refine Le.ite ?_ ?_
      | with_reducible exact ih _ _ _
      | with_reducible refine Le.bind (ih _ _ _) (fun _ => ?_)
      | with_reducible refine Le.bind (Le.refl _) (fun _ => ?_)
      | split)
theorem nat_nine.mono (k : Nat) : ∀ x0, Le (nat_nine.f k x0) (nat_nine.f (k + 1) x0) := by
  intro x0
  unfold nat_nine.f
  repeat' (first
    | with_reducible exact Le.refl _
    | with_reducible refine Le.ite ?_ ?_
    | with_reducible exact (nat_nine.monoL k) _ _ _
    | with_reducible refine Le.bind (Le.refl _) (fun _ => ?_)
    | split)
theorem nat_Print.monoL (k : Nat) : (∀ x0 x1, Le (nat_Print.l0 k x0 x1) (nat_Print.l0 (k + 1) x0 x1)) ∧ (∀ x0 x1 x2, Le (nat_Print.l1 k x0 x1 x2) (nat_Print.l1 (k + 1) x0 x1 x2)) ∧ (∀ x0 x1, Le (nat_Print.l2 k x0 x1) (nat_Print.l2 (k + 1) x0 x1)) := by
  induction k with
  | zero => exact ⟨fun _ _ => Le.none _, fun _ _ _ => Le.none _, fun _ _ => Le.none _⟩
  | succ k ih =>
    refine ⟨?_, ?_, ?_⟩
    · intro x0 x1
      refine Le.eqs (nat_Print.l0.eq_2 ..) (nat_Print.l0.eq_2 ..) ?_
      repeat' (first
        | with_reducible exact Le.refl _
        | with_reducible refine Le.ite ?_ ?_
        | with_reducible exact ih.1 _ _
        | with_reducible refine Le.bind (ih.1 _ _) (fun _ => ?_)
        | with_reducible exact ih.2.1 _ _ _
        | with_reducible refine Le.bind (ih.2.1 _ _ _) (fun _ => ?_)
        | with_reducible refine Le.bind (nat_small.mono k _ _) (fun _ => ?_)
        | with_reducible exact nat_small.mono k _ _
        | with_reducible refine Le.bind (Le.refl _) (fun _ => ?_)
        | split)
    · intro x0 x1 x2
      refine Le.eqs (nat_Print.l1.eq_2 ..) (nat_Print.l1.eq_2 ..) ?_
      repeat' (first
        | with_reducible exact Le.refl _
        | with_reducible refine Le.ite ?_ ?_
        | with_reducible exact ih.2.1 _ _ _
        | with_reducible refine Le.bind (ih.2.1 _ _ _) (fun _ => ?_)
        | with_reducible exact ih.2.2 _ _
        | with_reducible refine Le.bind (ih.2.2 _ _) (fun _ => ?_)
        | with_reducible refine Le.bind (nat_nine.mono k _) (fun _ => ?_)
        | with_reducible exact nat_nine.mono k _
        | with_reducible refine Le.bind (Le.refl _) (fun _ => ?_)
        | split)
    · intro x0 x1
      refine Le.eqs (nat_Print.l2.eq_2 ..) (nat_Print.l2.eq_2 ..) ?_
      repeat' (first
        | with_reducible exact Le.refl _
        | with_reducible refine Le.ite ?_ ?_
        | with_reducible exact ih.2.2 _ _
        | with_reducible refine Le.bind (ih.2.2 _ _) (fun _ => ?_)
        | with_reducible refine Le.bind (Le.refl _) (fun _ => ?_)
        | split)
theorem nat_Print.mono (k : Nat) : ∀ x0, Le (nat_Print.f k x0) (nat_Print.f (k + 1) x0) := by
  intro x0
  unfold nat_Print.f
  repeat' (first
    | with_reducible exact Le.refl _
    | with_reducible refine Le.ite ?_ ?_
    | with_reducible exact (nat_Print.monoL k).1 _ _
    | with_reducible refine Le.bind (nat_Clean.mono k _) (fun _ => ?_)
    | with_reducible exact nat_Clean.mono k _
    | with_reducible refine Le.bind (Le.refl _) (fun _ => ?_)
    | split)
theorem ratio_Decimal.mono (k : Nat) : ∀ x0 x1 x2 x3, Le (ratio_Decimal.f k x0 x1 x2 x3) (ratio_Decimal.f (k + 1) x0 x1 x2 x3) := by
  intro x0 x1 x2 x3
  unfold ratio_Decimal.f
  repeat' (first
    | with_reducible exact Le.refl _
    | with_reducible refine Le.ite ?_ ?_
    | with_reducible refine Le.bind (ratio_ten.mono k _) (fun _ => ?_)
    | with_reducible refine Le.bind (ratio_Int.mono k _ _) (fun _ => ?_)
    | with_reducible refine Le.bind (ratio_Mul.mono k _ _ _ _ _ _) (fun _ => ?_)
    | with_reducible refine Le.bind (ratio_Round.mono k _ _ _) (fun _ => ?_)
    | with_reducible refine Le.bind (nat_Print.mono k _) (fun _ => ?_)
    | with_reducible exact ratio_ten.mono k _
    | with_reducible exact ratio_Int.mono k _ _
    | with_reducible exact ratio_Mul.mono k _ _ _ _ _ _
    | with_reducible exact ratio_Round.mono k _ _ _
    | with_reducible exact nat_Print.mono k _
    | with_reducible refine Le.bind (Le.refl _) (fun _ => ?_)
    | split)
theorem whole_Print.mono (k : Nat) : ∀ x0 x1, Le (whole_Print.f k x0 x1) (whole_Print.f (k + 1) x0 x1) := by
  intro x0 x1
  unfold whole_Print.f
  repeat' (first
    | with_reducible exact Le.refl _
    | with_reducible refine Le.ite ?_ ?_
    | with_reducible refine Le.bind (whole_Clean.mono k _ _) (fun _ => ?_)
    | with_reducible refine Le.bind (nat_Print.mono k _) (fun _ => ?_)
    | with_reducible exact whole_Clean.mono k _ _
    | with_reducible exact nat_Print.mono k _
    | with_reducible refine Le.bind (Le.refl _) (fun _ => ?_)
    | split)
theorem ratio_Print.mono (k : Nat) : ∀ x0 x1 x2, Le (ratio_Print.f k x0 x1 x2) (ratio_Print.f (k + 1) x0 x1 x2) := by
  intro x0 x1 x2
  unfold ratio_Print.f
  repeat' (first
    | with_reducible exact Le.refl _
    | with_reducible refine Le.ite ?_ ?_
    | with_reducible refine Le.bind (ratio_Clean.mono k _ _ _) (fun _ => ?_)
    | with_reducible refine Le.bind (whole_Print.mono k _ _) (fun _ => ?_)
    | with_reducible refine Le.bind (nat_Of.mono k _) (fun _ => ?_)
    | with_reducible refine Le.bind (nat_Cmp.mono k _ _) (fun _ => ?_)
    | with_reducible refine Le.bind (nat_Print.mono k _) (fun _ => ?_)
    | with_reducible exact ratio_Clean.mono k _ _ _
    | with_reducible exact whole_Print.mono k _ _
    | with_reducible exact nat_Of.mono k _
    | with_reducible exact nat_Cmp.mono k _ _
    | with_reducible exact nat_Print.mono k _
    | with_reducible refine Le.bind (Le.refl _) (fun _ => ?_)
    | split)
theorem dendronlaw03_awake.mono (k : Nat) : Le (dendronlaw03_awake.f k ) (dendronlaw03_awake.f (k + 1) ) := by
  unfold dendronlaw03_awake.f
  repeat' (first
    | with_reducible exact Le.refl _
    | with_reducible refine Le.ite ?_ ?_
    | with_reducible refine Le.bind (ratio_Parse.mono k _) (fun _ => ?_)
    | with_reducible refine Le.bind (ratio_Frac.mono k _ _) (fun _ => ?_)
    | with_reducible refine Le.bind (ratio_Simplest.mono k _ _ _ _ _ _) (fun _ => ?_)
    | with_reducible refine Le.bind (ratio_Near.mono k _ _ _ _) (fun _ => ?_)
    | with_reducible refine Le.bind (ratio_Decimal.mono k _ _ _ _) (fun _ => ?_)
    | with_reducible refine Le.bind (ratio_Print.mono k _ _ _) (fun _ => ?_)
    | with_reducible exact ratio_Parse.mono k _
    | with_reducible exact ratio_Frac.mono k _ _
    | with_reducible exact ratio_Simplest.mono k _ _ _ _ _ _
    | with_reducible exact ratio_Near.mono k _ _ _ _
    | with_reducible exact ratio_Decimal.mono k _ _ _ _
    | with_reducible exact ratio_Print.mono k _ _ _
    | with_reducible refine Le.bind (Le.refl _) (fun _ => ?_)
    | split)
end Go.DI.Th
namespace Go.DI.Th
open Go Go.RowKit Go.DI
theorem awake03_ev : Ev (fun k => dendronlaw03_awake.f k) true := Ev.mono (K := 400) dendronlaw03_awake.mono (by decide +kernel)
end Go.DI.Th
namespace Go.DI.Th
open Go Go.RowKit Go.DI

def tinyR (r : Rt) : Rt := (r.1, r.2.1.take 2, r.2.2.take 2)
theorem tiny3_eq (b : Bool) (n d : List Int) : dendronlaw03_tiny.f b n d = some (tinyR (b, n, d)) := by
  unfold dendronlaw03_tiny.f tinyR
  have t : ∀ l : List Int, ¬ (l.length : Int) > 2 → l.take 2 = l := fun l h => List.take_of_length_le (by omega)
  by_cases h1 : (n.length : Int) > 2
  · rw [if_pos h1, if_pos (by omega)]
    by_cases h2 : (d.length : Int) > 2
    · rw [if_pos h2, if_pos (by omega)]
    · rw [if_neg h2]; dsimp only; rw [t d h2]
  · rw [if_neg h1]
    by_cases h2 : (d.length : Int) > 2
    · rw [if_pos h2, if_pos (by omega)]; dsimp only; rw [t n h1]
    · rw [if_neg h2]; dsimp only; rw [t n h1, t d h2]
theorem tiny3_ev (b : Bool) (n d : List Int) : Ev (fun _ => dendronlaw03_tiny.f b n d) (tinyR (b, n, d)) := Ev.congr (fun _ => tiny3_eq b n d) (Ev.now _)
theorem U.takeN {l : List Int} (h : U l) (n : Nat) : U (l.take n) := fun x hx => h x (List.mem_of_mem_take hx)
def RtU (r : Rt) : Prop := U r.2.1 ∧ U r.2.2
theorem tinyB {r : Rt} (h : RtU r) : RtB 2 (tinyR r) := ⟨h.1.takeN 2, h.2.takeN 2, by show (List.take 2 _).length ≤ 2; rw [List.length_take]; omega, by show (List.take 2 _).length ≤ 2; rw [List.length_take]; omega⟩
theorem aw3 : Ev (fun k => (dendronlaw03_awake.f k).bind fun v => some v) true := Ev.bind awake03_ev (Ev.now _)
end Go.DI.Th
namespace Go.DI.Th
open Go Go.RowKit Go.DI

theorem mk_one (z : Int) : mkRat z 1 = (z : Rat) := Rat.mkRat_self (z : Rat)
theorem Sz_int64 (z : Int) (h : -9223372036854775808 ≤ z ∧ z ≤ 9223372036854775807) : Sz (z : Rat) ≤ 2 := by
  rw [Sz_int]
  have := len_small (n := z.natAbs) (by omega)
  omega
end Go.DI.Th
namespace Go.DI.Th
open Go Go.RowKit Go.DI

end Go.DI.Th
namespace Go.DI.Th
open Go Go.RowKit Go.DI

end Go.DI.Th
namespace Go.DI.Th
open Go Go.RowKit Go.DI

end Go.DI.Th
namespace Go.DI.Th
open Go Go.RowKit Go.DI

def pk (x : Rat) : Bool × List Int × List Int × Int := ((cn x).1, (cn x).2.1, (cn x).2.2, 0)
theorem num_den (x : Rat) : x * ((x.den : Int) : Rat) = (x.num : Rat) := by
  have h : x = mkRat x.num x.den := (Rat.mkRat_self x).symm
  have hd : ((x.den : Int) : Rat) ≠ 0 := fun e => by
    have : (x.den : Int) = 0 := by
      rw [show (0 : Rat) = ((0 : Int) : Rat) from rfl] at e
      exact Rat.intCast_inj.1 e
    exact x.den_nz (by omega)
  rw [Rat.mkRat_eq_div] at h
  have h2 : ((x.den : Nat) : Rat) = ((x.den : Int) : Rat) := (Rat.intCast_natCast _).symm
  rw [h2] at h
  generalize ((x.den : Int) : Rat) = d at h hd ⊢
  generalize (x.num : Rat) = n at h ⊢
  rw [h, Rat.div_def, Rat.mul_assoc, Rat.inv_mul_cancel _ hd, Rat.mul_one]
theorem fl_den1 (n : Int) (d : Nat) (hd : d ≠ 0) : ((n : Int) : Rat) * mkRat 1 d = mkRat n d := by
  rw [← mk_one n, Rat.mkRat_mul_mkRat, Int.mul_one, Nat.one_mul]
end Go.DI.Th
namespace Go.DI.Th
open Go Go.RowKit Go.DI

def dst (x c : Rat) : Rat := absQ (c - x)
theorem dst_ge {x c : Rat} (h : x ≤ c) : dst x c = c - x := by
  unfold dst absQ
  rw [if_neg (by grind)]
theorem dst_le {x c : Rat} (h : c ≤ x) : dst x c = x - c := by
  unfold dst absQ
  by_cases e : c - x < 0
  · rw [if_pos e]; grind
  · rw [if_neg e]; grind
structure Best (n : Nat) (x R : Rat) : Prop where
  den : R.den ≤ n
  le : ∀ c : Rat, c.den ≤ n → dst x R ≤ dst x c
  tie : ∀ c : Rat, c.den ≤ n → c ≠ R → dst x c = dst x R → R.den < c.den ∨ (R.den = c.den ∧ R ≤ c)
theorem best_self {n : Nat} {x : Rat} (h : x.den ≤ n) : Best n x x := by
  have e : dst x x = 0 := by rw [dst_ge Rat.le_refl]; grind
  have nn : ∀ c, 0 ≤ dst x c := fun c => by
    rcases Rat.le_total (a := c) (b := x) with h | h
    · rw [dst_le h]; grind
    · rw [dst_ge h]; grind
  refine ⟨h, fun c _ => by rw [e]; exact nn c, fun c _ hne he => ?_⟩
  rw [e] at he
  exfalso
  rcases Rat.le_total (a := c) (b := x) with h | h
  · rw [dst_le h] at he; exact hne (by grind)
  · rw [dst_ge h] at he; exact hne (by grind)
theorem coprime_mk (z u v : Int) (q : Nat) (hq : q ≠ 0) (h : z * u - (q : Int) * v = 1) : (mkRat z q).num = z ∧ (mkRat z q).den = q := by
  obtain ⟨g, g0, e1, e2⟩ := rnum_gcd z q hq
  rw [num_mk z q hq, den_mk z q hq]
  generalize rnum z q = n at e1 ⊢
  generalize rden z q = d at e2 ⊢
  have e3 : (q : Int) = (g : Int) * (d : Int) := by rw [e2, Int.natCast_mul]
  have : (g : Int) * (n * u - (d : Int) * v) = 1 := by
    rw [e1, e3] at h
    rw [← h]
    grind
  have hg : (g : Int) = 1 := by
    exact Int.eq_one_of_dvd_one (by omega) ⟨_, this.symm⟩
  have hg' : g = 1 := by omega
  rw [hg] at e1
  rw [hg'] at e2
  exact ⟨by omega, by omega⟩
def Nb (lo hi : Rat) : Prop := hi.num * (lo.den : Int) - lo.num * (hi.den : Int) = 1
theorem between_lt {lo c : Rat} (h : lo < c) : lo.num * (c.den : Int) + 1 ≤ c.num * (lo.den : Int) := by
  have := (Rat.lt_iff lo c).1 h
  omega
theorem nb_out {lo hi c : Rat} (nb : Nb lo hi) {n : Nat} (hn : n < lo.den + hi.den) (hc : c.den ≤ n) : c ≤ lo ∨ hi ≤ c := by
  by_cases h1 : lo < c
  · by_cases h2 : c < hi
    · exfalso
      have a1 := between_lt h1
      have a2 := between_lt h2
      unfold Nb at nb
      have d1 := lo.den_nz
      have d2 := hi.den_nz
      generalize lo.num = A at *
      generalize hi.num = C at *
      generalize c.num = p at *
      have hn' : (c.den : Int) < (lo.den : Int) + (hi.den : Int) := by omega
      have hb : (0 : Int) < (lo.den : Int) := by omega
      have hd : (0 : Int) < (hi.den : Int) := by omega
      generalize (c.den : Int) = q at *
      generalize (lo.den : Int) = b at *
      generalize (hi.den : Int) = d at *
      have m1 : d * 1 ≤ d * (p * b - A * q) := Int.mul_le_mul_of_nonneg_left (by omega) (by omega)
      have m2 : b * 1 ≤ b * (C * q - p * d) := Int.mul_le_mul_of_nonneg_left (by omega) (by omega)
      have e : d * (p * b - A * q) + b * (C * q - p * d) = q * (C * b - A * d) := by grind
      rw [nb] at e
      omega
    · exact .inr (Rat.not_lt.1 h2)
  · exact .inl (Rat.not_lt.1 h1)
theorem best_lo {lo hi x : Rat} {n : Nat} (nb : Nb lo hi) (hn : n < lo.den + hi.den) (h1 : lo < x) (h2 : x < hi) (hd : lo.den ≤ n) (h : x - lo < hi - x ∨ (x - lo = hi - x ∧ lo.den ≤ hi.den)) : Best n x lo := by
  have e1 := dst_le (Rat.le_of_lt h1)
  refine ⟨hd, fun c hc => ?_, fun c hc hne he => ?_⟩
  · rcases nb_out nb hn hc with k | k
    · rw [e1, dst_le (by grind)]; grind
    · rw [e1, dst_ge (by grind)]; grind
  · rcases nb_out nb hn hc with k | k
    · rw [e1, dst_le (by grind)] at he
      exact absurd (by grind) hne
    · rw [e1, dst_ge (by grind)] at he
      have ec : c = hi := by grind
      have hle : lo.den ≤ hi.den := by
        rcases h with h | h
        · exact absurd he (by grind)
        · exact h.2
      rw [ec]
      rcases Nat.lt_or_ge lo.den hi.den with t | t
      · exact .inl t
      · exact .inr ⟨by omega, by grind⟩
theorem best_hi {lo hi x : Rat} {n : Nat} (nb : Nb lo hi) (hn : n < lo.den + hi.den) (h1 : lo < x) (h2 : x < hi) (hd : hi.den ≤ n) (h : hi - x < x - lo ∨ (x - lo = hi - x ∧ hi.den < lo.den)) : Best n x hi := by
  have e1 := dst_ge (Rat.le_of_lt h2)
  refine ⟨hd, fun c hc => ?_, fun c hc hne he => ?_⟩
  · rcases nb_out nb hn hc with k | k
    · rw [e1, dst_le (by grind)]; grind
    · rw [e1, dst_ge (by grind)]; grind
  · rcases nb_out nb hn hc with k | k
    · rw [e1, dst_le (by grind)] at he
      have ec : c = lo := by grind
      have hle : hi.den < lo.den := by
        rcases h with h | h
        · exact absurd he (by grind)
        · exact h.2
      rw [ec]
      exact .inl hle
    · rw [e1, dst_ge (by grind)] at he
      exact absurd (by grind) hne
def mid (lo hi : Rat) : Rat := mkRat (lo.num + hi.num) (lo.den + hi.den)
theorem mid_nd {lo hi : Rat} (nb : Nb lo hi) : (mid lo hi).num = lo.num + hi.num ∧ (mid lo hi).den = lo.den + hi.den := by
  have d1 := lo.den_nz
  refine coprime_mk (lo.num + hi.num) (lo.den : Int) lo.num (lo.den + hi.den) (by omega) ?_
  unfold Nb at nb
  rw [Int.natCast_add]
  grind
theorem mid_nb {lo hi : Rat} (nb : Nb lo hi) : Nb lo (mid lo hi) ∧ Nb (mid lo hi) hi := by
  obtain ⟨a, b⟩ := mid_nd nb
  unfold Nb at nb ⊢
  rw [a, b, Int.natCast_add]
  constructor <;> grind
theorem Sz_mid (lo hi : Rat) {s : Nat} (h1 : Sz lo ≤ s) (h2 : Sz hi ≤ s) : Sz (mid lo hi) ≤ s + 1 := by
  have d1 := lo.den_nz
  have h := Sz_mk (lo.num + hi.num) (lo.den + hi.den) (by omega)
  have a1 := len_add' lo.num.natAbs hi.num.natAbs
  have a2 := len_add' lo.den hi.den
  have a3 : len (lo.num + hi.num).natAbs ≤ len (lo.num.natAbs + hi.num.natAbs) := len_mono (Int.natAbs_add_le _ _)
  unfold Sz at h1 h2
  unfold mid
  omega
theorem middle_cn (lo hi : Rat) {s : Nat} (h1 : Sz lo ≤ s) (h2 : Sz hi ≤ s) (hs : s ≤ 100000) : Ev (fun k => ratio_middle.f k (cn lo).1 (cn lo).2.1 (cn lo).2.2 (cn hi).1 (cn hi).2.1 (cn hi).2.2) (cn (mid lo hi)) := by
  have B1 := cnB lo h1
  have B2 := cnB hi h2
  have ha := wadd_ev (cn lo).1 (cn lo).2.1 (cn hi).1 (cn hi).2.1 B1.1 B2.1 (by have := B1.2.2.1; omega) (by have := B2.2.2.1; omega)
  rw [wv_cn, wv_cn] at ha
  have hb := nadd_ev (cn lo).2.2 (cn hi).2.2 B1.2.1 B2.2.1 (by have := B1.2.2.2; omega) (by have := B2.2.2.2; omega)
  rw [(val_cn lo).2, (val_cn hi).2] at hb
  have d1 := lo.den_nz
  have a1 := len_add' lo.num.natAbs hi.num.natAbs
  have a2 := len_add' lo.den hi.den
  have a3 : len (lo.num + hi.num).natAbs ≤ len (lo.num.natAbs + hi.num.natAbs) := len_mono (Int.natAbs_add_le _ _)
  unfold Sz at h1 h2
  have hf := form_cn (lo.num + hi.num) (lo.den + hi.den) (by omega) (by omega) (by omega)
  unfold ratio_middle.f
  exact Ev.bind ha (Ev.bind hb (Ev.bind hf ((Ev.now _).of_eq rfl)))
theorem near_l0 (n : Nat) (hn : n ≤ 4096) (x : Rat) (sx : Sz x ≤ 9) : ∀ (m : Nat) (lo hi : Rat), n < lo.den + hi.den + m → Nb lo hi → lo < x → x < hi → lo.den ≤ n → hi.den ≤ n → Sz lo + m ≤ 5000 → Sz hi + m ≤ 5000 →
    ∃ R, Best n x R ∧ Sz R ≤ 5000 ∧ Ev (fun k => ratio_Near.l0 k (lm n) (cn x).1 (cn x).2.1 (cn x).2.2 false (cn lo).1 (cn lo).2.1 (cn lo).2.2 (cn hi).1 (cn hi).2.1 (cn hi).2.2) (pk R) := by
  intro m
  induction m with
  | zero =>
    intro lo hi hm nb h1 h2 d1 d2 s1 s2
    have B1 := cnB (b := 5000) lo (by omega)
    have B2 := cnB (b := 5000) hi (by omega)
    have BX := cnB x sx
    have hb := nadd_ev (cn lo).2.2 (cn hi).2.2 B1.2.1 B2.2.1 (by have := B1.2.2.2; omega) (by have := B2.2.2.2; omega)
    rw [(val_cn lo).2, (val_cn hi).2] at hb
    have lc := len_add' lo.den hi.den
    have L1 : len lo.den ≤ 5000 := by unfold Sz at s1; omega
    have L2 : len hi.den ≤ 5000 := by unfold Sz at s2; omega
    have ln : len n ≤ 2 := len_le_two.2 (by omega)
    have hc := cmp_ev (lm (lo.den + hi.den)) (lm n) (lm_ok _).U (lm_ok _).U (by rw [lm_length]; omega) (by rw [lm_length]; omega)
    rw [val_lm, val_lm] at hc
    have hgt : ¬ cmp (lo.den + hi.den) n ≤ 0 := by
      unfold cmp
      rw [if_neg (by omega), if_pos (by omega)]
      decide
    have u1 := sub_cn (cn x) (cn lo) BX B1 (by decide)
    have u2 := sub_cn (cn hi) (cn x) B2 BX (by decide)
    rw [rv_cn, rv_cn] at u1 u2
    have z1 := Sz_sub x lo
    have z2 := Sz_sub hi x
    have hcm := cmp_cn (cn (x - lo)) (cn (hi - x)) (cnB (b := 6000) _ (by omega)) (cnB (b := 6000) _ (by omega)) (by decide) (by decide)
    rw [rv_cn, rv_cn] at hcm
    have hcd := cmp_ev (cn lo).2.2 (cn hi).2.2 B1.2.1 B2.2.1 (by have := B1.2.2.2; omega) (by have := B2.2.2.2; omega)
    rw [(val_cn lo).2, (val_cn hi).2] at hcd
    by_cases k1 : x - lo < hi - x
    · refine ⟨lo, best_lo nb (by omega) h1 h2 d1 (.inl k1), by omega, Ev.succ ?_⟩
      simp only [ratio_Near.l0]
      exact Ev.bind hb (Ev.bind hc (Ev.if_neg hgt (Ev.bind u1 (Ev.bind u2 (Ev.bind hcm (Ev.if_pos (cmpQ_neg.2 k1) (Ev.now _)))))))
    · have k1' : ¬ cmpQ (x - lo) (hi - x) < 0 := fun e => k1 (cmpQ_neg.1 e)
      by_cases k2 : x - lo = hi - x
      · by_cases k3 : lo.den ≤ hi.den
        · refine ⟨lo, best_lo nb (by omega) h1 h2 d1 (.inr ⟨k2, k3⟩), by omega, Ev.succ ?_⟩
          simp only [ratio_Near.l0]
          refine Ev.bind hb (Ev.bind hc (Ev.if_neg hgt (Ev.bind u1 (Ev.bind u2 (Ev.bind hcm (Ev.if_neg k1' (Ev.if_pos (cmpQ_zero.2 k2) (Ev.bind hcd (Ev.if_pos ?_ (Ev.now _))))))))))
          unfold cmp
          split
          · decide
          · rw [if_neg (by omega)]
            decide
        · refine ⟨hi, best_hi nb (by omega) h1 h2 d2 (.inr ⟨k2, by omega⟩), by omega, Ev.succ ?_⟩
          simp only [ratio_Near.l0]
          refine Ev.bind hb (Ev.bind hc (Ev.if_neg hgt (Ev.bind u1 (Ev.bind u2 (Ev.bind hcm (Ev.if_neg k1' (Ev.if_pos (cmpQ_zero.2 k2) (Ev.bind hcd (Ev.if_neg ?_ (Ev.now _))))))))))
          unfold cmp
          rw [if_neg (by omega), if_pos (by omega)]
          decide
      · refine ⟨hi, best_hi nb (by omega) h1 h2 d2 (.inl (by grind)), by omega, Ev.succ ?_⟩
        simp only [ratio_Near.l0]
        exact Ev.bind hb (Ev.bind hc (Ev.if_neg hgt (Ev.bind u1 (Ev.bind u2 (Ev.bind hcm (Ev.if_neg k1' (Ev.if_neg (fun e => k2 (cmpQ_zero.1 e)) (Ev.now _))))))))
  | succ m ih =>
    intro lo hi hm nb h1 h2 d1 d2 s1 s2
    by_cases hend : n < lo.den + hi.den
    · -- the end, as above
      have B1 := cnB (b := 5000) lo (by omega)
      have B2 := cnB (b := 5000) hi (by omega)
      have BX := cnB x sx
      have hb := nadd_ev (cn lo).2.2 (cn hi).2.2 B1.2.1 B2.2.1 (by have := B1.2.2.2; omega) (by have := B2.2.2.2; omega)
      rw [(val_cn lo).2, (val_cn hi).2] at hb
      have lc := len_add' lo.den hi.den
      have L1 : len lo.den ≤ 5000 := by unfold Sz at s1; omega
      have L2 : len hi.den ≤ 5000 := by unfold Sz at s2; omega
      have ln : len n ≤ 2 := len_le_two.2 (by omega)
      have hc := cmp_ev (lm (lo.den + hi.den)) (lm n) (lm_ok _).U (lm_ok _).U (by rw [lm_length]; omega) (by rw [lm_length]; omega)
      rw [val_lm, val_lm] at hc
      have hgt : ¬ cmp (lo.den + hi.den) n ≤ 0 := by
        unfold cmp
        rw [if_neg (by omega), if_pos (by omega)]
        decide
      have u1 := sub_cn (cn x) (cn lo) BX B1 (by decide)
      have u2 := sub_cn (cn hi) (cn x) B2 BX (by decide)
      rw [rv_cn, rv_cn] at u1 u2
      have z1 := Sz_sub x lo
      have z2 := Sz_sub hi x
      have hcm := cmp_cn (cn (x - lo)) (cn (hi - x)) (cnB (b := 6000) _ (by omega)) (cnB (b := 6000) _ (by omega)) (by decide) (by decide)
      rw [rv_cn, rv_cn] at hcm
      have hcd := cmp_ev (cn lo).2.2 (cn hi).2.2 B1.2.1 B2.2.1 (by have := B1.2.2.2; omega) (by have := B2.2.2.2; omega)
      rw [(val_cn lo).2, (val_cn hi).2] at hcd
      by_cases k1 : x - lo < hi - x
      · refine ⟨lo, best_lo nb (by omega) h1 h2 d1 (.inl k1), by omega, Ev.succ ?_⟩
        simp only [ratio_Near.l0]
        exact Ev.bind hb (Ev.bind hc (Ev.if_neg hgt (Ev.bind u1 (Ev.bind u2 (Ev.bind hcm (Ev.if_pos (cmpQ_neg.2 k1) (Ev.now _)))))))
      · have k1' : ¬ cmpQ (x - lo) (hi - x) < 0 := fun e => k1 (cmpQ_neg.1 e)
        by_cases k2 : x - lo = hi - x
        · by_cases k3 : lo.den ≤ hi.den
          · refine ⟨lo, best_lo nb (by omega) h1 h2 d1 (.inr ⟨k2, k3⟩), by omega, Ev.succ ?_⟩
            simp only [ratio_Near.l0]
            refine Ev.bind hb (Ev.bind hc (Ev.if_neg hgt (Ev.bind u1 (Ev.bind u2 (Ev.bind hcm (Ev.if_neg k1' (Ev.if_pos (cmpQ_zero.2 k2) (Ev.bind hcd (Ev.if_pos ?_ (Ev.now _))))))))))
            unfold cmp
            split
            · decide
            · rw [if_neg (by omega)]
              decide
          · refine ⟨hi, best_hi nb (by omega) h1 h2 d2 (.inr ⟨k2, by omega⟩), by omega, Ev.succ ?_⟩
            simp only [ratio_Near.l0]
            refine Ev.bind hb (Ev.bind hc (Ev.if_neg hgt (Ev.bind u1 (Ev.bind u2 (Ev.bind hcm (Ev.if_neg k1' (Ev.if_pos (cmpQ_zero.2 k2) (Ev.bind hcd (Ev.if_neg ?_ (Ev.now _))))))))))
            unfold cmp
            rw [if_neg (by omega), if_pos (by omega)]
            decide
        · refine ⟨hi, best_hi nb (by omega) h1 h2 d2 (.inl (by grind)), by omega, Ev.succ ?_⟩
          simp only [ratio_Near.l0]
          exact Ev.bind hb (Ev.bind hc (Ev.if_neg hgt (Ev.bind u1 (Ev.bind u2 (Ev.bind hcm (Ev.if_neg k1' (Ev.if_neg (fun e => k2 (cmpQ_zero.1 e)) (Ev.now _))))))))
    · have p1 := lo.den_nz
      have p2 := hi.den_nz
      have B1 := cnB (b := 5000) lo (by omega)
      have B2 := cnB (b := 5000) hi (by omega)
      have BX := cnB x sx
      have hb := nadd_ev (cn lo).2.2 (cn hi).2.2 B1.2.1 B2.2.1 (by have := B1.2.2.2; omega) (by have := B2.2.2.2; omega)
      rw [(val_cn lo).2, (val_cn hi).2] at hb
      have lc := len_add' lo.den hi.den
      have L1 : len lo.den ≤ 5000 := by unfold Sz at s1; omega
      have L2 : len hi.den ≤ 5000 := by unfold Sz at s2; omega
      have ln : len n ≤ 2 := len_le_two.2 (by omega)
      have hc := cmp_ev (lm (lo.den + hi.den)) (lm n) (lm_ok _).U (lm_ok _).U (by rw [lm_length]; omega) (by rw [lm_length]; omega)
      rw [val_lm, val_lm] at hc
      have hle : cmp (lo.den + hi.den) n ≤ 0 := by
        unfold cmp
        split
        · decide
        · first | decide | (rw [if_neg (by omega)]; decide)
      have hmid := middle_cn lo hi (s := 5000) (by omega) (by omega) (by decide)
      obtain ⟨m1, m2⟩ := mid_nd nb
      obtain ⟨nb1, nb2⟩ := mid_nb nb
      have zm : Sz (mid lo hi) + m ≤ 5000 := by
        rcases Nat.le_total (Sz lo) (Sz hi) with t | t
        · have := Sz_mid lo hi (s := Sz hi) t (Nat.le_refl _); omega
        · have := Sz_mid lo hi (s := Sz lo) (Nat.le_refl _) t; omega
      have hcm := cmp_cn (cn (mid lo hi)) (cn x) (cnB (b := 5001) _ (by omega)) BX (by decide) (by decide)
      rw [rv_cn, rv_cn] at hcm
      by_cases k0 : mid lo hi = x
      · refine ⟨mid lo hi, ?_, by omega, Ev.succ ?_⟩
        · have := best_self (n := n) (x := x) (by rw [← k0, m2]; omega)
          rw [k0]
          exact this
        · simp only [ratio_Near.l0]
          exact Ev.bind hb (Ev.bind hc (Ev.if_pos hle (Ev.bind hmid (Ev.bind hcm (Ev.if_pos (cmpQ_zero.2 k0) (Ev.now _))))))
      · have k0' : ¬ cmpQ (mid lo hi) x = 0 := fun e => k0 (cmpQ_zero.1 e)
        by_cases k1 : mid lo hi < x
        · obtain ⟨R, g, zR, hr⟩ := ih (mid lo hi) hi (by rw [m2]; omega) nb2 k1 h2 (by rw [m2]; omega) d2 zm (by omega)
          refine ⟨R, g, zR, Ev.succ ?_⟩
          simp only [ratio_Near.l0]
          exact Ev.bind hb (Ev.bind hc (Ev.if_pos hle (Ev.bind hmid (Ev.bind hcm (Ev.if_neg k0' (Ev.if_pos (cmpQ_neg.2 k1) hr))))))
        · obtain ⟨R, g, zR, hr⟩ := ih lo (mid lo hi) (by rw [m2]; omega) nb1 h1 (by grind) d1 (by rw [m2]; omega) (by omega) zm
          refine ⟨R, g, zR, Ev.succ ?_⟩
          simp only [ratio_Near.l0]
          exact Ev.bind hb (Ev.bind hc (Ev.if_pos hle (Ev.bind hmid (Ev.bind hcm (Ev.if_neg k0' (Ev.if_neg (fun e => k1 (cmpQ_neg.1 e)) hr))))))

theorem near_none (r : Rt) (n : Int) (h : n < 1 ∨ 4096 < n) : Ev (fun k => ratio_Near.f k r.1 r.2.1 r.2.2 n) (false, [], [], 8) := by
  unfold ratio_Near.f
  by_cases h1 : n < 1
  · exact Ev.if_pos h1 (Ev.now _)
  · exact Ev.if_neg h1 (Ev.if_pos (by omega) (Ev.now _))
theorem near_cn (r : Rt) (hr : RtB 2 r) (n : Nat) (h1 : 1 ≤ n) (h2 : n ≤ 4096) : ∃ R, Best n (rv r) R ∧ Sz R ≤ 5000 ∧ Ev (fun k => ratio_Near.f k r.1 r.2.1 r.2.2 (n : Int)) (pk R) := by
  have s1 := hr.sz
  have c1 := clean_cn r hr (by decide)
  generalize rv r = x at s1 c1 ⊢
  have B1 := cnB x s1
  have hf := floor_cn (cn x) B1 (by decide)
  rw [rv_cn] at hf
  have lf := floor_len x s1
  have hint := intz_cn x.floor (by omega)
  have szf : Sz (x.floor : Rat) ≤ 3 := by rw [Sz_int]; omega
  have ha := add_cn (cn (x.floor : Rat)) (cn 1) (cnB _ szf) (cnB (b := 2) 1 (Sz_int64 1 (by decide))) (by decide)
  rw [rv_cn, rv_cn] at ha
  have hsm := same_cn (cn (x.floor : Rat)) (cn x) (cnB _ szf) B1 (by decide) (by decide)
  rw [rv_cn, rv_cn] at hsm
  have szg := Sz_add (x.floor : Rat) 1
  have s11 : Sz (1 : Rat) ≤ 2 := Sz_int64 1 (by decide)
  by_cases he : (x.floor : Rat) = x
  · refine ⟨(x.floor : Rat), ?_, by omega, ?_⟩
    · rw [he]
      exact best_self (by rw [← he, Rat.den_intCast]; exact h1)
    · unfold ratio_Near.f
      rw [decide_eq_true he] at hsm
      exact Ev.if_neg (by omega) (Ev.if_neg (by omega) (Ev.bind c1 (Ev.bind hf (Ev.bind hint (Ev.bind one_cn (Ev.bind ha (Ev.bind hsm (Ev.if_pos rfl (Ev.now _)))))))))
  · rw [decide_eq_false he] at hsm
    have hw : IntKind.u64.wrap ((n : Nat) : Int) = (n : Int) := by rw [w64]; omega
    have hof := of_ev ((n : Nat) : Int) (by omega) (by omega)
    rw [Int.toNat_natCast] at hof
    have e1 : (x.floor : Rat) + 1 = ((x.floor + 1 : Int) : Rat) := by rw [Rat.intCast_add]; rfl
    rw [e1] at ha szg
    obtain ⟨R, g, zR, hr⟩ := near_l0 n h2 x (by omega) n (x.floor : Rat) ((x.floor + 1 : Int) : Rat) (by rw [Rat.den_intCast, Rat.den_intCast]; omega) (by
        unfold Nb
        rw [Rat.den_intCast, Rat.den_intCast, Rat.num_intCast, Rat.num_intCast]
        omega) (Rat.lt_iff_le_and_ne.2 ⟨Rat.floor_le x, he⟩) (Rat.lt_floor_add_one x) (by rw [Rat.den_intCast]; exact h1) (by rw [Rat.den_intCast]; exact h1) (by omega) (by omega)
    refine ⟨R, g, zR, ?_⟩
    unfold ratio_Near.f
    rw [hw]
    exact Ev.if_neg (by omega) (Ev.if_neg (by omega) (Ev.bind c1 (Ev.bind hf (Ev.bind hint (Ev.bind one_cn (Ev.bind ha (Ev.bind hsm (Ev.if_neg (by decide) (Ev.bind hof hr)))))))))
theorem fl_abs {x : Rat} {a : Nat} {r : Rt} (h : D.FL x a r) : ∃ t, D.FL (absQ x) a t ∧ Ev (fun _ => dendronlaw03_abs.f r.1 r.2.1 r.2.2) t := by
  unfold dendronlaw03_abs.f absQ
  by_cases h0 : x < 0
  · obtain ⟨t, ht, et⟩ := h.minus
    rw [if_pos h0]
    exact ⟨t, ht, Ev.if_pos (h.neg_N.2 h0) (Ev.bind et (Ev.now _))⟩
  · rw [if_neg h0]
    exact ⟨r, h, Ev.if_neg (fun e => h0 (h.neg_N.1 e)) ((Ev.now _).of_eq rfl)⟩
theorem best_turn {n : Nat} {x R : Rat} (g : Best n x R) : R.num = (x * ((R.den : Int) : Rat)).floor ∨ R.num = (x * ((R.den : Int) : Rat)).floor + 1 := by
  have hn := num_den R
  have hd := R.den_nz
  have hp : (0 : Rat) < ((R.den : Int) : Rat) := by
    have := Rat.intCast_lt_intCast.2 (show (0 : Int) < (R.den : Int) by omega)
    simpa using this
  have f1 := Rat.floor_le (x * ((R.den : Int) : Rat))
  have f2 := Rat.lt_floor_add_one (x * ((R.den : Int) : Rat))
  have hcd : ∀ z : Int, (mkRat z R.den).den ≤ n ∧ (mkRat z R.den) * ((R.den : Int) : Rat) = (z : Rat) := fun z => by
    constructor
    · rw [den_mk z R.den hd]
      exact Nat.le_trans (Nat.div_le_self _ _) g.den
    · have h0 : ((R.den : Int) : Rat) ≠ 0 := fun e => by rw [e] at hp; exact absurd hp (by decide)
      rw [Rat.mkRat_eq_div, Rat.div_def, show ((R.den : Nat) : Rat) = ((R.den : Int) : Rat) from (Rat.intCast_natCast _).symm, Rat.mul_assoc, Rat.inv_mul_cancel _ h0, Rat.mul_one]
  have cancel : ∀ a b : Rat, a * ((R.den : Int) : Rat) ≤ b * ((R.den : Int) : Rat) → a ≤ b := fun a b h => by
    rcases Rat.le_total (a := a) (b := b) with k | k
    · exact k
    · by_cases e : a = b
      · rw [e]; exact Rat.le_refl
      · have := Rat.mul_lt_mul_of_pos_right (Rat.lt_iff_le_and_ne.2 ⟨k, fun e2 => e e2.symm⟩) hp
        exact absurd h (Rat.not_le.2 this)
  generalize (x * ((R.den : Int) : Rat)).floor = z at f1 f2
  rcases Int.lt_or_le R.num z with c | c
  · exfalso
    obtain ⟨b1, b2⟩ := hcd z
    have l1 : mkRat z R.den ≤ x := cancel _ _ (by rw [b2]; exact f1)
    have l2 : R < mkRat z R.den := by
      refine Rat.not_le.1 fun h => ?_
      have := Rat.mul_le_mul_of_nonneg_right h (Rat.le_of_lt hp)
      rw [b2, hn] at this
      have := Rat.intCast_le_intCast.1 this
      omega
    have := g.le _ b1
    rw [dst_le l1, dst_le (by grind)] at this
    grind
  · rcases Int.lt_or_le (z + 1) R.num with c2 | c2
    · exfalso
      obtain ⟨b1, b2⟩ := hcd (z + 1)
      have l1 : x ≤ mkRat (z + 1) R.den := cancel _ _ (by rw [b2]; exact Rat.le_of_lt f2)
      have l2 : mkRat (z + 1) R.den < R := by
        refine Rat.not_le.1 fun h => ?_
        have := Rat.mul_le_mul_of_nonneg_right h (Rat.le_of_lt hp)
        rw [b2, hn] at this
        have := Rat.intCast_le_intCast.1 this
        omega
      have := g.le _ b1
      rw [dst_ge l1, dst_ge (by grind)] at this
      grind
    · omega
def cand (x : Rat) (q j : Nat) : Rat := mkRat ((x * ((q : Int) : Rat)).floor + (j : Int)) q
theorem cand_den (x : Rat) (q j : Nat) (hq : q ≠ 0) : (cand x q j).den ≤ q := by
  unfold cand
  rw [den_mk _ _ hq]
  exact Nat.div_le_self _ _
theorem cand_turn {n : Nat} {x R : Rat} (g : Best n x R) : ∃ j, j ≤ 1 ∧ R = cand x R.den j := by
  rcases best_turn g with h | h
  · refine ⟨0, by omega, ?_⟩
    unfold cand
    have : (x * ((R.den : Int) : Rat)).floor + ((0 : Nat) : Int) = R.num := by omega
    rw [this, Rat.mkRat_self]
  · refine ⟨1, by omega, ?_⟩
    unfold cand
    have : (x * ((R.den : Int) : Rat)).floor + ((1 : Nat) : Int) = R.num := by omega
    rw [this, Rat.mkRat_self]
theorem cand_lt (x : Rat) (q : Nat) (hq : q ≠ 0) : cand x q 0 < cand x q 1 := by
  unfold cand
  rw [Rat.mkRat_eq_div, Rat.mkRat_eq_div, Rat.div_def, Rat.div_def]
  have hp : (0 : Rat) < ((q : Nat) : Rat) := by
    rw [← Rat.intCast_natCast]
    have := Rat.intCast_lt_intCast.2 (show (0 : Int) < (q : Int) by omega)
    simpa using this
  exact Rat.mul_lt_mul_of_pos_right (Rat.intCast_lt_intCast.2 (by omega)) (Rat.inv_pos.2 hp)
theorem ahead {n : Nat} {x R : Rat} (g : Best n x R) {j0 : Nat} (e0 : R = cand x R.den j0) (q j : Nat) (hq : 1 ≤ q) (hqn : q ≤ n) (h : q < R.den ∨ (q = R.den ∧ j < j0)) (hj0 : j0 ≤ 1) : cand x q j = R ∨ dst x R < dst x (cand x q j) := by
  by_cases e : cand x q j = R
  · exact .inl e
  · right
    have hd := cand_den x q j (by omega)
    have hle := g.le (cand x q j) (by omega)
    refine Rat.lt_iff_le_and_ne.2 ⟨hle, fun e2 => ?_⟩
    rcases g.tie (cand x q j) (by omega) e e2.symm with t | ⟨t1, t2⟩
    · omega
    · rcases h with h | ⟨h, hj⟩
      · omega
      · obtain rfl : j = 0 := by omega
        obtain rfl : j0 = 1 := by omega
        have := cand_lt x R.den (by omega)
        rw [← e0] at this
        rw [h] at t2
        exact absurd t2 (Rat.not_le.2 this)
def upd (x c b : Rat) : Rat := if dst x c < dst x b then c else b
theorem nears_step {x : Rat} (n1 : Int) (q : Nat) (hq : 1 ≤ q) (hq2 : q ≤ 4096) {X Y B : Rt} (hX : D.FL x 20 X) (b : Rat) (hB : D.FL b 40 B) (j : Nat) (hj : j ≤ 1) {T : Bool}
    (k1 : ∀ B', D.FL (upd x (cand x q j) b) 40 B' → Ev (fun k => dendronlaw03_RatioNears.l1 k n1 0 (q : Int) ((j + 1 : Nat) : Int) X.1 X.2.1 X.2.2 Y.1 Y.2.1 Y.2.2 B'.1 B'.2.1 B'.2.2 (D.il (x * ((q : Int) : Rat)).floor).1 (D.il (x * ((q : Int) : Rat)).floor).2) T) :
    Ev (fun k => dendronlaw03_RatioNears.l1 k n1 0 (q : Int) (j : Int) X.1 X.2.1 X.2.2 Y.1 Y.2.1 Y.2.2 B.1 B.2.1 B.2.2 (D.il (x * ((q : Int) : Rat)).floor).1 (D.il (x * ((q : Int) : Rat)).floor).2) T := by
  obtain ⟨u, hu, eu⟩ := D.FL.small (q : Int) 1 (by omega) (by decide) (by decide)
  rw [mk_one] at hu
  obtain ⟨v, hv, ev⟩ := hX.times hu (by decide)
  have L := hv.floor_L
  have ec : cand x q j = mkRat ((x * ((q : Int) : Rat)).floor + (j : Int)) q := rfl
  generalize (x * ((q : Int) : Rat)).floor = z at L k1 ec ⊢
  have e4 := D.wsmall_ev (j : Int) (by omega) (by omega)
  have Lj : D.L (j : Int) ≤ 1 := D.len_le (by show (j : Int).natAbs < 10000 ^ 1; omega)
  have e5 := D.wplus_ev z (j : Int) (by omega) (by omega)
  have L5 : D.L (z + (j : Int)) ≤ 26 := by
    have h1 : D.len (z + (j : Int)).natAbs ≤ D.len (z.natAbs + j) := D.len_mono (by omega)
    have h2 := D.lt_pow_len z.natAbs
    have h3 : 10000 ^ D.len z.natAbs ≤ 10000 ^ 25 := Nat.pow_le_pow_right (by decide) L
    have h4 : D.len (z.natAbs + j) ≤ 26 := D.len_le (by
      have : (10000 : Nat) ^ 26 = 10000 ^ 25 * 10000 := by rw [Nat.pow_succ]
      generalize (10000 : Nat) ^ 25 = p at h3 this
      omega)
    show D.len _ ≤ 26
    omega
  obtain ⟨w, hw, e6⟩ := D.FL.whole (z + (j : Int)) L5 (by decide)
  obtain ⟨s, hs, e8⟩ := D.FL.small 1 q (by decide) (by omega) (by omega)
  obtain ⟨c, hc, e9⟩ := hw.times hs (by decide)
  rw [fl_den1 _ q (by omega), ← ec] at hc
  obtain ⟨m, hm, e14⟩ := hX.minus
  obtain ⟨d1, hd1, e15⟩ := hc.plus hm (by decide)
  obtain ⟨a1, ha1, e16⟩ := fl_abs hd1
  obtain ⟨d2, hd2, e20⟩ := hB.plus hm (by decide)
  obtain ⟨a2, ha2, e21⟩ := fl_abs hd2
  have ho := ha1.order ha2 (by decide)
  rw [← Rat.sub_eq_add_neg, ← Rat.sub_eq_add_neg] at ho
  have ew : wrap64 ((j : Int) + 1) = ((j + 1 : Nat) : Int) := wr_succ _ (by omega)
  refine Ev.succ ?_
  simp only [dendronlaw03_RatioNears.l1, ew]
  refine Ev.if_pos (by omega) (Ev.bind e4 (Ev.bind e5 (Ev.bind e6 (Ev.bind e8 (Ev.bind e9 (Ev.bind e14 (Ev.bind e15 (Ev.bind e16 (Ev.bind e14 (Ev.bind e20 (Ev.bind e21 (Ev.bind ho ?_))))))))))))
  by_cases h : dst x (cand x q j) < dst x b
  · have hk := k1 c (by rw [upd, if_pos h]; exact hc.mono (by decide))
    exact Ev.if_pos (cmpQ_neg.2 h) hk
  · have hk := k1 B (by rw [upd, if_neg h]; exact hB)
    exact Ev.if_neg (fun e => h (cmpQ_neg.1 e)) hk
theorem upd_stay {n : Nat} {x R c : Rat} (g : Best n x R) (h : c.den ≤ n) : upd x c R = R := by
  unfold upd
  rw [if_neg (Rat.not_lt.2 (g.le c h))]
theorem upd_inv {x R c b : Rat} (hc : c = R ∨ dst x R < dst x c) (hb : b = R ∨ dst x R < dst x b) : upd x c b = R ∨ dst x R < dst x (upd x c b) := by
  unfold upd
  split
  · exact hc
  · exact hb
theorem upd_take {x R b : Rat} (hb : b = R ∨ dst x R < dst x b) : upd x R b = R := by
  unfold upd
  rcases hb with h | h
  · rw [h]; split <;> rfl
  · rw [if_pos h]
theorem nears_l0 {n : Nat} (hn : n ≤ 4096) {x R : Rat} (g : Best n x R) (sR : Sz R ≤ 5000) {X : Rt} (hX : D.FL x 20 X) : ∀ (m q : Nat) (b : Rat) (B : Rt), q + m = n + 1 → 1 ≤ q → D.FL b 40 B → (b = R ∨ (dst x R < dst x b ∧ q ≤ R.den)) →
    Ev (fun k => dendronlaw03_RatioNears.l0 k (n : Int) 0 (q : Int) X.1 X.2.1 X.2.2 (cn R).1 (cn R).2.1 (cn R).2.2 B.1 B.2.1 B.2.2) true := by
  obtain ⟨j0, hj0, e0⟩ := cand_turn g
  have gd := g.den
  intro m
  induction m with
  | zero =>
    intro q b B hq h1 hB hi
    have hb : b = R := by
      rcases hi with h | ⟨_, h⟩
      · exact h
      · omega
    rw [hb] at hB
    have his := D.is_true hB sR (by decide)
    refine Ev.succ ?_
    simp only [dendronlaw03_RatioNears.l0]
    exact Ev.if_neg (by omega) (Ev.if_pos (by trivial) (Ev.bind his (Ev.if_pos rfl aw3)))
  | succ m ih =>
    intro q b B hq h1 hB hi
    obtain ⟨u, hu, eu⟩ := D.FL.small (q : Int) 1 (by omega) (by decide) (by decide)
    rw [mk_one] at hu
    obtain ⟨v, hv, ev⟩ := hX.times hu (by decide)
    have hf := hv.floor (by decide)
    have ew : wrap64 ((q : Int) + 1) = ((q + 1 : Nat) : Int) := wr_succ _ (by omega)
    have c0 := cand_den x q 0 (by omega)
    have c1 := cand_den x q 1 (by omega)
    have inv : upd x (cand x q 1) (upd x (cand x q 0) b) = R ∨ (dst x R < dst x (upd x (cand x q 1) (upd x (cand x q 0) b)) ∧ q + 1 ≤ R.den) := by
      rcases hi with h | ⟨h, hle⟩
      · left
        rw [h, upd_stay g (by omega), upd_stay g (by omega)]
      · rcases Nat.lt_or_ge q R.den with t | t
        · have a0 := ahead g e0 q 0 h1 (by omega) (.inl t) hj0
          have a1 := ahead g e0 q 1 h1 (by omega) (.inl t) hj0
          rcases upd_inv a1 (upd_inv a0 (.inr h)) with r | r
          · exact .inl r
          · exact .inr ⟨r, by omega⟩
        · left
          have hqe : q = R.den := by omega
          rcases Nat.lt_or_ge 0 j0 with k | k
          · have a0 := ahead g e0 q 0 h1 (by omega) (.inr ⟨hqe, k⟩) hj0
            have i0 := upd_inv a0 (.inr h)
            have : cand x q 1 = R := by
              have hj : j0 = 1 := by omega
              rw [hj] at e0
              rw [hqe]; exact e0.symm
            rw [this]
            exact upd_take i0
          · have : cand x q 0 = R := by
              have hj : j0 = 0 := by omega
              rw [hj] at e0
              rw [hqe]; exact e0.symm
            rw [this, upd_take (.inr h)]
            exact upd_stay g (by omega)
    refine Ev.succ ?_
    simp only [dendronlaw03_RatioNears.l0]
    refine Ev.if_pos (by omega) (Ev.bind eu (Ev.bind ev (Ev.bind hf ?_)))
    refine nears_step (n : Int) q h1 (by omega) hX b hB 0 (by decide) (fun B1 hB1 => nears_step (n : Int) q h1 (by omega) hX _ hB1 1 (by decide) (fun B2 hB2 => Ev.succ ?_))
    simp only [dendronlaw03_RatioNears.l1, ew]
    exact Ev.if_neg (by decide) (ih (q + 1) _ B2 (by omega) (by omega) hB2 inv)
theorem ratioNears_ev (r : Rt) (n : Int) (hr : RtU r) : Ev (fun k => dendronlaw03_RatioNears.f k r.1 r.2.1 r.2.2 n) true := by
  unfold dendronlaw03_RatioNears.f
  refine Ev.bind (tiny3_ev _ _ _) ?_
  have ha := tinyB hr
  generalize tinyR (r.1, r.2.1, r.2.2) = a at ha ⊢
  obtain ⟨x, hx, ex⟩ := D.FL.from ha (by decide)
  have hfl := hx.floor (by decide)
  have L := hx.floor_L
  obtain ⟨w, hw, ew⟩ := D.FL.whole (rv a).floor L (by decide)
  by_cases h40 : n > 40
  · by_cases h4 : n ≤ 4096
    · exact Ev.if_pos h40 (Ev.if_pos h4 aw3)
    · have hN := near_none a n (.inr (by omega))
      exact Ev.if_pos h40 (Ev.if_neg h4 (Ev.bind ex (Ev.bind hN (Ev.if_neg (by omega) (Ev.if_pos (by omega) (Ev.bind D.none_true (Ev.if_pos rfl (Ev.if_pos rfl aw3))))))))
  · refine Ev.if_neg h40 (Ev.bind ex ?_)
    by_cases h1 : n < 1
    · have hN := near_none a n (.inl h1)
      exact Ev.bind hN (Ev.if_pos h1 (Ev.bind D.none_true (Ev.if_pos rfl (Ev.if_pos rfl aw3))))
    · obtain ⟨N, rfl⟩ : ∃ N : Nat, n = (N : Int) := ⟨n.toNat, by omega⟩
      obtain ⟨R, g, zR, hN⟩ := near_cn a ha N (by omega) (by omega)
      have hfc : ((rv a).floor : Rat) = cand (rv a) 1 0 := by
        unfold cand
        rw [show (((1 : Nat) : Int) : Rat) = 1 from rfl, Rat.mul_one, show (rv a).floor + ((0 : Nat) : Int) = (rv a).floor by omega, mk_one]
      obtain ⟨j0, hj0, e0⟩ := cand_turn g
      have dp := R.den_nz
      have inv : ((rv a).floor : Rat) = R ∨ (dst (rv a) R < dst (rv a) ((rv a).floor : Rat) ∧ 1 ≤ R.den) := by
        rw [hfc]
        by_cases k : 1 = R.den ∧ j0 = 0
        · left
          rw [k.1, ← k.2]
          exact e0.symm
        · rcases ahead g e0 1 0 (by omega) (by have := g.den; omega) (by omega) hj0 with t | t
          · exact .inl t
          · exact .inr ⟨t, by omega⟩
      exact Ev.bind hN (Ev.if_neg h1 (Ev.if_neg (by omega) (Ev.bind hfl (Ev.bind ew (nears_l0 (by omega) g zR (hx.mono (by decide)) N 1 _ w (by omega) (by decide) (hw.mono (by decide)) inv)))))
end Go.DI.Th
