/- What the told functions answer, part 1. No condition. -/
import Derived.Test.YtnmpjinieiopaaaDoorFn
import Derived.Laws.Bits64b
import Derived.Laws.RangeAny
import Derived.Laws.RangeString
set_option linter.all false
namespace Go.DI.Th
open Go Go.RowKit Go.DI

def Ev {α : Type} (g : Nat → Option α) (r : α) : Prop := ∃ K, ∀ k, K ≤ k → g k = some r
theorem Ev.now {α : Type} (r : α) : Ev (fun _ => some r) r := ⟨0, fun _ _ => rfl⟩
theorem Ev.rounds {α : Type} {g : Nat → Option α} {r : α} (h : Ev g r) : ∃ k, g k = some r := by
  obtain ⟨K, h⟩ := h
  exact ⟨K, h K (Nat.le_refl _)⟩
theorem Ev.bind {α β : Type} {g : Nat → Option α} {f : Nat → α → Option β} {a : α} {r : β} (h : Ev g a) (k : Ev (fun n => f n a) r) : Ev (fun n => (g n).bind (f n)) r := by
  obtain ⟨K, h⟩ := h
  obtain ⟨K', k⟩ := k
  refine ⟨max K K', fun n hn => ?_⟩
  show (g n).bind (f n) = some r
  rw [h n (by omega)]
  exact k n (by omega)
theorem Ev.step {α : Type} {g f : Nat → Option α} {r : α} (h : ∀ k, g (k + 1) = f k) (k : Ev f r) : Ev g r := by
  obtain ⟨K, k⟩ := k
  refine ⟨K + 1, fun n hn => ?_⟩
  obtain ⟨m, rfl⟩ : ∃ m, n = m + 1 := ⟨n - 1, by omega⟩
  rw [h]
  exact k m (by omega)
theorem Ev.congr {α : Type} {g f : Nat → Option α} {r : α} (h : ∀ k, g k = f k) (k : Ev f r) : Ev g r := by
  obtain ⟨K, k⟩ := k
  exact ⟨K, fun n hn => by rw [h]; exact k n hn⟩
theorem Ev.of_eq {α : Type} {g : Nat → Option α} {r r' : α} (h : Ev g r) (e : r = r') : Ev g r' := e ▸ h
theorem Ev.if_pos {α : Type} {c : Prop} [Decidable c] {g f : Nat → Option α} {r : α} (h : c) (k : Ev g r) : Ev (fun n => if c then g n else f n) r := Ev.congr (fun _ => _root_.if_pos h) k
theorem Ev.if_neg {α : Type} {c : Prop} [Decidable c] {g f : Nat → Option α} {r : α} (h : ¬ c) (k : Ev f r) : Ev (fun n => if c then g n else f n) r := Ev.congr (fun _ => _root_.if_neg h) k


theorem wrap_id {i : Int} (h0 : -9223372036854775808 ≤ i) (h : i ≤ 9223372036854775807) : wrap64 i = i := by
  unfold wrap64; omega
theorem w64 (n : Int) : IntKind.u64.wrap n = n % 18446744073709551616 := IntKind.wrap_u64 n
theorem and_low {x : Int} (h0 : 0 ≤ x) (h1 : x < 18446744073709551616) : Go.bits .and .u64 x 4294967295 = x % 4294967296 := by
  obtain ⟨n, rfl⟩ : ∃ n : Nat, x = n := ⟨x.toNat, by omega⟩
  have := bits_and_u64_nat n 4294967295 (by omega) (by omega)
  have e : n &&& 4294967295 = n % 4294967296 := Nat.and_two_pow_sub_one_eq_mod n 32
  rw [show (4294967295 : Int) = ((4294967295 : Nat) : Int) from rfl, this, e]
  omega
theorem or_sum {x y : Int} (h0 : 0 ≤ x) (h1 : x < 4294967296) (h2 : 0 ≤ y) (h3 : y < 4294967296) : Go.bits .or .u64 (IntKind.u64.wrap (x * 4294967296)) y = x * 4294967296 + y := by
  obtain ⟨n, rfl⟩ : ∃ n : Nat, x = n := ⟨x.toNat, by omega⟩
  obtain ⟨m, rfl⟩ : ∃ n : Nat, y = n := ⟨y.toNat, by omega⟩
  have e1 : IntKind.u64.wrap ((n : Int) * 4294967296) = ((4294967296 * n : Nat) : Int) := by rw [w64]; omega
  rw [e1, bits_or_u64_nat _ m (by omega) (by omega)]
  have : 4294967296 * n ||| m = 4294967296 * n + m := by
    have := Nat.two_pow_add_eq_or_of_lt (i := 32) (b := m) (by omega) n
    simpa using this.symm
  rw [this]
  omega

def val : List Int → Nat
  | [] => 0
  | x :: l => (x % 4294967296).toNat + 4294967296 * val l

def lm (n : Nat) : List Int := if n = 0 then [] else ((n % 4294967296 : Nat) : Int) :: lm (n / 4294967296)
termination_by n
decreasing_by omega

def Ok (l : List Int) : Prop := ∀ x ∈ l, 0 ≤ x ∧ x < 4294967296
def U (l : List Int) : Prop := ∀ x ∈ l, 0 ≤ x ∧ x < 18446744073709551616
theorem Ok.U {l : List Int} (h : Ok l) : U l := fun x hx => by have := h x hx; omega
theorem Ok.nil : Ok [] := fun x hx => by cases hx
theorem Ok.cons {x : Int} {l : List Int} (h : 0 ≤ x ∧ x < 4294967296) (hl : Ok l) : Ok (x :: l) := fun y hy => by
  rcases List.mem_cons.1 hy with rfl | hy
  · exact h
  · exact hl y hy
theorem Ok.append {a b : List Int} (ha : Ok a) (hb : Ok b) : Ok (a ++ b) := fun x hx => by
  rcases List.mem_append.1 hx with h | h
  · exact ha x h
  · exact hb x h
theorem Ok.take {a : List Int} (h : Ok a) (n : Nat) : Ok (a.take n) := fun x hx => h x (List.mem_of_mem_take hx)
theorem Ok.drop {a : List Int} (h : Ok a) (n : Nat) : Ok (a.drop n) := fun x hx => h x (List.mem_of_mem_drop hx)
theorem Ok.zeros (n : Nat) : Ok (List.replicate n 0) := fun x hx => by
  rw [(List.mem_replicate.1 hx).2]; omega
theorem Ok.tail {x : Int} {l : List Int} (h : Ok (x :: l)) : Ok l := fun y hy => h y (List.mem_cons_of_mem _ hy)
theorem Ok.head {x : Int} {l : List Int} (h : Ok (x :: l)) : 0 ≤ x ∧ x < 4294967296 := h x List.mem_cons_self
theorem rd_ok {l : List Int} (h : Ok l) (i : Int) : 0 ≤ rd l i ∧ rd l i < 4294967296 := by
  unfold rd
  rw [List.getD_eq_getElem?_getD]
  by_cases hi : i.toNat < l.length
  · rw [List.getElem?_eq_getElem hi]
    exact h _ (List.getElem_mem hi)
  · rw [List.getElem?_eq_none (by omega)]
    simp
theorem rd_U {l : List Int} (h : U l) (i : Int) : 0 ≤ rd l i ∧ rd l i < 18446744073709551616 := by
  unfold rd
  rw [List.getD_eq_getElem?_getD]
  by_cases hi : i.toNat < l.length
  · rw [List.getElem?_eq_getElem hi]
    exact h _ (List.getElem_mem hi)
  · rw [List.getElem?_eq_none (by omega)]
    simp

theorem val_cons (x : Int) (l : List Int) : val (x :: l) = (x % 4294967296).toNat + 4294967296 * val l := rfl
theorem lm_zero : lm 0 = [] := by rw [lm]; simp
theorem lm_pos {n : Nat} (h : n ≠ 0) : lm n = ((n % 4294967296 : Nat) : Int) :: lm (n / 4294967296) := by
  conv => lhs; rw [lm]
  rw [if_neg h]
theorem val_lm (n : Nat) : val (lm n) = n := by
  induction n using Nat.strongRecOn with
  | _ n ih =>
    by_cases h : n = 0
    · subst h; rw [lm_zero]; rfl
    · rw [lm_pos h, val_cons, ih _ (by omega)]
      omega
theorem lm_ok (n : Nat) : Ok (lm n) := by
  induction n using Nat.strongRecOn with
  | _ n ih =>
    by_cases h : n = 0
    · subst h; rw [lm_zero]; exact Ok.nil
    · rw [lm_pos h]
      exact Ok.cons (by omega) (ih _ (by omega))
theorem val_append (a b : List Int) : val (a ++ b) = val a + 4294967296 ^ a.length * val b := by
  induction a with
  | nil => simp [val]
  | cons x a ih =>
    rw [List.cons_append, val_cons, val_cons, ih, List.length_cons, Nat.pow_succ, Nat.mul_add]
    have : 4294967296 * (4294967296 ^ a.length * val b) = 4294967296 ^ a.length * 4294967296 * val b := by
      rw [← Nat.mul_assoc, Nat.mul_comm 4294967296 (4294967296 ^ a.length)]
    omega
theorem val_zeros (n : Nat) : val (List.replicate n 0) = 0 := by
  induction n with
  | zero => rfl
  | succ n ih => rw [List.replicate_succ, val_cons, ih]; rfl
theorem val_lt (l : List Int) : val l < 4294967296 ^ l.length := by
  induction l with
  | nil => simp [val]
  | cons x l ih =>
    rw [val_cons, List.length_cons, Nat.pow_succ]
    have h1 : (x % 4294967296).toNat < 4294967296 := by
      have := Int.emod_lt_of_pos x (b := 4294967296) (by decide)
      have := Int.emod_nonneg x (b := 4294967296) (by decide)
      omega
    have h2 : 4294967296 * (val l + 1) ≤ 4294967296 * 4294967296 ^ l.length := Nat.mul_le_mul_left _ ih
    rw [Nat.mul_comm (4294967296 ^ l.length)]
    omega
theorem val_single (x : Int) : val [x] = (x % 4294967296).toNat := by simp [val]
theorem val_snoc (l : List Int) (x : Int) : val (l ++ [x]) = val l + 4294967296 ^ l.length * (x % 4294967296).toNat := by rw [val_append, val_single]

theorem lm_val {l : List Int} (h : Ok l) (hl : ∀ x, l.getLast? = some x → x ≠ 0) : lm (val l) = l := by
  induction l with
  | nil => exact lm_zero
  | cons x l ih =>
    have hx := h.head
    have e : x % 4294967296 = x := Int.emod_eq_of_lt hx.1 hx.2
    by_cases hl0 : l = []
    · subst hl0
      have hx0 : x ≠ 0 := hl x rfl
      have hv : val [x] = x.toNat := by rw [val_single, e]
      rw [hv, lm_pos (by omega), show x.toNat / 4294967296 = 0 by omega, lm_zero, show x.toNat % 4294967296 = x.toNat by omega]
      congr 1
      omega
    · have hl' : lm (val l) = l := ih h.tail (fun y hy => hl y (by rw [List.getLast?_cons, hy]; rfl))
      have hv0 : val l ≠ 0 := by
        intro h0
        rw [h0, lm_zero] at hl'
        exact hl0 hl'.symm
      have hv : val (x :: l) = x.toNat + 4294967296 * val l := by rw [val_cons, e]
      rw [hv, lm_pos (by omega), show (x.toNat + 4294967296 * val l) / 4294967296 = val l by omega, show (x.toNat + 4294967296 * val l) % 4294967296 = x.toNat by omega, hl']
      congr 1
      omega
def len (n : Nat) : Nat := (lm n).length
theorem len_zero : len 0 = 0 := by unfold len; rw [lm_zero]; rfl
theorem len_pos {n : Nat} (h : n ≠ 0) : len n = len (n / 4294967296) + 1 := by unfold len; rw [lm_pos h]; rfl
theorem len_eq_zero {n : Nat} : len n = 0 ↔ n = 0 := by
  constructor
  · intro h
    by_cases h0 : n = 0
    · exact h0
    · rw [len_pos h0] at h; omega
  · rintro rfl; exact len_zero
theorem lt_pow_len (n : Nat) : n < 4294967296 ^ len n := by
  have := val_lt (lm n)
  rwa [val_lm] at this
theorem pow_le_len {n : Nat} (h : n ≠ 0) : 4294967296 ^ (len n - 1) ≤ n := by
  induction n using Nat.strongRecOn with
  | _ n ih =>
    rw [len_pos h, Nat.add_sub_cancel]
    by_cases h2 : n / 4294967296 = 0
    · rw [h2, len_zero]; omega
    · have := ih _ (by omega) h2
      rw [len_pos h2, Nat.pow_succ]
      rw [len_pos h2, Nat.add_sub_cancel] at this
      omega
theorem len_le {n k : Nat} (h : n < 4294967296 ^ k) : len n ≤ k := by
  by_cases h0 : n = 0
  · subst h0; rw [len_zero]; omega
  · have h1 := pow_le_len h0
    have h2 : 4294967296 ^ (len n - 1) < 4294967296 ^ k := by omega
    have := (Nat.pow_lt_pow_iff_right (by decide : 1 < 4294967296)).1 h2
    omega
theorem len_mono {a b : Nat} (h : a ≤ b) : len a ≤ len b := len_le (Nat.lt_of_le_of_lt h (lt_pow_len b))
theorem len_add (a b : Nat) : len (a + b) ≤ max (len a) (len b) + 1 := by
  apply len_le
  have h1 := lt_pow_len a
  have h2 := lt_pow_len b
  have h3 : 4294967296 ^ len a ≤ 4294967296 ^ max (len a) (len b) := Nat.pow_le_pow_right (by decide) (Nat.le_max_left _ _)
  have h4 : 4294967296 ^ len b ≤ 4294967296 ^ max (len a) (len b) := Nat.pow_le_pow_right (by decide) (Nat.le_max_right _ _)
  rw [Nat.pow_succ]
  omega
theorem len_mul (a b : Nat) : len (a * b) ≤ len a + len b := by
  apply len_le
  rw [Nat.pow_add]
  have h1 := lt_pow_len a
  have h2 := lt_pow_len b
  have h0 : 0 < 4294967296 ^ len b := Nat.pow_pos (by decide)
  calc a * b ≤ a * 4294967296 ^ len b := Nat.mul_le_mul_left _ (by omega)
    _ < 4294967296 ^ len a * 4294967296 ^ len b := Nat.mul_lt_mul_of_pos_right h1 h0
theorem val_len (l : List Int) : len (val l) ≤ l.length := len_le (val_lt l)
theorem lm_length (n : Nat) : (lm n).length = len n := rfl
theorem lt_of_len_lt {a b : Nat} (h : len a < len b) : a < b := by
  have hb : b ≠ 0 := by
    rintro rfl
    rw [len_zero] at h
    omega
  have h1 := lt_pow_len a
  have h2 := pow_le_len hb
  have h3 : 4294967296 ^ len a ≤ 4294967296 ^ (len b - 1) := Nat.pow_le_pow_right (by decide) (by omega)
  omega

theorem rd_nat (l : List Int) (i : Nat) : rd l (i : Int) = l.getD i 0 := by simp [rd]
theorem take_succ_rd (l : List Int) (i : Nat) (h : i < l.length) : l.take (i + 1) = l.take i ++ [rd l i] := by
  rw [List.take_succ_eq_append_getElem h, rd_nat, List.getD_eq_getElem?_getD, List.getElem?_eq_getElem h]
  rfl
theorem drop_rd (l : List Int) (i : Nat) (h : i < l.length) : l.drop i = rd l i :: l.drop (i + 1) := by
  rw [rd_nat, List.getD_eq_getElem?_getD, List.getElem?_eq_getElem h]
  exact List.drop_eq_getElem_cons h
theorem val_take_succ (l : List Int) (i : Nat) (h : i < l.length) : val (l.take (i + 1)) = val (l.take i) + 4294967296 ^ i * (rd l i % 4294967296).toNat := by
  rw [take_succ_rd l i h, val_snoc, List.length_take, Nat.min_eq_left (Nat.le_of_lt h)]
theorem val_drop (l : List Int) (i : Nat) (h : i < l.length) : val (l.drop i) = (rd l i % 4294967296).toNat + 4294967296 * val (l.drop (i + 1)) := by
  rw [drop_rd l i h, val_cons]
theorem fill (done : List Int) (d : Nat) (v : Int) : (done ++ List.replicate (d + 1) (0 : Int)).set done.length v = done ++ [v] ++ List.replicate d 0 := by
  rw [List.set_append_right _ _ (Nat.le_refl _), Nat.sub_self, List.replicate_succ]
  simp
theorem fillr (done : List Int) (d : Nat) (v : Int) : (List.replicate (d + 1) (0 : Int) ++ done).set d v = List.replicate d 0 ++ v :: done := by
  rw [List.replicate_succ', List.append_assoc, List.set_append_right _ _ (by simp)]
  simp


end Go.DI.Th
namespace Go.DI.Th
open Go Go.RowKit Go.DI

theorem wr_succ (m : Nat) (h : m ≤ 1125899906842624) : wrap64 ((m : Int) + 1) = ((m + 1 : Nat) : Int) := by
  rw [wrap_id (by omega) (by omega)]; omega
theorem gt_at {α : Type} (d : α) (a : List α) (x : α) (b : List α) : gt d (a ++ x :: b) (a.length : Int) = x := by
  unfold gt
  rw [Int.toNat_natCast, List.getD_eq_getElem?_getD, List.getElem?_append_right (Nat.le_refl _), Nat.sub_self]
  rfl
theorem lt_at {α : Type} (a : List α) (x : α) (b : List α) : (a.length : Int) < ((a ++ x :: b).length : Int) := by
  rw [List.length_append, List.length_cons]; omega
theorem nlt_at {α : Type} (a : List α) : ¬ (a.length : Int) < ((a ++ []).length : Int) := by
  rw [List.append_nil]; omega
theorem snoc_at {α : Type} (a : List α) (x : α) (b : List α) : a ++ x :: b = (a ++ [x]) ++ b := by rw [List.append_assoc]; rfl
theorem wr_at {α : Type} (a : List α) (x : α) (h : a.length ≤ 1125899906842624) : wrap64 ((a.length : Int) + 1) = ((a ++ [x]).length : Int) := by
  rw [wr_succ _ h, List.length_append, List.length_singleton]
theorem nn0 (n : Nat) : (0 : Int) ≤ (n : Int) := Int.natCast_nonneg n
end Go.DI.Th
namespace Go.DI.Th
open Go Go.RowKit Go.DI

theorem Ev.succ {α : Type} {g : Nat → Option α} {r : α} (h : Ev (fun k => g (k + 1)) r) : Ev g r := Ev.step (fun _ => rfl) h
end Go.DI.Th
namespace Go.DI.Th
open Go Go.RowKit Go.DI

theorem limb_eq (l : List Int) (i : Int) (h : 0 ≤ i) : nat_limb.f l i = some (rd l i) := by
  unfold nat_limb.f
  by_cases h1 : i < (l.length : Int)
  · rw [if_pos h1, if_pos h]
  · rw [if_neg h1]
    unfold rd
    rw [List.getD_eq_getElem?_getD, List.getElem?_eq_none (by omega)]
    rfl
theorem rd_beyond (l : List Int) (i : Int) (h : (l.length : Int) ≤ i) : rd l i = 0 := by
  unfold rd
  rw [List.getD_eq_getElem?_getD, List.getElem?_eq_none (by omega)]
  rfl

theorem trim_from (l : List Int) (hl : Ok l) (hn : l.length ≤ 9223372036854775807) : ∀ n : Nat, n ≤ l.length → val l = val (l.take n) → Ev (fun k => nat_trim.l0 k l (n : Int)) (lm (val l)) := by
  intro n
  induction n with
  | zero =>
    intro _ hv
    refine Ev.step (fun k => ?_) (Ev.now _)
    simp only [nat_trim.l0]
    rw [if_neg (by omega), if_pos (by simp), hv]
    simp [val, lm_zero]
  | succ m ih =>
    intro hm hv
    have e : wrap64 (((m + 1 : Nat) : Int) - 1) = (m : Int) := by rw [wrap_id (by omega) (by omega)]; omega
    have hr := rd_ok hl (m : Int)
    by_cases h0 : rd l (m : Int) = 0
    · refine Ev.step (fun k => ?_) (ih (by omega) ?_)
      · simp only [nat_trim.l0]
        rw [if_pos (by omega), e, if_pos (by omega), if_pos (by omega), if_pos h0]
      · rw [hv, val_take_succ l m (by omega), h0]
        simp
    · refine Ev.step (fun k => ?_) (Ev.now _)
      simp only [nat_trim.l0]
      rw [if_pos (by omega), e, if_pos (by omega), if_pos (by omega), if_neg h0, if_neg (by omega), if_pos (by omega), if_pos (by omega)]
      have e2 : (((m + 1 : Nat) : Int)).toNat = m + 1 := by omega
      rw [e2, hv, lm_val (hl.take (m + 1))]
      intro x hx
      rw [take_succ_rd l m (by omega), List.getLast?_concat] at hx
      cases hx
      exact h0
theorem trim_ev (l : List Int) (hl : Ok l) (hn : l.length ≤ 9223372036854775807) : Ev (fun k => nat_trim.f k l) (lm (val l)) :=
  trim_from l hl hn l.length (Nat.le_refl _) (by rw [List.take_length])

def cmp (a b : Nat) : Int := if a < b then -1 else if b < a then 1 else 0
theorem split_at (l : List Int) (i : Nat) : val l = val (l.take i) + 4294967296 ^ (l.take i).length * val (l.drop i) := by
  conv => lhs; rw [← List.take_append_drop i l]
  exact val_append _ _
theorem less_of_drop {a b : List Int} {i : Nat} (hl : a.length = b.length) (hi : i ≤ a.length) (h : val (a.drop i) < val (b.drop i)) : val a < val b := by
  rw [split_at a i, split_at b i, List.length_take, List.length_take, ← hl, Nat.min_eq_left hi]
  have h1 := val_lt (a.take i)
  rw [List.length_take, Nat.min_eq_left hi] at h1
  have h2 : 4294967296 ^ i * (val (a.drop i) + 1) ≤ 4294967296 ^ i * val (b.drop i) := Nat.mul_le_mul_left _ h
  rw [Nat.mul_add] at h2
  omega
theorem order_loop (a b : List Int) (ha : Ok a) (hb : Ok b) (hl : a.length = b.length) (hn : a.length ≤ 9223372036854775807) : ∀ n : Nat, n ≤ a.length → val (a.drop n) = val (b.drop n) →
    Ev (fun k => nat_order.l0 k a b ((n : Int) - 1)) (cmp (val a) (val b)) := by
  intro n
  induction n with
  | zero =>
    intro _ hv
    refine Ev.step (fun k => ?_) (Ev.now _)
    simp only [nat_order.l0]
    simp only [List.drop_zero] at hv
    rw [if_neg (by omega)]
    unfold cmp
    rw [if_neg (by omega), if_neg (by omega)]
  | succ m ih =>
    intro hm hv
    have e : ((m + 1 : Nat) : Int) - 1 = (m : Int) := by omega
    have ra := rd_ok ha (m : Int)
    have rb := rd_ok hb (m : Int)
    have da := val_drop a m (by omega)
    have db := val_drop b m (by omega)
    rw [Int.emod_eq_of_lt ra.1 ra.2] at da
    rw [Int.emod_eq_of_lt rb.1 rb.2] at db
    by_cases h1 : rd a (m : Int) < rd b (m : Int)
    · refine Ev.step (fun k => ?_) (Ev.now _)
      simp only [nat_order.l0]
      rw [e, if_pos (by omega), if_pos (by omega), if_pos (by omega), if_pos h1]
      unfold cmp
      rw [if_pos (less_of_drop hl (i := m) (by omega) (by omega))]
    · by_cases h2 : rd a (m : Int) > rd b (m : Int)
      · refine Ev.step (fun k => ?_) (Ev.now _)
        simp only [nat_order.l0]
        rw [e, if_pos (by omega), if_pos (by omega), if_pos (by omega), if_neg h1, if_pos h2]
        have := less_of_drop hl.symm (i := m) (by omega) (by omega)
        unfold cmp
        rw [if_neg (by omega), if_pos this]
      · refine Ev.step (fun k => ?_) (ih (by omega) (by omega))
        simp only [nat_order.l0]
        rw [e, if_pos (by omega), if_pos (by omega), if_pos (by omega), if_neg h1, if_neg h2, wrap_id (by omega) (by omega)]
theorem order_ev (a b : Nat) (ha : len a ≤ 35184372088832) (_hb : len b ≤ 35184372088832) : Ev (fun k => nat_order.f k (lm a) (lm b)) (cmp a b) := by
  by_cases h1 : (lm a).length < (lm b).length
  · refine Ev.congr (fun k => ?_) (Ev.now _)
    unfold nat_order.f
    rw [if_pos (by omega)]
    unfold cmp
    rw [if_pos (lt_of_len_lt h1)]
  · by_cases h2 : (lm b).length < (lm a).length
    · refine Ev.congr (fun k => ?_) (Ev.now _)
      unfold nat_order.f
      rw [if_neg (by omega), if_pos (by omega)]
      have := lt_of_len_lt h2
      unfold cmp
      rw [if_neg (by omega), if_pos this]
    · have hl : (lm a).length = (lm b).length := by omega
      have h := order_loop (lm a) (lm b) (lm_ok a) (lm_ok b) hl (by rw [lm_length]; omega) (lm a).length (Nat.le_refl _) (by rw [List.drop_length, hl, List.drop_length])
      rw [val_lm, val_lm] at h
      refine Ev.congr (fun k => ?_) h
      unfold nat_order.f
      rw [if_neg (by omega), if_neg (by omega), wrap_id (by omega) (by rw [lm_length]; omega)]
theorem val_take_rd (l : List Int) (hl : Ok l) (i : Nat) : (val (l.take (i + 1)) : Int) = val (l.take i) + 4294967296 ^ i * rd l i := by
  by_cases h : i < l.length
  · have r := rd_ok hl (i : Int)
    have := val_take_succ l i h
    rw [Int.emod_eq_of_lt r.1 r.2] at this
    rw [this]
    have e : ((rd l (i : Int)).toNat : Int) = rd l i := by omega
    rw [Int.natCast_add, Int.natCast_mul, e, Int.natCast_pow]
    rfl
  · rw [List.take_of_length_le (by omega), List.take_of_length_le (by omega), rd_beyond l i (by omega)]
    simp
theorem val_snoc_int (l : List Int) (x : Int) (hx : 0 ≤ x ∧ x < 4294967296) : (val (l ++ [x]) : Int) = val l + 4294967296 ^ l.length * x := by
  rw [val_snoc, Int.emod_eq_of_lt hx.1 hx.2]
  have e : (x.toNat : Int) = x := by omega
  rw [Int.natCast_add, Int.natCast_mul, e, Int.natCast_pow]
  rfl

theorem small_loop (a : List Int) (ha : Ok a) (hn : a.length ≤ 35184372088832) (dv : Int) (h0 : 0 < dv) (h1 : dv < 4294967296) : ∀ (n : Nat) (done : List Int) (rest : Int), Ok done → done.length + n = a.length → 0 ≤ rest → rest < dv →
    (val (a.drop n) : Int) = dv * val done + rest →
    Ev (fun k => nat_small.l0 k a dv (List.replicate n 0 ++ done) rest ((n : Int) - 1)) (lm (val a / dv.toNat), ((val a % dv.toNat : Nat) : Int)) := by
  intro n
  induction n with
  | zero =>
    intro done rest hd hl hr0 hr1 hv
    obtain ⟨dn, rfl⟩ : ∃ m : Nat, dv = m := ⟨dv.toNat, by omega⟩
    obtain ⟨rn, rfl⟩ : ∃ m : Nat, rest = m := ⟨rest.toNat, by omega⟩
    rw [List.drop_zero] at hv
    have hv' : val a = dn * val done + rn := by omega
    have hq : val a / dn = val done := by
      rw [hv', Nat.mul_add_div (by omega), Nat.div_eq_of_lt (by omega)]
      omega
    have hm : val a % dn = rn := by rw [hv', Nat.mul_add_mod, Nat.mod_eq_of_lt (by omega)]
    rw [Int.toNat_natCast, hq, hm]
    refine Ev.step (f := fun k => (nat_trim.f k done).bind fun t => some (t, (rn : Int))) (fun k => ?_) (Ev.bind (trim_ev done hd (by omega)) (Ev.now _))
    simp only [nat_small.l0]
    rw [if_neg (by omega)]
    rfl
  | succ m ih =>
    intro done rest hd hl hr0 hr1 hv
    have ra := rd_ok ha (m : Int)
    have da := val_drop a m (by omega)
    rw [Int.emod_eq_of_lt ra.1 ra.2] at da
    have e : ((m + 1 : Nat) : Int) - 1 = (m : Int) := by omega
    have eo := or_sum (x := rest) (y := rd a m) hr0 (by omega) ra.1 ra.2
    have hx0 : 0 ≤ rest * 4294967296 + rd a m := by omega
    have hq1 : (rest * 4294967296 + rd a m) / dv < 4294967296 := by
      apply Int.ediv_lt_of_lt_mul h0
      have : (rest + 1) * 4294967296 ≤ dv * 4294967296 := Int.mul_le_mul_of_nonneg_right (by omega) (by decide)
      omega
    have hq0 : 0 ≤ (rest * 4294967296 + rd a m) / dv := Int.ediv_nonneg hx0 (by omega)
    have ht : Int.tdiv (rest * 4294967296 + rd a m) dv = (rest * 4294967296 + rd a m) / dv := Int.tdiv_eq_ediv_of_nonneg hx0
    have hm : Int.tmod (rest * 4294967296 + rd a m) dv = (rest * 4294967296 + rd a m) % dv := Int.tmod_eq_emod_of_nonneg hx0
    have hs := Int.mul_ediv_add_emod (rest * 4294967296 + rd a m) dv
    refine Ev.step (fun k => ?_) (ih ((rest * 4294967296 + rd a m) / dv :: done) ((rest * 4294967296 + rd a m) % dv) (Ok.cons ⟨hq0, hq1⟩ hd) (by simp; omega) (Int.emod_nonneg _ (by omega)) (Int.emod_lt_of_pos _ h0) ?_)
    · simp only [nat_small.l0]
      rw [e, if_pos (by omega), if_pos (by omega), if_neg (by omega), if_pos (by simp; omega), eo, ht, hm, wrap_id (by omega) (by omega), w64, Int.emod_eq_of_lt hq0 (by omega), show ((m : Int)).toNat = m by omega, fillr]
    · rw [da, val_cons]
      rw [Int.emod_eq_of_lt hq0 hq1]
      have : dv * (((rest * 4294967296 + rd a m) / dv) + 4294967296 * val done) = dv * ((rest * 4294967296 + rd a m) / dv) + 4294967296 * (dv * val done) := by rw [Int.mul_add, ← Int.mul_assoc, Int.mul_comm dv 4294967296, Int.mul_assoc]
      have e3 : (((((rest * 4294967296 + rd a m) / dv).toNat + 4294967296 * val done : Nat)) : Int) = ((rest * 4294967296 + rd a m) / dv) + 4294967296 * val done := by omega
      rw [e3, this]
      omega
theorem small_ev (a : List Int) (ha : Ok a) (hn : a.length ≤ 35184372088832) (d : Nat) (h0 : 0 < d) (h1 : d < 4294967296) : Ev (fun k => nat_small.f k a (d : Int)) (lm (val a / d), ((val a % d : Nat) : Int)) := by
  have h := small_loop a ha hn (d : Int) (by omega) (by omega) a.length [] 0 Ok.nil (by simp) (by omega) (by omega) (by simp [val])
  rw [Int.toNat_natCast] at h
  refine Ev.congr (fun k => ?_) h
  unfold nat_small.f
  rw [if_pos (by omega), show ((a.length : Int)).toNat = a.length by omega, wrap_id (by omega) (by omega), List.append_nil]


end Go.DI.Th
namespace Go.DI.Th
open Go Go.RowKit Go.DI

theorem rd_at (a : List Int) (x : Int) (b : List Int) : rd (a ++ x :: b) (a.length : Int) = x := by
  rw [rd_nat, List.getD_eq_getElem?_getD, List.getElem?_append_right (Nat.le_refl _), Nat.sub_self]
  rfl
theorem set_at (a : List Int) (x : Int) (b : List Int) (y : Int) : (a ++ x :: b).set a.length y = a ++ y :: b := by
  rw [List.set_append_right _ _ (Nat.le_refl _), Nat.sub_self]
  rfl
theorem val_append_int (a b : List Int) : (val (a ++ b) : Int) = val a + 4294967296 ^ a.length * val b := by
  rw [val_append, Int.natCast_add, Int.natCast_mul, Int.natCast_pow]
  rfl
theorem ar1 (p vD c vM x vB m b y z : Int) (hv : vD + p * c = vM + x * vB) (hx : 4294967296 * z + y = c + m + x * b) :
    vD + p * y + p * 4294967296 * z = vM + p * m + x * (vB + p * b) := by grind
theorem ar2 (p q vL vD c vM x vB vP vA : Int) (h1 : vP = vL + p * vM) (hv : vP = vA * vB) (h2 : vD + q * c = vM + x * vB) : vL + p * vD + p * q * c = (vA + p * x) * vB := by grind
theorem wr_add (n w : Nat) (h : w + n ≤ 1125899906842624) : wrap64 ((n : Int) + (w : Int)) = ((w + n : Nat) : Int) := by
  rw [wrap_id (by omega) (by omega)]; omega
end Go.DI.Th
namespace Go.DI.Th
open Go Go.RowKit Go.DI

end Go.DI.Th
namespace Go.DI.Th
open Go Go.RowKit Go.DI

theorem lm_one {n : Nat} (h0 : n ≠ 0) (h : n < 4294967296) : lm n = [(n : Int)] := by
  rw [lm_pos h0, Nat.mod_eq_of_lt h, Nat.div_eq_of_lt h, lm_zero]
theorem len_le_two {n : Nat} : len n ≤ 2 ↔ n < 18446744073709551616 := by
  constructor
  · intro h
    have h1 := lt_pow_len n
    have h2 := Nat.pow_le_pow_right (n := 4294967296) (by decide) h
    omega
  · intro h
    exact len_le (by omega)
end Go.DI.Th
namespace Go.DI.Th
open Go Go.RowKit Go.DI

end Go.DI.Th
namespace Go.DI.Th
open Go Go.RowKit Go.DI

end Go.DI.Th
namespace Go.DI.Th
open Go Go.RowKit Go.DI

def wv (b : Bool) (l : List Int) : Int := if b then -(val l : Int) else (val l : Int)
theorem wv_abs (b : Bool) (l : List Int) : (wv b l).natAbs = val l := by
  unfold wv
  cases b <;> simp
def num (b : Bool) (n d : List Int) : Int := if val d = 0 then 0 else wv b n
def den (d : List Int) : Nat := if val d = 0 then 1 else val d
theorem den_pos (d : List Int) : den d ≠ 0 := by
  unfold den; split <;> omega
theorem len_small {n : Nat} (h : n < 18446744073709551616) : len n ≤ 2 := len_le_two.2 h
def rnum (z : Int) (q : Nat) : Int := if z < 0 then -((z.natAbs / Nat.gcd z.natAbs q : Nat) : Int) else ((z.natAbs / Nat.gcd z.natAbs q : Nat) : Int)
def rden (z : Int) (q : Nat) : Nat := q / Nat.gcd z.natAbs q
theorem gcd_pos_right (p q : Nat) (h : q ≠ 0) : 0 < Nat.gcd p q := Nat.gcd_pos_of_pos_right _ (by omega)
theorem rnum_abs (z : Int) (q : Nat) : (rnum z q).natAbs = z.natAbs / Nat.gcd z.natAbs q := by
  unfold rnum
  generalize z.natAbs / Nat.gcd z.natAbs q = m
  split <;> omega
end Go.DI.Th
namespace Go.DI.Th
open Go Go.RowKit Go.DI

abbrev Rt := Bool × List Int × List Int
end Go.DI.Th
namespace Go.DI.Th
open Go Go.RowKit Go.DI

def rv (r : Rt) : Rat := mkRat (num r.1 r.2.1 r.2.2) (den r.2.2)
theorem div_gcd (z : Int) (g : Nat) (hg : g ≠ 0) (h : g ∣ z.natAbs) : z / (g : Int) = if z < 0 then -((z.natAbs / g : Nat) : Int) else ((z.natAbs / g : Nat) : Int) := by
  obtain ⟨m, hm⟩ := h
  rw [hm, Nat.mul_div_cancel_left m (by omega)]
  have hg' : (g : Int) ≠ 0 := by omega
  by_cases hz : z < 0
  · rw [if_pos hz]
    have e : z = (g : Int) * (-(m : Int)) := by
      have : (z.natAbs : Int) = g * m := by rw [hm]; exact Int.natCast_mul _ _
      rw [Int.mul_neg]
      omega
    rw [e, Int.mul_ediv_cancel_left _ hg']
  · rw [if_neg hz]
    have e : z = (g : Int) * (m : Int) := by
      have : (z.natAbs : Int) = g * m := by rw [hm]; exact Int.natCast_mul _ _
      omega
    rw [e, Int.mul_ediv_cancel_left _ hg']
theorem num_mk (z : Int) (q : Nat) (h : q ≠ 0) : (mkRat z q).num = rnum z q := by
  rw [Rat.num_mkRat, if_neg h, Nat.gcd_comm, div_gcd z _ (by have := gcd_pos_right z.natAbs q h; omega) (Nat.gcd_dvd_left _ _)]
  rfl
theorem den_mk (z : Int) (q : Nat) (h : q ≠ 0) : (mkRat z q).den = rden z q := by
  rw [Rat.den_mkRat, if_neg h, Nat.gcd_comm]
  rfl
def Sz (x : Rat) : Nat := max (len x.num.natAbs) (len x.den)
theorem Sz_mk (z : Int) (q : Nat) (h : q ≠ 0) : Sz (mkRat z q) ≤ max (len z.natAbs) (len q) := by
  unfold Sz
  rw [num_mk z q h, den_mk z q h, rnum_abs]
  have h1 := len_mono (Nat.div_le_self z.natAbs (Nat.gcd z.natAbs q))
  have h2 : len (rden z q) ≤ len q := len_mono (Nat.div_le_self _ _)
  omega
theorem len_one : len 1 = 1 := by
  have h1 := len_small (show 1 < 18446744073709551616 by decide)
  unfold len
  rw [lm_one (by decide) (by decide)]
  rfl
def RtB (b : Nat) (r : Rt) : Prop := U r.2.1 ∧ U r.2.2 ∧ r.2.1.length ≤ b ∧ r.2.2.length ≤ b
theorem RtB.mono {b c : Nat} {r : Rt} (h : RtB b r) (hc : b ≤ c) : RtB c r := ⟨h.1, h.2.1, by have := h.2.2.1; omega, by have := h.2.2.2; omega⟩
theorem num_len (b : Bool) (n d : List Int) : len (num b n d).natAbs ≤ n.length := by
  refine Nat.le_trans (len_mono ?_) (val_len n)
  unfold num
  split
  · simp
  · rw [wv_abs]; exact Nat.le_refl _
theorem den_len (d : List Int) : len (den d) ≤ d.length + 1 := by
  unfold den
  split
  · rw [len_one]; omega
  · exact Nat.le_trans (val_len d) (Nat.le_succ _)
theorem RtB.sz {b : Nat} {r : Rt} (h : RtB b r) : Sz (rv r) ≤ b + 1 := by
  have h1 := Sz_mk (num r.1 r.2.1 r.2.2) (den r.2.2) (den_pos _)
  have h2 := num_len r.1 r.2.1 r.2.2
  have h3 := den_len r.2.2
  obtain ⟨_, _, h4, h5⟩ := h
  unfold rv
  omega
end Go.DI.Th
namespace Go.DI.Th
open Go Go.RowKit Go.DI

end Go.DI.Th
namespace Go.DI.Th
open Go Go.RowKit Go.DI

end Go.DI.Th
namespace Go.DI.Th
open Go Go.RowKit Go.DI

end Go.DI.Th
namespace Go.DI.Th
open Go Go.RowKit Go.DI

end Go.DI.Th
namespace Go.DI.Th
open Go Go.RowKit Go.DI

def cmpZ (a b : Int) : Int := if a < b then -1 else if b < a then 1 else 0
theorem cmpZ_scale (c x y : Int) (h : 0 < c) : cmpZ (c * x) (c * y) = cmpZ x y := by
  unfold cmpZ
  have h1 : c * x < c * y ↔ x < y := ⟨fun h' => Int.lt_of_mul_lt_mul_left h' (Int.le_of_lt h), fun h' => Int.mul_lt_mul_of_pos_left h' h⟩
  have h2 : c * y < c * x ↔ y < x := ⟨fun h' => Int.lt_of_mul_lt_mul_left h' (Int.le_of_lt h), fun h' => Int.mul_lt_mul_of_pos_left h' h⟩
  simp only [h1, h2]
theorem sg_mul (a b : Int) : (if (!(decide (a < 0) == decide (b < 0))) = true then -((a.natAbs * b.natAbs : Nat) : Int) else ((a.natAbs * b.natAbs : Nat) : Int)) = a * b := by
  by_cases h1 : a < 0 <;> by_cases h2 : b < 0 <;> simp only [h1, h2, decide_true, decide_false]
  · obtain ⟨n, hn⟩ : ∃ n : Nat, a = -(n : Int) := ⟨(-a).toNat, by omega⟩
    obtain ⟨m, hm⟩ : ∃ m : Nat, b = -(m : Int) := ⟨(-b).toNat, by omega⟩
    subst hn; subst hm; simp [Int.neg_mul_neg]
  · obtain ⟨n, hn⟩ : ∃ n : Nat, a = -(n : Int) := ⟨(-a).toNat, by omega⟩
    obtain ⟨m, hm⟩ : ∃ m : Nat, b = (m : Int) := ⟨b.toNat, by omega⟩
    subst hn; subst hm; simp [Int.neg_mul]
  · obtain ⟨n, hn⟩ : ∃ n : Nat, a = (n : Int) := ⟨a.toNat, by omega⟩
    obtain ⟨m, hm⟩ : ∃ m : Nat, b = -(m : Int) := ⟨(-b).toNat, by omega⟩
    subst hn; subst hm; simp [Int.mul_neg]
  · obtain ⟨n, hn⟩ : ∃ n : Nat, a = (n : Int) := ⟨a.toNat, by omega⟩
    obtain ⟨m, hm⟩ : ∃ m : Nat, b = (m : Int) := ⟨b.toNat, by omega⟩
    subst hn; subst hm; simp
theorem rnum_gcd (z : Int) (q : Nat) (h : q ≠ 0) : ∃ g : Nat, g ≠ 0 ∧ z = g * rnum z q ∧ q = g * rden z q := by
  have hg := gcd_pos_right z.natAbs q h
  have e1 := Nat.mul_div_cancel' (Nat.gcd_dvd_left z.natAbs q)
  have e2 := Nat.mul_div_cancel' (Nat.gcd_dvd_right z.natAbs q)
  refine ⟨Nat.gcd z.natAbs q, by omega, ?_, e2.symm⟩
  unfold rnum
  generalize z.natAbs / Nat.gcd z.natAbs q = r at e1 ⊢
  generalize Nat.gcd z.natAbs q = g at e1 ⊢
  split
  · rw [Int.mul_neg, ← Int.natCast_mul, e1]; omega
  · rw [← Int.natCast_mul, e1]; omega
theorem cmp_norm (z w : Int) (q p : Nat) (hq : q ≠ 0) (hp : p ≠ 0) : cmpZ (rnum z q * rden w p) (rnum w p * rden z q) = cmpZ (z * p) (w * q) := by
  obtain ⟨g, hg, e1, e2⟩ := rnum_gcd z q hq
  obtain ⟨h, hh, e3, e4⟩ := rnum_gcd w p hp
  generalize rnum z q = a at *
  generalize rden z q = b at *
  generalize rnum w p = c at *
  generalize rden w p = d at *
  have x1 : z * p = (g * h : Nat) * (a * d) := by rw [e1, e4]; simp only [Int.natCast_mul]; grind
  have x2 : w * q = (g * h : Nat) * (c * b) := by rw [e3, e2]; simp only [Int.natCast_mul]; grind
  rw [x1, x2, cmpZ_scale]
  have := Nat.mul_pos (Nat.pos_of_ne_zero hg) (Nat.pos_of_ne_zero hh)
  omega
end Go.DI.Th
namespace Go.DI.Th
open Go Go.RowKit Go.DI

def cmpQ (x y : Rat) : Int := if x < y then -1 else if y < x then 1 else 0
theorem cmpQ_num (x y : Rat) : cmpQ x y = cmpZ (x.num * y.den) (y.num * x.den) := by
  unfold cmpQ cmpZ
  simp only [Rat.lt_iff]
theorem cmpQ_mk (z w : Int) (q p : Nat) (hq : q ≠ 0) (hp : p ≠ 0) : cmpZ (z * p) (w * q) = cmpQ (mkRat z q) (mkRat w p) := by
  rw [cmpQ_num, num_mk z q hq, num_mk w p hp, den_mk z q hq, den_mk w p hp, cmp_norm z w q p hq hp]
theorem cmpQ_zero {x y : Rat} : cmpQ x y = 0 ↔ x = y := by
  unfold cmpQ
  constructor
  · intro h
    by_cases h1 : x < y
    · rw [if_pos h1] at h; omega
    · by_cases h2 : y < x
      · rw [if_neg h1, if_pos h2] at h; omega
      · exact Rat.le_antisymm (Rat.not_lt.1 h2) (Rat.not_lt.1 h1)
  · rintro rfl
    rw [if_neg Rat.lt_irrefl, if_neg Rat.lt_irrefl]
end Go.DI.Th
namespace Go.DI.Th
open Go Go.RowKit Go.DI

end Go.DI.Th
namespace Go.DI.Th
open Go Go.RowKit Go.DI

end Go.DI.Th
namespace Go.DI.Th
open Go Go.RowKit Go.DI

end Go.DI.Th
namespace Go.DI.Th
open Go Go.RowKit Go.DI

end Go.DI.Th
namespace Go.DI.Th.D
open Go Go.RowKit Go.DI
def val : List Int → Nat
  | [] => 0
  | x :: l => (x % 10000).toNat + 10000 * val l

def lm (n : Nat) : List Int := if n = 0 then [] else ((n % 10000 : Nat) : Int) :: lm (n / 10000)
termination_by n
decreasing_by omega

def Ok (l : List Int) : Prop := ∀ x ∈ l, 0 ≤ x ∧ x < 10000
def U (l : List Int) : Prop := ∀ x ∈ l, 0 ≤ x ∧ x < 100000000
theorem Ok.U {l : List Int} (h : Ok l) : U l := fun x hx => by have := h x hx; omega
theorem Ok.nil : Ok [] := fun x hx => by cases hx
theorem Ok.cons {x : Int} {l : List Int} (h : 0 ≤ x ∧ x < 10000) (hl : Ok l) : Ok (x :: l) := fun y hy => by
  rcases List.mem_cons.1 hy with rfl | hy
  · exact h
  · exact hl y hy
theorem Ok.append {a b : List Int} (ha : Ok a) (hb : Ok b) : Ok (a ++ b) := fun x hx => by
  rcases List.mem_append.1 hx with h | h
  · exact ha x h
  · exact hb x h
theorem Ok.take {a : List Int} (h : Ok a) (n : Nat) : Ok (a.take n) := fun x hx => h x (List.mem_of_mem_take hx)
theorem Ok.drop {a : List Int} (h : Ok a) (n : Nat) : Ok (a.drop n) := fun x hx => h x (List.mem_of_mem_drop hx)
theorem Ok.zeros (n : Nat) : Ok (List.replicate n 0) := fun x hx => by
  rw [(List.mem_replicate.1 hx).2]; omega
theorem Ok.tail {x : Int} {l : List Int} (h : Ok (x :: l)) : Ok l := fun y hy => h y (List.mem_cons_of_mem _ hy)
theorem Ok.head {x : Int} {l : List Int} (h : Ok (x :: l)) : 0 ≤ x ∧ x < 10000 := h x List.mem_cons_self
theorem rd_ok {l : List Int} (h : Ok l) (i : Int) : 0 ≤ rd l i ∧ rd l i < 10000 := by
  unfold rd
  rw [List.getD_eq_getElem?_getD]
  by_cases hi : i.toNat < l.length
  · rw [List.getElem?_eq_getElem hi]
    exact h _ (List.getElem_mem hi)
  · rw [List.getElem?_eq_none (by omega)]
    simp
theorem rd_U {l : List Int} (h : U l) (i : Int) : 0 ≤ rd l i ∧ rd l i < 100000000 := by
  unfold rd
  rw [List.getD_eq_getElem?_getD]
  by_cases hi : i.toNat < l.length
  · rw [List.getElem?_eq_getElem hi]
    exact h _ (List.getElem_mem hi)
  · rw [List.getElem?_eq_none (by omega)]
    simp

theorem val_cons (x : Int) (l : List Int) : val (x :: l) = (x % 10000).toNat + 10000 * val l := rfl
theorem lm_zero : lm 0 = [] := by rw [lm]; simp
theorem lm_pos {n : Nat} (h : n ≠ 0) : lm n = ((n % 10000 : Nat) : Int) :: lm (n / 10000) := by
  conv => lhs; rw [lm]
  rw [if_neg h]
theorem val_lm (n : Nat) : val (lm n) = n := by
  induction n using Nat.strongRecOn with
  | _ n ih =>
    by_cases h : n = 0
    · subst h; rw [lm_zero]; rfl
    · rw [lm_pos h, val_cons, ih _ (by omega)]
      omega
theorem lm_ok (n : Nat) : Ok (lm n) := by
  induction n using Nat.strongRecOn with
  | _ n ih =>
    by_cases h : n = 0
    · subst h; rw [lm_zero]; exact Ok.nil
    · rw [lm_pos h]
      exact Ok.cons (by omega) (ih _ (by omega))
theorem val_append (a b : List Int) : val (a ++ b) = val a + 10000 ^ a.length * val b := by
  induction a with
  | nil => simp [val]
  | cons x a ih =>
    rw [List.cons_append, val_cons, val_cons, ih, List.length_cons, Nat.pow_succ, Nat.mul_add]
    have : 10000 * (10000 ^ a.length * val b) = 10000 ^ a.length * 10000 * val b := by
      rw [← Nat.mul_assoc, Nat.mul_comm 10000 (10000 ^ a.length)]
    omega
theorem val_zeros (n : Nat) : val (List.replicate n 0) = 0 := by
  induction n with
  | zero => rfl
  | succ n ih => rw [List.replicate_succ, val_cons, ih]; rfl
theorem val_lt (l : List Int) : val l < 10000 ^ l.length := by
  induction l with
  | nil => simp [val]
  | cons x l ih =>
    rw [val_cons, List.length_cons, Nat.pow_succ]
    have h1 : (x % 10000).toNat < 10000 := by
      have := Int.emod_lt_of_pos x (b := 10000) (by decide)
      have := Int.emod_nonneg x (b := 10000) (by decide)
      omega
    have h2 : 10000 * (val l + 1) ≤ 10000 * 10000 ^ l.length := Nat.mul_le_mul_left _ ih
    rw [Nat.mul_comm (10000 ^ l.length)]
    omega
theorem val_single (x : Int) : val [x] = (x % 10000).toNat := by simp [val]
theorem val_snoc (l : List Int) (x : Int) : val (l ++ [x]) = val l + 10000 ^ l.length * (x % 10000).toNat := by rw [val_append, val_single]

theorem lm_val {l : List Int} (h : Ok l) (hl : ∀ x, l.getLast? = some x → x ≠ 0) : lm (val l) = l := by
  induction l with
  | nil => exact lm_zero
  | cons x l ih =>
    have hx := h.head
    have e : x % 10000 = x := Int.emod_eq_of_lt hx.1 hx.2
    by_cases hl0 : l = []
    · subst hl0
      have hx0 : x ≠ 0 := hl x rfl
      have hv : val [x] = x.toNat := by rw [val_single, e]
      rw [hv, lm_pos (by omega), show x.toNat / 10000 = 0 by omega, lm_zero, show x.toNat % 10000 = x.toNat by omega]
      congr 1
      omega
    · have hl' : lm (val l) = l := ih h.tail (fun y hy => hl y (by rw [List.getLast?_cons, hy]; rfl))
      have hv0 : val l ≠ 0 := by
        intro h0
        rw [h0, lm_zero] at hl'
        exact hl0 hl'.symm
      have hv : val (x :: l) = x.toNat + 10000 * val l := by rw [val_cons, e]
      rw [hv, lm_pos (by omega), show (x.toNat + 10000 * val l) / 10000 = val l by omega, show (x.toNat + 10000 * val l) % 10000 = x.toNat by omega, hl']
      congr 1
      omega
def len (n : Nat) : Nat := (lm n).length
theorem len_zero : len 0 = 0 := by unfold len; rw [lm_zero]; rfl
theorem len_pos {n : Nat} (h : n ≠ 0) : len n = len (n / 10000) + 1 := by unfold len; rw [lm_pos h]; rfl
theorem len_eq_zero {n : Nat} : len n = 0 ↔ n = 0 := by
  constructor
  · intro h
    by_cases h0 : n = 0
    · exact h0
    · rw [len_pos h0] at h; omega
  · rintro rfl; exact len_zero
theorem lt_pow_len (n : Nat) : n < 10000 ^ len n := by
  have := val_lt (lm n)
  rwa [val_lm] at this
theorem pow_le_len {n : Nat} (h : n ≠ 0) : 10000 ^ (len n - 1) ≤ n := by
  induction n using Nat.strongRecOn with
  | _ n ih =>
    rw [len_pos h, Nat.add_sub_cancel]
    by_cases h2 : n / 10000 = 0
    · rw [h2, len_zero]; omega
    · have := ih _ (by omega) h2
      rw [len_pos h2, Nat.pow_succ]
      rw [len_pos h2, Nat.add_sub_cancel] at this
      omega
theorem len_le {n k : Nat} (h : n < 10000 ^ k) : len n ≤ k := by
  by_cases h0 : n = 0
  · subst h0; rw [len_zero]; omega
  · have h1 := pow_le_len h0
    have h2 : 10000 ^ (len n - 1) < 10000 ^ k := by omega
    have := (Nat.pow_lt_pow_iff_right (by decide : 1 < 10000)).1 h2
    omega
theorem len_mono {a b : Nat} (h : a ≤ b) : len a ≤ len b := len_le (Nat.lt_of_le_of_lt h (lt_pow_len b))
theorem len_add (a b : Nat) : len (a + b) ≤ max (len a) (len b) + 1 := by
  apply len_le
  have h1 := lt_pow_len a
  have h2 := lt_pow_len b
  have h3 : 10000 ^ len a ≤ 10000 ^ max (len a) (len b) := Nat.pow_le_pow_right (by decide) (Nat.le_max_left _ _)
  have h4 : 10000 ^ len b ≤ 10000 ^ max (len a) (len b) := Nat.pow_le_pow_right (by decide) (Nat.le_max_right _ _)
  rw [Nat.pow_succ]
  omega
theorem len_mul (a b : Nat) : len (a * b) ≤ len a + len b := by
  apply len_le
  rw [Nat.pow_add]
  have h1 := lt_pow_len a
  have h2 := lt_pow_len b
  have h0 : 0 < 10000 ^ len b := Nat.pow_pos (by decide)
  calc a * b ≤ a * 10000 ^ len b := Nat.mul_le_mul_left _ (by omega)
    _ < 10000 ^ len a * 10000 ^ len b := Nat.mul_lt_mul_of_pos_right h1 h0
theorem val_len (l : List Int) : len (val l) ≤ l.length := len_le (val_lt l)
theorem lm_length (n : Nat) : (lm n).length = len n := rfl
theorem lt_of_len_lt {a b : Nat} (h : len a < len b) : a < b := by
  have hb : b ≠ 0 := by
    rintro rfl
    rw [len_zero] at h
    omega
  have h1 := lt_pow_len a
  have h2 := pow_le_len hb
  have h3 : 10000 ^ len a ≤ 10000 ^ (len b - 1) := Nat.pow_le_pow_right (by decide) (by omega)
  omega

theorem rd_nat (l : List Int) (i : Nat) : rd l (i : Int) = l.getD i 0 := by simp [rd]
theorem take_succ_rd (l : List Int) (i : Nat) (h : i < l.length) : l.take (i + 1) = l.take i ++ [rd l i] := by
  rw [List.take_succ_eq_append_getElem h, rd_nat, List.getD_eq_getElem?_getD, List.getElem?_eq_getElem h]
  rfl
theorem drop_rd (l : List Int) (i : Nat) (h : i < l.length) : l.drop i = rd l i :: l.drop (i + 1) := by
  rw [rd_nat, List.getD_eq_getElem?_getD, List.getElem?_eq_getElem h]
  exact List.drop_eq_getElem_cons h
theorem val_take_succ (l : List Int) (i : Nat) (h : i < l.length) : val (l.take (i + 1)) = val (l.take i) + 10000 ^ i * (rd l i % 10000).toNat := by
  rw [take_succ_rd l i h, val_snoc, List.length_take, Nat.min_eq_left (Nat.le_of_lt h)]
theorem val_drop (l : List Int) (i : Nat) (h : i < l.length) : val (l.drop i) = (rd l i % 10000).toNat + 10000 * val (l.drop (i + 1)) := by
  rw [drop_rd l i h, val_cons]
theorem fill (done : List Int) (d : Nat) (v : Int) : (done ++ List.replicate (d + 1) (0 : Int)).set done.length v = done ++ [v] ++ List.replicate d 0 := by
  rw [List.set_append_right _ _ (Nat.le_refl _), Nat.sub_self, List.replicate_succ]
  simp
theorem fillr (done : List Int) (d : Nat) (v : Int) : (List.replicate (d + 1) (0 : Int) ++ done).set d v = List.replicate d 0 ++ v :: done := by
  rw [List.replicate_succ', List.append_assoc, List.set_append_right _ _ (by simp)]
  simp


theorem split_at (l : List Int) (i : Nat) : val l = val (l.take i) + 10000 ^ (l.take i).length * val (l.drop i) := by
  conv => lhs; rw [← List.take_append_drop i l]
  exact val_append _ _
theorem less_of_drop {a b : List Int} {i : Nat} (hl : a.length = b.length) (hi : i ≤ a.length) (h : val (a.drop i) < val (b.drop i)) : val a < val b := by
  rw [split_at a i, split_at b i, List.length_take, List.length_take, ← hl, Nat.min_eq_left hi]
  have h1 := val_lt (a.take i)
  rw [List.length_take, Nat.min_eq_left hi] at h1
  have h2 : 10000 ^ i * (val (a.drop i) + 1) ≤ 10000 ^ i * val (b.drop i) := Nat.mul_le_mul_left _ h
  rw [Nat.mul_add] at h2
  omega
theorem val_take_rd (l : List Int) (hl : Ok l) (i : Nat) : (val (l.take (i + 1)) : Int) = val (l.take i) + 10000 ^ i * rd l i := by
  by_cases h : i < l.length
  · have r := rd_ok hl (i : Int)
    have := val_take_succ l i h
    rw [Int.emod_eq_of_lt r.1 r.2] at this
    rw [this]
    have e : ((rd l (i : Int)).toNat : Int) = rd l i := by omega
    rw [Int.natCast_add, Int.natCast_mul, e, Int.natCast_pow]
    rfl
  · rw [List.take_of_length_le (by omega), List.take_of_length_le (by omega), rd_beyond l i (by omega)]
    simp
theorem val_snoc_int (l : List Int) (x : Int) (hx : 0 ≤ x ∧ x < 10000) : (val (l ++ [x]) : Int) = val l + 10000 ^ l.length * x := by
  rw [val_snoc, Int.emod_eq_of_lt hx.1 hx.2]
  have e : (x.toNat : Int) = x := by omega
  rw [Int.natCast_add, Int.natCast_mul, e, Int.natCast_pow]
  rfl

theorem val_append_int (a b : List Int) : (val (a ++ b) : Int) = val a + 10000 ^ a.length * val b := by
  rw [val_append, Int.natCast_add, Int.natCast_mul, Int.natCast_pow]
  rfl
theorem ar1 (p vD c vM x vB m b y z : Int) (hv : vD + p * c = vM + x * vB) (hx : 10000 * z + y = c + m + x * b) :
    vD + p * y + p * 10000 * z = vM + p * m + x * (vB + p * b) := by grind

end Go.DI.Th.D
namespace Go.DI.Th.D
open Go Go.RowKit Go.DI

def lo : Nat → Nat → List Int
  | 0, _ => []
  | i + 1, n => lo i n ++ [((n / 10000 ^ i % 10000 : Nat) : Int)]
theorem lo_length : ∀ i n, (lo i n).length = i
  | 0, _ => rfl
  | i + 1, n => by rw [lo, List.length_append, lo_length i]; rfl
theorem lo_cons : ∀ i n, lo (i + 1) n = ((n % 10000 : Nat) : Int) :: lo i (n / 10000)
  | 0, n => by rw [lo, lo, lo, Nat.pow_zero, Nat.div_one]; rfl
  | i + 1, n => by
    rw [lo, lo_cons i, lo, Nat.pow_succ, Nat.mul_comm, ← Nat.div_div_eq_div_mul]
    rfl
theorem lo_lm : ∀ i n, n / 10000 ^ i = 0 → (∀ j, j < i → n / 10000 ^ j ≠ 0) → lo i n = lm n
  | 0, n, h, _ => by
    rw [Nat.pow_zero, Nat.div_one] at h
    rw [h, lm_zero]; rfl
  | i + 1, n, h, hj => by
    have h0 : n ≠ 0 := by have := hj 0 (by omega); rwa [Nat.pow_zero, Nat.div_one] at this
    rw [lo_cons, lm_pos h0, lo_lm i (n / 10000)]
    · rw [Nat.div_div_eq_div_mul, Nat.mul_comm, ← Nat.pow_succ]; exact h
    · intro j hji
      rw [Nat.div_div_eq_div_mul, Nat.mul_comm, ← Nat.pow_succ]
      exact hj (j + 1) (by omega)
theorem lo_of_len (n : Nat) : lo (len n) n = lm n := by
  apply lo_lm
  · exact Nat.div_eq_of_lt (lt_pow_len n)
  · intro j hj h
    have := Nat.div_lt_iff_lt_mul (k := 10000 ^ j) (x := n) (y := 1) (Nat.pow_pos (by decide))
    have h2 : n < 10000 ^ j := by
      have h3 := this.1 (by omega)
      omega
    have := len_le h2
    omega
theorem div_pow_zero {n i : Nat} (h : n / 10000 ^ i = 0) : len n ≤ i := by
  have := (Nat.div_lt_iff_lt_mul (k := 10000 ^ i) (x := n) (y := 1) (Nat.pow_pos (by decide))).1 (by omega)
  exact len_le (by omega)
theorem div_pow_ne {n i : Nat} (h : i < len n) : n / 10000 ^ i ≠ 0 := fun e => by have := div_pow_zero e; omega
theorem tdiv_nat (a b : Nat) : Int.tdiv (a : Int) (b : Int) = ((a / b : Nat) : Int) := rfl
theorem tmod_nat (a b : Nat) : Int.tmod (a : Int) (b : Int) = ((a % b : Nat) : Int) := rfl
theorem small_loop (n : Nat) (hn : n ≤ 9223372036854775807) : ∀ (d i : Nat), i + d = len n → Ev (fun k => dendronref01_Small.l0 k ((n / 10000 ^ i : Nat) : Int) (lo i n)) (lm n) := by
  have hl : len n ≤ 1000 := by
    refine Nat.le_trans (len_le (k := 5) ?_) (by decide)
    omega
  intro d
  induction d with
  | zero =>
    intro i hi
    obtain rfl : i = len n := by omega
    have h0 : n / 10000 ^ len n = 0 := Nat.div_eq_of_lt (lt_pow_len n)
    refine Ev.step (fun k => ?_) (Ev.now _)
    rw [dendronref01_Small.l0, h0, if_neg (by decide), lo_of_len]
  | succ d ih =>
    intro i hi
    have hne := div_pow_ne (show i < len n by omega)
    have hle : n / 10000 ^ i ≤ n := Nat.div_le_self _ _
    have e1 : n / 10000 ^ i / 10000 = n / 10000 ^ (i + 1) := by rw [Nat.div_div_eq_div_mul, ← Nat.pow_succ]
    have e2 : wrap64 (((n / 10000 ^ (i + 1) : Nat)) : Int) = ((n / 10000 ^ (i + 1) : Nat) : Int) := by
      have : n / 10000 ^ (i + 1) ≤ n := Nat.div_le_self _ _
      generalize n / 10000 ^ (i + 1) = z at this ⊢
      rw [wrap_id (by omega) (by omega)]
    refine Ev.step (fun k => ?_) (ih (i + 1) (by omega))
    rw [dendronref01_Small.l0, if_pos (by generalize n / 10000 ^ i = z at hne ⊢; omega), if_pos (by rw [lo_length]; omega), show (10000 : Int) = ((10000 : Nat) : Int) from rfl, tdiv_nat, tmod_nat, e1, e2]
    rfl
theorem small_ev (n : Nat) (hn : n ≤ 9223372036854775807) : Ev (fun k => dendronref01_Small.f k (n : Int)) (lm n) := by
  have := small_loop n hn (len n) 0 (by omega)
  rwa [Nat.pow_zero, Nat.div_one] at this

theorem trim_from (l : List Int) (hl : Ok l) (hn : l.length ≤ 9223372036854775807) : ∀ n : Nat, n ≤ l.length → val l = val (l.take n) → Ev (fun k => dendronref01_Trim.l0 k l (n : Int)) (lm (val l)) := by
  intro n
  induction n with
  | zero =>
    intro _ hv
    refine Ev.step (fun k => ?_) (Ev.now _)
    simp only [dendronref01_Trim.l0]
    rw [if_neg (by omega), if_pos (by omega), if_pos (by omega), hv]
    simp [val, lm_zero]
  | succ m ih =>
    intro hm hv
    have e : wrap64 (((m + 1 : Nat) : Int) - 1) = (m : Int) := by rw [wrap_id (by omega) (by omega)]; omega
    have hr := rd_ok hl (m : Int)
    by_cases h0 : rd l (m : Int) = 0
    · refine Ev.step (fun k => ?_) (ih (by omega) ?_)
      · simp only [dendronref01_Trim.l0]
        rw [if_pos (by omega), e, if_pos (by omega), if_pos (by omega), if_pos h0]
      · rw [hv, val_take_succ l m (by omega), h0]
        simp
    · refine Ev.step (fun k => ?_) (Ev.now _)
      simp only [dendronref01_Trim.l0]
      rw [if_pos (by omega), e, if_pos (by omega), if_pos (by omega), if_neg h0, if_pos (by omega), if_pos (by omega)]
      have e2 : (((m + 1 : Nat) : Int)).toNat = m + 1 := by omega
      rw [e2, hv, lm_val (hl.take (m + 1))]
      intro x hx
      rw [take_succ_rd l m (by omega), List.getLast?_concat] at hx
      cases hx
      exact h0
theorem trim_ev (l : List Int) (hl : Ok l) (hn : l.length ≤ 9223372036854775807) : Ev (fun k => dendronref01_Trim.f k l) (lm (val l)) :=
  trim_from l hl hn l.length (Nat.le_refl _) (by rw [List.take_length])
theorem order_loop (a b : List Int) (ha : Ok a) (hb : Ok b) (hl : a.length = b.length) (hn : a.length ≤ 9223372036854775807) : ∀ n : Nat, n ≤ a.length → val (a.drop n) = val (b.drop n) →
    Ev (fun k => dendronref01_Order.l0 k a b ((n : Int) - 1)) (cmp (val a) (val b)) := by
  intro n
  induction n with
  | zero =>
    intro _ hv
    refine Ev.step (fun k => ?_) (Ev.now _)
    simp only [dendronref01_Order.l0]
    simp only [List.drop_zero] at hv
    rw [if_neg (by omega)]
    unfold cmp
    rw [if_neg (by omega), if_neg (by omega)]
  | succ m ih =>
    intro hm hv
    have e : ((m + 1 : Nat) : Int) - 1 = (m : Int) := by omega
    have ra := rd_ok ha (m : Int)
    have rb := rd_ok hb (m : Int)
    have da := val_drop a m (by omega)
    have db := val_drop b m (by omega)
    rw [Int.emod_eq_of_lt ra.1 ra.2] at da
    rw [Int.emod_eq_of_lt rb.1 rb.2] at db
    by_cases h1 : rd a (m : Int) < rd b (m : Int)
    · refine Ev.step (fun k => ?_) (Ev.now _)
      simp only [dendronref01_Order.l0]
      rw [e, if_pos (by omega), if_pos (by omega), if_pos (by omega), if_pos h1]
      unfold cmp
      rw [if_pos (less_of_drop hl (i := m) (by omega) (by omega))]
    · by_cases h2 : rd a (m : Int) > rd b (m : Int)
      · refine Ev.step (fun k => ?_) (Ev.now _)
        simp only [dendronref01_Order.l0]
        rw [e, if_pos (by omega), if_pos (by omega), if_pos (by omega), if_neg h1, if_pos h2]
        have := less_of_drop hl.symm (i := m) (by omega) (by omega)
        unfold cmp
        rw [if_neg (by omega), if_pos this]
      · refine Ev.step (fun k => ?_) (ih (by omega) (by omega))
        simp only [dendronref01_Order.l0]
        rw [e, if_pos (by omega), if_pos (by omega), if_pos (by omega), if_neg h1, if_neg h2, wrap_id (by omega) (by omega)]
theorem order_ev (a b : Nat) (ha : len a ≤ 35184372088832) : Ev (fun k => dendronref01_Order.f k (lm a) (lm b)) (cmp a b) := by
  unfold dendronref01_Order.f
  rw [lm_length, lm_length]
  by_cases h1 : len a = len b
  · have h := order_loop (lm a) (lm b) (lm_ok a) (lm_ok b) (by rw [lm_length, lm_length, h1]) (by rw [lm_length]; omega) (len a) (by rw [lm_length]; exact Nat.le_refl _) (by rw [List.drop_of_length_le (by rw [lm_length]; exact Nat.le_refl _), List.drop_of_length_le (by rw [lm_length, h1]; exact Nat.le_refl _)])
    rw [val_lm, val_lm] at h
    refine Ev.if_neg (by omega) ?_
    rw [wrap_id (by omega) (by omega)]
    exact h
  · refine Ev.if_pos (by omega) ?_
    by_cases h2 : len a < len b
    · refine (Ev.if_pos (by omega) (Ev.now (-1))).of_eq ?_
      unfold cmp
      rw [if_pos (lt_of_len_lt h2)]
    · have h3 := lt_of_len_lt (show len b < len a by omega)
      refine (Ev.if_neg (by omega) (Ev.now 1)).of_eq ?_
      unfold cmp
      rw [if_neg (by omega), if_pos h3]

theorem digit_eq (l : List Int) (i : Nat) : dendronref01_digit.f l (i : Int) = some (rd l (i : Int)) := by
  unfold dendronref01_digit.f
  by_cases h : (i : Int) < (l.length : Int)
  · rw [if_pos h, if_pos (nn0 _)]
  · rw [if_neg h]
    unfold rd
    rw [List.getD_eq_getElem?_getD, List.getElem?_eq_none (by omega)]
    rfl
theorem rd_lm (n i : Nat) : rd (lm n) (i : Int) = ((n / 10000 ^ i % 10000 : Nat) : Int) := by
  induction i generalizing n with
  | zero =>
    rw [Nat.pow_zero, Nat.div_one]
    by_cases h : n = 0
    · subst h; rw [lm_zero]; rfl
    · rw [lm_pos h]; rfl
  | succ i ih =>
    by_cases h : n = 0
    · subst h; rw [lm_zero, Nat.zero_div]; rfl
    · have := ih (n / 10000)
      rw [Nat.div_div_eq_div_mul, Nat.mul_comm, ← Nat.pow_succ] at this
      rw [lm_pos h, ← this, rd_nat, rd_nat]
      rfl
def car (a b i : Nat) : Nat := (a % 10000 ^ i + b % 10000 ^ i) / 10000 ^ i
theorem car_le (a b i : Nat) : car a b i ≤ 1 := by
  have hp : 0 < 10000 ^ i := Nat.pow_pos (by decide)
  have h1 := Nat.mod_lt a hp
  have h2 := Nat.mod_lt b hp
  unfold car
  have : (a % 10000 ^ i + b % 10000 ^ i) / 10000 ^ i < 2 := by
    rw [Nat.div_lt_iff_lt_mul hp]; omega
  omega
theorem sum_div (a b i : Nat) : (a + b) / 10000 ^ i = a / 10000 ^ i + b / 10000 ^ i + car a b i := by
  have hp : 0 < 10000 ^ i := Nat.pow_pos (by decide)
  have h1 := Nat.div_add_mod a (10000 ^ i)
  have h2 := Nat.div_add_mod b (10000 ^ i)
  unfold car
  have e : a + b = (a % 10000 ^ i + b % 10000 ^ i) + 10000 ^ i * (a / 10000 ^ i + b / 10000 ^ i) := by rw [Nat.mul_add]; omega
  conv => lhs; rw [e]
  rw [Nat.add_mul_div_left _ _ hp]
  omega
theorem sum_digit (a b i : Nat) : car a b i + a / 10000 ^ i % 10000 + b / 10000 ^ i % 10000 = (a + b) / 10000 ^ i % 10000 + 10000 * car a b (i + 1) := by
  have h0 := sum_div a b i
  have h1 := sum_div a b (i + 1)
  have e : ∀ x : Nat, x / 10000 ^ (i + 1) = x / 10000 ^ i / 10000 := fun x => by rw [Nat.div_div_eq_div_mul, ← Nat.pow_succ]
  rw [e, e, e] at h1
  have c1 := car_le a b i
  have c2 := car_le a b (i + 1)
  omega
theorem plus_step (a b i : Nat) (hi2 : i ≤ 1125899906842) (k : Nat) : ((dendronref01_digit.f (lm a) (i : Int)).bind fun v17 => ((dendronref01_digit.f (lm b) (i : Int)).bind fun v21 => (if (lo i (a + b)).length < 17592186044416 then (dendronref01_Plus.l0 k (lm a) (lm b) (lo i (a + b) ++ [(Int.tmod (wrap64 ((wrap64 ((car a b i : Int) + v17)) + v21)) 10000)]) (wrap64 (Int.tdiv (wrap64 ((wrap64 ((car a b i : Int) + v17)) + v21)) 10000)) (wrap64 ((i : Int) + 1))) else none))) = dendronref01_Plus.l0 k (lm a) (lm b) (lo (i + 1) (a + b)) (car a b (i + 1) : Int) ((i + 1 : Nat) : Int) := by
  have hd := sum_digit a b i
  have c1 := car_le a b i
  have c2 := car_le a b (i + 1)
  have m1 := Nat.mod_lt (a / 10000 ^ i) (show 0 < 10000 by decide)
  have m2 := Nat.mod_lt (b / 10000 ^ i) (show 0 < 10000 by decide)
  have m3 := Nat.mod_lt ((a + b) / 10000 ^ i) (show 0 < 10000 by decide)
  rw [digit_eq, Option.bind_some, digit_eq, Option.bind_some, if_pos (by rw [lo_length]; omega), rd_lm, rd_lm, lo]
  generalize a / 10000 ^ i % 10000 = x at *
  generalize b / 10000 ^ i % 10000 = y at *
  generalize (a + b) / 10000 ^ i % 10000 = z at *
  generalize car a b i = c at *
  generalize car a b (i + 1) = c' at *
  have e1 : (z + 10000 * c') % 10000 = z := by omega
  have e2 : (z + 10000 * c') / 10000 = c' := by omega
  have e3 : wrap64 (c' : Int) = (c' : Int) := by rw [wrap_id (by omega) (by omega)]
  have w : wrap64 (wrap64 ((c : Int) + (x : Int)) + (y : Int)) = ((z + 10000 * c' : Nat) : Int) := by
    clear e3
    rw [← hd, wrap_id (i := (c : Int) + (x : Int)) (by omega) (by omega), wrap_id (by omega) (by omega)]
    omega
  rw [w, show (10000 : Int) = ((10000 : Nat) : Int) from rfl, tmod_nat, tdiv_nat, e1, e2, e3, wr_succ i (by clear w e3; omega)]
theorem plus_loop (a b : Nat) (ha : len a ≤ 1099511627776) (hb : len b ≤ 1099511627776) (hab : len (a + b) ≤ 1099511627777) : ∀ (d i : Nat), i + d = len (a + b) →
    Ev (fun k => dendronref01_Plus.l0 k (lm a) (lm b) (lo i (a + b)) (car a b i : Int) (i : Int)) (lm (a + b)) := by
  intro d
  induction d with
  | zero =>
    intro i hi
    obtain rfl : i = len (a + b) := by omega
    have h0 : (a + b) / 10000 ^ len (a + b) = 0 := Nat.div_eq_of_lt (lt_pow_len _)
    have h1 := sum_div a b (len (a + b))
    have h2 := len_mono (show a ≤ a + b by omega)
    have h3 := len_mono (show b ≤ a + b by omega)
    have h4 : car a b (len (a + b)) = 0 := by
      rw [h0] at h1
      exact (Nat.add_eq_zero_iff.1 h1.symm).2
    refine Ev.step (fun k => ?_) (Ev.now _)
    rw [dendronref01_Plus.l0, lm_length, lm_length, if_neg (by clear h1 h0; omega), if_neg (by clear h1 h0; omega), h4, if_neg (by decide), lo_of_len]
  | succ d ih =>
    intro i hi
    have hne := div_pow_ne (show i < len (a + b) by omega)
    have hs := sum_div a b i
    have hi3 : i ≤ 1125899906842 := by clear hs hne; omega
    refine Ev.step (fun k => ?_) (ih (i + 1) (by clear hs hne; omega))
    rw [dendronref01_Plus.l0, lm_length, lm_length, plus_step a b i hi3]
    by_cases h1 : (i : Int) < (len a : Int)
    · rw [if_pos h1]
    · rw [if_neg h1]
      by_cases h2 : (i : Int) < (len b : Int)
      · rw [if_pos h2]
      · rw [if_neg h2]
        have z1 : a / 10000 ^ i = 0 := Nat.div_eq_of_lt (Nat.lt_of_lt_of_le (lt_pow_len a) (Nat.pow_le_pow_right (by decide) (by clear hs hne; omega)))
        have z2 : b / 10000 ^ i = 0 := Nat.div_eq_of_lt (Nat.lt_of_lt_of_le (lt_pow_len b) (Nat.pow_le_pow_right (by decide) (by clear hs hne; omega)))
        rw [z1, z2] at hs
        have hc : car a b i ≠ 0 := by
          intro e
          rw [e] at hs
          exact hne hs
        rw [if_pos (by clear hs hne z1 z2; omega)]
theorem plus_ev (a b : Nat) (ha : len a ≤ 1099511627776) (hb : len b ≤ 1099511627776) : Ev (fun k => dendronref01_Plus.f k (lm a) (lm b)) (lm (a + b)) := by
  have h := plus_loop a b ha hb (by have := len_add a b; omega) (len (a + b)) 0 (by omega)
  have e : car a b 0 = 0 := by unfold car; rw [Nat.pow_zero, Nat.mod_one, Nat.mod_one]
  rw [e] at h
  exact h
theorem times_limb (c m x y : Int) (hc : 0 ≤ c ∧ c < 10000) (hm : 0 ≤ m ∧ m < 10000) (hx : 0 ≤ x ∧ x < 10000) (hy : 0 ≤ y ∧ y < 10000) :
    wrap64 (wrap64 (c + m) + wrap64 (x * y)) = c + m + x * y ∧ Int.tmod (c + m + x * y) 10000 = (c + m + x * y) % 10000 ∧ wrap64 (Int.tdiv (c + m + x * y) 10000) = (c + m + x * y) / 10000 ∧ 0 ≤ (c + m + x * y) / 10000 ∧ (c + m + x * y) / 10000 < 10000 := by
  have h0 : 0 ≤ x * y := Int.mul_nonneg hx.1 hy.1
  have h1 : x * y ≤ 9999 * 9999 := Int.mul_le_mul (by omega) (by omega) hy.1 (by omega)
  generalize x * y = p at h0 h1 ⊢
  have e1 : Int.tmod (c + m + p) 10000 = (c + m + p) % 10000 := Int.tmod_eq_emod_of_nonneg (by omega)
  have e2 : Int.tdiv (c + m + p) 10000 = (c + m + p) / 10000 := Int.tdiv_eq_ediv_of_nonneg (by omega)
  refine ⟨?_, e1, ?_, by omega, by omega⟩
  · clear e1 e2
    rw [wrap_id (i := c + m) (by omega) (by omega), wrap_id (i := p) (by omega) (by omega), wrap_id (by omega) (by omega)]
  · rw [e2]
    clear e1 e2
    rw [wrap_id (by omega) (by omega)]
theorem times_inner (a b : List Int) (ha : Ok a) (hb : Ok b) (hn : a.length + b.length ≤ 35184372088832) (i : Nat) (hi : i < a.length) (L mid : List Int) (hL : L.length = i) (hm : Ok mid) (hml : mid.length = b.length) (Z : List Int) (hZ : Z.length = a.length - i)
    (r : List Int)
    (cont : ∀ D c, Ok D → (0 ≤ c ∧ c < 10000) → D.length = b.length → (val D : Int) + 10000 ^ b.length * c = val mid + rd a i * val b →
      Ev (fun k => dendronref01_Times.l0 k a b ((L ++ D ++ Z).set (i + b.length) c) ((i + 1 : Nat) : Int)) r) (d : Nat) :
    ∀ (D : List Int) (c : Int), Ok D → (0 ≤ c ∧ c < 10000) → D.length + d = b.length → (val D : Int) + 10000 ^ D.length * c = val (mid.take D.length) + rd a i * val (b.take D.length) →
    Ev (fun k => dendronref01_Times.l1 k a b (L ++ D ++ mid.drop D.length ++ Z) (i : Int) c (D.length : Int)) r := by
  have ra := rd_ok ha (i : Int)
  obtain ⟨x, hx⟩ : ∃ x, rd a (i : Int) = x := ⟨_, rfl⟩
  rw [hx] at ra cont ⊢
  induction d with
  | zero =>
    intro D c hD hc hl hv
    have hl' : D.length = b.length := by omega
    have h := cont D c hD hc hl' (by
      rw [hl', List.take_of_length_le (by omega), List.take_length] at hv
      exact hv)
    refine Ev.step (fun k => ?_) h
    have hlen : (L ++ D ++ mid.drop D.length ++ Z).length = i + b.length + (a.length - i) := by simp; omega
    have w : wrap64 ((i : Int) + (b.length : Int)) = ((i + b.length : Nat) : Int) := by clear hx; rw [wrap_id (by omega) (by omega)]; omega
    rw [dendronref01_Times.l1, if_neg (by clear w hx; omega), w, if_pos (nn0 _), if_pos (by rw [hlen]; clear w hx; omega), wr_succ i (by clear w hx; omega), Int.toNat_natCast]
    rw [List.drop_of_length_le (by omega), List.append_nil]
  | succ d ih =>
    intro D c hD hc hl hv
    have rb := rd_ok hb (D.length : Int)
    have rm := rd_ok hm (D.length : Int)
    have vb := val_take_rd b hb D.length
    have vm := val_take_rd mid hm D.length
    have hdrop := drop_rd mid D.length (by omega)
    have hread : rd (L ++ D ++ mid.drop D.length ++ Z) ((i + D.length : Nat) : Int) = rd mid D.length := by
      rw [hdrop, List.append_assoc, List.cons_append]
      have := rd_at (L ++ D) (rd mid D.length) (mid.drop (D.length + 1) ++ Z)
      rw [List.length_append, hL] at this
      exact this
    have hset : ∀ y, (L ++ D ++ mid.drop D.length ++ Z).set (i + D.length) y = L ++ (D ++ [y]) ++ mid.drop (D ++ [y]).length ++ Z := by
      intro y
      rw [hdrop, List.append_assoc, List.cons_append]
      have := set_at (L ++ D) (rd mid D.length) (mid.drop (D.length + 1) ++ Z) y
      rw [List.length_append, hL] at this
      rw [this]
      simp
    have hlen : (L ++ D ++ mid.drop D.length ++ Z).length = i + b.length + (a.length - i) := by simp; omega
    have hlD : D.length < b.length := by omega
    have hbig : i + D.length ≤ 1125899906842624 := by omega
    have hbig2 : D.length ≤ 1125899906842624 := by omega
    have hl1 : D.length + 1 + d = b.length := by omega
    have c1 : ((i + D.length : Nat) : Int) < ((L ++ D ++ mid.drop D.length ++ Z).length : Int) := by
      rw [hlen]; exact Int.ofNat_lt.2 (by omega)
    obtain ⟨y, hy⟩ : ∃ y, rd b (D.length : Int) = y := ⟨_, rfl⟩
    obtain ⟨m, hmm⟩ : ∃ m, rd mid (D.length : Int) = m := ⟨_, rfl⟩
    rw [hy] at rb vb
    rw [hmm] at rm vm hread
    obtain ⟨t1, t2, t3, t4, t5⟩ := times_limb c m x y hc rm ra rb
    have hmod : 0 ≤ (c + m + x * y) % 10000 ∧ (c + m + x * y) % 10000 < 10000 := ⟨Int.emod_nonneg _ (by decide), Int.emod_lt_of_pos _ (by decide)⟩
    have w := wr_add D.length i hbig
    rw [Int.add_comm] at w
    refine Ev.step (fun k => ?_) (ih (D ++ [(c + m + x * y) % 10000]) ((c + m + x * y) / 10000) (hD.append (Ok.cons hmod Ok.nil)) ⟨t4, t5⟩ (by rw [List.length_append, List.length_singleton]; exact hl1) ?_)
    · rw [dendronref01_Times.l1, if_pos (Int.ofNat_lt.2 hlD), w, if_pos (nn0 _), if_pos c1, if_pos (nn0 _), if_pos (Int.ofNat_lt.2 hi), if_pos (nn0 _), hread, hx, hy, t1, t2, t3, Int.toNat_natCast, hset, wr_succ D.length hbig2]
      rw [List.length_append, List.length_singleton]
    · rw [List.length_append, List.length_singleton, vb, vm, val_snoc_int D _ hmod, Int.pow_succ]
      have hxx := Int.mul_ediv_add_emod (c + m + x * y) 10000
      exact ar1 _ _ _ _ _ _ _ _ _ _ hv hxx
theorem times_outer (a b : List Int) (ha : Ok a) (hb : Ok b) (hn : a.length + b.length ≤ 35184372088832) (d : Nat) : ∀ (i : Nat) (P : List Int), Ok P → i + d = a.length → P.length = i + b.length → (val P : Int) = val (a.take i) * val b →
    Ev (fun k => dendronref01_Times.l0 k a b (P ++ List.replicate d 0) (i : Int)) (lm (val a * val b)) := by
  induction d with
  | zero =>
    intro i P hP hi hl hv
    obtain rfl : i = a.length := by omega
    rw [List.take_length] at hv
    have hv' : val P = val a * val b := by
      have : ((val P : Nat) : Int) = ((val a * val b : Nat) : Int) := by rw [hv, Int.natCast_mul]
      omega
    refine Ev.step (f := fun k => (dendronref01_Trim.f k P).bind fun t => some t) (fun k => ?_) (Ev.bind ?_ (Ev.now _))
    · rw [dendronref01_Times.l0, if_neg (by omega)]
      simp
    · have := trim_ev P hP (by omega)
      rwa [hv'] at this
  | succ d ih =>
    intro i P hP hi hl hv
    have va := val_take_rd a ha i
    have hmid : Ok (P.drop i) := hP.drop i
    have hsplit := val_append_int (P.take i) (P.drop i)
    rw [List.take_append_drop, List.length_take, Nat.min_eq_left (by omega)] at hsplit
    refine Ev.step (f := fun k => dendronref01_Times.l1 k a b (P ++ List.replicate (d + 1) 0) (i : Int) 0 0) (fun k => ?_) ?_
    · rw [dendronref01_Times.l0, if_pos (by omega)]
    · have h := times_inner a b ha hb hn i (by omega) (P.take i) (P.drop i) (by rw [List.length_take]; omega) hmid (by rw [List.length_drop]; omega) (List.replicate (d + 1) 0) (by rw [List.length_replicate]; omega) (lm (val a * val b)) (by
        intro D c hD hc hDl hDv
        have hlen : (P.take i ++ D).length = i + b.length := by rw [List.length_append, List.length_take, hDl]; omega
        have := ih (i + 1) (P.take i ++ D ++ [c]) (((hP.take i).append hD).append (Ok.cons hc Ok.nil)) (by omega) (by rw [List.length_append, hlen]; simp; omega) (by
          rw [val_snoc_int _ c hc, hlen, val_append_int, List.length_take, Nat.min_eq_left (by omega), va, Int.pow_add]
          exact ar2 _ _ _ _ _ _ _ _ _ _ hsplit hv hDv)
        refine Ev.congr (fun k => ?_) this
        have hs := fill (P.take i ++ D) d c
        rw [hlen] at hs
        rw [hs]) b.length [] 0 Ok.nil (by omega) (by simp) (by simp [val])
      refine Ev.congr (fun k => ?_) h
      simp
theorem times_ev (a b : Nat) (hn : len a + len b ≤ 35184372088832) : Ev (fun k => dendronref01_Times.f k (lm a) (lm b)) (lm (a * b)) := by
  have h := times_outer (lm a) (lm b) (lm_ok a) (lm_ok b) (by rw [lm_length, lm_length]; exact hn) (lm a).length 0 (List.replicate (lm b).length 0) (Ok.zeros _) (by omega) (by simp) (by rw [val_zeros]; simp [val])
  rw [val_lm, val_lm, List.replicate_append_replicate, lm_length, lm_length] at h
  unfold dendronref01_Times.f
  rw [lm_length, lm_length, wrap_id (by omega) (by omega)]
  refine Ev.if_pos (by omega) (Ev.if_pos (by omega) ?_)
  have e : ((len a : Int) + (len b : Int)).toNat = len b + len a := by omega
  rw [e]
  exact h
end Go.DI.Th.D
namespace Go.DI.Th.D
open Go Go.RowKit Go.DI

theorem len_of_len (n : Nat) : len n ≤ 3 * Th.len n := by
  apply len_le
  have h1 := Th.lt_pow_len n
  have h2 : (4294967296 : Nat) ^ Th.len n ≤ (10000 ^ 3) ^ Th.len n := Nat.pow_le_pow_left (by decide) _
  rw [← Nat.pow_mul] at h2
  omega

theorem from_digit (l : List Int) (hl : Th.U l) (n : Nat) (hn : n < l.length) : ∃ m : Nat, m < 4294967296 ∧ Th.val (l.drop n) = Th.val (l.drop (n + 1)) * 4294967296 + m ∧ wrap64 (Go.bits .and .u64 (rd l (n : Int)) 4294967295) = (m : Int) := by
  have hr := Th.rd_U hl (n : Int)
  have hd := Th.val_drop l n hn
  have ha := Th.and_low hr.1 hr.2
  rw [ha]
  clear ha
  generalize rd l (n : Int) = x at hr hd ⊢
  generalize Th.val (l.drop n) = v at hd ⊢
  generalize Th.val (l.drop (n + 1)) = v' at hd ⊢
  refine ⟨(x % 4294967296).toNat, by omega, by omega, ?_⟩
  rw [wrap_id (by omega) (by omega)]
  omega
theorem from_step (l : List Int) (n m k : Nat) (v : List Int) (hn : n < l.length) (hl : l.length ≤ 1073741824) (he : wrap64 (Go.bits .and .u64 (rd l (n : Int)) 4294967295) = (m : Int)) :
    dendronref01_From.l0 (k + 1) l v (lm 4294967296) (((n + 1 : Nat) : Int) - 1) = (dendronref01_Times.f k v (lm 4294967296)).bind fun v4 => ((dendronref01_Small.f k (m : Int)).bind fun v11 => ((dendronref01_Plus.f k v4 v11).bind fun v12 => (dendronref01_From.l0 k l v12 (lm 4294967296) ((n : Int) - 1)))) := by
  have e0 : (((n + 1 : Nat) : Int) - 1) = (n : Int) := by clear he; omega
  have hw : wrap64 ((n : Int) - 1) = (n : Int) - 1 := by clear he e0; exact wrap_id (by omega) (by omega)
  rw [dendronref01_From.l0, e0, if_pos (nn0 _), he, hw]
  congr 1
  funext v4
  rw [if_pos (Int.ofNat_lt.2 hn)]
theorem from_loop (l : List Int) (hl : Th.U l) (hn : l.length ≤ 1073741824) : ∀ n : Nat, n ≤ l.length → Ev (fun k => dendronref01_From.l0 k l (lm (Th.val (l.drop n))) (lm 4294967296) ((n : Int) - 1)) (lm (Th.val l)) := by
  intro n
  induction n with
  | zero =>
    intro _
    refine Ev.step (fun k => ?_) (Ev.now _)
    rw [dendronref01_From.l0, if_neg (by omega), List.drop_zero]
  | succ n ih =>
    intro hln
    obtain ⟨m, hm, hv, he⟩ := from_digit l hl n (by omega)
    have hs0 := fun k => from_step l n m k (lm (Th.val (l.drop (n + 1)))) (by omega) hn he
    clear he
    have hlen : len (Th.val (l.drop (n + 1))) ≤ 3221225472 := by
      have h1 := len_of_len (Th.val (l.drop (n + 1)))
      have h2 := Th.val_len (l.drop (n + 1))
      have h3 : (l.drop (n + 1)).length ≤ l.length := by rw [List.length_drop]; omega
      omega
    have hl4 : len 4294967296 ≤ 3 := len_le (by decide)
    have hih := ih (by omega)
    rw [hv] at hih
    generalize Th.val (l.drop (n + 1)) = v at hlen hs0 hih ⊢
    have ht := times_ev v 4294967296 (by omega)
    have hlp : len (v * 4294967296) ≤ 3221225475 := Nat.le_trans (len_mul _ _) (by omega)
    have hls : len m ≤ 3 := len_le (Nat.lt_of_lt_of_le hm (by decide))
    have hs := small_ev m (by omega)
    have hp := plus_ev (v * 4294967296) m (by omega) (by omega)
    exact Ev.step hs0 (Ev.bind ht (Ev.bind hs (Ev.bind hp hih)))
theorem from_ev (l : List Int) (hl : Th.U l) (hn : l.length ≤ 1073741824) : Ev (fun k => dendronref01_From.f k l) (lm (Th.val l)) := by
  have h := from_loop l hl hn l.length (Nat.le_refl _)
  rw [List.drop_length] at h
  have e : lm (Th.val []) = [] := lm_zero
  rw [e] at h
  unfold dendronref01_From.f
  have hs := small_ev 4294967296 (by decide)
  have hw : wrap64 ((l.length : Int) - 1) = (l.length : Int) - 1 := wrap_id (by omega) (by omega)
  rw [hw]
  exact Ev.bind hs h

end Go.DI.Th.D
namespace Go.DI.Th.D
open Go Go.RowKit Go.DI

def il (z : Int) : Bool × List Int := (decide (z < 0), lm z.natAbs)
def sg (b : Bool) (n : Nat) : Int := if b then -(n : Int) else n
abbrev L (z : Int) : Nat := len z.natAbs
theorem il_one (z : Int) : (il z).1 = decide (z < 0) := rfl
theorem il_two (z : Int) : (il z).2 = lm z.natAbs := rfl
theorem L_mul (a b : Int) : L (a * b) ≤ L a + L b := by unfold L; rw [Int.natAbs_mul]; exact len_mul _ _
theorem L_nat (n : Nat) : L (n : Int) = len n := by unfold L; rw [Int.natAbs_natCast]
theorem lm_nil {n : Nat} : ((lm n).length : Int) > 0 ↔ n ≠ 0 := by
  rw [lm_length]
  have := len_eq_zero (n := n)
  omega
theorem lm_nil' {n : Nat} : ((lm n).length : Int) = 0 ↔ n = 0 := by
  rw [lm_length]
  have := len_eq_zero (n := n)
  omega
theorem make_eq (b : Bool) (n : Nat) : dendronref02_Make.f b (lm n) = some (il (sg b n)) := by
  unfold dendronref02_Make.f il sg
  by_cases hb : b = true
  · rw [if_pos hb, if_pos hb]
    have e : decide (((lm n).length : Int) > 0) = decide (-(n : Int) < 0) := by
      rw [decide_eq_decide, lm_nil]; omega
    rw [e, Int.natAbs_neg, Int.natAbs_natCast]
  · rw [if_neg hb, if_neg hb]
    have e : decide ((n : Int) < 0) = false := by simp
    rw [e, Int.natAbs_natCast]
theorem make_ev (b : Bool) (n : Nat) : Ev (fun _ => dendronref02_Make.f b (lm n)) (il (sg b n)) := Ev.congr (fun _ => make_eq b n) (Ev.now _)
theorem wfrom_ev (b : Bool) (l : List Int) (hl : Th.U l) (hn : l.length ≤ 1073741824) : Ev (fun k => dendronref02_From.f k b l) (il (wv b l)) := by
  unfold dendronref02_From.f
  exact Ev.bind (from_ev l hl hn) (Ev.bind (make_ev b _) (Ev.now _))
theorem wsmall_ev (z : Int) (h0 : -9223372036854775808 ≤ z) (h : z ≤ 9223372036854775807) : Ev (fun k => dendronref02_Small.f k z) (il z) := by
  unfold dendronref02_Small.f
  by_cases hz : z < 0
  · refine Ev.if_pos hz ?_
    obtain ⟨n, hn⟩ : ∃ n : Nat, z = -((n + 1 : Nat) : Int) := ⟨(-z - 1).toNat, by omega⟩
    have hw : wrap64 (0 - wrap64 (z + 1)) = (n : Int) := by
      rw [wrap_id (i := z + 1) (by omega) (by omega), wrap_id (by omega) (by omega)]
      omega
    rw [hw]
    clear hw
    have hl : len n ≤ 5 := len_le (by omega)
    have hl1 : len 1 ≤ 5 := len_le (by decide)
    have h1 := small_ev n (by omega)
    have h2 := small_ev 1 (by decide)
    have h3 := plus_ev n 1 (by omega) (by omega)
    have e : sg true (n + 1) = z := by rw [hn]; rfl
    have h4 := make_ev true (n + 1)
    rw [e] at h4
    exact Ev.bind h1 (Ev.bind h2 (Ev.bind h3 (Ev.bind h4 (Ev.now _))))
  · refine Ev.if_neg hz ?_
    obtain ⟨n, hn⟩ : ∃ n : Nat, z = (n : Int) := ⟨z.toNat, by omega⟩
    subst hn
    exact Ev.bind (small_ev n (by omega)) (Ev.bind (make_ev false n) (Ev.now _))
def cmpI (a b : Int) : Int := if a < b then -1 else if b < a then 1 else 0
theorem worder_ev (a b : Int) (ha : L a ≤ 35184372088832) (hb : L b ≤ 35184372088832) : Ev (fun k => dendronref02_Order.f k (il a).1 (il a).2 (il b).1 (il b).2) (cmpI a b) := by
  unfold dendronref02_Order.f
  rw [il_one, il_one, il_two, il_two]
  have o1 := order_ev a.natAbs b.natAbs ha
  have o2 := order_ev b.natAbs a.natAbs hb
  by_cases h1 : a < 0
  · rw [decide_eq_true h1]
    refine Ev.if_pos rfl ?_
    by_cases h2 : b < 0
    · rw [decide_eq_true h2]
      refine Ev.if_pos rfl (Ev.if_pos rfl (Ev.if_pos rfl ((Ev.bind o2 (Ev.now _)).of_eq ?_)))
      unfold cmp cmpI
      split <;> split <;> (try split) <;> (try split) <;> omega
    · rw [decide_eq_false h2]
      refine Ev.if_neg (by decide) ((Ev.now _).of_eq ?_)
      unfold cmpI
      rw [if_pos (by omega)]
  · rw [decide_eq_false h1]
    refine Ev.if_neg (by decide) (Ev.if_neg (by decide) ?_)
    by_cases h2 : b < 0
    · rw [decide_eq_true h2]
      refine Ev.if_pos rfl ((Ev.now _).of_eq ?_)
      unfold cmpI
      rw [if_neg (by omega), if_pos (by omega)]
    · rw [decide_eq_false h2]
      refine Ev.if_neg (by decide) (Ev.if_neg (by decide) ((Ev.bind o1 (Ev.now _)).of_eq ?_))
      unfold cmp cmpI
      split <;> split <;> (try split) <;> (try split) <;> omega
theorem sg_mul (a b : Int) : sg (!(decide (a < 0) == decide (b < 0))) (a.natAbs * b.natAbs) = a * b := by
  by_cases h1 : a < 0 <;> by_cases h2 : b < 0 <;> simp only [h1, h2, decide_true, decide_false] <;> unfold sg
  · obtain ⟨n, hn⟩ : ∃ n : Nat, a = -(n : Int) := ⟨(-a).toNat, by omega⟩
    obtain ⟨m, hm⟩ : ∃ m : Nat, b = -(m : Int) := ⟨(-b).toNat, by omega⟩
    subst hn; subst hm; simp [Int.neg_mul_neg]
  · obtain ⟨n, hn⟩ : ∃ n : Nat, a = -(n : Int) := ⟨(-a).toNat, by omega⟩
    obtain ⟨m, hm⟩ : ∃ m : Nat, b = (m : Int) := ⟨b.toNat, by omega⟩
    subst hn; subst hm; simp [Int.neg_mul]
  · obtain ⟨n, hn⟩ : ∃ n : Nat, a = (n : Int) := ⟨a.toNat, by omega⟩
    obtain ⟨m, hm⟩ : ∃ m : Nat, b = -(m : Int) := ⟨(-b).toNat, by omega⟩
    subst hn; subst hm; simp [Int.mul_neg]
  · obtain ⟨n, hn⟩ : ∃ n : Nat, a = (n : Int) := ⟨a.toNat, by omega⟩
    obtain ⟨m, hm⟩ : ∃ m : Nat, b = (m : Int) := ⟨b.toNat, by omega⟩
    subst hn; subst hm; simp
theorem wtimes_ev (a b : Int) (h : L a + L b ≤ 35184372088832) : Ev (fun k => dendronref02_Times.f k (il a).1 (il a).2 (il b).1 (il b).2) (il (a * b)) := by
  unfold dendronref02_Times.f
  have h4 := make_ev (!(decide (a < 0) == decide (b < 0))) (a.natAbs * b.natAbs)
  rw [sg_mul] at h4
  exact Ev.bind (times_ev a.natAbs b.natAbs h) (Ev.bind h4 (Ev.now _))
def fl (z : Int) (q : Nat) : Bool × List Int × List Int := ((il z).1, (il z).2, lm q)
theorem fsmall_ev (a : Int) (b : Nat) (h0 : -9223372036854775808 ≤ a ∧ a ≤ 9223372036854775807) (h : b ≤ 9223372036854775807) : Ev (fun k => dendronref03_Small.f k a (b : Int)) (fl a b) := by
  unfold dendronref03_Small.f
  exact Ev.bind (wsmall_ev a h0.1 h0.2) (Ev.bind (small_ev b h) (Ev.now _))
theorem ffrom_ev (b : Bool) (n d : List Int) (hn : Th.U n) (hd : Th.U d) (hln : n.length ≤ 1073741824) (hld : d.length ≤ 1073741824) : Ev (fun k => dendronref03_From.f k b n d) (fl (num b n d) (den d)) := by
  unfold dendronref03_From.f
  refine Ev.bind (from_ev d hd hld) ?_
  unfold num den
  by_cases h : Th.val d = 0
  · rw [if_pos h, if_pos h]
    refine Ev.if_pos (lm_nil'.2 h) ?_
    exact Ev.bind (fsmall_ev 0 1 (by decide) (by decide)) (Ev.now _)
  · rw [if_neg h, if_neg h]
    refine Ev.if_neg (fun e => h (lm_nil'.1 e)) ?_
    exact Ev.bind (wfrom_ev b n hn hln) (Ev.now _)
theorem fden_eq (b : Bool) (n : List Int) (q : Nat) : dendronref03_den.f b n (lm q) = some (il (q : Int)) := by
  unfold dendronref03_den.f
  rw [make_eq]
  rfl
theorem fden_ev (b : Bool) (n : List Int) (q : Nat) : Ev (fun _ => dendronref03_den.f b n (lm q)) (il (q : Int)) := Ev.congr (fun _ => fden_eq b n q) (Ev.now _)
theorem forder_ev (a : Int) (p : Nat) (b : Int) (q : Nat) (h1 : L a + len q ≤ 1099511627776) (h2 : L b + len p ≤ 1099511627776) :
    Ev (fun k => dendronref03_Order.f k (fl a p).1 (fl a p).2.1 (fl a p).2.2 (fl b q).1 (fl b q).2.1 (fl b q).2.2) (cmpI (a * q) (b * p)) := by
  unfold dendronref03_Order.f
  have m1 := L_mul a (q : Int)
  have m2 := L_mul b (p : Int)
  rw [L_nat] at m1 m2
  exact Ev.bind (fden_ev _ _ q) (Ev.bind (wtimes_ev a q (by rw [L_nat]; omega)) (Ev.bind (fden_ev _ _ p) (Ev.bind (wtimes_ev b p (by rw [L_nat]; omega)) (Ev.bind (worder_ev _ _ (by omega) (by omega)) (Ev.now _)))))
end Go.DI.Th.D
namespace Go.DI.Th.D
open Go Go.RowKit Go.DI

theorem len_small {m : Nat} (h : m ≤ 10000) : len m ≤ 2 := len_le (by omega)
end Go.DI.Th.D
namespace Go.DI.Th.D
open Go Go.RowKit Go.DI Go.DI.Th

def FL (x : Rat) (s : Nat) (r : Rt) : Prop := ∃ (z : Int) (q : Nat), r = fl z q ∧ q ≠ 0 ∧ mkRat z q = x ∧ L z ≤ s ∧ len q ≤ s
theorem FL.mono {x : Rat} {s s' : Nat} {r : Rt} (h : FL x s r) (hs : s ≤ s') : FL x s' r := by
  obtain ⟨z, q, h1, h2, h3, h4, h5⟩ := h
  exact ⟨z, q, h1, h2, h3, by omega, by omega⟩
theorem FL.order {x y : Rat} {a b : Nat} {r s : Rt} (h : FL x a r) (h' : FL y b s) (hb : a + b ≤ 1099511627776) : Ev (fun k => dendronref03_Order.f k r.1 r.2.1 r.2.2 s.1 s.2.1 s.2.2) (cmpQ x y) := by
  obtain ⟨z, q, rfl, q0, rfl, h4, h5⟩ := h
  obtain ⟨w, p, rfl, p0, rfl, k4, k5⟩ := h'
  rw [← cmpQ_mk z w q p q0 p0]
  exact forder_ev z q w p (by omega) (by omega)
theorem FL.from {b : Nat} {r : Rt} (h : RtB b r) (hb : b ≤ 1073741824) : ∃ t, FL (rv r) (3 * b + 3) t ∧ Ev (fun k => dendronref03_From.f k r.1 r.2.1 r.2.2) t := by
  refine ⟨_, ⟨num r.1 r.2.1 r.2.2, den r.2.2, rfl, den_pos _, rfl, ?_, ?_⟩, ffrom_ev r.1 r.2.1 r.2.2 h.1 h.2.1 (by have := h.2.2.1; omega) (by have := h.2.2.2; omega)⟩
  · have h1 := len_of_len (num r.1 r.2.1 r.2.2).natAbs
    have h2 := num_len r.1 r.2.1 r.2.2
    have h3 := h.2.2.1
    show len (num r.1 r.2.1 r.2.2).natAbs ≤ _
    omega
  · have h1 := len_of_len (den r.2.2)
    have h2 := den_len r.2.2
    have h3 := h.2.2.2
    omega
end Go.DI.Th.D
namespace Go.DI.Th
open Go Go.RowKit Go.DI
end Go.DI.Th
namespace Go.DI.Th.D
open Go Go.RowKit Go.DI Go.DI.Th
end Go.DI.Th.D
namespace Go.DI.Th
open Go Go.RowKit Go.DI

end Go.DI.Th
namespace Go.DI.Th
open Go Go.RowKit Go.DI

end Go.DI.Th
namespace Go.DI.Th
open Go Go.RowKit Go.DI

end Go.DI.Th
namespace Go.DI.Th
open Go Go.RowKit Go.DI

def vb (l : List UInt8) : Nat := l.foldl (fun a c => 10 * a + (c.toNat - 48)) 0
end Go.DI.Th
namespace Go.DI.Th
open Go Go.RowKit Go.DI

abbrev W := Int × Int × ByteArray
end Go.DI.Th
namespace Go.DI.Th
open Go Go.RowKit Go.DI

end Go.DI.Th
namespace Go.DI.Th
open Go Go.RowKit Go.DI

structure St where
  ls : List (List W)
  i : Nat
  j : Nat
  sz : Int
  err : Int
  at_ : Int
abbrev RT := List (List W) × Int × Int × Int × Int × Int
def St.t (s : St) : RT := (s.ls, (s.i : Int), (s.j : Int), s.sz, s.err, s.at_)
def St.line (s : St) : List W := s.ls.getD s.i []
structure St.Ok (s : St) : Prop where
  ne : ∀ l ∈ s.ls, l ≠ []
  il : s.i ≤ s.ls.length
  ib : s.i ≤ 1048576
  jl : s.j ≤ s.line.length
  jb : s.j ≤ 1048576
end Go.DI.Th
namespace Go.DI.Th
open Go Go.RowKit Go.DI

structure St.Good (s : St) : Prop where
  ok : s.Ok
  ll : ∀ l ∈ s.ls, l.length ≤ 4096
  lss : s.ls.length ≤ 16384
  ws : ∀ l ∈ s.ls, ∀ w ∈ l, w.2.2.size ≤ 1048576
theorem St.Good.line {s : St} (h : s.Good) : s.line.length ≤ 4096 := by
  unfold St.line
  rw [List.getD_eq_getElem?_getD]
  cases e : s.ls[s.i]? with
  | none => exact Nat.zero_le _
  | some l => exact h.ll l (List.mem_of_getElem? e)
theorem St.Good.l1 {s : St} (h : s.Good) : s.line.length ≤ 1048576 := Nat.le_trans h.line (by decide)
end Go.DI.Th
namespace Go.DI.Th
open Go Go.RowKit Go.DI

end Go.DI.Th
namespace Go.DI.Th
open Go Go.RowKit Go.DI

end Go.DI.Th
namespace Go.DI.Th
open Go Go.RowKit Go.DI

theorem plus_limb (x c : Int) (hx : 0 ≤ x ∧ x < 4294967296) (hc : 0 ≤ c ∧ c < 1000000000) :
    ∃ y z : Int, (0 ≤ y ∧ y < 4294967296) ∧ (0 ≤ z ∧ z < 1000000000) ∧ y + 4294967296 * z = c + x * 1000000000 ∧ Go.bits .and .u64 (IntKind.u64.wrap (c + (IntKind.u64.wrap (x * 1000000000)))) 4294967295 = y ∧ (IntKind.u64.wrap (c + (IntKind.u64.wrap (x * 1000000000)))) / 4294967296 = z := by
  have e : IntKind.u64.wrap (c + (IntKind.u64.wrap (x * 1000000000))) = c + x * 1000000000 := by
    simp only [w64]
    omega
  rw [e, and_low (by omega) (by omega)]
  exact ⟨_, _, ⟨Int.emod_nonneg _ (by decide), Int.emod_lt_of_pos _ (by decide)⟩, by omega, by omega, rfl, rfl⟩
theorem plus_val (p vd vt x y z c : Int) (h : vd + p * c = vt) (hs : y + 4294967296 * z = c + x * 1000000000) : vd + p * y + p * 4294967296 * z = vt + p * x * 1000000000 := by grind
theorem plus_loop (a : List Int) (ha : Ok a) (v : Nat) (N : Nat) (hN : N ≤ 35184372088832) (hla : a.length + 1 = N) (hs : val a * 1000000000 + v < 4294967296 ^ N) (d : Nat) : ∀ (done : List Int) (c : Int), Ok done → done.length + d = N → (0 ≤ c ∧ c < 1000000000) →
    val done + 4294967296 ^ done.length * c = (val (a.take done.length) : Int) * 1000000000 + v →
    Ev (fun k => nat_plus.l0 k a c (done ++ List.replicate d 0) (N : Int) (done.length : Int)) (lm (val a * 1000000000 + v)) := by
  induction d with
  | zero =>
    intro done c hd hl hc hv
    have hl' : done.length = N := by omega
    rw [List.take_of_length_le (by omega)] at hv
    have hz : val done = val a * 1000000000 + v := by
      have e : (4294967296 : Int) ^ done.length = ((4294967296 ^ done.length : Nat) : Int) := by rw [Int.natCast_pow]; rfl
      have hc0 : c = 0 := by
        apply Classical.byContradiction
        intro h0
        have h1 : (4294967296 : Int) ^ done.length * 1 ≤ 4294967296 ^ done.length * c := Int.mul_le_mul_of_nonneg_left (by omega) (by rw [e]; exact Int.natCast_nonneg _)
        rw [Int.mul_one, e, hl'] at h1
        rw [hl'] at e
        rw [hl', e] at hv
        omega
      rw [hc0] at hv
      omega
    refine Ev.step (f := fun k => (nat_trim.f k done).bind fun t => some t) (fun k => ?_) (Ev.bind ?_ (Ev.now _))
    · simp only [nat_plus.l0]
      rw [if_neg (by omega)]
      simp
    · have := trim_ev done hd (by omega)
      rwa [hz] at this
  | succ d ih =>
    intro done c hd hl hc hv
    have va := val_take_rd a ha done.length
    obtain ⟨y, nd, hy, hnd, hsum, e1, e2⟩ := plus_limb (rd a (done.length : Int)) c (rd_ok ha _) hc
    refine Ev.step (fun k => ?_) (ih (done ++ [y]) nd (hd.append (Ok.cons hy Ok.nil)) (by simp; omega) hnd ?_)
    · simp only [nat_plus.l0]
      rw [if_pos (by omega), limb_eq a _ (by omega)]
      simp only [Option.bind_some]
      rw [if_pos (by omega), if_pos (by simp; omega), e1, e2, wrap_id (by omega) (by omega), show ((done.length : Int)).toNat = done.length by omega, fill]
      simp
    · rw [List.length_append, List.length_singleton, va, val_snoc_int done y hy, Int.pow_succ]
      have := plus_val (4294967296 ^ done.length) (val done) _ (rd a (done.length : Int)) y nd c hv hsum
      rw [this, Int.add_mul]
      omega
end Go.DI.Th
namespace Go.DI.Th
open Go Go.RowKit Go.DI

end Go.DI.Th
namespace Go.DI.Th
open Go Go.RowKit Go.DI

end Go.DI.Th
namespace Go.DI.Th
open Go Go.RowKit Go.DI

end Go.DI.Th
namespace Go.DI.Th
open Go Go.RowKit Go.DI
def Le {α : Type} (a b : Option α) : Prop := ∀ r, a = some r → b = some r
theorem Le.refl {α : Type} (a : Option α) : Le a a := fun _ h => h
theorem Le.none {α : Type} (b : Option α) : Le none b := fun _ h => by cases h
theorem Le.eqs {α : Type} {a b c d : Option α} (h : a = c) (h' : b = d) (k : Le c d) : Le a b := by subst h; subst h'; exact k
theorem Le.bind {α β : Type} {a b : Option α} {f g : α → Option β} (h : Le a b) (k : ∀ v, Le (f v) (g v)) : Le (a.bind f) (b.bind g) := by
  intro r hr
  cases ha : a with
  | none => rw [ha] at hr; cases hr
  | some v =>
    rw [ha] at hr
    rw [h v ha]
    exact k v r hr
theorem Le.ite {α : Type} {c : Prop} [Decidable c] {a b a' b' : Option α} (h : Le a a') (k : Le b b') : Le (if c then a else b) (if c then a' else b') := by
  split
  · exact h
  · exact k
theorem Ev.mono {α : Type} {g : Nat → Option α} (h : ∀ k, Le (g k) (g (k + 1))) {K : Nat} {r : α} (hk : g K = some r) : Ev g r := by
  refine ⟨K, fun n hn => ?_⟩
  induction hn with
  | refl => exact hk
  | step _ ih => exact h _ r ih
theorem nat_trim.monoL (k : Nat) : (∀ x0 x1, Le (nat_trim.l0 k x0 x1) (nat_trim.l0 (k + 1) x0 x1)) := by
  induction k with
  | zero => exact fun _ _ => Le.none _
  | succ k ih =>
    intro x0 x1
    refine Le.eqs (nat_trim.l0.eq_2 ..) (nat_trim.l0.eq_2 ..) ?_
    repeat' (first
      | with_reducible exact Le.refl _
      | with_reducible refine Le.ite ?_ ?_
      | with_reducible exact ih _ _
      | with_reducible refine Le.bind (ih _ _) (fun _ => ?_)
      | with_reducible refine Le.bind (Le.refl _) (fun _ => ?_)
      | split)
theorem nat_trim.mono (k : Nat) : ∀ x0, Le (nat_trim.f k x0) (nat_trim.f (k + 1) x0) := by
  intro x0
  unfold nat_trim.f
  repeat' (first
    | with_reducible exact Le.refl _
    | with_reducible refine Le.ite ?_ ?_
    | with_reducible exact (nat_trim.monoL k) _ _
    | with_reducible refine Le.bind (Le.refl _) (fun _ => ?_)
    | split)
theorem nat_Clean.monoL (k : Nat) : (∀ x0 x1 x2 x3, Le (nat_Clean.l0 k x0 x1 x2 x3) (nat_Clean.l0 (k + 1) x0 x1 x2 x3)) := by
  induction k with
  | zero => exact fun _ _ _ _ => Le.none _
  | succ k ih =>
    intro x0 x1 x2 x3
    refine Le.eqs (nat_Clean.l0.eq_2 ..) (nat_Clean.l0.eq_2 ..) ?_
    repeat' (first
      | with_reducible exact Le.refl _
      | with_reducible refine Le.ite ?_ ?_
      | with_reducible exact ih _ _ _ _
      | with_reducible refine Le.bind (ih _ _ _ _) (fun _ => ?_)
      | with_reducible refine Le.bind (nat_trim.mono k _) (fun _ => ?_)
      | with_reducible exact nat_trim.mono k _
      | with_reducible refine Le.bind (Le.refl _) (fun _ => ?_)
      | split)
theorem nat_Clean.mono (k : Nat) : ∀ x0, Le (nat_Clean.f k x0) (nat_Clean.f (k + 1) x0) := by
  intro x0
  unfold nat_Clean.f
  repeat' (first
    | with_reducible exact Le.refl _
    | with_reducible refine Le.ite ?_ ?_
    | with_reducible exact (nat_Clean.monoL k) _ _ _ _
    | with_reducible refine Le.bind (Le.refl _) (fun _ => ?_)
    | split)
theorem whole_Clean.mono (k : Nat) : ∀ x0 x1, Le (whole_Clean.f k x0 x1) (whole_Clean.f (k + 1) x0 x1) := by
  intro x0 x1
  unfold whole_Clean.f
  repeat' (first
    | with_reducible exact Le.refl _
    | with_reducible refine Le.ite ?_ ?_
    | with_reducible refine Le.bind (nat_Clean.mono k _) (fun _ => ?_)
    | with_reducible exact nat_Clean.mono k _
    | with_reducible refine Le.bind (Le.refl _) (fun _ => ?_)
    | split)
theorem whole_Neg.mono (k : Nat) : ∀ x0 x1, Le (whole_Neg.f k x0 x1) (whole_Neg.f (k + 1) x0 x1) := by
  intro x0 x1
  unfold whole_Neg.f
  repeat' (first
    | with_reducible exact Le.refl _
    | with_reducible refine Le.ite ?_ ?_
    | with_reducible refine Le.bind (whole_Clean.mono k _ _) (fun _ => ?_)
    | with_reducible exact whole_Clean.mono k _ _
    | with_reducible refine Le.bind (Le.refl _) (fun _ => ?_)
    | split)
theorem nat_Of.mono (k : Nat) : ∀ x0, Le (nat_Of.f k x0) (nat_Of.f (k + 1) x0) := by
  intro x0
  unfold nat_Of.f
  repeat' (first
    | with_reducible exact Le.refl _
    | with_reducible refine Le.ite ?_ ?_
    | with_reducible refine Le.bind (nat_trim.mono k _) (fun _ => ?_)
    | with_reducible exact nat_trim.mono k _
    | with_reducible refine Le.bind (Le.refl _) (fun _ => ?_)
    | split)
theorem nat_order.monoL (k : Nat) : (∀ x0 x1 x2, Le (nat_order.l0 k x0 x1 x2) (nat_order.l0 (k + 1) x0 x1 x2)) := by
  induction k with
  | zero => exact fun _ _ _ => Le.none _
  | succ k ih =>
    intro x0 x1 x2
    refine Le.eqs (nat_order.l0.eq_2 ..) (nat_order.l0.eq_2 ..) ?_
    repeat' (first
      | with_reducible exact Le.refl _
      | with_reducible refine Le.ite ?_ ?_
      | with_reducible exact ih _ _ _
      | with_reducible refine Le.bind (ih _ _ _) (fun _ => ?_)
      | with_reducible refine Le.bind (Le.refl _) (fun _ => ?_)
      | split)
theorem nat_order.mono (k : Nat) : ∀ x0 x1, Le (nat_order.f k x0 x1) (nat_order.f (k + 1) x0 x1) := by
  intro x0 x1
  unfold nat_order.f
  repeat' (first
    | with_reducible exact Le.refl _
    | with_reducible refine Le.ite ?_ ?_
    | with_reducible exact (nat_order.monoL k) _ _ _
    | with_reducible refine Le.bind (Le.refl _) (fun _ => ?_)
    | split)
theorem nat_To.mono (k : Nat) : ∀ x0, Le (nat_To.f k x0) (nat_To.f (k + 1) x0) := by
  intro x0
  unfold nat_To.f
  repeat' (first
    | with_reducible exact Le.refl _
    | with_reducible refine Le.ite ?_ ?_
    | with_reducible refine Le.bind (nat_Clean.mono k _) (fun _ => ?_)
    | with_reducible exact nat_Clean.mono k _
    | with_reducible refine Le.bind (Le.refl _) (fun _ => ?_)
    | split)
theorem nat_euclid.monoL (k : Nat) : (∀ x0 x1, Le (nat_euclid.l0 k x0 x1) (nat_euclid.l0 (k + 1) x0 x1)) := by
  induction k with
  | zero => exact fun _ _ => Le.none _
  | succ k ih =>
    intro x0 x1
    refine Le.eqs (nat_euclid.l0.eq_2 ..) (nat_euclid.l0.eq_2 ..) ?_
    repeat' (first
      | with_reducible exact Le.refl _
      | with_reducible refine Le.ite ?_ ?_
      | with_reducible exact ih _ _
      | with_reducible refine Le.bind (ih _ _) (fun _ => ?_)
      | with_reducible refine Le.bind (nat_Of.mono k _) (fun _ => ?_)
      | with_reducible exact nat_Of.mono k _
      | with_reducible refine Le.bind (Le.refl _) (fun _ => ?_)
      | split)
theorem nat_euclid.mono (k : Nat) : ∀ x0 x1, Le (nat_euclid.f k x0 x1) (nat_euclid.f (k + 1) x0 x1) := by
  intro x0 x1
  unfold nat_euclid.f
  repeat' (first
    | with_reducible exact Le.refl _
    | with_reducible refine Le.ite ?_ ?_
    | with_reducible exact (nat_euclid.monoL k) _ _
    | with_reducible refine Le.bind (nat_To.mono k _) (fun _ => ?_)
    | with_reducible exact nat_To.mono k _
    | with_reducible refine Le.bind (Le.refl _) (fun _ => ?_)
    | split)
theorem nat_zeros.monoL (k : Nat) : (∀ x0 x1 x2 x3, Le (nat_zeros.l0 k x0 x1 x2 x3) (nat_zeros.l0 (k + 1) x0 x1 x2 x3)) := by
  induction k with
  | zero => exact fun _ _ _ _ => Le.none _
  | succ k ih =>
    intro x0 x1 x2 x3
    refine Le.eqs (nat_zeros.l0.eq_2 ..) (nat_zeros.l0.eq_2 ..) ?_
    repeat' (first
      | with_reducible exact Le.refl _
      | with_reducible refine Le.ite ?_ ?_
      | with_reducible exact ih _ _ _ _
      | with_reducible refine Le.bind (ih _ _ _ _) (fun _ => ?_)
      | with_reducible refine Le.bind (Le.refl _) (fun _ => ?_)
      | split)
theorem nat_zeros.mono (k : Nat) : ∀ x0, Le (nat_zeros.f k x0) (nat_zeros.f (k + 1) x0) := by
  intro x0
  unfold nat_zeros.f
  repeat' (first
    | with_reducible exact Le.refl _
    | with_reducible refine Le.ite ?_ ?_
    | with_reducible exact (nat_zeros.monoL k) _ _ _ _
    | with_reducible refine Le.bind (Le.refl _) (fun _ => ?_)
    | split)
theorem nat_shr.monoL (k : Nat) : (∀ x0 x1 x2 x3 x4 x5, Le (nat_shr.l0 k x0 x1 x2 x3 x4 x5) (nat_shr.l0 (k + 1) x0 x1 x2 x3 x4 x5)) := by
  induction k with
  | zero => exact fun _ _ _ _ _ _ => Le.none _
  | succ k ih =>
    intro x0 x1 x2 x3 x4 x5
    refine Le.eqs (nat_shr.l0.eq_2 ..) (nat_shr.l0.eq_2 ..) ?_
    repeat' (first
      | with_reducible exact Le.refl _
      | with_reducible refine Le.ite ?_ ?_
      | with_reducible exact ih _ _ _ _ _ _
      | with_reducible refine Le.bind (ih _ _ _ _ _ _) (fun _ => ?_)
      | with_reducible refine Le.bind (nat_trim.mono k _) (fun _ => ?_)
      | with_reducible exact nat_trim.mono k _
      | with_reducible refine Le.bind (Le.refl _) (fun _ => ?_)
      | split)
theorem nat_shr.mono (k : Nat) : ∀ x0 x1, Le (nat_shr.f k x0 x1) (nat_shr.f (k + 1) x0 x1) := by
  intro x0 x1
  unfold nat_shr.f
  repeat' (first
    | with_reducible exact Le.refl _
    | with_reducible refine Le.ite ?_ ?_
    | with_reducible exact (nat_shr.monoL k) _ _ _ _ _ _
    | with_reducible refine Le.bind (Le.refl _) (fun _ => ?_)
    | split)
theorem nat_trimM.monoL (k : Nat) : (∀ x0 x1, Le (nat_trimM.l0 k x0 x1) (nat_trimM.l0 (k + 1) x0 x1)) := by
  induction k with
  | zero => exact fun _ _ => Le.none _
  | succ k ih =>
    intro x0 x1
    refine Le.eqs (nat_trimM.l0.eq_2 ..) (nat_trimM.l0.eq_2 ..) ?_
    repeat' (first
      | with_reducible exact Le.refl _
      | with_reducible refine Le.ite ?_ ?_
      | with_reducible exact ih _ _
      | with_reducible refine Le.bind (ih _ _) (fun _ => ?_)
      | with_reducible refine Le.bind (Le.refl _) (fun _ => ?_)
      | split)
theorem nat_trimM.mono (k : Nat) : ∀ x0, Le (nat_trimM.f k x0) (nat_trimM.f (k + 1) x0) := by
  intro x0
  unfold nat_trimM.f
  repeat' (first
    | with_reducible exact Le.refl _
    | with_reducible refine Le.ite ?_ ?_
    | with_reducible exact (nat_trimM.monoL k) _ _
    | with_reducible refine Le.bind (Le.refl _) (fun _ => ?_)
    | split)
theorem nat_shl.monoL (k : Nat) : (∀ x0 x1 x2 x3 x4 x5, Le (nat_shl.l0 k x0 x1 x2 x3 x4 x5) (nat_shl.l0 (k + 1) x0 x1 x2 x3 x4 x5)) := by
  induction k with
  | zero => exact fun _ _ _ _ _ _ => Le.none _
  | succ k ih =>
    intro x0 x1 x2 x3 x4 x5
    refine Le.eqs (nat_shl.l0.eq_2 ..) (nat_shl.l0.eq_2 ..) ?_
    repeat' (first
      | with_reducible exact Le.refl _
      | with_reducible refine Le.ite ?_ ?_
      | with_reducible exact ih _ _ _ _ _ _
      | with_reducible refine Le.bind (ih _ _ _ _ _ _) (fun _ => ?_)
      | with_reducible refine Le.bind (nat_trimM.mono k _) (fun _ => ?_)
      | with_reducible exact nat_trimM.mono k _
      | with_reducible refine Le.bind (Le.refl _) (fun _ => ?_)
      | split)
theorem nat_shl.mono (k : Nat) : ∀ x0 x1, Le (nat_shl.f k x0 x1) (nat_shl.f (k + 1) x0 x1) := by
  intro x0 x1
  unfold nat_shl.f
  repeat' (first
    | with_reducible exact Le.refl _
    | with_reducible refine Le.ite ?_ ?_
    | with_reducible exact (nat_shl.monoL k) _ _ _ _ _ _
    | with_reducible refine Le.bind (Le.refl _) (fun _ => ?_)
    | split)
theorem nat_small.monoL (k : Nat) : (∀ x0 x1 x2 x3 x4, Le (nat_small.l0 k x0 x1 x2 x3 x4) (nat_small.l0 (k + 1) x0 x1 x2 x3 x4)) := by
  induction k with
  | zero => exact fun _ _ _ _ _ => Le.none _
  | succ k ih =>
    intro x0 x1 x2 x3 x4
    refine Le.eqs (nat_small.l0.eq_2 ..) (nat_small.l0.eq_2 ..) ?_
    repeat' (first
      | with_reducible exact Le.refl _
      | with_reducible refine Le.ite ?_ ?_
      | with_reducible exact ih _ _ _ _ _
      | with_reducible refine Le.bind (ih _ _ _ _ _) (fun _ => ?_)
      | with_reducible refine Le.bind (nat_trim.mono k _) (fun _ => ?_)
      | with_reducible exact nat_trim.mono k _
      | with_reducible refine Le.bind (Le.refl _) (fun _ => ?_)
      | split)
theorem nat_small.mono (k : Nat) : ∀ x0 x1, Le (nat_small.f k x0 x1) (nat_small.f (k + 1) x0 x1) := by
  intro x0 x1
  unfold nat_small.f
  repeat' (first
    | with_reducible exact Le.refl _
    | with_reducible refine Le.ite ?_ ?_
    | with_reducible exact (nat_small.monoL k) _ _ _ _ _
    | with_reducible refine Le.bind (Le.refl _) (fun _ => ?_)
    | split)
theorem nat_take.monoL (k : Nat) : (∀ x0 x1 x2 x3 x4 x5 x6, Le (nat_take.l0 k x0 x1 x2 x3 x4 x5 x6) (nat_take.l0 (k + 1) x0 x1 x2 x3 x4 x5 x6)) := by
  induction k with
  | zero => exact fun _ _ _ _ _ _ _ => Le.none _
  | succ k ih =>
    intro x0 x1 x2 x3 x4 x5 x6
    refine Le.eqs (nat_take.l0.eq_2 ..) (nat_take.l0.eq_2 ..) ?_
    repeat' (first
      | with_reducible exact Le.refl _
      | with_reducible refine Le.ite ?_ ?_
      | with_reducible exact ih _ _ _ _ _ _ _
      | with_reducible refine Le.bind (ih _ _ _ _ _ _ _) (fun _ => ?_)
      | with_reducible refine Le.bind (Le.refl _) (fun _ => ?_)
      | split)
theorem nat_take.mono (k : Nat) : ∀ x0 x1 x2, Le (nat_take.f k x0 x1 x2) (nat_take.f (k + 1) x0 x1 x2) := by
  intro x0 x1 x2
  unfold nat_take.f
  repeat' (first
    | with_reducible exact Le.refl _
    | with_reducible refine Le.ite ?_ ?_
    | with_reducible exact (nat_take.monoL k) _ _ _ _ _ _ _
    | with_reducible refine Le.bind (Le.refl _) (fun _ => ?_)
    | split)
theorem nat_give.monoL (k : Nat) : (∀ x0 x1 x2 x3 x4, Le (nat_give.l0 k x0 x1 x2 x3 x4) (nat_give.l0 (k + 1) x0 x1 x2 x3 x4)) := by
  induction k with
  | zero => exact fun _ _ _ _ _ => Le.none _
  | succ k ih =>
    intro x0 x1 x2 x3 x4
    refine Le.eqs (nat_give.l0.eq_2 ..) (nat_give.l0.eq_2 ..) ?_
    repeat' (first
      | with_reducible exact Le.refl _
      | with_reducible refine Le.ite ?_ ?_
      | with_reducible exact ih _ _ _ _ _
      | with_reducible refine Le.bind (ih _ _ _ _ _) (fun _ => ?_)
      | with_reducible refine Le.bind (Le.refl _) (fun _ => ?_)
      | split)
theorem nat_give.mono (k : Nat) : ∀ x0 x1, Le (nat_give.f k x0 x1) (nat_give.f (k + 1) x0 x1) := by
  intro x0 x1
  unfold nat_give.f
  repeat' (first
    | with_reducible exact Le.refl _
    | with_reducible refine Le.ite ?_ ?_
    | with_reducible exact (nat_give.monoL k) _ _ _ _ _
    | with_reducible refine Le.bind (Le.refl _) (fun _ => ?_)
    | split)
theorem nat_digit.monoL (k : Nat) : (∀ x0 x1 x2 x3 x4, Le (nat_digit.l0 k x0 x1 x2 x3 x4) (nat_digit.l0 (k + 1) x0 x1 x2 x3 x4)) := by
  induction k with
  | zero => exact fun _ _ _ _ _ => Le.none _
  | succ k ih =>
    intro x0 x1 x2 x3 x4
    refine Le.eqs (nat_digit.l0.eq_2 ..) (nat_digit.l0.eq_2 ..) ?_
    repeat' (first
      | with_reducible exact Le.refl _
      | with_reducible refine Le.ite ?_ ?_
      | with_reducible exact ih _ _ _ _ _
      | with_reducible refine Le.bind (ih _ _ _ _ _) (fun _ => ?_)
      | with_reducible refine Le.bind (nat_take.mono k _ _ _) (fun _ => ?_)
      | with_reducible refine Le.bind (nat_give.mono k _ _) (fun _ => ?_)
      | with_reducible exact nat_take.mono k _ _ _
      | with_reducible exact nat_give.mono k _ _
      | with_reducible refine Le.bind (Le.refl _) (fun _ => ?_)
      | split)
theorem nat_digit.mono (k : Nat) : ∀ x0 x1, Le (nat_digit.f k x0 x1) (nat_digit.f (k + 1) x0 x1) := by
  intro x0 x1
  unfold nat_digit.f
  repeat' (first
    | with_reducible exact Le.refl _
    | with_reducible refine Le.ite ?_ ?_
    | with_reducible exact (nat_digit.monoL k) _ _ _ _ _
    | with_reducible refine Le.bind (Le.refl _) (fun _ => ?_)
    | split)
theorem nat_long.monoL (k : Nat) : (∀ x0 x1 x2 x3 x4 x5, Le (nat_long.l0 k x0 x1 x2 x3 x4 x5) (nat_long.l0 (k + 1) x0 x1 x2 x3 x4 x5)) := by
  induction k with
  | zero => exact fun _ _ _ _ _ _ => Le.none _
  | succ k ih =>
    intro x0 x1 x2 x3 x4 x5
    refine Le.eqs (nat_long.l0.eq_2 ..) (nat_long.l0.eq_2 ..) ?_
    repeat' (first
      | with_reducible exact Le.refl _
      | with_reducible refine Le.ite ?_ ?_
      | with_reducible exact ih _ _ _ _ _ _
      | with_reducible refine Le.bind (ih _ _ _ _ _ _) (fun _ => ?_)
      | with_reducible refine Le.bind (nat_digit.mono k _ _) (fun _ => ?_)
      | with_reducible refine Le.bind (nat_trim.mono k _) (fun _ => ?_)
      | with_reducible refine Le.bind (nat_shr.mono k _ _) (fun _ => ?_)
      | with_reducible exact nat_digit.mono k _ _
      | with_reducible exact nat_trim.mono k _
      | with_reducible exact nat_shr.mono k _ _
      | with_reducible refine Le.bind (Le.refl _) (fun _ => ?_)
      | split)
theorem nat_long.mono (k : Nat) : ∀ x0 x1, Le (nat_long.f k x0 x1) (nat_long.f (k + 1) x0 x1) := by
  intro x0 x1
  unfold nat_long.f
  repeat' (first
    | with_reducible exact Le.refl _
    | with_reducible refine Le.ite ?_ ?_
    | with_reducible exact (nat_long.monoL k) _ _ _ _ _ _
    | with_reducible refine Le.bind (nat_shl.mono k _ _) (fun _ => ?_)
    | with_reducible exact nat_shl.mono k _ _
    | with_reducible refine Le.bind (Le.refl _) (fun _ => ?_)
    | split)
theorem nat_DivMod.mono (k : Nat) : ∀ x0 x1, Le (nat_DivMod.f k x0 x1) (nat_DivMod.f (k + 1) x0 x1) := by
  intro x0 x1
  unfold nat_DivMod.f
  repeat' (first
    | with_reducible exact Le.refl _
    | with_reducible refine Le.ite ?_ ?_
    | with_reducible refine Le.bind (nat_Clean.mono k _) (fun _ => ?_)
    | with_reducible refine Le.bind (nat_order.mono k _ _) (fun _ => ?_)
    | with_reducible refine Le.bind (nat_small.mono k _ _) (fun _ => ?_)
    | with_reducible refine Le.bind (nat_Of.mono k _) (fun _ => ?_)
    | with_reducible refine Le.bind (nat_long.mono k _ _) (fun _ => ?_)
    | with_reducible exact nat_Clean.mono k _
    | with_reducible exact nat_order.mono k _ _
    | with_reducible exact nat_small.mono k _ _
    | with_reducible exact nat_Of.mono k _
    | with_reducible exact nat_long.mono k _ _
    | with_reducible refine Le.bind (Le.refl _) (fun _ => ?_)
    | split)
theorem nat_rest.mono (k : Nat) : ∀ x0 x1, Le (nat_rest.f k x0 x1) (nat_rest.f (k + 1) x0 x1) := by
  intro x0 x1
  unfold nat_rest.f
  repeat' (first
    | with_reducible exact Le.refl _
    | with_reducible refine Le.ite ?_ ?_
    | with_reducible refine Le.bind (nat_DivMod.mono k _ _) (fun _ => ?_)
    | with_reducible exact nat_DivMod.mono k _ _
    | with_reducible refine Le.bind (Le.refl _) (fun _ => ?_)
    | split)
theorem nat_minus.monoL (k : Nat) : (∀ x0 x1 x2 x3 x4 x5, Le (nat_minus.l0 k x0 x1 x2 x3 x4 x5) (nat_minus.l0 (k + 1) x0 x1 x2 x3 x4 x5)) := by
  induction k with
  | zero => exact fun _ _ _ _ _ _ => Le.none _
  | succ k ih =>
    intro x0 x1 x2 x3 x4 x5
    refine Le.eqs (nat_minus.l0.eq_2 ..) (nat_minus.l0.eq_2 ..) ?_
    repeat' (first
      | with_reducible exact Le.refl _
      | with_reducible refine Le.ite ?_ ?_
      | with_reducible exact ih _ _ _ _ _ _
      | with_reducible refine Le.bind (ih _ _ _ _ _ _) (fun _ => ?_)
      | with_reducible refine Le.bind (nat_trim.mono k _) (fun _ => ?_)
      | with_reducible exact nat_trim.mono k _
      | with_reducible refine Le.bind (Le.refl _) (fun _ => ?_)
      | split)
theorem nat_minus.mono (k : Nat) : ∀ x0 x1, Le (nat_minus.f k x0 x1) (nat_minus.f (k + 1) x0 x1) := by
  intro x0 x1
  unfold nat_minus.f
  repeat' (first
    | with_reducible exact Le.refl _
    | with_reducible refine Le.ite ?_ ?_
    | with_reducible exact (nat_minus.monoL k) _ _ _ _ _ _
    | with_reducible refine Le.bind (Le.refl _) (fun _ => ?_)
    | split)
theorem nat_Gcd.monoL (k : Nat) : (∀ x0 x1 x2 x3, Le (nat_Gcd.l0 k x0 x1 x2 x3) (nat_Gcd.l0 (k + 1) x0 x1 x2 x3)) := by
  induction k with
  | zero => exact fun _ _ _ _ => Le.none _
  | succ k ih =>
    intro x0 x1 x2 x3
    refine Le.eqs (nat_Gcd.l0.eq_2 ..) (nat_Gcd.l0.eq_2 ..) ?_
    repeat' (first
      | with_reducible exact Le.refl _
      | with_reducible refine Le.ite ?_ ?_
      | with_reducible exact ih _ _ _ _
      | with_reducible refine Le.bind (ih _ _ _ _) (fun _ => ?_)
      | with_reducible refine Le.bind (nat_order.mono k _ _) (fun _ => ?_)
      | with_reducible refine Le.bind (nat_shl.mono k _ _) (fun _ => ?_)
      | with_reducible refine Le.bind (nat_rest.mono k _ _) (fun _ => ?_)
      | with_reducible refine Le.bind (nat_zeros.mono k _) (fun _ => ?_)
      | with_reducible refine Le.bind (nat_shr.mono k _ _) (fun _ => ?_)
      | with_reducible refine Le.bind (nat_minus.mono k _ _) (fun _ => ?_)
      | with_reducible exact nat_order.mono k _ _
      | with_reducible exact nat_shl.mono k _ _
      | with_reducible exact nat_rest.mono k _ _
      | with_reducible exact nat_zeros.mono k _
      | with_reducible exact nat_shr.mono k _ _
      | with_reducible exact nat_minus.mono k _ _
      | with_reducible refine Le.bind (Le.refl _) (fun _ => ?_)
      | split)
theorem nat_Gcd.mono (k : Nat) : ∀ x0 x1, Le (nat_Gcd.f k x0 x1) (nat_Gcd.f (k + 1) x0 x1) := by
  intro x0 x1
  unfold nat_Gcd.f
  repeat' (first
    | with_reducible exact Le.refl _
    | with_reducible refine Le.ite ?_ ?_
    | with_reducible exact (nat_Gcd.monoL k) _ _ _ _
    | with_reducible refine Le.bind (nat_Clean.mono k _) (fun _ => ?_)
    | with_reducible refine Le.bind (nat_euclid.mono k _ _) (fun _ => ?_)
    | with_reducible refine Le.bind (nat_zeros.mono k _) (fun _ => ?_)
    | with_reducible refine Le.bind (nat_shr.mono k _ _) (fun _ => ?_)
    | with_reducible exact nat_Clean.mono k _
    | with_reducible exact nat_euclid.mono k _ _
    | with_reducible exact nat_zeros.mono k _
    | with_reducible exact nat_shr.mono k _ _
    | with_reducible refine Le.bind (Le.refl _) (fun _ => ?_)
    | split)
theorem ratio_form.mono (k : Nat) : ∀ x0 x1 x2, Le (ratio_form.f k x0 x1 x2) (ratio_form.f (k + 1) x0 x1 x2) := by
  intro x0 x1 x2
  unfold ratio_form.f
  repeat' (first
    | with_reducible exact Le.refl _
    | with_reducible refine Le.ite ?_ ?_
    | with_reducible refine Le.bind (nat_Of.mono k _) (fun _ => ?_)
    | with_reducible refine Le.bind (nat_Gcd.mono k _ _) (fun _ => ?_)
    | with_reducible refine Le.bind (nat_DivMod.mono k _ _) (fun _ => ?_)
    | with_reducible exact nat_Of.mono k _
    | with_reducible exact nat_Gcd.mono k _ _
    | with_reducible exact nat_DivMod.mono k _ _
    | with_reducible refine Le.bind (Le.refl _) (fun _ => ?_)
    | split)
theorem ratio_Zero.mono (k : Nat) : Le (ratio_Zero.f k ) (ratio_Zero.f (k + 1) ) := by
  unfold ratio_Zero.f
  repeat' (first
    | with_reducible exact Le.refl _
    | with_reducible refine Le.ite ?_ ?_
    | with_reducible refine Le.bind (nat_Of.mono k _) (fun _ => ?_)
    | with_reducible exact nat_Of.mono k _
    | with_reducible refine Le.bind (Le.refl _) (fun _ => ?_)
    | split)
theorem ratio_Clean.mono (k : Nat) : ∀ x0 x1 x2, Le (ratio_Clean.f k x0 x1 x2) (ratio_Clean.f (k + 1) x0 x1 x2) := by
  intro x0 x1 x2
  unfold ratio_Clean.f
  repeat' (first
    | with_reducible exact Le.refl _
    | with_reducible refine Le.ite ?_ ?_
    | with_reducible refine Le.bind (nat_Clean.mono k _) (fun _ => ?_)
    | with_reducible refine Le.bind (ratio_Zero.mono k ) (fun _ => ?_)
    | with_reducible refine Le.bind (whole_Clean.mono k _ _) (fun _ => ?_)
    | with_reducible refine Le.bind (ratio_form.mono k _ _ _) (fun _ => ?_)
    | with_reducible exact nat_Clean.mono k _
    | with_reducible exact ratio_Zero.mono k 
    | with_reducible exact whole_Clean.mono k _ _
    | with_reducible exact ratio_form.mono k _ _ _
    | with_reducible refine Le.bind (Le.refl _) (fun _ => ?_)
    | split)
theorem nat_Add.monoL (k : Nat) : (∀ x0 x1 x2 x3 x4 x5, Le (nat_Add.l0 k x0 x1 x2 x3 x4 x5) (nat_Add.l0 (k + 1) x0 x1 x2 x3 x4 x5)) := by
  induction k with
  | zero => exact fun _ _ _ _ _ _ => Le.none _
  | succ k ih =>
    intro x0 x1 x2 x3 x4 x5
    refine Le.eqs (nat_Add.l0.eq_2 ..) (nat_Add.l0.eq_2 ..) ?_
    repeat' (first
      | with_reducible exact Le.refl _
      | with_reducible refine Le.ite ?_ ?_
      | with_reducible exact ih _ _ _ _ _ _
      | with_reducible refine Le.bind (ih _ _ _ _ _ _) (fun _ => ?_)
      | with_reducible refine Le.bind (nat_trim.mono k _) (fun _ => ?_)
      | with_reducible exact nat_trim.mono k _
      | with_reducible refine Le.bind (Le.refl _) (fun _ => ?_)
      | split)
theorem nat_Add.mono (k : Nat) : ∀ x0 x1, Le (nat_Add.f k x0 x1) (nat_Add.f (k + 1) x0 x1) := by
  intro x0 x1
  unfold nat_Add.f
  repeat' (first
    | with_reducible exact Le.refl _
    | with_reducible refine Le.ite ?_ ?_
    | with_reducible exact (nat_Add.monoL k) _ _ _ _ _ _
    | with_reducible refine Le.bind (nat_Clean.mono k _) (fun _ => ?_)
    | with_reducible exact nat_Clean.mono k _
    | with_reducible refine Le.bind (Le.refl _) (fun _ => ?_)
    | split)
theorem ratio_Neg.mono (k : Nat) : ∀ x0 x1 x2, Le (ratio_Neg.f k x0 x1 x2) (ratio_Neg.f (k + 1) x0 x1 x2) := by
  intro x0 x1 x2
  unfold ratio_Neg.f
  repeat' (first
    | with_reducible exact Le.refl _
    | with_reducible refine Le.ite ?_ ?_
    | with_reducible refine Le.bind (ratio_Clean.mono k _ _ _) (fun _ => ?_)
    | with_reducible refine Le.bind (whole_Neg.mono k _ _) (fun _ => ?_)
    | with_reducible exact ratio_Clean.mono k _ _ _
    | with_reducible exact whole_Neg.mono k _ _
    | with_reducible refine Le.bind (Le.refl _) (fun _ => ?_)
    | split)
theorem nat_Mul.monoL (k : Nat) : (∀ x0 x1 x2 x3 x4, Le (nat_Mul.l0 k x0 x1 x2 x3 x4) (nat_Mul.l0 (k + 1) x0 x1 x2 x3 x4)) ∧ (∀ x0 x1 x2 x3 x4 x5 x6 x7 x8 x9 x10, Le (nat_Mul.l1 k x0 x1 x2 x3 x4 x5 x6 x7 x8 x9 x10) (nat_Mul.l1 (k + 1) x0 x1 x2 x3 x4 x5 x6 x7 x8 x9 x10)) := by
  induction k with
  | zero => exact ⟨fun _ _ _ _ _ => Le.none _, fun _ _ _ _ _ _ _ _ _ _ _ => Le.none _⟩
  | succ k ih =>
    refine ⟨?_, ?_⟩
    · intro x0 x1 x2 x3 x4
      refine Le.eqs (nat_Mul.l0.eq_2 ..) (nat_Mul.l0.eq_2 ..) ?_
      repeat' (first
        | with_reducible exact Le.refl _
        | with_reducible refine Le.ite ?_ ?_
        | with_reducible exact ih.2 _ _ _ _ _ _ _ _ _ _ _
        | with_reducible refine Le.bind (ih.2 _ _ _ _ _ _ _ _ _ _ _) (fun _ => ?_)
        | with_reducible refine Le.bind (nat_trim.mono k _) (fun _ => ?_)
        | with_reducible exact nat_trim.mono k _
        | with_reducible refine Le.bind (Le.refl _) (fun _ => ?_)
        | split)
    · intro x0 x1 x2 x3 x4 x5 x6 x7 x8 x9 x10
      refine Le.eqs (nat_Mul.l1.eq_2 ..) (nat_Mul.l1.eq_2 ..) ?_
      repeat' (first
        | with_reducible exact Le.refl _
        | with_reducible refine Le.ite ?_ ?_
        | with_reducible exact ih.1 _ _ _ _ _
        | with_reducible refine Le.bind (ih.1 _ _ _ _ _) (fun _ => ?_)
        | with_reducible exact ih.2 _ _ _ _ _ _ _ _ _ _ _
        | with_reducible refine Le.bind (ih.2 _ _ _ _ _ _ _ _ _ _ _) (fun _ => ?_)
        | with_reducible refine Le.bind (Le.refl _) (fun _ => ?_)
        | split)
theorem nat_Mul.mono (k : Nat) : ∀ x0 x1, Le (nat_Mul.f k x0 x1) (nat_Mul.f (k + 1) x0 x1) := by
  intro x0 x1
  unfold nat_Mul.f
  repeat' (first
    | with_reducible exact Le.refl _
    | with_reducible refine Le.ite ?_ ?_
    | with_reducible exact (nat_Mul.monoL k).1 _ _ _ _ _
    | with_reducible refine Le.bind (nat_Clean.mono k _) (fun _ => ?_)
    | with_reducible exact nat_Clean.mono k _
    | with_reducible refine Le.bind (Le.refl _) (fun _ => ?_)
    | split)
theorem ratio_ten.monoL (k : Nat) : (∀ x0 x1 x2, Le (ratio_ten.l0 k x0 x1 x2) (ratio_ten.l0 (k + 1) x0 x1 x2)) := by
  induction k with
  | zero => exact fun _ _ _ => Le.none _
  | succ k ih =>
    intro x0 x1 x2
    refine Le.eqs (ratio_ten.l0.eq_2 ..) (ratio_ten.l0.eq_2 ..) ?_
    repeat' (first
      | with_reducible exact Le.refl _
      | with_reducible refine Le.ite ?_ ?_
      | with_reducible exact ih _ _ _
      | with_reducible refine Le.bind (ih _ _ _) (fun _ => ?_)
      | with_reducible refine Le.bind (nat_Of.mono k _) (fun _ => ?_)
      | with_reducible refine Le.bind (nat_Mul.mono k _ _) (fun _ => ?_)
      | with_reducible exact nat_Of.mono k _
      | with_reducible exact nat_Mul.mono k _ _
      | with_reducible refine Le.bind (Le.refl _) (fun _ => ?_)
      | split)
theorem ratio_ten.mono (k : Nat) : ∀ x0, Le (ratio_ten.f k x0) (ratio_ten.f (k + 1) x0) := by
  intro x0
  unfold ratio_ten.f
  repeat' (first
    | with_reducible exact Le.refl _
    | with_reducible refine Le.ite ?_ ?_
    | with_reducible exact (ratio_ten.monoL k) _ _ _
    | with_reducible refine Le.bind (nat_Of.mono k _) (fun _ => ?_)
    | with_reducible exact nat_Of.mono k _
    | with_reducible refine Le.bind (Le.refl _) (fun _ => ?_)
    | split)
theorem stringslite_Index.mono (k : Nat) : ∀ x0 x1, Le (stringslite_Index.f k x0 x1) (stringslite_Index.f (k + 1) x0 x1) := by
  intro x0 x1
  unfold stringslite_Index.f
  repeat' (first
    | with_reducible exact Le.refl _
    | with_reducible refine Le.ite ?_ ?_
    | with_reducible refine Le.bind (Le.refl _) (fun _ => ?_)
    | split)
theorem stringslite_Cut.mono (k : Nat) : ∀ x0 x1, Le (stringslite_Cut.f k x0 x1) (stringslite_Cut.f (k + 1) x0 x1) := by
  intro x0 x1
  unfold stringslite_Cut.f
  repeat' (first
    | with_reducible exact Le.refl _
    | with_reducible refine Le.ite ?_ ?_
    | with_reducible refine Le.bind (stringslite_Index.mono k _ _) (fun _ => ?_)
    | with_reducible exact stringslite_Index.mono k _ _
    | with_reducible refine Le.bind (Le.refl _) (fun _ => ?_)
    | split)
theorem strings_Cut.mono (k : Nat) : ∀ x0 x1, Le (strings_Cut.f k x0 x1) (strings_Cut.f (k + 1) x0 x1) := by
  intro x0 x1
  unfold strings_Cut.f
  repeat' (first
    | with_reducible exact Le.refl _
    | with_reducible refine Le.ite ?_ ?_
    | with_reducible refine Le.bind (stringslite_Cut.mono k _ _) (fun _ => ?_)
    | with_reducible exact stringslite_Cut.mono k _ _
    | with_reducible refine Le.bind (Le.refl _) (fun _ => ?_)
    | split)
theorem nat_plus.monoL (k : Nat) : (∀ x0 x1 x2 x3 x4, Le (nat_plus.l0 k x0 x1 x2 x3 x4) (nat_plus.l0 (k + 1) x0 x1 x2 x3 x4)) := by
  induction k with
  | zero => exact fun _ _ _ _ _ => Le.none _
  | succ k ih =>
    intro x0 x1 x2 x3 x4
    refine Le.eqs (nat_plus.l0.eq_2 ..) (nat_plus.l0.eq_2 ..) ?_
    repeat' (first
      | with_reducible exact Le.refl _
      | with_reducible refine Le.ite ?_ ?_
      | with_reducible exact ih _ _ _ _ _
      | with_reducible refine Le.bind (ih _ _ _ _ _) (fun _ => ?_)
      | with_reducible refine Le.bind (nat_trim.mono k _) (fun _ => ?_)
      | with_reducible exact nat_trim.mono k _
      | with_reducible refine Le.bind (Le.refl _) (fun _ => ?_)
      | split)
theorem nat_plus.mono (k : Nat) : ∀ x0 x1, Le (nat_plus.f k x0 x1) (nat_plus.f (k + 1) x0 x1) := by
  intro x0 x1
  unfold nat_plus.f
  repeat' (first
    | with_reducible exact Le.refl _
    | with_reducible refine Le.ite ?_ ?_
    | with_reducible exact (nat_plus.monoL k) _ _ _ _ _
    | with_reducible refine Le.bind (Le.refl _) (fun _ => ?_)
    | split)
theorem nat_Parse.monoL (k : Nat) : (∀ x0 x1 x2, Le (nat_Parse.l0 k x0 x1 x2) (nat_Parse.l0 (k + 1) x0 x1 x2)) ∧ (∀ x0 x1, Le (nat_Parse.l1 k x0 x1) (nat_Parse.l1 (k + 1) x0 x1)) ∧ (∀ x0 x1 x2 x3 x4 x5 x6, Le (nat_Parse.l2 k x0 x1 x2 x3 x4 x5 x6) (nat_Parse.l2 (k + 1) x0 x1 x2 x3 x4 x5 x6)) := by
  induction k with
  | zero => exact ⟨fun _ _ _ => Le.none _, fun _ _ => Le.none _, fun _ _ _ _ _ _ _ => Le.none _⟩
  | succ k ih =>
    refine ⟨?_, ?_, ?_⟩
    · intro x0 x1 x2
      refine Le.eqs (nat_Parse.l0.eq_2 ..) (nat_Parse.l0.eq_2 ..) ?_
      repeat' (first
        | with_reducible exact Le.refl _
        | with_reducible refine Le.ite ?_ ?_
        | with_reducible exact ih.1 _ _ _
        | with_reducible refine Le.bind (ih.1 _ _ _) (fun _ => ?_)
        | with_reducible exact ih.2.1 _ _
        | with_reducible refine Le.bind (ih.2.1 _ _) (fun _ => ?_)
        | with_reducible refine Le.bind (Le.refl _) (fun _ => ?_)
        | split)
    · intro x0 x1
      refine Le.eqs (nat_Parse.l1.eq_2 ..) (nat_Parse.l1.eq_2 ..) ?_
      repeat' (first
        | with_reducible exact Le.refl _
        | with_reducible refine Le.ite ?_ ?_
        | with_reducible exact ih.2.2 _ _ _ _ _ _ _
        | with_reducible refine Le.bind (ih.2.2 _ _ _ _ _ _ _) (fun _ => ?_)
        | with_reducible refine Le.bind (Le.refl _) (fun _ => ?_)
        | split)
    · intro x0 x1 x2 x3 x4 x5 x6
      refine Le.eqs (nat_Parse.l2.eq_2 ..) (nat_Parse.l2.eq_2 ..) ?_
      repeat' (first
        | with_reducible exact Le.refl _
        | with_reducible refine Le.ite ?_ ?_
        | with_reducible exact ih.2.1 _ _
        | with_reducible refine Le.bind (ih.2.1 _ _) (fun _ => ?_)
        | with_reducible exact ih.2.2 _ _ _ _ _ _ _
        | with_reducible refine Le.bind (ih.2.2 _ _ _ _ _ _ _) (fun _ => ?_)
        | with_reducible refine Le.bind (nat_plus.mono k _ _) (fun _ => ?_)
        | with_reducible exact nat_plus.mono k _ _
        | with_reducible refine Le.bind (Le.refl _) (fun _ => ?_)
        | split)
theorem nat_Parse.mono (k : Nat) : ∀ x0, Le (nat_Parse.f k x0) (nat_Parse.f (k + 1) x0) := by
  intro x0
  unfold nat_Parse.f
  repeat' (first
    | with_reducible exact Le.refl _
    | with_reducible refine Le.ite ?_ ?_
    | with_reducible exact (nat_Parse.monoL k).1 _ _ _
    | with_reducible refine Le.bind (Le.refl _) (fun _ => ?_)
    | split)
theorem ratio_plain.mono (k : Nat) : ∀ x0, Le (ratio_plain.f k x0) (ratio_plain.f (k + 1) x0) := by
  intro x0
  unfold ratio_plain.f
  repeat' (first
    | with_reducible exact Le.refl _
    | with_reducible refine Le.ite ?_ ?_
    | with_reducible refine Le.bind (strings_Cut.mono k _ _) (fun _ => ?_)
    | with_reducible refine Le.bind (nat_Parse.mono k _) (fun _ => ?_)
    | with_reducible refine Le.bind (ratio_form.mono k _ _ _) (fun _ => ?_)
    | with_reducible refine Le.bind (ratio_ten.mono k _) (fun _ => ?_)
    | with_reducible refine Le.bind (nat_Mul.mono k _ _) (fun _ => ?_)
    | with_reducible refine Le.bind (nat_Add.mono k _ _) (fun _ => ?_)
    | with_reducible refine Le.bind (nat_Of.mono k _) (fun _ => ?_)
    | with_reducible exact strings_Cut.mono k _ _
    | with_reducible exact nat_Parse.mono k _
    | with_reducible exact ratio_form.mono k _ _ _
    | with_reducible exact ratio_ten.mono k _
    | with_reducible exact nat_Mul.mono k _ _
    | with_reducible exact nat_Add.mono k _ _
    | with_reducible exact nat_Of.mono k _
    | with_reducible refine Le.bind (Le.refl _) (fun _ => ?_)
    | split)
theorem ratio_Parse.mono (k : Nat) : ∀ x0, Le (ratio_Parse.f k x0) (ratio_Parse.f (k + 1) x0) := by
  intro x0
  unfold ratio_Parse.f
  repeat' (first
    | with_reducible exact Le.refl _
    | with_reducible refine Le.ite ?_ ?_
    | with_reducible refine Le.bind (ratio_plain.mono k _) (fun _ => ?_)
    | with_reducible refine Le.bind (ratio_Neg.mono k _ _ _) (fun _ => ?_)
    | with_reducible exact ratio_plain.mono k _
    | with_reducible exact ratio_Neg.mono k _ _ _
    | with_reducible refine Le.bind (Le.refl _) (fun _ => ?_)
    | split)
theorem lex_Words.monoL (k : Nat) : (∀ x0 x1 x2, Le (lex_Words.l0 k x0 x1 x2) (lex_Words.l0 (k + 1) x0 x1 x2)) ∧ (∀ x0 x1 x2 x3, Le (lex_Words.l1 k x0 x1 x2 x3) (lex_Words.l1 (k + 1) x0 x1 x2 x3)) := by
  induction k with
  | zero => exact ⟨fun _ _ _ => Le.none _, fun _ _ _ _ => Le.none _⟩
  | succ k ih =>
    refine ⟨?_, ?_⟩
    · intro x0 x1 x2
      refine Le.eqs (lex_Words.l0.eq_2 ..) (lex_Words.l0.eq_2 ..) ?_
      repeat' (first
        | with_reducible exact Le.refl _
        | with_reducible refine Le.ite ?_ ?_
        | with_reducible exact ih.1 _ _ _
        | with_reducible refine Le.bind (ih.1 _ _ _) (fun _ => ?_)
        | with_reducible exact ih.2 _ _ _ _
        | with_reducible refine Le.bind (ih.2 _ _ _ _) (fun _ => ?_)
        | with_reducible refine Le.bind (Le.refl _) (fun _ => ?_)
        | split)
    · intro x0 x1 x2 x3
      refine Le.eqs (lex_Words.l1.eq_2 ..) (lex_Words.l1.eq_2 ..) ?_
      repeat' (first
        | with_reducible exact Le.refl _
        | with_reducible refine Le.ite ?_ ?_
        | with_reducible exact ih.1 _ _ _
        | with_reducible refine Le.bind (ih.1 _ _ _) (fun _ => ?_)
        | with_reducible exact ih.2 _ _ _ _
        | with_reducible refine Le.bind (ih.2 _ _ _ _) (fun _ => ?_)
        | with_reducible refine Le.bind (Le.refl _) (fun _ => ?_)
        | split)
theorem lex_Words.mono (k : Nat) : ∀ x0, Le (lex_Words.f k x0) (lex_Words.f (k + 1) x0) := by
  intro x0
  unfold lex_Words.f
  repeat' (first
    | with_reducible exact Le.refl _
    | with_reducible refine Le.ite ?_ ?_
    | with_reducible exact (lex_Words.monoL k).1 _ _ _
    | with_reducible refine Le.bind (Le.refl _) (fun _ => ?_)
    | split)
theorem rows_Cell.mono (k : Nat) : ∀ x0, Le (rows_Cell.f k x0) (rows_Cell.f (k + 1) x0) := by
  intro x0
  unfold rows_Cell.f
  repeat' (first
    | with_reducible exact Le.refl _
    | with_reducible refine Le.ite ?_ ?_
    | with_reducible refine Le.bind (ratio_Parse.mono k _) (fun _ => ?_)
    | with_reducible exact ratio_Parse.mono k _
    | with_reducible refine Le.bind (Le.refl _) (fun _ => ?_)
    | split)
theorem rows_Words.monoL (k : Nat) : (∀ x0 x1 x2 x3, Le (rows_Words.l0 k x0 x1 x2 x3) (rows_Words.l0 (k + 1) x0 x1 x2 x3)) := by
  induction k with
  | zero => exact fun _ _ _ _ => Le.none _
  | succ k ih =>
    intro x0 x1 x2 x3
    refine Le.eqs (rows_Words.l0.eq_2 ..) (rows_Words.l0.eq_2 ..) ?_
    repeat' (first
      | with_reducible exact Le.refl _
      | with_reducible refine Le.ite ?_ ?_
      | with_reducible exact ih _ _ _ _
      | with_reducible refine Le.bind (ih _ _ _ _) (fun _ => ?_)
      | with_reducible refine Le.bind (rows_Cell.mono k _) (fun _ => ?_)
      | with_reducible exact rows_Cell.mono k _
      | with_reducible refine Le.bind (Le.refl _) (fun _ => ?_)
      | split)
theorem rows_Words.mono (k : Nat) : ∀ x0, Le (rows_Words.f k x0) (rows_Words.f (k + 1) x0) := by
  intro x0
  unfold rows_Words.f
  repeat' (first
    | with_reducible exact Le.refl _
    | with_reducible refine Le.ite ?_ ?_
    | with_reducible exact (rows_Words.monoL k) _ _ _ _
    | with_reducible refine Le.bind (Le.refl _) (fun _ => ?_)
    | split)
theorem rows_Row.mono (k : Nat) : ∀ x0, Le (rows_Row.f k x0) (rows_Row.f (k + 1) x0) := by
  intro x0
  unfold rows_Row.f
  repeat' (first
    | with_reducible exact Le.refl _
    | with_reducible refine Le.ite ?_ ?_
    | with_reducible refine Le.bind (lex_Words.mono k _) (fun _ => ?_)
    | with_reducible refine Le.bind (rows_Words.mono k _) (fun _ => ?_)
    | with_reducible exact lex_Words.mono k _
    | with_reducible exact rows_Words.mono k _
    | with_reducible refine Le.bind (Le.refl _) (fun _ => ?_)
    | split)
theorem rows_Rows.monoL (k : Nat) : (∀ x0 x1 x2 x3, Le (rows_Rows.l0 k x0 x1 x2 x3) (rows_Rows.l0 (k + 1) x0 x1 x2 x3)) := by
  induction k with
  | zero => exact fun _ _ _ _ => Le.none _
  | succ k ih =>
    intro x0 x1 x2 x3
    refine Le.eqs (rows_Rows.l0.eq_2 ..) (rows_Rows.l0.eq_2 ..) ?_
    repeat' (first
      | with_reducible exact Le.refl _
      | with_reducible refine Le.ite ?_ ?_
      | with_reducible exact ih _ _ _ _
      | with_reducible refine Le.bind (ih _ _ _ _) (fun _ => ?_)
      | with_reducible refine Le.bind (rows_Words.mono k _) (fun _ => ?_)
      | with_reducible exact rows_Words.mono k _
      | with_reducible refine Le.bind (Le.refl _) (fun _ => ?_)
      | split)
theorem rows_Rows.mono (k : Nat) : ∀ x0, Le (rows_Rows.f k x0) (rows_Rows.f (k + 1) x0) := by
  intro x0
  unfold rows_Rows.f
  repeat' (first
    | with_reducible exact Le.refl _
    | with_reducible refine Le.ite ?_ ?_
    | with_reducible exact (rows_Rows.monoL k) _ _ _ _
    | with_reducible refine Le.bind (lex_Words.mono k _) (fun _ => ?_)
    | with_reducible exact lex_Words.mono k _
    | with_reducible refine Le.bind (Le.refl _) (fun _ => ?_)
    | split)
theorem dendronlaw09_awake.mono (k : Nat) : Le (dendronlaw09_awake.f k ) (dendronlaw09_awake.f (k + 1) ) := by
  unfold dendronlaw09_awake.f
  repeat' (first
    | with_reducible exact Le.refl _
    | with_reducible refine Le.ite ?_ ?_
    | with_reducible refine Le.bind (rows_Row.mono k _) (fun _ => ?_)
    | with_reducible refine Le.bind (rows_Rows.mono k _) (fun _ => ?_)
    | with_reducible exact rows_Row.mono k _
    | with_reducible exact rows_Rows.mono k _
    | with_reducible refine Le.bind (Le.refl _) (fun _ => ?_)
    | split)
end Go.DI.Th
namespace Go.DI.Th
open Go Go.RowKit Go.DI
theorem awake09_ev : Ev (fun k => dendronlaw09_awake.f k) true := Ev.mono (K := 400) dendronlaw09_awake.mono (by decide +kernel)
end Go.DI.Th
namespace Go.DI.Th
open Go Go.RowKit Go.DI

def num3 (r : Rt) : Rt := (r.1, r.2.1.take 3, r.2.2.take 3)
theorem number_eq (b : Bool) (n d : List Int) : dendronlaw09_number.f b n d = some (num3 (b, n, d)) := by
  unfold dendronlaw09_number.f num3
  have t : ∀ l : List Int, ¬ (l.length : Int) > 3 → l.take 3 = l := fun l h => List.take_of_length_le (by omega)
  by_cases h1 : (n.length : Int) > 3
  · rw [if_pos h1, if_pos (by omega)]
    by_cases h2 : (d.length : Int) > 3
    · rw [if_pos h2, if_pos (by omega)]
    · rw [if_neg h2]; dsimp only; rw [t d h2]
  · rw [if_neg h1]
    by_cases h2 : (d.length : Int) > 3
    · rw [if_pos h2, if_pos (by omega)]; dsimp only; rw [t n h1]
    · rw [if_neg h2]; dsimp only; rw [t n h1, t d h2]
def cell3 (c : Bool × Rt) : Bool × Rt := (c.1, num3 c.2)
theorem few09_loop (xs : List (Bool × Rt)) (n : Nat) (hn : n ≤ 1099511627776) : ∀ (b a acc : List (Bool × Rt)), xs = a ++ b → a.length ≤ n → acc.length = a.length →
    Ev (fun k => dendronlaw09_Few.l0 k xs (n : Int) acc (a.length : Int)) (acc ++ (b.take (n - a.length)).map cell3) := by
  intro b
  induction b with
  | nil =>
    intro a acc hx _ _
    rw [List.take_nil, List.map_nil, List.append_nil]
    exact Ev.step (fun k => by rw [dendronlaw09_Few.l0, if_neg (by rw [hx]; exact nlt_at a)]) (Ev.now _)
  | cons x b ih =>
    intro a acc hx hl ha
    by_cases h : a.length < n
    · have hg : gt (false, false, [], []) xs (a.length : Int) = x := by rw [hx]; exact gt_at _ a x b
      refine Ev.step (fun k => ?_) ((ih (a ++ [x]) (acc ++ [cell3 x]) (by rw [hx, snoc_at]) (by rw [List.length_append, List.length_singleton]; omega) (by rw [List.length_append, List.length_append, ha]; rfl)).of_eq ?_)
      · rw [dendronlaw09_Few.l0, if_pos (by rw [hx]; exact lt_at a x b), if_pos (by omega), if_pos (nn0 _), hg, number_eq, Option.bind_some, if_pos (by omega), wr_at a x (by omega)]
        rfl
      · obtain ⟨m, hm⟩ : ∃ m, n - a.length = m + 1 := ⟨n - a.length - 1, by omega⟩
        rw [hm, List.take_succ_cons, List.map_cons, List.length_append, List.length_singleton, show n - (a.length + 1) = m by omega, List.append_assoc]
        rfl
    · rw [show n - a.length = 0 by omega, List.take_zero, List.map_nil, List.append_nil]
      exact Ev.step (fun k => by rw [dendronlaw09_Few.l0, if_pos (by rw [hx]; exact lt_at a x b), if_neg (by omega)]) (Ev.now _)
theorem few09_ev (xs : List (Bool × Rt)) (n : Nat) (hn : n ≤ 1099511627776) : Ev (fun k => dendronlaw09_Few.f k xs (n : Int)) ((xs.take n).map cell3) := by
  have := few09_loop xs n hn xs [] [] rfl (Nat.zero_le _) rfl
  rwa [List.nil_append] at this
end Go.DI.Th
namespace Go.DI.Th
open Go Go.RowKit Go.DI

abbrev Ce := Bool × Rt
def CeB (c : Ce) : Prop := RtB 3 c.2
def sameC (a b : Ce) : Bool := if a.1 = true ∨ b.1 = true then a.1 == b.1 else decide (rv a.2 = rv b.2)
theorem dsame_ev (a b : Ce) (ha : CeB a) (hb : CeB b) : Ev (fun k => dendronref09_Same.f k a.1 a.2.1 a.2.2.1 a.2.2.2 b.1 b.2.1 b.2.2.1 b.2.2.2) (sameC a b) := by
  obtain ⟨x, hx, ex⟩ := D.FL.from ha (by decide)
  obtain ⟨y, hy, ey⟩ := D.FL.from hb (by decide)
  have ho := hx.order hy (by decide)
  have e1 : a.1 = true ∨ b.1 = true → sameC a b = (a.1 == b.1) := fun h => if_pos h
  have e2 : ¬ (a.1 = true ∨ b.1 = true) → sameC a b = decide (rv a.2 = rv b.2) := fun h => if_neg h
  unfold dendronref09_Same.f
  by_cases h1 : a.1 = true
  · rw [e1 (Or.inl h1)]
    exact Ev.if_pos h1 (Ev.if_pos h1 ((Ev.now _).of_eq (by rw [h1]; cases b.1 <;> rfl)))
  · by_cases h2 : b.1 = true
    · rw [e1 (Or.inr h2)]
      exact Ev.if_neg h1 (Ev.if_pos h2 (Ev.if_neg h1 ((Ev.now _).of_eq (by rw [h2, Bool.eq_false_iff.2 h1]; rfl))))
    · rw [e2 (fun h => h.elim h1 h2)]
      refine Ev.if_neg h1 (Ev.if_neg h2 (Ev.bind ex (Ev.bind ey (Ev.bind ho ((Ev.now _).of_eq ?_)))))
      rw [Bool.eq_iff_iff, beq_iff_eq, decide_eq_true_iff]
      exact cmpQ_zero
theorem sameC_refl (a : Ce) : sameC a a = true := by
  unfold sameC
  split
  · exact beq_self_eq_true _
  · exact decide_eq_true rfl
def eqR : List Ce → List Ce → Bool
  | [], [] => true
  | a :: l, b :: m => sameC a b && eqR l m
  | _, _ => false
theorem eqR_refl : ∀ l : List Ce, eqR l l = true
  | [] => rfl
  | a :: l => by rw [eqR, sameC_refl, eqR_refl l]; rfl
theorem eqR_len : ∀ (l m : List Ce), l.length ≠ m.length → eqR l m = false
  | [], [], h => absurd rfl h
  | [], _ :: _, _ => rfl
  | _ :: _, [], _ => rfl
  | a :: l, b :: m, h => by
    rw [eqR, eqR_len l m (fun e => h (by rw [List.length_cons, List.length_cons, e])), Bool.and_false]
theorem dequal_l0 (xs ys : List Ce) (hx : ∀ c ∈ xs, CeB c) (hy : ∀ c ∈ ys, CeB c) (hl : xs.length = ys.length) (hm : xs.length ≤ 1000000) : ∀ (b a : List Ce) (d c : List Ce), xs = a ++ b → ys = c ++ d → a.length = c.length →
    Ev (fun k => dendronref09_Equal.l0 k xs ys (a.length : Int)) (eqR b d) := by
  intro b
  induction b with
  | nil =>
    intro a d c h1 h2 h3
    have hd : d = [] := by
      rw [h1, h2, List.length_append, List.length_append] at hl
      exact List.length_eq_zero_iff.1 (by simp only [List.length_nil] at hl; omega)
    subst hd
    rw [List.append_nil] at h1
    refine Ev.succ ?_
    simp only [dendronref09_Equal.l0]
    exact Ev.if_neg (by rw [h1]; omega) (Ev.now _)
  | cons u b ih =>
    intro a d c h1 h2 h3
    cases d with
    | nil =>
      rw [h1, h2, List.length_append, List.length_append] at hl
      simp only [List.length_nil, List.length_cons] at hl
      omega
    | cons v d =>
      have g1 : gt (false, false, [], []) xs (a.length : Int) = u := by rw [h1]; exact gt_at _ a u b
      have g2 : gt (false, false, [], []) ys (a.length : Int) = v := by rw [h2, h3]; exact gt_at _ c v d
      have hla : xs.length = a.length + (b.length + 1) := by rw [h1, List.length_append, List.length_cons]
      have hs := dsame_ev u v (hx u (by rw [h1]; simp)) (hy v (by rw [h2]; simp))
      have hih := ih (a ++ [u]) d (c ++ [v]) (by rw [h1]; simp) (by rw [h2]; simp) (by rw [List.length_append, List.length_append, h3]; rfl)
      rw [List.length_append, List.length_singleton] at hih
      refine Ev.succ ?_
      simp only [dendronref09_Equal.l0, g1, g2, wr_succ a.length (show a.length ≤ 1125899906842624 by omega)]
      refine Ev.if_pos (by omega) (Ev.if_pos (nn0 _) (Ev.if_pos (by omega) (Ev.bind hs ?_)))
      rw [eqR]
      cases hsc : sameC u v with
      | true => exact Ev.if_pos rfl hih
      | false => exact Ev.if_neg (by decide) (Ev.now _)
theorem dequal_ev (xs ys : List Ce) (hx : ∀ c ∈ xs, CeB c) (hy : ∀ c ∈ ys, CeB c) (hm : xs.length ≤ 1000000) : Ev (fun k => dendronref09_Equal.f k xs ys) (eqR xs ys) := by
  unfold dendronref09_Equal.f
  by_cases h : xs.length = ys.length
  · exact Ev.if_neg (by omega) (dequal_l0 xs ys hx hy h hm xs [] ys [] rfl rfl rfl)
  · rw [eqR_len xs ys h]
    exact Ev.if_pos (by omega) (Ev.now _)
def CeU (c : Ce) : Prop := U c.2.2.1 ∧ U c.2.2.2
theorem few_B {l : List Ce} (h : ∀ c ∈ l, CeU c) (n : Nat) : ∀ c ∈ (l.take n).map cell3, CeB c := by
  intro c hc
  obtain ⟨x, hx, rfl⟩ := List.mem_map.1 hc
  obtain ⟨u1, u2⟩ := h x (List.mem_of_mem_take hx)
  exact ⟨fun y hy => u1 y (List.mem_of_mem_take hy), fun y hy => u2 y (List.mem_of_mem_take hy), by show (List.take 3 _).length ≤ 3; rw [List.length_take]; omega, by show (List.take 3 _).length ≤ 3; rw [List.length_take]; omega⟩
end Go.DI.Th
namespace Go.DI.Th
open Go Go.RowKit Go.DI

def mixL : Nat → List Ce → List Ce → List Ce
  | r, a :: as, b :: bs => (if r % 2 = 1 then a else b) :: mixL (r / 2) as bs
  | _, _, _ => []
theorem mixL_nil (r : Nat) (b : List Ce) : mixL r [] b = [] := by cases b <;> simp [mixL]
theorem mixL_len : ∀ (r : Nat) (a b : List Ce), a.length = b.length → (mixL r a b).length = a.length
  | _, [], _, _ => rfl
  | _, _ :: _, [], h => by simp at h
  | r, a :: as, b :: bs, h => by
    rw [mixL, List.length_cons, mixL_len (r / 2) as bs (by simpa using h), List.length_cons]
theorem mixL_mem : ∀ (r : Nat) (a b : List Ce) (P : Ce → Prop), (∀ c ∈ a, P c) → (∀ c ∈ b, P c) → ∀ c ∈ mixL r a b, P c
  | _, [], b, P, _, _, c, hc => by cases b <;> cases hc
  | _, _ :: _, [], P, _, _, c, hc => by cases hc
  | r, a :: as, b :: bs, P, h, h', c, hc => by
    rw [mixL, List.mem_cons] at hc
    rcases hc with e | hc
    · subst e
      split
      · exact h _ List.mem_cons_self
      · exact h' _ List.mem_cons_self
    · exact mixL_mem (r / 2) as bs P (fun x hx => h x (List.mem_cons_of_mem _ hx)) (fun x hx => h' x (List.mem_cons_of_mem _ hx)) c hc
theorem bit_u64 (n : Nat) (h : n < 18446744073709551616) : Go.bits .and .u64 (n : Int) 1 = ((n % 2 : Nat) : Int) := by
  have := bits_and_u64_nat n 1 (by omega) (by omega)
  rw [show (1 : Int) = ((1 : Nat) : Int) from rfl, this, Nat.and_one_is_mod]
theorem shr_bit (s j : Nat) (hj : j < 64) : shr .u64 (s : Int) (j : Int) = ((s / 2 ^ j : Nat) : Int) := by
  unfold shr shrI
  rw [Int.toNat_natCast, show min j (IntKind.bits .u64) = j from by show min j 64 = j; omega]
  simp
theorem mix_l0 (s : Nat) (hs : s < 18446744073709551616) (n : Nat) (hn : n ≤ 1000000) (xs : List Ce) (hx : xs.length = n) : ∀ (b2 : List Ce) (a1 a2 M : List Ce), xs = a1 ++ a2 → a2.length = b2.length → M.length = a1.length →
    Ev (fun k => rows_Mix.l0 k xs (s : Int) (M ++ b2) (n : Int) (a1.length : Int)) (M ++ mixL (s / 2 ^ a1.length) a2 b2, 0) := by
  intro b2
  induction b2 with
  | nil =>
    intro a1 a2 M h1 h2 h3
    have : a2 = [] := List.eq_nil_of_length_eq_zero (by simpa using h2)
    subst this
    rw [List.append_nil] at h1
    refine Ev.succ ?_
    simp only [rows_Mix.l0]
    exact Ev.if_neg (by rw [← hx, h1]; omega) (Ev.now _)
  | cons b b2 ih =>
    intro a1 a2 M h1 h2 h3
    cases a2 with
    | nil => simp at h2
    | cons a a2 =>
      have hxl : n = a1.length + (a2.length + 1) := by rw [← hx, h1, List.length_append, List.length_cons]
      have g1 : gt (false, false, [], []) xs (a1.length : Int) = a := by rw [h1]; exact gt_at _ a1 a a2
      have h2' : a2.length = b2.length := by simpa using h2
      have hdd : s / 2 ^ (a1.length + 1) = s / 2 ^ a1.length / 2 := by rw [Nat.pow_succ, Nat.div_div_eq_div_mul]
      have hset : (M ++ b :: b2).set (a1.length : Int).toNat a = (M ++ [a]) ++ b2 := by
        rw [Int.toNat_natCast, ← h3, List.set_append_right _ _ (Nat.le_refl _), Nat.sub_self, List.set_cons_zero, snoc_at]
      have hA := ih (a1 ++ [a]) a2 (M ++ [a]) (by rw [h1, snoc_at]) h2' (by rw [List.length_append, List.length_append, h3])
      have hB := ih (a1 ++ [a]) a2 (M ++ [b]) (by rw [h1, snoc_at]) h2' (by rw [List.length_append, List.length_append, h3]; rfl)
      rw [List.length_append, List.length_singleton, hdd] at hA hB
      refine Ev.succ ?_
      rw [mixL]
      simp only [rows_Mix.l0, wr_succ a1.length (show a1.length ≤ 1125899906842624 by omega), g1]
      refine Ev.if_pos (by omega) ?_
      by_cases hj : a1.length < 64
      · have hb := bit_u64 (s / 2 ^ a1.length) (Nat.lt_of_le_of_lt (Nat.div_le_self _ _) hs)
        have hsh := shr_bit s a1.length hj
        refine Ev.if_pos (by omega) (Ev.if_pos (nn0 _) ?_)
        by_cases ho : s / 2 ^ a1.length % 2 = 1
        · rw [if_pos ho]
          refine Ev.if_pos (by rw [hsh, hb, ho]; rfl) (Ev.if_pos (by rw [hx]; omega) (Ev.if_pos (by rw [List.length_append, List.length_cons]; omega) ?_))
          rw [hset]
          exact hA.of_eq (by rw [← snoc_at])
        · rw [if_neg ho]
          refine Ev.if_neg (by rw [hsh, hb]; omega) ?_
          rw [snoc_at M b b2]
          exact hB.of_eq (by rw [← snoc_at])
      · have hz : s / 2 ^ a1.length = 0 := by
          apply Nat.div_eq_of_lt
          exact Nat.lt_of_lt_of_le hs (show 2 ^ 64 ≤ 2 ^ a1.length from Nat.pow_le_pow_right (by decide) (by omega))
        rw [hz, if_neg (by decide)]
        rw [hz] at hB
        refine Ev.if_neg (by omega) ?_
        rw [snoc_at M b b2]
        exact hB.of_eq (by rw [← snoc_at])
theorem mix_ev (s : Nat) (hs : s < 18446744073709551616) (xs ys : List Ce) (h : xs.length = ys.length) (hm : xs.length ≤ 1000000) : Ev (fun k => rows_Mix.f k xs ys (s : Int)) (mixL s xs ys, 0) := by
  have := mix_l0 s hs ys.length (by omega) xs h ys [] xs [] rfl h rfl
  unfold rows_Mix.f
  rw [List.length_nil, Nat.pow_zero, Nat.div_one, List.nil_append] at this
  rw [List.nil_append]
  exact Ev.if_neg (by omega) (Ev.if_pos (by rw [List.length_nil]; omega) this)
theorem want_l0 (haw : Ev (fun k => dendronlaw09_awake.f k) true) (xs ys m : List Ce) (h : xs.length = ys.length) (hm : xs.length ≤ 1000) (he : Ev (fun k => dendronref09_Equal.f k m m) true) : ∀ (b2 b1 a1 a2 M : List Ce) (r : Nat), r < 18446744073709551616 → xs = a1 ++ a2 → ys = b1 ++ b2 → a2.length = b2.length → a1.length = b1.length → M.length = a1.length → M ++ mixL r a2 b2 = m →
    Ev (fun k => dendronlaw09_RowsTurns.l0 k xs ys m 0 M (r : Int) (a1.length : Int)) true := by
  intro b2
  induction b2 with
  | nil =>
    intro b1 a1 a2 M r hr h1 h2 h3 h4 h5 h6
    have : a2 = [] := List.eq_nil_of_length_eq_zero (by simpa using h3)
    subst this
    rw [List.append_nil] at h1
    rw [mixL_nil, List.append_nil] at h6
    subst h6
    refine Ev.succ ?_
    simp only [dendronlaw09_RowsTurns.l0]
    exact Ev.if_neg (by rw [h1]; omega) (Ev.if_pos trivial (Ev.bind he (Ev.if_pos rfl (Ev.bind haw (Ev.now _)))))
  | cons b b2 ih =>
    intro b1 a1 a2 M r hr h1 h2 h3 h4 h5 h6
    cases a2 with
    | nil => simp at h3
    | cons a a2 =>
      have hxl : xs.length = a1.length + (a2.length + 1) := by rw [h1, List.length_append, List.length_cons]
      have g1 : gt (false, false, [], []) xs (a1.length : Int) = a := by rw [h1]; exact gt_at _ a1 a a2
      have g2 : gt (false, false, [], []) ys (a1.length : Int) = b := by rw [h2, h4]; exact gt_at _ b1 b b2
      have h3' : a2.length = b2.length := by simpa using h3
      have hw : IntKind.u64.wrap (Int.tdiv (r : Int) 2) = ((r / 2 : Nat) : Int) := by
        have e : Int.tdiv (r : Int) 2 = ((r / 2 : Nat) : Int) := by rw [Int.tdiv_eq_ediv_of_nonneg (by omega)]; omega
        rw [e, w64]; omega
      have ht : Int.tmod (r : Int) 2 = ((r % 2 : Nat) : Int) := by rw [Int.tmod_eq_emod_of_nonneg (by omega)]; omega
      rw [mixL] at h6
      have hA := ih (b1 ++ [b]) (a1 ++ [a]) a2 (M ++ [if r % 2 = 1 then a else b]) (r / 2) (by omega) (by rw [h1, snoc_at]) (by rw [h2, snoc_at]) h3' (by rw [List.length_append, List.length_append, h4]; rfl) (by rw [List.length_append, List.length_append, h5]; rfl) (by rw [← snoc_at]; exact h6)
      rw [List.length_append, List.length_singleton] at hA
      have hMl : M.length < 2199023255552 := by omega
      clear h6
      refine Ev.succ ?_
      simp only [dendronlaw09_RowsTurns.l0, wr_succ a1.length (show a1.length ≤ 1125899906842624 by omega), g1, g2, hw, ht]
      refine Ev.if_pos (by omega) ?_
      by_cases ho : r % 2 = 1
      · rw [if_pos ho] at hA
        exact Ev.if_pos (by rw [ho]; rfl) (Ev.if_pos (nn0 _) (Ev.if_pos hMl hA))
      · rw [if_neg ho] at hA
        exact Ev.if_neg (by omega) (Ev.if_pos (nn0 _) (Ev.if_pos (by omega) (Ev.if_pos hMl hA)))
theorem rowsTurns_ev0 (haw : Ev (fun k => dendronlaw09_awake.f k) true) (xs ys : List Ce) (i : Int) (c : Ce) (s : Int) (hx : ∀ c ∈ xs, CeU c) (hy : ∀ c ∈ ys, CeU c) (hc : CeU c) (hs0 : 0 ≤ s) (hs : s < 18446744073709551616) : Ev (fun k => dendronlaw09_RowsTurns.f k xs ys i c.1 c.2.1 c.2.2.1 c.2.2.2 s) true := by
  have f1 := few09_ev xs 70 (by decide)
  have f2 := few09_ev ys 70 (by decide)
  have b1 := few_B hx 70
  have b2 := few_B hy 70
  have bc : CeB (c.1, num3 c.2) := by
    have := few_B (l := [c]) (fun x hx => by rw [List.mem_singleton.1 hx]; exact hc) 1 (cell3 c) (by simp)
    exact this
  have l1 : ((xs.take 70).map cell3).length ≤ 70 := by rw [List.length_map, List.length_take]; omega
  have l2 : ((ys.take 70).map cell3).length ≤ 70 := by rw [List.length_map, List.length_take]; omega
  have hn := number_eq c.2.1 c.2.2.1 c.2.2.2
  have hnum : (c.2.1, c.2.2.1, c.2.2.2) = c.2 := rfl
  rw [hnum] at hn
  generalize (xs.take 70).map cell3 = l at *
  generalize (ys.take 70).map cell3 = m at *
  generalize num3 c.2 = d at *
  obtain ⟨r, rfl⟩ : ∃ r : Nat, s = (r : Int) := ⟨s.toNat, by omega⟩
  have refl : ∀ q : List Ce, (∀ c ∈ q, CeB c) → q.length ≤ 1000 → Ev (fun k => dendronref09_Equal.f k q q) true := fun q hq hl => by
    have := dequal_ev q q hq hq (by omega)
    rwa [eqR_refl] at this
  have e1 := refl l b1 (by omega)
  -- the second half
  obtain ⟨v, hv, ht⟩ : ∃ v : List Ce × Int, Ev (fun k => rows_Mix.f k l m (r : Int)) v ∧ Ev (fun k => if (l.length : Int) ≠ (m.length : Int) then (if (v.1.length : Int) = 0 then (if v.2 = 14 then ((dendronlaw09_awake.f k).bind fun v67 => (some v67)) else (some false)) else (some false)) else (dendronlaw09_RowsTurns.l0 k l m v.1 v.2 ([] : List Ce) (r : Int) 0)) true := by
    by_cases h : l.length = m.length
    · have h2 := mix_ev r (by omega) l m h (by omega)
      have hml : (mixL r l m).length = l.length := mixL_len r l m h
      have := want_l0 haw l m (mixL r l m) h (by omega) (refl _ (mixL_mem r l m CeB b1 b2) (by omega)) m [] [] l [] r (by omega) rfl rfl h rfl rfl rfl
      exact ⟨_, h2, Ev.if_neg (by omega) this⟩
    · have h2 : Ev (fun k => rows_Mix.f k l m (r : Int)) ([], 14) := by
        unfold rows_Mix.f
        exact Ev.if_pos (by omega) (Ev.now _)
      exact ⟨_, h2, Ev.if_pos (by omega) (Ev.if_pos rfl (Ev.if_pos rfl (Ev.bind haw (Ev.now _))))⟩
  unfold dendronlaw09_RowsTurns.f
  simp only [List.nil_append]
  refine Ev.bind f1 (Ev.bind f2 ?_)
  rw [hn]
  refine Ev.bind (Ev.now _) (Ev.if_pos (by rw [List.length_nil]; omega) ?_)
  by_cases hi : i < 0
  · have hw : rows_With.f l i c.1 d.1 d.2.1 d.2.2 = some ([], 8) := if_pos (.inl hi)
    rw [hw]
    exact Ev.bind (Ev.now _) (Ev.bind hv (Ev.if_pos hi (Ev.if_neg (fun e => e rfl) (Ev.if_neg (fun e => e rfl) (Ev.bind e1 (Ev.if_pos rfl ht))))))
  · by_cases hi2 : (l.length : Int) ≤ i
    · have hw : rows_With.f l i c.1 d.1 d.2.1 d.2.2 = some ([], 8) := if_pos (.inr hi2)
      rw [hw]
      exact Ev.bind (Ev.now _) (Ev.bind hv (Ev.if_neg hi (Ev.if_pos hi2 (Ev.if_neg (fun e => e rfl) (Ev.if_neg (fun e => e rfl) (Ev.bind e1 (Ev.if_pos rfl ht)))))))
    · have hw : rows_With.f l i c.1 d.1 d.2.1 d.2.2 = some (l.set i.toNat (c.1, d), 0) := by
        unfold rows_With.f
        rw [if_neg (fun e => e.elim hi hi2), if_pos (by omega)]
      rw [hw]
      have b3 : ∀ x ∈ l.set i.toNat (c.1, d), CeB x := fun x hx => by
        rcases List.mem_or_eq_of_mem_set hx with h | h
        · exact b1 x h
        · rw [h]; exact bc
      have e2 := refl (l.set i.toNat (c.1, d)) b3 (by rw [List.length_set]; omega)
      exact Ev.bind (Ev.now _) (Ev.bind hv (Ev.if_neg hi (Ev.if_neg hi2 (Ev.if_pos (by omega) (Ev.if_pos (by omega) (Ev.if_neg (fun e => e rfl) (Ev.bind e2 (Ev.if_pos rfl (Ev.bind e1 (Ev.if_pos rfl ht))))))))))
end Go.DI.Th
