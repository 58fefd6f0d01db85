/- What the told functions answer, part 1. No condition. -/
import Derived.Test.YtajagmmjkmmchaaDoorFn
import Derived.Laws.Bits64b
set_option linter.all false
namespace Go.DI.Th
open Go Go.RowKit Go.DI

def Ev {α : Type} (g : Nat → Option α) (r : α) : Prop := ∃ K, ∀ k, K ≤ k → g k = some r
theorem Ev.now {α : Type} (r : α) : Ev (fun _ => some r) r := ⟨0, fun _ _ => rfl⟩
theorem Ev.rounds {α : Type} {g : Nat → Option α} {r : α} (h : Ev g r) : ∃ k, g k = some r := by
  obtain ⟨K, h⟩ := h
  exact ⟨K, h K (Nat.le_refl _)⟩
theorem Ev.bind {α β : Type} {g : Nat → Option α} {f : Nat → α → Option β} {a : α} {r : β} (h : Ev g a) (k : Ev (fun n => f n a) r) : Ev (fun n => (g n).bind (f n)) r := by
  obtain ⟨K, h⟩ := h
  obtain ⟨K', k⟩ := k
  refine ⟨max K K', fun n hn => ?_⟩
  show (g n).bind (f n) = some r
  rw [h n (by omega)]
  exact k n (by omega)
theorem Ev.step {α : Type} {g f : Nat → Option α} {r : α} (h : ∀ k, g (k + 1) = f k) (k : Ev f r) : Ev g r := by
  obtain ⟨K, k⟩ := k
  refine ⟨K + 1, fun n hn => ?_⟩
  obtain ⟨m, rfl⟩ : ∃ m, n = m + 1 := ⟨n - 1, by omega⟩
  rw [h]
  exact k m (by omega)
theorem Ev.congr {α : Type} {g f : Nat → Option α} {r : α} (h : ∀ k, g k = f k) (k : Ev f r) : Ev g r := by
  obtain ⟨K, k⟩ := k
  exact ⟨K, fun n hn => by rw [h]; exact k n hn⟩
theorem Ev.of_eq {α : Type} {g : Nat → Option α} {r r' : α} (h : Ev g r) (e : r = r') : Ev g r' := e ▸ h
theorem Ev.if_pos {α : Type} {c : Prop} [Decidable c] {g f : Nat → Option α} {r : α} (h : c) (k : Ev g r) : Ev (fun n => if c then g n else f n) r := Ev.congr (fun _ => _root_.if_pos h) k
theorem Ev.if_neg {α : Type} {c : Prop} [Decidable c] {g f : Nat → Option α} {r : α} (h : ¬ c) (k : Ev f r) : Ev (fun n => if c then g n else f n) r := Ev.congr (fun _ => _root_.if_neg h) k


theorem wrap_id {i : Int} (h0 : -9223372036854775808 ≤ i) (h : i ≤ 9223372036854775807) : wrap64 i = i := by
  unfold wrap64; omega
theorem w64 (n : Int) : IntKind.u64.wrap n = n % 18446744073709551616 := IntKind.wrap_u64 n
theorem and_low {x : Int} (h0 : 0 ≤ x) (h1 : x < 18446744073709551616) : Go.bits .and .u64 x 4294967295 = x % 4294967296 := by
  obtain ⟨n, rfl⟩ : ∃ n : Nat, x = n := ⟨x.toNat, by omega⟩
  have := bits_and_u64_nat n 4294967295 (by omega) (by omega)
  have e : n &&& 4294967295 = n % 4294967296 := Nat.and_two_pow_sub_one_eq_mod n 32
  rw [show (4294967295 : Int) = ((4294967295 : Nat) : Int) from rfl, this, e]
  omega
theorem or_sum {x y : Int} (h0 : 0 ≤ x) (h1 : x < 4294967296) (h2 : 0 ≤ y) (h3 : y < 4294967296) : Go.bits .or .u64 (IntKind.u64.wrap (x * 4294967296)) y = x * 4294967296 + y := by
  obtain ⟨n, rfl⟩ : ∃ n : Nat, x = n := ⟨x.toNat, by omega⟩
  obtain ⟨m, rfl⟩ : ∃ n : Nat, y = n := ⟨y.toNat, by omega⟩
  have e1 : IntKind.u64.wrap ((n : Int) * 4294967296) = ((4294967296 * n : Nat) : Int) := by rw [w64]; omega
  rw [e1, bits_or_u64_nat _ m (by omega) (by omega)]
  have : 4294967296 * n ||| m = 4294967296 * n + m := by
    have := Nat.two_pow_add_eq_or_of_lt (i := 32) (b := m) (by omega) n
    simpa using this.symm
  rw [this]
  omega

def val : List Int → Nat
  | [] => 0
  | x :: l => (x % 4294967296).toNat + 4294967296 * val l

def lm (n : Nat) : List Int := if n = 0 then [] else ((n % 4294967296 : Nat) : Int) :: lm (n / 4294967296)
termination_by n
decreasing_by omega

def Ok (l : List Int) : Prop := ∀ x ∈ l, 0 ≤ x ∧ x < 4294967296
def U (l : List Int) : Prop := ∀ x ∈ l, 0 ≤ x ∧ x < 18446744073709551616
theorem Ok.U {l : List Int} (h : Ok l) : U l := fun x hx => by have := h x hx; omega
theorem Ok.nil : Ok [] := fun x hx => by cases hx
theorem Ok.cons {x : Int} {l : List Int} (h : 0 ≤ x ∧ x < 4294967296) (hl : Ok l) : Ok (x :: l) := fun y hy => by
  rcases List.mem_cons.1 hy with rfl | hy
  · exact h
  · exact hl y hy
theorem Ok.append {a b : List Int} (ha : Ok a) (hb : Ok b) : Ok (a ++ b) := fun x hx => by
  rcases List.mem_append.1 hx with h | h
  · exact ha x h
  · exact hb x h
theorem Ok.take {a : List Int} (h : Ok a) (n : Nat) : Ok (a.take n) := fun x hx => h x (List.mem_of_mem_take hx)
theorem Ok.drop {a : List Int} (h : Ok a) (n : Nat) : Ok (a.drop n) := fun x hx => h x (List.mem_of_mem_drop hx)
theorem Ok.zeros (n : Nat) : Ok (List.replicate n 0) := fun x hx => by
  rw [(List.mem_replicate.1 hx).2]; omega
theorem Ok.tail {x : Int} {l : List Int} (h : Ok (x :: l)) : Ok l := fun y hy => h y (List.mem_cons_of_mem _ hy)
theorem Ok.head {x : Int} {l : List Int} (h : Ok (x :: l)) : 0 ≤ x ∧ x < 4294967296 := h x List.mem_cons_self
theorem rd_ok {l : List Int} (h : Ok l) (i : Int) : 0 ≤ rd l i ∧ rd l i < 4294967296 := by
  unfold rd
  rw [List.getD_eq_getElem?_getD]
  by_cases hi : i.toNat < l.length
  · rw [List.getElem?_eq_getElem hi]
    exact h _ (List.getElem_mem hi)
  · rw [List.getElem?_eq_none (by omega)]
    simp
theorem rd_U {l : List Int} (h : U l) (i : Int) : 0 ≤ rd l i ∧ rd l i < 18446744073709551616 := by
  unfold rd
  rw [List.getD_eq_getElem?_getD]
  by_cases hi : i.toNat < l.length
  · rw [List.getElem?_eq_getElem hi]
    exact h _ (List.getElem_mem hi)
  · rw [List.getElem?_eq_none (by omega)]
    simp

theorem val_cons (x : Int) (l : List Int) : val (x :: l) = (x % 4294967296).toNat + 4294967296 * val l := rfl
theorem lm_zero : lm 0 = [] := by rw [lm]; simp
theorem lm_pos {n : Nat} (h : n ≠ 0) : lm n = ((n % 4294967296 : Nat) : Int) :: lm (n / 4294967296) := by
  conv => lhs; rw [lm]
  rw [if_neg h]
theorem val_lm (n : Nat) : val (lm n) = n := by
  induction n using Nat.strongRecOn with
  | _ n ih =>
    by_cases h : n = 0
    · subst h; rw [lm_zero]; rfl
    · rw [lm_pos h, val_cons, ih _ (by omega)]
      omega
theorem lm_ok (n : Nat) : Ok (lm n) := by
  induction n using Nat.strongRecOn with
  | _ n ih =>
    by_cases h : n = 0
    · subst h; rw [lm_zero]; exact Ok.nil
    · rw [lm_pos h]
      exact Ok.cons (by omega) (ih _ (by omega))
theorem val_append (a b : List Int) : val (a ++ b) = val a + 4294967296 ^ a.length * val b := by
  induction a with
  | nil => simp [val]
  | cons x a ih =>
    rw [List.cons_append, val_cons, val_cons, ih, List.length_cons, Nat.pow_succ, Nat.mul_add]
    have : 4294967296 * (4294967296 ^ a.length * val b) = 4294967296 ^ a.length * 4294967296 * val b := by
      rw [← Nat.mul_assoc, Nat.mul_comm 4294967296 (4294967296 ^ a.length)]
    omega
theorem val_zeros (n : Nat) : val (List.replicate n 0) = 0 := by
  induction n with
  | zero => rfl
  | succ n ih => rw [List.replicate_succ, val_cons, ih]; rfl
theorem val_lt (l : List Int) : val l < 4294967296 ^ l.length := by
  induction l with
  | nil => simp [val]
  | cons x l ih =>
    rw [val_cons, List.length_cons, Nat.pow_succ]
    have h1 : (x % 4294967296).toNat < 4294967296 := by
      have := Int.emod_lt_of_pos x (b := 4294967296) (by decide)
      have := Int.emod_nonneg x (b := 4294967296) (by decide)
      omega
    have h2 : 4294967296 * (val l + 1) ≤ 4294967296 * 4294967296 ^ l.length := Nat.mul_le_mul_left _ ih
    rw [Nat.mul_comm (4294967296 ^ l.length)]
    omega
theorem val_single (x : Int) : val [x] = (x % 4294967296).toNat := by simp [val]
theorem val_snoc (l : List Int) (x : Int) : val (l ++ [x]) = val l + 4294967296 ^ l.length * (x % 4294967296).toNat := by rw [val_append, val_single]

theorem lm_val {l : List Int} (h : Ok l) (hl : ∀ x, l.getLast? = some x → x ≠ 0) : lm (val l) = l := by
  induction l with
  | nil => exact lm_zero
  | cons x l ih =>
    have hx := h.head
    have e : x % 4294967296 = x := Int.emod_eq_of_lt hx.1 hx.2
    by_cases hl0 : l = []
    · subst hl0
      have hx0 : x ≠ 0 := hl x rfl
      have hv : val [x] = x.toNat := by rw [val_single, e]
      rw [hv, lm_pos (by omega), show x.toNat / 4294967296 = 0 by omega, lm_zero, show x.toNat % 4294967296 = x.toNat by omega]
      congr 1
      omega
    · have hl' : lm (val l) = l := ih h.tail (fun y hy => hl y (by rw [List.getLast?_cons, hy]; rfl))
      have hv0 : val l ≠ 0 := by
        intro h0
        rw [h0, lm_zero] at hl'
        exact hl0 hl'.symm
      have hv : val (x :: l) = x.toNat + 4294967296 * val l := by rw [val_cons, e]
      rw [hv, lm_pos (by omega), show (x.toNat + 4294967296 * val l) / 4294967296 = val l by omega, show (x.toNat + 4294967296 * val l) % 4294967296 = x.toNat by omega, hl']
      congr 1
      omega
def len (n : Nat) : Nat := (lm n).length
theorem len_zero : len 0 = 0 := by unfold len; rw [lm_zero]; rfl
theorem len_pos {n : Nat} (h : n ≠ 0) : len n = len (n / 4294967296) + 1 := by unfold len; rw [lm_pos h]; rfl
theorem len_eq_zero {n : Nat} : len n = 0 ↔ n = 0 := by
  constructor
  · intro h
    by_cases h0 : n = 0
    · exact h0
    · rw [len_pos h0] at h; omega
  · rintro rfl; exact len_zero
theorem lt_pow_len (n : Nat) : n < 4294967296 ^ len n := by
  have := val_lt (lm n)
  rwa [val_lm] at this
theorem pow_le_len {n : Nat} (h : n ≠ 0) : 4294967296 ^ (len n - 1) ≤ n := by
  induction n using Nat.strongRecOn with
  | _ n ih =>
    rw [len_pos h, Nat.add_sub_cancel]
    by_cases h2 : n / 4294967296 = 0
    · rw [h2, len_zero]; omega
    · have := ih _ (by omega) h2
      rw [len_pos h2, Nat.pow_succ]
      rw [len_pos h2, Nat.add_sub_cancel] at this
      omega
theorem len_le {n k : Nat} (h : n < 4294967296 ^ k) : len n ≤ k := by
  by_cases h0 : n = 0
  · subst h0; rw [len_zero]; omega
  · have h1 := pow_le_len h0
    have h2 : 4294967296 ^ (len n - 1) < 4294967296 ^ k := by omega
    have := (Nat.pow_lt_pow_iff_right (by decide : 1 < 4294967296)).1 h2
    omega
theorem len_mono {a b : Nat} (h : a ≤ b) : len a ≤ len b := len_le (Nat.lt_of_le_of_lt h (lt_pow_len b))
theorem len_add (a b : Nat) : len (a + b) ≤ max (len a) (len b) + 1 := by
  apply len_le
  have h1 := lt_pow_len a
  have h2 := lt_pow_len b
  have h3 : 4294967296 ^ len a ≤ 4294967296 ^ max (len a) (len b) := Nat.pow_le_pow_right (by decide) (Nat.le_max_left _ _)
  have h4 : 4294967296 ^ len b ≤ 4294967296 ^ max (len a) (len b) := Nat.pow_le_pow_right (by decide) (Nat.le_max_right _ _)
  rw [Nat.pow_succ]
  omega
theorem len_mul (a b : Nat) : len (a * b) ≤ len a + len b := by
  apply len_le
  rw [Nat.pow_add]
  have h1 := lt_pow_len a
  have h2 := lt_pow_len b
  have h0 : 0 < 4294967296 ^ len b := Nat.pow_pos (by decide)
  calc a * b ≤ a * 4294967296 ^ len b := Nat.mul_le_mul_left _ (by omega)
    _ < 4294967296 ^ len a * 4294967296 ^ len b := Nat.mul_lt_mul_of_pos_right h1 h0
theorem val_len (l : List Int) : len (val l) ≤ l.length := len_le (val_lt l)
theorem lm_length (n : Nat) : (lm n).length = len n := rfl
theorem lt_of_len_lt {a b : Nat} (h : len a < len b) : a < b := by
  have hb : b ≠ 0 := by
    rintro rfl
    rw [len_zero] at h
    omega
  have h1 := lt_pow_len a
  have h2 := pow_le_len hb
  have h3 : 4294967296 ^ len a ≤ 4294967296 ^ (len b - 1) := Nat.pow_le_pow_right (by decide) (by omega)
  omega

theorem rd_nat (l : List Int) (i : Nat) : rd l (i : Int) = l.getD i 0 := by simp [rd]
theorem take_succ_rd (l : List Int) (i : Nat) (h : i < l.length) : l.take (i + 1) = l.take i ++ [rd l i] := by
  rw [List.take_succ_eq_append_getElem h, rd_nat, List.getD_eq_getElem?_getD, List.getElem?_eq_getElem h]
  rfl
theorem drop_rd (l : List Int) (i : Nat) (h : i < l.length) : l.drop i = rd l i :: l.drop (i + 1) := by
  rw [rd_nat, List.getD_eq_getElem?_getD, List.getElem?_eq_getElem h]
  exact List.drop_eq_getElem_cons h
theorem val_take_succ (l : List Int) (i : Nat) (h : i < l.length) : val (l.take (i + 1)) = val (l.take i) + 4294967296 ^ i * (rd l i % 4294967296).toNat := by
  rw [take_succ_rd l i h, val_snoc, List.length_take, Nat.min_eq_left (Nat.le_of_lt h)]
theorem val_drop (l : List Int) (i : Nat) (h : i < l.length) : val (l.drop i) = (rd l i % 4294967296).toNat + 4294967296 * val (l.drop (i + 1)) := by
  rw [drop_rd l i h, val_cons]
theorem fill (done : List Int) (d : Nat) (v : Int) : (done ++ List.replicate (d + 1) (0 : Int)).set done.length v = done ++ [v] ++ List.replicate d 0 := by
  rw [List.set_append_right _ _ (Nat.le_refl _), Nat.sub_self, List.replicate_succ]
  simp
theorem fillr (done : List Int) (d : Nat) (v : Int) : (List.replicate (d + 1) (0 : Int) ++ done).set d v = List.replicate d 0 ++ v :: done := by
  rw [List.replicate_succ', List.append_assoc, List.set_append_right _ _ (by simp)]
  simp


end Go.DI.Th
namespace Go.DI.Th
open Go Go.RowKit Go.DI

theorem wr_succ (m : Nat) (h : m ≤ 1125899906842624) : wrap64 ((m : Int) + 1) = ((m + 1 : Nat) : Int) := by
  rw [wrap_id (by omega) (by omega)]; omega
theorem gt_at {α : Type} (d : α) (a : List α) (x : α) (b : List α) : gt d (a ++ x :: b) (a.length : Int) = x := by
  unfold gt
  rw [Int.toNat_natCast, List.getD_eq_getElem?_getD, List.getElem?_append_right (Nat.le_refl _), Nat.sub_self]
  rfl
theorem lt_at {α : Type} (a : List α) (x : α) (b : List α) : (a.length : Int) < ((a ++ x :: b).length : Int) := by
  rw [List.length_append, List.length_cons]; omega
theorem wr_at {α : Type} (a : List α) (x : α) (h : a.length ≤ 1125899906842624) : wrap64 ((a.length : Int) + 1) = ((a ++ [x]).length : Int) := by
  rw [wr_succ _ h, List.length_append, List.length_singleton]
theorem nn0 (n : Nat) : (0 : Int) ≤ (n : Int) := Int.natCast_nonneg n
theorem Ev.guard {P c : Prop} [Decidable P] [Decidable c] {f : Nat → Option Bool} (hc : c → ¬ P) (h : ¬ c → Ev f (decide P)) : Ev (fun n => if c then some false else f n) (decide P) := by
  by_cases h1 : c
  · rw [decide_eq_false (hc h1)]
    exact Ev.if_pos h1 (Ev.now _)
  · exact Ev.if_neg h1 (h h1)
end Go.DI.Th
namespace Go.DI.Th
open Go Go.RowKit Go.DI

theorem Ev.succ {α : Type} {g : Nat → Option α} {r : α} (h : Ev (fun k => g (k + 1)) r) : Ev g r := Ev.step (fun _ => rfl) h
end Go.DI.Th
namespace Go.DI.Th
open Go Go.RowKit Go.DI

theorem limb_eq (l : List Int) (i : Int) (h : 0 ≤ i) : nat_limb.f l i = some (rd l i) := by
  unfold nat_limb.f
  by_cases h1 : i < (l.length : Int)
  · rw [if_pos h1, if_pos h]
  · rw [if_neg h1]
    unfold rd
    rw [List.getD_eq_getElem?_getD, List.getElem?_eq_none (by omega)]
    rfl
theorem rd_beyond (l : List Int) (i : Int) (h : (l.length : Int) ≤ i) : rd l i = 0 := by
  unfold rd
  rw [List.getD_eq_getElem?_getD, List.getElem?_eq_none (by omega)]
  rfl

theorem trim_from (l : List Int) (hl : Ok l) (hn : l.length ≤ 9223372036854775807) : ∀ n : Nat, n ≤ l.length → val l = val (l.take n) → Ev (fun k => nat_trim.l0 k l (n : Int)) (lm (val l)) := by
  intro n
  induction n with
  | zero =>
    intro _ hv
    refine Ev.step (fun k => ?_) (Ev.now _)
    simp only [nat_trim.l0]
    rw [if_neg (by omega), if_pos (by simp), hv]
    simp [val, lm_zero]
  | succ m ih =>
    intro hm hv
    have e : wrap64 (((m + 1 : Nat) : Int) - 1) = (m : Int) := by rw [wrap_id (by omega) (by omega)]; omega
    have hr := rd_ok hl (m : Int)
    by_cases h0 : rd l (m : Int) = 0
    · refine Ev.step (fun k => ?_) (ih (by omega) ?_)
      · simp only [nat_trim.l0]
        rw [if_pos (by omega), e, if_pos (by omega), if_pos (by omega), if_pos h0]
      · rw [hv, val_take_succ l m (by omega), h0]
        simp
    · refine Ev.step (fun k => ?_) (Ev.now _)
      simp only [nat_trim.l0]
      rw [if_pos (by omega), e, if_pos (by omega), if_pos (by omega), if_neg h0, if_neg (by omega), if_pos (by omega), if_pos (by omega)]
      have e2 : (((m + 1 : Nat) : Int)).toNat = m + 1 := by omega
      rw [e2, hv, lm_val (hl.take (m + 1))]
      intro x hx
      rw [take_succ_rd l m (by omega), List.getLast?_concat] at hx
      cases hx
      exact h0
theorem trim_ev (l : List Int) (hl : Ok l) (hn : l.length ≤ 9223372036854775807) : Ev (fun k => nat_trim.f k l) (lm (val l)) :=
  trim_from l hl hn l.length (Nat.le_refl _) (by rw [List.take_length])

theorem trimM_l0 (l : List Int) : ∀ (k : Nat) (n : Int), nat_trimM.l0 k l n = nat_trim.l0 k l n
  | 0, _ => rfl
  | k + 1, n => by
    simp only [nat_trimM.l0, nat_trim.l0, trimM_l0 l k]
theorem trimM_eq (k : Nat) (l : List Int) : nat_trimM.f k l = nat_trim.f k l := trimM_l0 l k _

def low (l : List Int) : List Int := l.map (· % 4294967296)
theorem low_ok (l : List Int) : Ok (low l) := by
  intro x hx
  obtain ⟨y, _, rfl⟩ := List.mem_map.1 hx
  exact ⟨Int.emod_nonneg _ (by decide), Int.emod_lt_of_pos _ (by decide)⟩
theorem low_val (l : List Int) : val (low l) = val l := by
  induction l with
  | nil => rfl
  | cons x l ih =>
    show val (x % 4294967296 :: low l) = _
    rw [val_cons, val_cons, ih, Int.emod_emod_of_dvd _ (Int.dvd_refl _)]
theorem low_take_succ (l : List Int) (i : Nat) (h : i < l.length) : low (l.take (i + 1)) = low (l.take i) ++ [rd l i % 4294967296] := by
  rw [take_succ_rd l i h, low, low, List.map_append]
  rfl
theorem low_length (l : List Int) : (low l).length = l.length := List.length_map _
theorem clean_loop (l : List Int) (hl : U l) (hn : l.length ≤ 35184372088832) (d : Nat) : ∀ i : Nat, i + d = l.length →
    Ev (fun k => nat_Clean.l0 k (low (l.take i) ++ List.replicate d 0) l (l.length : Int) (i : Int)) (lm (val l)) := by
  induction d with
  | zero =>
    intro i hi
    obtain rfl : i = l.length := by omega
    refine Ev.step (f := fun k => (nat_trim.f k (low l)).bind fun t => some t) (fun k => ?_) (Ev.bind ?_ (Ev.now _))
    · simp only [nat_Clean.l0]
      rw [if_neg (by omega), List.take_length]
      simp
    · have := trim_ev (low l) (low_ok l) (by rw [low_length]; omega)
      rwa [low_val] at this
  | succ d ih =>
    intro i hi
    refine Ev.step (fun k => ?_) (ih (i + 1) (by omega))
    have hr := rd_U hl (i : Int)
    have hlen : (low (l.take i)).length = i := by rw [low_length, List.length_take]; omega
    simp only [nat_Clean.l0]
    rw [if_pos (by omega), if_pos (by omega), if_pos (by omega), if_pos (by rw [List.length_append, hlen, List.length_replicate]; omega), and_low hr.1 hr.2, wrap_id (by omega) (by omega), low_take_succ l i (by omega)]
    have := fill (low (l.take i)) d (rd l (i : Int) % 4294967296)
    rw [hlen] at this
    rw [show ((i : Int)).toNat = i by omega, this]
    rfl
theorem clean_ev (l : List Int) (hl : U l) (hn : l.length ≤ 35184372088832) : Ev (fun k => nat_Clean.f k l) (lm (val l)) := by
  refine Ev.congr (fun k => ?_) (clean_loop l hl hn l.length 0 (by omega))
  unfold nat_Clean.f
  rw [if_pos (by omega), show ((l.length : Int)).toNat = l.length by omega]
  rfl
theorem of_ev (a : Int) (h0 : 0 ≤ a) (h1 : a < 18446744073709551616) : Ev (fun k => nat_Of.f k a) (lm a.toNat) := by
  have hok : Ok [a % 4294967296, a / 4294967296] := by
    intro x hx
    simp only [List.mem_cons, List.not_mem_nil, or_false] at hx
    rcases hx with rfl | rfl <;> omega
  have h := trim_ev _ hok (by simp)
  have hv : val [a % 4294967296, a / 4294967296] = a.toNat := by simp only [val]; omega
  rw [hv] at h
  refine Ev.congr (f := fun k => (nat_trim.f k [a % 4294967296, a / 4294967296]).bind fun t => some t) (fun k => ?_) (Ev.bind h (Ev.now _))
  unfold nat_Of.f
  rw [and_low h0 h1]

def cmp (a b : Nat) : Int := if a < b then -1 else if b < a then 1 else 0
theorem split_at (l : List Int) (i : Nat) : val l = val (l.take i) + 4294967296 ^ (l.take i).length * val (l.drop i) := by
  conv => lhs; rw [← List.take_append_drop i l]
  exact val_append _ _
theorem less_of_drop {a b : List Int} {i : Nat} (hl : a.length = b.length) (hi : i ≤ a.length) (h : val (a.drop i) < val (b.drop i)) : val a < val b := by
  rw [split_at a i, split_at b i, List.length_take, List.length_take, ← hl, Nat.min_eq_left hi]
  have h1 := val_lt (a.take i)
  rw [List.length_take, Nat.min_eq_left hi] at h1
  have h2 : 4294967296 ^ i * (val (a.drop i) + 1) ≤ 4294967296 ^ i * val (b.drop i) := Nat.mul_le_mul_left _ h
  rw [Nat.mul_add] at h2
  omega
theorem order_loop (a b : List Int) (ha : Ok a) (hb : Ok b) (hl : a.length = b.length) (hn : a.length ≤ 9223372036854775807) : ∀ n : Nat, n ≤ a.length → val (a.drop n) = val (b.drop n) →
    Ev (fun k => nat_order.l0 k a b ((n : Int) - 1)) (cmp (val a) (val b)) := by
  intro n
  induction n with
  | zero =>
    intro _ hv
    refine Ev.step (fun k => ?_) (Ev.now _)
    simp only [nat_order.l0]
    simp only [List.drop_zero] at hv
    rw [if_neg (by omega)]
    unfold cmp
    rw [if_neg (by omega), if_neg (by omega)]
  | succ m ih =>
    intro hm hv
    have e : ((m + 1 : Nat) : Int) - 1 = (m : Int) := by omega
    have ra := rd_ok ha (m : Int)
    have rb := rd_ok hb (m : Int)
    have da := val_drop a m (by omega)
    have db := val_drop b m (by omega)
    rw [Int.emod_eq_of_lt ra.1 ra.2] at da
    rw [Int.emod_eq_of_lt rb.1 rb.2] at db
    by_cases h1 : rd a (m : Int) < rd b (m : Int)
    · refine Ev.step (fun k => ?_) (Ev.now _)
      simp only [nat_order.l0]
      rw [e, if_pos (by omega), if_pos (by omega), if_pos (by omega), if_pos h1]
      unfold cmp
      rw [if_pos (less_of_drop hl (i := m) (by omega) (by omega))]
    · by_cases h2 : rd a (m : Int) > rd b (m : Int)
      · refine Ev.step (fun k => ?_) (Ev.now _)
        simp only [nat_order.l0]
        rw [e, if_pos (by omega), if_pos (by omega), if_pos (by omega), if_neg h1, if_pos h2]
        have := less_of_drop hl.symm (i := m) (by omega) (by omega)
        unfold cmp
        rw [if_neg (by omega), if_pos this]
      · refine Ev.step (fun k => ?_) (ih (by omega) (by omega))
        simp only [nat_order.l0]
        rw [e, if_pos (by omega), if_pos (by omega), if_pos (by omega), if_neg h1, if_neg h2, wrap_id (by omega) (by omega)]
theorem order_ev (a b : Nat) (ha : len a ≤ 35184372088832) (_hb : len b ≤ 35184372088832) : Ev (fun k => nat_order.f k (lm a) (lm b)) (cmp a b) := by
  by_cases h1 : (lm a).length < (lm b).length
  · refine Ev.congr (fun k => ?_) (Ev.now _)
    unfold nat_order.f
    rw [if_pos (by omega)]
    unfold cmp
    rw [if_pos (lt_of_len_lt h1)]
  · by_cases h2 : (lm b).length < (lm a).length
    · refine Ev.congr (fun k => ?_) (Ev.now _)
      unfold nat_order.f
      rw [if_neg (by omega), if_pos (by omega)]
      have := lt_of_len_lt h2
      unfold cmp
      rw [if_neg (by omega), if_pos this]
    · have hl : (lm a).length = (lm b).length := by omega
      have h := order_loop (lm a) (lm b) (lm_ok a) (lm_ok b) hl (by rw [lm_length]; omega) (lm a).length (Nat.le_refl _) (by rw [List.drop_length, hl, List.drop_length])
      rw [val_lm, val_lm] at h
      refine Ev.congr (fun k => ?_) h
      unfold nat_order.f
      rw [if_neg (by omega), if_neg (by omega), wrap_id (by omega) (by rw [lm_length]; omega)]
theorem cmp_ev (a b : List Int) (ha : U a) (hb : U b) (hla : a.length ≤ 35184372088832) (hlb : b.length ≤ 35184372088832) : Ev (fun k => nat_Cmp.f k a b) (cmp (val a) (val b)) := by
  refine Ev.bind (clean_ev a ha hla) (Ev.bind (clean_ev b hb hlb) (Ev.bind (order_ev _ _ ?_ ?_) (Ev.now _)))
  · exact Nat.le_trans (val_len a) hla
  · exact Nat.le_trans (val_len b) hlb

theorem val_take_rd (l : List Int) (hl : Ok l) (i : Nat) : (val (l.take (i + 1)) : Int) = val (l.take i) + 4294967296 ^ i * rd l i := by
  by_cases h : i < l.length
  · have r := rd_ok hl (i : Int)
    have := val_take_succ l i h
    rw [Int.emod_eq_of_lt r.1 r.2] at this
    rw [this]
    have e : ((rd l (i : Int)).toNat : Int) = rd l i := by omega
    rw [Int.natCast_add, Int.natCast_mul, e, Int.natCast_pow]
    rfl
  · rw [List.take_of_length_le (by omega), List.take_of_length_le (by omega), rd_beyond l i (by omega)]
    simp
theorem val_snoc_int (l : List Int) (x : Int) (hx : 0 ≤ x ∧ x < 4294967296) : (val (l ++ [x]) : Int) = val l + 4294967296 ^ l.length * x := by
  rw [val_snoc, Int.emod_eq_of_lt hx.1 hx.2]
  have e : (x.toNat : Int) = x := by omega
  rw [Int.natCast_add, Int.natCast_mul, e, Int.natCast_pow]
  rfl

theorem minus_loop (a b : List Int) (ha : Ok a) (hb : Ok b) (hn : a.length ≤ 35184372088832) (hle : val b ≤ val a) (d : Nat) : ∀ (done : List Int) (debt : Int), Ok done → done.length + d = a.length → (debt = 0 ∨ debt = 1) →
    (val (a.take done.length) : Int) + 4294967296 ^ done.length * debt = val done + val (b.take done.length) →
    Ev (fun k => nat_minus.l0 k a b (done ++ List.replicate d 0) debt (a.length : Int) (done.length : Int)) (lm (val a - val b)) := by
  induction d with
  | zero =>
    intro done debt hd hl hdebt hv
    have hl' : done.length = a.length := by omega
    have h1 := val_lt done
    have h2 := val_lt b
    rw [hl', List.take_length] at hv
    have hb2 : val (b.take a.length) = val b := by
      have h3 := split_at b a.length
      by_cases hba : b.length ≤ a.length
      · rw [List.take_of_length_le hba]
      · have h4 : (b.take a.length).length = a.length := by rw [List.length_take]; omega
        rw [h4] at h3
        have h5 := val_lt a
        by_cases h6 : val (b.drop a.length) = 0
        · rw [h6] at h3; omega
        · have : 4294967296 ^ a.length * 1 ≤ 4294967296 ^ a.length * val (b.drop a.length) := Nat.mul_le_mul_left _ (by omega)
          omega
    rw [hb2] at hv
    have hz : val done = val a - val b := by
      rcases hdebt with rfl | rfl
      · simp at hv
        omega
      · exfalso
        rw [hl'] at h1
        have e : (4294967296 : Int) ^ a.length = ((4294967296 ^ a.length : Nat) : Int) := by rw [Int.natCast_pow]; rfl
        rw [Int.mul_one, e] at hv
        omega
    refine Ev.step (f := fun k => (nat_trim.f k done).bind fun t => some t) (fun k => ?_) (Ev.bind ?_ (Ev.now _))
    · simp only [nat_minus.l0]
      rw [if_neg (by omega)]
      simp
    · have := trim_ev done hd (by omega)
      rwa [hz] at this
  | succ d ih =>
    intro done debt hd hl hdebt hv
    have ra := rd_ok ha (done.length : Int)
    have rb := rd_ok hb (done.length : Int)
    have va := val_take_rd a ha done.length
    have vb := val_take_rd b hb done.length
    have hx : ∃ (y nd : Int), (0 ≤ y ∧ y < 4294967296) ∧ (nd = 0 ∨ nd = 1) ∧ rd a done.length + 4294967296 * nd = y + rd b done.length + debt ∧
        Go.bits .and .u64 (IntKind.u64.wrap ((IntKind.u64.wrap ((IntKind.u64.wrap (4294967296 + (rd a done.length))) - (rd b done.length))) - debt)) 4294967295 = y ∧
        IntKind.u64.wrap (1 - ((IntKind.u64.wrap ((IntKind.u64.wrap ((IntKind.u64.wrap (4294967296 + (rd a done.length))) - (rd b done.length))) - debt)) / 4294967296)) = nd := by
      have e : IntKind.u64.wrap ((IntKind.u64.wrap ((IntKind.u64.wrap (4294967296 + (rd a done.length))) - (rd b done.length))) - debt) = 4294967296 + rd a done.length - rd b done.length - debt := by
        simp only [w64]
        omega
      rw [e, and_low (by omega) (by omega)]
      simp only [w64]
      refine ⟨_, 1 - (4294967296 + rd a done.length - rd b done.length - debt) / 4294967296, ⟨Int.emod_nonneg _ (by decide), Int.emod_lt_of_pos _ (by decide)⟩, ?_, ?_, rfl, ?_⟩ <;> omega
    obtain ⟨y, nd, hy, hnd, hsum, e1, e2⟩ := hx
    refine Ev.step (fun k => ?_) (ih (done ++ [y]) nd (hd.append (Ok.cons hy Ok.nil)) (by simp; omega) hnd ?_)
    · simp only [nat_minus.l0]
      rw [if_pos (by omega), if_pos (by omega), if_pos (by omega), limb_eq b _ (by omega)]
      simp only [Option.bind_some]
      rw [if_pos (by simp; omega), e1, e2, wrap_id (by omega) (by omega), show ((done.length : Int)).toNat = done.length by omega, fill]
      simp
    · rw [List.length_append, List.length_singleton, va, vb, val_snoc_int done y hy, Int.pow_succ]
      have : (4294967296 : Int) ^ done.length * (rd a done.length + 4294967296 * nd) = 4294967296 ^ done.length * (y + rd b done.length + debt) := by rw [hsum]
      simp only [Int.mul_add] at this
      rw [← Int.mul_assoc] at this
      omega
theorem minus_ev (a b : List Int) (ha : Ok a) (hb : Ok b) (hn : a.length ≤ 35184372088832) (hle : val b ≤ val a) : Ev (fun k => nat_minus.f k a b) (lm (val a - val b)) := by
  have h := minus_loop a b ha hb hn hle a.length [] 0 Ok.nil (by simp) (Or.inl rfl) (by simp [val])
  refine Ev.congr (fun k => ?_) h
  unfold nat_minus.f
  rw [if_pos (by omega), show ((a.length : Int)).toNat = a.length by omega]
  simp only [Option.bind_some, List.length_replicate]
  rfl

theorem small_loop (a : List Int) (ha : Ok a) (hn : a.length ≤ 35184372088832) (dv : Int) (h0 : 0 < dv) (h1 : dv < 4294967296) : ∀ (n : Nat) (done : List Int) (rest : Int), Ok done → done.length + n = a.length → 0 ≤ rest → rest < dv →
    (val (a.drop n) : Int) = dv * val done + rest →
    Ev (fun k => nat_small.l0 k a dv (List.replicate n 0 ++ done) rest ((n : Int) - 1)) (lm (val a / dv.toNat), ((val a % dv.toNat : Nat) : Int)) := by
  intro n
  induction n with
  | zero =>
    intro done rest hd hl hr0 hr1 hv
    obtain ⟨dn, rfl⟩ : ∃ m : Nat, dv = m := ⟨dv.toNat, by omega⟩
    obtain ⟨rn, rfl⟩ : ∃ m : Nat, rest = m := ⟨rest.toNat, by omega⟩
    rw [List.drop_zero] at hv
    have hv' : val a = dn * val done + rn := by omega
    have hq : val a / dn = val done := by
      rw [hv', Nat.mul_add_div (by omega), Nat.div_eq_of_lt (by omega)]
      omega
    have hm : val a % dn = rn := by rw [hv', Nat.mul_add_mod, Nat.mod_eq_of_lt (by omega)]
    rw [Int.toNat_natCast, hq, hm]
    refine Ev.step (f := fun k => (nat_trim.f k done).bind fun t => some (t, (rn : Int))) (fun k => ?_) (Ev.bind (trim_ev done hd (by omega)) (Ev.now _))
    simp only [nat_small.l0]
    rw [if_neg (by omega)]
    rfl
  | succ m ih =>
    intro done rest hd hl hr0 hr1 hv
    have ra := rd_ok ha (m : Int)
    have da := val_drop a m (by omega)
    rw [Int.emod_eq_of_lt ra.1 ra.2] at da
    have e : ((m + 1 : Nat) : Int) - 1 = (m : Int) := by omega
    have eo := or_sum (x := rest) (y := rd a m) hr0 (by omega) ra.1 ra.2
    have hx0 : 0 ≤ rest * 4294967296 + rd a m := by omega
    have hq1 : (rest * 4294967296 + rd a m) / dv < 4294967296 := by
      apply Int.ediv_lt_of_lt_mul h0
      have : (rest + 1) * 4294967296 ≤ dv * 4294967296 := Int.mul_le_mul_of_nonneg_right (by omega) (by decide)
      omega
    have hq0 : 0 ≤ (rest * 4294967296 + rd a m) / dv := Int.ediv_nonneg hx0 (by omega)
    have ht : Int.tdiv (rest * 4294967296 + rd a m) dv = (rest * 4294967296 + rd a m) / dv := Int.tdiv_eq_ediv_of_nonneg hx0
    have hm : Int.tmod (rest * 4294967296 + rd a m) dv = (rest * 4294967296 + rd a m) % dv := Int.tmod_eq_emod_of_nonneg hx0
    have hs := Int.mul_ediv_add_emod (rest * 4294967296 + rd a m) dv
    refine Ev.step (fun k => ?_) (ih ((rest * 4294967296 + rd a m) / dv :: done) ((rest * 4294967296 + rd a m) % dv) (Ok.cons ⟨hq0, hq1⟩ hd) (by simp; omega) (Int.emod_nonneg _ (by omega)) (Int.emod_lt_of_pos _ h0) ?_)
    · simp only [nat_small.l0]
      rw [e, if_pos (by omega), if_pos (by omega), if_neg (by omega), if_pos (by simp; omega), eo, ht, hm, wrap_id (by omega) (by omega), w64, Int.emod_eq_of_lt hq0 (by omega), show ((m : Int)).toNat = m by omega, fillr]
    · rw [da, val_cons]
      rw [Int.emod_eq_of_lt hq0 hq1]
      have : dv * (((rest * 4294967296 + rd a m) / dv) + 4294967296 * val done) = dv * ((rest * 4294967296 + rd a m) / dv) + 4294967296 * (dv * val done) := by rw [Int.mul_add, ← Int.mul_assoc, Int.mul_comm dv 4294967296, Int.mul_assoc]
      have e3 : (((((rest * 4294967296 + rd a m) / dv).toNat + 4294967296 * val done : Nat)) : Int) = ((rest * 4294967296 + rd a m) / dv) + 4294967296 * val done := by omega
      rw [e3, this]
      omega
theorem small_ev (a : List Int) (ha : Ok a) (hn : a.length ≤ 35184372088832) (d : Nat) (h0 : 0 < d) (h1 : d < 4294967296) : Ev (fun k => nat_small.f k a (d : Int)) (lm (val a / d), ((val a % d : Nat) : Int)) := by
  have h := small_loop a ha hn (d : Int) (by omega) (by omega) a.length [] 0 Ok.nil (by simp) (by omega) (by omega) (by simp [val])
  rw [Int.toNat_natCast] at h
  refine Ev.congr (fun k => ?_) h
  unfold nat_small.f
  rw [if_pos (by omega), show ((a.length : Int)).toNat = a.length by omega, wrap_id (by omega) (by omega), List.append_nil]


end Go.DI.Th
namespace Go.DI.Th
open Go Go.RowKit Go.DI

theorem rd_at (a : List Int) (x : Int) (b : List Int) : rd (a ++ x :: b) (a.length : Int) = x := by
  rw [rd_nat, List.getD_eq_getElem?_getD, List.getElem?_append_right (Nat.le_refl _), Nat.sub_self]
  rfl
theorem set_at (a : List Int) (x : Int) (b : List Int) (y : Int) : (a ++ x :: b).set a.length y = a ++ y :: b := by
  rw [List.set_append_right _ _ (Nat.le_refl _), Nat.sub_self]
  rfl
theorem val_append_int (a b : List Int) : (val (a ++ b) : Int) = val a + 4294967296 ^ a.length * val b := by
  rw [val_append, Int.natCast_add, Int.natCast_mul, Int.natCast_pow]
  rfl
theorem ar1 (p vD c vM x vB m b y z : Int) (hv : vD + p * c = vM + x * vB) (hx : 4294967296 * z + y = c + m + x * b) :
    vD + p * y + p * 4294967296 * z = vM + p * m + x * (vB + p * b) := by grind
theorem ar2 (p q vL vD c vM x vB vP vA : Int) (h1 : vP = vL + p * vM) (hv : vP = vA * vB) (h2 : vD + q * c = vM + x * vB) : vL + p * vD + p * q * c = (vA + p * x) * vB := by grind
theorem ar3 (p t vD c vA x y z : Nat) (hv : vD + p * c = vA * t) (hs : y + 4294967296 * z = c + x * t) : vD + p * y + p * 4294967296 * z = (vA + p * x) * t := by grind
theorem ar4 (p q r : Nat) : p * (4294967296 * (q * r)) = (p * q) * (4294967296 * r) := by grind
theorem mul_inner (a b : List Int) (ha : Ok a) (hb : Ok b) (hn : a.length + b.length ≤ 35184372088832) (i : Nat) (hi : i < a.length) (L mid : List Int) (hL : L.length = i) (hm : Ok mid) (hml : mid.length = b.length) (Z : List Int) (hZ : Z.length = a.length - i)
    (r : List Int)
    (cont : ∀ D c, Ok D → (0 ≤ c ∧ c < 4294967296) → D.length = b.length → (val D : Int) + 4294967296 ^ b.length * c = val mid + rd a i * val b →
      Ev (fun k => nat_Mul.l0 k b ((L ++ D ++ Z).set (i + b.length) c) a (a.length : Int) ((i : Int) + 1)) r) (d : Nat) :
    ∀ (D : List Int) (c : Int), Ok D → (0 ≤ c ∧ c < 4294967296) → D.length + d = b.length → (val D : Int) + 4294967296 ^ D.length * c = val (mid.take D.length) + rd a i * val (b.take D.length) →
    Ev (fun k => nat_Mul.l1 k b (L ++ D ++ mid.drop D.length ++ Z) i (rd a i) c a (a.length : Int) (i : Int) b (b.length : Int) (D.length : Int)) r := by
  have ra := rd_ok ha (i : Int)
  induction d with
  | zero =>
    intro D c hD hc hl hv
    have hl' : D.length = b.length := by omega
    have h := cont D c hD hc hl' (by
      rw [hl', List.take_of_length_le (by omega), List.take_length] at hv
      exact hv)
    refine Ev.step (fun k => ?_) h
    simp only [nat_Mul.l1]
    have hlen : (L ++ D ++ mid.drop D.length ++ Z).length = i + b.length + (a.length - i) := by simp; omega
    rw [if_neg (by omega), wrap_id (by omega) (by omega), if_pos (by omega), if_pos (by rw [hlen]; omega), wrap_id (by omega) (by omega)]
    rw [List.drop_of_length_le (by omega), List.append_nil, show ((i : Int) + (b.length : Int)).toNat = i + b.length by omega]
  | succ d ih =>
    intro D c hD hc hl hv
    have rb := rd_ok hb (D.length : Int)
    have rm := rd_ok hm (D.length : Int)
    have vb := val_take_rd b hb D.length
    have vm := val_take_rd mid hm D.length
    have hdrop := drop_rd mid D.length (by omega)
    have hsum0 : 0 ≤ rd a i * rd b D.length := Int.mul_nonneg ra.1 rb.1
    have hsum1 : rd a i * rd b D.length ≤ 4294967295 * 4294967295 := Int.mul_le_mul (by omega) (by omega) rb.1 (by omega)
    have hread : rd (L ++ D ++ mid.drop D.length ++ Z) ((i : Int) + (D.length : Int)) = rd mid D.length := by
      rw [hdrop, List.append_assoc, List.cons_append]
      have := rd_at (L ++ D) (rd mid D.length) (mid.drop (D.length + 1) ++ Z)
      rw [List.length_append, hL] at this
      rw [show (i : Int) + (D.length : Int) = ((i + D.length : Nat) : Int) by omega]
      exact this
    have hset : ∀ y, (L ++ D ++ mid.drop D.length ++ Z).set (i + D.length) y = L ++ (D ++ [y]) ++ mid.drop (D ++ [y]).length ++ Z := by
      intro y
      rw [hdrop, List.append_assoc, List.cons_append]
      have := set_at (L ++ D) (rd mid D.length) (mid.drop (D.length + 1) ++ Z) y
      rw [List.length_append, hL] at this
      rw [this]
      simp
    have hlen : (L ++ D ++ mid.drop D.length ++ Z).length = i + b.length + (a.length - i) := by simp; omega
    have et : IntKind.u64.wrap (c + (IntKind.u64.wrap (rd mid D.length + (IntKind.u64.wrap (rd a i * rd b D.length))))) = c + rd mid D.length + rd a i * rd b D.length := by
      simp only [w64]
      omega
    refine Ev.step (fun k => ?_) (ih (D ++ [(c + rd mid D.length + rd a i * rd b D.length) % 4294967296]) ((c + rd mid D.length + rd a i * rd b D.length) / 4294967296) (hD.append (Ok.cons ⟨Int.emod_nonneg _ (by decide), Int.emod_lt_of_pos _ (by decide)⟩ Ok.nil)) (by omega) (by simp; omega) ?_)
    · simp only [nat_Mul.l1]
      rw [if_pos (by omega), if_pos (by omega), if_pos (by omega), wrap_id (i := (i : Int) + (D.length : Int)) (by omega) (by omega), if_pos (by omega), if_pos (by rw [hlen]; omega), wrap_id (i := (D.length : Int) + 1) (by omega) (by omega), hread, et, and_low (by omega) (by omega), show ((i : Int) + (D.length : Int)).toNat = i + D.length by omega, hset]
      simp
    · rw [List.length_append, List.length_singleton, vb, vm, val_snoc_int D _ ⟨Int.emod_nonneg _ (by decide), Int.emod_lt_of_pos _ (by decide)⟩, Int.pow_succ]
      have hx := Int.mul_ediv_add_emod (c + rd mid D.length + rd a i * rd b D.length) 4294967296
      exact ar1 _ _ _ _ _ _ _ _ _ _ hv hx

theorem mul_outer (a b : List Int) (ha : Ok a) (hb : Ok b) (hn : a.length + b.length ≤ 35184372088832) (d : Nat) : ∀ (i : Nat) (P : List Int), Ok P → i + d = a.length → P.length = i + b.length → (val P : Int) = val (a.take i) * val b →
    Ev (fun k => nat_Mul.l0 k b (P ++ List.replicate d 0) a (a.length : Int) (i : Int)) (lm (val a * val b)) := by
  induction d with
  | zero =>
    intro i P hP hi hl hv
    obtain rfl : i = a.length := by omega
    rw [List.take_length] at hv
    have hv' : val P = val a * val b := by
      have : ((val P : Nat) : Int) = ((val a * val b : Nat) : Int) := by rw [hv, Int.natCast_mul]
      omega
    refine Ev.step (f := fun k => (nat_trim.f k P).bind fun t => some t) (fun k => ?_) (Ev.bind ?_ (Ev.now _))
    · simp only [nat_Mul.l0]
      rw [if_neg (by omega)]
      simp
    · have := trim_ev P hP (by omega)
      rwa [hv'] at this
  | succ d ih =>
    intro i P hP hi hl hv
    have ra := rd_ok ha (i : Int)
    have va := val_take_rd a ha i
    have hmid : Ok (P.drop i) := hP.drop i
    have hsplit := val_append_int (P.take i) (P.drop i)
    rw [List.take_append_drop, List.length_take, Nat.min_eq_left (by omega)] at hsplit
    refine Ev.step (f := fun k => nat_Mul.l1 k b (P ++ List.replicate (d + 1) 0) i (rd a i) 0 a (a.length : Int) (i : Int) b (b.length : Int) 0) (fun k => ?_) ?_
    · simp only [nat_Mul.l0]
      rw [if_pos (by omega), if_pos (by omega), if_pos (by omega)]
    · have h := mul_inner a b ha hb hn i (by omega) (P.take i) (P.drop i) (by rw [List.length_take]; omega) hmid (by rw [List.length_drop]; omega) (List.replicate (d + 1) 0) (by rw [List.length_replicate]; omega) (lm (val a * val b)) (by
        intro D c hD hc hDl hDv
        have hlen : (P.take i ++ D).length = i + b.length := by rw [List.length_append, List.length_take, hDl]; omega
        have := ih (i + 1) (P.take i ++ D ++ [c]) (((hP.take i).append hD).append (Ok.cons hc Ok.nil)) (by omega) (by rw [List.length_append, hlen]; simp; omega) (by
          rw [val_snoc_int _ c hc, hlen, val_append_int, List.length_take, Nat.min_eq_left (by omega), va, Int.pow_add]
          exact ar2 _ _ _ _ _ _ _ _ _ _ hsplit hv hDv)
        refine Ev.congr (fun k => ?_) this
        have hs := fill (P.take i ++ D) d c
        rw [hlen] at hs
        rw [hs]
        rfl) b.length [] 0 Ok.nil (by omega) (by simp) (by simp [val])
      refine Ev.congr (fun k => ?_) h
      simp
theorem mulL_ev (a b : List Int) (ha : Ok a) (hb : Ok b) (hn : a.length + b.length ≤ 35184372088832) :
    Ev (fun k => nat_Mul.l0 k b (List.replicate (a.length + b.length) 0) a (a.length : Int) 0) (lm (val a * val b)) := by
  have h := mul_outer a b ha hb hn a.length 0 (List.replicate b.length 0) (Ok.zeros _) (by omega) (by simp) (by rw [val_zeros]; simp [val])
  refine Ev.congr (fun k => ?_) h
  rw [List.replicate_append_replicate, Nat.add_comm]
  rfl
theorem mul_ev (a b : List Int) (ha : U a) (hb : U b) (hn : a.length + b.length ≤ 35184372088832) : Ev (fun k => nat_Mul.f k a b) (lm (val a * val b)) := by
  have h := mulL_ev (lm (val a)) (lm (val b)) (lm_ok _) (lm_ok _) (by
    have := val_len a
    have := val_len b
    rw [lm_length, lm_length]; omega)
  rw [val_lm, val_lm] at h
  refine Ev.bind (clean_ev a ha (by omega)) (Ev.bind (clean_ev b hb (by omega)) ?_)
  have h1 := val_len a
  have h2 := val_len b
  refine Ev.congr (fun k => ?_) h
  have e : wrap64 (((lm (val a)).length : Int) + ((lm (val b)).length : Int)) = (((lm (val a)).length + (lm (val b)).length : Nat) : Int) := by
    rw [wrap_id (by rw [lm_length, lm_length]; omega) (by rw [lm_length, lm_length]; omega)]; omega
  rw [e, if_pos (by omega), if_pos (by rw [lm_length, lm_length]; omega), Int.toNat_natCast]

theorem shl_small {x : Int} (hx : 0 ≤ x ∧ x < 4294967296) (s : Nat) (hs : s < 32) : shl .u64 x (s : Int) = x * 2 ^ s := by
  unfold shl shlI
  have e : min ((s : Int)).toNat (IntKind.u64.bits) = s := by
    have : IntKind.u64.bits = 64 := rfl
    rw [this, Int.toNat_natCast]; omega
  rw [e, w64]
  have h1 : (2 : Int) ^ s ≤ 2 ^ 31 := by
    have := Nat.pow_le_pow_right (n := 2) (by decide) (show s ≤ 31 by omega)
    have h2 : ((2 ^ s : Nat) : Int) ≤ ((2 ^ 31 : Nat) : Int) := by omega
    rwa [Int.natCast_pow, Int.natCast_pow] at h2
  have h0 : (0 : Int) ≤ 2 ^ s := Int.le_of_lt (Int.pow_pos (by decide))
  have h3 : x * 2 ^ s ≤ 4294967295 * 2 ^ 31 := Int.mul_le_mul (by omega) h1 h0 (by decide)
  have h4 : 0 ≤ x * 2 ^ s := Int.mul_nonneg hx.1 h0
  omega
theorem or_low (s q c : Nat) (hc : c < 2 ^ s) (h : 2 ^ s * q + c < 18446744073709551616) : Go.bits .or .u64 (c : Int) ((2 ^ s * q : Nat) : Int) = ((2 ^ s * q + c : Nat) : Int) := by
  rw [bits_or_u64_nat c _ (by omega) (by omega), Nat.or_comm, ← Nat.two_pow_add_eq_or_of_lt hc q]
theorem shl_step (x c s : Nat) (hx : x < 4294967296) (hs : s < 32) (hc : c < 2 ^ s) : ∃ y z : Nat, y < 4294967296 ∧ z < 2 ^ s ∧ y + 4294967296 * z = c + x * 2 ^ s ∧
    Go.bits .or .u64 (c : Int) (Go.bits .and .u64 (shl .u64 (x : Int) (s : Int)) 4294967295) = y ∧ shl .u64 (x : Int) (s : Int) / 4294967296 = z := by
  rw [shl_small (x := (x : Int)) (by omega) s hs]
  have hp : 2 ^ s * 2 ^ (32 - s) = 4294967296 := by rw [← Nat.pow_add, show s + (32 - s) = 32 by omega]
  have e : (x : Int) * 2 ^ s = ((x * 2 ^ s : Nat) : Int) := by rw [Int.natCast_mul, Int.natCast_pow]; rfl
  have hps : 0 < 2 ^ s := Nat.pow_pos (by decide)
  have hxs : x * 2 ^ s < 4294967296 * 2 ^ s := Nat.mul_lt_mul_of_pos_right hx hps
  have h31 : 2 ^ s ≤ 2147483648 := by
    have := Nat.pow_le_pow_right (n := 2) (by decide) (show s ≤ 31 by omega)
    simpa using this
  have hm : x * 2 ^ s % 4294967296 = 2 ^ s * (x % 2 ^ (32 - s)) := by rw [← hp, Nat.mul_comm x, Nat.mul_mod_mul_left]
  have hlt : x % 2 ^ (32 - s) < 2 ^ (32 - s) := Nat.mod_lt _ (Nat.pow_pos (by decide))
  have hle : 2 ^ s * (x % 2 ^ (32 - s) + 1) ≤ 4294967296 := by rw [← hp]; exact Nat.mul_le_mul_left _ hlt
  rw [Nat.mul_add] at hle
  rw [e, and_low (by omega) (by omega), show ((x * 2 ^ s : Nat) : Int) % 4294967296 = ((x * 2 ^ s % 4294967296 : Nat) : Int) by omega, hm, or_low s _ c hc (by omega)]
  refine ⟨_, x * 2 ^ s / 4294967296, ?_, ?_, ?_, rfl, by omega⟩
  · omega
  · rw [Nat.div_lt_iff_lt_mul (by decide), Nat.mul_comm (2 ^ s)]; exact hxs
  · rw [← hm]; omega

theorem wr_add (n w : Nat) (h : w + n ≤ 1125899906842624) : wrap64 ((n : Int) + (w : Int)) = ((w + n : Nat) : Int) := by
  rw [wrap_id (by omega) (by omega)]; omega
theorem wr_one (m : Nat) (h : m ≤ 1125899906842624) : wrap64 ((m : Int) + 1) = (m : Int) + 1 := wrap_id (by omega) (by omega)
def ShlInv (a D : List Int) (c s : Nat) : Prop := val D + 4294967296 ^ D.length * c = val (a.take D.length) * 2 ^ s
def ShlC (c s : Nat) : Prop := c < 2 ^ s
theorem ShlC.lt {c s : Nat} (h : ShlC c s) (hs : s < 32) : c < 4294967296 := by
  have := Nat.pow_le_pow_right (n := 2) (by decide) (show s ≤ 31 by omega)
  have h' : c < 2 ^ s := h
  have e : (2 : Nat) ^ 31 = 2147483648 := rfl
  omega
theorem shl_next (a D : List Int) (hi : D.length < a.length) (ha : Ok a) (x c y z s : Nat) (hx : rd a (D.length : Int) = x) (hy : y < 4294967296) (hv : ShlInv a D c s) (hsum : y + 4294967296 * z = c + x * 2 ^ s) : ShlInv a (D ++ [(y : Int)]) z s := by
  have ra := rd_ok ha (D.length : Int)
  have va := val_take_succ a D.length hi
  rw [Int.emod_eq_of_lt ra.1 ra.2, hx, Int.toNat_natCast] at va
  unfold ShlInv at hv ⊢
  rw [List.length_append, List.length_singleton, va, val_snoc, Nat.pow_succ]
  have : ((y : Int) % 4294967296).toNat = y := by clear hv hsum va; omega
  rw [this]
  exact ar3 _ _ _ _ _ _ _ _ hv hsum
theorem shl_end (a D : List Int) (w c s : Nat) (hl : D.length = a.length) (hc : c < 4294967296) (hv : ShlInv a D c s) : val (List.replicate w 0 ++ D ++ [(c : Int)]) = 4294967296 ^ w * (val a * 2 ^ s) := by
  unfold ShlInv at hv
  rw [hl, List.take_length] at hv
  rw [List.append_assoc, val_append, val_zeros, List.length_replicate, val_snoc, hl, ← hv]
  have : ((c : Int) % 4294967296).toNat = c := by clear hv; omega
  rw [this, Nat.zero_add]
theorem shl_loop (a : List Int) (ha : Ok a) (w s : Nat) (hs : s < 32) (hn : a.length + w ≤ 35184372088830) (d : Nat) : ∀ (D : List Int) (c : Nat), Ok D → ShlC c s → D.length + d = a.length → ShlInv a D c s →
    Ev (fun k => nat_shl.l0 k (w : Int) (s : Int) (List.replicate w 0 ++ D ++ (c : Int) :: List.replicate d 0) a (a.length : Int) (D.length : Int)) (lm (4294967296 ^ w * (val a * 2 ^ s))) := by
  induction d with
  | zero =>
    intro D c hD hc hl hv
    have hc' := hc.lt hs
    have hok : Ok (List.replicate w 0 ++ D ++ [(c : Int)]) := ((Ok.zeros w).append hD).append (Ok.cons (by omega) Ok.nil)
    have hlen : (List.replicate w 0 ++ D ++ [(c : Int)]).length = w + D.length + 1 := by simp; omega
    have ht := trim_ev _ hok (by omega)
    rw [shl_end a D w c s (by omega) hc' hv] at ht
    refine Ev.step (f := fun k => (nat_trim.f k (List.replicate w 0 ++ D ++ [(c : Int)])).bind fun t => some t) (fun k => ?_) (Ev.bind ht (Ev.now _))
    simp only [nat_shl.l0, trimM_eq]
    rw [if_neg (by omega)]
    rfl
  | succ d ih =>
    intro D c hD hc hl hv
    have ra := rd_ok ha (D.length : Int)
    obtain ⟨x, hx⟩ : ∃ x : Nat, rd a (D.length : Int) = x := ⟨(rd a (D.length : Int)).toNat, by omega⟩
    have hxlt : x < 4294967296 := by omega
    have hlen : (List.replicate w (0 : Int) ++ D).length = w + D.length := by rw [List.length_append, List.length_replicate]
    have hall : (List.replicate w (0 : Int) ++ D ++ (c : Int) :: List.replicate (d + 1) 0).length = w + D.length + 1 + (d + 1) := by rw [List.length_append, hlen, List.length_cons, List.length_replicate]; omega
    have g1 : w + D.length ≤ 1125899906842624 := by omega
    have g2 : D.length ≤ 1125899906842624 := by omega
    have g3 : D.length < a.length := by omega
    have c1 : (D.length : Int) < (a.length : Int) := by omega
    have c2 : 0 ≤ (D.length : Int) := by omega
    have c3 : 0 ≤ (s : Int) := by omega
    have c4 : 0 ≤ ((w + D.length : Nat) : Int) := by omega
    have c5 : ((w + D.length : Nat) : Int) < ((List.replicate w (0 : Int) ++ D ++ (c : Int) :: List.replicate (d + 1) 0).length : Int) := by omega
    have c6 : 0 ≤ ((w + D.length + 1 : Nat) : Int) := by omega
    have c7 : ((w + D.length + 1 : Nat) : Int) < ((List.replicate w (0 : Int) ++ D ++ (c : Int) :: List.replicate (d + 1) 0).length : Int) := by omega
    have hdl : ∀ y : Int, (D ++ [y]).length + d = a.length := fun y => by rw [List.length_append, List.length_singleton]; omega
    have hread : rd (List.replicate w 0 ++ D ++ (c : Int) :: List.replicate (d + 1) 0) ((w + D.length : Nat) : Int) = (c : Int) := by
      have := rd_at (List.replicate w 0 ++ D) (c : Int) (List.replicate (d + 1) 0)
      rwa [hlen] at this
    obtain ⟨y, z, hy, hz, hsum, e1, e2⟩ := shl_step x c s hxlt hs hc
    have hnext := shl_next a D g3 ha x c y z s hx hy hv hsum
    have hylt : (0 : Int) ≤ (y : Int) ∧ (y : Int) < 4294967296 := by clear e1 e2 hsum hread hx ra; omega
    have ew := wr_add D.length w g1
    have ew1 := wr_succ (w + D.length) g1
    have ew2 := wr_succ D.length g2
    have s1 := set_at (List.replicate w 0 ++ D) (c : Int) (List.replicate (d + 1) 0) (y : Int)
    rw [hlen] at s1
    have s2 := set_at (List.replicate w 0 ++ D ++ [(y : Int)]) 0 (List.replicate d 0) (z : Int)
    rw [List.length_append, hlen, List.length_singleton] at s2
    have s3 : List.replicate w 0 ++ D ++ (y : Int) :: List.replicate (d + 1) 0 = List.replicate w 0 ++ D ++ [(y : Int)] ++ 0 :: List.replicate d 0 := by rw [List.replicate_succ, List.append_assoc (List.replicate w 0 ++ D)]; rfl
    refine Ev.step (fun k => ?_) (ih (D ++ [(y : Int)]) z (hD.append (Ok.cons hylt Ok.nil)) hz (hdl _) hnext)
    simp only [nat_shl.l0, List.length_set]
    rw [ew, ew1, ew2, if_pos c1, if_pos c2, if_pos c1, if_pos c3, if_pos c4, if_pos c5, if_pos c6, if_pos c7, hread, hx, e1, e2, Int.toNat_natCast, Int.toNat_natCast, s1, s3, s2, List.length_append, List.length_singleton, ← List.append_assoc]
theorem shl_ev (a : List Int) (ha : Ok a) (n : Nat) (hn : a.length + n ≤ 35184372088830) : Ev (fun k => nat_shl.f k a (n : Int)) (lm (val a * 2 ^ n)) := by
  have h := shl_loop a ha (n / 32) (n % 32) (Nat.mod_lt _ (by decide)) (by omega) a.length [] 0 Ok.nil (Nat.pow_pos (by decide)) (by simp) (by simp [val, ShlInv])
  have e : 4294967296 ^ (n / 32) * (val a * 2 ^ (n % 32)) = val a * 2 ^ n := by
    have : (4294967296 : Nat) ^ (n / 32) * 2 ^ (n % 32) = 2 ^ n := by
      rw [show (4294967296 : Nat) = 2 ^ 32 from rfl, ← Nat.pow_mul, ← Nat.pow_add]
      congr 1
      omega
    rw [Nat.mul_left_comm, this]
  rw [e] at h
  refine Ev.congr (fun k => ?_) h
  unfold nat_shl.f
  have t1 : wrap64 (Int.tdiv (n : Int) 32) = ((n / 32 : Nat) : Int) := by rw [show Int.tdiv (n : Int) 32 = ((n / 32 : Nat) : Int) from rfl, wrap_id (by omega) (by omega)]
  have t2 : Int.tmod (n : Int) 32 = ((n % 32 : Nat) : Int) := rfl
  rw [t1, t2, wrap_id (i := (a.length : Int) + _) (by omega) (by omega), wrap_id (by omega) (by omega), if_pos (by omega), if_pos (by omega)]
  have e3 : ((a.length : Int) + ((n / 32 : Nat) : Int) + 1).toNat = n / 32 + (a.length + 1) := by omega
  rw [e3, ← List.replicate_append_replicate, List.replicate_succ]
  simp

theorem shr_small {x : Int} (s : Nat) (hs : s < 32) : shr .u64 x (s : Int) = x / 2 ^ s := by
  unfold shr shrI
  have e : min ((s : Int)).toNat (IntKind.u64.bits) = s := by
    have : IntKind.u64.bits = 64 := rfl
    rw [this, Int.toNat_natCast]; omega
  rw [e]
theorem drop_two (a : List Int) (ha : Ok a) (j : Nat) : ∃ r : Nat, val (a.drop j) = (rd a (j : Int)).toNat + 4294967296 * (rd a ((j : Int) + 1)).toNat + 18446744073709551616 * r := by
  have r0 := rd_ok ha (j : Int)
  have r1 := rd_ok ha ((j : Int) + 1)
  by_cases h : j < a.length
  · have d0 := val_drop a j h
    rw [Int.emod_eq_of_lt r0.1 r0.2] at d0
    by_cases h1 : j + 1 < a.length
    · have d1 := val_drop a (j + 1) h1
      have e : ((j + 1 : Nat) : Int) = (j : Int) + 1 := by omega
      rw [e, Int.emod_eq_of_lt r1.1 r1.2] at d1
      refine ⟨val (a.drop (j + 1 + 1)), ?_⟩
      rw [d0, d1]
      omega
    · refine ⟨0, ?_⟩
      have d1 : val (a.drop (j + 1)) = 0 := by rw [List.drop_of_length_le (by omega)]; rfl
      rw [d0, d1, rd_beyond a ((j : Int) + 1) (by omega)]
      rfl
  · refine ⟨0, ?_⟩
    rw [List.drop_of_length_le (by omega), rd_beyond a _ (by omega), rd_beyond a _ (by omega)]
    rfl
theorem shr_limb (X s : Nat) (x t r : Nat) (hs : s < 32) (hX : X = x + 4294967296 * t + 18446744073709551616 * r) : X / 2 ^ s % 4294967296 = (x + 4294967296 * t) / 2 ^ s % 4294967296 := by
  have hp : 2 ^ s * 2 ^ (32 - s) = 4294967296 := by rw [← Nat.pow_add, show s + (32 - s) = 32 by omega]
  have e : X = (x + 4294967296 * t) + 2 ^ s * (4294967296 * (2 ^ (32 - s) * r)) := by
    rw [hX, ar4, hp, ← Nat.mul_assoc]
  rw [e, Nat.add_mul_div_left _ _ (Nat.pow_pos (by decide)), Nat.add_mul_mod_self_left]
def ShrInv (X s : Nat) (D : List Int) : Prop := val D = X / 2 ^ s % 4294967296 ^ D.length
def shrl (X s : Nat) : Nat := X / 2 ^ s % 4294967296
theorem shrl_lt (X s : Nat) : shrl X s < 4294967296 := Nat.mod_lt _ (by decide)
theorem shr_step (a : List Int) (ha : Ok a) (j s : Nat) (hs : s < 32) :
    Go.bits .and .u64 (shr .u64 (Go.bits .or .u64 (IntKind.u64.wrap (rd a ((j : Int) + 1) * 4294967296)) (rd a (j : Int))) (s : Int)) 4294967295 = ((shrl (val (a.drop j)) s : Nat) : Int) := by
  have r0 := rd_ok ha (j : Int)
  have r1 := rd_ok ha ((j : Int) + 1)
  obtain ⟨r, hr⟩ := drop_two a ha j
  unfold shrl
  rw [shr_limb _ s _ _ r hs hr, or_sum r1.1 r1.2 r0.1 r0.2, shr_small s hs]
  have hb : (rd a ((j : Int) + 1) * 4294967296 + rd a (j : Int)) = (((rd a (j : Int)).toNat + 4294967296 * (rd a ((j : Int) + 1)).toNat : Nat) : Int) := by clear hr; omega
  have hlt : (rd a (j : Int)).toNat + 4294967296 * (rd a ((j : Int) + 1)).toNat < 18446744073709551616 := by clear hr; omega
  clear hr
  rw [hb]
  generalize (rd a (j : Int)).toNat + 4294967296 * (rd a ((j : Int) + 1)).toNat = z at hlt ⊢
  have hq : (z : Int) / 2 ^ s = ((z / 2 ^ s : Nat) : Int) := by rw [Int.natCast_ediv, Int.natCast_pow]; rfl
  have hle : z / 2 ^ s ≤ z := Nat.div_le_self _ _
  rw [hq]
  generalize z / 2 ^ s = y at hle ⊢
  rw [and_low (by omega) (by omega)]
  omega
theorem drop_more (a : List Int) (w n : Nat) (h : w + n ≤ a.length) : val (a.drop (w + n)) = val (a.drop w) / 4294967296 ^ n := by
  rw [← List.drop_drop]
  have h1 := split_at (a.drop w) n
  have h2 := val_lt ((a.drop w).take n)
  have h3 : ((a.drop w).take n).length = n := by rw [List.length_take, List.length_drop]; omega
  rw [h3] at h1 h2
  rw [h1, Nat.add_mul_div_left _ _ (Nat.pow_pos (by decide)), Nat.div_eq_of_lt h2, Nat.zero_add]
theorem shr_next (a : List Int) (w s : Nat) (D : List Int) (h : w + D.length ≤ a.length) (hv : ShrInv (val (a.drop w)) s D) : ShrInv (val (a.drop w)) s (D ++ [((shrl (val (a.drop (w + D.length))) s : Nat) : Int)]) := by
  have hlt := shrl_lt (val (a.drop (w + D.length))) s
  unfold ShrInv at hv ⊢
  rw [List.length_append, List.length_singleton, val_snoc, hv, Nat.pow_succ]
  have e2 : ((((shrl (val (a.drop (w + D.length))) s : Nat) : Int)) % 4294967296).toNat = shrl (val (a.drop (w + D.length))) s := by clear hv; omega
  rw [e2]
  unfold shrl
  rw [drop_more a w _ h, Nat.div_div_eq_div_mul, Nat.mul_comm (4294967296 ^ D.length) (2 ^ s), ← Nat.div_div_eq_div_mul, Nat.mod_mul]
theorem shr_end (a : List Int) (w s : Nat) (D : List Int) (h : D.length = a.length - w) (hv : ShrInv (val (a.drop w)) s D) : val D = val (a.drop w) / 2 ^ s := by
  unfold ShrInv at hv
  have h1 := val_lt (a.drop w)
  rw [List.length_drop, ← h] at h1
  rw [hv, Nat.mod_eq_of_lt (Nat.lt_of_le_of_lt (Nat.div_le_self _ _) h1)]
theorem shr_loop (a : List Int) (ha : Ok a) (w s : Nat) (hs : s < 32) (hn : a.length ≤ 35184372088830) (hw : w ≤ a.length) (d : Nat) : ∀ (D : List Int), Ok D → D.length + d = a.length - w → ShrInv (val (a.drop w)) s D →
    Ev (fun k => nat_shr.l0 k a (w : Int) (s : Int) (D ++ List.replicate d 0) ((a.length - w : Nat) : Int) (D.length : Int)) (lm (val (a.drop w) / 2 ^ s)) := by
  induction d with
  | zero =>
    intro D hD hl hv
    have ht := trim_ev D hD (by omega)
    rw [shr_end a w s D (by omega) hv] at ht
    refine Ev.step (f := fun k => (nat_trim.f k D).bind fun t => some t) (fun k => ?_) (Ev.bind ht (Ev.now _))
    simp only [nat_shr.l0]
    rw [if_neg (by omega), List.replicate_zero, List.append_nil]
  | succ d ih =>
    intro D hD hl hv
    have g1 : w + D.length ≤ 1125899906842624 := by omega
    have g2 : D.length ≤ 1125899906842624 := by omega
    have g3 : w + D.length ≤ a.length := by omega
    have c1 : (D.length : Int) < ((a.length - w : Nat) : Int) := by omega
    have c2 : 0 ≤ ((w + D.length : Nat) : Int) := by omega
    have c3 : ((w + D.length : Nat) : Int) < (a.length : Int) := by omega
    have c4 : 0 ≤ (s : Int) := by omega
    have c5 : 0 ≤ (D.length : Int) := by omega
    have c6 : (D.length : Int) < ((D ++ List.replicate (d + 1) (0 : Int)).length : Int) := by rw [List.length_append, List.length_replicate]; omega
    have c7 : 0 ≤ ((w + D.length : Nat) : Int) + 1 := by omega
    have hdl : ∀ y : Int, (D ++ [y]).length + d = a.length - w := fun y => by rw [List.length_append, List.length_singleton]; omega
    have hy := shr_step a ha (w + D.length) s hs
    have hlt := shrl_lt (val (a.drop (w + D.length))) s
    have hnext := shr_next a w s D g3 hv
    have e0 := wr_add D.length w g1
    have e1 := wr_one (w + D.length) g1
    have e2 := wr_succ D.length g2
    generalize shrl (val (a.drop (w + D.length))) s = y at hy hlt hnext
    refine Ev.step (fun k => ?_) (ih (D ++ [(y : Int)]) (hD.append (Ok.cons ⟨Int.natCast_nonneg _, by clear hy e0 e1 e2; omega⟩ Ok.nil)) (hdl _) hnext)
    simp only [nat_shr.l0]
    rw [if_pos c1, e0, e1, limb_eq _ _ c7]
    simp only [Option.bind_some]
    rw [if_pos c2, if_pos c3, if_pos c4, if_pos c5, if_pos c6, hy, e2, Int.toNat_natCast, fill, List.length_append, List.length_singleton]
theorem shr_ev (a : List Int) (ha : Ok a) (n : Nat) (hn : a.length ≤ 35184372088830) (hn2 : n ≤ 9223372036854775807) : Ev (fun k => nat_shr.f k a (n : Int)) (lm (val a / 2 ^ n)) := by
  have t1 : wrap64 (Int.tdiv (n : Int) 32) = ((n / 32 : Nat) : Int) := by rw [show Int.tdiv (n : Int) 32 = ((n / 32 : Nat) : Int) from rfl, wrap_id (by omega) (by omega)]
  have t2 : Int.tmod (n : Int) 32 = ((n % 32 : Nat) : Int) := rfl
  have hpow : (2 : Nat) ^ n = 4294967296 ^ (n / 32) * 2 ^ (n % 32) := by
    rw [show (4294967296 : Nat) = 2 ^ 32 from rfl, ← Nat.pow_mul, ← Nat.pow_add]
    congr 1
    omega
  by_cases hw : a.length ≤ n / 32
  · have h0 : val a / 2 ^ n = 0 := by
      apply Nat.div_eq_of_lt
      rw [hpow]
      have h1 := val_lt a
      have h2 : 4294967296 ^ a.length ≤ 4294967296 ^ (n / 32) := Nat.pow_le_pow_right (by decide) hw
      have h3 : 0 < 2 ^ (n % 32) := Nat.pow_pos (by decide)
      have h4 : 4294967296 ^ (n / 32) * 1 ≤ 4294967296 ^ (n / 32) * 2 ^ (n % 32) := Nat.mul_le_mul_left _ h3
      omega
    rw [h0, lm_zero]
    refine Ev.congr (fun k => ?_) (Ev.now _)
    unfold nat_shr.f
    rw [t1, if_pos (by omega)]
  · have h := shr_loop a ha (n / 32) (n % 32) (Nat.mod_lt _ (by decide)) hn (by omega) (a.length - n / 32) [] Ok.nil (by simp) (by simp [val, Nat.mod_one, ShrInv])
    have hd : val (a.drop (n / 32)) = val a / 4294967296 ^ (n / 32) := by
      have h1 := split_at a (n / 32)
      have h2 := val_lt (a.take (n / 32))
      have h3 : (a.take (n / 32)).length = n / 32 := by rw [List.length_take]; omega
      rw [h3] at h1 h2
      conv => rhs; rw [h1]
      rw [Nat.add_mul_div_left _ _ (Nat.pow_pos (by decide)), Nat.div_eq_of_lt h2, Nat.zero_add]
    rw [hd, Nat.div_div_eq_div_mul, ← hpow] at h
    refine Ev.congr (fun k => ?_) h
    unfold nat_shr.f
    rw [t1, t2, if_neg (by omega), wrap_id (by omega) (by omega), if_pos (by omega), if_pos (by omega), show ((a.length : Int) - ((n / 32 : Nat) : Int)).toNat = a.length - n / 32 by omega]
    simp only [Option.bind_some, List.length_replicate]
    rfl


end Go.DI.Th
namespace Go.DI.Th
open Go Go.RowKit Go.DI

theorem tk1 (p vu dc vd t vv y dbt c u v dbt' c' : Int) (hv : vu + p * (dbt + c) = vd + t * vv) (h1 : u + 4294967296 * dbt' = y + dc + dbt) (h2 : 4294967296 * c' + dc = c + t * v) :
    (vu + p * u) + p * 4294967296 * (dbt' + c') = (vd + p * y) + t * (vv + p * v) := by grind
def TakeInv (u v : List Int) (t : Nat) (D : List Int) (c debt : Int) : Prop :=
  (val (u.take D.length) : Int) + 4294967296 ^ D.length * (debt + c) = val D + t * val (v.take D.length)
def CarryInv (v : List Int) (t n : Nat) (c : Int) : Prop := c = ((t * val (v.take n) / 4294967296 ^ n : Nat) : Int)
theorem carry_next (t V p x : Nat) (hV : V < p) : t * (V + p * x) / (p * 4294967296) = (t * V / p + t * x) / 4294967296 := by
  have hp : 0 < p := by omega
  rw [← Nat.div_div_eq_div_mul, Nat.mul_add, show t * (p * x) = p * (t * x) by rw [Nat.mul_left_comm], Nat.add_mul_div_left _ _ hp]
theorem carry_lt (t V p : Nat) (hV : V < p) (ht : t ≤ 4294967296) : t * V / p < 4294967296 := by
  rw [Nat.div_lt_iff_lt_mul (by omega)]
  have : t * V ≤ 4294967296 * V := Nat.mul_le_mul_right _ ht
  omega
theorem CarryInv.range {v : List Int} {t n : Nat} {c : Int} (h : CarryInv v t n c) (ht : t ≤ 4294967296) : 0 ≤ c ∧ c < 4294967296 := by
  have h1 := val_lt (v.take n)
  have hlt : val (v.take n) < 4294967296 ^ n := by
    have : 4294967296 ^ (v.take n).length ≤ 4294967296 ^ n := Nat.pow_le_pow_right (by decide) (by rw [List.length_take]; exact Nat.min_le_left _ _)
    exact Nat.lt_of_lt_of_le h1 this
  have := carry_lt t _ _ hlt ht
  unfold CarryInv at h
  rw [h]
  generalize t * val (v.take n) / 4294967296 ^ n = z at this
  omega
theorem val_take_rdN (l : List Int) (hl : Ok l) (i : Nat) : val (l.take (i + 1)) = val (l.take i) + 4294967296 ^ i * (rd l i).toNat := by
  by_cases h : i < l.length
  · have r := rd_ok hl (i : Int)
    have := val_take_succ l i h
    rwa [Int.emod_eq_of_lt r.1 r.2] at this
  · rw [List.take_of_length_le (by omega), List.take_of_length_le (by omega), rd_beyond l i (by omega)]
    rfl
theorem CarryInv.next {v : List Int} (hv : Ok v) {t n : Nat} {c : Int} (h : CarryInv v t n c) : CarryInv v t (n + 1) ((c + (t : Int) * rd v n) / 4294967296) := by
  have r := rd_ok hv (n : Int)
  have h1 := val_lt (v.take n)
  have hlt : val (v.take n) < 4294967296 ^ n := by
    have : 4294967296 ^ (v.take n).length ≤ 4294967296 ^ n := Nat.pow_le_pow_right (by decide) (by rw [List.length_take]; exact Nat.min_le_left _ _)
    exact Nat.lt_of_lt_of_le h1 this
  unfold CarryInv at h ⊢
  rw [val_take_rdN v hv n, Nat.pow_succ, carry_next _ _ _ _ hlt, h]
  obtain ⟨m, hm⟩ : ∃ m : Nat, rd v (n : Int) = m := ⟨(rd v (n : Int)).toNat, by clear h h1 hlt; omega⟩
  rw [hm, Int.toNat_natCast, ← Int.natCast_mul, ← Int.natCast_add]
  rfl
theorem take_limb (u v c debt t : Int) (hu : 0 ≤ u ∧ u < 4294967296) (hv : 0 ≤ v ∧ v < 4294967296) (hc : 0 ≤ c ∧ c < 4294967296) (hd : debt = 0 ∨ debt = 1) (ht : 0 ≤ t ∧ t ≤ 4294967296) :
    ∃ y dbt' lowc, (0 ≤ y ∧ y < 4294967296) ∧ (dbt' = 0 ∨ dbt' = 1) ∧ u + 4294967296 * dbt' = y + lowc + debt ∧ 4294967296 * ((c + t * v) / 4294967296) + lowc = c + t * v ∧
      IntKind.u64.wrap (c + (IntKind.u64.wrap (t * v))) = c + t * v ∧
      Go.bits .and .u64 (IntKind.u64.wrap ((IntKind.u64.wrap ((IntKind.u64.wrap (4294967296 + u)) - (Go.bits .and .u64 (c + t * v) 4294967295))) - debt)) 4294967295 = y ∧
      IntKind.u64.wrap (1 - ((IntKind.u64.wrap ((IntKind.u64.wrap ((IntKind.u64.wrap (4294967296 + u)) - (Go.bits .and .u64 (c + t * v) 4294967295))) - debt)) / 4294967296)) = dbt' := by
  have h0 : 0 ≤ t * v := Int.mul_nonneg ht.1 hv.1
  have h1 : t * v ≤ 4294967296 * 4294967295 := Int.mul_le_mul ht.2 (by omega) hv.1 (by decide)
  generalize t * v = m at h0 h1 ⊢
  rw [and_low (x := c + m) (by omega) (by omega)]
  have hlow0 : 0 ≤ (c + m) % 4294967296 := Int.emod_nonneg _ (by decide)
  have hlow1 : (c + m) % 4294967296 < 4294967296 := Int.emod_lt_of_pos _ (by decide)
  have hdm := Int.mul_ediv_add_emod (c + m) 4294967296
  generalize (c + m) % 4294967296 = lw at hlow0 hlow1 hdm ⊢
  have e : IntKind.u64.wrap ((IntKind.u64.wrap ((IntKind.u64.wrap (4294967296 + u)) - lw)) - debt) = 4294967296 + u - lw - debt := by
    simp only [w64]
    omega
  rw [e, and_low (by omega) (by omega)]
  simp only [w64]
  refine ⟨(4294967296 + u - lw - debt) % 4294967296, 1 - (4294967296 + u - lw - debt) / 4294967296, lw, ⟨Int.emod_nonneg _ (by decide), Int.emod_lt_of_pos _ (by decide)⟩, ?_, ?_, hdm, ?_, rfl, ?_⟩ <;> omega
theorem TakeInv.next {u v : List Int} (hu : Ok u) (hv : Ok v) {t : Nat} {D : List Int} {c debt y dbt' lowc : Int} (h : TakeInv u v t D c debt) (hy : 0 ≤ y ∧ y < 4294967296) (h1 : rd u D.length + 4294967296 * dbt' = y + lowc + debt)
    (h2 : 4294967296 * ((c + t * rd v D.length) / 4294967296) + lowc = c + t * rd v D.length) : TakeInv u v t (D ++ [y]) ((c + t * rd v D.length) / 4294967296) dbt' := by
  unfold TakeInv at h ⊢
  rw [List.length_append, List.length_singleton, val_take_rd u hu, val_take_rd v hv, val_snoc_int D y hy, Int.pow_succ]
  exact tk1 _ _ _ _ _ _ _ _ _ _ _ _ _ h h1 h2
theorem take_loop (u v : List Int) (hu : Ok u) (hv : Ok v) (t : Nat) (ht : t ≤ 4294967296) (hn : u.length ≤ 35184372088832) (d : Nat) : ∀ (D : List Int) (c debt : Int), Ok D → D.length + d = u.length → (debt = 0 ∨ debt = 1) → CarryInv v t D.length c → TakeInv u v t D c debt →
    ∃ (D' : List Int) (c' debt' : Int), Ok D' ∧ D'.length = u.length ∧ (debt' = 0 ∨ debt' = 1) ∧ CarryInv v t u.length c' ∧ TakeInv u v t D' c' debt' ∧
      Ev (fun k => nat_take.l0 k (D ++ u.drop D.length) v (t : Int) c debt (u.length : Int) (D.length : Int)) ((debt' == 1), D') := by
  induction d with
  | zero =>
    intro D c debt hD hl hdebt hc hi
    have hl' : D.length = u.length := by omega
    refine ⟨D, c, debt, hD, hl', hdebt, by rw [← hl']; exact hc, hi, Ev.step (fun k => ?_) (Ev.now _)⟩
    simp only [nat_take.l0]
    rw [if_neg (by omega), List.drop_of_length_le (by omega), List.append_nil]
  | succ d ih =>
    intro D c debt hD hl hdebt hc hi
    have g1 : (D.length : Int) < (u.length : Int) := by omega
    have g2 : 0 ≤ (D.length : Int) := by omega
    have g3 : (D.length : Int) < ((D ++ u.drop D.length).length : Int) := by rw [List.length_append, List.length_drop]; omega
    have g4 : D.length ≤ 1125899906842624 := by omega
    have g5 : D.length < u.length := by omega
    have hdl : ∀ y : Int, (D ++ [y]).length + d = u.length := fun y => by rw [List.length_append, List.length_singleton]; omega
    have hdrop := drop_rd u D.length g5
    have hread : rd (D ++ u.drop D.length) (D.length : Int) = rd u D.length := by
      rw [hdrop]; exact rd_at _ _ _
    have hset : ∀ y, (D ++ u.drop D.length).set D.length y = (D ++ [y]) ++ u.drop (D ++ [y]).length := by
      intro y
      rw [hdrop, set_at, List.length_append, List.length_singleton, List.append_assoc]
      rfl
    have ru := rd_ok hu (D.length : Int)
    have rv := rd_ok hv (D.length : Int)
    obtain ⟨y, dbt', lowc, hy, hdb, a1, a2, a3, a4, a5⟩ := take_limb (rd u D.length) (rd v D.length) c debt (t : Int) ru rv (hc.range ht) hdebt ⟨Int.natCast_nonneg _, Int.ofNat_le.2 ht⟩
    have hc' := hc.next hv
    have hlen1 : (D ++ [y]).length = D.length + 1 := by rw [List.length_append, List.length_singleton]
    obtain ⟨D', c', debt', b1, b2, b3, b4, b5, b6⟩ := ih (D ++ [y]) ((c + t * rd v D.length) / 4294967296) dbt' (hD.append (Ok.cons hy Ok.nil)) (hdl y) hdb (by rw [hlen1]; exact hc') (hi.next hu hv hy a1 a2)
    refine ⟨D', c', debt', b1, b2, b3, b4, b5, Ev.step (fun k => ?_) b6⟩
    have ew := wr_succ D.length g4
    simp only [nat_take.l0]
    rw [if_pos g1, limb_eq v _ g2]
    simp only [Option.bind_some]
    rw [if_pos g2, if_pos g3, hread, a3, a4, a5, ew, Int.toNat_natCast, hset, hlen1]
theorem take_ev (u v : List Int) (hu : Ok u) (hv : Ok v) (t : Nat) (ht : t ≤ 4294967296) (hn : u.length ≤ 35184372088832) (hl : v.length < u.length) :
    ∃ (D : List Int) (b : Bool), Ok D ∧ D.length = u.length ∧ val u + (if b then 4294967296 ^ u.length else 0) = val D + t * val v ∧ Ev (fun k => nat_take.f k u v (t : Int)) (b, D) := by
  obtain ⟨D, c, debt, h1, h2, h3, h4, h5, h6⟩ := take_loop u v hu hv t ht hn u.length [] 0 0 Ok.nil (by simp) (Or.inl rfl) (by simp [CarryInv, val]) (by simp [TakeInv, val])
  have hvl : v.take u.length = v := List.take_of_length_le (Nat.le_of_lt hl)
  have hc0 : c = 0 := by
    unfold CarryInv at h4
    rw [hvl] at h4
    have hv1 := val_lt v
    have : t * val v < 4294967296 ^ u.length := by
      have e1 : t * val v ≤ 4294967296 * val v := Nat.mul_le_mul_right _ ht
      have e2 : 4294967296 * val v < 4294967296 * 4294967296 ^ v.length := Nat.mul_lt_mul_of_pos_left hv1 (by decide)
      have e3 : 4294967296 * 4294967296 ^ v.length = 4294967296 ^ (v.length + 1) := by rw [Nat.pow_succ, Nat.mul_comm]
      have e4 : 4294967296 ^ (v.length + 1) ≤ 4294967296 ^ u.length := Nat.pow_le_pow_right (by decide) hl
      exact Nat.lt_of_le_of_lt e1 (Nat.lt_of_lt_of_le e2 (by rw [e3]; exact e4))
    rw [Nat.div_eq_of_lt this] at h4
    exact h4
  refine ⟨D, (debt == 1), h1, h2, ?_, ?_⟩
  · unfold TakeInv at h5
    rw [h2, List.take_length, hvl, hc0] at h5
    clear h4 h6
    have e : ((val u + (if (debt == 1) = true then 4294967296 ^ u.length else 0) : Nat) : Int) = ((val D + t * val v : Nat) : Int) := by
      rw [Int.natCast_add, Int.natCast_add, Int.natCast_mul, ← h5]
      rcases h3 with rfl | rfl
      · simp
      · simp
    exact Int.ofNat.inj e
  · refine Ev.congr (fun k => ?_) h6
    unfold nat_take.f
    rfl

theorem gv1 (p vu vv vd c y u v c' : Nat) (hv : vd + p * c = vu + vv) (h1 : y + 4294967296 * c' = c + u + v) :
    (vd + p * y) + p * 4294967296 * c' = (vu + p * u) + (vv + p * v) := by grind
def GiveInv (u v D : List Int) (c : Nat) : Prop := val D + 4294967296 ^ D.length * c = val (u.take D.length) + val (v.take D.length)
theorem GiveInv.next {u v : List Int} (hu : Ok u) (hv : Ok v) {D : List Int} {c y c' : Nat} (h : GiveInv u v D c) (hy : y < 4294967296) (h1 : y + 4294967296 * c' = c + (rd u D.length).toNat + (rd v D.length).toNat) : GiveInv u v (D ++ [(y : Int)]) c' := by
  unfold GiveInv at h ⊢
  have e : ((y : Int) % 4294967296).toNat = y := by clear h h1; omega
  rw [List.length_append, List.length_singleton, val_take_rdN u hu, val_take_rdN v hv, val_snoc, e, Nat.pow_succ]
  exact gv1 _ _ _ _ _ _ _ _ _ h h1
theorem give_limb (u v : Int) (c : Nat) (hu : 0 ≤ u ∧ u < 4294967296) (hv : 0 ≤ v ∧ v < 4294967296) (hc : c ≤ 1) :
    ∃ y c' : Nat, y < 4294967296 ∧ c' ≤ 1 ∧ y + 4294967296 * c' = c + u.toNat + v.toNat ∧ Go.bits .and .u64 (IntKind.u64.wrap ((c : Int) + (IntKind.u64.wrap (u + v)))) 4294967295 = y ∧ (IntKind.u64.wrap ((c : Int) + (IntKind.u64.wrap (u + v)))) / 4294967296 = c' := by
  have e : IntKind.u64.wrap ((c : Int) + (IntKind.u64.wrap (u + v))) = ((c + u.toNat + v.toNat : Nat) : Int) := by simp only [w64]; omega
  rw [e, and_low (by omega) (by omega)]
  exact ⟨(c + u.toNat + v.toNat) % 4294967296, (c + u.toNat + v.toNat) / 4294967296, by omega, by omega, by omega, by omega, by omega⟩
theorem give_loop (u v : List Int) (hu : Ok u) (hv : Ok v) (hn : u.length ≤ 35184372088832) (d : Nat) : ∀ (D : List Int) (c : Nat), Ok D → c ≤ 1 → D.length + d = u.length → GiveInv u v D c →
    ∃ (D' : List Int) (c' : Nat), Ok D' ∧ D'.length = u.length ∧ GiveInv u v D' c' ∧ Ev (fun k => nat_give.l0 k (D ++ u.drop D.length) v (c : Int) (u.length : Int) (D.length : Int)) D' := by
  induction d with
  | zero =>
    intro D c hD hc hl hi
    refine ⟨D, c, hD, by omega, hi, Ev.step (fun k => ?_) (Ev.now _)⟩
    simp only [nat_give.l0]
    rw [if_neg (by omega), List.drop_of_length_le (by omega), List.append_nil]
  | succ d ih =>
    intro D c hD hc hl hi
    have g1 : (D.length : Int) < (u.length : Int) := by omega
    have g2 : 0 ≤ (D.length : Int) := by omega
    have g3 : (D.length : Int) < ((D ++ u.drop D.length).length : Int) := by rw [List.length_append, List.length_drop]; omega
    have g4 : D.length ≤ 1125899906842624 := by omega
    have g5 : D.length < u.length := by omega
    have hdl : ∀ y : Int, (D ++ [y]).length + d = u.length := fun y => by rw [List.length_append, List.length_singleton]; omega
    have hdrop := drop_rd u D.length g5
    have hread : rd (D ++ u.drop D.length) (D.length : Int) = rd u D.length := by
      rw [hdrop]; exact rd_at _ _ _
    have hset : ∀ y, (D ++ u.drop D.length).set D.length y = (D ++ [y]) ++ u.drop (D ++ [y]).length := by
      intro y
      rw [hdrop, set_at, List.length_append, List.length_singleton, List.append_assoc]
      rfl
    have ru := rd_ok hu (D.length : Int)
    have rv := rd_ok hv (D.length : Int)
    obtain ⟨y, c', hy, hc', a1, a2, a3⟩ := give_limb _ _ c ru rv hc
    have hlen1 : (D ++ [(y : Int)]).length = D.length + 1 := by rw [List.length_append, List.length_singleton]
    obtain ⟨D', c2, b1, b2, b3, b4⟩ := ih (D ++ [(y : Int)]) c' (hD.append (Ok.cons ⟨Int.natCast_nonneg _, Int.ofNat_lt.2 hy⟩ Ok.nil)) hc' (hdl _) (hi.next hu hv hy a1)
    refine ⟨D', c2, b1, b2, b3, Ev.step (fun k => ?_) b4⟩
    have ew := wr_succ D.length g4
    simp only [nat_give.l0]
    rw [if_pos g1, if_pos g2, if_pos g3, limb_eq v _ g2]
    simp only [Option.bind_some]
    rw [hread, a2, a3, ew, Int.toNat_natCast, hset, hlen1]
theorem give_ev (u v : List Int) (hu : Ok u) (hv : Ok v) (hn : u.length ≤ 35184372088832) (hl : v.length < u.length) :
    ∃ (D : List Int) (c : Nat), Ok D ∧ D.length = u.length ∧ val D + 4294967296 ^ u.length * c = val u + val v ∧ Ev (fun k => nat_give.f k u v) D := by
  obtain ⟨D, c, h1, h2, h3, h4⟩ := give_loop u v hu hv hn u.length [] 0 Ok.nil (by omega) (by simp) (by simp [GiveInv, val])
  refine ⟨D, c, h1, h2, ?_, ?_⟩
  · unfold GiveInv at h3
    rwa [h2, List.take_length, List.take_of_length_le (Nat.le_of_lt hl)] at h3
  · refine Ev.congr (fun k => ?_) h4
    unfold nat_give.f
    rfl

theorem kd1 (B P g v1 v2 r u2 VL UL two : Nat) (h2 : two = g * v1 + r) (hg : r * B + u2 + 1 ≤ g * v2) (hU : UL + 1 ≤ P) :
    UL + P * (u2 + B * two) + 1 ≤ g * (VL + P * (v2 + B * v1)) := by
  have h1 : P * (r * B + u2 + 1) ≤ P * (g * v2) := Nat.mul_le_mul_left _ hg
  have e1 : P * (r * B + u2 + 1) + P * (B * (g * v1)) = P * (u2 + B * two) + P := by rw [h2]; grind
  have e2 : g * (VL + P * (v2 + B * v1)) = g * VL + P * (g * v2) + P * (B * (g * v1)) := by grind
  have e3 : 0 ≤ g * VL := Nat.zero_le _
  rw [e2]
  generalize P * (u2 + B * two) = a at *
  generalize P * (B * (g * v1)) = b at *
  generalize P * (g * v2) = c at *
  generalize P * (r * B + u2 + 1) = d at *
  omega
theorem kd2 (B P g v1 v2 r u2 VL UL two : Nat) (h2 : two = g * v1 + r) (hg : g * v2 ≤ r * B + u2) (hgB : g ≤ B) (hVL : VL + 1 ≤ P) (hv1 : 1 ≤ v1) (hB : 1 ≤ B) :
    g * (VL + P * (v2 + B * v1)) + 1 ≤ UL + P * (u2 + B * two) + (VL + P * (v2 + B * v1)) := by
  have h1 : P * (g * v2) ≤ P * (r * B + u2) := Nat.mul_le_mul_left _ hg
  have e1 : P * (r * B + u2) + P * (B * (g * v1)) = P * (u2 + B * two) := by rw [h2]; grind
  have e2 : g * (VL + P * (v2 + B * v1)) = g * VL + P * (g * v2) + P * (B * (g * v1)) := by grind
  have e3 : g * VL ≤ B * VL := Nat.mul_le_mul_right _ hgB
  have e4 : B * (VL + 1) ≤ B * P := Nat.mul_le_mul_left _ hVL
  have e5 : P * (B * 1) ≤ P * (B * v1) := Nat.mul_le_mul_left _ (Nat.mul_le_mul_left _ hv1)
  have e6 : P * (v2 + B * v1) = P * v2 + P * (B * v1) := Nat.mul_add _ _ _
  have e7 : B * (VL + 1) = B * VL + B := by rw [Nat.mul_add, Nat.mul_one]
  have e8 : B * P = P * (B * 1) := by rw [Nat.mul_one, Nat.mul_comm]
  rw [e2, e6]
  generalize P * (u2 + B * two) = a at *
  generalize P * (B * (g * v1)) = b at *
  generalize P * (g * v2) = c at *
  generalize P * (r * B + u2) = d at *
  generalize P * (B * v1) = f at *
  generalize P * (B * 1) = h at *
  generalize P * v2 = i at *
  generalize g * VL = j at *
  generalize B * VL = l at *
  omega
theorem kd3 (B P g v1 v2 u2 VL UL two : Nat) (h : two + 1 ≤ (g + 1) * v1) (hu2 : u2 + 1 ≤ B) (hU : UL + 1 ≤ P) :
    UL + P * (u2 + B * two) + 1 ≤ (g + 1) * (VL + P * (v2 + B * v1)) := by
  have h1 : P * (B * (two + 1)) ≤ P * (B * ((g + 1) * v1)) := Nat.mul_le_mul_left _ (Nat.mul_le_mul_left _ h)
  have e1 : P * (B * (two + 1)) = P * (B * two) + P * B := by grind
  have e2 : (g + 1) * (VL + P * (v2 + B * v1)) = (g + 1) * VL + P * ((g + 1) * v2) + P * (B * ((g + 1) * v1)) := by grind
  have e3 : P * (u2 + 1) ≤ P * B := Nat.mul_le_mul_left _ hu2
  have e4 : P * (u2 + B * two) = P * u2 + P * (B * two) := Nat.mul_add _ _ _
  have e5 : P * (u2 + 1) = P * u2 + P := by rw [Nat.mul_add, Nat.mul_one]
  rw [e2, e4]
  generalize P * (B * two) = a at *
  generalize P * (B * ((g + 1) * v1)) = b at *
  generalize P * ((g + 1) * v2) = c at *
  generalize (g + 1) * VL = d at *
  generalize P * (B * (two + 1)) = f at *
  generalize P * B = h at *
  generalize P * u2 = i at *
  omega
theorem kd4 (B P v1 v2 u2 VL UL two : Nat) (h : UL + P * (u2 + B * two) < B * (VL + P * (v2 + B * v1))) (hV : VL + 1 ≤ P) (hv2 : v2 + 1 ≤ B) (hB : 0 < B) : two < B * (v1 + 1) := by
  have h1 : P * (v2 + 1) ≤ P * B := Nat.mul_le_mul_left _ hv2
  have h2 : B * (VL + P * (v2 + B * v1)) + B ≤ B * (P * (B * (v1 + 1))) := by
    have : VL + P * (v2 + B * v1) + 1 ≤ P * (B * (v1 + 1)) := by
      have e1 : P * (v2 + B * v1) = P * v2 + P * (B * v1) := Nat.mul_add _ _ _
      have e2 : P * (B * (v1 + 1)) = P * (B * v1) + P * B := by grind
      have e3 : P * (v2 + 1) = P * v2 + P := by rw [Nat.mul_add, Nat.mul_one]
      omega
    have := Nat.mul_le_mul_left B this
    rwa [Nat.mul_add B _ 1, Nat.mul_one] at this
  have hP : 0 < P * B := Nat.mul_pos (by omega) hB
  have h3 : P * (u2 + B * two) = P * u2 + (P * B) * two := by grind
  have h4 : B * (P * (B * (v1 + 1))) = (P * B) * (B * (v1 + 1)) := by grind
  rw [h3] at h
  rw [h4] at h2
  apply Nat.lt_of_mul_lt_mul_left (a := P * B)
  generalize (P * B) * two = a at *
  generalize (P * B) * (B * (v1 + 1)) = b at *
  generalize B * (VL + P * (v2 + B * v1)) = c at *
  generalize P * u2 = d at *
  omega

structure Guess (U V two v1 v2 u2 P UL VL : Nat) : Prop where
  hU : U = UL + P * (u2 + 4294967296 * two)
  hV : V = VL + P * (v2 + 4294967296 * v1)
  hUL : UL + 1 ≤ P
  hVL : VL + 1 ≤ P
  hu2 : u2 < 4294967296
  hv2 : v2 < 4294967296
  hv1 : 2147483648 ≤ v1
  hv1' : v1 < 4294967296
  hlt : U < 4294967296 * V
def GInv (U V two v1 g r : Nat) : Prop := two = g * v1 + r ∧ U < (g + 1) * V
def GEnd (U V g : Nat) : Prop := U < (g + 1) * V ∧ g * V < U + V ∧ g ≤ 4294967296
theorem Guess.more {U V two v1 v2 u2 P UL VL g r : Nat} (G : Guess U V two v1 v2 u2 P UL VL) (h : GInv U V two v1 g r) (hc : 4294967296 ≤ g ∨ r * 4294967296 + u2 < g * v2) : 1 ≤ g ∧ GInv U V two v1 (g - 1) (r + v1) := by
  have hlt : U < g * V := by
    rcases hc with hc | hc
    · exact Nat.lt_of_lt_of_le G.hlt (Nat.mul_le_mul_right _ hc)
    · have := kd1 4294967296 P g v1 v2 r u2 VL UL two h.1 hc G.hUL
      rw [← G.hU, ← G.hV] at this
      exact this
  have hg : 1 ≤ g := by
    rcases Nat.eq_zero_or_pos g with h0 | h0
    · rw [h0, Nat.zero_mul] at hlt; omega
    · exact h0
  refine ⟨hg, ?_, by rw [Nat.sub_add_cancel hg]; exact hlt⟩
  obtain ⟨m, rfl⟩ : ∃ m, g = m + 1 := ⟨g - 1, by omega⟩
  rw [h.1, Nat.add_sub_cancel, Nat.add_mul, Nat.one_mul]
  omega
theorem Guess.stop {U V two v1 v2 u2 P UL VL g r : Nat} (G : Guess U V two v1 v2 u2 P UL VL) (h : GInv U V two v1 g r) (hg : g ≤ 4294967296) (hc : 4294967296 ≤ r ∨ g * v2 ≤ r * 4294967296 + u2) : GEnd U V g := by
  have hle : g * v2 ≤ r * 4294967296 + u2 := by
    rcases hc with hc | hc
    · have h1 : g * v2 ≤ 4294967296 * v2 := Nat.mul_le_mul_right _ hg
      have := G.hv2
      omega
    · exact hc
  have h1 := G.hv1
  have := kd2 4294967296 P g v1 v2 r u2 VL UL two h.1 hle hg G.hVL (by omega) (by decide)
  rw [← G.hU, ← G.hV] at this
  exact ⟨h.2, this, hg⟩
theorem Guess.start {U V two v1 v2 u2 P UL VL : Nat} (G : Guess U V two v1 v2 u2 P UL VL) : GInv U V two v1 (two / v1) (two % v1) ∧ two / v1 ≤ 4294967297 := by
  have h1 := G.hv1
  have hlt2 : two < 4294967296 * (v1 + 1) := by
    have h := G.hlt
    rw [G.hU, G.hV] at h
    exact kd4 4294967296 P v1 v2 u2 VL UL two h G.hVL G.hv2 (by decide)
  refine ⟨⟨(by rw [Nat.mul_comm]; exact (Nat.div_add_mod two v1).symm), ?_⟩, ?_⟩
  · have h2 : two + 1 ≤ (two / v1 + 1) * v1 := by
      have := Nat.lt_mul_div_succ two (show 0 < v1 by omega)
      rw [Nat.mul_comm] at this
      exact this
    have := kd3 4294967296 P (two / v1) v1 v2 u2 VL UL two h2 G.hu2 G.hUL
    rw [← G.hU, ← G.hV] at this
    exact this
  · have : two / v1 < 4294967298 := by
      rw [Nat.div_lt_iff_lt_mul (by omega)]
      omega
    omega

def digTail (k : Nat) (u v : List Int) (g : Int) : Option (Int × List Int) := (nat_take.f k u v g).bind fun (b, D) => if D.length = u.length then (if b = true then (if D.length = u.length then ((nat_give.f k D v).bind fun t => if t.length = D.length then some (IntKind.u64.wrap (g - 1), t) else none) else none) else (if D.length = u.length then some (g, D) else none)) else none
theorem digit_j2 (u v : List Int) (hu : Ok u) (hv : Ok v) (hn : u.length ≤ 35184372088832) (hl : v.length + 1 = u.length) (hV : 0 < val v) (g : Nat) (h : GEnd (val u) (val v) g) :
    ∃ D : List Int, Ok D ∧ D.length = u.length ∧ val D = val u % val v ∧ Ev (fun k => digTail k u v (g : Int)) (((val u / val v : Nat) : Int), D) := by
  obtain ⟨h1, h2, h3⟩ := h
  obtain ⟨D, b, d1, d2, d3, d4⟩ := take_ev u v hu hv g h3 hn (by omega)
  have hDlt := val_lt D
  have hulen := val_lt u
  rw [d2] at hDlt
  cases b with
  | false =>
    rw [if_neg (by simp), Nat.add_zero] at d3
    have hq : val u / val v = g := by
      rw [Nat.div_eq_iff hV]
      constructor
      · rw [Nat.mul_comm] at d3 ⊢; omega
      · rw [Nat.add_mul, Nat.one_mul] at h1; omega
    have hm : val u % val v = val D := by
      have := Nat.div_add_mod (val u) (val v)
      rw [hq, Nat.mul_comm] at this
      omega
    refine ⟨D, d1, d2, hm.symm, Ev.bind d4 ?_⟩
    rw [hq]
    exact Ev.congr (fun k => by dsimp only; rw [if_pos d2, if_neg (by simp), if_pos d2]) (Ev.now _)
  | true =>
    rw [if_pos rfl] at d3
    obtain ⟨D2, c, e1, e2, e3, e4⟩ := give_ev D v d1 hv (by omega) (by omega)
    rw [d2] at e2 e3
    have hD2 := val_lt D2
    rw [e2] at hD2
    have hg1 : 1 ≤ g := by
      rcases Nat.eq_zero_or_pos g with h0 | h0
      · rw [h0, Nat.zero_mul] at d3; omega
      · exact h0
    obtain ⟨m, rfl⟩ : ∃ m, g = m + 1 := ⟨g - 1, by omega⟩
    rw [Nat.add_mul, Nat.one_mul] at d3 h2
    have hc : c = 1 := by
      rcases Nat.lt_or_ge c 1 with h0 | h0
      · obtain rfl : c = 0 := by omega
        rw [Nat.mul_zero] at e3
        omega
      · rcases Nat.lt_or_ge 1 c with h5 | h5
        · have : 4294967296 ^ u.length * 2 ≤ 4294967296 ^ u.length * c := Nat.mul_le_mul_left _ h5
          have hvl := val_lt v
          have h6 : 4294967296 ^ v.length ≤ 4294967296 ^ u.length := Nat.pow_le_pow_right (by decide) (by omega)
          omega
        · omega
    rw [hc, Nat.mul_one] at e3
    have hval : val D2 + m * val v = val u := by omega
    have hlt : val D2 < val v := by omega
    have hq : val u / val v = m := by
      rw [Nat.div_eq_iff hV]
      constructor
      · omega
      · omega
    have hm : val u % val v = val D2 := by
      have := Nat.div_add_mod (val u) (val v)
      rw [hq, Nat.mul_comm] at this
      omega
    refine ⟨D2, e1, e2, hm.symm, Ev.bind d4 ?_⟩
    refine Ev.congr (f := fun k => (nat_give.f k D v).bind fun t => if t.length = D.length then some (((m : Nat) : Int), t) else none) (fun k => ?_) (Ev.bind e4 ?_)
    · have ew : IntKind.u64.wrap (((m + 1 : Nat) : Int) - 1) = (m : Int) := by
        clear d4 e4 e3 d3 h1 h2 hval hq hm hDlt hulen hD2
        rw [w64]; omega
      dsimp only
      rw [if_pos d2, if_pos rfl, if_pos d2, ew]
    · rw [hq, e2, d2]
      exact Ev.congr (fun k => by rw [if_pos rfl]) (Ev.now _)

theorem digit_loop (u v : List Int) (hu : Ok u) (hv : Ok v) (hn : u.length ≤ 35184372088832) (hl : v.length + 1 = u.length) (hv2 : 2 ≤ v.length) (two P UL VL : Nat)
    (G : Guess (val u) (val v) two (rd v (v.length - 1 : Nat)).toNat (rd v (v.length - 2 : Nat)).toNat (rd u (v.length - 2 : Nat)).toNat P UL VL) (fuel : Nat) : ∀ (g r : Nat), 4294967296 - r ≤ fuel → r < 4294967296 → g ≤ 4294967297 → GInv (val u) (val v) two (rd v (v.length - 1 : Nat)).toNat g r →
    ∃ D : List Int, Ok D ∧ D.length = u.length ∧ val D = val u % val v ∧ Ev (fun k => nat_digit.l0 k u v (v.length : Int) (g : Int) (r : Int)) (((val u / val v : Nat) : Int), D) := by
  have hV0 : 0 < val v := by
    have h1 := G.hV
    have h2 := G.hv1
    have h3 := G.hVL
    rcases Nat.eq_zero_or_pos (val v) with h0 | h0
    · rw [h0] at h1
      have : 0 < P * ((rd v (v.length - 2 : Nat)).toNat + 4294967296 * (rd v (v.length - 1 : Nat)).toNat) := Nat.mul_pos (by omega) (by omega)
      omega
    · exact h0
  have rv1 := rd_ok hv (v.length - 1 : Nat)
  have rv2 := rd_ok hv (v.length - 2 : Nat)
  have ru2 := rd_ok hu (v.length - 2 : Nat)
  have w1 : wrap64 ((v.length : Int) - 1) = ((v.length - 1 : Nat) : Int) := by clear G rv1 rv2 ru2; rw [wrap_id (by omega) (by omega)]; omega
  have w2 : wrap64 ((v.length : Int) - 2) = ((v.length - 2 : Nat) : Int) := by clear G rv1 rv2 ru2 w1; rw [wrap_id (by omega) (by omega)]; omega
  have b1 : (0 : Int) ≤ ((v.length - 1 : Nat) : Int) := Int.natCast_nonneg _
  have b2 : (0 : Int) ≤ ((v.length - 2 : Nat) : Int) := Int.natCast_nonneg _
  have b3 : ((v.length - 1 : Nat) : Int) < (v.length : Int) := by clear G rv1 rv2 ru2 w1 w2; omega
  have b4 : ((v.length - 2 : Nat) : Int) < (v.length : Int) := by clear G rv1 rv2 ru2 w1 w2; omega
  have b5 : ((v.length - 2 : Nat) : Int) < (u.length : Int) := by clear G rv1 rv2 ru2 w1 w2; omega
  obtain ⟨x1, hx1⟩ : ∃ x : Nat, rd v (v.length - 1 : Nat) = x := ⟨(rd v (v.length - 1 : Nat)).toNat, by clear G w1 w2; omega⟩
  obtain ⟨x2, hx2⟩ : ∃ x : Nat, rd v (v.length - 2 : Nat) = x := ⟨(rd v (v.length - 2 : Nat)).toNat, by clear G w1 w2; omega⟩
  obtain ⟨y2, hy2⟩ : ∃ x : Nat, rd u (v.length - 2 : Nat) = x := ⟨(rd u (v.length - 2 : Nat)).toNat, by clear G w1 w2; omega⟩
  rw [hx1, hx2, hy2] at G
  rw [hx1]
  simp only [Int.toNat_natCast] at G ⊢
  clear rv1 rv2 ru2
  induction fuel with
  | zero =>
    intro g r hf hr
    omega
  | succ fuel ih =>
    intro g r hf hr hg hI
    have k1 := G.hv1
    have k2 := G.hv1'
    have k3 := G.hv2
    have k4 := G.hu2
    -- one round more
    have hmore : (4294967296 ≤ g ∨ r * 4294967296 + y2 < g * x2) → ∃ D : List Int, Ok D ∧ D.length = u.length ∧ val D = val u % val v ∧ Ev (fun k => if 0 ≤ (wrap64 ((v.length : Int) - 1)) then (if (wrap64 ((v.length : Int) - 1)) < (v.length : Int) then (if (IntKind.u64.wrap ((r : Int) + (rd v (wrap64 ((v.length : Int) - 1))))) ≥ 4294967296 then digTail k u v (IntKind.u64.wrap ((g : Int) - 1)) else nat_digit.l0 k u v (v.length : Int) (IntKind.u64.wrap ((g : Int) - 1)) (IntKind.u64.wrap ((r : Int) + (rd v (wrap64 ((v.length : Int) - 1)))))) else none) else none) (((val u / val v : Nat) : Int), D) := by
      intro hc
      obtain ⟨hg1, hI'⟩ := G.more hI hc
      have eg : IntKind.u64.wrap ((g : Int) - 1) = ((g - 1 : Nat) : Int) := by clear w1 w2 hx1 hx2 hy2 hI' hI hc ih; rw [w64]; omega
      have er : IntKind.u64.wrap ((r : Int) + (x1 : Int)) = ((r + x1 : Nat) : Int) := by clear w1 w2 hx1 hx2 hy2 hI' hI hc ih eg; rw [w64]; omega
      by_cases hbig : 4294967296 ≤ r + x1
      · obtain ⟨D, d1, d2, d3, d4⟩ := digit_j2 u v hu hv hn hl hV0 (g - 1) (G.stop hI' (by omega) (Or.inl hbig))
        have hbig' : (((r + x1 : Nat) : Int)) ≥ 4294967296 := by clear w1 w2 hx1 hx2 hy2 hI' hI hc ih eg er d4; omega
        refine ⟨D, d1, d2, d3, Ev.congr (fun k => ?_) d4⟩
        rw [w1, if_pos b1, if_pos b3, hx1, er, if_pos hbig', eg]
      · obtain ⟨D, d1, d2, d3, d4⟩ := ih (g - 1) (r + x1) (by omega) (by omega) (by omega) hI'
        have hbig' : ¬ (((r + x1 : Nat) : Int)) ≥ 4294967296 := by clear w1 w2 hx1 hx2 hy2 hI' hI hc ih eg er d4; omega
        refine ⟨D, d1, d2, d3, Ev.congr (fun k => ?_) d4⟩
        rw [w1, if_pos b1, if_pos b3, hx1, er, if_neg hbig', eg]
    by_cases hgB : 4294967296 ≤ g
    · obtain ⟨D, d1, d2, d3, d4⟩ := hmore (Or.inl hgB)
      have hgB' : (g : Int) ≥ 4294967296 := by clear w1 w2 hx1 hx2 hy2 hI ih d4; omega
      refine ⟨D, d1, d2, d3, Ev.step (fun k => ?_) d4⟩
      rw [nat_digit.l0, if_pos hgB']
      rfl
    · have hgB' : ¬ (g : Int) ≥ 4294967296 := by clear w1 w2 hx1 hx2 hy2 hI ih; omega
      have em : IntKind.u64.wrap ((g : Int) * (x2 : Int)) = ((g * x2 : Nat) : Int) := by
        have h1 : g * x2 ≤ 4294967295 * 4294967295 := Nat.mul_le_mul (by omega) (by omega)
        rw [← Int.natCast_mul]
        clear w1 w2 hx1 hx2 hy2 hI ih hmore
        generalize g * x2 = z at h1 ⊢
        rw [w64]; omega
      have eo : Go.bits .or .u64 (IntKind.u64.wrap ((r : Int) * 4294967296)) (y2 : Int) = ((r * 4294967296 + y2 : Nat) : Int) := by
        have h1 : (0 : Int) ≤ (r : Int) ∧ (r : Int) < 4294967296 ∧ (0 : Int) ≤ (y2 : Int) ∧ (y2 : Int) < 4294967296 := by clear w1 w2 hx1 hx2 hy2 hI ih hmore em; omega
        rw [or_sum h1.1 h1.2.1 h1.2.2.1 h1.2.2.2, Int.natCast_add, Int.natCast_mul]
        rfl
      by_cases hc : r * 4294967296 + y2 < g * x2
      · obtain ⟨D, d1, d2, d3, d4⟩ := hmore (Or.inr hc)
        refine ⟨D, d1, d2, d3, Ev.step (fun k => ?_) d4⟩
        rw [nat_digit.l0, if_neg hgB', w2, if_pos b2, if_pos b4, if_pos b5, hx2, hy2, em, eo, if_pos (Int.ofNat_lt.2 hc)]
        rfl
      · obtain ⟨D, d1, d2, d3, d4⟩ := digit_j2 u v hu hv hn hl hV0 g (G.stop hI (by omega) (Or.inr (by omega)))
        refine ⟨D, d1, d2, d3, Ev.step (fun k => ?_) d4⟩
        rw [nat_digit.l0, if_neg hgB', w2, if_pos b2, if_pos b4, if_pos b5, hx2, hy2, em, eo, if_neg (fun h => hc (Int.ofNat_lt.1 h))]
        rfl
theorem split_two (l : List Int) (hl : Ok l) (m : Nat) (h : m < l.length) : val l = val (l.take m) + 4294967296 ^ m * ((rd l (m : Nat)).toNat + 4294967296 * val (l.drop (m + 1))) := by
  have r := rd_ok hl (m : Int)
  have h1 := split_at l m
  have h2 := val_drop l m h
  rw [Int.emod_eq_of_lt r.1 r.2] at h2
  rw [List.length_take, Nat.min_eq_left (Nat.le_of_lt h), h2] at h1
  exact h1
theorem drop_one (l : List Int) (hl : Ok l) (m : Nat) (h : m + 1 = l.length) : val (l.drop m) = (rd l (m : Nat)).toNat := by
  have r := rd_ok hl (m : Int)
  have h2 := val_drop l m (by omega)
  have e : val (l.drop (m + 1)) = 0 := by rw [List.drop_of_length_le (by omega)]; rfl
  rw [Int.emod_eq_of_lt r.1 r.2, e] at h2
  exact h2
theorem digit_ev (u v : List Int) (hu : Ok u) (hv : Ok v) (hn : u.length ≤ 35184372088832) (hl : v.length + 1 = u.length) (hv2 : 2 ≤ v.length) (hnorm : 2147483648 ≤ (rd v (v.length - 1 : Nat)).toNat) (hlt : val u < 4294967296 * val v) :
    ∃ D : List Int, Ok D ∧ D.length = u.length ∧ val D = val u % val v ∧ Ev (fun k => nat_digit.f k u v) (((val u / val v : Nat) : Int), D) := by
  obtain ⟨m, hm⟩ : ∃ m, v.length = m + 2 := ⟨v.length - 2, by omega⟩
  have ru0 := rd_ok hu (v.length : Nat)
  have ru1 := rd_ok hu (v.length - 1 : Nat)
  have ru2 := rd_ok hu (v.length - 2 : Nat)
  have rv1 := rd_ok hv (v.length - 1 : Nat)
  have rv2 := rd_ok hv (v.length - 2 : Nat)
  have hvs := split_two v hv (v.length - 2) (by omega)
  have hvd := drop_one v hv (v.length - 1) (by omega)
  have hus := split_two u hu (v.length - 2) (by omega)
  have hud := val_drop u (v.length - 1) (by omega)
  have hud2 := drop_one u hu v.length (by omega)
  have e21 : v.length - 2 + 1 = v.length - 1 := by omega
  have e11 : v.length - 1 + 1 = v.length := by omega
  rw [e21, hvd] at hvs
  rw [e11, hud2, Int.emod_eq_of_lt ru1.1 ru1.2] at hud
  rw [e21, hud] at hus
  have hul := val_lt (u.take (v.length - 2))
  have hvl := val_lt (v.take (v.length - 2))
  rw [List.length_take, Nat.min_eq_left (by omega)] at hul hvl
  have G : Guess (val u) (val v) ((rd u (v.length - 1 : Nat)).toNat + 4294967296 * (rd u (v.length : Nat)).toNat) (rd v (v.length - 1 : Nat)).toNat (rd v (v.length - 2 : Nat)).toNat (rd u (v.length - 2 : Nat)).toNat (4294967296 ^ (v.length - 2)) (val (u.take (v.length - 2))) (val (v.take (v.length - 2))) :=
    ⟨hus, hvs, hul, hvl, by clear hus hvs hul hvl hud hvd hud2; omega, by clear hus hvs hul hvl hud hvd hud2; omega, hnorm, by clear hus hvs hul hvl hud hvd hud2; omega, hlt⟩
  obtain ⟨hI, hg⟩ := G.start
  clear hus hvs hud hvd hud2 hul hvl
  obtain ⟨x1, hx1⟩ : ∃ x : Nat, rd v (v.length - 1 : Nat) = x := ⟨(rd v (v.length - 1 : Nat)).toNat, by clear G hI hg; omega⟩
  obtain ⟨y1, hy1⟩ : ∃ x : Nat, rd u (v.length - 1 : Nat) = x := ⟨(rd u (v.length - 1 : Nat)).toNat, by clear G hI hg; omega⟩
  obtain ⟨y0, hy0⟩ : ∃ x : Nat, rd u (v.length : Nat) = x := ⟨(rd u (v.length : Nat)).toNat, by clear G hI hg; omega⟩
  have z1 : x1 < 4294967296 ∧ 2147483648 ≤ x1 := by clear G hI hg; omega
  have z2 : y1 < 4294967296 ∧ y0 < 4294967296 := by clear G hI hg; omega
  have hmod : (y1 + 4294967296 * y0) % x1 < x1 := Nat.mod_lt _ (by omega)
  have hmod2 : (y1 + 4294967296 * y0) % x1 < 4294967296 := by omega
  obtain ⟨D, d1, d2, d3, d4⟩ := digit_loop u v hu hv hn hl hv2 _ _ _ _ G 4294967296 (((rd u (v.length - 1 : Nat)).toNat + 4294967296 * (rd u (v.length : Nat)).toNat) / (rd v (v.length - 1 : Nat)).toNat) (((rd u (v.length - 1 : Nat)).toNat + 4294967296 * (rd u (v.length : Nat)).toNat) % (rd v (v.length - 1 : Nat)).toNat) (Nat.sub_le _ _) (by rw [hy1, hy0, hx1]; simpa only [Int.toNat_natCast] using hmod2) hg hI
  refine ⟨D, d1, d2, d3, Ev.congr (fun k => ?_) d4⟩
  rw [hy1, hy0, hx1]
  simp only [Int.toNat_natCast]
  have w1 : wrap64 ((v.length : Int) - 1) = ((v.length - 1 : Nat) : Int) := by
    clear G hI hg d4 ru0 ru1 ru2 rv1 rv2 hx1 hy1 hy0 hmod hmod2
    rw [wrap_id (by omega) (by omega)]; omega
  have b1 : (0 : Int) ≤ ((v.length - 1 : Nat) : Int) := Int.natCast_nonneg _
  have b0 : (0 : Int) ≤ (v.length : Int) := Int.natCast_nonneg _
  have b2 : (v.length : Int) < (u.length : Int) := by clear G hI hg d4 ru0 ru1 ru2 rv1 rv2 hx1 hy1 hy0 hmod hmod2 w1; omega
  have b3 : ((v.length - 1 : Nat) : Int) < (u.length : Int) := by clear G hI hg d4 ru0 ru1 ru2 rv1 rv2 hx1 hy1 hy0 hmod hmod2 w1; omega
  have b4 : ((v.length - 1 : Nat) : Int) < (v.length : Int) := by clear G hI hg d4 ru0 ru1 ru2 rv1 rv2 hx1 hy1 hy0 hmod hmod2 w1; omega
  have b5 : ¬ ((x1 : Int) = 0) := by clear G hI hg d4 ru0 ru1 ru2 rv1 rv2 hx1 hy1 hy0 hmod hmod2 w1; omega
  have eo : Go.bits .or .u64 (IntKind.u64.wrap ((y0 : Int) * 4294967296)) (y1 : Int) = ((y1 + 4294967296 * y0 : Nat) : Int) := by
    have h1 : (0 : Int) ≤ (y0 : Int) ∧ (y0 : Int) < 4294967296 ∧ (0 : Int) ≤ (y1 : Int) ∧ (y1 : Int) < 4294967296 := by
      clear G hI hg d4 ru0 ru1 ru2 rv1 rv2 hx1 hy1 hy0 hmod hmod2 w1; omega
    rw [or_sum h1.1 h1.2.1 h1.2.2.1 h1.2.2.2, Int.natCast_add, Int.natCast_mul, Int.add_comm, Int.mul_comm]
    rfl
  have et : Int.tdiv ((y1 + 4294967296 * y0 : Nat) : Int) (x1 : Int) = (((y1 + 4294967296 * y0) / x1 : Nat) : Int) := rfl
  have er : Int.tmod ((y1 + 4294967296 * y0 : Nat) : Int) (x1 : Int) = (((y1 + 4294967296 * y0) % x1 : Nat) : Int) := rfl
  have eq : IntKind.u64.wrap (((y1 + 4294967296 * y0) / x1 : Nat) : Int) = (((y1 + 4294967296 * y0) / x1 : Nat) : Int) := by
    rw [hy1, hy0, hx1] at hg
    simp only [Int.toNat_natCast] at hg
    clear G hI d4 ru0 ru1 ru2 rv1 rv2 hx1 hy1 hy0 hmod hmod2 w1 eo et er
    generalize (y1 + 4294967296 * y0) / x1 = z at hg ⊢
    rw [w64]; omega
  unfold nat_digit.f
  rw [if_pos b2, w1, if_pos b1, if_pos b3, if_pos b4, hx1, if_neg b5, hy0, hy1, eo, et, er, eq]


end Go.DI.Th
namespace Go.DI.Th
open Go Go.RowKit Go.DI

def bl (n : Nat) : Nat := if n = 0 then 0 else Nat.log2 n + 1
theorem bl_lt (n : Nat) : n < 2 ^ bl n := by
  unfold bl
  by_cases h : n = 0
  · rw [if_pos h, h]; decide
  · rw [if_neg h]; exact Nat.lt_log2_self
theorem bl_le {n : Nat} (h : n ≠ 0) : 2 ^ (bl n - 1) ≤ n := by
  unfold bl
  rw [if_neg h, Nat.add_sub_cancel]
  exact Nat.log2_self_le h
theorem bl_eq {n k : Nat} (h1 : 2 ^ k ≤ n) (h2 : n < 2 ^ (k + 1)) : bl n = k + 1 := by
  have h0 : n ≠ 0 := by
    have := Nat.two_pow_pos k
    omega
  unfold bl
  rw [if_neg h0, (Nat.log2_eq_iff h0).2 ⟨h1, h2⟩]
theorem bl_shift (n s : Nat) (h : 2 ^ s ≤ n) : bl n = s + bl (n / 2 ^ s) := by
  have hp := Nat.two_pow_pos s
  have h0 : n / 2 ^ s ≠ 0 := by
    have := (Nat.le_div_iff_mul_le hp (x := 1) (y := n)).2 (by omega)
    omega
  obtain ⟨k, hk⟩ : ∃ k, bl (n / 2 ^ s) = k + 1 := ⟨Nat.log2 (n / 2 ^ s), by unfold bl; rw [if_neg h0]⟩
  have h1 := bl_le h0
  have h2 := bl_lt (n / 2 ^ s)
  rw [hk] at h1 h2 ⊢
  rw [Nat.add_sub_cancel] at h1
  have h3 := (Nat.le_div_iff_mul_le hp).1 h1
  have h4 := (Nat.div_lt_iff_lt_mul hp).1 h2
  rw [← Nat.pow_add] at h3 h4
  rw [bl_eq (k := k + s) h3 (by rw [show k + s + 1 = k + 1 + s by omega]; exact h4)]
  omega
theorem len8_at (n : Nat) (h : n < 256) : bt cst_len8 (n : Int) = (bl n : Int) := by
  have : ∀ i : Fin 256, bt cst_len8 ((i.1 : Nat) : Int) = ((bl i.1 : Nat) : Int) := by decide +kernel
  exact this ⟨n, h⟩
theorem len8_size : (cst_len8.size : Int) = 256 := by decide +kernel
theorem w8 (n : Nat) (h : n < 256) : IntKind.u8.wrap (n : Int) = (n : Int) := by
  rw [IntKind.wrap_u8]; omega
theorem bl_small (n : Nat) (h : n < 256) : bl n ≤ 8 := by
  have : ∀ i : Fin 256, bl i.1 ≤ 8 := by decide +kernel
  exact this ⟨n, h⟩
theorem len32_eq (n : Nat) (h : n < 4294967296) : bits_Len32.f (n : Int) = some (bl n : Int) := by
  unfold bits_Len32.f
  have part : ∀ m : Nat, m < 256 → ∀ c : Int, 0 ≤ c → c ≤ 24 → (if 0 ≤ IntKind.u8.wrap (m : Int) then (if IntKind.u8.wrap (m : Int) < (cst_len8.size : Int) then (some (wrap64 (c + wrap64 (bt cst_len8 (IntKind.u8.wrap (m : Int)))))) else none) else none) = some (c + (bl m : Int)) := by
    intro m hm c hc hc2
    have := bl_small m hm
    rw [w8 m hm, if_pos (by omega), len8_size, if_pos (by omega), len8_at m hm, wrap_id (i := (bl m : Int)) (by omega) (by omega), wrap_id (by omega) (by omega)]
  have d1 : (n : Int) / 65536 = ((n / 65536 : Nat) : Int) := rfl
  have d2 : ((n / 65536 : Nat) : Int) / 256 = ((n / 65536 / 256 : Nat) : Int) := rfl
  have d3 : (n : Int) / 256 = ((n / 256 : Nat) : Int) := rfl
  by_cases h1 : (n : Int) ≥ 65536
  · rw [if_pos h1, d1, d2]
    have s1 := bl_shift n 16 (by omega)
    by_cases h2 : ((n / 65536 : Nat) : Int) ≥ 256
    · have s2 := bl_shift (n / 65536) 8 (by omega)
      rw [if_pos h2, wrap_id (i := 16 + 8) (by omega) (by omega), part _ (by omega) (16 + 8) (by omega) (by omega)]
      have : (2 : Nat) ^ 16 = 65536 := rfl
      have : (2 : Nat) ^ 8 = 256 := rfl
      simp only [*]
      congr 1
      omega
    · rw [if_neg h2, part _ (by omega) 16 (by omega) (by omega)]
      have : (2 : Nat) ^ 16 = 65536 := rfl
      simp only [*]
      congr 1
  · rw [if_neg h1]
    by_cases h2 : (n : Int) ≥ 256
    · have s2 := bl_shift n 8 (by omega)
      rw [if_pos h2, d3, wrap_id (i := 0 + 8) (by omega) (by omega), part _ (by omega) (0 + 8) (by omega) (by omega)]
      have : (2 : Nat) ^ 8 = 256 := rfl
      simp only [*]
      congr 1
    · rw [if_neg h2, part n (by omega) 0 (by omega) (by omega)]
      congr 1
      omega
theorem bl_32 (n : Nat) (h : n < 4294967296) : bl n ≤ 32 := by
  by_cases h0 : n = 0
  · subst h0; decide
  · have := bl_le h0
    apply Classical.byContradiction
    intro hc
    have := Nat.pow_le_pow_right (n := 2) (by decide) (show 32 ≤ bl n - 1 by omega)
    omega
theorem lz32_eq (n : Nat) (h : n < 4294967296) : bits_LeadingZeros32.f (n : Int) = some ((32 - bl n : Nat) : Int) := by
  have := bl_32 n h
  unfold bits_LeadingZeros32.f
  rw [len32_eq n h, Option.bind_some, wrap_id (by omega) (by omega)]
  congr 1
  omega
theorem bl_norm (n : Nat) (h0 : n ≠ 0) (h : n < 4294967296) : 2147483648 ≤ n * 2 ^ (32 - bl n) ∧ n * 2 ^ (32 - bl n) < 4294967296 := by
  have h1 := bl_32 n h
  have h2 := bl_le h0
  have h3 := bl_lt n
  have hb : 1 ≤ bl n := by
    unfold bl; rw [if_neg h0]; omega
  have e1 : 2 ^ (bl n - 1) * 2 ^ (32 - bl n) = 2147483648 := by rw [← Nat.pow_add, show bl n - 1 + (32 - bl n) = 31 by omega]
  have e2 : 2 ^ bl n * 2 ^ (32 - bl n) = 4294967296 := by rw [← Nat.pow_add, show bl n + (32 - bl n) = 32 by omega]
  have h4 := Nat.mul_le_mul_right (2 ^ (32 - bl n)) h2
  have h5 := Nat.mul_lt_mul_of_pos_right h3 (Nat.two_pow_pos (32 - bl n))
  omega

theorem odd_part : ∀ n : Nat, n ≠ 0 → ∃ t m, n = 2 ^ t * (2 * m + 1) := by
  intro n
  induction n using Nat.strongRecOn with
  | ind n ih =>
    intro h
    rcases Nat.mod_two_eq_zero_or_one n with h1 | h1
    · obtain ⟨t, m, hm⟩ := ih (n / 2) (by omega) (by omega)
      refine ⟨t + 1, m, ?_⟩
      rw [Nat.pow_succ, Nat.mul_comm (2 ^ t) 2, Nat.mul_assoc, ← hm]
      omega
    · exact ⟨0, n / 2, by rw [Nat.pow_zero, Nat.one_mul]; omega⟩
theorem odd_unique : ∀ (t t' m m' : Nat), 2 ^ t * (2 * m + 1) = 2 ^ t' * (2 * m' + 1) → t = t'
  | 0, 0, _, _, _ => rfl
  | 0, t' + 1, m, m', h => by
    rw [Nat.pow_succ, Nat.mul_comm (2 ^ t') 2, Nat.mul_assoc] at h
    omega
  | t + 1, 0, m, m', h => by
    rw [Nat.pow_succ, Nat.mul_comm (2 ^ t) 2, Nat.mul_assoc] at h
    omega
  | t + 1, t' + 1, m, m', h => by
    rw [Nat.pow_succ, Nat.pow_succ, Nat.mul_comm (2 ^ t') 2, Nat.mul_comm (2 ^ t) 2, Nat.mul_assoc, Nat.mul_assoc] at h
    rw [odd_unique t t' m m' (by omega)]
theorem and_minus (x t m : Nat) (hx : x = 2 ^ t * (2 * m + 1)) (h : x < 2 ^ 64) : x &&& (2 ^ 64 - x) = 2 ^ t := by
  have hp := Nat.two_pow_pos t
  have ht : t < 64 := by
    apply Classical.byContradiction
    intro hc
    have h1 := Nat.pow_le_pow_right (n := 2) (by decide) (show 64 ≤ t by omega)
    have h2 : 2 ^ t * 1 ≤ 2 ^ t * (2 * m + 1) := Nat.mul_le_mul_left _ (by omega)
    omega
  have hy : x = (2 ^ t * (2 * m) + (2 ^ t - 1)) + 1 := by
    rw [hx, Nat.mul_add]; omega
  have hx0 : x = 2 ^ t * (2 * m + 1) + 0 := hx
  apply Nat.eq_of_testBit_eq
  intro i
  rw [Nat.testBit_and, Nat.testBit_two_pow]
  have e1 : (2 ^ 64 - x).testBit i = (decide (i < 64) && !(2 ^ t * (2 * m) + (2 ^ t - 1)).testBit i) := by
    conv => lhs; rw [hy]
    exact Nat.testBit_two_pow_sub_succ (by omega) i
  have e2 : x.testBit i = if i < t then (0 : Nat).testBit i else (2 * m + 1).testBit (i - t) := by
    conv => lhs; rw [hx0]
    exact Nat.testBit_two_pow_mul_add _ hp i
  rw [e1, e2, Nat.testBit_two_pow_mul_add _ (by omega) i]
  by_cases h1 : i < t
  · rw [if_pos h1, if_pos h1, Nat.zero_testBit, Bool.false_and, decide_eq_false (by omega)]
  · rw [if_neg h1, if_neg h1]
    obtain ⟨j, rfl⟩ : ∃ j, i = t + j := ⟨i - t, by omega⟩
    rw [Nat.add_sub_cancel_left]
    cases j with
    | zero =>
      rw [Nat.testBit_zero, Nat.testBit_zero]
      simp
      omega
    | succ j =>
      rw [Nat.testBit_succ, Nat.testBit_succ, show (2 * m + 1) / 2 = m by omega, show 2 * m / 2 = m by omega]
      rw [decide_eq_false (show ¬ t = t + (j + 1) by omega)]
      cases m.testBit j <;> simp
theorem tz64_eq (x t m : Nat) (hx : x = 2 ^ t * (2 * m + 1)) (h : x < 18446744073709551616) : bits_TrailingZeros64.f (x : Int) = some (t : Int) := by
  have hp := Nat.two_pow_pos t
  have h0 : 0 < x := by
    rw [hx]; exact Nat.mul_pos hp (by omega)
  have ht : t < 64 := by
    apply Classical.byContradiction
    intro hc
    have h1 := Nat.pow_le_pow_right (n := 2) (by decide) (show 64 ≤ t by omega)
    have h2 : 2 ^ t * 1 ≤ 2 ^ t * (2 * m + 1) := Nat.mul_le_mul_left _ (by omega)
    omega
  have e : Go.bits .and .u64 (x : Int) (IntKind.u64.wrap (0 - (x : Int))) = ((2 ^ t : Nat) : Int) := by
    have e1 : IntKind.u64.wrap (0 - (x : Int)) = ((2 ^ 64 - x : Nat) : Int) := by
      rw [w64]; omega
    rw [e1, bits_and_u64_nat x _ h (by omega), and_minus x t m hx h]
  unfold bits_TrailingZeros64.f
  rw [if_neg (by omega), e]
  have : ∀ i : Fin 64, (if 0 ≤ ((IntKind.u64.wrap (((2 ^ i.1 : Nat) : Int) * 285870213051353865)) / 288230376151711744) then (if ((IntKind.u64.wrap (((2 ^ i.1 : Nat) : Int) * 285870213051353865)) / 288230376151711744) < 64 then (some (wrap64 ((rd tab_deBruijn64tab ((IntKind.u64.wrap (((2 ^ i.1 : Nat) : Int) * 285870213051353865)) / 288230376151711744))))) else none) else none) = some ((i.1 : Nat) : Int) := by decide +kernel
  exact this ⟨t, ht⟩

theorem zeros_loop (a : List Int) (ha : Ok a) (hn : a.length ≤ 35184372088832) (T M : Nat) (hT : val a = 2 ^ T * (2 * M + 1)) (d : Nat) : ∀ i : Nat, i + d = a.length → val (a.take i) = 0 →
    Ev (fun k => nat_zeros.l0 k ((32 * i : Nat) : Int) a (a.length : Int) (i : Int)) (T : Int) := by
  have hp := Nat.two_pow_pos T
  have h0 : 0 < val a := by
    rw [hT]; exact Nat.mul_pos hp (by omega)
  induction d with
  | zero =>
    intro i hi hv
    obtain rfl : i = a.length := by omega
    rw [List.take_length] at hv
    omega
  | succ d ih =>
    intro i hi hv
    have ra := rd_ok ha (i : Int)
    by_cases hz : rd a (i : Int) = 0
    · refine Ev.step (fun k => ?_) (ih (i + 1) (by omega) ?_)
      · rw [nat_zeros.l0, if_pos (by omega), if_pos (by omega), if_pos (by omega), if_neg (by omega), wrap_id (by omega) (by omega), wrap_id (by omega) (by omega)]
        congr 1
      · rw [val_take_succ a i (by omega), hv, hz]; rfl
    · obtain ⟨x, hx⟩ : ∃ x : Nat, rd a (i : Int) = x := ⟨(rd a i).toNat, by omega⟩
      obtain ⟨t, m, hm⟩ := odd_part x (by omega)
      have ht : t < 32 := by
        apply Classical.byContradiction
        intro hc
        have h1 := Nat.pow_le_pow_right (n := 2) (by decide) (show 32 ≤ t by omega)
        have h2 : 2 ^ t * 1 ≤ 2 ^ t * (2 * m + 1) := Nat.mul_le_mul_left _ (by omega)
        omega
      have hs := split_two a ha i (by omega)
      rw [hv, Nat.zero_add, hx, Int.toNat_natCast, hm, hT] at hs
      have e1 : (4294967296 : Nat) ^ i = 2 ^ (32 * i) := by rw [show (4294967296 : Nat) = 2 ^ 32 from rfl, ← Nat.pow_mul]
      have e2 : (4294967296 : Nat) = 2 ^ t * (2 * 2 ^ (31 - t)) := by
        rw [show 2 * 2 ^ (31 - t) = 2 ^ (31 - t + 1) by rw [Nat.pow_succ, Nat.mul_comm], ← Nat.pow_add, show t + (31 - t + 1) = 32 by omega]
      have e3 : 2 ^ t * (2 * m + 1) + 4294967296 * val (a.drop (i + 1)) = 2 ^ t * (2 * (m + 2 ^ (31 - t) * val (a.drop (i + 1))) + 1) := by
        conv => lhs; rw [e2]
        grind
      rw [e3, e1, ← Nat.mul_assoc, ← Nat.pow_add] at hs
      have hTe := odd_unique _ _ _ _ hs
      refine Ev.step (fun k => ?_) (Ev.now _)
      rw [nat_zeros.l0, if_pos (by omega), if_pos (by omega), if_pos (by omega), if_pos (by omega), hx, tz64_eq x t m hm (by omega), Option.bind_some, wrap_id (i := 32 * (i : Int)) (by omega) (by omega), wrap_id (by omega) (by omega), hTe]
      congr 1
theorem zeros_ev (a : List Int) (ha : Ok a) (hn : a.length ≤ 35184372088832) (T M : Nat) (hT : val a = 2 ^ T * (2 * M + 1)) : Ev (fun k => nat_zeros.f k a) (T : Int) :=
  zeros_loop a ha hn T M hT a.length 0 (by omega) rfl

theorem lm_one {n : Nat} (h0 : n ≠ 0) (h : n < 4294967296) : lm n = [(n : Int)] := by
  rw [lm_pos h0, Nat.mod_eq_of_lt h, Nat.div_eq_of_lt h, lm_zero]
theorem lm_two {n : Nat} (h0 : 4294967296 ≤ n) (h : n < 18446744073709551616) : lm n = [((n % 4294967296 : Nat) : Int), ((n / 4294967296 : Nat) : Int)] := by
  rw [lm_pos (by omega), lm_one (by omega) (by omega)]
theorem len_le_one {n : Nat} : len n ≤ 1 ↔ n < 4294967296 := by
  constructor
  · intro h
    have h1 := lt_pow_len n
    have h2 := Nat.pow_le_pow_right (n := 4294967296) (by decide) h
    omega
  · intro h
    exact len_le (by omega)
theorem len_le_two {n : Nat} : len n ≤ 2 ↔ n < 18446744073709551616 := by
  constructor
  · intro h
    have h1 := lt_pow_len n
    have h2 := Nat.pow_le_pow_right (n := 4294967296) (by decide) h
    omega
  · intro h
    exact len_le (by omega)
theorem to_ev (a : List Int) (ha : U a) (hn : a.length ≤ 35184372088832) : Ev (fun k => nat_To.f k a) (if val a < 18446744073709551616 then ((val a : Int), true) else (0, false)) := by
  refine Ev.bind (clean_ev a ha hn) ?_
  generalize val a = n
  rw [lm_length]
  by_cases h0 : n = 0
  · subst h0
    refine Ev.congr (fun k => ?_) (Ev.now _)
    rw [if_pos (by rw [len_zero]; rfl)]
    rfl
  · have l0 : len n ≠ 0 := fun h => h0 (len_eq_zero.1 h)
    by_cases h1 : n < 4294967296
    · have l1 := len_le_one.2 h1
      refine Ev.congr (fun k => ?_) (Ev.now _)
      rw [if_neg (by omega), if_pos (by omega), if_pos (by omega), if_pos (by omega), lm_one h0 h1]
      rfl
    · have l1 : ¬ len n ≤ 1 := fun h => h1 (len_le_one.1 h)
      by_cases h2 : n < 18446744073709551616
      · have l2 := len_le_two.2 h2
        refine Ev.congr (fun k => ?_) (Ev.now _)
        rw [if_neg (by omega), if_neg (by omega), if_pos (by omega), if_pos (by omega), if_pos (by omega), if_pos h2, lm_two (by omega) h2]
        have := or_sum (x := ((n / 4294967296 : Nat) : Int)) (y := ((n % 4294967296 : Nat) : Int)) (by omega) (by omega) (by omega) (by omega)
        show some ((Go.bits .or .u64 (IntKind.u64.wrap (((n / 4294967296 : Nat) : Int) * 4294967296)) ((n % 4294967296 : Nat) : Int)), true) = _
        rw [this]
        congr 2
        omega
      · have l2 : ¬ len n ≤ 2 := fun h => h2 (len_le_two.1 h)
        refine Ev.congr (fun k => ?_) (Ev.now _)
        rw [if_neg (by omega), if_neg (by omega), if_neg (by omega), if_neg h2]

theorem euclid_loop : ∀ (y x : Nat), x < 18446744073709551616 → y < 18446744073709551616 → Ev (fun k => nat_euclid.l0 k (x : Int) (y : Int)) (lm (Nat.gcd x y)) := by
  intro y
  induction y using Nat.strongRecOn with
  | ind y ih =>
    intro x hx hy
    by_cases h0 : y = 0
    · subst h0
      rw [Nat.gcd_zero_right]
      refine Ev.step (f := fun k => (nat_Of.f k (x : Int)).bind fun v => some v) (fun k => ?_) (Ev.bind (of_ev (x : Int) (by omega) (by omega)) (Ev.now _))
      rw [nat_euclid.l0, if_neg (by omega)]
    · refine Ev.step (fun k => ?_) ((ih (x % y) (Nat.mod_lt _ (by omega)) y hy (Nat.lt_trans (Nat.mod_lt _ (by omega)) hy)).of_eq ?_)
      · rw [nat_euclid.l0, if_pos (by omega), if_neg (by omega)]
        rfl
      · rw [Nat.gcd_comm x y, Nat.gcd_rec y x, Nat.gcd_comm]
theorem euclid_ev (a b : Nat) (ha : a < 18446744073709551616) (hb : b < 18446744073709551616) : Ev (fun k => nat_euclid.f k (lm a) (lm b)) (lm (Nat.gcd a b)) := by
  have l : ∀ n : Nat, n < 18446744073709551616 → (lm n).length ≤ 35184372088832 := fun n h => by
    have := len_le_two.2 h
    rw [lm_length]; omega
  have e1 := to_ev (lm a) (lm_ok a).U (l a ha)
  have e2 := to_ev (lm b) (lm_ok b).U (l b hb)
  rw [val_lm, if_pos ha] at e1
  rw [val_lm, if_pos hb] at e2
  exact Ev.bind e1 (Ev.bind e2 (euclid_loop b a ha hb))
end Go.DI.Th
namespace Go.DI.Th
open Go Go.RowKit Go.DI

theorem val_drop_div (l : List Int) (i : Nat) (h : i ≤ l.length) : val (l.drop i) = val l / 4294967296 ^ i := by
  have := drop_more l 0 i (by omega)
  rwa [Nat.zero_add, List.drop_zero] at this
theorem val_take_mod (l : List Int) (i : Nat) (h : i ≤ l.length) : val (l.take i) = val l % 4294967296 ^ i := by
  have h1 := split_at l i
  rw [List.length_take, Nat.min_eq_left h] at h1
  have h2 := val_lt (l.take i)
  rw [List.length_take, Nat.min_eq_left h] at h2
  rw [h1, Nat.add_mul_mod_self_left, Nat.mod_eq_of_lt h2]
theorem rd_top (m : Nat) (h : m ≠ 0) : (rd (lm m) ((len m - 1 : Nat) : Int)).toNat = m / 4294967296 ^ (len m - 1) := by
  have h0 : len m ≠ 0 := fun e => h (len_eq_zero.1 e)
  have h1 := drop_one (lm m) (lm_ok m) (len m - 1) (by rw [lm_length]; omega)
  rw [← h1, val_drop_div _ _ (by rw [lm_length]; omega), val_lm]
theorem len_eq_of {m k : Nat} (h1 : 4294967296 ^ k ≤ m) (h2 : m < 4294967296 ^ (k + 1)) : len m = k + 1 := by
  have h3 := len_le h2
  apply Nat.le_antisymm h3
  apply Classical.byContradiction
  intro hc
  have h4 := lt_pow_len m
  have h5 := Nat.pow_le_pow_right (n := 4294967296) (by decide) (show len m ≤ k by omega)
  omega

theorem lg1 (A T P B V q D d Z : Nat) (hA : A = (T + P * (V * q + D)) + P * B * (d * V)) (hZ : Z = 0) : A = (T + P * (D + B * Z)) + P * ((q + B * d) * V) := by subst hZ; grind
theorem long_step (v u done : List Int) (s : Int) (j k : Nat) (hul : u.length ≤ 1099511627776) (hjn : j + 1 + v.length ≤ u.length) (hdl : done.length + (j + 1) ≤ 1099511627776) :
    nat_long.l0 (k + 1) s v u (v.length : Int) (List.replicate (j + 1) 0 ++ done) (((j + 1 : Nat) : Int) - 1) =
    (nat_digit.f k ((u.drop j).take (v.length + 1)) v).bind fun v12 => if v12.2.length = ((u.drop j).take (v.length + 1)).length then nat_long.l0 k s v (u.take j ++ v12.2 ++ u.drop (j + (v.length + 1))) (v.length : Int) (List.replicate j 0 ++ v12.1 :: done) ((j : Int) - 1) else none := by
  have t1 : (((j + 1 : Nat) : Int) - 1).toNat = j := by omega
  have t2 : (((j + v.length + 1 : Nat) : Int)).toNat = j + (v.length + 1) := by omega
  have t3 : j + (v.length + 1) - j = v.length + 1 := by omega
  have c1 : (((j + 1 : Nat) : Int) - 1) ≥ 0 := by omega
  have c2 : (((j + 1 : Nat) : Int) - 1) < ((j + v.length + 1 : Nat) : Int) := by omega
  have c3 : ((j + v.length + 1 : Nat) : Int) ≤ (u.length : Int) := by omega
  have c4 : (((j + 1 : Nat) : Int) - 1) < ((j + 1 + done.length : Nat) : Int) := by omega
  have w1 : wrap64 ((((j + 1 : Nat) : Int) - 1) + (v.length : Int)) = ((j + v.length : Nat) : Int) := by rw [wrap_id (by omega) (by omega)]; omega
  have w2 : wrap64 (((j + v.length : Nat) : Int) + 1) = ((j + v.length + 1 : Nat) : Int) := by clear w1; rw [wrap_id (by omega) (by omega)]; omega
  have w3 : wrap64 ((((j + 1 : Nat) : Int) - 1) - 1) = (j : Int) - 1 := by clear w1 w2; rw [wrap_id (by omega) (by omega)]; omega
  have hrl : (List.replicate (j + 1) (0 : Int) ++ done).length = j + 1 + done.length := by rw [List.length_append, List.length_replicate]
  rw [nat_long.l0, if_pos c1, w1, w2, w3, t1, t2, t3, if_pos c2, if_pos c3]
  congr 1
  funext v12
  rw [hrl, if_pos c4, fillr]
theorem long_digit (v : List Int) (hv : Ok v) (hv2 : 2 ≤ v.length) (hnorm : 2147483648 ≤ (rd v (v.length - 1 : Nat)).toNat) (A j : Nat) (u done : List Int) (hu : Ok u) (hd : Ok done) (hul : u.length ≤ 1099511627776) (hjn : j + 1 + v.length ≤ u.length)
    (hA : A = val u + 4294967296 ^ (j + 1) * (val done * val v)) (hlt : val (u.drop (j + 1)) < val v) :
    ∃ (D : List Int) (g : Int), Ev (fun k => nat_digit.f k ((u.drop j).take (v.length + 1)) v) (g, D) ∧ D.length = v.length + 1 ∧ ((u.drop j).take (v.length + 1)).length = v.length + 1 ∧ Ok (u.take j ++ D ++ u.drop (j + (v.length + 1))) ∧ (u.take j ++ D ++ u.drop (j + (v.length + 1))).length = u.length ∧
      Ok (g :: done) ∧ A = val (u.take j ++ D ++ u.drop (j + (v.length + 1))) + 4294967296 ^ j * (val (g :: done) * val v) ∧ val ((u.take j ++ D ++ u.drop (j + (v.length + 1))).drop j) < val v := by
  have hj : j < u.length := by omega
  have hdj : ∃ x : Nat, x < 4294967296 ∧ val (u.drop j) = x + 4294967296 * val (u.drop (j + 1)) := by
    have ru := rd_ok hu (j : Int)
    have hdj := val_drop u j hj
    rw [Int.emod_eq_of_lt ru.1 ru.2] at hdj
    exact ⟨(rd u j).toNat, by omega, hdj⟩
  obtain ⟨x, hx, hdj⟩ := hdj
  have hvl := val_lt v
  have hw : val (u.drop j) < 4294967296 * val v := by omega
  have hwl : ((u.drop j).take (v.length + 1)).length = v.length + 1 := by rw [List.length_take, List.length_drop]; omega
  have hbig : val (u.drop j) < 4294967296 ^ (v.length + 1) := by
    rw [Nat.pow_succ, Nat.mul_comm]
    exact Nat.lt_of_lt_of_le hw (Nat.mul_le_mul_left _ (Nat.le_of_lt hvl))
  have hwv : val ((u.drop j).take (v.length + 1)) = val (u.drop j) := by
    rw [val_take_mod _ _ (by rw [List.length_drop]; omega), Nat.mod_eq_of_lt hbig]
  obtain ⟨D, d1, d2, d3, d4⟩ := digit_ev ((u.drop j).take (v.length + 1)) v ((hu.drop j).take _) hv (by rw [hwl]; omega) (by rw [hwl]) hv2 hnorm (by rw [hwv]; exact hw)
  rw [hwv] at d3 d4
  rw [hwl] at d2
  have hhigh : val (u.drop (j + (v.length + 1))) = 0 := by
    rw [drop_more u j (v.length + 1) (by omega), Nat.div_eq_of_lt hbig]
  have hV : 0 < val v := Nat.lt_of_le_of_lt (Nat.zero_le _) hlt
  have hql : val (u.drop j) / val v < 4294967296 := by
    rw [Nat.div_lt_iff_lt_mul hV]; exact hw
  have hDlt : val D < val v := by rw [d3]; exact Nat.mod_lt _ hV
  have htl : (u.take j).length = j := by rw [List.length_take]; exact Nat.min_eq_left (Nat.le_of_lt hj)
  have hq0 : 0 ≤ (((val (u.drop j) / val v : Nat) : Int)) ∧ (((val (u.drop j) / val v : Nat) : Int)) < 4294967296 := ⟨Int.natCast_nonneg _, Int.ofNat_lt.2 hql⟩
  refine ⟨D, _, d4, d2, hwl, ((hu.take j).append d1).append (hu.drop _), ?_, Ok.cons hq0 hd, ?_, ?_⟩
  · simp only [List.length_append, List.length_take, List.length_drop, d2]; omega
  · have e1 := split_at u j
    rw [htl, ← Nat.div_add_mod (val (u.drop j)) (val v), ← d3] at e1
    rw [List.append_assoc, val_append, val_append, htl, val_cons]
    have e2 : (((val (u.drop j) / val v : Nat) : Int) % 4294967296).toNat = val (u.drop j) / val v := by
      rw [Int.emod_eq_of_lt hq0.1 hq0.2, Int.toNat_natCast]
    rw [e2, hhigh, Nat.mul_zero, Nat.add_zero]
    have e3 := lg1 A (val (u.take j)) (4294967296 ^ j) 4294967296 (val v) (val (u.drop j) / val v) (val D) (val done) 0 (by rw [← e1, ← Nat.pow_succ]; exact hA) rfl
    rw [Nat.mul_zero, Nat.add_zero] at e3
    exact e3
  · rw [List.append_assoc, List.drop_append_of_le_length (Nat.le_of_eq htl.symm), List.drop_of_length_le (Nat.le_of_eq htl), List.nil_append, val_append, hhigh, Nat.mul_zero, Nat.add_zero]
    exact hDlt
theorem long_loop (v : List Int) (hv : Ok v) (hv2 : 2 ≤ v.length) (hnorm : 2147483648 ≤ (rd v (v.length - 1 : Nat)).toNat) (s : Nat) (hs : s < 32) (A : Nat) : ∀ (j : Nat) (u done : List Int), Ok u → Ok done → u.length ≤ 1099511627776 → j + v.length ≤ u.length → done.length + j ≤ 1099511627776 →
    A = val u + 4294967296 ^ j * (val done * val v) → val (u.drop j) < val v →
    Ev (fun k => nat_long.l0 k (s : Int) v u (v.length : Int) (List.replicate j 0 ++ done) ((j : Int) - 1)) (lm (A / val v), lm (A % val v / 2 ^ s)) := by
  intro j
  induction j with
  | zero =>
    intro u done hu hd hul hjn hdl hA hlt
    rw [Nat.pow_zero, Nat.one_mul] at hA
    rw [List.drop_zero] at hlt
    have hV : 0 < val v := Nat.lt_of_le_of_lt (Nat.zero_le _) hlt
    have hq : A / val v = val done := by
      rw [hA, Nat.add_mul_div_right _ _ hV, Nat.div_eq_of_lt hlt, Nat.zero_add]
    have hr : A % val v = val u := by
      rw [hA, Nat.add_mul_mod_self_right, Nat.mod_eq_of_lt hlt]
    rw [hq, hr]
    have e1 := trim_ev done hd (by omega)
    have e2 := trim_ev u hu (by omega)
    have e3 := shr_ev (lm (val u)) (lm_ok _) s (by have := val_len u; rw [lm_length]; omega) (by omega)
    rw [val_lm] at e3
    refine Ev.step (f := fun k => (nat_trim.f k done).bind fun v3 => (nat_trim.f k u).bind fun v5 => (nat_shr.f k v5 (s : Int)).bind fun v7 => some (v3, v7)) (fun k => ?_) (Ev.bind e1 (Ev.bind e2 (Ev.bind e3 (Ev.now _))))
    rw [nat_long.l0, if_neg (by omega)]
    rfl
  | succ j ih =>
    intro u done hu hd hul hjn hdl hA hlt
    obtain ⟨D, g, d4, d2, hwl, hu', hl', hd', hA', hdr⟩ := long_digit v hv hv2 hnorm A j u done hu hd hul hjn hA hlt
    have hih := ih _ (g :: done) hu' hd' (by rw [hl']; exact hul) (by rw [hl']; omega) (by rw [List.length_cons]; omega) hA' hdr
    refine Ev.step (fun k => long_step v u done (s : Int) j k hul hjn hdl) (Ev.bind d4 ?_)
    refine Ev.congr (fun k => ?_) hih
    dsimp only
    rw [if_pos (by rw [d2, hwl])]
end Go.DI.Th
namespace Go.DI.Th
open Go Go.RowKit Go.DI

theorem w32 (n : Nat) (h : n < 4294967296) : IntKind.u32.wrap (n : Int) = (n : Int) := by
  rw [IntKind.wrap_u32]; omega
theorem lm_rd_top (b : Nat) (hb : b ≠ 0) : ∃ t : Nat, rd (lm b) ((len b - 1 : Nat) : Int) = (t : Int) ∧ t < 4294967296 ∧ t ≠ 0 ∧ t = b / 4294967296 ^ (len b - 1) := by
  have r := rd_ok (lm_ok b) ((len b - 1 : Nat) : Int)
  have h1 := rd_top b hb
  have hl : len b ≠ 0 := fun e => hb (len_eq_zero.1 e)
  have h2 := pow_le_len hb
  have hp : 0 < 4294967296 ^ (len b - 1) := Nat.pow_pos (by decide)
  have h3 : 1 ≤ b / 4294967296 ^ (len b - 1) := (Nat.le_div_iff_mul_le hp).2 (by omega)
  exact ⟨(rd (lm b) ((len b - 1 : Nat) : Int)).toNat, (Int.toNat_of_nonneg r.1).symm, (Int.toNat_lt r.1).2 r.2, by omega, h1⟩
theorem norm_len (b t : Nat) (hb : b ≠ 0) (ht : t = b / 4294967296 ^ (len b - 1)) (ht0 : t ≠ 0) (ht1 : t < 4294967296) : len (b * 2 ^ (32 - bl t)) = len b ∧ 2147483648 ≤ b * 2 ^ (32 - bl t) / 4294967296 ^ (len b - 1) := by
  obtain ⟨k, hk⟩ : ∃ k, len b = k + 1 := ⟨len b - 1, by have : len b ≠ 0 := fun e => hb (len_eq_zero.1 e); omega⟩
  have hp : 0 < 4294967296 ^ k := Nat.pow_pos (by decide)
  have hk1 : len b - 1 = k := by omega
  rw [hk1] at ht ⊢
  rw [hk]
  have h1 := bl_norm t ht0 ht1
  have h2 := bl_lt t
  have h3 := bl_32 t ht1
  have e1 : 2 ^ bl t * 2 ^ (32 - bl t) = 4294967296 := by rw [← Nat.pow_add, show bl t + (32 - bl t) = 32 by omega]
  have h4 : (t + 1) * 2 ^ (32 - bl t) ≤ 4294967296 := by
    rw [← e1]
    exact Nat.mul_le_mul_right _ h2
  have h5 : b < (t + 1) * 4294967296 ^ k := by
    rw [ht]
    exact Nat.lt_mul_of_div_lt (Nat.lt_succ_self _) hp
  have h6 : t * 4294967296 ^ k ≤ b := by
    rw [ht]
    exact Nat.div_mul_le_self _ _
  have h7 : t * 2 ^ (32 - bl t) * 4294967296 ^ k ≤ b * 2 ^ (32 - bl t) := by
    rw [Nat.mul_right_comm]
    exact Nat.mul_le_mul_right _ h6
  have h8 : b * 2 ^ (32 - bl t) < 4294967296 ^ (k + 1) := by
    have := Nat.mul_lt_mul_of_pos_right h5 (Nat.two_pow_pos (32 - bl t))
    rw [Nat.mul_right_comm] at this
    rw [Nat.pow_succ, Nat.mul_comm (4294967296 ^ k)]
    exact Nat.lt_of_lt_of_le this (Nat.mul_le_mul_right _ h4)
  refine ⟨len_eq_of ?_ h8, ?_⟩
  · refine Nat.le_trans ?_ h7
    have : 1 ≤ t * 2 ^ (32 - bl t) := by omega
    have := Nat.mul_le_mul_right (4294967296 ^ k) this
    omega
  · rw [Nat.le_div_iff_mul_le hp]
    exact Nat.le_trans (Nat.mul_le_mul_right _ h1.1) h7
theorem long_ev (a b : Nat) (hb : 2 ≤ len b) (hab : b ≤ a) (ha : len a ≤ 549755813888) : Ev (fun k => nat_long.f k (lm a) (lm b)) (lm (a / b), lm (a % b)) := by
  have hb0 : b ≠ 0 := fun e => by rw [e, len_zero] at hb; omega
  have hlab := len_mono hab
  obtain ⟨t, t1, t2, t3, t4⟩ := lm_rd_top b hb0
  obtain ⟨n1, n2⟩ := norm_len b t hb0 t4 t3 t2
  obtain ⟨s, hs⟩ : ∃ s, s = 32 - bl t := ⟨_, rfl⟩
  rw [← hs] at n1 n2
  have hs32 : s < 32 := by
    have : 1 ≤ bl t := by unfold bl; rw [if_neg t3]; omega
    omega
  have hp : 0 < 2 ^ s := Nat.two_pow_pos s
  have el := lz32_eq t t2
  rw [← hs] at el
  have ev := shl_ev (lm b) (lm_ok b) s (by rw [lm_length]; omega)
  rw [val_lm] at ev
  have eu := shl_ev (lm a) (lm_ok a) s (by rw [lm_length]; omega)
  rw [val_lm] at eu
  have hlu : len (a * 2 ^ s) ≤ len a + 1 := by
    refine len_le ?_
    rw [Nat.pow_succ]
    have h1 := lt_pow_len a
    have h2 : 2 ^ s ≤ 4294967296 := by
      have := Nat.pow_le_pow_right (n := 2) (by decide) (Nat.le_of_lt hs32)
      omega
    exact Nat.lt_of_lt_of_le (Nat.mul_lt_mul_of_pos_right h1 hp) (Nat.mul_le_mul_left _ h2)
  have hlu2 : len a ≤ len (a * 2 ^ s) := len_mono (by
    have := Nat.mul_le_mul_left a hp
    omega)
  have hul : ((lm (a * 2 ^ s) ++ [0, 0]).take (len a + 1)).length = len a + 1 := by
    rw [List.length_take, List.length_append, lm_length, List.length_cons, List.length_singleton]; omega
  have huok : Ok ((lm (a * 2 ^ s) ++ [0, 0]).take (len a + 1)) := Ok.take ((lm_ok _).append (Ok.zeros 2)) _
  have huv : val ((lm (a * 2 ^ s) ++ [0, 0]).take (len a + 1)) = a * 2 ^ s := by
    rw [val_take_mod _ _ (by rw [List.length_append, lm_length, List.length_cons, List.length_singleton]; omega), val_append, val_lm]
    have : val [0, 0] = 0 := rfl
    rw [this, Nat.mul_zero, Nat.add_zero, Nat.mod_eq_of_lt]
    exact Nat.lt_of_lt_of_le (lt_pow_len _) (Nat.pow_le_pow_right (by decide) hlu)
  have hvl : (lm (b * 2 ^ s)).length = len b := by rw [lm_length, n1]
  have hvv : val (lm (b * 2 ^ s)) = b * 2 ^ s := val_lm _
  have hbs0 : b * 2 ^ s ≠ 0 := Nat.ne_of_gt (Nat.mul_pos (Nat.pos_of_ne_zero hb0) hp)
  have hnorm : 2147483648 ≤ (rd (lm (b * 2 ^ s)) ((lm (b * 2 ^ s)).length - 1 : Nat)).toNat := by
    have := rd_top (b * 2 ^ s) hbs0
    rw [n1] at this
    rw [hvl, this]
    exact n2
  have hdrop : val (((lm (a * 2 ^ s) ++ [0, 0]).take (len a + 1)).drop (len a + 1 - len b)) < val (lm (b * 2 ^ s)) := by
    rw [val_drop_div _ _ (by rw [hul]; omega), huv, hvv]
    rw [Nat.div_lt_iff_lt_mul (Nat.pow_pos (by decide))]
    have h1 := lt_pow_len a
    have h3 := pow_le_len hb0
    have h5 : 4294967296 ^ len a = 4294967296 ^ (len b - 1) * 4294967296 ^ (len a + 1 - len b) := by rw [← Nat.pow_add]; congr 1; omega
    have h6 := Nat.mul_le_mul_right (4294967296 ^ (len a + 1 - len b)) h3
    rw [← h5] at h6
    rw [Nat.mul_right_comm]
    exact Nat.mul_lt_mul_of_pos_right (Nat.lt_of_lt_of_le h1 h6) hp
  have hmain := long_loop (lm (b * 2 ^ s)) (lm_ok _) (by rw [hvl]; exact hb) hnorm s hs32 (a * 2 ^ s) (len a + 1 - len b) ((lm (a * 2 ^ s) ++ [0, 0]).take (len a + 1)) [] huok Ok.nil (by rw [hul]; omega) (by rw [hul, hvl]; omega) (by simp; omega) (by rw [huv]; simp [val]) hdrop
  rw [hvv, Nat.mul_div_mul_right _ _ hp, Nat.mul_mod_mul_right, Nat.mul_div_cancel _ hp, hvl, List.append_nil] at hmain
  have e1 : (lm (a * 2 ^ s)).length + ([0, 0] : List Int).length < 17592186044417 := by
    clear t1 t4 n1 n2 hnorm hdrop hmain el ev eu huv hvv
    rw [lm_length, List.length_cons, List.length_singleton]; omega
  have e2 : ((len a + 1 : Nat) : Int) ≤ ((lm (a * 2 ^ s) ++ [0, 0]).length : Int) := by
    clear t1 t4 n1 n2 hnorm hdrop hmain el ev eu huv hvv e1
    rw [List.length_append, lm_length, List.length_cons, List.length_singleton]; omega
  have e3 : ((len a + 1 - len b : Nat) : Int).toNat ≤ 35184372088832 := by
    clear t1 t4 n1 n2 hnorm hdrop hmain el ev eu huv hvv e1 e2
    rw [Int.toNat_natCast]; omega
  unfold nat_long.f
  have c0 : wrap64 (((lm b).length : Int) - 1) = ((len b - 1 : Nat) : Int) := by
    clear t1 t4 n1 n2 hnorm hdrop hmain el ev eu huv hvv; rw [lm_length, wrap_id (by omega) (by omega)]; omega
  rw [c0]
  refine Ev.if_pos (Int.natCast_nonneg _) (Ev.if_pos (by rw [lm_length]; exact Int.ofNat_lt.2 (by omega)) ?_)
  rw [t1, w32 t t2, el]
  refine Ev.bind (Ev.now _) (Ev.bind ev (Ev.bind eu ?_))
  refine Ev.congr (fun k => ?_) hmain
  have d1 : wrap64 (((lm a).length : Int) + 1) = ((len a + 1 : Nat) : Int) := by
    clear c0 t1 t4 n1 n2 hnorm hdrop hmain el ev eu huv hvv; rw [lm_length, wrap_id (by omega) (by omega)]; omega
  have d2 : wrap64 (((len a + 1 : Nat) : Int) - (len b : Int)) = ((len a + 1 - len b : Nat) : Int) := by
    clear c0 d1 t1 t4 n1 n2 hnorm hdrop hmain el ev eu huv hvv; rw [wrap_id (by omega) (by omega)]; omega
  have d3 : wrap64 (((len a + 1 - len b : Nat) : Int) - 1) = ((len a + 1 - len b : Nat) : Int) - 1 := by
    clear c0 d1 d2 t1 t4 n1 n2 hnorm hdrop hmain el ev eu huv hvv; rw [wrap_id (by omega) (by omega)]
  rw [if_pos e1, d1, if_pos (Int.natCast_nonneg _), if_pos e2, Int.toNat_natCast, hul, hvl, d2, if_pos (Int.natCast_nonneg _), if_pos e3, Int.toNat_natCast, List.length_replicate, d3]

theorem divmod_ev (a b : List Int) (ha : U a) (hb : U b) (hla : a.length ≤ 549755813888) (hlb : b.length ≤ 549755813888) :
    Ev (fun k => nat_DivMod.f k a b) (if val b = 0 then ([], [], 2) else (lm (val a / val b), lm (val a % val b), 0)) := by
  have la := val_len a
  have lb := val_len b
  refine Ev.bind (clean_ev a ha (by omega)) (Ev.bind (clean_ev b hb (by omega)) ?_)
  generalize val a = x at la ⊢
  generalize val b = y at lb ⊢
  have hlx : len x ≤ 549755813888 := by omega
  have hly : len y ≤ 549755813888 := by omega
  clear la lb
  rw [lm_length]
  by_cases h0 : y = 0
  · subst h0
    rw [if_pos rfl]
    exact Ev.congr (fun k => by rw [if_pos (by rw [len_zero]; rfl)]) (Ev.now _)
  · rw [if_neg h0]
    have hl0 : len y ≠ 0 := fun e => h0 (len_eq_zero.1 e)
    refine Ev.congr (f := fun k => (nat_order.f k (lm x) (lm y)).bind fun v15 => (if v15 < 0 then (some (([] : List Int), lm x, 0)) else (if (len y : Int) = 1 then (if 0 < (len y : Int) then ((nat_small.f k (lm x) (rd (lm y) 0)).bind fun v26 => ((nat_Of.f k v26.2).bind fun v34 => (some (v26.1, v34, 0)))) else none) else ((nat_long.f k (lm x) (lm y)).bind fun v24 => (some (v24.1, v24.2, 0)))))) (fun k => by rw [if_neg (by omega)]) ?_
    refine Ev.bind (order_ev x y (by omega) (by omega)) ?_
    unfold cmp
    by_cases h1 : x < y
    · rw [if_pos h1]
      refine Ev.congr (fun k => by rw [if_pos (by decide)]) ((Ev.now _).of_eq ?_)
      rw [Nat.div_eq_of_lt h1, Nat.mod_eq_of_lt h1, lm_zero]
    · have hc : ¬ (if x < y then (-1 : Int) else if y < x then 1 else 0) < 0 := by
        rw [if_neg h1]; split <;> decide
      refine Ev.if_neg hc ?_
      by_cases h2 : len y = 1
      · have hy1 : y < 4294967296 := len_le_one.1 (by omega)
        have hr : rd (lm y) 0 = (y : Int) := by rw [lm_one h0 hy1]; rfl
        refine Ev.if_pos (by omega) (Ev.if_pos (by omega) ?_)
        rw [hr]
        have es := small_ev (lm x) (lm_ok x) (by rw [lm_length]; omega) y (by omega) hy1
        rw [val_lm] at es
        refine Ev.bind es (Ev.bind (of_ev _ (Int.natCast_nonneg _) ?_) ?_)
        · have := Nat.mod_lt x (show 0 < y by omega)
          show ((x % y : Nat) : Int) < 18446744073709551616
          omega
        · exact Ev.now _
      · refine Ev.if_neg (by omega) (Ev.bind (long_ev x y (by omega) (by omega) hlx) (Ev.now _))
theorem rest_ev (a b : List Int) (ha : U a) (hb : U b) (hla : a.length ≤ 549755813888) (hlb : b.length ≤ 549755813888) (h0 : val b ≠ 0) :
    Ev (fun k => nat_rest.f k a b) (lm (val a / val b), lm (val a % val b)) := by
  have h := divmod_ev a b ha hb hla hlb
  rw [if_neg h0] at h
  exact Ev.bind h (Ev.now _)

theorem gcd_odd_mul (t m p : Nat) (hp : p % 2 = 1) : Nat.gcd (2 ^ t * m) p = Nat.gcd m p := by
  have h2 : Nat.Coprime 2 p := by
    unfold Nat.Coprime
    rw [Nat.gcd_rec, hp]
    rfl
  exact (h2.pow_left t).gcd_mul_left_cancel m
theorem odd_ev (r : Nat) (hr : r ≠ 0) (hl : len r ≤ 549755813888) (p x y : Nat) (q : List Int) (hp : p % 2 = 1) (ih : ∀ m, m % 2 = 1 → m ≤ r → m ≠ 0 → Nat.gcd m p = Nat.gcd r p → Ev (fun k => nat_Gcd.l0 k (lm m) (lm p) (x : Int) (y : Int)) q) :
    Ev (fun k => (nat_zeros.f k (lm r)).bind fun v => (nat_shr.f k (lm r) v).bind fun w => nat_Gcd.l0 k w (lm p) (x : Int) (y : Int)) q := by
  obtain ⟨t, m, hm⟩ := odd_part r hr
  have hpw := Nat.two_pow_pos t
  have ht : t ≤ 32 * len r := by
    apply Classical.byContradiction
    intro hc
    have h1 := lt_pow_len r
    rw [show (4294967296 : Nat) = 2 ^ 32 from rfl, ← Nat.pow_mul] at h1
    have h2 := Nat.pow_le_pow_right (n := 2) (by decide) (show 32 * len r ≤ t by omega)
    have h3 : 2 ^ t * 1 ≤ 2 ^ t * (2 * m + 1) := Nat.mul_le_mul_left _ (by omega)
    omega
  have ez := zeros_ev (lm r) (lm_ok r) (by rw [lm_length]; omega) t m (by rw [val_lm]; exact hm)
  have es := shr_ev (lm r) (lm_ok r) t (by rw [lm_length]; omega) (by omega)
  have hd : val (lm r) / 2 ^ t = 2 * m + 1 := by rw [val_lm, hm, Nat.mul_div_cancel_left _ hpw]
  rw [hd] at es
  refine Ev.bind ez (Ev.bind es (ih (2 * m + 1) (by omega) ?_ (by omega) ?_))
  · have := Nat.mul_le_mul_right (2 * m + 1) hpw
    omega
  · rw [hm, gcd_odd_mul t _ p hp]
theorem gcd_loop (x y : Nat) (hx : x ≤ 17592186044416) (hy : y ≤ 17592186044416) : ∀ (n p q : Nat), p + q ≤ n → p % 2 = 1 → q % 2 = 1 → len p ≤ 549755813888 → len q ≤ 549755813888 →
    Ev (fun k => nat_Gcd.l0 k (lm p) (lm q) (x : Int) (y : Int)) (lm (Nat.gcd p q * 2 ^ min x y)) := by
  have shl_end : ∀ p : Nat, len p ≤ 549755813888 → Ev (fun k => (nat_shl.f k (lm p) (mn (x : Int) (y : Int))).bind fun v => some v) (lm (p * 2 ^ min x y)) := by
    intro p hp
    have em : mn (x : Int) (y : Int) = ((min x y : Nat) : Int) := by
      show mnI _ _ = _
      unfold mnI
      split <;> omega
    have es := shl_ev (lm p) (lm_ok p) (min x y) (by rw [lm_length]; omega)
    rw [val_lm] at es
    rw [em]
    exact Ev.bind es (Ev.now _)
  intro n
  induction n with
  | zero => intro p q h h1 h2; omega
  | succ n ih =>
    intro p q h h1 h2 l1 l2
    have big : ∀ a b : Nat, a % 2 = 1 → b % 2 = 1 → b < a → a + b ≤ n + 1 → len a ≤ 549755813888 → len b ≤ 549755813888 →
        Ev (fun k => if ((lm a).length : Int) > wrap64 (((lm b).length : Int) + 1) then ((nat_rest.f k (lm a) (lm b)).bind fun v22 => (if (v22.2.length : Int) = 0 then ((nat_shl.f k (lm b) (mn (x : Int) (y : Int))).bind fun v34 => (some v34)) else ((nat_zeros.f k v22.2).bind fun v32 => ((nat_shr.f k v22.2 v32).bind fun v33 => (nat_Gcd.l0 k v33 (lm b) (x : Int) (y : Int)))))) else ((nat_minus.f k (lm a) (lm b)).bind fun v22 => ((nat_zeros.f k v22).bind fun v26 => ((nat_shr.f k v22 v26).bind fun v27 => (nat_Gcd.l0 k v27 (lm b) (x : Int) (y : Int)))))) (lm (Nat.gcd a b * 2 ^ min x y)) := by
      intro a b ha hb hlt hsum la lb
      by_cases hc : ((lm a).length : Int) > wrap64 (((lm b).length : Int) + 1)
      · have er := rest_ev (lm a) (lm b) (lm_ok a).U (lm_ok b).U (by rw [lm_length]; omega) (by rw [lm_length]; omega) (by rw [val_lm]; omega)
        rw [val_lm, val_lm] at er
        refine Ev.if_pos hc (Ev.bind er ?_)
        dsimp only
        rw [lm_length]
        have hm := Nat.mod_lt a (show 0 < b by omega)
        by_cases hz : a % b = 0
        · have e0 : (len (a % b) : Int) = 0 := by rw [hz, len_zero]; rfl
          refine Ev.if_pos e0 ((shl_end b lb).of_eq ?_)
          rw [Nat.gcd_comm a b, Nat.gcd_rec b a, hz, Nat.gcd_zero_left]
        · have e0 : ¬ (len (a % b) : Int) = 0 := by
            intro e
            exact hz (len_eq_zero.1 (by omega))
          refine Ev.if_neg e0 (odd_ev (a % b) hz (Nat.le_trans (len_mono (Nat.le_of_lt hm)) lb) b x y _ hb fun m m1 m2 m3 m4 => ?_)
          have hlm : len m ≤ 549755813888 := Nat.le_trans (len_mono (by omega)) lb
          refine (ih m b (by omega) m1 hb hlm lb).of_eq ?_
          rw [m4, ← Nat.gcd_rec, Nat.gcd_comm]
      · have em := minus_ev (lm a) (lm b) (lm_ok a) (lm_ok b) (by rw [lm_length]; omega) (by rw [val_lm, val_lm]; omega)
        rw [val_lm, val_lm] at em
        refine Ev.if_neg hc (Ev.bind em ?_)
        refine odd_ev (a - b) (by omega) (Nat.le_trans (len_mono (Nat.sub_le _ _)) la) b x y _ hb fun m m1 m2 m3 m4 => ?_
        have hlm : len m ≤ 549755813888 := Nat.le_trans (len_mono (by omega)) la
        refine (ih m b (by omega) m1 hb hlm lb).of_eq ?_
        rw [m4, Nat.gcd_sub_self_left (Nat.le_of_lt hlt)]
    refine Ev.step (f := fun k => (nat_order.f k (lm p) (lm q)).bind fun v2 => (if v2 = 0 then ((nat_shl.f k (lm p) (mn (x : Int) (y : Int))).bind fun v11 => (some v11)) else (if v2 < 0 then (if ((lm q).length : Int) > (wrap64 (((lm p).length : Int) + 1)) then ((nat_rest.f k (lm q) (lm p)).bind fun v22 => (if (v22.2.length : Int) = 0 then ((nat_shl.f k (lm p) (mn (x : Int) (y : Int))).bind fun v34 => (some v34)) else ((nat_zeros.f k v22.2).bind fun v32 => ((nat_shr.f k v22.2 v32).bind fun v33 => (nat_Gcd.l0 k v33 (lm p) (x : Int) (y : Int)))))) else ((nat_minus.f k (lm q) (lm p)).bind fun v22 => ((nat_zeros.f k v22).bind fun v26 => ((nat_shr.f k v22 v26).bind fun v27 => (nat_Gcd.l0 k v27 (lm p) (x : Int) (y : Int)))))) else (if ((lm p).length : Int) > (wrap64 (((lm q).length : Int) + 1)) then ((nat_rest.f k (lm p) (lm q)).bind fun v18 => (if (v18.2.length : Int) = 0 then ((nat_shl.f k (lm q) (mn (x : Int) (y : Int))).bind fun v30 => (some v30)) else ((nat_zeros.f k v18.2).bind fun v28 => ((nat_shr.f k v18.2 v28).bind fun v29 => (nat_Gcd.l0 k v29 (lm q) (x : Int) (y : Int)))))) else ((nat_minus.f k (lm p) (lm q)).bind fun v18 => ((nat_zeros.f k v18).bind fun v22 => ((nat_shr.f k v18 v22).bind fun v23 => (nat_Gcd.l0 k v23 (lm q) (x : Int) (y : Int)))))))))
      (fun k => by rw [nat_Gcd.l0]) (Ev.bind (order_ev p q (by omega) (by omega)) ?_)
    unfold cmp
    rcases Nat.lt_trichotomy p q with hlt | heq | hgt
    · rw [if_pos hlt]
      refine Ev.if_neg (by decide) (Ev.if_pos (by decide) ?_)
      rw [Nat.gcd_comm]
      exact big q p h2 h1 hlt (by omega) l2 l1
    · subst heq
      rw [if_neg (Nat.lt_irrefl _), if_neg (Nat.lt_irrefl _), Nat.gcd_self]
      exact Ev.if_pos rfl (shl_end p l1)
    · rw [if_neg (by omega), if_pos hgt]
      exact Ev.if_neg (by decide) (Ev.if_neg (by decide) (big p q h1 h2 hgt h l1 l2))
theorem gcd_parts (t m t' m' : Nat) : Nat.gcd (2 ^ t * (2 * m + 1)) (2 ^ t' * (2 * m' + 1)) = Nat.gcd (2 * m + 1) (2 * m' + 1) * 2 ^ min t t' := by
  have main : ∀ t t' m m' : Nat, t ≤ t' → Nat.gcd (2 ^ t * (2 * m + 1)) (2 ^ t' * (2 * m' + 1)) = Nat.gcd (2 * m + 1) (2 * m' + 1) * 2 ^ t := by
    intro t t' m m' h
    obtain ⟨d, rfl⟩ : ∃ d, t' = t + d := ⟨t' - t, by omega⟩
    rw [Nat.pow_add, Nat.mul_assoc, Nat.gcd_mul_left, Nat.gcd_comm, gcd_odd_mul d _ _ (by omega), Nat.gcd_comm, Nat.mul_comm]
  rcases Nat.le_total t t' with h | h
  · rw [main t t' m m' h, Nat.min_eq_left h]
  · rw [Nat.gcd_comm, main t' t m' m h, Nat.min_eq_right h, Nat.gcd_comm]
theorem gcd_ev (a b : List Int) (ha : U a) (hb : U b) (hla : a.length ≤ 549755813888) (hlb : b.length ≤ 549755813888) : Ev (fun k => nat_Gcd.f k a b) (lm (Nat.gcd (val a) (val b))) := by
  have la := val_len a
  have lb := val_len b
  refine Ev.bind (clean_ev a ha (by omega)) (Ev.bind (clean_ev b hb (by omega)) ?_)
  generalize val a = x at la ⊢
  generalize val b = y at lb ⊢
  have hlx : len x ≤ 549755813888 := by omega
  have hly : len y ≤ 549755813888 := by omega
  clear la lb
  rw [lm_length, lm_length]
  by_cases hx : x = 0
  · subst hx
    rw [Nat.gcd_zero_left]
    exact Ev.if_pos (by rw [len_zero]; rfl) (Ev.now _)
  have hx0 : len x ≠ 0 := fun e => hx (len_eq_zero.1 e)
  refine Ev.if_neg (by omega) ?_
  by_cases hy : y = 0
  · subst hy
    rw [Nat.gcd_zero_right]
    exact Ev.if_pos (by rw [len_zero]; rfl) (Ev.now _)
  have hy0 : len y ≠ 0 := fun e => hy (len_eq_zero.1 e)
  refine Ev.if_neg (by omega) ?_
  have main : Ev (fun k => (nat_zeros.f k (lm x)).bind fun v24 => ((nat_zeros.f k (lm y)).bind fun v26 => ((nat_shr.f k (lm x) v24).bind fun v31 => ((nat_shr.f k (lm y) v26).bind fun v34 => (nat_Gcd.l0 k v31 v34 v24 v26))))) (lm (Nat.gcd x y)) := by
    have part : ∀ r : Nat, r ≠ 0 → len r ≤ 549755813888 → ∃ t m : Nat, r = 2 ^ t * (2 * m + 1) ∧ t ≤ 17592186044416 ∧ Ev (fun k => nat_zeros.f k (lm r)) (t : Int) ∧ Ev (fun k => nat_shr.f k (lm r) (t : Int)) (lm (2 * m + 1)) ∧ len (2 * m + 1) ≤ 549755813888 := by
      intro r hr hl
      obtain ⟨t, m, hm⟩ := odd_part r hr
      have hpw := Nat.two_pow_pos t
      have h3 : 2 ^ t * 1 ≤ 2 ^ t * (2 * m + 1) := Nat.mul_le_mul_left _ (by omega)
      have h4 : 1 * (2 * m + 1) ≤ 2 ^ t * (2 * m + 1) := Nat.mul_le_mul_right _ hpw
      have ht : t ≤ 32 * len r := by
        apply Classical.byContradiction
        intro hc
        have h1 := lt_pow_len r
        rw [show (4294967296 : Nat) = 2 ^ 32 from rfl, ← Nat.pow_mul] at h1
        have h2 := Nat.pow_le_pow_right (n := 2) (by decide) (show 32 * len r ≤ t by omega)
        omega
      have ez := zeros_ev (lm r) (lm_ok r) (by rw [lm_length]; omega) t m (by rw [val_lm]; exact hm)
      have es := shr_ev (lm r) (lm_ok r) t (by rw [lm_length]; omega) (by omega)
      have hd : val (lm r) / 2 ^ t = 2 * m + 1 := by rw [val_lm, hm, Nat.mul_div_cancel_left _ hpw]
      rw [hd] at es
      exact ⟨t, m, hm, by omega, ez, es, Nat.le_trans (len_mono (by omega)) hl⟩
    obtain ⟨t, m, e1, e2, e3, e4, e5⟩ := part x hx hlx
    obtain ⟨t', m', f1, f2, f3, f4, f5⟩ := part y hy hly
    refine Ev.bind e3 (Ev.bind f3 (Ev.bind e4 (Ev.bind f4 ?_)))
    refine (gcd_loop t t' e2 f2 _ (2 * m + 1) (2 * m' + 1) (Nat.le_refl _) (by omega) (by omega) e5 f5).of_eq ?_
    rw [e1, f1, gcd_parts]
  by_cases h1 : len x ≤ 2
  · refine Ev.if_pos (by omega) ?_
    by_cases h2 : len y ≤ 2
    · exact Ev.if_pos (by omega) (Ev.bind (euclid_ev x y (len_le_two.1 h1) (len_le_two.1 h2)) (Ev.now _))
    · exact Ev.if_neg (by omega) main
  · exact Ev.if_neg (by omega) main
end Go.DI.Th
namespace Go.DI.Th
open Go Go.RowKit Go.DI

def wv (b : Bool) (l : List Int) : Int := if b then -(val l : Int) else (val l : Int)
def wl (z : Int) : Bool × List Int := (decide (z < 0), lm z.natAbs)
theorem wv_abs (b : Bool) (l : List Int) : (wv b l).natAbs = val l := by
  unfold wv
  cases b <;> simp
theorem wv_wl (z : Int) : wv (wl z).1 (wl z).2 = z := by
  unfold wv wl
  simp only [val_lm]
  by_cases h : z < 0
  · simp only [h, decide_true, if_true]; omega
  · simp only [h, decide_false]; rw [if_neg (by simp)]; omega
theorem sign_eq (b : Bool) (n : Nat) : whole_sign.f b (lm n) = some (wl (if b then -(n : Int) else n)) := by
  unfold whole_sign.f wl
  cases b with
  | true =>
    rw [if_pos rfl, if_pos rfl, Int.natAbs_neg, Int.natAbs_natCast, lm_length]
    congr 2
    by_cases h : n = 0
    · subst h; rw [len_zero]; rfl
    · have : len n ≠ 0 := fun e => h (len_eq_zero.1 e)
      rw [decide_eq_true (by omega), decide_eq_true (by omega)]
  | false =>
    rw [if_neg (by simp), if_neg (by simp), Int.natAbs_natCast]
    rw [decide_eq_false (show ¬ ((n : Int) < 0) by omega)]
theorem wclean_ev (b : Bool) (l : List Int) (h : U l) (hn : l.length ≤ 35184372088832) : Ev (fun k => whole_Clean.f k b l) (wl (wv b l)) := by
  refine Ev.bind (clean_ev l h hn) ?_
  rw [sign_eq]
  exact Ev.now _
theorem w64_neg (n : Nat) (h0 : n ≠ 0) (h : n ≤ 9223372036854775808) : IntKind.u64.wrap (0 - IntKind.u64.wrap (-(n : Int))) = (n : Int) := by
  rw [w64, w64]; omega
theorem w64_nat (n : Nat) (h : n < 18446744073709551616) : IntKind.u64.wrap (n : Int) = (n : Int) := by
  rw [w64]; omega
theorem ofN_ev (n : Nat) (h : n < 18446744073709551616) : Ev (fun k => nat_Of.f k (n : Int)) (lm n) := by
  have := of_ev (n : Int) (by omega) (by omega)
  rwa [Int.toNat_natCast] at this
def rl (z : Int) (q : Nat) : Bool × List Int × List Int := (decide (z < 0), lm (z.natAbs / Nat.gcd z.natAbs q), lm (q / Nat.gcd z.natAbs q))
theorem rl_zero (q : Nat) (h : q ≠ 0) : rl 0 q = (false, [], lm 1) := by
  unfold rl
  rw [Int.natAbs_zero, Nat.gcd_zero_left, Nat.zero_div, lm_zero, Nat.div_self (by omega)]
  rfl
theorem form_ev (z : Int) (q : Nat) (hq : q ≠ 0) (hl : len z.natAbs ≤ 549755813888) (hlq : len q ≤ 549755813888) : Ev (fun k => ratio_form.f k (decide (z < 0)) (lm z.natAbs) (lm q)) (rl z q) := by
  by_cases hz : z = 0
  · subst hz
    rw [rl_zero q hq]
    refine Ev.if_pos (by rw [Int.natAbs_zero, lm_zero]; rfl) (Ev.bind (ofN_ev 1 (by decide)) (Ev.now _))
  · unfold rl
    generalize hp : z.natAbs = p at hl ⊢
    have hp0 : p ≠ 0 := by omega
    have hlp : len p ≠ 0 := fun e => hp0 (len_eq_zero.1 e)
    refine Ev.if_neg (by rw [lm_length]; omega) ?_
    have eg := gcd_ev (lm p) (lm q) (lm_ok p).U (lm_ok q).U (by rw [lm_length]; exact hl) (by rw [lm_length]; exact hlq)
    rw [val_lm, val_lm] at eg
    refine Ev.bind eg ?_
    have hg0 : 0 < Nat.gcd p q := Nat.gcd_pos_of_pos_left _ (by omega)
    have hgp : Nat.gcd p q ≤ p := Nat.gcd_le_left _ (by omega)
    generalize Nat.gcd p q = g at hg0 hgp ⊢
    have hlg : len g ≤ 549755813888 := Nat.le_trans (len_mono hgp) hl
    have hlg0 : len g ≠ 0 := fun e => by have := len_eq_zero.1 e; omega
    have div : Ev (fun k => (nat_DivMod.f k (lm p) (lm g)).bind fun v23 => ((nat_DivMod.f k (lm q) (lm g)).bind fun v33 => (some (decide (z < 0), v23.1, v33.1)))) (decide (z < 0), lm (p / g), lm (q / g)) := by
      have d1 := divmod_ev (lm p) (lm g) (lm_ok p).U (lm_ok g).U (by rw [lm_length]; exact hl) (by rw [lm_length]; exact hlg)
      have d2 := divmod_ev (lm q) (lm g) (lm_ok q).U (lm_ok g).U (by rw [lm_length]; exact hlq) (by rw [lm_length]; exact hlg)
      rw [val_lm, val_lm, if_neg (by omega)] at d1 d2
      exact Ev.bind d1 (Ev.bind d2 (Ev.now _))
    rw [lm_length]
    by_cases h1 : len g = 1
    · have hg1 : g < 4294967296 := len_le_one.1 (by omega)
      have hr : rd (lm g) 0 = (g : Int) := by rw [lm_one (by omega) hg1]; rfl
      refine Ev.if_pos (by omega) (Ev.if_pos (by omega) ?_)
      rw [hr]
      by_cases h2 : g = 1
      · subst h2
        rw [Nat.div_one, Nat.div_one]
        exact Ev.if_pos rfl (Ev.now _)
      · exact Ev.if_neg (by omega) div
    · exact Ev.if_neg (by omega) div
def num (b : Bool) (n d : List Int) : Int := if val d = 0 then 0 else wv b n
def den (d : List Int) : Nat := if val d = 0 then 1 else val d
theorem den_pos (d : List Int) : den d ≠ 0 := by
  unfold den; split <;> omega
theorem rclean_ev (b : Bool) (n d : List Int) (hn : U n) (hd : U d) (hln : n.length ≤ 549755813888) (hld : d.length ≤ 549755813888) : Ev (fun k => ratio_Clean.f k b n d) (rl (num b n d) (den d)) := by
  have lvn := val_len n
  have lvd := val_len d
  refine Ev.bind (clean_ev d hd (by omega)) ?_
  unfold num den
  by_cases h0 : val d = 0
  · rw [h0, if_pos rfl, if_pos rfl, rl_zero 1 (by decide)]
    refine Ev.if_pos (by rw [lm_zero]; rfl) (Ev.bind (Ev.bind (ofN_ev 1 (by decide)) (Ev.now _)) (Ev.now _))
  · have hl0 : len (val d) ≠ 0 := fun e => h0 (len_eq_zero.1 e)
    rw [if_neg h0, if_neg h0]
    refine Ev.if_neg (by rw [lm_length]; omega) (Ev.bind (wclean_ev b n hn (by omega)) ?_)
    exact Ev.bind (a := rl (wv b n) (val d)) (form_ev (wv b n) (val d) h0 (by rw [wv_abs]; omega) (by omega)) (Ev.now _)
theorem len_small {n : Nat} (h : n < 18446744073709551616) : len n ≤ 2 := len_le_two.2 h
def rnum (z : Int) (q : Nat) : Int := if z < 0 then -((z.natAbs / Nat.gcd z.natAbs q : Nat) : Int) else ((z.natAbs / Nat.gcd z.natAbs q : Nat) : Int)
def rden (z : Int) (q : Nat) : Nat := q / Nat.gcd z.natAbs q
theorem gcd_pos_right (p q : Nat) (h : q ≠ 0) : 0 < Nat.gcd p q := Nat.gcd_pos_of_pos_right _ (by omega)
theorem rnum_abs (z : Int) (q : Nat) : (rnum z q).natAbs = z.natAbs / Nat.gcd z.natAbs q := by
  unfold rnum
  generalize z.natAbs / Nat.gcd z.natAbs q = m
  split <;> omega
theorem rnum_neg (z : Int) (q : Nat) (h : q ≠ 0) : (rnum z q < 0) ↔ z < 0 := by
  unfold rnum
  have hg := gcd_pos_right z.natAbs q h
  constructor
  · intro h1
    apply Classical.byContradiction
    intro h2
    rw [if_neg h2] at h1
    generalize z.natAbs / Nat.gcd z.natAbs q = m at h1
    omega
  · intro h1
    rw [if_pos h1]
    have : 0 < z.natAbs / Nat.gcd z.natAbs q := Nat.div_pos (Nat.gcd_le_left _ (by omega)) hg
    generalize z.natAbs / Nat.gcd z.natAbs q = m at this ⊢
    omega
theorem rl_ok (z : Int) (q : Nat) : U (rl z q).2.1 ∧ U (rl z q).2.2 := ⟨(lm_ok _).U, (lm_ok _).U⟩
theorem rl_lens (z : Int) (q : Nat) : (rl z q).2.1.length ≤ len z.natAbs ∧ (rl z q).2.2.length ≤ len q := by
  unfold rl
  rw [lm_length, lm_length]
  exact ⟨len_mono (Nat.div_le_self _ _), len_mono (Nat.div_le_self _ _)⟩
end Go.DI.Th
namespace Go.DI.Th
open Go Go.RowKit Go.DI

abbrev Rt := Bool × List Int × List Int
def RtOk (r : Rt) : Prop := U r.2.1 ∧ U r.2.2 ∧ r.2.1.length ≤ 1048576 ∧ r.2.2.length ≤ 1048576
end Go.DI.Th
namespace Go.DI.Th
open Go Go.RowKit Go.DI

def cn (x : Rat) : Rt := (decide (x.num < 0), lm x.num.natAbs, lm x.den)
def rv (r : Rt) : Rat := mkRat (num r.1 r.2.1 r.2.2) (den r.2.2)
theorem div_gcd (z : Int) (g : Nat) (hg : g ≠ 0) (h : g ∣ z.natAbs) : z / (g : Int) = if z < 0 then -((z.natAbs / g : Nat) : Int) else ((z.natAbs / g : Nat) : Int) := by
  obtain ⟨m, hm⟩ := h
  rw [hm, Nat.mul_div_cancel_left m (by omega)]
  have hg' : (g : Int) ≠ 0 := by omega
  by_cases hz : z < 0
  · rw [if_pos hz]
    have e : z = (g : Int) * (-(m : Int)) := by
      have : (z.natAbs : Int) = g * m := by rw [hm]; exact Int.natCast_mul _ _
      rw [Int.mul_neg]
      omega
    rw [e, Int.mul_ediv_cancel_left _ hg']
  · rw [if_neg hz]
    have e : z = (g : Int) * (m : Int) := by
      have : (z.natAbs : Int) = g * m := by rw [hm]; exact Int.natCast_mul _ _
      omega
    rw [e, Int.mul_ediv_cancel_left _ hg']
theorem num_mk (z : Int) (q : Nat) (h : q ≠ 0) : (mkRat z q).num = rnum z q := by
  rw [Rat.num_mkRat, if_neg h, Nat.gcd_comm, div_gcd z _ (by have := gcd_pos_right z.natAbs q h; omega) (Nat.gcd_dvd_left _ _)]
  rfl
theorem den_mk (z : Int) (q : Nat) (h : q ≠ 0) : (mkRat z q).den = rden z q := by
  rw [Rat.den_mkRat, if_neg h, Nat.gcd_comm]
  rfl
theorem rl_cn (z : Int) (q : Nat) (h : q ≠ 0) : rl z q = cn (mkRat z q) := by
  unfold rl cn
  rw [num_mk z q h, den_mk z q h, rnum_abs]
  congr 1
  exact decide_eq_decide.2 (rnum_neg z q h).symm
theorem val_cn (x : Rat) : val (cn x).2.1 = x.num.natAbs ∧ val (cn x).2.2 = x.den := ⟨val_lm _, val_lm _⟩
theorem wv_cn (x : Rat) : wv (cn x).1 (cn x).2.1 = x.num := wv_wl x.num
theorem num_cn (x : Rat) : num (cn x).1 (cn x).2.1 (cn x).2.2 = x.num := by
  unfold num
  rw [(val_cn x).2, if_neg x.den_nz, wv_cn]
theorem den_cn (x : Rat) : den (cn x).2.2 = x.den := by
  unfold den
  rw [(val_cn x).2, if_neg x.den_nz]
theorem rv_cn (x : Rat) : rv (cn x) = x := by
  unfold rv
  rw [num_cn, den_cn, Rat.mkRat_self]
theorem cn_ok (x : Rat) : U (cn x).2.1 ∧ U (cn x).2.2 := ⟨(lm_ok _).U, (lm_ok _).U⟩
def Sz (x : Rat) : Nat := max (len x.num.natAbs) (len x.den)
theorem Sz_mk (z : Int) (q : Nat) (h : q ≠ 0) : Sz (mkRat z q) ≤ max (len z.natAbs) (len q) := by
  unfold Sz
  rw [num_mk z q h, den_mk z q h, rnum_abs]
  have h1 := len_mono (Nat.div_le_self z.natAbs (Nat.gcd z.natAbs q))
  have h2 : len (rden z q) ≤ len q := len_mono (Nat.div_le_self _ _)
  omega
theorem len_one : len 1 = 1 := by
  have h1 := len_small (show 1 < 18446744073709551616 by decide)
  unfold len
  rw [lm_one (by decide) (by decide)]
  rfl
theorem len_add' (a b : Nat) : len (a + b) ≤ max (len a) (len b) + 1 := by
  refine len_le ?_
  have h1 := lt_pow_len a
  have h2 := lt_pow_len b
  have h3 : 4294967296 ^ len a ≤ 4294967296 ^ max (len a) (len b) := Nat.pow_le_pow_right (by decide) (by omega)
  have h4 : 4294967296 ^ len b ≤ 4294967296 ^ max (len a) (len b) := Nat.pow_le_pow_right (by decide) (by omega)
  rw [Nat.pow_succ]
  omega
theorem Sz_add (x y : Rat) : Sz (x + y) ≤ Sz x + Sz y + 1 := by
  rw [Rat.add_def']
  refine Nat.le_trans (Sz_mk _ _ (Nat.mul_ne_zero x.den_nz y.den_nz)) ?_
  have h1 := len_mul x.den y.den
  have h2 := len_mono (Int.natAbs_add_le (x.num * y.den) (y.num * x.den))
  have h3 := len_add' (x.num * (y.den : Int)).natAbs (y.num * (x.den : Int)).natAbs
  rw [Int.natAbs_mul, Int.natAbs_mul, Int.natAbs_natCast, Int.natAbs_natCast] at h2 h3
  have h4 := len_mul x.num.natAbs y.den
  have h5 := len_mul y.num.natAbs x.den
  unfold Sz
  omega
def RtB (b : Nat) (r : Rt) : Prop := U r.2.1 ∧ U r.2.2 ∧ r.2.1.length ≤ b ∧ r.2.2.length ≤ b
theorem RtOk.B {r : Rt} (h : RtOk r) : RtB 1048576 r := h
theorem cnB (x : Rat) {b : Nat} (h : Sz x ≤ b) : RtB b (cn x) := by
  refine ⟨(cn_ok x).1, (cn_ok x).2, ?_, ?_⟩
  · show (lm _).length ≤ _
    rw [lm_length]
    unfold Sz at h
    omega
  · show (lm _).length ≤ _
    rw [lm_length]
    unfold Sz at h
    omega
theorem num_len (b : Bool) (n d : List Int) : len (num b n d).natAbs ≤ n.length := by
  refine Nat.le_trans (len_mono ?_) (val_len n)
  unfold num
  split
  · simp
  · rw [wv_abs]; exact Nat.le_refl _
theorem den_len (d : List Int) : len (den d) ≤ d.length + 1 := by
  unfold den
  split
  · rw [len_one]; omega
  · exact Nat.le_trans (val_len d) (Nat.le_succ _)
theorem RtB.sz {b : Nat} {r : Rt} (h : RtB b r) : Sz (rv r) ≤ b + 1 := by
  have h1 := Sz_mk (num r.1 r.2.1 r.2.2) (den r.2.2) (den_pos _)
  have h2 := num_len r.1 r.2.1 r.2.2
  have h3 := den_len r.2.2
  obtain ⟨_, _, h4, h5⟩ := h
  unfold rv
  omega
theorem clean_cn (r : Rt) {b : Nat} (h : RtB b r) (hb : b ≤ 549755813888) : Ev (fun k => ratio_Clean.f k r.1 r.2.1 r.2.2) (cn (rv r)) := by
  have := rclean_ev r.1 r.2.1 r.2.2 h.1 h.2.1 (Nat.le_trans h.2.2.1 hb) (Nat.le_trans h.2.2.2 hb)
  rwa [rl_cn _ _ (den_pos _)] at this
theorem form_cn (z : Int) (q : Nat) (hq : q ≠ 0) (h1 : len z.natAbs ≤ 549755813888) (h2 : len q ≤ 549755813888) : Ev (fun k => ratio_form.f k (decide (z < 0)) (lm z.natAbs) (lm q)) (cn (mkRat z q)) := by
  rw [← rl_cn z q hq]
  exact form_ev z q hq h1 h2
end Go.DI.Th
namespace Go.DI.Th
open Go Go.RowKit Go.DI

theorem add_limb (a b c : Int) (ha : 0 ≤ a ∧ a < 4294967296) (hb : 0 ≤ b ∧ b < 4294967296) (hc : c = 0 ∨ c = 1) :
    ∃ y z : Int, (0 ≤ y ∧ y < 4294967296) ∧ (z = 0 ∨ z = 1) ∧ y + 4294967296 * z = c + a + b ∧ Go.bits .and .u64 (IntKind.u64.wrap (c + (IntKind.u64.wrap (a + b)))) 4294967295 = y ∧ (IntKind.u64.wrap (c + (IntKind.u64.wrap (a + b)))) / 4294967296 = z := by
  have e : IntKind.u64.wrap (c + (IntKind.u64.wrap (a + b))) = c + a + b := by
    simp only [w64]
    omega
  rw [e, and_low (by omega) (by omega)]
  exact ⟨_, _, ⟨Int.emod_nonneg _ (by decide), Int.emod_lt_of_pos _ (by decide)⟩, by omega, by omega, rfl, rfl⟩
theorem add_loop (a b : List Int) (ha : Ok a) (hb : Ok b) (N : Nat) (hN : N ≤ 35184372088832) (hla : a.length ≤ N) (hlb : b.length ≤ N) (hs : val a + val b < 4294967296 ^ N) (d : Nat) : ∀ (done : List Int) (c : Int), Ok done → done.length + d = N → (c = 0 ∨ c = 1) →
    (val (a.take done.length) : Int) + val (b.take done.length) = val done + 4294967296 ^ done.length * c →
    Ev (fun k => nat_Add.l0 k a b (done ++ List.replicate d 0) c (N : Int) (done.length : Int)) (lm (val a + val b)) := by
  induction d with
  | zero =>
    intro done c hd hl hc hv
    have hl' : done.length = N := by omega
    rw [List.take_of_length_le (by omega), List.take_of_length_le (by omega)] at hv
    have hz : val done = val a + val b := by
      rcases hc with rfl | rfl
      · simp at hv
        omega
      · exfalso
        have e : (4294967296 : Int) ^ done.length = ((4294967296 ^ done.length : Nat) : Int) := by rw [Int.natCast_pow]; rfl
        rw [Int.mul_one, e, hl'] at hv
        omega
    refine Ev.step (f := fun k => (nat_trim.f k done).bind fun t => some t) (fun k => ?_) (Ev.bind ?_ (Ev.now _))
    · simp only [nat_Add.l0]
      rw [if_neg (by omega)]
      simp
    · have := trim_ev done hd (by omega)
      rwa [hz] at this
  | succ d ih =>
    intro done c hd hl hc hv
    have va := val_take_rd a ha done.length
    have vb := val_take_rd b hb done.length
    obtain ⟨y, nd, hy, hnd, hsum, e1, e2⟩ := add_limb (rd a (done.length : Int)) (rd b (done.length : Int)) c (rd_ok ha _) (rd_ok hb _) hc
    refine Ev.step (fun k => ?_) (ih (done ++ [y]) nd (hd.append (Ok.cons hy Ok.nil)) (by simp; omega) hnd ?_)
    · simp only [nat_Add.l0]
      rw [if_pos (by omega), limb_eq a _ (by omega), limb_eq b _ (by omega)]
      simp only [Option.bind_some]
      rw [if_pos (by omega), if_pos (by simp; omega), e1, e2, wrap_id (by omega) (by omega), show ((done.length : Int)).toNat = done.length by omega, fill]
      simp
    · rw [List.length_append, List.length_singleton, va, vb, val_snoc_int done y hy, Int.pow_succ]
      have : (4294967296 : Int) ^ done.length * (y + 4294967296 * nd) = 4294967296 ^ done.length * (c + rd a done.length + rd b done.length) := by rw [hsum]
      simp only [Int.mul_add] at this
      rw [← Int.mul_assoc] at this
      omega
theorem mx_nat (a b : Nat) : mx (a : Int) (b : Int) = ((max a b : Nat) : Int) := by
  unfold mx mxI
  split <;> omega
theorem nadd_ev (a b : List Int) (ha : U a) (hb : U b) (hla : a.length ≤ 35184372088830) (hlb : b.length ≤ 35184372088830) : Ev (fun k => nat_Add.f k a b) (lm (val a + val b)) := by
  have h1 := val_len a
  have h2 := val_len b
  unfold nat_Add.f
  refine Ev.bind (clean_ev a ha (by omega)) (Ev.bind (clean_ev b hb (by omega)) ?_)
  have hs := lt_pow_len (val a + val b)
  have hl := len_add (val a) (val b)
  have hp : 4294967296 ^ len (val a + val b) ≤ 4294967296 ^ (max (len (val a)) (len (val b)) + 1) := Nat.pow_le_pow_right (by decide) hl
  have h := add_loop (lm (val a)) (lm (val b)) (lm_ok _) (lm_ok _) (max (len (val a)) (len (val b)) + 1) (by omega) (by rw [lm_length]; omega) (by rw [lm_length]; omega) (by rw [val_lm, val_lm]; omega) (max (len (val a)) (len (val b)) + 1) [] 0 Ok.nil (by simp) (Or.inl rfl) (by simp [val])
  rw [val_lm, val_lm] at h
  simp only [lm_length, mx_nat, wr_succ _ (show max (len (val a)) (len (val b)) ≤ 1125899906842624 by omega), Int.toNat_natCast, List.length_replicate]
  exact Ev.if_pos (by omega) (Ev.if_pos (by omega) h)
end Go.DI.Th
namespace Go.DI.Th
open Go Go.RowKit Go.DI

theorem wof_ev (z : Int) (h0 : -9223372036854775808 ≤ z) (h : z ≤ 9223372036854775807) : Ev (fun k => whole_Of.f k z) (wl z) := by
  by_cases hz : z < 0
  · obtain ⟨n, rfl⟩ : ∃ n : Nat, z = -(n : Int) := ⟨z.natAbs, by omega⟩
    refine Ev.if_pos hz ?_
    rw [w64_neg n (by omega) (by omega)]
    refine Ev.bind (ofN_ev n (by omega)) ?_
    rw [sign_eq]
    exact Ev.now _
  · obtain ⟨n, rfl⟩ : ∃ n : Nat, z = (n : Int) := ⟨z.toNat, by omega⟩
    refine Ev.if_neg hz ?_
    rw [w64_nat n (by omega)]
    refine Ev.bind (ofN_ev n (by omega)) ?_
    rw [sign_eq]
    exact Ev.now _

theorem rof_ev (z : Int) (h0 : -9223372036854775808 ≤ z) (h : z ≤ 9223372036854775807) : Ev (fun k => ratio_Of.f k z) ((wl z).1, (wl z).2, lm 1) :=
  Ev.bind (wof_ev z h0 h) (Ev.bind (ofN_ev 1 (by decide)) (Ev.now _))

end Go.DI.Th
namespace Go.DI.Th
open Go Go.RowKit Go.DI

end Go.DI.Th
namespace Go.DI.Th
open Go Go.RowKit Go.DI

end Go.DI.Th
namespace Go.DI.Th
open Go Go.RowKit Go.DI

def cmpZ (a b : Int) : Int := if a < b then -1 else if b < a then 1 else 0
theorem cmpZ_scale (c x y : Int) (h : 0 < c) : cmpZ (c * x) (c * y) = cmpZ x y := by
  unfold cmpZ
  have h1 : c * x < c * y ↔ x < y := ⟨fun h' => Int.lt_of_mul_lt_mul_left h' (Int.le_of_lt h), fun h' => Int.mul_lt_mul_of_pos_left h' h⟩
  have h2 : c * y < c * x ↔ y < x := ⟨fun h' => Int.lt_of_mul_lt_mul_left h' (Int.le_of_lt h), fun h' => Int.mul_lt_mul_of_pos_left h' h⟩
  simp only [h1, h2]
theorem wv_lm (b : Bool) (n : Nat) : wv b (lm n) = if b then -(n : Int) else n := by unfold wv; rw [val_lm]
theorem wcmp_ev (b : Bool) (l : List Int) (c : Bool) (m : List Int) (hl : U l) (hm : U m) (hln : l.length ≤ 35184372088832) (hmn : m.length ≤ 35184372088832) : Ev (fun k => whole_Cmp.f k b l c m) (cmpZ (wv b l) (wv c m)) := by
  unfold whole_Cmp.f
  refine Ev.bind (wclean_ev b l hl hln) (Ev.bind (wclean_ev c m hm hmn) ?_)
  have hx : len (wv b l).natAbs ≤ 35184372088832 := by rw [wv_abs]; exact Nat.le_trans (val_len l) hln
  have hy : len (wv c m).natAbs ≤ 35184372088832 := by rw [wv_abs]; exact Nat.le_trans (val_len m) hmn
  generalize wv b l = x at hx ⊢
  generalize wv c m = y at hy ⊢
  have o1 := cmp_ev (lm x.natAbs) (lm y.natAbs) (lm_ok _).U (lm_ok _).U hx hy
  have o2 := cmp_ev (lm y.natAbs) (lm x.natAbs) (lm_ok _).U (lm_ok _).U hy hx
  rw [val_lm, val_lm] at o1 o2
  show Ev (fun k => if decide (x < 0) ≠ decide (y < 0) then (if decide (x < 0) = true then some (-1) else if decide (x < 0) ≠ decide (y < 0) then some 1 else if decide (x < 0) = true then (nat_Cmp.f k (lm y.natAbs) (lm x.natAbs)).bind fun v32 => some v32 else (nat_Cmp.f k (lm x.natAbs) (lm y.natAbs)).bind fun v32 => some v32) else if decide (x < 0) ≠ decide (y < 0) then some 1 else if decide (x < 0) = true then (nat_Cmp.f k (lm y.natAbs) (lm x.natAbs)).bind fun v32 => some v32 else (nat_Cmp.f k (lm x.natAbs) (lm y.natAbs)).bind fun v32 => some v32) _
  by_cases h1 : x < 0 <;> by_cases h2 : y < 0 <;> simp only [h1, h2, decide_true, decide_false]
  · refine Ev.if_neg (by decide) (Ev.if_neg (by decide) (Ev.if_pos trivial ((Ev.bind o2 (Ev.now _)).of_eq ?_)))
    unfold cmp cmpZ
    split <;> split <;> (try split) <;> (try split) <;> omega
  · refine Ev.if_pos (by decide) (Ev.if_pos trivial ((Ev.now _).of_eq ?_))
    unfold cmpZ
    rw [if_pos (by omega)]
  · refine Ev.if_pos (by decide) (Ev.if_neg (by decide) (Ev.if_pos (by decide) ((Ev.now _).of_eq ?_)))
    unfold cmpZ
    rw [if_neg (by omega), if_pos (by omega)]
  · refine Ev.if_neg (by decide) (Ev.if_neg (by decide) (Ev.if_neg (by decide) ((Ev.bind o1 (Ev.now _)).of_eq ?_)))
    unfold cmp cmpZ
    split <;> split <;> (try split) <;> (try split) <;> omega
theorem sg_mul (a b : Int) : (if (!(decide (a < 0) == decide (b < 0))) = true then -((a.natAbs * b.natAbs : Nat) : Int) else ((a.natAbs * b.natAbs : Nat) : Int)) = a * b := by
  by_cases h1 : a < 0 <;> by_cases h2 : b < 0 <;> simp only [h1, h2, decide_true, decide_false]
  · obtain ⟨n, hn⟩ : ∃ n : Nat, a = -(n : Int) := ⟨(-a).toNat, by omega⟩
    obtain ⟨m, hm⟩ : ∃ m : Nat, b = -(m : Int) := ⟨(-b).toNat, by omega⟩
    subst hn; subst hm; simp [Int.neg_mul_neg]
  · obtain ⟨n, hn⟩ : ∃ n : Nat, a = -(n : Int) := ⟨(-a).toNat, by omega⟩
    obtain ⟨m, hm⟩ : ∃ m : Nat, b = (m : Int) := ⟨b.toNat, by omega⟩
    subst hn; subst hm; simp [Int.neg_mul]
  · obtain ⟨n, hn⟩ : ∃ n : Nat, a = (n : Int) := ⟨a.toNat, by omega⟩
    obtain ⟨m, hm⟩ : ∃ m : Nat, b = -(m : Int) := ⟨(-b).toNat, by omega⟩
    subst hn; subst hm; simp [Int.mul_neg]
  · obtain ⟨n, hn⟩ : ∃ n : Nat, a = (n : Int) := ⟨a.toNat, by omega⟩
    obtain ⟨m, hm⟩ : ∃ m : Nat, b = (m : Int) := ⟨b.toNat, by omega⟩
    subst hn; subst hm; simp
theorem wmul_ev (b : Bool) (l : List Int) (c : Bool) (m : List Int) (hl : U l) (hm : U m) (hn : l.length + m.length ≤ 35184372088832) : Ev (fun k => whole_Mul.f k b l c m) (wl (wv b l * wv c m)) := by
  unfold whole_Mul.f
  refine Ev.bind (wclean_ev b l hl (by omega)) (Ev.bind (wclean_ev c m hm (by omega)) ?_)
  have hx : len (wv b l).natAbs ≤ l.length := by rw [wv_abs]; exact val_len l
  have hy : len (wv c m).natAbs ≤ m.length := by rw [wv_abs]; exact val_len m
  generalize wv b l = x at hx ⊢
  generalize wv c m = y at hy ⊢
  have h1 := mul_ev (lm x.natAbs) (lm y.natAbs) (lm_ok _).U (lm_ok _).U (by rw [lm_length, lm_length]; omega)
  rw [val_lm, val_lm] at h1
  have h2 : Ev (fun _ => whole_sign.f (!(decide (x < 0) == decide (y < 0))) (lm (x.natAbs * y.natAbs))) (wl (x * y)) := by
    refine Ev.congr (fun _ => sign_eq _ _) ((Ev.now _).of_eq ?_)
    rw [sg_mul]
  exact Ev.bind h1 (Ev.bind h2 (Ev.now _))
theorem rnum_gcd (z : Int) (q : Nat) (h : q ≠ 0) : ∃ g : Nat, g ≠ 0 ∧ z = g * rnum z q ∧ q = g * rden z q := by
  have hg := gcd_pos_right z.natAbs q h
  have e1 := Nat.mul_div_cancel' (Nat.gcd_dvd_left z.natAbs q)
  have e2 := Nat.mul_div_cancel' (Nat.gcd_dvd_right z.natAbs q)
  refine ⟨Nat.gcd z.natAbs q, by omega, ?_, e2.symm⟩
  unfold rnum
  generalize z.natAbs / Nat.gcd z.natAbs q = r at e1 ⊢
  generalize Nat.gcd z.natAbs q = g at e1 ⊢
  split
  · rw [Int.mul_neg, ← Int.natCast_mul, e1]; omega
  · rw [← Int.natCast_mul, e1]; omega
theorem cmp_norm (z w : Int) (q p : Nat) (hq : q ≠ 0) (hp : p ≠ 0) : cmpZ (rnum z q * rden w p) (rnum w p * rden z q) = cmpZ (z * p) (w * q) := by
  obtain ⟨g, hg, e1, e2⟩ := rnum_gcd z q hq
  obtain ⟨h, hh, e3, e4⟩ := rnum_gcd w p hp
  generalize rnum z q = a at *
  generalize rden z q = b at *
  generalize rnum w p = c at *
  generalize rden w p = d at *
  have x1 : z * p = (g * h : Nat) * (a * d) := by rw [e1, e4]; simp only [Int.natCast_mul]; grind
  have x2 : w * q = (g * h : Nat) * (c * b) := by rw [e3, e2]; simp only [Int.natCast_mul]; grind
  rw [x1, x2, cmpZ_scale]
  have := Nat.mul_pos (Nat.pos_of_ne_zero hg) (Nat.pos_of_ne_zero hh)
  omega
theorem rl_two (z : Int) (q : Nat) (h : q ≠ 0) : wv (rl z q).1 (rl z q).2.1 = rnum z q ∧ wv false (rl z q).2.2 = rden z q := by
  constructor
  · unfold rl wv rnum
    simp only [val_lm, decide_eq_true_eq]
  · show wv false (lm _) = _
    rw [wv_lm]
    rfl
theorem rcmp_ev (b : Bool) (n d : List Int) (c : Bool) (n' d' : List Int) (h1 : U n) (h2 : U d) (h3 : U n') (h4 : U d') (l1 : n.length ≤ 274877906944) (l2 : d.length ≤ 274877906944) (l3 : n'.length ≤ 274877906944) (l4 : d'.length ≤ 274877906944) :
    Ev (fun k => ratio_Cmp.f k b n d c n' d') (cmpZ (num b n d * den d') (num c n' d' * den d)) := by
  unfold ratio_Cmp.f
  refine Ev.bind (rclean_ev b n d h1 h2 (by omega) (by omega)) (Ev.bind (rclean_ev c n' d' h3 h4 (by omega) (by omega)) ?_)
  have hl : len (num b n d).natAbs ≤ n.length := by
    refine Nat.le_trans (len_mono ?_) (val_len n)
    unfold num
    split
    · simp
    · rw [wv_abs]; exact Nat.le_refl _
  have hl' : len (num c n' d').natAbs ≤ n'.length := by
    refine Nat.le_trans (len_mono ?_) (val_len n')
    unfold num
    split
    · simp
    · rw [wv_abs]; exact Nat.le_refl _
  have hd : len (den d) ≤ d.length + 1 := by
    unfold den
    split
    · exact len_le (by rw [Nat.pow_succ]; have := Nat.pow_pos (n := d.length) (show 0 < 4294967296 by decide); omega)
    · exact Nat.le_trans (val_len d) (Nat.le_succ _)
  have hd' : len (den d') ≤ d'.length + 1 := by
    unfold den
    split
    · exact len_le (by rw [Nat.pow_succ]; have := Nat.pow_pos (n := d'.length) (show 0 < 4294967296 by decide); omega)
    · exact Nat.le_trans (val_len d') (Nat.le_succ _)
  have hq := den_pos d
  have hp := den_pos d'
  rw [← cmp_norm _ _ _ _ hq hp]
  generalize num b n d = z at *
  generalize num c n' d' = w at *
  generalize den d = q at *
  generalize den d' = p at *
  have k1 := rl_lens z q
  have k2 := rl_lens w p
  have u1 := rl_ok z q
  have u2 := rl_ok w p
  have t1 := rl_two z q hq
  have t2 := rl_two w p hp
  have m1 := wmul_ev (rl z q).1 (rl z q).2.1 false (rl w p).2.2 u1.1 u2.2 (by omega)
  have m2 := wmul_ev (rl w p).1 (rl w p).2.1 false (rl z q).2.2 u2.1 u1.2 (by omega)
  rw [t1.1, t2.2] at m1
  rw [t2.1, t1.2] at m2
  have a1 : len (rnum z q * (rden w p : Int)).natAbs ≤ 1099511627776 := by
    rw [Int.natAbs_mul, Int.natAbs_natCast, rnum_abs]
    refine Nat.le_trans (len_mul _ _) ?_
    have x1 := len_mono (Nat.div_le_self z.natAbs (Nat.gcd z.natAbs q))
    have x2 : len (rden w p) ≤ len p := len_mono (Nat.div_le_self _ _)
    omega
  have a2 : len (rnum w p * (rden z q : Int)).natAbs ≤ 1099511627776 := by
    rw [Int.natAbs_mul, Int.natAbs_natCast, rnum_abs]
    refine Nat.le_trans (len_mul _ _) ?_
    have x1 := len_mono (Nat.div_le_self w.natAbs (Nat.gcd w.natAbs p))
    have x2 : len (rden z q) ≤ len q := len_mono (Nat.div_le_self _ _)
    omega
  generalize rnum z q * (rden w p : Int) = X at *
  generalize rnum w p * (rden z q : Int) = Y at *
  have c1 := wcmp_ev (wl X).1 (wl X).2 (wl Y).1 (wl Y).2 (lm_ok _).U (lm_ok _).U (Nat.le_trans a1 (by decide)) (Nat.le_trans a2 (by decide))
  rw [wv_wl, wv_wl] at c1
  exact Ev.bind (Ev.now _) (Ev.bind m1 (Ev.bind (Ev.now _) (Ev.bind m2 (Ev.bind c1 (Ev.now _)))))
end Go.DI.Th
namespace Go.DI.Th
open Go Go.RowKit Go.DI

def cmpQ (x y : Rat) : Int := if x < y then -1 else if y < x then 1 else 0
theorem cmpQ_num (x y : Rat) : cmpQ x y = cmpZ (x.num * y.den) (y.num * x.den) := by
  unfold cmpQ cmpZ
  simp only [Rat.lt_iff]
theorem cmpQ_mk (z w : Int) (q p : Nat) (hq : q ≠ 0) (hp : p ≠ 0) : cmpZ (z * p) (w * q) = cmpQ (mkRat z q) (mkRat w p) := by
  rw [cmpQ_num, num_mk z q hq, num_mk w p hp, den_mk z q hq, den_mk w p hp, cmp_norm z w q p hq hp]
theorem cmp_cn (r s : Rt) {b c : Nat} (h : RtB b r) (h' : RtB c s) (hb : b ≤ 274877906944) (hc : c ≤ 274877906944) : Ev (fun k => ratio_Cmp.f k r.1 r.2.1 r.2.2 s.1 s.2.1 s.2.2) (cmpQ (rv r) (rv s)) := by
  have := rcmp_ev r.1 r.2.1 r.2.2 s.1 s.2.1 s.2.2 h.1 h.2.1 h'.1 h'.2.1 (Nat.le_trans h.2.2.1 hb) (Nat.le_trans h.2.2.2 hb) (Nat.le_trans h'.2.2.1 hc) (Nat.le_trans h'.2.2.2 hc)
  rwa [cmpQ_mk _ _ _ _ (den_pos _) (den_pos _)] at this
theorem cmpQ_zero {x y : Rat} : cmpQ x y = 0 ↔ x = y := by
  unfold cmpQ
  constructor
  · intro h
    by_cases h1 : x < y
    · rw [if_pos h1] at h; omega
    · by_cases h2 : y < x
      · rw [if_neg h1, if_pos h2] at h; omega
      · exact Rat.le_antisymm (Rat.not_lt.1 h2) (Rat.not_lt.1 h1)
  · rintro rfl
    rw [if_neg Rat.lt_irrefl, if_neg Rat.lt_irrefl]
theorem same_cn (r s : Rt) {b c : Nat} (h : RtB b r) (h' : RtB c s) (hb : b ≤ 274877906944) (hc : c ≤ 274877906944) : Ev (fun k => ratio_Same.f k r.1 r.2.1 r.2.2 s.1 s.2.1 s.2.2) (decide (rv r = rv s)) := by
  unfold ratio_Same.f
  refine (Ev.bind (f := fun _ v5 => some (v5 == 0)) (cmp_cn r s h h' hb hc) (Ev.now _)).of_eq ?_
  rw [Bool.eq_iff_iff, beq_iff_eq, decide_eq_true_iff, cmpQ_zero]
end Go.DI.Th
namespace Go.DI.Th
open Go Go.RowKit Go.DI

theorem nsub_ev (a b : List Int) (ha : U a) (hb : U b) (hla : a.length ≤ 35184372088830) (hlb : b.length ≤ 35184372088830) (h : val b ≤ val a) : Ev (fun k => nat_Sub.f k a b) (lm (val a - val b), 0) := by
  have h1 := val_len a
  have h2 := val_len b
  unfold nat_Sub.f
  refine Ev.bind (clean_ev a ha (by omega)) (Ev.bind (clean_ev b hb (by omega)) (Ev.bind (order_ev (val a) (val b) (by omega) (by omega)) ?_))
  refine Ev.if_neg (by unfold cmp; split <;> (try split) <;> omega) ?_
  have hm := minus_ev (lm (val a)) (lm (val b)) (lm_ok _) (lm_ok _) (by rw [lm_length]; omega) (by rw [val_lm, val_lm]; exact h)
  rw [val_lm, val_lm] at hm
  exact Ev.bind hm (Ev.now _)
theorem sign_add (x y : Int) (h : decide (x < 0) = decide (y < 0)) : (if decide (x < 0) = true then -((x.natAbs + y.natAbs : Nat) : Int) else ((x.natAbs + y.natAbs : Nat) : Int)) = x + y := by
  by_cases h1 : x < 0
  · rw [decide_eq_true h1] at h ⊢
    have h2 : y < 0 := of_decide_eq_true h.symm
    rw [if_pos rfl]
    omega
  · rw [decide_eq_false h1] at h ⊢
    have h2 : ¬ y < 0 := of_decide_eq_false h.symm
    rw [if_neg (by decide)]
    omega
theorem wadd_ev (b : Bool) (l : List Int) (c : Bool) (m : List Int) (hl : U l) (hm : U m) (hln : l.length ≤ 35184372088830) (hmn : m.length ≤ 35184372088830) : Ev (fun k => whole_Add.f k b l c m) (wl (wv b l + wv c m)) := by
  unfold whole_Add.f
  refine Ev.bind (wclean_ev b l hl (by omega)) (Ev.bind (wclean_ev c m hm (by omega)) ?_)
  have hx : len (wv b l).natAbs ≤ l.length := by rw [wv_abs]; exact val_len l
  have hy : len (wv c m).natAbs ≤ m.length := by rw [wv_abs]; exact val_len m
  generalize wv b l = x at hx ⊢
  generalize wv c m = y at hy ⊢
  by_cases hs : decide (x < 0) = decide (y < 0)
  · refine Ev.if_pos hs ?_
    have h1 := nadd_ev (lm x.natAbs) (lm y.natAbs) (lm_ok _).U (lm_ok _).U (by rw [lm_length]; omega) (by rw [lm_length]; omega)
    rw [val_lm, val_lm] at h1
    have h2 : Ev (fun _ => whole_sign.f (decide (x < 0)) (lm (x.natAbs + y.natAbs))) (wl (x + y)) := by
      refine Ev.congr (fun _ => sign_eq _ _) ((Ev.now _).of_eq ?_)
      rw [sign_add x y hs]
    exact Ev.bind h1 (Ev.bind h2 (Ev.now _))
  · refine Ev.if_neg hs ?_
    have hc := cmp_ev (lm x.natAbs) (lm y.natAbs) (lm_ok _).U (lm_ok _).U (by rw [lm_length]; omega) (by rw [lm_length]; omega)
    rw [val_lm, val_lm] at hc
    refine Ev.bind hc ?_
    have hne : (x < 0 ∧ ¬ y < 0) ∨ (¬ x < 0 ∧ y < 0) := by
      by_cases h1 : x < 0 <;> by_cases h2 : y < 0
      · exact absurd (by rw [decide_eq_true h1, decide_eq_true h2]) hs
      · exact Or.inl ⟨h1, h2⟩
      · exact Or.inr ⟨h1, h2⟩
      · exact absurd (by rw [decide_eq_false h1, decide_eq_false h2]) hs
    by_cases hlt : x.natAbs < y.natAbs
    · refine Ev.if_pos (by unfold cmp; rw [if_pos hlt]; decide) ?_
      have h1 := nsub_ev (lm y.natAbs) (lm x.natAbs) (lm_ok _).U (lm_ok _).U (by rw [lm_length]; omega) (by rw [lm_length]; omega) (by rw [val_lm, val_lm]; omega)
      rw [val_lm, val_lm] at h1
      have h2 : Ev (fun _ => whole_sign.f (decide (y < 0)) (lm (y.natAbs - x.natAbs))) (wl (x + y)) := by
        refine Ev.congr (fun _ => sign_eq _ _) ((Ev.now _).of_eq ?_)
        congr 1
        by_cases h2 : y < 0
        · rw [decide_eq_true h2, if_pos rfl]; omega
        · rw [decide_eq_false h2, if_neg (by decide)]; omega
      exact Ev.bind h1 (Ev.bind h2 (Ev.now _))
    · refine Ev.if_neg (by unfold cmp; rw [if_neg hlt]; split <;> decide) ?_
      have h1 := nsub_ev (lm x.natAbs) (lm y.natAbs) (lm_ok _).U (lm_ok _).U (by rw [lm_length]; omega) (by rw [lm_length]; omega) (by rw [val_lm, val_lm]; omega)
      rw [val_lm, val_lm] at h1
      have h2 : Ev (fun _ => whole_sign.f (decide (x < 0)) (lm (x.natAbs - y.natAbs))) (wl (x + y)) := by
        refine Ev.congr (fun _ => sign_eq _ _) ((Ev.now _).of_eq ?_)
        congr 1
        by_cases h2 : x < 0
        · rw [decide_eq_true h2, if_pos rfl]; omega
        · rw [decide_eq_false h2, if_neg (by decide)]; omega
      exact Ev.bind h1 (Ev.bind h2 (Ev.now _))
theorem den_ev (b : Bool) (n d : List Int) : Ev (fun _ => ratio_den.f b n d) (false, d) := Ev.now _
theorem wl_lens (z : Int) : (wl z).2.length = len z.natAbs := lm_length _
theorem wmul_nd (x y : Rat) {b c : Nat} (hx : Sz x ≤ b) (hy : Sz y ≤ c) (h : b + c ≤ 1099511627776) : Ev (fun k => whole_Mul.f k (cn x).1 (cn x).2.1 false (cn y).2.2) (wl (x.num * y.den)) := by
  have h1 := cnB x hx
  have h2 := cnB y hy
  have := wmul_ev (cn x).1 (cn x).2.1 false (cn y).2.2 h1.1 h2.2.1 (by have := h1.2.2.1; have := h2.2.2.2; omega)
  rw [wv_cn] at this
  have e : wv false (cn y).2.2 = y.den := by unfold wv; rw [(val_cn y).2]; rfl
  rwa [e] at this
theorem Sz_num {x : Rat} {b : Nat} (h : Sz x ≤ b) : len x.num.natAbs ≤ b ∧ len x.den ≤ b := by
  unfold Sz at h
  omega
theorem add_cn (r s : Rt) {b c : Nat} (hr : RtB b r) (hs : RtB c s) (h : b + c ≤ 1073741824) : Ev (fun k => ratio_Add.f k r.1 r.2.1 r.2.2 s.1 s.2.1 s.2.2) (cn (rv r + rv s)) := by
  unfold ratio_Add.f
  refine Ev.bind (clean_cn r hr (by omega)) (Ev.bind (clean_cn s hs (by omega)) (Ev.bind (den_ev _ _ _) ?_))
  have zr := hr.sz
  have zs := hs.sz
  generalize rv r = x at zr ⊢
  generalize rv s = y at zs ⊢
  refine Ev.bind (wmul_nd x y zr zs (by omega)) (Ev.bind (den_ev _ _ _) (Ev.bind (wmul_nd y x zs zr (by omega)) ?_))
  obtain ⟨n1, n2⟩ := Sz_num zr
  obtain ⟨n3, n4⟩ := Sz_num zs
  have m1 := len_mul x.num.natAbs y.den
  have m2 := len_mul y.num.natAbs x.den
  have q1 : len (x.num * (y.den : Int)).natAbs ≤ 1073741840 := by rw [Int.natAbs_mul, Int.natAbs_natCast]; omega
  have q2 : len (y.num * (x.den : Int)).natAbs ≤ 1073741840 := by rw [Int.natAbs_mul, Int.natAbs_natCast]; omega
  have ha := wadd_ev (wl (x.num * (y.den : Int))).1 (wl (x.num * (y.den : Int))).2 (wl (y.num * (x.den : Int))).1 (wl (y.num * (x.den : Int))).2 (lm_ok _).U (lm_ok _).U (by rw [wl_lens]; omega) (by rw [wl_lens]; omega)
  rw [wv_wl, wv_wl] at ha
  refine Ev.bind ha ?_
  have hm := mul_ev (cn x).2.2 (cn y).2.2 (cn_ok x).2 (cn_ok y).2 (by have := (cnB x zr).2.2.2; have := (cnB y zs).2.2.2; omega)
  rw [(val_cn x).2, (val_cn y).2] at hm
  refine Ev.bind hm ?_
  have m3 := len_mul x.den y.den
  have m4 := len_mono (Int.natAbs_add_le (x.num * (y.den : Int)) (y.num * (x.den : Int)))
  have m5 := len_add (x.num * (y.den : Int)).natAbs (y.num * (x.den : Int)).natAbs
  have hf := form_cn (x.num * (y.den : Int) + y.num * (x.den : Int)) (x.den * y.den) (Nat.mul_ne_zero x.den_nz y.den_nz) (by omega) (by omega)
  rw [← Rat.add_def'] at hf
  exact Ev.bind hf (Ev.now _)
end Go.DI.Th
namespace Go.DI.Th
open Go Go.RowKit Go.DI

def sgn (z : Int) : Int := if z < 0 then -1 else if z = 0 then 0 else 1
theorem wsign_ev (b : Bool) (l : List Int) (h : U l) (hn : l.length ≤ 35184372088832) : Ev (fun k => whole_Sign.f k b l) (sgn (wv b l)) := by
  refine Ev.bind (wclean_ev b l h hn) ?_
  generalize wv b l = z
  unfold wl sgn
  dsimp only
  by_cases h1 : z < 0
  · rw [if_pos h1]
    exact Ev.if_pos (decide_eq_true h1) (Ev.now _)
  · rw [if_neg h1]
    refine Ev.if_neg (by simp [h1]) ?_
    by_cases h2 : z = 0
    · subst h2
      rw [if_pos rfl]
      exact Ev.if_pos (by rw [Int.natAbs_zero, lm_zero]; rfl) (Ev.now _)
    · rw [if_neg h2]
      have : len z.natAbs ≠ 0 := fun e => h2 (by have := len_eq_zero.1 e; omega)
      exact Ev.if_neg (by rw [lm_length]; omega) (Ev.now _)
end Go.DI.Th
namespace Go.DI.Th
open Go Go.RowKit Go.DI

abbrev Nd := Bool × Int × Bool × List Int × List Int × Int × Int × Bool × Bool × List Int × List Int × Bool × List Int × List Int
abbrev nd0 : Nd := (false, 0, false, [], [], 0, 0, false, false, [], [], false, [], [])
abbrev Nd.cut (n : Nd) : Rt := (n.2.2.1, n.2.2.2.1, n.2.2.2.2.1)
abbrev Nd.val (n : Nd) : Rt := (n.2.2.2.2.2.2.2.2.1, n.2.2.2.2.2.2.2.2.2.1, n.2.2.2.2.2.2.2.2.2.2.1)
abbrev Nd.cov (n : Nd) : Rt := (n.2.2.2.2.2.2.2.2.2.2.2.1, n.2.2.2.2.2.2.2.2.2.2.2.2.1, n.2.2.2.2.2.2.2.2.2.2.2.2.2)
def num4 (r : Rt) : Rt := (r.1, r.2.1.take 4, r.2.2.take 4)
theorem number4_eq (b : Bool) (n d : List Int) : dendronlaw07_number.f b n d = some (num4 (b, n, d)) := by
  unfold dendronlaw07_number.f num4
  have t : ∀ l : List Int, ¬ (l.length : Int) > 4 → l.take 4 = l := fun l h => List.take_of_length_le (by omega)
  by_cases h1 : (n.length : Int) > 4
  · rw [if_pos h1, if_pos (by omega)]
    by_cases h2 : (d.length : Int) > 4
    · rw [if_pos h2, if_pos (by omega)]
    · rw [if_neg h2]; dsimp only; rw [t d h2]
  · rw [if_neg h1]
    by_cases h2 : (d.length : Int) > 4
    · rw [if_pos h2, if_pos (by omega)]; dsimp only; rw [t n h1]
    · rw [if_neg h2]; dsimp only; rw [t n h1, t d h2]
def nd4 (n : Nd) : Nd := (n.1, n.2.1, (num4 n.cut).1, (num4 n.cut).2.1, (num4 n.cut).2.2, n.2.2.2.2.2.1, n.2.2.2.2.2.2.1, n.2.2.2.2.2.2.2.1, (num4 n.val).1, (num4 n.val).2.1, (num4 n.val).2.2, (num4 n.cov).1, (num4 n.cov).2.1, (num4 n.cov).2.2)
def tree4 (t : List Nd) : List Nd := (t.take 15).map nd4
def few7 (ts : List (List Nd)) : List (List Nd) := (ts.take 6).map tree4
theorem few7_l1 (ts out : List (List Nd)) (ho : out.length ≤ 1000) (ta : List (List Nd)) (t : List Nd) (tb : List (List Nd)) (hts : ts = ta ++ t :: tb) (hta : ta.length ≤ 1000) (f f' g x17 : Int) (x18 : Bool) (R : Int × List (List Nd))
    (hend : Ev (fun k => dendronlaw07_Few.l0 k ((ta ++ [t]).length : Int) f ts f' g (out ++ [tree4 t])) R) : ∀ (b a : List Nd), t = a ++ b → a.length ≤ 15 →
    Ev (fun k => dendronlaw07_Few.l1 k (ta.length : Int) (a.map nd4) (a.length : Int) x17 x18 f ts f' g out) R := by
  have e1 := gt_at [] ta t tb
  have l1 := lt_at ta t tb
  rw [← hts] at e1 l1
  have ew := wr_at ta t (by omega)
  intro b
  induction b with
  | nil =>
    intro a hr ha
    rw [List.append_nil] at hr
    have ht : tree4 t = a.map nd4 := by unfold tree4; rw [hr, List.take_of_length_le ha]
    rw [ht] at hend
    refine Ev.succ ?_
    simp only [dendronlaw07_Few.l1, e1, ew]
    exact Ev.if_pos (nn0 _) (Ev.if_pos l1 (Ev.if_neg (by rw [hr]; omega) (Ev.if_pos (by omega) hend)))
  | cons n b ih =>
    intro a hr ha
    have e2 := gt_at nd0 a n b
    have l2 := lt_at a n b
    rw [← hr] at e2 l2
    refine Ev.succ ?_
    simp only [dendronlaw07_Few.l1, e1, ew, e2, number4_eq]
    refine Ev.if_pos (nn0 _) (Ev.if_pos l1 (Ev.if_pos l2 ?_))
    by_cases h15 : a.length = 15
    · have ht : tree4 t = a.map nd4 := by unfold tree4; rw [hr, List.take_append_of_le_length (by omega), List.take_of_length_le (by omega)]
      rw [ht] at hend
      exact Ev.if_neg (by omega) (Ev.if_pos (by omega) hend)
    · have hih := ih (a ++ [n]) (by rw [hr]; simp) (by rw [List.length_append, List.length_singleton]; omega)
      rw [List.map_append, List.map_cons, List.map_nil] at hih
      rw [wr_at a n (by omega)]
      exact Ev.if_pos (by omega) (Ev.if_pos (nn0 _) (Ev.bind (Ev.now _) (Ev.bind (Ev.now _) (Ev.bind (Ev.now _) (Ev.if_pos (by rw [List.length_map]; omega) hih)))))
theorem few7_l0 (ts : List (List Nd)) (f f' g : Int) : ∀ (b a : List (List Nd)), ts = a ++ b → a.length ≤ 6 → Ev (fun k => dendronlaw07_Few.l0 k (a.length : Int) f ts f' g (a.map tree4)) (g, few7 ts) := by
  intro b
  induction b with
  | nil =>
    intro a hr ha
    rw [List.append_nil] at hr
    have ht : few7 ts = a.map tree4 := by unfold few7; rw [hr, List.take_of_length_le ha]
    rw [ht]
    refine Ev.succ ?_
    simp only [dendronlaw07_Few.l0]
    exact Ev.if_neg (by rw [hr]; omega) (Ev.now _)
  | cons t b ih =>
    intro a hr ha
    have l1 := lt_at a t b
    rw [← hr] at l1
    refine Ev.succ ?_
    simp only [dendronlaw07_Few.l0]
    refine Ev.if_pos l1 ?_
    by_cases h6 : a.length = 6
    · have ht : few7 ts = a.map tree4 := by unfold few7; rw [hr, List.take_append_of_le_length (by omega), List.take_of_length_le (by omega)]
      rw [ht]
      exact Ev.if_neg (by omega) (Ev.now _)
    · have hih := ih (a ++ [t]) (by rw [hr]; simp) (by rw [List.length_append, List.length_singleton]; omega)
      rw [List.map_append, List.map_cons, List.map_nil] at hih
      exact Ev.if_pos (by omega) (few7_l1 ts (a.map tree4) (by rw [List.length_map]; omega) a t b hr (by omega) f f' g _ _ _ hih t [] rfl (by decide))
theorem few7_ev (f : Int) (ts : List (List Nd)) : Ev (fun k => dendronlaw07_Few.f k f ts) (f, few7 ts) := few7_l0 ts f 0 f ts [] rfl (by decide)
def okN (n : Nd) : Prop := 0 ≤ n.2.1 ∧ n.2.1 ≤ 64 ∧ 0 ≤ n.2.2.2.2.2.1 ∧ n.2.2.2.2.2.1 ≤ 255 ∧ 0 ≤ n.2.2.2.2.2.2.1 ∧ n.2.2.2.2.2.2.1 ≤ 255
instance (n : Nd) : Decidable (okN n) := by unfold okN; infer_instance
def okT (t : List Nd) : Prop := 1 ≤ t.length ∧ t.length ≤ 255 ∧ ∀ n ∈ t, okN n
instance (t : List Nd) : Decidable (okT t) := by unfold okT; infer_instance
def fitM (f : Int) (ts : List (List Nd)) : Prop := 0 ≤ f ∧ f ≤ 64 ∧ ts.length ≤ 64 ∧ ∀ t ∈ ts, okT t
instance (f : Int) (ts : List (List Nd)) : Decidable (fitM f ts) := by unfold fitM; infer_instance
theorem fits_l1 (ts : List (List Nd)) (m : Int) (ta : List (List Nd)) (t : List Nd) (hta : ta.length ≤ 64) (x32 : List Nd) (x33 : Int) (x34 : Bool) (ht : t.length ≤ 255) (Q : Prop) [Decidable Q]
    (hend : Ev (fun k => model_Fits.l0 k ts m ((ta ++ [t]).length : Int)) (decide Q)) : ∀ (b a : List Nd), t = a ++ b →
    Ev (fun k => model_Fits.l1 k ts m (ta.length : Int) x32 x33 x34 t (t.length : Int) (a.length : Int)) (decide ((∀ n ∈ b, okN n) ∧ Q)) := by
  have ew := wr_at ta t (by omega)
  intro b
  induction b with
  | nil =>
    intro a hr
    rw [List.append_nil] at hr
    refine Ev.succ ?_
    simp only [model_Fits.l1, ew]
    refine Ev.if_neg (by rw [hr]; omega) (hend.of_eq ?_)
    simp
  | cons n b ih =>
    intro a hr
    have e2 := gt_at nd0 a n b
    have l2 := lt_at a n b
    rw [← hr] at e2 l2
    have hl : t.length = a.length + (b.length + 1) := by rw [hr, List.length_append, List.length_cons]
    have hih := ih (a ++ [n]) (by rw [hr]; simp)
    have key : (∀ x ∈ n :: b, okN x) ∧ Q ↔ okN n ∧ ((∀ x ∈ b, okN x) ∧ Q) := by
      rw [List.forall_mem_cons, and_assoc]
    refine Ev.succ ?_
    simp only [model_Fits.l1, e2, wr_at a n (show a.length ≤ 1125899906842624 by omega)]
    refine Ev.if_pos l2 (Ev.if_pos (nn0 _) (Ev.if_pos l2 ?_))
    refine Ev.guard (fun h e => by have := (key.1 e).1; unfold okN at this; omega) fun g1 => ?_
    refine Ev.guard (fun h e => by have := (key.1 e).1; unfold okN at this; omega) fun g2 => ?_
    refine Ev.guard (fun h e => by have := (key.1 e).1; unfold okN at this; omega) fun g3 => ?_
    refine Ev.guard (fun h e => by have := (key.1 e).1; unfold okN at this; omega) fun g4 => ?_
    refine Ev.guard (fun h e => by have := (key.1 e).1; unfold okN at this; omega) fun g5 => ?_
    refine Ev.guard (fun h e => by have := (key.1 e).1; unfold okN at this; omega) fun g6 => ?_
    refine hih.of_eq ?_
    rw [decide_eq_decide, key]
    exact ⟨fun h => ⟨⟨by omega, by omega, by omega, by omega, by omega, by omega⟩, h⟩, fun h => h.2⟩
theorem fits_l0 (ts : List (List Nd)) (hts : ts.length ≤ 64) : ∀ (b a : List (List Nd)), ts = a ++ b → Ev (fun k => model_Fits.l0 k ts (ts.length : Int) (a.length : Int)) (decide (∀ t ∈ b, okT t)) := by
  intro b
  induction b with
  | nil =>
    intro a hr
    rw [List.append_nil] at hr
    refine Ev.succ ?_
    simp only [model_Fits.l0]
    exact Ev.if_neg (by rw [hr]; omega) ((Ev.now true).of_eq (by simp))
  | cons t b ih =>
    intro a hr
    have e1 := gt_at [] a t b
    have l1 := lt_at a t b
    rw [← hr] at e1 l1
    have hl : ts.length = a.length + (b.length + 1) := by rw [hr, List.length_append, List.length_cons]
    have hih := ih (a ++ [t]) (by rw [hr]; simp)
    refine Ev.succ ?_
    simp only [model_Fits.l0, e1]
    refine Ev.if_pos l1 (Ev.if_pos (nn0 _) (Ev.if_pos l1 ?_))
    refine Ev.guard (fun h e => by have := (e t List.mem_cons_self).1; omega) fun g1 => ?_
    refine Ev.guard (fun h e => by have := (e t List.mem_cons_self).2.1; omega) fun g2 => ?_
    have h1 := fits_l1 ts (ts.length : Int) a t (by omega) t (t.length : Int) false (by omega) _ hih t [] rfl
    refine h1.of_eq ?_
    rw [decide_eq_decide, List.forall_mem_cons]
    exact ⟨fun h => ⟨⟨by omega, by omega, h.1⟩, h.2⟩, fun h => ⟨h.1.2.2, h.2⟩⟩
theorem fits_ev (f : Int) (ts : List (List Nd)) : Ev (fun k => model_Fits.f k f ts) (decide (fitM f ts)) := by
  unfold model_Fits.f
  refine Ev.guard (fun h e => by have := e.1; omega) fun g1 => ?_
  refine Ev.guard (fun h e => by have := e.2.1; omega) fun g2 => ?_
  refine Ev.guard (fun h e => by have := e.2.2.1; omega) fun g3 => ?_
  refine (fits_l0 ts (by omega) ts [] rfl).of_eq ?_
  rw [decide_eq_decide]
  exact ⟨fun h => ⟨by omega, by omega, by omega, h⟩, fun h => h.2.2.2⟩
def NdOk (n : Nd) : Prop := RtOk n.cut ∧ RtOk n.val ∧ RtOk n.cov
def NdW (n : Nd) : Prop := (U n.cut.2.1 ∧ U n.cut.2.2) ∧ (U n.val.2.1 ∧ U n.val.2.2) ∧ (U n.cov.2.1 ∧ U n.cov.2.2)
theorem U.take' {l : List Int} (h : U l) (n : Nat) : U (l.take n) := fun x hx => h x (List.mem_of_mem_take hx)
end Go.DI.Th
namespace Go.DI.Th
open Go Go.RowKit Go.DI

def first (bad : Nat → Bool) : Nat → Nat → Option Nat
  | 0, _ => none
  | m + 1, i => if bad i = true then some i else first bad m (i + 1)
theorem first_none {p : Nat → Bool} : ∀ (m i : Nat), first p m i = none → ∀ j, i ≤ j → j < i + m → p j = false
  | 0, _, _, j, h1, h2 => by omega
  | m + 1, i, h, j, h1, h2 => by
    rw [first] at h
    by_cases hp : p i = true
    · rw [if_pos hp] at h; cases h
    · rw [if_neg hp] at h
      by_cases hj : j = i
      · subst hj; simpa using hp
      · exact first_none m (i + 1) h j (by omega) (by omega)
def nd (t : List Nd) (i : Nat) : Nd := gt nd0 t (i : Int)
theorem gt_nd (t : List Nd) (i : Nat) : gt nd0 t (i : Int) = nd t i := rfl
theorem nd_mem (t : List Nd) (i : Nat) (h : i < t.length) : nd t i ∈ t := by
  unfold nd gt
  rw [Int.toNat_natCast, List.getD_eq_getElem?_getD, List.getElem?_eq_getElem h]
  exact List.getElem_mem h
def okR (f : Int) (L : Nat) (n : Nd) : Prop := n.1 = true ∨ (n.2.1 < f ∧ 1 ≤ n.2.2.2.2.2.1 ∧ n.2.2.2.2.2.1 < L ∧ 1 ≤ n.2.2.2.2.2.2.1 ∧ n.2.2.2.2.2.2.1 < L)
instance (f : Int) (L : Nat) (n : Nd) : Decidable (okR f L n) := by unfold okR; infer_instance
def cc (n : Nd) (a : Nat) : Nat := if n.1 = true then 0 else (if n.2.2.2.2.2.1 = (a : Int) then 1 else 0) + (if n.2.2.2.2.2.2.1 = (a : Int) then 1 else 0)
def cu (t : List Nd) : Nat → Nat → Nat
  | 0, _ => 0
  | j + 1, a => cu t j a + cc (nd t j) a
theorem cc_le (n : Nd) (a : Nat) : cc n a ≤ 2 := by
  unfold cc
  split
  · omega
  · split <;> split <;> omega
theorem cu_le (t : List Nd) : ∀ j a, cu t j a ≤ 2 * j
  | 0, _ => Nat.le_refl _
  | j + 1, a => by
    have := cu_le t j a
    have := cc_le (nd t j) a
    rw [cu]; omega
theorem cc_cu (t : List Nd) (a m : Nat) : ∀ j, m < j → cc (nd t m) a ≤ cu t j a
  | 0, h => by omega
  | j + 1, h => by
    rw [cu]
    by_cases e : m = j
    · subst e; omega
    · have := cc_cu t a m j (by omega); omega
theorem cc_two (t : List Nd) (a m n : Nat) (h : m < n) : ∀ j, n < j → cc (nd t m) a + cc (nd t n) a ≤ cu t j a
  | 0, h => by omega
  | j + 1, h' => by
    rw [cu]
    by_cases e : n = j
    · subst e
      have := cc_cu t a m n h
      omega
    · have := cc_two t a m n h j (by omega)
      omega
def ch (t : List Nd) (p a : Nat) : Prop := (nd t p).1 ≠ true ∧ ((nd t p).2.2.2.2.2.1 = (a : Int) ∨ (nd t p).2.2.2.2.2.2.1 = (a : Int))
instance (t : List Nd) (p a : Nat) : Decidable (ch t p a) := by unfold ch; infer_instance
theorem ch_cc {t : List Nd} {p a : Nat} (h : ch t p a) : 1 ≤ cc (nd t p) a := by
  unfold cc
  rw [if_neg h.1]
  rcases h.2 with e | e
  · rw [if_pos e]; omega
  · rw [if_pos e]; omega
theorem ch_unique {t : List Nd} {p q a : Nat} (hc : cu t t.length a = 1) (hp : p < t.length) (hq : q < t.length) (h : ch t p a) (h' : ch t q a) : p = q := by
  have h1 := ch_cc h
  have h2 := ch_cc h'
  rcases Nat.lt_trichotomy p q with e | e | e
  · have := cc_two t a p q e t.length hq; omega
  · exact e
  · have := cc_two t a q p e t.length hp; omega
def upTo (t : List Nd) (a : Nat) : Nat → Int
  | 0 => -1
  | j + 1 => if ch t j a then (j : Int) else upTo t a j
theorem upTo_none {t : List Nd} {a : Nat} : ∀ {j : Nat}, upTo t a j < 0 → ∀ p, p < j → ¬ ch t p a
  | 0, _, p, h => by omega
  | j + 1, h, p, hp => by
    rw [upTo] at h
    by_cases hc : ch t j a
    · rw [if_pos hc] at h; omega
    · rw [if_neg hc] at h
      by_cases e : p = j
      · subst e; exact hc
      · exact upTo_none h p (by omega)
theorem upTo_some {t : List Nd} {a : Nat} : ∀ {j : Nat}, ¬ upTo t a j < 0 → ∃ p : Nat, upTo t a j = (p : Int) ∧ p < j ∧ ch t p a
  | 0, h => by rw [upTo] at h; omega
  | j + 1, h => by
    rw [upTo] at h ⊢
    by_cases hc : ch t j a
    · rw [if_pos hc]; exact ⟨j, rfl, by omega, hc⟩
    · rw [if_neg hc] at h ⊢
      obtain ⟨p, h1, h2, h3⟩ := upTo_some h
      exact ⟨p, h1, by omega, h3⟩
def climb (t : List Nd) : Nat → Nat → Bool
  | 0, _ => false
  | k + 1, a => if a = 0 then true else if upTo t a t.length < 0 then false else climb t k (upTo t a t.length).toNat
theorem climb_mono (t : List Nd) : ∀ k a, climb t k a = true → climb t (k + 1) a = true
  | 0, _, h => by cases h
  | k + 1, a, h => by
    rw [climb] at h ⊢
    by_cases h0 : a = 0
    · rw [if_pos h0]
    · rw [if_neg h0] at h ⊢
      by_cases h1 : upTo t a t.length < 0
      · rw [if_pos h1] at h; cases h
      · rw [if_neg h1] at h ⊢
        exact climb_mono t k _ h
theorem climb_le (t : List Nd) {k m : Nat} (h : k ≤ m) (a : Nat) (hc : climb t k a = true) : climb t m a = true := by
  induction h with
  | refl => exact hc
  | step _ ih => exact climb_mono t _ a ih
theorem climb_child {t : List Nd} {p a k : Nat} (hcu : cu t t.length a = 1) (hp : p < t.length) (h : ch t p a) (ha : a ≠ 0) (hc : climb t k p = true) : climb t (k + 1) a = true := by
  rw [climb, if_neg ha]
  have h1 : ¬ upTo t a t.length < 0 := fun e => upTo_none e p hp h
  obtain ⟨q, e1, e2, e3⟩ := upTo_some h1
  have : q = p := ch_unique hcu e2 hp e3 h
  subst this
  rw [if_neg h1, e1, Int.toNat_natCast]
  exact hc
theorem nodup_len : ∀ (n : Nat) (l : List Nat), l.Nodup → (∀ x ∈ l, x < n) → l.length ≤ n
  | 0, l, _, h => by
    cases l with
    | nil => exact Nat.le_refl _
    | cons x l => exact absurd (h x List.mem_cons_self) (by omega)
  | n + 1, l, hn, h => by
    by_cases hm : n ∈ l
    · have h1 := nodup_len n (l.erase n) (hn.erase n) fun x hx => by
        have hx' := (List.Nodup.mem_erase_iff hn).1 hx
        have := h x hx'.2
        have := hx'.1
        omega
      rw [List.length_erase_of_mem hm] at h1
      omega
    · have h1 := nodup_len n l hn fun x hx => by
        have := h x hx
        have : x ≠ n := fun e => hm (e ▸ hx)
        omega
      omega
structure Once (f : Int) (t : List Nd) : Prop where
  rng : ∀ i, i < t.length → okR f t.length (nd t i)
  one : ∀ i, 0 < i → i < t.length → cu t t.length i = 1
structure Walk (t : List Nd) (P S : List Nat) : Prop where
  nodup : (P ++ S).Nodup
  lt : ∀ x ∈ P ++ S, x < t.length
  zero : 0 ∈ P ++ S
  par : ∀ x ∈ P ++ S, x = 0 ∨ ∃ p ∈ P, ch t p x
  kid : ∀ p ∈ P, ∀ x, ch t p x → x ∈ P ++ S
  up : ∀ x ∈ P ++ S, climb t (P.length + 1) x = true
theorem Walk.start (t : List Nd) (h : 0 < t.length) : Walk t [] [0] where
  nodup := by simp
  lt := fun x hx => by
    have : x = 0 := by simpa using hx
    omega
  zero := by simp
  par := fun x hx => Or.inl (by simpa using hx)
  kid := fun p hp => by cases hp
  up := fun x hx => by
    have : x = 0 := by simpa using hx
    subst this
    rfl
theorem perm_pop (P S : List Nat) (a : Nat) : (P ++ (S ++ [a])).Perm (a :: P ++ S) := by
  rw [← List.append_assoc]
  exact (List.perm_append_comm (l₁ := P ++ S) (l₂ := [a]))
theorem Walk.leaf {t : List Nd} {P S : List Nat} {a : Nat} (w : Walk t P (S ++ [a])) (h : (nd t a).1 = true) : Walk t (a :: P) S := by
  have pm := perm_pop P S a
  have mm : ∀ x, x ∈ a :: P ++ S ↔ x ∈ P ++ (S ++ [a]) := fun x => (pm.mem_iff (a := x)).symm
  exact {
    nodup := pm.nodup_iff.1 w.nodup
    lt := fun x hx => w.lt x ((mm x).1 hx)
    zero := (mm 0).2 w.zero
    par := fun x hx => by
      rcases w.par x ((mm x).1 hx) with e | ⟨p, hp, hc⟩
      · exact Or.inl e
      · exact Or.inr ⟨p, List.mem_cons_of_mem _ hp, hc⟩
    kid := fun p hp x hc => by
      rcases List.mem_cons.1 hp with rfl | hp
      · exact absurd h hc.1
      · exact (mm x).2 (w.kid p hp x hc)
    up := fun x hx => climb_mono t _ x (w.up x ((mm x).1 hx)) }
theorem Walk.split {f : Int} {t : List Nd} {P S : List Nat} {a l r : Nat} (o : Once f t) (w : Walk t P (S ++ [a])) (h : (nd t a).1 ≠ true) (hl : (nd t a).2.2.2.2.2.1 = (l : Int)) (hr : (nd t a).2.2.2.2.2.2.1 = (r : Int)) : Walk t (a :: P) (S ++ [l, r]) := by
  have pm := perm_pop P S a
  have mm : ∀ x, x ∈ a :: P ++ S ↔ x ∈ P ++ (S ++ [a]) := fun x => (pm.mem_iff (a := x)).symm
  have hal : a < t.length := w.lt a (by simp)
  have hn : (a :: P ++ S).Nodup := pm.nodup_iff.1 w.nodup
  have haP : a ∉ P := fun hm => by
    rw [List.cons_append, List.nodup_cons] at hn
    exact hn.1 (List.mem_append_left _ hm)
  have hok : (nd t a).2.1 < f ∧ 1 ≤ (nd t a).2.2.2.2.2.1 ∧ (nd t a).2.2.2.2.2.1 < t.length ∧ 1 ≤ (nd t a).2.2.2.2.2.2.1 ∧ (nd t a).2.2.2.2.2.2.1 < t.length := (o.rng a hal).resolve_left h
  rw [hl, hr] at hok
  have cl : ch t a l := ⟨h, Or.inl hl⟩
  have cr : ch t a r := ⟨h, Or.inr hr⟩
  have new : ∀ x, ch t a x → 0 < x → x < t.length → x ∉ a :: P ++ S := fun x hc h0 hx hm => by
    rcases w.par x ((mm x).1 hm) with e | ⟨p, hp, hc'⟩
    · omega
    · have hpl := w.lt p (List.mem_append_left _ hp)
      have := ch_unique (o.one x h0 hx) hpl hal hc' hc
      exact haP (this ▸ hp)
  have nl := new l cl (by omega) (by omega)
  have nr := new r cr (by omega) (by omega)
  have hne : l ≠ r := fun e => by
    have h1 := o.one l (by omega) (by omega)
    have h2 := cc_cu t l a t.length hal
    unfold cc at h2
    rw [if_neg h, if_pos hl, if_pos (by rw [hr, e])] at h2
    omega
  have mm2 : ∀ x, x ∈ a :: P ++ (S ++ [l, r]) ↔ (x ∈ P ++ (S ++ [a]) ∨ x = l ∨ x = r) := fun x => by
    rw [← mm x, ← List.append_assoc, List.mem_append (s := a :: P ++ S)]
    simp
  exact {
    nodup := by
      rw [← List.append_assoc]
      refine List.nodup_append.2 ⟨hn, by simp [hne], ?_⟩
      intro x hx y hy e
      subst e
      rcases List.mem_cons.1 hy with rfl | hy
      · exact nl hx
      · have : x = r := by simpa using hy
        subst this
        exact nr hx
    lt := fun x hx => by
      rcases (mm2 x).1 hx with h1 | rfl | rfl
      · exact w.lt x h1
      · omega
      · omega
    zero := (mm2 0).2 (Or.inl w.zero)
    par := fun x hx => by
      rcases (mm2 x).1 hx with h1 | rfl | rfl
      · rcases w.par x h1 with e | ⟨p, hp, hc⟩
        · exact Or.inl e
        · exact Or.inr ⟨p, List.mem_cons_of_mem _ hp, hc⟩
      · exact Or.inr ⟨a, List.mem_cons_self, cl⟩
      · exact Or.inr ⟨a, List.mem_cons_self, cr⟩
    kid := fun p hp x hc => by
      refine (mm2 x).2 ?_
      rcases List.mem_cons.1 hp with rfl | hp
      · rcases hc.2 with e | e
        · rw [hl] at e
          exact Or.inr (Or.inl (by omega))
        · rw [hr] at e
          exact Or.inr (Or.inr (by omega))
      · exact Or.inl (w.kid p hp x hc)
    up := fun x hx => by
      have ha : climb t (P.length + 1) a = true := w.up a (by simp)
      show climb t (P.length + 1 + 1) x = true
      rcases (mm2 x).1 hx with h1 | rfl | rfl
      · exact climb_mono t _ x (w.up x h1)
      · exact climb_child (o.one x (by omega) (by omega)) hal cl (by omega) ha
      · exact climb_child (o.one x (by omega) (by omega)) hal cr (by omega) ha }
theorem Walk.size {t : List Nd} {P S : List Nat} (w : Walk t P S) : P.length + S.length ≤ t.length := by
  have := nodup_len t.length (P ++ S) w.nodup w.lt
  rwa [List.length_append] at this
theorem Walk.done {t : List Nd} {P : List Nat} (w : Walk t P []) (i : Nat) (hi : i < t.length) : i ∈ P ↔ climb t (t.length + 1) i = true := by
  have e : P ++ [] = P := List.append_nil P
  constructor
  · intro h
    have hs := w.size
    exact climb_le t (k := P.length + 1) (by simp at hs; omega) i (w.up i (by rw [e]; exact h))
  · have key : ∀ k a, climb t k a = true → a ∈ P := by
      intro k
      induction k with
      | zero => intro a h; cases h
      | succ k ih =>
        intro a h
        rw [climb] at h
        by_cases h0 : a = 0
        · subst h0
          have := w.zero
          rwa [e] at this
        · rw [if_neg h0] at h
          by_cases h1 : upTo t a t.length < 0
          · rw [if_pos h1] at h; cases h
          · rw [if_neg h1] at h
            obtain ⟨p, e1, e2, e3⟩ := upTo_some h1
            rw [e1, Int.toNat_natCast] at h
            have := w.kid p (ih p h) a e3
            rwa [e] at this
    exact key _ i
end Go.DI.Th
namespace Go.DI.Th
open Go Go.RowKit Go.DI

theorem first_hit {bad : Nat → Bool} {m i : Nat} (h : bad i = true) : first bad (m + 1) i = some i := by rw [first, if_pos h]
theorem first_skip {bad : Nat → Bool} {m i : Nat} (h : bad i = false) : first bad (m + 1) i = first bad m (i + 1) := by rw [first, if_neg (by simp [h])]
def ans (e z : Int) : Option Nat → Int × Int
  | some i => ((i : Int), e)
  | none => (z, 0)
theorem Ev.cut {α : Type} {c P : Prop} [Decidable c] {r1 r : α} {f : Nat → Option α} (hP : c → P) (hr : P → r = r1) (h : ¬ c → Ev f r) : Ev (fun n => if c then some r1 else f n) r := by
  by_cases h1 : c
  · rw [hr (hP h1)]
    exact Ev.if_pos h1 (Ev.now _)
  · exact Ev.if_neg h1 (h h1)
def bad0 (f : Int) (t : List Nd) (i : Nat) : Bool := decide (¬ okR f t.length (nd t i))
def bad1 (t : List Nd) (i : Nat) : Bool := decide (0 < i ∧ cu t t.length i ≠ 1)
def bad2 (t : List Nd) (i : Nat) : Bool := !(climb t (t.length + 1) i)
def bad3 (t : List Nd) (i : Nat) : Bool := decide (sgn (rv (nd t i).cov).num ≤ 0)
def bad4 (t : List Nd) (i : Nat) : Bool := decide ((nd t i).1 ≠ true ∧ rv (nd t i).cov ≠ rv (nd t (nd t i).2.2.2.2.2.1.toNat).cov + rv (nd t (nd t i).2.2.2.2.2.2.1.toNat).cov)
theorem ranges_loop (t : List Nd) (f : Int) (ht : t.length ≤ 255) (hp : ∀ n ∈ t, okN n) : ∀ d i : Nat, i + d = t.length → Ev (fun k => valid_ranges.l0 k t f t (t.length : Int) (i : Int)) (ans 8 0 (first (bad0 f t) d i)) := by
  intro d
  induction d with
  | zero =>
    intro i hi
    refine Ev.succ ?_
    simp only [valid_ranges.l0]
    exact Ev.if_neg (by omega) (Ev.now _)
  | succ d ih =>
    intro i hi
    have hn := hp _ (nd_mem t i (by omega))
    have hih := ih (i + 1) (by omega)
    have e1 : ¬ okR f t.length (nd t i) → ans 8 0 (first (bad0 f t) (d + 1) i) = ((i : Int), 8) := fun h => by rw [first_hit (decide_eq_true h)]; rfl
    have e2 : okR f t.length (nd t i) → first (bad0 f t) d (i + 1) = first (bad0 f t) (d + 1) i := fun h => (first_skip (decide_eq_false (fun h' => h' h))).symm
    refine Ev.succ ?_
    simp only [valid_ranges.l0, gt_nd, wr_succ i (show i ≤ 1125899906842624 by omega)]
    refine Ev.if_pos (by omega) (Ev.if_pos (nn0 _) (Ev.if_pos (by omega) ?_))
    by_cases hb : (nd t i).1 = true
    · exact Ev.if_pos hb (hih.of_eq (by rw [e2 (Or.inl hb)]))
    · refine Ev.if_neg hb ?_
      have no : ∀ {c : Prop}, (c → ¬ ((nd t i).2.1 < f ∧ 1 ≤ (nd t i).2.2.2.2.2.1 ∧ (nd t i).2.2.2.2.2.1 < t.length ∧ 1 ≤ (nd t i).2.2.2.2.2.2.1 ∧ (nd t i).2.2.2.2.2.2.1 < t.length)) → c → ¬ okR f t.length (nd t i) := fun h hc ho => h hc (ho.resolve_left hb)
      refine Ev.if_neg (by have := hn.1; omega) ?_
      refine Ev.cut (no fun h => by omega) e1 fun g1 => ?_
      refine Ev.cut (no fun h => by omega) e1 fun g2 => ?_
      refine Ev.cut (no fun h => by omega) e1 fun g3 => ?_
      refine Ev.cut (no fun h => by omega) e1 fun g4 => ?_
      refine Ev.cut (no fun h => by omega) e1 fun g5 => ?_
      exact hih.of_eq (by rw [e2 (Or.inr ⟨by omega, by omega, by omega, by omega, by omega⟩)])
def A0 (f : Int) (t : List Nd) : Option Nat := first (bad0 f t) t.length 0
theorem ranges_ev (t : List Nd) (f : Int) (ht : t.length ≤ 255) (hp : ∀ n ∈ t, okN n) : Ev (fun k => valid_ranges.f k t f) (ans 8 0 (A0 f t)) := ranges_loop t f ht hp t.length 0 (by omega)
theorem A0_rng {f : Int} {t : List Nd} (h : A0 f t = none) : ∀ i, i < t.length → okR f t.length (nd t i) := fun i hi => by
  have := first_none t.length 0 h i (by omega) (by omega)
  unfold bad0 at this
  exact Classical.byContradiction (of_decide_eq_false this)
theorem rd_set (l : List Int) (a i : Nat) (v : Int) (h : a < l.length) : rd (l.set a v) (i : Int) = if i = a then v else rd l (i : Int) := by
  unfold rd
  rw [Int.toNat_natCast, List.getD_eq_getElem?_getD, List.getD_eq_getElem?_getD, List.getElem?_set]
  by_cases e : i = a
  · subst e
    rw [if_pos rfl, if_pos rfl, if_pos h]
    rfl
  · rw [if_neg (fun h => e h.symm), if_neg e]
def CuOk (t : List Nd) (j : Nat) (x : List Int) : Prop := x.length = t.length ∧ ∀ i, i < t.length → rd x (i : Int) = (cu t j i : Int)
theorem CuOk.start (t : List Nd) : CuOk t 0 (List.replicate t.length 0) := by
  refine ⟨List.length_replicate, fun i hi => ?_⟩
  unfold rd
  rw [Int.toNat_natCast, List.getD_eq_getElem?_getD, List.getElem?_replicate, if_pos hi]
  rfl
theorem CuOk.leaf {t : List Nd} {j : Nat} {x : List Int} (h : CuOk t j x) (hl : (nd t j).1 = true) : CuOk t (j + 1) x := by
  refine ⟨h.1, fun i hi => ?_⟩
  rw [h.2 i hi, cu]
  unfold cc
  rw [if_pos hl]
  rfl
theorem CuOk.split {t : List Nd} {j l r : Nat} {x : List Int} (h : CuOk t j x) (hb : (nd t j).1 ≠ true) (hl : (nd t j).2.2.2.2.2.1 = (l : Int)) (hr : (nd t j).2.2.2.2.2.2.1 = (r : Int)) (hln : l < t.length) (hrn : r < t.length) (hj : j ≤ 1000) :
    CuOk t (j + 1) ((x.set l (wrap64 (rd x (l : Int) + 1))).set r (wrap64 (rd (x.set l (wrap64 (rd x (l : Int) + 1))) (r : Int) + 1))) := by
  refine ⟨by rw [List.length_set, List.length_set]; exact h.1, fun i hi => ?_⟩
  have b1 := cu_le t j l
  have b2 := cu_le t j r
  have h1 := h.1
  have w : ∀ a : Nat, a < t.length → rd (x.set l (wrap64 (rd x (l : Int) + 1))) (a : Int) = ((cu t j a + (if l = a then 1 else 0) : Nat) : Int) := fun a ha => by
    rw [rd_set x l a _ (by omega), h.2 l hln]
    by_cases e : a = l
    · subst e
      rw [if_pos rfl, if_pos rfl, wrap_id (by omega) (by omega)]
      omega
    · rw [if_neg e, if_neg (fun h => e h.symm), h.2 a ha]
      rfl
  rw [rd_set _ r i _ (by rw [List.length_set]; omega), w r hrn, w i hi, cu]
  unfold cc
  rw [if_neg hb, hl, hr]
  by_cases e : i = r
  · subst e
    rw [if_pos rfl, wrap_id (by split <;> omega) (by split <;> omega), if_pos rfl]
    by_cases e2 : l = i
    · subst e2
      rw [if_pos rfl, if_pos rfl]
      omega
    · rw [if_neg e2, if_neg (fun h => e2 (by omega))]
      omega
  · rw [if_neg e, if_neg (show ¬ ((r : Int) = (i : Int)) from fun h => e (by omega))]
    by_cases e2 : l = i
    · subst e2
      rw [if_pos rfl, if_pos rfl]
    · rw [if_neg e2, if_neg (show ¬ ((l : Int) = (i : Int)) from fun h => e2 (by omega))]
theorem kids {f : Int} {t : List Nd} {i : Nat} (h : okR f t.length (nd t i)) (hb : (nd t i).1 ≠ true) : ∃ l r : Nat, (nd t i).2.2.2.2.2.1 = (l : Int) ∧ (nd t i).2.2.2.2.2.2.1 = (r : Int) ∧ 1 ≤ l ∧ l < t.length ∧ 1 ≤ r ∧ r < t.length := by
  have h' := h.resolve_left hb
  exact ⟨(nd t i).2.2.2.2.2.1.toNat, (nd t i).2.2.2.2.2.2.1.toNat, by omega, by omega, by omega, by omega, by omega, by omega⟩
theorem shape_l0 (f : Int) (t : List Nd) (ht : t.length ≤ 255) (hr : ∀ i, i < t.length → okR f t.length (nd t i)) (R : Int × Int) (hend : ∀ x, CuOk t t.length x → Ev (fun k => valid_shape.l1 k t x (x.length : Int) 0) R) : ∀ (d j : Nat) (x : List Int), j + d = t.length → CuOk t j x →
    Ev (fun k => valid_shape.l0 k t x t (t.length : Int) (j : Int)) R := by
  intro d
  induction d with
  | zero =>
    intro j x hj hx
    obtain rfl : j = t.length := by omega
    refine Ev.succ ?_
    simp only [valid_shape.l0]
    exact Ev.if_neg (by omega) (hend x hx)
  | succ d ih =>
    intro j x hj hx
    refine Ev.succ ?_
    simp only [valid_shape.l0, gt_nd, wr_succ j (show j ≤ 1125899906842624 by omega), List.length_set]
    refine Ev.if_pos (by omega) (Ev.if_pos (nn0 _) (Ev.if_pos (by omega) ?_))
    by_cases hb : (nd t j).1 = true
    · exact Ev.if_pos hb (ih (j + 1) x (by omega) (hx.leaf hb))
    · refine Ev.if_neg hb ?_
      obtain ⟨l, r, hl, hr', l1, l2, r1, r2⟩ := kids (hr j (by omega)) hb
      have hih := ih (j + 1) _ (by omega) (hx.split hb hl hr' l2 r2 (by omega))
      have hx1 := hx.1
      have hl' : (nd t j).2.2.2.2.2.1 = (l : Int) := hl
      have hr'' : (nd t j).2.2.2.2.2.2.1 = (r : Int) := hr'
      rw [hl', hr'', Int.toNat_natCast, Int.toNat_natCast]
      exact Ev.if_pos (nn0 _) (Ev.if_pos (by omega) (Ev.if_pos (nn0 _) (Ev.if_pos (by omega) hih)))
theorem getD_set (l : List Bool) (a i : Nat) (v : Bool) (h : a < l.length) : (l.set a v).getD i false = if i = a then v else l.getD i false := by
  rw [List.getD_eq_getElem?_getD, List.getD_eq_getElem?_getD, List.getElem?_set]
  by_cases e : i = a
  · subst e
    rw [if_pos rfl, if_pos rfl, if_pos h]
    rfl
  · rw [if_neg (fun h => e h.symm), if_neg e]
def SeenOk (t : List Nd) (P : List Nat) (x : List Bool) : Prop := x.length = t.length ∧ ∀ i, i < t.length → x.getD i false = decide (i ∈ P)
theorem SeenOk.start (t : List Nd) : SeenOk t [] (List.replicate t.length false) := by
  refine ⟨List.length_replicate, fun i hi => ?_⟩
  rw [List.getD_eq_getElem?_getD, List.getElem?_replicate, if_pos hi]
  simp
theorem SeenOk.add {t : List Nd} {P : List Nat} {x : List Bool} (h : SeenOk t P x) {a : Nat} (ha : a < t.length) : SeenOk t (a :: P) (x.set a true) := by
  refine ⟨by rw [List.length_set]; exact h.1, fun i hi => ?_⟩
  have h1 := h.1
  rw [getD_set x a i _ (by omega), h.2 i hi]
  by_cases e : i = a
  · subst e
    rw [if_pos rfl]
    simp
  · rw [if_neg e]
    simp [e]
theorem shape_l3 (t : List Nd) (ht : t.length ≤ 255) (x : List Bool) (hx : x.length = t.length) (hs : ∀ i, i < t.length → x.getD i false = !(bad2 t i)) : ∀ d i : Nat, i + d = t.length → Ev (fun k => valid_shape.l3 k x (x.length : Int) (i : Int)) (ans 11 0 (first (bad2 t) d i)) := by
  intro d
  induction d with
  | zero =>
    intro i hi
    refine Ev.succ ?_
    simp only [valid_shape.l3]
    exact Ev.if_neg (by omega) (Ev.now _)
  | succ d ih =>
    intro i hi
    have hih := ih (i + 1) (by omega)
    have h1 := hs i (by omega)
    refine Ev.succ ?_
    simp only [valid_shape.l3, wr_succ i (show i ≤ 1125899906842624 by omega), Int.toNat_natCast, h1]
    refine Ev.if_pos (by omega) (Ev.if_pos (nn0 _) (Ev.if_pos (by omega) ?_))
    by_cases hb : bad2 t i = true
    · rw [first_hit hb]
      exact Ev.if_neg (by simp [hb]) (Ev.now _)
    · have hb' : bad2 t i = false := by simpa using hb
      rw [first_skip hb']
      exact Ev.if_pos (by simp [hb']) hih
def cI (x : Nat) : Int := (x : Int)
theorem shape_l2 (f : Int) (t : List Nd) (ht : t.length ≤ 255) (o : Once f t) : ∀ (m : Nat) (P S : List Nat) (x : List Bool), Walk t P S → SeenOk t P x → t.length ≤ P.length + m →
    Ev (fun k => valid_shape.l2 k t x (S.map cI)) (ans 11 0 (first (bad2 t) t.length 0)) := by
  intro m
  induction m with
  | zero =>
    intro P S x w hx hm
    have hs := w.size
    obtain rfl : S = [] := List.length_eq_zero_iff.1 (by omega)
    refine Ev.succ ?_
    simp only [valid_shape.l2, List.map_nil, List.length_nil]
    refine Ev.if_neg (by decide) (shape_l3 t ht x hx.1 (fun i hi => ?_) t.length 0 (by omega))
    rw [hx.2 i hi]
    unfold bad2
    rw [Bool.not_not, Bool.eq_iff_iff, decide_eq_true_iff]
    exact w.done i hi
  | succ m ih =>
    intro P S x w hx hm
    rcases List.eq_nil_or_concat S with rfl | ⟨S, a, rfl⟩
    · refine Ev.succ ?_
      simp only [valid_shape.l2, List.map_nil, List.length_nil]
      refine Ev.if_neg (by decide) (shape_l3 t ht x hx.1 (fun i hi => ?_) t.length 0 (by omega))
      rw [hx.2 i hi]
      unfold bad2
      rw [Bool.not_not, Bool.eq_iff_iff, decide_eq_true_iff]
      exact w.done i hi
    · rw [List.concat_eq_append] at w ⊢
      have hs := w.size
      rw [List.length_append, List.length_singleton] at hs
      have ha : a < t.length := w.lt a (by simp)
      have hx1 := hx.1
      have hA : (S.map cI).length = S.length := List.length_map _
      have ew : wrap64 ((((S.map cI).length + 1 : Nat) : Int) - 1) = ((S.map cI).length : Int) := by
        rw [wrap_id (by omega) (by omega)]
        omega
      have er : rd (S.map cI ++ [(a : Int)]) ((S.map cI).length : Int) = (a : Int) := rd_at _ _ []
      have et : (S.map cI ++ [(a : Int)]).take (S.map cI).length = S.map cI := List.take_left
      have el : (S.map cI ++ [(a : Int)]).length = (S.map cI).length + 1 := by rw [List.length_append, List.length_singleton]
      have em : (S ++ [a]).map cI = S.map cI ++ [(a : Int)] := by rw [List.map_append]; rfl
      rw [em]
      refine Ev.succ ?_
      simp only [valid_shape.l2, ew, er, gt_nd, Int.toNat_natCast, et, el]
      refine Ev.if_pos (by omega) (Ev.if_pos (nn0 _) (Ev.if_pos (by omega) (Ev.if_pos (by omega) (Ev.if_pos (nn0 _) (Ev.if_pos (by omega) (Ev.if_pos (by omega) ?_))))))
      by_cases hb : (nd t a).1 = true
      · exact Ev.if_pos hb (ih (a :: P) S _ (w.leaf hb) (hx.add ha) (by rw [List.length_cons]; omega))
      · refine Ev.if_neg hb ?_
        obtain ⟨l, r, hl, hr, l1, l2, r1, r2⟩ := kids (o.rng a ha) hb
        have hih := ih (a :: P) (S ++ [l, r]) _ (w.split o hb hl hr) (hx.add ha) (by rw [List.length_cons]; omega)
        have hl' : (nd t a).2.2.2.2.2.1 = (l : Int) := hl
        have hr' : (nd t a).2.2.2.2.2.2.1 = (r : Int) := hr
        have em2 : (S ++ [l, r]).map cI = S.map cI ++ [(l : Int), (r : Int)] := by rw [List.map_append]; rfl
        rw [em2] at hih
        rw [hl', hr']
        exact Ev.if_pos (by show (S.map cI).length + 2 < _; omega) hih
def A1 (t : List Nd) : Option Nat := (first (bad1 t) t.length 0).or (first (bad2 t) t.length 0)
theorem shape_l1 (f : Int) (t : List Nd) (ht : t.length ≤ 255) (h0 : 1 ≤ t.length) (hr : ∀ i, i < t.length → okR f t.length (nd t i)) (x : List Int) (hx : CuOk t t.length x) : ∀ d i : Nat, i + d = t.length → (∀ j, j < i → bad1 t j = false) →
    Ev (fun k => valid_shape.l1 k t x (x.length : Int) (i : Int)) (ans 11 0 ((first (bad1 t) d i).or (first (bad2 t) t.length 0))) := by
  have hx1 := hx.1
  intro d
  induction d with
  | zero =>
    intro i hi hj
    have o : Once f t := ⟨hr, fun j j0 j1 => by
      have := hj j (by omega)
      unfold bad1 at this
      have := of_decide_eq_false this
      exact Classical.byContradiction fun e => this ⟨j0, e⟩⟩
    refine Ev.succ ?_
    simp only [valid_shape.l1, Int.toNat_natCast]
    exact Ev.if_neg (by omega) (Ev.if_pos (by omega) (shape_l2 f t ht o t.length [] [0] _ (Walk.start t (by omega)) (SeenOk.start t) (by simp)))
  | succ d ih =>
    intro i hi hj
    refine Ev.succ ?_
    simp only [valid_shape.l1, wr_succ i (show i ≤ 1125899906842624 by omega), hx.2 i (by omega)]
    refine Ev.if_pos (by omega) (Ev.if_pos (nn0 _) (Ev.if_pos (by omega) ?_))
    by_cases hb : bad1 t i = true
    · have hb' := of_decide_eq_true hb
      rw [first_hit hb]
      exact Ev.if_pos (by omega) (Ev.if_pos (by omega) (Ev.now _))
    · have hb2 : bad1 t i = false := by simpa using hb
      have hb' := of_decide_eq_false hb2
      rw [first_skip hb2]
      have hih := ih (i + 1) (by omega) (fun j hj' => by
        by_cases e : j = i
        · rw [e]; exact hb2
        · exact hj j (by omega))
      by_cases hi0 : i = 0
      · exact Ev.if_neg (by omega) hih
      · refine Ev.if_pos (by omega) (Ev.if_neg (fun e => hb' ⟨by omega, by omega⟩) hih)
theorem shape_ev (f : Int) (t : List Nd) (ht : t.length ≤ 255) (h0 : 1 ≤ t.length) (hr : ∀ i, i < t.length → okR f t.length (nd t i)) : Ev (fun k => valid_shape.f k t) (ans 11 0 (A1 t)) := by
  unfold valid_shape.f
  rw [Int.toNat_natCast]
  exact Ev.if_pos (by omega) (shape_l0 f t ht hr _ (fun x hx => shape_l1 f t ht h0 hr x hx t.length 0 (by omega) (fun j hj => by omega)) t.length 0 _ (by omega) (CuOk.start t))
theorem sign_cn (r : Rt) {b : Nat} (h : RtB b r) (hb : b ≤ 1073741824) : Ev (fun k => ratio_Sign.f k r.1 r.2.1 r.2.2) (sgn (rv r).num) := by
  unfold ratio_Sign.f
  refine Ev.bind (clean_cn r h (by omega)) ?_
  have h1 := cnB (rv r) h.sz
  have := wsign_ev (cn (rv r)).1 (cn (rv r)).2.1 h1.1 (by have := h1.2.2.1; omega)
  rw [wv_cn] at this
  exact Ev.bind this (Ev.now _)
theorem covers_loop (t : List Nd) (ht : t.length ≤ 255) (hp : ∀ n ∈ t, NdOk n) : ∀ d i : Nat, i + d = t.length → Ev (fun k => valid_covers.l0 k t (t.length : Int) (i : Int)) (ans 12 0 (first (bad3 t) d i)) := by
  intro d
  induction d with
  | zero =>
    intro i hi
    refine Ev.succ ?_
    simp only [valid_covers.l0]
    exact Ev.if_neg (by omega) (Ev.now _)
  | succ d ih =>
    intro i hi
    have hn := hp _ (nd_mem t i (by omega))
    have hih := ih (i + 1) (by omega)
    refine Ev.succ ?_
    simp only [valid_covers.l0, gt_nd, wr_succ i (show i ≤ 1125899906842624 by omega)]
    refine Ev.if_pos (by omega) (Ev.if_pos (nn0 _) (Ev.if_pos (by omega) (Ev.bind (sign_cn (nd t i).cov hn.2.2.B (by decide)) ?_)))
    by_cases hb : sgn (rv (nd t i).cov).num ≤ 0
    · rw [first_hit (decide_eq_true hb : bad3 t i = true)]
      exact Ev.if_pos hb (Ev.now _)
    · rw [first_skip (decide_eq_false hb : bad3 t i = false)]
      exact Ev.if_neg hb hih
def A2 (t : List Nd) : Option Nat := first (bad3 t) t.length 0
theorem covers_ev (t : List Nd) (ht : t.length ≤ 255) (hp : ∀ n ∈ t, NdOk n) : Ev (fun k => valid_covers.f k t) (ans 12 0 (A2 t)) := covers_loop t ht hp t.length 0 (by omega)
theorem sums_loop (f : Int) (t : List Nd) (ht : t.length ≤ 255) (hp : ∀ n ∈ t, NdOk n) (hr : ∀ i, i < t.length → okR f t.length (nd t i)) : ∀ d i : Nat, i + d = t.length → Ev (fun k => valid_sums.l0 k t t (t.length : Int) (i : Int)) (ans 13 0 (first (bad4 t) d i)) := by
  intro d
  induction d with
  | zero =>
    intro i hi
    refine Ev.succ ?_
    simp only [valid_sums.l0]
    exact Ev.if_neg (by omega) (Ev.now _)
  | succ d ih =>
    intro i hi
    have hn := hp _ (nd_mem t i (by omega))
    have hih := ih (i + 1) (by omega)
    refine Ev.succ ?_
    simp only [valid_sums.l0, gt_nd, wr_succ i (show i ≤ 1125899906842624 by omega)]
    refine Ev.if_pos (by omega) (Ev.if_pos (nn0 _) (Ev.if_pos (by omega) ?_))
    by_cases hb : (nd t i).1 = true
    · rw [first_skip (decide_eq_false (fun h => h.1 hb) : bad4 t i = false)]
      exact Ev.if_pos hb hih
    · refine Ev.if_neg hb ?_
      obtain ⟨l, r, hl, hr', l1, l2, r1, r2⟩ := kids (hr i (by omega)) hb
      have eb : bad4 t i = decide ((nd t i).1 ≠ true ∧ rv (nd t i).cov ≠ rv (nd t l).cov + rv (nd t r).cov) := by
        unfold bad4
        rw [hl, hr', Int.toNat_natCast, Int.toNat_natCast]
      have hl' : (nd t i).2.2.2.2.2.1 = (l : Int) := hl
      have hr'' : (nd t i).2.2.2.2.2.2.1 = (r : Int) := hr'
      rw [hl', hr'']
      simp only [gt_nd]
      have ol := (hp _ (nd_mem t l l2)).2.2.B
      have or := (hp _ (nd_mem t r r2)).2.2.B
      have za := Sz_add (rv (nd t l).cov) (rv (nd t r).cov)
      have z1 := ol.sz
      have z2 := or.sz
      have hs := same_cn (nd t i).cov (cn (rv (nd t l).cov + rv (nd t r).cov)) hn.2.2.B (cnB _ (Nat.le_refl _)) (by decide) (by omega)
      rw [rv_cn] at hs
      refine Ev.if_pos (nn0 _) (Ev.if_pos (by omega) (Ev.if_pos (nn0 _) (Ev.if_pos (by omega) (Ev.bind (add_cn (nd t l).cov (nd t r).cov ol or (by decide)) (Ev.bind hs ?_)))))
      by_cases he : rv (nd t i).cov = rv (nd t l).cov + rv (nd t r).cov
      · rw [first_skip (show bad4 t i = false by rw [eb]; exact decide_eq_false fun h => h.2 he)]
        exact Ev.if_pos (decide_eq_true he) hih
      · rw [first_hit (show bad4 t i = true by rw [eb]; exact decide_eq_true ⟨hb, he⟩)]
        exact Ev.if_neg (by simp [he]) (Ev.now _)
def A3 (t : List Nd) : Option Nat := first (bad4 t) t.length 0
theorem sums_ev (f : Int) (t : List Nd) (ht : t.length ≤ 255) (hp : ∀ n ∈ t, NdOk n) (hr : ∀ i, i < t.length → okR f t.length (nd t i)) : Ev (fun k => valid_sums.f k t) (ans 13 0 (A3 t)) := sums_loop f t ht hp hr t.length 0 (by omega)
end Go.DI.Th
namespace Go.DI.Th
open Go Go.RowKit Go.DI

theorem parents_loop (t : List Nd) (a : Nat) (ht : t.length ≤ 255) : ∀ d j : Nat, j + d = t.length → Ev (fun k => dendronlaw08_parents.l0 k t (a : Int) (cu t j a : Int) (j : Int)) (cu t t.length a : Int) := by
  intro d
  induction d with
  | zero =>
    intro j hj
    obtain rfl : j = t.length := by omega
    refine Ev.succ ?_
    simp only [dendronlaw08_parents.l0]
    exact Ev.if_neg (by omega) (Ev.now _)
  | succ d ih =>
    intro j hj
    have hih := ih (j + 1) (by omega)
    have b1 := cu_le t j a
    have w1 : wrap64 ((cu t j a : Int) + 1) = (cu t j a : Int) + 1 := wrap_id (by omega) (by omega)
    have w2 : wrap64 ((cu t j a : Int) + 1 + 1) = (cu t j a : Int) + 1 + 1 := wrap_id (by omega) (by omega)
    rw [cu] at hih
    unfold cc at hih
    refine Ev.succ ?_
    simp only [dendronlaw08_parents.l0, gt_nd, wr_succ j (show j ≤ 1125899906842624 by omega), w1, w2]
    refine Ev.if_pos (by omega) (Ev.if_pos (nn0 _) ?_)
    by_cases hb : (nd t j).1 = true
    · rw [if_pos hb] at hih
      exact Ev.if_pos hb (Ev.if_pos hb hih)
    · rw [if_neg hb] at hih
      refine Ev.if_neg hb ?_
      by_cases hl : (nd t j).2.2.2.2.2.1 = (a : Int)
      · rw [if_pos hl] at hih
        refine Ev.if_pos hl (Ev.if_neg hb ?_)
        by_cases hr : (nd t j).2.2.2.2.2.2.1 = (a : Int)
        · rw [if_pos hr] at hih
          exact Ev.if_pos hr hih
        · rw [if_neg hr] at hih
          exact Ev.if_neg hr hih
      · rw [if_neg hl] at hih
        refine Ev.if_neg hl (Ev.if_neg hb ?_)
        by_cases hr : (nd t j).2.2.2.2.2.2.1 = (a : Int)
        · rw [if_pos hr] at hih
          exact Ev.if_pos hr (hih.of_eq rfl)
        · rw [if_neg hr] at hih
          exact Ev.if_neg hr hih
theorem parents_ev (t : List Nd) (a : Nat) (ht : t.length ≤ 255) : Ev (fun k => dendronlaw08_parents.f k t (a : Int)) (cu t t.length a : Int) := parents_loop t a ht t.length 0 (by omega)
theorem reached_l1 (t : List Nd) (a : Nat) (ht : t.length ≤ 255) (x5 : Int) (R : Bool) (hend : Ev (fun k => if upTo t a t.length < 0 then some false else dendronlaw08_reached.l0 k t (upTo t a t.length) (wrap64 (x5 + 1))) R) : ∀ d j : Nat, j + d = t.length →
    Ev (fun k => dendronlaw08_reached.l1 k t (a : Int) x5 (upTo t a j) (j : Int)) R := by
  intro d
  induction d with
  | zero =>
    intro j hj
    obtain rfl : j = t.length := by omega
    refine Ev.succ ?_
    simp only [dendronlaw08_reached.l1]
    exact Ev.if_neg (by omega) hend
  | succ d ih =>
    intro j hj
    have hih := ih (j + 1) (by omega)
    rw [upTo] at hih
    refine Ev.succ ?_
    simp only [dendronlaw08_reached.l1, gt_nd, wr_succ j (show j ≤ 1125899906842624 by omega)]
    refine Ev.if_pos (by omega) (Ev.if_pos (nn0 _) ?_)
    by_cases hb : (nd t j).1 = true
    · rw [if_neg (fun h => h.1 hb)] at hih
      exact Ev.if_pos hb hih
    · refine Ev.if_neg hb ?_
      by_cases hl : (nd t j).2.2.2.2.2.1 = (a : Int)
      · rw [if_pos ⟨hb, Or.inl hl⟩] at hih
        exact Ev.if_pos hl hih
      · refine Ev.if_neg hl ?_
        by_cases hr : (nd t j).2.2.2.2.2.2.1 = (a : Int)
        · rw [if_pos ⟨hb, Or.inr hr⟩] at hih
          exact Ev.if_pos hr hih
        · rw [if_neg (fun h => h.2.elim hl hr)] at hih
          exact Ev.if_neg hr hih
theorem reached_l0 (t : List Nd) (ht : t.length ≤ 255) : ∀ (m a x : Nat), x + m = t.length + 1 → Ev (fun k => dendronlaw08_reached.l0 k t (a : Int) (x : Int)) (climb t m a) := by
  intro m
  induction m with
  | zero =>
    intro a x hx
    refine Ev.succ ?_
    simp only [dendronlaw08_reached.l0]
    exact Ev.if_neg (by omega) (Ev.now _)
  | succ m ih =>
    intro a x hx
    refine Ev.succ ?_
    simp only [dendronlaw08_reached.l0]
    rw [climb]
    refine Ev.if_pos (by omega) ?_
    by_cases h0 : a = 0
    · rw [if_pos h0]
      exact Ev.if_pos (by omega) (Ev.now _)
    · rw [if_neg h0]
      refine Ev.if_neg (by omega) (reached_l1 t a ht (x : Int) _ ?_ t.length 0 (by omega))
      by_cases h1 : upTo t a t.length < 0
      · rw [if_pos h1]
        exact Ev.if_pos h1 (Ev.now _)
      · rw [if_neg h1]
        refine Ev.if_neg h1 ?_
        have hih := ih (upTo t a t.length).toNat (x + 1) (by omega)
        rw [Int.toNat_of_nonneg (by omega)] at hih
        rwa [wr_succ x (by omega)]
theorem reached_ev (t : List Nd) (ht : t.length ≤ 255) (a : Nat) : Ev (fun k => dendronlaw08_reached.f k t (a : Int)) (climb t (t.length + 1) a) := reached_l0 t ht (t.length + 1) a 0 (by omega)
theorem rule0_loop (t : List Nd) (f : Int) (ht : t.length ≤ 255) : ∀ d i : Nat, i + d = t.length → Ev (fun k => dendronlaw08_rule.l0 k t f 0 (i : Int)) (ans 8 (-1) (first (bad0 f t) d i)) := by
  intro d
  induction d with
  | zero =>
    intro i hi
    refine Ev.succ ?_
    simp only [dendronlaw08_rule.l0]
    exact Ev.if_neg (by omega) (Ev.now _)
  | succ d ih =>
    intro i hi
    have hih := ih (i + 1) (by omega)
    refine Ev.succ ?_
    simp only [dendronlaw08_rule.l0, gt_nd, wr_succ i (show i ≤ 1125899906842624 by omega)]
    refine Ev.if_pos (by omega) (Ev.if_pos (nn0 _) ?_)
    have e1 : ¬ okR f t.length (nd t i) → ans 8 (-1) (first (bad0 f t) (d + 1) i) = ((i : Int), 8) := fun h => by rw [first_hit (decide_eq_true h)]; rfl
    have e2 : okR f t.length (nd t i) → first (bad0 f t) d (i + 1) = first (bad0 f t) (d + 1) i := fun h => (first_skip (decide_eq_false (fun h' => h' h))).symm
    refine Ev.if_pos trivial ?_
    by_cases hb : (nd t i).1 = true
    · exact Ev.if_pos hb (hih.of_eq (by rw [e2 (Or.inl hb)]))
    · refine Ev.if_neg hb ?_
      have no : ∀ {c : Prop}, (c → ¬ ((nd t i).2.1 < f ∧ 1 ≤ (nd t i).2.2.2.2.2.1 ∧ (nd t i).2.2.2.2.2.1 < t.length ∧ 1 ≤ (nd t i).2.2.2.2.2.2.1 ∧ (nd t i).2.2.2.2.2.2.1 < t.length)) → c → ¬ okR f t.length (nd t i) := fun h hc ho => h hc (ho.resolve_left hb)
      refine Ev.cut (no fun h => by omega) e1 fun g1 => ?_
      refine Ev.cut (no fun h => by omega) e1 fun g2 => ?_
      refine Ev.cut (no fun h => by omega) e1 fun g3 => ?_
      refine Ev.cut (no fun h => by omega) e1 fun g4 => ?_
      refine Ev.cut (no fun h => by omega) e1 fun g5 => ?_
      exact hih.of_eq (by rw [e2 (Or.inr ⟨by omega, by omega, by omega, by omega, by omega⟩)])
theorem rule0_ev (t : List Nd) (f : Int) (ht : t.length ≤ 255) : Ev (fun k => dendronlaw08_rule.f k t f 0) (ans 8 (-1) (first (bad0 f t) t.length 0)) := rule0_loop t f ht t.length 0 (by omega)
theorem rule1_loop (t : List Nd) (f : Int) (ht : t.length ≤ 255) : ∀ d i : Nat, i + d = t.length → Ev (fun k => dendronlaw08_rule.l0 k t f 1 (i : Int)) (ans 11 (-1) (first (bad1 t) d i)) := by
  intro d
  induction d with
  | zero =>
    intro i hi
    refine Ev.succ ?_
    simp only [dendronlaw08_rule.l0]
    exact Ev.if_neg (by omega) (Ev.now _)
  | succ d ih =>
    intro i hi
    have hih := ih (i + 1) (by omega)
    refine Ev.succ ?_
    simp only [dendronlaw08_rule.l0, gt_nd, wr_succ i (show i ≤ 1125899906842624 by omega)]
    refine Ev.if_pos (by omega) (Ev.if_pos (nn0 _) ?_)
    refine Ev.if_neg (by decide) (Ev.if_pos trivial ?_)
    by_cases hb : bad1 t i = true
    · have hb' := of_decide_eq_true hb
      rw [first_hit hb]
      exact Ev.if_pos (by omega) (Ev.bind (parents_ev t i ht) (Ev.if_pos (by omega) (Ev.now _)))
    · have hb2 : bad1 t i = false := by simpa using hb
      have hb' := of_decide_eq_false hb2
      rw [first_skip hb2]
      by_cases hi0 : i = 0
      · exact Ev.if_neg (by omega) hih
      · exact Ev.if_pos (by omega) (Ev.bind (parents_ev t i ht) (Ev.if_neg (fun e => hb' ⟨by omega, by omega⟩) hih))
theorem rule1_ev (t : List Nd) (f : Int) (ht : t.length ≤ 255) : Ev (fun k => dendronlaw08_rule.f k t f 1) (ans 11 (-1) (first (bad1 t) t.length 0)) := rule1_loop t f ht t.length 0 (by omega)
theorem rule2_loop (t : List Nd) (f : Int) (ht : t.length ≤ 255) : ∀ d i : Nat, i + d = t.length → Ev (fun k => dendronlaw08_rule.l0 k t f 2 (i : Int)) (ans 11 (-1) (first (bad2 t) d i)) := by
  intro d
  induction d with
  | zero =>
    intro i hi
    refine Ev.succ ?_
    simp only [dendronlaw08_rule.l0]
    exact Ev.if_neg (by omega) (Ev.now _)
  | succ d ih =>
    intro i hi
    have hih := ih (i + 1) (by omega)
    refine Ev.succ ?_
    simp only [dendronlaw08_rule.l0, gt_nd, wr_succ i (show i ≤ 1125899906842624 by omega)]
    refine Ev.if_pos (by omega) (Ev.if_pos (nn0 _) ?_)
    refine Ev.if_neg (by decide) (Ev.if_neg (by decide) (Ev.if_pos trivial (Ev.bind (reached_ev t ht i) ?_)))
    by_cases hb : bad2 t i = true
    · have hc : climb t (t.length + 1) i = false := by unfold bad2 at hb; simpa using hb
      rw [first_hit hb]
      exact Ev.if_neg (by simp [hc]) (Ev.now _)
    · have hb2 : bad2 t i = false := by simpa using hb
      have hc : climb t (t.length + 1) i = true := by unfold bad2 at hb2; simpa using hb2
      rw [first_skip hb2]
      exact Ev.if_pos hc hih
theorem rule2_ev (t : List Nd) (f : Int) (ht : t.length ≤ 255) : Ev (fun k => dendronlaw08_rule.f k t f 2) (ans 11 (-1) (first (bad2 t) t.length 0)) := rule2_loop t f ht t.length 0 (by omega)
theorem rule3_loop (t : List Nd) (f : Int) (ht : t.length ≤ 255) (hp : ∀ n ∈ t, NdOk n) : ∀ d i : Nat, i + d = t.length → Ev (fun k => dendronlaw08_rule.l0 k t f 3 (i : Int)) (ans 12 (-1) (first (bad3 t) d i)) := by
  intro d
  induction d with
  | zero =>
    intro i hi
    refine Ev.succ ?_
    simp only [dendronlaw08_rule.l0]
    exact Ev.if_neg (by omega) (Ev.now _)
  | succ d ih =>
    intro i hi
    have hih := ih (i + 1) (by omega)
    refine Ev.succ ?_
    simp only [dendronlaw08_rule.l0, gt_nd, wr_succ i (show i ≤ 1125899906842624 by omega)]
    refine Ev.if_pos (by omega) (Ev.if_pos (nn0 _) ?_)
    have hn := hp _ (nd_mem t i (by omega))
    refine Ev.if_neg (by decide) (Ev.if_neg (by decide) (Ev.if_neg (by decide) (Ev.if_pos trivial (Ev.bind (sign_cn (nd t i).cov hn.2.2.B (by decide)) ?_))))
    by_cases hb : sgn (rv (nd t i).cov).num ≤ 0
    · rw [first_hit (decide_eq_true hb : bad3 t i = true)]
      exact Ev.if_pos hb (Ev.now _)
    · rw [first_skip (decide_eq_false hb : bad3 t i = false)]
      exact Ev.if_neg hb hih
theorem rule3_ev (t : List Nd) (f : Int) (ht : t.length ≤ 255) (hp : ∀ n ∈ t, NdOk n) : Ev (fun k => dendronlaw08_rule.f k t f 3) (ans 12 (-1) (first (bad3 t) t.length 0)) := rule3_loop t f ht hp t.length 0 (by omega)
theorem rule4_loop (t : List Nd) (f : Int) (ht : t.length ≤ 255) (hp : ∀ n ∈ t, NdOk n) (hr : ∀ i, i < t.length → okR f t.length (nd t i)) : ∀ d i : Nat, i + d = t.length → Ev (fun k => dendronlaw08_rule.l0 k t f 4 (i : Int)) (ans 13 (-1) (first (bad4 t) d i)) := by
  intro d
  induction d with
  | zero =>
    intro i hi
    refine Ev.succ ?_
    simp only [dendronlaw08_rule.l0]
    exact Ev.if_neg (by omega) (Ev.now _)
  | succ d ih =>
    intro i hi
    have hih := ih (i + 1) (by omega)
    refine Ev.succ ?_
    simp only [dendronlaw08_rule.l0, gt_nd, wr_succ i (show i ≤ 1125899906842624 by omega)]
    refine Ev.if_pos (by omega) (Ev.if_pos (nn0 _) ?_)
    have hn := hp _ (nd_mem t i (by omega))
    refine Ev.if_neg (by decide) (Ev.if_neg (by decide) (Ev.if_neg (by decide) (Ev.if_neg (by decide) ?_)))
    by_cases hb : (nd t i).1 = true
    · rw [first_skip (decide_eq_false (fun h => h.1 hb) : bad4 t i = false)]
      exact Ev.if_pos hb hih
    · refine Ev.if_neg hb ?_
      obtain ⟨l, r, hl, hr', l1, l2, r1, r2⟩ := kids (hr i (by omega)) hb
      have eb : bad4 t i = decide ((nd t i).1 ≠ true ∧ rv (nd t i).cov ≠ rv (nd t l).cov + rv (nd t r).cov) := by
        unfold bad4
        rw [hl, hr', Int.toNat_natCast, Int.toNat_natCast]
      have hl' : (nd t i).2.2.2.2.2.1 = (l : Int) := hl
      have hr'' : (nd t i).2.2.2.2.2.2.1 = (r : Int) := hr'
      rw [hl', hr'']
      simp only [gt_nd]
      have ol := (hp _ (nd_mem t l l2)).2.2.B
      have or := (hp _ (nd_mem t r r2)).2.2.B
      have za := Sz_add (rv (nd t l).cov) (rv (nd t r).cov)
      have z1 := ol.sz
      have z2 := or.sz
      have hs := same_cn (nd t i).cov (cn (rv (nd t l).cov + rv (nd t r).cov)) hn.2.2.B (cnB _ (Nat.le_refl _)) (by decide) (by omega)
      rw [rv_cn] at hs
      refine Ev.if_pos (nn0 _) (Ev.if_pos (by omega) (Ev.if_pos (nn0 _) (Ev.if_pos (by omega) (Ev.bind (add_cn (nd t l).cov (nd t r).cov ol or (by decide)) (Ev.bind hs ?_)))))
      by_cases he : rv (nd t i).cov = rv (nd t l).cov + rv (nd t r).cov
      · rw [first_skip (show bad4 t i = false by rw [eb]; exact decide_eq_false fun h => h.2 he)]
        exact Ev.if_pos (decide_eq_true he) hih
      · rw [first_hit (show bad4 t i = true by rw [eb]; exact decide_eq_true ⟨hb, he⟩)]
        exact Ev.if_neg (by simp [he]) (Ev.now _)
theorem rule4_ev (t : List Nd) (f : Int) (ht : t.length ≤ 255) (hp : ∀ n ∈ t, NdOk n) (hr : ∀ i, i < t.length → okR f t.length (nd t i)) : Ev (fun k => dendronlaw08_rule.f k t f 4) (ans 13 (-1) (first (bad4 t) t.length 0)) := rule4_loop t f ht hp hr t.length 0 (by omega)
def firstT (g : List Nd → Option Nat) (e : Int) : List (List Nd) → Nat → Option (Int × Int × Int × Int)
  | [], _ => none
  | t :: ts, i => match g t with
    | some j => some (e, 0, (i : Int), (j : Int))
    | none => firstT g e ts (i + 1)
theorem firstT_some {g : List Nd → Option Nat} {e : Int} {t : List Nd} {ts : List (List Nd)} {i j : Nat} (h : g t = some j) : firstT g e (t :: ts) i = some (e, 0, (i : Int), (j : Int)) := by rw [firstT, h]
theorem firstT_next {g : List Nd → Option Nat} {e : Int} {t : List Nd} {ts : List (List Nd)} {i : Nat} (h : g t = none) : firstT g e (t :: ts) i = firstT g e ts (i + 1) := by rw [firstT, h]
theorem firstT_none {g : List Nd → Option Nat} {e : Int} : ∀ {ts : List (List Nd)} {i : Nat}, firstT g e ts i = none → ∀ t ∈ ts, g t = none
  | [], _, _, t, ht => by cases ht
  | s :: ts, i, h, t, ht => by
    cases hg : g s with
    | some j => rw [firstT_some hg] at h; cases h
    | none =>
      rw [firstT_next hg] at h
      rcases List.mem_cons.1 ht with rfl | ht
      · exact hg
      · exact firstT_none h t ht
def C3 (ts : List (List Nd)) : Int × Int × Int × Int := (firstT A3 13 ts 0).getD (0, 0, 0, 0)
def C2 (ts : List (List Nd)) : Int × Int × Int × Int := (firstT A2 12 ts 0).getD (C3 ts)
def C1 (ts : List (List Nd)) : Int × Int × Int × Int := (firstT A1 11 ts 0).getD (C2 ts)
def checkA (f : Int) (ts : List (List Nd)) : Int × Int × Int × Int := (firstT (A0 f) 8 ts 0).getD (C1 ts)
def checkF (f : Int) (ts : List (List Nd)) : Int × Int × Int × Int := if fitM f ts then checkA f ts else (1, 0, 0, 0)
theorem chk_l1_0 (f : Int) (ts : List (List Nd)) (hts : ts.length ≤ 64) (R : Int × Int × Int × Int) (hg : ∀ t ∈ ts, Ev (fun k => valid_ranges.f k t f) (ans 8 0 (A0 f t)))
    (hend : (∀ t ∈ ts, A0 f t = none) → Ev (fun k => valid_Check.l0 k 1 f ts 0 0 0 0) R) : ∀ (b a : List (List Nd)), ts = a ++ b → (∀ t ∈ a, A0 f t = none) →
    Ev (fun k => valid_Check.l1 k 0 0 ts (ts.length : Int) (a.length : Int) f ts 0 0 0 0) ((firstT (A0 f) 8 b a.length).getD R) := by
  intro b
  induction b with
  | nil =>
    intro a hr ha
    rw [List.append_nil] at hr
    subst hr
    have w1 : wrap64 (0 + 1) = 1 := by rw [wrap_id (by decide) (by decide)]; rfl
    refine Ev.succ ?_
    simp only [valid_Check.l1, w1]
    exact Ev.if_neg (by omega) (hend ha)
  | cons t b ih =>
    intro a hr ha
    have e1 := gt_at [] a t b
    have l1 := lt_at a t b
    rw [← hr] at e1 l1
    have hl : ts.length = a.length + (b.length + 1) := by rw [hr, List.length_append, List.length_cons]
    have h1 := hg t (by rw [hr]; simp)
    refine Ev.succ ?_
    simp only [valid_Check.l1, e1, wr_at a t (show a.length ≤ 1125899906842624 by omega)]
    refine Ev.if_pos l1 (Ev.if_pos (nn0 _) (Ev.if_pos l1 (Ev.if_pos trivial (Ev.bind h1 ?_))))
    cases hx : A0 f t with
    | some j =>
      rw [firstT_some hx]
      exact Ev.if_pos (show (8 : Int) ≠ 0 by decide) (Ev.bind (Ev.now _) (Ev.now _))
    | none =>
      rw [firstT_next hx]
      have hih := ih (a ++ [t]) (by rw [hr]; simp) (fun s hs => by
        rcases List.mem_append.1 hs with h | h
        · exact ha s h
        · rw [List.mem_singleton.1 h]; exact hx)
      rw [List.length_append, List.length_singleton] at hih ⊢
      exact Ev.if_neg (fun h => h rfl) hih
theorem chk_l1_1 (f : Int) (ts : List (List Nd)) (hts : ts.length ≤ 64) (R : Int × Int × Int × Int) (hg : ∀ t ∈ ts, Ev (fun k => valid_shape.f k t) (ans 11 0 (A1 t)))
    (hend : (∀ t ∈ ts, A1 t = none) → Ev (fun k => valid_Check.l0 k 2 f ts 0 0 0 0) R) : ∀ (b a : List (List Nd)), ts = a ++ b → (∀ t ∈ a, A1 t = none) →
    Ev (fun k => valid_Check.l1 k 1 1 ts (ts.length : Int) (a.length : Int) f ts 0 0 0 0) ((firstT (A1) 11 b a.length).getD R) := by
  intro b
  induction b with
  | nil =>
    intro a hr ha
    rw [List.append_nil] at hr
    subst hr
    have w1 : wrap64 (1 + 1) = 2 := by rw [wrap_id (by decide) (by decide)]; rfl
    refine Ev.succ ?_
    simp only [valid_Check.l1, w1]
    exact Ev.if_neg (by omega) (hend ha)
  | cons t b ih =>
    intro a hr ha
    have e1 := gt_at [] a t b
    have l1 := lt_at a t b
    rw [← hr] at e1 l1
    have hl : ts.length = a.length + (b.length + 1) := by rw [hr, List.length_append, List.length_cons]
    have h1 := hg t (by rw [hr]; simp)
    refine Ev.succ ?_
    simp only [valid_Check.l1, e1, wr_at a t (show a.length ≤ 1125899906842624 by omega)]
    refine Ev.if_pos l1 (Ev.if_pos (nn0 _) (Ev.if_pos l1 (Ev.if_neg (by decide) (Ev.if_pos trivial (Ev.bind h1 ?_)))))
    cases hx : A1 t with
    | some j =>
      rw [firstT_some hx]
      exact Ev.if_pos (show (11 : Int) ≠ 0 by decide) (Ev.bind (Ev.now _) (Ev.now _))
    | none =>
      rw [firstT_next hx]
      have hih := ih (a ++ [t]) (by rw [hr]; simp) (fun s hs => by
        rcases List.mem_append.1 hs with h | h
        · exact ha s h
        · rw [List.mem_singleton.1 h]; exact hx)
      rw [List.length_append, List.length_singleton] at hih ⊢
      exact Ev.if_neg (fun h => h rfl) hih
theorem chk_l1_2 (f : Int) (ts : List (List Nd)) (hts : ts.length ≤ 64) (R : Int × Int × Int × Int) (hg : ∀ t ∈ ts, Ev (fun k => valid_covers.f k t) (ans 12 0 (A2 t)))
    (hend : (∀ t ∈ ts, A2 t = none) → Ev (fun k => valid_Check.l0 k 3 f ts 0 0 0 0) R) : ∀ (b a : List (List Nd)), ts = a ++ b → (∀ t ∈ a, A2 t = none) →
    Ev (fun k => valid_Check.l1 k 2 2 ts (ts.length : Int) (a.length : Int) f ts 0 0 0 0) ((firstT (A2) 12 b a.length).getD R) := by
  intro b
  induction b with
  | nil =>
    intro a hr ha
    rw [List.append_nil] at hr
    subst hr
    have w1 : wrap64 (2 + 1) = 3 := by rw [wrap_id (by decide) (by decide)]; rfl
    refine Ev.succ ?_
    simp only [valid_Check.l1, w1]
    exact Ev.if_neg (by omega) (hend ha)
  | cons t b ih =>
    intro a hr ha
    have e1 := gt_at [] a t b
    have l1 := lt_at a t b
    rw [← hr] at e1 l1
    have hl : ts.length = a.length + (b.length + 1) := by rw [hr, List.length_append, List.length_cons]
    have h1 := hg t (by rw [hr]; simp)
    refine Ev.succ ?_
    simp only [valid_Check.l1, e1, wr_at a t (show a.length ≤ 1125899906842624 by omega)]
    refine Ev.if_pos l1 (Ev.if_pos (nn0 _) (Ev.if_pos l1 (Ev.if_neg (by decide) (Ev.if_neg (by decide) (Ev.if_pos trivial (Ev.bind h1 ?_))))))
    cases hx : A2 t with
    | some j =>
      rw [firstT_some hx]
      exact Ev.if_pos (show (12 : Int) ≠ 0 by decide) (Ev.bind (Ev.now _) (Ev.now _))
    | none =>
      rw [firstT_next hx]
      have hih := ih (a ++ [t]) (by rw [hr]; simp) (fun s hs => by
        rcases List.mem_append.1 hs with h | h
        · exact ha s h
        · rw [List.mem_singleton.1 h]; exact hx)
      rw [List.length_append, List.length_singleton] at hih ⊢
      exact Ev.if_neg (fun h => h rfl) hih
theorem chk_l1_3 (f : Int) (ts : List (List Nd)) (hts : ts.length ≤ 64) (R : Int × Int × Int × Int) (hg : ∀ t ∈ ts, Ev (fun k => valid_sums.f k t) (ans 13 0 (A3 t)))
    (hend : (∀ t ∈ ts, A3 t = none) → Ev (fun k => valid_Check.l0 k 4 f ts 0 0 0 0) R) : ∀ (b a : List (List Nd)), ts = a ++ b → (∀ t ∈ a, A3 t = none) →
    Ev (fun k => valid_Check.l1 k 3 3 ts (ts.length : Int) (a.length : Int) f ts 0 0 0 0) ((firstT (A3) 13 b a.length).getD R) := by
  intro b
  induction b with
  | nil =>
    intro a hr ha
    rw [List.append_nil] at hr
    subst hr
    have w1 : wrap64 (3 + 1) = 4 := by rw [wrap_id (by decide) (by decide)]; rfl
    refine Ev.succ ?_
    simp only [valid_Check.l1, w1]
    exact Ev.if_neg (by omega) (hend ha)
  | cons t b ih =>
    intro a hr ha
    have e1 := gt_at [] a t b
    have l1 := lt_at a t b
    rw [← hr] at e1 l1
    have hl : ts.length = a.length + (b.length + 1) := by rw [hr, List.length_append, List.length_cons]
    have h1 := hg t (by rw [hr]; simp)
    refine Ev.succ ?_
    simp only [valid_Check.l1, e1, wr_at a t (show a.length ≤ 1125899906842624 by omega)]
    refine Ev.if_pos l1 (Ev.if_pos (nn0 _) (Ev.if_pos l1 (Ev.if_neg (by decide) (Ev.if_neg (by decide) (Ev.if_neg (by decide) (Ev.if_pos trivial (Ev.bind h1 ?_)))))))
    cases hx : A3 t with
    | some j =>
      rw [firstT_some hx]
      exact Ev.if_pos (show (13 : Int) ≠ 0 by decide) (Ev.bind (Ev.now _) (Ev.now _))
    | none =>
      rw [firstT_next hx]
      have hih := ih (a ++ [t]) (by rw [hr]; simp) (fun s hs => by
        rcases List.mem_append.1 hs with h | h
        · exact ha s h
        · rw [List.mem_singleton.1 h]; exact hx)
      rw [List.length_append, List.length_singleton] at hih ⊢
      exact Ev.if_neg (fun h => h rfl) hih
theorem check_ev (f : Int) (ts : List (List Nd)) (hp : ∀ t ∈ ts, ∀ n ∈ t, NdOk n) : Ev (fun k => valid_Check.f k f ts) (checkF f ts) := by
  unfold valid_Check.f checkF
  refine Ev.bind (fits_ev f ts) ?_
  by_cases hf : fitM f ts
  · rw [if_pos hf]
    refine Ev.if_pos (decide_eq_true hf) ?_
    obtain ⟨g1, g2, g3, g4⟩ := hf
    have c4 : Ev (fun k => valid_Check.l0 k 4 f ts 0 0 0 0) (0, 0, 0, 0) := by
      refine Ev.succ ?_
      simp only [valid_Check.l0]
      exact Ev.if_neg (by decide) (Ev.now _)
    have c3 : (∀ t ∈ ts, A0 f t = none) → Ev (fun k => valid_Check.l0 k 3 f ts 0 0 0 0) (C3 ts) := fun h0 => by
      refine Ev.succ ?_
      simp only [valid_Check.l0]
      exact Ev.if_pos (by decide) (chk_l1_3 f ts g3 _ (fun t ht => sums_ev f t (g4 t ht).2.1 (hp t ht) (A0_rng (h0 t ht))) (fun _ => c4) ts [] rfl (fun t ht => by cases ht))
    have c2 : (∀ t ∈ ts, A0 f t = none) → Ev (fun k => valid_Check.l0 k 2 f ts 0 0 0 0) (C2 ts) := fun h0 => by
      refine Ev.succ ?_
      simp only [valid_Check.l0]
      exact Ev.if_pos (by decide) (chk_l1_2 f ts g3 _ (fun t ht => covers_ev t (g4 t ht).2.1 (hp t ht)) (fun _ => c3 h0) ts [] rfl (fun t ht => by cases ht))
    have c1 : (∀ t ∈ ts, A0 f t = none) → Ev (fun k => valid_Check.l0 k 1 f ts 0 0 0 0) (C1 ts) := fun h0 => by
      refine Ev.succ ?_
      simp only [valid_Check.l0]
      exact Ev.if_pos (by decide) (chk_l1_1 f ts g3 _ (fun t ht => shape_ev f t (g4 t ht).2.1 (g4 t ht).1 (A0_rng (h0 t ht))) (fun _ => c2 h0) ts [] rfl (fun t ht => by cases ht))
    refine Ev.succ ?_
    simp only [valid_Check.l0]
    exact Ev.if_pos (by decide) (chk_l1_0 f ts g3 _ (fun t ht => ranges_ev t f (g4 t ht).2.1 (g4 t ht).2.2) c1 ts [] rfl (fun t ht => by cases ht))
  · rw [if_neg hf]
    exact Ev.if_neg (by simp [hf]) (Ev.now _)
abbrev ord : List (List Int) := [[0], [1, 2], [3], [4]]
theorem lchk_l1_0 (f : Int) (ts : List (List Nd)) (hts : ts.length ≤ 64) (hlen : ∀ t ∈ ts, t.length ≤ 255) (R : Int × Int × Int × Int)
    (hend : (∀ t ∈ ts, A0 f t = none) → Ev (fun k => dendronlaw08_check.l0 k ord 1 f ts 0 0 0 0) R) : ∀ (b a : List (List Nd)), ts = a ++ b → (∀ t ∈ a, A0 f t = none) →
    Ev (fun k => dendronlaw08_check.l1 k ord 0 (a.length : Int) f ts 0 0 0 0) ((firstT (A0 f) 8 b a.length).getD R) := by
  intro b
  induction b with
  | nil =>
    intro a hr ha
    rw [List.append_nil] at hr
    subst hr
    have w1 : wrap64 (0 + 1) = 1 := by rw [wrap_id (by decide) (by decide)]; rfl
    refine Ev.succ ?_
    simp only [dendronlaw08_check.l1, w1]
    exact Ev.if_neg (by omega) (hend ha)
  | cons t b ih =>
    intro a hr ha
    have e1 := gt_at [] a t b
    have l1 := lt_at a t b
    rw [← hr] at e1 l1
    have hl : ts.length = a.length + (b.length + 1) := by rw [hr, List.length_append, List.length_cons]
    have r1 : Ev (fun k => dendronlaw08_rule.f k t f 0) (ans 8 (-1) (A0 f t)) := rule0_ev t f (hlen t (by rw [hr]; simp))
    refine Ev.succ ?_
    simp only [dendronlaw08_check.l1]
    refine Ev.if_pos l1 (Ev.succ ?_)
    simp only [dendronlaw08_check.l2, e1]
    refine Ev.if_pos (by decide) (Ev.if_pos (by decide) (Ev.if_pos (by decide) (Ev.if_pos (nn0 _) (Ev.if_pos l1 (Ev.if_pos (by decide) (Ev.bind r1 ?_))))))
    cases hx : A0 f t with
    | some j =>
      rw [firstT_some hx]
      exact Ev.if_pos (show (8 : Int) ≠ 0 by decide) (Ev.now _)
    | none =>
      rw [firstT_next hx]
      have hih := ih (a ++ [t]) (by rw [hr]; simp) (fun s hs => by
        rcases List.mem_append.1 hs with h | h
        · exact ha s h
        · rw [List.mem_singleton.1 h]; exact hx)
      rw [List.length_append, List.length_singleton] at hih
      have w1 : wrap64 (0 + 1) = 1 := by rw [wrap_id (by decide) (by decide)]; rfl
      rw [w1]
      refine Ev.if_neg (fun h => h rfl) (Ev.succ ?_)
      simp only [dendronlaw08_check.l2, wr_succ a.length (show a.length ≤ 1125899906842624 by omega)]
      exact Ev.if_pos (by decide) (Ev.if_pos (by decide) (Ev.if_neg (by decide) hih))
theorem lchk_l1_1 (f : Int) (ts : List (List Nd)) (hts : ts.length ≤ 64) (hlen : ∀ t ∈ ts, t.length ≤ 255) (R : Int × Int × Int × Int)
    (hend : (∀ t ∈ ts, A1 t = none) → Ev (fun k => dendronlaw08_check.l0 k ord 2 f ts 0 0 0 0) R) : ∀ (b a : List (List Nd)), ts = a ++ b → (∀ t ∈ a, A1 t = none) →
    Ev (fun k => dendronlaw08_check.l1 k ord 1 (a.length : Int) f ts 0 0 0 0) ((firstT (A1) 11 b a.length).getD R) := by
  intro b
  induction b with
  | nil =>
    intro a hr ha
    rw [List.append_nil] at hr
    subst hr
    have w1 : wrap64 (1 + 1) = 2 := by rw [wrap_id (by decide) (by decide)]; rfl
    refine Ev.succ ?_
    simp only [dendronlaw08_check.l1, w1]
    exact Ev.if_neg (by omega) (hend ha)
  | cons t b ih =>
    intro a hr ha
    have e1 := gt_at [] a t b
    have l1 := lt_at a t b
    rw [← hr] at e1 l1
    have hl : ts.length = a.length + (b.length + 1) := by rw [hr, List.length_append, List.length_cons]
    have r1 := rule1_ev t f (hlen t (by rw [hr]; simp))
    have r2 := rule2_ev t f (hlen t (by rw [hr]; simp))
    have hA : A1 t = (first (bad1 t) t.length 0).or (first (bad2 t) t.length 0) := rfl
    have hnext : A1 t = none → Ev (fun k => dendronlaw08_check.l2 k ord 1 (a.length : Int) 2 f ts 0 0 0 0) ((firstT A1 11 b (a.length + 1)).getD R) := fun hx => by
      have hih := ih (a ++ [t]) (by rw [hr]; simp) (fun s hs => by
        rcases List.mem_append.1 hs with h | h
        · exact ha s h
        · rw [List.mem_singleton.1 h]; exact hx)
      rw [List.length_append, List.length_singleton] at hih
      refine Ev.succ ?_
      simp only [dendronlaw08_check.l2, wr_succ a.length (show a.length ≤ 1125899906842624 by omega)]
      exact Ev.if_pos (by decide) (Ev.if_pos (by decide) (Ev.if_neg (by decide) hih))
    refine Ev.succ ?_
    simp only [dendronlaw08_check.l1]
    refine Ev.if_pos l1 (Ev.succ ?_)
    simp only [dendronlaw08_check.l2, e1]
    refine Ev.if_pos (by decide) (Ev.if_pos (by decide) (Ev.if_pos (by decide) (Ev.if_pos (nn0 _) (Ev.if_pos l1 (Ev.if_pos (by decide) (Ev.bind r1 ?_))))))
    cases hx : first (bad1 t) t.length 0 with
    | some j =>
      rw [firstT_some (show A1 t = some j by rw [hA, hx]; rfl)]
      exact Ev.if_pos (show (11 : Int) ≠ 0 by decide) (Ev.now _)
    | none =>
      have w1 : wrap64 (0 + 1) = 1 := by rw [wrap_id (by decide) (by decide)]; rfl
      have w2 : wrap64 (1 + 1) = 2 := by rw [wrap_id (by decide) (by decide)]; rfl
      rw [w1]
      refine Ev.if_neg (fun h => h rfl) (Ev.succ ?_)
      simp only [dendronlaw08_check.l2, e1, w2]
      refine Ev.if_pos (by decide) (Ev.if_pos (by decide) (Ev.if_pos (by decide) (Ev.if_pos (nn0 _) (Ev.if_pos l1 (Ev.if_pos (by decide) (Ev.bind r2 ?_))))))
      cases hy : first (bad2 t) t.length 0 with
      | some j =>
        rw [firstT_some (show A1 t = some j by rw [hA, hx, hy]; rfl)]
        exact Ev.if_pos (show (11 : Int) ≠ 0 by decide) (Ev.now _)
      | none =>
        have hn : A1 t = none := by rw [hA, hx, hy]; rfl
        rw [firstT_next hn]
        exact Ev.if_neg (fun h => h rfl) (hnext hn)
theorem lchk_l1_2 (f : Int) (ts : List (List Nd)) (hts : ts.length ≤ 64) (hlen : ∀ t ∈ ts, t.length ≤ 255) (hp : ∀ t ∈ ts, ∀ n ∈ t, NdOk n) (R : Int × Int × Int × Int)
    (hend : (∀ t ∈ ts, A2 t = none) → Ev (fun k => dendronlaw08_check.l0 k ord 3 f ts 0 0 0 0) R) : ∀ (b a : List (List Nd)), ts = a ++ b → (∀ t ∈ a, A2 t = none) →
    Ev (fun k => dendronlaw08_check.l1 k ord 2 (a.length : Int) f ts 0 0 0 0) ((firstT (A2) 12 b a.length).getD R) := by
  intro b
  induction b with
  | nil =>
    intro a hr ha
    rw [List.append_nil] at hr
    subst hr
    have w1 : wrap64 (2 + 1) = 3 := by rw [wrap_id (by decide) (by decide)]; rfl
    refine Ev.succ ?_
    simp only [dendronlaw08_check.l1, w1]
    exact Ev.if_neg (by omega) (hend ha)
  | cons t b ih =>
    intro a hr ha
    have e1 := gt_at [] a t b
    have l1 := lt_at a t b
    rw [← hr] at e1 l1
    have hl : ts.length = a.length + (b.length + 1) := by rw [hr, List.length_append, List.length_cons]
    have r1 : Ev (fun k => dendronlaw08_rule.f k t f 3) (ans 12 (-1) (A2 t)) := rule3_ev t f (hlen t (by rw [hr]; simp)) (hp t (by rw [hr]; simp))
    refine Ev.succ ?_
    simp only [dendronlaw08_check.l1]
    refine Ev.if_pos l1 (Ev.succ ?_)
    simp only [dendronlaw08_check.l2, e1]
    refine Ev.if_pos (by decide) (Ev.if_pos (by decide) (Ev.if_pos (by decide) (Ev.if_pos (nn0 _) (Ev.if_pos l1 (Ev.if_pos (by decide) (Ev.bind r1 ?_))))))
    cases hx : A2 t with
    | some j =>
      rw [firstT_some hx]
      exact Ev.if_pos (show (12 : Int) ≠ 0 by decide) (Ev.now _)
    | none =>
      rw [firstT_next hx]
      have hih := ih (a ++ [t]) (by rw [hr]; simp) (fun s hs => by
        rcases List.mem_append.1 hs with h | h
        · exact ha s h
        · rw [List.mem_singleton.1 h]; exact hx)
      rw [List.length_append, List.length_singleton] at hih
      have w1 : wrap64 (0 + 1) = 1 := by rw [wrap_id (by decide) (by decide)]; rfl
      rw [w1]
      refine Ev.if_neg (fun h => h rfl) (Ev.succ ?_)
      simp only [dendronlaw08_check.l2, wr_succ a.length (show a.length ≤ 1125899906842624 by omega)]
      exact Ev.if_pos (by decide) (Ev.if_pos (by decide) (Ev.if_neg (by decide) hih))
theorem lchk_l1_3 (f : Int) (ts : List (List Nd)) (hts : ts.length ≤ 64) (hlen : ∀ t ∈ ts, t.length ≤ 255) (hp : ∀ t ∈ ts, ∀ n ∈ t, NdOk n) (hrg : ∀ t ∈ ts, ∀ i, i < t.length → okR f t.length (nd t i)) (R : Int × Int × Int × Int)
    (hend : (∀ t ∈ ts, A3 t = none) → Ev (fun k => dendronlaw08_check.l0 k ord 4 f ts 0 0 0 0) R) : ∀ (b a : List (List Nd)), ts = a ++ b → (∀ t ∈ a, A3 t = none) →
    Ev (fun k => dendronlaw08_check.l1 k ord 3 (a.length : Int) f ts 0 0 0 0) ((firstT (A3) 13 b a.length).getD R) := by
  intro b
  induction b with
  | nil =>
    intro a hr ha
    rw [List.append_nil] at hr
    subst hr
    have w1 : wrap64 (3 + 1) = 4 := by rw [wrap_id (by decide) (by decide)]; rfl
    refine Ev.succ ?_
    simp only [dendronlaw08_check.l1, w1]
    exact Ev.if_neg (by omega) (hend ha)
  | cons t b ih =>
    intro a hr ha
    have e1 := gt_at [] a t b
    have l1 := lt_at a t b
    rw [← hr] at e1 l1
    have hl : ts.length = a.length + (b.length + 1) := by rw [hr, List.length_append, List.length_cons]
    have r1 : Ev (fun k => dendronlaw08_rule.f k t f 4) (ans 13 (-1) (A3 t)) := rule4_ev t f (hlen t (by rw [hr]; simp)) (hp t (by rw [hr]; simp)) (hrg t (by rw [hr]; simp))
    refine Ev.succ ?_
    simp only [dendronlaw08_check.l1]
    refine Ev.if_pos l1 (Ev.succ ?_)
    simp only [dendronlaw08_check.l2, e1]
    refine Ev.if_pos (by decide) (Ev.if_pos (by decide) (Ev.if_pos (by decide) (Ev.if_pos (nn0 _) (Ev.if_pos l1 (Ev.if_pos (by decide) (Ev.bind r1 ?_))))))
    cases hx : A3 t with
    | some j =>
      rw [firstT_some hx]
      exact Ev.if_pos (show (13 : Int) ≠ 0 by decide) (Ev.now _)
    | none =>
      rw [firstT_next hx]
      have hih := ih (a ++ [t]) (by rw [hr]; simp) (fun s hs => by
        rcases List.mem_append.1 hs with h | h
        · exact ha s h
        · rw [List.mem_singleton.1 h]; exact hx)
      rw [List.length_append, List.length_singleton] at hih
      have w1 : wrap64 (0 + 1) = 1 := by rw [wrap_id (by decide) (by decide)]; rfl
      rw [w1]
      refine Ev.if_neg (fun h => h rfl) (Ev.succ ?_)
      simp only [dendronlaw08_check.l2, wr_succ a.length (show a.length ≤ 1125899906842624 by omega)]
      exact Ev.if_pos (by decide) (Ev.if_pos (by decide) (Ev.if_neg (by decide) hih))
theorem lcheck_ev (f : Int) (ts : List (List Nd)) (hp : ∀ t ∈ ts, ∀ n ∈ t, NdOk n) : Ev (fun k => dendronlaw08_check.f k f ts) (checkF f ts) := by
  unfold dendronlaw08_check.f checkF
  refine Ev.bind (fits_ev f ts) ?_
  by_cases hf : fitM f ts
  · rw [if_pos hf]
    refine Ev.if_pos (decide_eq_true hf) ?_
    obtain ⟨g1, g2, g3, g4⟩ := hf
    have hlen : ∀ t ∈ ts, t.length ≤ 255 := fun t ht => (g4 t ht).2.1
    have c4 : Ev (fun k => dendronlaw08_check.l0 k ord 4 f ts 0 0 0 0) (0, 0, 0, 0) := by
      refine Ev.succ ?_
      simp only [dendronlaw08_check.l0]
      exact Ev.if_neg (by decide) (Ev.now _)
    have c3 : (∀ t ∈ ts, A0 f t = none) → Ev (fun k => dendronlaw08_check.l0 k ord 3 f ts 0 0 0 0) (C3 ts) := fun h0 => by
      refine Ev.succ ?_
      simp only [dendronlaw08_check.l0]
      exact Ev.if_pos (by decide) (lchk_l1_3 f ts g3 hlen hp (fun t ht => A0_rng (h0 t ht)) _ (fun _ => c4) ts [] rfl (fun t ht => by cases ht))
    have c2 : (∀ t ∈ ts, A0 f t = none) → Ev (fun k => dendronlaw08_check.l0 k ord 2 f ts 0 0 0 0) (C2 ts) := fun h0 => by
      refine Ev.succ ?_
      simp only [dendronlaw08_check.l0]
      exact Ev.if_pos (by decide) (lchk_l1_2 f ts g3 hlen hp _ (fun _ => c3 h0) ts [] rfl (fun t ht => by cases ht))
    have c1 : (∀ t ∈ ts, A0 f t = none) → Ev (fun k => dendronlaw08_check.l0 k ord 1 f ts 0 0 0 0) (C1 ts) := fun h0 => by
      refine Ev.succ ?_
      simp only [dendronlaw08_check.l0]
      exact Ev.if_pos (by decide) (lchk_l1_1 f ts g3 hlen _ (fun _ => c2 h0) ts [] rfl (fun t ht => by cases ht))
    refine Ev.succ ?_
    simp only [dendronlaw08_check.l0]
    exact Ev.if_pos (by decide) (lchk_l1_0 f ts g3 hlen _ c1 ts [] rfl (fun t ht => by cases ht))
  · rw [if_neg hf]
    exact Ev.if_neg (by simp [hf]) (Ev.now _)
end Go.DI.Th
namespace Go.DI.Th
open Go Go.RowKit Go.DI

theorem firstT_code {g : List Nd → Option Nat} {e : Int} : ∀ {ts : List (List Nd)} {i : Nat} {x : Int × Int × Int × Int}, firstT g e ts i = some x → x.1 = e
  | [], _, _, h => by cases h
  | s :: ts, i, x, h => by
    cases hg : g s with
    | some j => rw [firstT_some hg] at h; exact (Option.some.inj h) ▸ rfl
    | none => rw [firstT_next hg] at h; exact firstT_code h
theorem code_getD {g : List Nd → Option Nat} {e : Int} {ts : List (List Nd)} {i : Nat} {R : Int × Int × Int × Int} (he : e ≠ 0) (hR : R.1 = 0 → R = (0, 0, 0, 0)) : ((firstT g e ts i).getD R).1 = 0 → (firstT g e ts i).getD R = (0, 0, 0, 0) := by
  intro h
  cases hx : firstT g e ts i with
  | some x =>
    rw [hx] at h
    exact absurd ((firstT_code hx).symm.trans h) he
  | none =>
    rw [hx] at h
    exact hR h
theorem checkF_zero (f : Int) (ts : List (List Nd)) : (checkF f ts).1 = 0 → checkF f ts = (0, 0, 0, 0) := by
  unfold checkF
  split
  · unfold checkA C1 C2 C3
    exact code_getD (by decide) (code_getD (by decide) (code_getD (by decide) (code_getD (by decide) fun _ => rfl)))
  · intro h; cases h
theorem ok_eq (f : Int) (ts : List (List Nd)) : (((checkF f ts).1 == 0) && (((checkF f ts).2.1 == 0) && (((checkF f ts).2.2.1 == 0) && (((checkF f ts).2.2.2 == 0) && true)))) = ((checkF f ts).1 == 0) := by
  by_cases h : (checkF f ts).1 = 0
  · rw [checkF_zero f ts h]; rfl
  · have : ((checkF f ts).1 == 0) = false := beq_false_of_ne h
    rw [this]; rfl
theorem ok_ev (f : Int) (ts : List (List Nd)) (hp : ∀ t ∈ ts, ∀ n ∈ t, NdOk n) : Ev (fun k => valid_Ok.f k f ts) ((checkF f ts).1 == 0) := by
  unfold valid_Ok.f
  refine Ev.bind (check_ev f ts hp) ((Ev.now _).of_eq (ok_eq f ts))
def one8 : Rt := (false, [1], [1])
theorem one_ev : Ev (fun k => ratio_One.f k) one8 := by
  unfold ratio_One.f
  have h := rof_ev 1 (by decide) (by decide)
  have e : ((wl 1).1, (wl 1).2, lm 1) = one8 := by
    unfold wl one8
    rw [show (1 : Int).natAbs = 1 from rfl, lm_one (by decide) (by decide)]
    rfl
  rw [e] at h
  exact Ev.bind h (Ev.now _)
def awakeT : List Nd := [(false, 0, false, [], [], 1, 1, false, false, [], [], false, [1], [1]), (true, 0, false, [], [], 0, 0, false, false, [], [], false, [1], [1])]
theorem one8_ok : RtOk one8 := ⟨fun x hx => (by rw [List.mem_singleton.1 hx]; decide), fun x hx => (by rw [List.mem_singleton.1 hx]; decide), by decide, by decide⟩
theorem nil_ok : RtOk (false, [], []) := ⟨fun x hx => (by cases hx), fun x hx => (by cases hx), by decide, by decide⟩
theorem awakeT_ok : ∀ n ∈ awakeT, NdOk n := by
  intro n hn
  unfold awakeT at hn
  rcases List.mem_cons.1 hn with rfl | hn
  · exact ⟨nil_ok, nil_ok, one8_ok⟩
  · rw [List.mem_singleton.1 hn]
    exact ⟨nil_ok, nil_ok, one8_ok⟩
theorem awake08_ev : Ev (fun k => dendronlaw08_awake.f k) true := by
  unfold dendronlaw08_awake.f
  refine Ev.bind one_ev ?_
  have hc := check_ev 1 [awakeT] (fun t ht => by rw [List.mem_singleton.1 ht]; exact awakeT_ok)
  have e : checkF 1 [awakeT] = (11, 0, 0, 1) := by
    unfold checkF
    rw [if_pos (by decide)]
    unfold checkA
    have h0 : firstT (A0 1) 8 [awakeT] 0 = none := by decide +kernel
    have h1 : firstT A1 11 [awakeT] 0 = some (11, 0, 0, 1) := by decide +kernel
    unfold C1
    rw [h0, h1]
    rfl
  rw [e] at hc
  have ho := ok_ev 0 [] (fun t ht => by cases ht)
  have e2 : ((checkF 0 []).1 == 0) = true := by decide +kernel
  rw [e2] at ho
  exact Ev.bind hc (Ev.if_pos rfl (Ev.bind ho (Ev.now _)))
theorem num4_rt (r : Rt) (h : U r.2.1 ∧ U r.2.2) : RtOk (num4 r) := by
  have a1 : (r.2.1.take 4).length ≤ 4 := by rw [List.length_take]; omega
  have a2 : (r.2.2.take 4).length ≤ 4 := by rw [List.length_take]; omega
  exact ⟨U.take' h.1 4, U.take' h.2 4, Nat.le_trans a1 (by decide), Nat.le_trans a2 (by decide)⟩
theorem few7_nd (ts : List (List Nd)) (h : ∀ t ∈ ts, ∀ n ∈ t, NdW n) : ∀ t ∈ few7 ts, ∀ n ∈ t, NdOk n := by
  intro t ht n hn
  unfold few7 at ht
  obtain ⟨t', ht', rfl⟩ := List.mem_map.1 ht
  unfold tree4 at hn
  obtain ⟨m, hm, rfl⟩ := List.mem_map.1 hn
  have w := h t' (List.mem_of_mem_take ht') m (List.mem_of_mem_take hm)
  exact ⟨num4_rt m.cut w.1, num4_rt m.val w.2.1, num4_rt m.cov w.2.2⟩
end Go.DI.Th
namespace Go.DI.Th
open Go Go.RowKit Go.DI

inductive BT where
  | leaf (i : Nat)
  | node (i : Nat) (l r : BT)
def BT.root : BT → Nat
  | .leaf i => i
  | .node i _ _ => i
def BT.size : BT → Nat
  | .leaf _ => 1
  | .node _ l r => 1 + l.size + r.size
def Says (t : List Nd) : BT → Prop
  | .leaf i => i < t.length ∧ (nd t i).1 = true
  | .node i l r => i < t.length ∧ (nd t i).1 ≠ true ∧ (nd t i).2.2.2.2.2.1 = (l.root : Int) ∧ (nd t i).2.2.2.2.2.2.1 = (r.root : Int) ∧ Says t l ∧ Says t r
theorem Says.lt {t : List Nd} : ∀ {T : BT}, Says t T → T.root < t.length
  | .leaf _, h => h.1
  | .node _ _ _, h => h.1
end Go.DI.Th
namespace Go.DI.Th
open Go Go.RowKit Go.DI

theorem firstT_code7 {g : List Nd → Option Nat} {e : Int} : ∀ {ts : List (List Nd)} {i : Nat} {x : Int × Int × Int × Int}, firstT g e ts i = some x → x.1 = e
  | [], _, _, h => by cases h
  | t :: ts, i, x, h => by
    rw [firstT] at h
    split at h
    · cases h; rfl
    · exact firstT_code7 h
theorem checkF_fit {f : Int} {ts : List (List Nd)} (h : (checkF f ts).1 = 0) : fitM f ts ∧ ∀ t ∈ ts, A0 f t = none := by
  unfold checkF at h
  by_cases hf : fitM f ts
  · rw [if_pos hf] at h
    refine ⟨hf, ?_⟩
    unfold checkA at h
    cases h0 : firstT (A0 f) 8 ts 0 with
    | some x =>
      rw [h0] at h
      have := firstT_code7 h0
      have h' : x.1 = 0 := h
      omega
    | none => exact firstT_none h0
  · rw [if_neg hf] at h
    exact absurd h (by decide)
theorem checkF_used {f : Int} {ts : List (List Nd)} (h : (checkF f ts).1 = 0) : usedOk f ts := by
  obtain ⟨⟨f1, f2, f3, f4⟩, h0⟩ := checkF_fit h
  refine ⟨f1, by omega, by omega, fun t ht => ⟨by have := (f4 t ht).2.1; omega, fun n hn hl => ⟨((f4 t ht).2.2 n hn).1, ?_⟩⟩⟩
  obtain ⟨i, hi, rfl⟩ := List.getElem_of_mem hn
  have hb := first_none _ _ (h0 t ht) i (Nat.zero_le _) (by omega)
  have hr : okR f t.length (nd t i) := by
    unfold bad0 at hb
    exact Decidable.byContradiction fun hx => by rw [decide_eq_true hx] at hb; cases hb
  have e : nd t i = t[i] := by
    unfold nd gt
    rw [Int.toNat_natCast, List.getD_eq_getElem?_getD, List.getElem?_eq_getElem hi]
    rfl
  rw [e] at hr
  rcases hr with hr | hr
  · rw [hl] at hr; cases hr
  · exact hr.1
theorem used_ev (f : Int) (ts : List (List Nd)) (hp : ∀ t ∈ ts, ∀ n ∈ t, NdOk n) : Ev (fun k => valid_Used.f k f ts) (if (checkF f ts).1 = 0 then usedL f ts else []) := by
  unfold valid_Used.f
  refine Ev.bind (ok_ev f ts hp) ?_
  by_cases h : (checkF f ts).1 = 0
  · rw [if_pos (c := (checkF f ts).1 = 0) h]
    exact Ev.if_pos (by rw [h]; rfl) (Ev.if_pos (checkF_used h) (Ev.now _))
  · rw [if_neg (c := (checkF f ts).1 = 0) h]
    exact Ev.if_neg (by rw [beq_false_of_ne h]; decide) (Ev.now _)
def asks (x : Int) (n : Nd) : Bool := !n.1 && n.2.1 == x
theorem bump_pos (c : Int → Nat) (g x : Int) : decide (0 < bump c g x) = (decide (0 < c x) || g == x) := by
  unfold bump
  by_cases e : x = g
  · subst e
    rw [if_pos rfl]
    simp
  · rw [if_neg e, beq_false_of_ne (Ne.symm e), Bool.or_false]
theorem cntN_pos (x : Int) : ∀ (t : List Nd) (c : Int → Nat), decide (0 < cntN (t.map fun n => (n.1, n.2.1)) c x) = (decide (0 < c x) || t.any (asks x))
  | [], c => by simp [cntN]
  | n :: t, c => by
    rw [List.map_cons, cntN, cntN_pos x t, List.any_cons]
    unfold asks
    cases hn : n.1 with
    | true => simp
    | false =>
      rw [if_neg (by decide), bump_pos]
      simp [Bool.or_assoc]
theorem cntT_pos (x : Int) : ∀ (ts : List (List Nd)) (c : Int → Nat), decide (0 < cntT (nbs ts) c x) = (decide (0 < c x) || ts.any fun t => t.any (asks x))
  | [], c => by simp [nbs, cntT]
  | t :: ts, c => by
    have e : nbs (t :: ts) = (t.map fun n => (n.1, n.2.1)) :: nbs ts := rfl
    rw [e, cntT, cntT_pos x ts, cntN_pos, List.any_cons, Bool.or_assoc]
theorem usedL_at (f : Int) (ts : List (List Nd)) (i : Nat) (h : (i : Int) < f) : gt false (usedL f ts) (i : Int) = ts.any fun t => t.any (asks (i : Int)) := by
  have hi : i < f.toNat := by omega
  unfold gt usedL
  rw [Int.toNat_natCast, List.getD_eq_getElem?_getD, List.getElem?_map, List.getElem?_range hi]
  show decide (0 < cntT (nbs ts) (fun _ => 0) (i : Int)) = _
  rw [cntT_pos]
  simp
theorem usedlaw_l2 (U : List Bool) (i : Int) (K : Nat) (f : Int) (ts : List (List Nd)) (t : List Nd) (hK : K < ts.length) (ht : ts.getD K [] = t) (hl : t.length ≤ 1000000) (hts : ts.length ≤ 1000000) : ∀ (b a : List Nd) (acc : Bool), t = a ++ b → Ev (fun k => dendronlaw08_ValidUsed.l1 k U i (acc || b.any (asks i)) ((K + 1 : Nat) : Int) f ts) true →
    Ev (fun k => dendronlaw08_ValidUsed.l2 k U i acc (K : Int) (a.length : Int) f ts) true := by
  have gt1 : gt [] ts (K : Int) = t := by unfold gt; rw [Int.toNat_natCast, ht]
  intro b
  induction b with
  | nil =>
    intro a acc h hend
    rw [List.append_nil] at h
    rw [List.any_nil, Bool.or_false] at hend
    refine Ev.succ ?_
    simp only [dendronlaw08_ValidUsed.l2, gt1, wr_succ K (show K ≤ 1125899906842624 by omega)]
    exact Ev.if_pos (nn0 _) (Ev.if_pos (by omega) (Ev.if_neg (by rw [h]; omega) hend))
  | cons n b ih =>
    intro a acc h hend
    have g : gt (false, 0, false, [], [], 0, 0, false, false, [], [], false, [], []) t (a.length : Int) = n := by rw [h]; exact gt_at _ a n b
    have hla : t.length = a.length + (b.length + 1) := by rw [h, List.length_append, List.length_cons]
    have hih := fun acc => ih (a ++ [n]) acc (by rw [h]; simp)
    simp only [List.length_append, List.length_singleton] at hih
    rw [List.any_cons] at hend
    refine Ev.succ ?_
    simp only [dendronlaw08_ValidUsed.l2, gt1, g, wr_succ K (show K ≤ 1125899906842624 by omega), wr_succ a.length (show a.length ≤ 1125899906842624 by omega)]
    refine Ev.if_pos (nn0 _) (Ev.if_pos (by omega) (Ev.if_pos (by omega) ?_))
    cases acc with
    | true => exact Ev.if_pos rfl (hih true (by simpa using hend))
    | false =>
      refine Ev.if_neg (by decide) (Ev.if_pos (nn0 _) ?_)
      by_cases hn : n.1 = true
      · have ha : asks i n = false := by unfold asks; rw [hn]; rfl
        rw [ha, Bool.false_or] at hend
        exact Ev.if_pos hn (hih false hend)
      · have hn' : n.1 = false := by simpa using hn
        have ha : asks i n = (n.2.1 == i) := by unfold asks; rw [hn']; rfl
        rw [ha, Bool.false_or] at hend
        exact Ev.if_neg hn (hih (n.2.1 == i) hend)
theorem usedlaw_l1 (U : List Bool) (i : Int) (h0 : 0 ≤ i) (hU : i < (U.length : Int)) (hi : i ≤ 1000000) (f : Int) (ts : List (List Nd)) (hl : ∀ t ∈ ts, t.length ≤ 1000000) (hts : ts.length ≤ 1000000) (hn : Ev (fun k => dendronlaw08_ValidUsed.l0 k U (i + 1) f ts) true) : ∀ (b a : List (List Nd)) (acc : Bool), ts = a ++ b → gt false U i = (acc || b.any fun t => t.any (asks i)) →
    Ev (fun k => dendronlaw08_ValidUsed.l1 k U i acc (a.length : Int) f ts) true := by
  intro b
  induction b with
  | nil =>
    intro a acc h hg
    rw [List.append_nil] at h
    rw [List.any_nil, Bool.or_false] at hg
    refine Ev.succ ?_
    simp only [dendronlaw08_ValidUsed.l1, hg]
    rw [wrap_id (i := i + 1) (by omega) (by omega)]
    exact Ev.if_neg (by rw [h]; omega) (Ev.if_pos h0 (Ev.if_pos hU (Ev.if_neg (fun e => e rfl) hn)))
  | cons t b ih =>
    intro a acc h hg
    have hla : ts.length = a.length + (b.length + 1) := by rw [h, List.length_append, List.length_cons]
    have hih := ih (a ++ [t]) (acc || t.any (asks i)) (by rw [h]; simp) (by rw [hg, List.any_cons, Bool.or_assoc])
    rw [List.length_append, List.length_singleton] at hih
    refine Ev.succ ?_
    simp only [dendronlaw08_ValidUsed.l1]
    exact Ev.if_pos (by omega) (usedlaw_l2 U i a.length f ts t (by omega) (by rw [h]; simp) (hl t (by rw [h]; simp)) hts t [] acc rfl hih)
theorem usedlaw_l0 (f : Nat) (hf : f ≤ 1000) (ts : List (List Nd)) (hl : ∀ t ∈ ts, t.length ≤ 1000000) (hts : ts.length ≤ 1000000) : ∀ (m i : Nat), i + m = f → Ev (fun k => dendronlaw08_ValidUsed.l0 k (usedL (f : Int) ts) (i : Int) (f : Int) ts) true := by
  have hUl : (usedL (f : Int) ts).length = f := by unfold usedL; simp
  intro m
  induction m with
  | zero =>
    intro i h
    refine Ev.succ ?_
    simp only [dendronlaw08_ValidUsed.l0]
    exact Ev.if_neg (by omega) (Ev.bind awake08_ev (Ev.now _))
  | succ m ih =>
    intro i h
    have hih := ih (i + 1) (by omega)
    refine Ev.succ ?_
    simp only [dendronlaw08_ValidUsed.l0]
    refine Ev.if_pos (by omega) ?_
    refine usedlaw_l1 (usedL (f : Int) ts) (i : Int) (nn0 _) (by omega) (by omega) (f : Int) ts hl hts ?_ ts [] false rfl ?_
    · have e : (i : Int) + 1 = ((i + 1 : Nat) : Int) := by omega
      rw [e]
      exact hih
    · rw [usedL_at _ _ _ (by omega), Bool.false_or]
theorem validUsed_ev (f : Int) (ts : List (List Nd)) (h : ∀ t ∈ ts, ∀ n ∈ t, NdW n) : Ev (fun k => dendronlaw08_ValidUsed.f k f ts) true := by
  unfold dendronlaw08_ValidUsed.f
  refine Ev.bind (few7_ev f ts) ?_
  have hp := few7_nd ts h
  generalize few7 ts = xs at hp
  refine Ev.bind (used_ev f xs hp) (Ev.bind (lcheck_ev f xs hp) ?_)
  by_cases hc : (checkF f xs).1 = 0
  · obtain ⟨⟨f1, f2, f3, f4⟩, _⟩ := checkF_fit hc
    obtain ⟨fn, rfl⟩ : ∃ fn : Nat, f = (fn : Int) := ⟨f.toNat, by omega⟩
    have hUl : (usedL (fn : Int) xs).length = fn := by unfold usedL; simp
    rw [if_pos (c := (checkF (fn : Int) xs).1 = 0) hc]
    refine Ev.if_neg (fun e => e hc) (Ev.if_neg (fun e => e (by rw [hUl])) ?_)
    exact usedlaw_l0 fn (by omega) xs (fun t ht => by have := (f4 t ht).2.1; omega) (by omega) fn 0 (by omega)
  · rw [if_neg (c := (checkF f xs).1 = 0) hc]
    exact Ev.if_pos hc (Ev.if_pos rfl (Ev.bind awake08_ev (Ev.now _)))
end Go.DI.Th
